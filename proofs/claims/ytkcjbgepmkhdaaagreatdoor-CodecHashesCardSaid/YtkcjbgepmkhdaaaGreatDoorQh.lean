/- CodecHashes, from the examples; no condition but these. -/
import Derived.Test.YtkcjbgepmkhdaaaGreatDoorQc
import Derived.Test.YtkcjbgepmkhdaaaGreatDoorQg
import Derived.Test.YtkcjbgepmkhdaaaGreatDoorVC
set_option linter.defProp false
set_option linter.unusedSimpArgs false
set_option linter.unusedVariables false
set_option linter.unnecessarySimpa false
open Go Gh Go.Proofs
namespace Go.Proofs.YtkcjbgepmkhdaaaGreatDoor
set_option maxRecDepth 100000
theorem BL.loads {h : GHeap} {id off m c : Nat} {bs : List Int} (B : BL h (some (id, off)) m c bs) (hm : 0 < m) : gloads h id off m = some (bs.map (GVal.int .u8 ·)) := by
  have hlen := B.len
  have get : ∀ j, j < m → gload h id (off + j) = some (.int .u8 (bs.getD j 0)) := by
    intro j hj
    obtain ⟨id', off', e, hl⟩ := B.cells j (.int .u8 (bs.getD j 0)) (by
      rw [List.getElem?_map, List.getElem?_eq_getElem (by omega), List.getD_eq_getElem?_getD, List.getElem?_eq_getElem (by omega)]; rfl)
    cases e
    exact hl
  have h0 := get 0 hm
  unfold gload at h0
  cases ho : h[id]? with
  | none => rw [ho] at h0; cases h0
  | some ob =>
    cases ob with
    | cells cs mode =>
      have get2 : ∀ j, j < m → cs[off + j]? = some (.int .u8 (bs.getD j 0)) := by
        intro j hj
        have := get j hj
        unfold gload at this
        rw [ho] at this
        exact this
      have hle : off + m ≤ cs.length := by
        have := (List.getElem?_eq_some_iff.1 (get2 (m - 1) (by omega))).1
        omega
      unfold gloads
      rw [ho]
      show (if off + m ≤ cs.length then some ((cs.drop off).take m) else none) = _
      rw [if_pos hle]
      congr 1
      apply List.ext_getElem?
      intro j
      rw [List.getElem?_map]
      by_cases hj : j < m
      · rw [List.getElem?_take_of_lt hj, List.getElem?_drop, get2 j hj, List.getElem?_eq_getElem (by omega), List.getD_eq_getElem?_getD, List.getElem?_eq_getElem (by omega)]; rfl
      · rw [List.getElem?_eq_none (by simp; omega), List.getElem?_eq_none (by omega)]; rfl
    | _ => rw [ho] at h0; cases h0
theorem own18 {a : Option (Nat × Nat)} {m c : Nat} {o : Option Nat} {h : GHeap} {bs : List Int} (B : BL h a m c bs) :
    CallsG Tryz.prog gl1 18 [.slice a m c o] h fun r h' => ∃ a' c' o', r = .slice a' m c' o' ∧ BL h' a' m c' bs ∧ (o' = none ∨ o' = some 1) ∧ (∀ id off, a' = some (id, off) → id < h'.length) ∧ h.length ≤ h'.length ∧ ∀ i, i < h.length → h'[i]? = h[i]? := by
  have hlen := B.len; have hm := B.few; have hmc := B.le
  refine pt_call (c := bodyOf Tryz.f18) hD (fn := Tryz.f18) rfl rfl ?_; refine cast (Eq.symm (b18 ..)) ?_
  repeat' first
                        | with_reducible refine And.intro (@rfl Go.IntKind _) ?_
                        | with_reducible refine oget_gInt (gload_at (by first | assumption | exact at_new | exact at_append (by assumption) | exact at_set (by assumption) | exact at_append (at_append (by assumption)) | exact at_set (at_set (by assumption)) | exact at_set (at_append (by assumption)) | exact at_set (at_set (at_append (by assumption))) | exact at_set (at_set (at_set (by assumption))) | exact at_set_ne (by assumption) (by assumption)) (by with_unfolding_all rfl)) ?_
                        | with_reducible refine oget_gSlice (gload_at (by first | assumption | exact at_new | exact at_append (by assumption) | exact at_set (by assumption) | exact at_append (at_append (by assumption)) | exact at_set (at_set (by assumption)) | exact at_set (at_append (by assumption)) | exact at_set (at_set (at_append (by assumption))) | exact at_set (at_set (at_set (by assumption))) | exact at_set_ne (by assumption) (by assumption)) (by with_unfolding_all rfl)) ?_
                        | with_reducible refine oget_gMap (gload_at (by first | assumption | exact at_new | exact at_append (by assumption) | exact at_set (by assumption) | exact at_append (at_append (by assumption)) | exact at_set (at_set (by assumption)) | exact at_set (at_append (by assumption)) | exact at_set (at_set (at_append (by assumption))) | exact at_set (at_set (at_set (by assumption))) | exact at_set_ne (by assumption) (by assumption)) (by with_unfolding_all rfl)) ?_
                        | with_reducible refine oget_gBool (gload_at (by first | assumption | exact at_new | exact at_append (by assumption) | exact at_set (by assumption) | exact at_append (at_append (by assumption)) | exact at_set (at_set (by assumption)) | exact at_set (at_append (by assumption)) | exact at_set (at_set (at_append (by assumption))) | exact at_set (at_set (at_set (by assumption))) | exact at_set_ne (by assumption) (by assumption)) (by with_unfolding_all rfl)) ?_
                        | with_reducible refine oget_gPtr (gload_at (by first | assumption | exact at_new | exact at_append (by assumption) | exact at_set (by assumption) | exact at_append (at_append (by assumption)) | exact at_set (at_set (by assumption)) | exact at_set (at_append (by assumption)) | exact at_set (at_set (at_append (by assumption))) | exact at_set (at_set (at_set (by assumption))) | exact at_set_ne (by assumption) (by assumption)) (by with_unfolding_all rfl)) ?_
                        | with_reducible refine gCons_of ?_
                        | with_reducible refine gInt_of ?_
                        | with_reducible refine gBool_of ?_
                        | with_reducible refine gNil_of ?_
                        | with_reducible refine gTup_of ?_
                        | with_reducible refine vsplit_iff.2 ?_
                        | with_reducible refine gAgg_of ?_
                        | with_reducible refine oget_of (gstore_at1 (by first | assumption | exact at_new | exact at_append (by assumption) | exact at_set (by assumption) | exact at_append (at_append (by assumption)) | exact at_set (at_set (by assumption)) | exact at_set (at_append (by assumption)) | exact at_set (at_set (at_append (by assumption))) | exact at_set (at_set (at_set (by assumption))) | exact at_set_ne (by assumption) (by assumption)) (by decide) (by simp) (by with_unfolding_all rfl)) ?_
                        | with_reducible refine bsplit_of (fun hb => ?_) (fun hb => ?_) <;> try simp only [beq_iff_eq, beq_eq_false_iff_ne, ne_eq, bne_iff_ne, bne_eq_false_iff_eq, decide_eq_true_eq, decide_eq_false_iff_not, Int.not_lt, Int.not_le, ge_iff_le, gt_iff_lt] at hb
                        | with_reducible refine cast (Eq.symm (w18_0_0  ..)) ?_
                        | with_reducible refine cast (Eq.symm (w18_1_0  ..)) ?_
                        | with_reducible refine cast (Eq.symm (a18_0 ..)) ?_
                        | with_reducible refine cast (Eq.symm (a18_1 ..)) ?_
                        | with_reducible refine res_nil (by with_unfolding_all rfl) ?_
                        | with_reducible refine res_one (by with_unfolding_all rfl) (by with_unfolding_all rfl) ?_
                        | with_reducible refine res_two (by with_unfolding_all rfl) (by with_unfolding_all rfl) (by with_unfolding_all rfl) ?_
                        | rw [lget_s]
                        | rw [lget_z]
  by_cases h0 : m = 0
  · subst h0
    have e : gappend h 1 1 (.slice none 0 0 none) (.slice a 0 c o) = some (.slice none 0 0 none, h) := by
      unfold gappend glenOf; simp
    refine oget_pair e (gSlice_of ?_)
    repeat' first
                        | with_reducible refine And.intro (@rfl Go.IntKind _) ?_
                        | with_reducible refine oget_gInt (gload_at (by first | assumption | exact at_new | exact at_append (by assumption) | exact at_set (by assumption) | exact at_append (at_append (by assumption)) | exact at_set (at_set (by assumption)) | exact at_set (at_append (by assumption)) | exact at_set (at_set (at_append (by assumption))) | exact at_set (at_set (at_set (by assumption))) | exact at_set_ne (by assumption) (by assumption)) (by with_unfolding_all rfl)) ?_
                        | with_reducible refine oget_gSlice (gload_at (by first | assumption | exact at_new | exact at_append (by assumption) | exact at_set (by assumption) | exact at_append (at_append (by assumption)) | exact at_set (at_set (by assumption)) | exact at_set (at_append (by assumption)) | exact at_set (at_set (at_append (by assumption))) | exact at_set (at_set (at_set (by assumption))) | exact at_set_ne (by assumption) (by assumption)) (by with_unfolding_all rfl)) ?_
                        | with_reducible refine oget_gMap (gload_at (by first | assumption | exact at_new | exact at_append (by assumption) | exact at_set (by assumption) | exact at_append (at_append (by assumption)) | exact at_set (at_set (by assumption)) | exact at_set (at_append (by assumption)) | exact at_set (at_set (at_append (by assumption))) | exact at_set (at_set (at_set (by assumption))) | exact at_set_ne (by assumption) (by assumption)) (by with_unfolding_all rfl)) ?_
                        | with_reducible refine oget_gBool (gload_at (by first | assumption | exact at_new | exact at_append (by assumption) | exact at_set (by assumption) | exact at_append (at_append (by assumption)) | exact at_set (at_set (by assumption)) | exact at_set (at_append (by assumption)) | exact at_set (at_set (at_append (by assumption))) | exact at_set (at_set (at_set (by assumption))) | exact at_set_ne (by assumption) (by assumption)) (by with_unfolding_all rfl)) ?_
                        | with_reducible refine oget_gPtr (gload_at (by first | assumption | exact at_new | exact at_append (by assumption) | exact at_set (by assumption) | exact at_append (at_append (by assumption)) | exact at_set (at_set (by assumption)) | exact at_set (at_append (by assumption)) | exact at_set (at_set (at_append (by assumption))) | exact at_set (at_set (at_set (by assumption))) | exact at_set_ne (by assumption) (by assumption)) (by with_unfolding_all rfl)) ?_
                        | with_reducible refine gCons_of ?_
                        | with_reducible refine gInt_of ?_
                        | with_reducible refine gBool_of ?_
                        | with_reducible refine gNil_of ?_
                        | with_reducible refine gTup_of ?_
                        | with_reducible refine vsplit_iff.2 ?_
                        | with_reducible refine gAgg_of ?_
                        | with_reducible refine oget_of (gstore_at1 (by first | assumption | exact at_new | exact at_append (by assumption) | exact at_set (by assumption) | exact at_append (at_append (by assumption)) | exact at_set (at_set (by assumption)) | exact at_set (at_append (by assumption)) | exact at_set (at_set (at_append (by assumption))) | exact at_set (at_set (at_set (by assumption))) | exact at_set_ne (by assumption) (by assumption)) (by decide) (by simp) (by with_unfolding_all rfl)) ?_
                        | with_reducible refine bsplit_of (fun hb => ?_) (fun hb => ?_) <;> try simp only [beq_iff_eq, beq_eq_false_iff_ne, ne_eq, bne_iff_ne, bne_eq_false_iff_eq, decide_eq_true_eq, decide_eq_false_iff_not, Int.not_lt, Int.not_le, ge_iff_le, gt_iff_lt] at hb
                        | with_reducible refine cast (Eq.symm (w18_0_0  ..)) ?_
                        | with_reducible refine cast (Eq.symm (w18_1_0  ..)) ?_
                        | with_reducible refine cast (Eq.symm (a18_0 ..)) ?_
                        | with_reducible refine cast (Eq.symm (a18_1 ..)) ?_
                        | with_reducible refine res_nil (by with_unfolding_all rfl) ?_
                        | with_reducible refine res_one (by with_unfolding_all rfl) (by with_unfolding_all rfl) ?_
                        | with_reducible refine res_two (by with_unfolding_all rfl) (by with_unfolding_all rfl) (by with_unfolding_all rfl) ?_
                        | rw [lget_s]
                        | rw [lget_z]
    exact ⟨none, 0, none, rfl, ⟨hlen, Nat.le_refl _, by omega, by
      have : bs = [] := List.eq_nil_of_length_eq_zero hlen
      subst this
      exact Cells.nil, B.low⟩, .inl rfl, fun _ _ e => (by cases e), Nat.le_refl _, fun _ _ => rfl⟩
  · have hm0 : 0 < m := by omega
    have ha : ∃ id off, a = some (id, off) := by
      obtain ⟨id, off, e, _⟩ := B.cells 0 (.int .u8 (bs.getD 0 0)) (by
        rw [List.getElem?_map, List.getElem?_eq_getElem (by omega), List.getD_eq_getElem?_getD, List.getElem?_eq_getElem (by omega)]; rfl)
      exact ⟨id, off, e⟩
    obtain ⟨id, off, rfl⟩ := ha
    have e : gappend h 1 1 (.slice none 0 0 none) (.slice (some (id, off)) m c o) = some (.slice (some (h.length, 0)) m m (some 1), h ++ [.cells (bs.map (GVal.int .u8 ·)) .rw]) := by
      have hs : gsrc h 1 m (.slice (some (id, off)) m c o) = some (bs.map (GVal.int .u8 ·)) := by
        show (if m * 1 = 0 then some [] else if 0 < c then gloads h id off (m * 1) else none) = _
        rw [if_neg (by omega), if_pos (by omega), Nat.mul_one, B.loads hm0]
      unfold gappend
      show (if m = 0 ∧ 0 ≤ 0 then _ else match gsrc h 1 m (.slice (some (id, off)) m c o) with
        | none => none
        | some new => _) = _
      rw [if_neg (by omega), hs]
      simp only
      rw [if_neg (by omega), if_pos (by omega)]
      simp [gsrc]
    refine oget_pair e (gSlice_of ?_)
    repeat' first
                        | with_reducible refine And.intro (@rfl Go.IntKind _) ?_
                        | with_reducible refine oget_gInt (gload_at (by first | assumption | exact at_new | exact at_append (by assumption) | exact at_set (by assumption) | exact at_append (at_append (by assumption)) | exact at_set (at_set (by assumption)) | exact at_set (at_append (by assumption)) | exact at_set (at_set (at_append (by assumption))) | exact at_set (at_set (at_set (by assumption))) | exact at_set_ne (by assumption) (by assumption)) (by with_unfolding_all rfl)) ?_
                        | with_reducible refine oget_gSlice (gload_at (by first | assumption | exact at_new | exact at_append (by assumption) | exact at_set (by assumption) | exact at_append (at_append (by assumption)) | exact at_set (at_set (by assumption)) | exact at_set (at_append (by assumption)) | exact at_set (at_set (at_append (by assumption))) | exact at_set (at_set (at_set (by assumption))) | exact at_set_ne (by assumption) (by assumption)) (by with_unfolding_all rfl)) ?_
                        | with_reducible refine oget_gMap (gload_at (by first | assumption | exact at_new | exact at_append (by assumption) | exact at_set (by assumption) | exact at_append (at_append (by assumption)) | exact at_set (at_set (by assumption)) | exact at_set (at_append (by assumption)) | exact at_set (at_set (at_append (by assumption))) | exact at_set (at_set (at_set (by assumption))) | exact at_set_ne (by assumption) (by assumption)) (by with_unfolding_all rfl)) ?_
                        | with_reducible refine oget_gBool (gload_at (by first | assumption | exact at_new | exact at_append (by assumption) | exact at_set (by assumption) | exact at_append (at_append (by assumption)) | exact at_set (at_set (by assumption)) | exact at_set (at_append (by assumption)) | exact at_set (at_set (at_append (by assumption))) | exact at_set (at_set (at_set (by assumption))) | exact at_set_ne (by assumption) (by assumption)) (by with_unfolding_all rfl)) ?_
                        | with_reducible refine oget_gPtr (gload_at (by first | assumption | exact at_new | exact at_append (by assumption) | exact at_set (by assumption) | exact at_append (at_append (by assumption)) | exact at_set (at_set (by assumption)) | exact at_set (at_append (by assumption)) | exact at_set (at_set (at_append (by assumption))) | exact at_set (at_set (at_set (by assumption))) | exact at_set_ne (by assumption) (by assumption)) (by with_unfolding_all rfl)) ?_
                        | with_reducible refine gCons_of ?_
                        | with_reducible refine gInt_of ?_
                        | with_reducible refine gBool_of ?_
                        | with_reducible refine gNil_of ?_
                        | with_reducible refine gTup_of ?_
                        | with_reducible refine vsplit_iff.2 ?_
                        | with_reducible refine gAgg_of ?_
                        | with_reducible refine oget_of (gstore_at1 (by first | assumption | exact at_new | exact at_append (by assumption) | exact at_set (by assumption) | exact at_append (at_append (by assumption)) | exact at_set (at_set (by assumption)) | exact at_set (at_append (by assumption)) | exact at_set (at_set (at_append (by assumption))) | exact at_set (at_set (at_set (by assumption))) | exact at_set_ne (by assumption) (by assumption)) (by decide) (by simp) (by with_unfolding_all rfl)) ?_
                        | with_reducible refine bsplit_of (fun hb => ?_) (fun hb => ?_) <;> try simp only [beq_iff_eq, beq_eq_false_iff_ne, ne_eq, bne_iff_ne, bne_eq_false_iff_eq, decide_eq_true_eq, decide_eq_false_iff_not, Int.not_lt, Int.not_le, ge_iff_le, gt_iff_lt] at hb
                        | with_reducible refine cast (Eq.symm (w18_0_0  ..)) ?_
                        | with_reducible refine cast (Eq.symm (w18_1_0  ..)) ?_
                        | with_reducible refine cast (Eq.symm (a18_0 ..)) ?_
                        | with_reducible refine cast (Eq.symm (a18_1 ..)) ?_
                        | with_reducible refine res_nil (by with_unfolding_all rfl) ?_
                        | with_reducible refine res_one (by with_unfolding_all rfl) (by with_unfolding_all rfl) ?_
                        | with_reducible refine res_two (by with_unfolding_all rfl) (by with_unfolding_all rfl) (by with_unfolding_all rfl) ?_
                        | rw [lget_s]
                        | rw [lget_z]
    refine ⟨some (h.length, 0), m, some 1, rfl, ⟨hlen, Nat.le_refl _, hm, Cells.new, B.low⟩, .inr rfl, fun i f e => by cases e; simp, by simp, fun i hi => List.getElem?_append_left hi⟩
theorem BL.grown {h g : GHeap} {a : Option (Nat × Nat)} {m c : Nat} {bs : List Int} (B : BL h a m c bs) (hs : ∀ i, i < h.length → g[i]? = h[i]?) : BL g a m c bs := by
  refine ⟨B.len, B.le, B.few, fun j v hj => ?_, B.low⟩
  obtain ⟨id, off, e, hl⟩ := B.cells j v hj
  refine ⟨id, off, e, ?_⟩
  have hlt : id < h.length := by
    unfold gload at hl
    cases ho : h[id]? with
    | none => rw [ho] at hl; cases hl
    | some o => exact lt_of_at ho
  unfold gload at hl ⊢
  rw [hs id hlt]; exact hl
set_option maxHeartbeats 1000000 in
theorem law8 (hA : ∀ h, (∀ (i : Nat) (o : GObj), h00[i]? = some o → h[i]? = some o) → CallsG Tryz.prog gl1 9 [] h fun r h' => r = .bool true ∧ h' = h)
    {a : Option (Nat × Nat)} {m c : Nat} {h : GHeap} {bs : List Int} (hlen : bs.length = m) (hmc : m ≤ c) (hC : Cells h a (bs.map (GVal.int .u8 ·))) (hlow : ∀ x ∈ bs, 0 ≤ x ∧ x ≤ 255)
    (hpre : ∀ (i : Nat) (o : GObj), h00[i]? = some o → h[i]? = some o) (seed : Int) :
    CallsG Tryz.prog gl1 8 [.slice a m c none, .int .u64 seed] h fun r h' => r = .bool true := by
  refine pt_call (c := bodyOf Tryz.f8) hD (fn := Tryz.f8) rfl rfl ?_; refine cast (Eq.symm (b8 ..)) ?_
  repeat' first
                        | with_reducible refine And.intro (@rfl Go.IntKind _) ?_
                        | with_reducible refine oget_gInt (gload_at (by first | assumption | exact at_new | exact at_append (by assumption) | exact at_set (by assumption) | exact at_append (at_append (by assumption)) | exact at_set (at_set (by assumption)) | exact at_set (at_append (by assumption)) | exact at_set (at_set (at_append (by assumption))) | exact at_set (at_set (at_set (by assumption))) | exact at_set_ne (by assumption) (by assumption)) (by with_unfolding_all rfl)) ?_
                        | with_reducible refine oget_gSlice (gload_at (by first | assumption | exact at_new | exact at_append (by assumption) | exact at_set (by assumption) | exact at_append (at_append (by assumption)) | exact at_set (at_set (by assumption)) | exact at_set (at_append (by assumption)) | exact at_set (at_set (at_append (by assumption))) | exact at_set (at_set (at_set (by assumption))) | exact at_set_ne (by assumption) (by assumption)) (by with_unfolding_all rfl)) ?_
                        | with_reducible refine oget_gMap (gload_at (by first | assumption | exact at_new | exact at_append (by assumption) | exact at_set (by assumption) | exact at_append (at_append (by assumption)) | exact at_set (at_set (by assumption)) | exact at_set (at_append (by assumption)) | exact at_set (at_set (at_append (by assumption))) | exact at_set (at_set (at_set (by assumption))) | exact at_set_ne (by assumption) (by assumption)) (by with_unfolding_all rfl)) ?_
                        | with_reducible refine oget_gBool (gload_at (by first | assumption | exact at_new | exact at_append (by assumption) | exact at_set (by assumption) | exact at_append (at_append (by assumption)) | exact at_set (at_set (by assumption)) | exact at_set (at_append (by assumption)) | exact at_set (at_set (at_append (by assumption))) | exact at_set (at_set (at_set (by assumption))) | exact at_set_ne (by assumption) (by assumption)) (by with_unfolding_all rfl)) ?_
                        | with_reducible refine oget_gPtr (gload_at (by first | assumption | exact at_new | exact at_append (by assumption) | exact at_set (by assumption) | exact at_append (at_append (by assumption)) | exact at_set (at_set (by assumption)) | exact at_set (at_append (by assumption)) | exact at_set (at_set (at_append (by assumption))) | exact at_set (at_set (at_set (by assumption))) | exact at_set_ne (by assumption) (by assumption)) (by with_unfolding_all rfl)) ?_
                        | with_reducible refine gCons_of ?_
                        | with_reducible refine gInt_of ?_
                        | with_reducible refine gBool_of ?_
                        | with_reducible refine gNil_of ?_
                        | with_reducible refine gTup_of ?_
                        | with_reducible refine vsplit_iff.2 ?_
                        | with_reducible refine gAgg_of ?_
                        | with_reducible refine oget_of (gstore_at1 (by first | assumption | exact at_new | exact at_append (by assumption) | exact at_set (by assumption) | exact at_append (at_append (by assumption)) | exact at_set (at_set (by assumption)) | exact at_set (at_append (by assumption)) | exact at_set (at_set (at_append (by assumption))) | exact at_set (at_set (at_set (by assumption))) | exact at_set_ne (by assumption) (by assumption)) (by decide) (by simp) (by with_unfolding_all rfl)) ?_
                        | with_reducible refine bsplit_of (fun hb => ?_) (fun hb => ?_) <;> try simp only [beq_iff_eq, beq_eq_false_iff_ne, ne_eq, bne_iff_ne, bne_eq_false_iff_eq, decide_eq_true_eq, decide_eq_false_iff_not, Int.not_lt, Int.not_le, ge_iff_le, gt_iff_lt] at hb
                        | with_reducible refine cast (Eq.symm (w8_0_0  ..)) ?_
                        | with_reducible refine cast (Eq.symm (w8_1_0 (h7_0 := by with_unfolding_all rfl) ..)) ?_
                        | with_reducible refine cast (Eq.symm (w8_1_1 (h7_0 := by with_unfolding_all rfl) ..)) ?_
                        | with_reducible refine cast (Eq.symm (w8_2_0  ..)) ?_
                        | with_reducible refine cast (Eq.symm (w8_3_0  ..)) ?_
                        | with_reducible refine cast (Eq.symm (a8_0 ..)) ?_
                        | with_reducible refine cast (Eq.symm (a8_1 ..)) ?_
                        | with_reducible refine res_nil (by with_unfolding_all rfl) ?_
                        | with_reducible refine res_one (by with_unfolding_all rfl) (by with_unfolding_all rfl) ?_
                        | with_reducible refine res_two (by with_unfolding_all rfl) (by with_unfolding_all rfl) (by with_unfolding_all rfl) ?_
                        | rw [lget_s]
                        | rw [lget_z]
  · refine cast (Eq.symm (a8_2 ..)) ?_
    refine (hA h hpre).mono ?_
    rintro _ _ ⟨rfl, rfl⟩
    refine gBool_of (bsplit_of (fun hb => ?_) (fun hb => absurd hb (by decide)))
    repeat' first
                        | with_reducible refine And.intro (@rfl Go.IntKind _) ?_
                        | with_reducible refine oget_gInt (gload_at (by first | assumption | exact at_new | exact at_append (by assumption) | exact at_set (by assumption) | exact at_append (at_append (by assumption)) | exact at_set (at_set (by assumption)) | exact at_set (at_append (by assumption)) | exact at_set (at_set (at_append (by assumption))) | exact at_set (at_set (at_set (by assumption))) | exact at_set_ne (by assumption) (by assumption)) (by with_unfolding_all rfl)) ?_
                        | with_reducible refine oget_gSlice (gload_at (by first | assumption | exact at_new | exact at_append (by assumption) | exact at_set (by assumption) | exact at_append (at_append (by assumption)) | exact at_set (at_set (by assumption)) | exact at_set (at_append (by assumption)) | exact at_set (at_set (at_append (by assumption))) | exact at_set (at_set (at_set (by assumption))) | exact at_set_ne (by assumption) (by assumption)) (by with_unfolding_all rfl)) ?_
                        | with_reducible refine oget_gMap (gload_at (by first | assumption | exact at_new | exact at_append (by assumption) | exact at_set (by assumption) | exact at_append (at_append (by assumption)) | exact at_set (at_set (by assumption)) | exact at_set (at_append (by assumption)) | exact at_set (at_set (at_append (by assumption))) | exact at_set (at_set (at_set (by assumption))) | exact at_set_ne (by assumption) (by assumption)) (by with_unfolding_all rfl)) ?_
                        | with_reducible refine oget_gBool (gload_at (by first | assumption | exact at_new | exact at_append (by assumption) | exact at_set (by assumption) | exact at_append (at_append (by assumption)) | exact at_set (at_set (by assumption)) | exact at_set (at_append (by assumption)) | exact at_set (at_set (at_append (by assumption))) | exact at_set (at_set (at_set (by assumption))) | exact at_set_ne (by assumption) (by assumption)) (by with_unfolding_all rfl)) ?_
                        | with_reducible refine oget_gPtr (gload_at (by first | assumption | exact at_new | exact at_append (by assumption) | exact at_set (by assumption) | exact at_append (at_append (by assumption)) | exact at_set (at_set (by assumption)) | exact at_set (at_append (by assumption)) | exact at_set (at_set (at_append (by assumption))) | exact at_set (at_set (at_set (by assumption))) | exact at_set_ne (by assumption) (by assumption)) (by with_unfolding_all rfl)) ?_
                        | with_reducible refine gCons_of ?_
                        | with_reducible refine gInt_of ?_
                        | with_reducible refine gBool_of ?_
                        | with_reducible refine gNil_of ?_
                        | with_reducible refine gTup_of ?_
                        | with_reducible refine vsplit_iff.2 ?_
                        | with_reducible refine gAgg_of ?_
                        | with_reducible refine oget_of (gstore_at1 (by first | assumption | exact at_new | exact at_append (by assumption) | exact at_set (by assumption) | exact at_append (at_append (by assumption)) | exact at_set (at_set (by assumption)) | exact at_set (at_append (by assumption)) | exact at_set (at_set (at_append (by assumption))) | exact at_set (at_set (at_set (by assumption))) | exact at_set_ne (by assumption) (by assumption)) (by decide) (by simp) (by with_unfolding_all rfl)) ?_
                        | with_reducible refine bsplit_of (fun hb => ?_) (fun hb => ?_) <;> try simp only [beq_iff_eq, beq_eq_false_iff_ne, ne_eq, bne_iff_ne, bne_eq_false_iff_eq, decide_eq_true_eq, decide_eq_false_iff_not, Int.not_lt, Int.not_le, ge_iff_le, gt_iff_lt] at hb
                        | with_reducible refine cast (Eq.symm (w8_0_0  ..)) ?_
                        | with_reducible refine cast (Eq.symm (w8_1_0 (h7_0 := by with_unfolding_all rfl) ..)) ?_
                        | with_reducible refine cast (Eq.symm (w8_1_1 (h7_0 := by with_unfolding_all rfl) ..)) ?_
                        | with_reducible refine cast (Eq.symm (w8_2_0  ..)) ?_
                        | with_reducible refine cast (Eq.symm (w8_3_0  ..)) ?_
                        | with_reducible refine cast (Eq.symm (a8_0 ..)) ?_
                        | with_reducible refine cast (Eq.symm (a8_1 ..)) ?_
                        | with_reducible refine cast (Eq.symm (a8_2 ..)) ?_
                        | with_reducible refine cast (Eq.symm (a8_3 ..)) ?_
                        | with_reducible refine res_nil (by with_unfolding_all rfl) ?_
                        | with_reducible refine res_one (by with_unfolding_all rfl) (by with_unfolding_all rfl) ?_
                        | with_reducible refine res_two (by with_unfolding_all rfl) (by with_unfolding_all rfl) (by with_unfolding_all rfl) ?_
                        | rw [lget_s]
                        | rw [lget_z]
  · have B : BL h a m c bs := ⟨hlen, hmc, by omega, hC, hlow⟩
    refine cast (Eq.symm (a8_3 ..)) ?_
    refine (own18 B).mono ?_
    rintro _ h1 ⟨a1, c1, o1, rfl, B1, ho1, hi1, hl1, hs1⟩
    refine gSlice_of ?_
    refine (sum33 B1).mono ?_
    rintro _ _ ⟨rfl, rfl⟩
    refine gInt_of ?_
    rename_i h1
    refine (sum34 (B.grown hs1)).mono ?_
    rintro _ _ ⟨rfl, rfl⟩
    refine gInt_of (And.intro rfl (bsplit_of (fun hb => ?_) (fun hb => absurd hb (by simp))))
    rename_i h1
    refine (own18 (B.grown hs1)).mono ?_
    rintro _ h2 ⟨a2, c2, o2, rfl, B2, ho2, hi2, hl2, hs2⟩
    have hs2' : ∀ i, i < h.length → h2[i]? = h[i]? := fun i hi => (hs2 i (by omega)).trans (hs1 i hi)
    refine gSlice_of ?_
    refine (poly30 B2).mono ?_
    rintro _ _ ⟨rfl, rfl⟩
    refine gInt_of ?_
    rename_i h2
    refine (poly35 (B.grown hs2')).mono ?_
    rintro _ _ ⟨rfl, rfl⟩
    refine gInt_of (And.intro rfl (bsplit_of (fun hb => ?_) (fun hb => absurd hb (by simp))))
    rename_i h2
    refine (own18 (B.grown hs2')).mono ?_
    rintro _ h3 ⟨a3, c3, o3, rfl, B3, ho3, hi3, hl3, hs3⟩
    have hs3' : ∀ i, i < h.length → h3[i]? = h[i]? := fun i hi => (hs3 i (by omega)).trans (hs2' i hi)
    refine gSlice_of ?_
    refine (mix36 B3 ho3 hi3 (pre_of hpre hs3') seed).mono ?_
    rintro _ _ ⟨rfl, rfl⟩
    refine gInt_of ?_
    rename_i h3
    refine (mix37 (B.grown hs3') seed).mono ?_
    rintro _ _ ⟨rfl, rfl⟩
    refine gInt_of (And.intro rfl (bsplit_of (fun hb => ?_) (fun hb => absurd hb (by simp))))
    rename_i h3
    refine (hA h3 (pre_of hpre hs3')).mono ?_
    rintro _ _ ⟨rfl, rfl⟩
    refine gBool_of (bsplit_of (fun hb => ?_) (fun hb => absurd hb (by decide)))
    repeat' first
                        | with_reducible refine And.intro (@rfl Go.IntKind _) ?_
                        | with_reducible refine oget_gInt (gload_at (by first | assumption | exact at_new | exact at_append (by assumption) | exact at_set (by assumption) | exact at_append (at_append (by assumption)) | exact at_set (at_set (by assumption)) | exact at_set (at_append (by assumption)) | exact at_set (at_set (at_append (by assumption))) | exact at_set (at_set (at_set (by assumption))) | exact at_set_ne (by assumption) (by assumption)) (by with_unfolding_all rfl)) ?_
                        | with_reducible refine oget_gSlice (gload_at (by first | assumption | exact at_new | exact at_append (by assumption) | exact at_set (by assumption) | exact at_append (at_append (by assumption)) | exact at_set (at_set (by assumption)) | exact at_set (at_append (by assumption)) | exact at_set (at_set (at_append (by assumption))) | exact at_set (at_set (at_set (by assumption))) | exact at_set_ne (by assumption) (by assumption)) (by with_unfolding_all rfl)) ?_
                        | with_reducible refine oget_gMap (gload_at (by first | assumption | exact at_new | exact at_append (by assumption) | exact at_set (by assumption) | exact at_append (at_append (by assumption)) | exact at_set (at_set (by assumption)) | exact at_set (at_append (by assumption)) | exact at_set (at_set (at_append (by assumption))) | exact at_set (at_set (at_set (by assumption))) | exact at_set_ne (by assumption) (by assumption)) (by with_unfolding_all rfl)) ?_
                        | with_reducible refine oget_gBool (gload_at (by first | assumption | exact at_new | exact at_append (by assumption) | exact at_set (by assumption) | exact at_append (at_append (by assumption)) | exact at_set (at_set (by assumption)) | exact at_set (at_append (by assumption)) | exact at_set (at_set (at_append (by assumption))) | exact at_set (at_set (at_set (by assumption))) | exact at_set_ne (by assumption) (by assumption)) (by with_unfolding_all rfl)) ?_
                        | with_reducible refine oget_gPtr (gload_at (by first | assumption | exact at_new | exact at_append (by assumption) | exact at_set (by assumption) | exact at_append (at_append (by assumption)) | exact at_set (at_set (by assumption)) | exact at_set (at_append (by assumption)) | exact at_set (at_set (at_append (by assumption))) | exact at_set (at_set (at_set (by assumption))) | exact at_set_ne (by assumption) (by assumption)) (by with_unfolding_all rfl)) ?_
                        | with_reducible refine gCons_of ?_
                        | with_reducible refine gInt_of ?_
                        | with_reducible refine gBool_of ?_
                        | with_reducible refine gNil_of ?_
                        | with_reducible refine gTup_of ?_
                        | with_reducible refine vsplit_iff.2 ?_
                        | with_reducible refine gAgg_of ?_
                        | with_reducible refine oget_of (gstore_at1 (by first | assumption | exact at_new | exact at_append (by assumption) | exact at_set (by assumption) | exact at_append (at_append (by assumption)) | exact at_set (at_set (by assumption)) | exact at_set (at_append (by assumption)) | exact at_set (at_set (at_append (by assumption))) | exact at_set (at_set (at_set (by assumption))) | exact at_set_ne (by assumption) (by assumption)) (by decide) (by simp) (by with_unfolding_all rfl)) ?_
                        | with_reducible refine bsplit_of (fun hb => ?_) (fun hb => ?_) <;> try simp only [beq_iff_eq, beq_eq_false_iff_ne, ne_eq, bne_iff_ne, bne_eq_false_iff_eq, decide_eq_true_eq, decide_eq_false_iff_not, Int.not_lt, Int.not_le, ge_iff_le, gt_iff_lt] at hb
                        | with_reducible refine cast (Eq.symm (w8_0_0  ..)) ?_
                        | with_reducible refine cast (Eq.symm (w8_1_0 (h7_0 := by with_unfolding_all rfl) ..)) ?_
                        | with_reducible refine cast (Eq.symm (w8_1_1 (h7_0 := by with_unfolding_all rfl) ..)) ?_
                        | with_reducible refine cast (Eq.symm (w8_2_0  ..)) ?_
                        | with_reducible refine cast (Eq.symm (w8_3_0  ..)) ?_
                        | with_reducible refine cast (Eq.symm (a8_0 ..)) ?_
                        | with_reducible refine cast (Eq.symm (a8_1 ..)) ?_
                        | with_reducible refine cast (Eq.symm (a8_2 ..)) ?_
                        | with_reducible refine cast (Eq.symm (a8_3 ..)) ?_
                        | with_reducible refine res_nil (by with_unfolding_all rfl) ?_
                        | with_reducible refine res_one (by with_unfolding_all rfl) (by with_unfolding_all rfl) ?_
                        | with_reducible refine res_two (by with_unfolding_all rfl) (by with_unfolding_all rfl) (by with_unfolding_all rfl) ?_
                        | rw [lget_s]
                        | rw [lget_z]
end Go.Proofs.YtkcjbgepmkhdaaaGreatDoor
