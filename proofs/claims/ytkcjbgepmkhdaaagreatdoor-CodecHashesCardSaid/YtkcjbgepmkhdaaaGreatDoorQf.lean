/- Mix, the program's: what it hands back; no condition. -/
import Derived.Test.YtkcjbgepmkhdaaaGreatDoorQe
set_option linter.defProp false
set_option linter.unusedSimpArgs false
set_option linter.unusedVariables false
set_option linter.unnecessarySimpa false
open Go Gh Go.Proofs
namespace Go.Proofs.YtkcjbgepmkhdaaaGreatDoor
set_option maxRecDepth 100000
theorem sub_nil (c : Code) : sub c [] = c := by unfold sub; rfl
noncomputable abbrev rf36 : Code := sub (bodyOf Tryz.f36) [1, 1, 0, 1, 0]
theorem as36 : rfAs rf36 = .region 3 (regOps (sub (rfAs rf36) [])) false := by
  have := s36a_0; rwa [sub_nil] at this
theorem as36' (l : Nat) (K : Kont Prop) (t : List GVal) (h : GHeap) : gcode Tryz.prog gl1 (algS Tryz.prog gl1) (some l) (rfAs rf36) K t h = gops (algS Tryz.prog gl1) Tryz.prog gl1 (regOps (sub (rfAs rf36) [])) (regOps (sub (rfAs rf36) [])).toList t h K.nrm := by
  conv => lhs; rw [as36]
  rfl
theorem subK_nil {P : Program} {gl cur : Nat → Option Nat} {cu : Option Nat} {c : Code} {Ns : List (List GVal → GHeap → Prop)} {K : Kont Prop} : subK P gl cu c [] Ns K = K := by unfold subK; rfl
theorem bd36 (l : Nat) (Q : GVal → GHeap → Prop) (t : List GVal) (h : GHeap) : gcode Tryz.prog gl1 (algS Tryz.prog gl1) (some l) (rfBd rf36) (KB Tryz.prog gl1 l Q) t h = p36b l [] [] Q t h := by
  show _ = gcode Tryz.prog gl1 (algS Tryz.prog gl1) (some l) (sub (rfBd rf36) []) (subK Tryz.prog gl1 (some l) (rfBd rf36) [] [] (KB Tryz.prog gl1 l Q)) t h
  rw [sub_nil, subK_nil (cur := gl1)]
theorem ps36 : (rfPs rf36).toList = [17] := by kernel_rfl
theorem BL.at {h g : GHeap} {a : Option (Nat × Nat)} {m c : Nat} {bs : List Int} (B : BL h a m c bs) (i5 : Nat) (hn : ∀ id off, a = some (id, off) → id ≠ i5 ∧ id < h.length) (hs : ∀ i, i < h.length → i ≠ i5 → g[i]? = h[i]?) : BL g a m c bs := by
  refine ⟨B.len, B.le, B.few, fun j v hj => ?_, B.low⟩
  obtain ⟨id, off, e, hl⟩ := B.cells j v hj
  obtain ⟨h1, h2⟩ := hn id off e
  refine ⟨id, off, e, ?_⟩
  unfold gload at hl ⊢
  rw [hs id h2 h1]; exact hl
theorem BL.group {h : GHeap} {a : Option (Nat × Nat)} {m c : Nat} {bs : List Int} (B : BL h a m c bs) (k : Nat) (hk : 8 * k ≤ m) : BL h (a.map fun p => (p.1, p.2 + 8 * k)) (min 8 (m - 8 * k)) (min 8 (m - 8 * k)) ((bs.drop (8 * k)).take 8) := by
  have hlen := B.len; have := B.few
  refine ⟨by simp; omega, Nat.le_refl _, by omega, fun j v hj => ?_, fun x hx => B.low x (List.mem_of_mem_drop (List.mem_of_mem_take hx))⟩
  rw [List.getElem?_map, Option.map_eq_some_iff] at hj
  obtain ⟨x, hx, rfl⟩ := hj
  have hj8 : j < 8 := by
    have := (List.getElem?_eq_some_iff.1 hx).1
    simp at this; omega
  rw [List.getElem?_take_of_lt hj8, List.getElem?_drop] at hx
  obtain ⟨id, off, e, hl⟩ := B.cells (8 * k + j) (.int .u8 x) (by simp [hx])
  refine ⟨id, off + 8 * k, by rw [e]; rfl, ?_⟩
  rw [Nat.add_assoc]; exact hl
set_option maxHeartbeats 1000000 in
theorem mix36r {g : GHeap} {i5 i6 q1 q2 m c : Nat} {a : Option (Nat × Nat)} {o : Option Nat} {bs : List Int} {r0 : Int} {t : List GVal} {Q : GVal → GHeap → Prop} (B : BL g a m c bs) (ho : o = none ∨ o = some 1)
    (h5 : g[i5]? = some (.cells [.int .u64 r0] .rw)) (h6 : g[i6]? = some (.cells [.int .u64 11400714819323198485] .rw)) (hq1 : g[q1]? = some (.cells [.slice a m c o] .rw)) (hq2 : g[q2]? = some (.cells [.int .i64 8] .rw))
    (n56 : i5 ≠ i6) (n5a : i5 ≠ q1) (n5b : i5 ≠ q2) (hn : ∀ id off, a = some (id, off) → id ≠ i5 ∧ id < g.length) (hJ : Jg36_0 a m c o i5 i6 q1 q2 t)
    (hQ : ∀ g', (∀ i, i < g.length → i ≠ i5 → g'[i]? = g[i]?) → g'[i5]? = some (.cells [.int .u64 (mixN ((m + 7) / 8) bs r0)] .rw) → p36 [1, 1, 1, 0] [] Q t g') : p36 [1, 1, 0, 1, 0] [] Q t g := by
  obtain ⟨z, rfl⟩ := hJ
  have hm := B.few; have hmc := B.le; have hlen := B.len
  refine pt_range g36_0_s (g := 95) (first := []) (captured := [.ptr (some (q1, 0)), .ptr (some (q2, 0))]) rfl (by kernel_rfl) (by kernel_rfl) ?_
  generalize hT : (z 0 :: _ : List GVal) = T at *
  have hlt5 := lt_of_at h5
  refine CallsG.mono (groups95 (l := g.length) (p1 := q1) (p2 := q2) (a := a) (m := m) (c := c) (o := o)
    (J := fun k g1 => (∀ i, i < g.length → i ≠ i5 → g1[i]? = g[i]?) ∧ g1[g.length]? = some (.loop .ready none T (rfPs rf36) (rfAs rf36) (rfBd rf36)) ∧ ∃ r, g1[i5]? = some (.cells [.int .u64 r] .rw) ∧ mixN ((m + 7) / 8 - k) (bs.drop (8 * k)) r = mixN ((m + 7) / 8) bs r0)
    ho hmc hm ?_ ?_ ?_) ?_
  · rintro k g1 ⟨j1, j2, _⟩
    exact ⟨(j1 q1 (lt_of_at hq1) (Ne.symm n5a)).trans hq1, (j1 q2 (lt_of_at hq2) (Ne.symm n5b)).trans hq2, by unfold isLoop; rw [j2]⟩
  · rintro k g1 hk ⟨j1, j2, r, j3, j4⟩
    have hl1 := lt_of_at j2
    refine round_at hD j2 (by rw [← Array.length_toList, ps36]; rfl) ?_
    refine cast (Eq.symm (as36' ..)) ?_
    rw [ps36]
    have B1 := (B.at i5 hn j1).group k (by omega)
    have hg0 : (bs.drop (8 * k)).take 8 = (bs.drop (8 * k)).take 8 := rfl
    generalize (a.map fun p => (p.1, p.2 + 8 * k)) = a7 at B1 ⊢
    generalize min 8 (m - 8 * k) = m7 at B1 ⊢
    generalize hG : gsets T [17] [GVal.slice a7 m7 m7 none] = G
    rw [← hT] at hG
    rw [← hG]
    refine cast (Eq.symm (r36a_0 ..)) ?_
    refine ⟨none, _, _, _, _, j2, ?_⟩
    refine cast (Eq.symm (bd36 ..)) ?_
    refine cast (Eq.symm (b36b ..)) ?_
    have hrest : ∀ i, i ≠ g.length → (g1.set g.length (.loop .busy none T (rfPs rf36) (rfAs rf36) (rfBd rf36)))[i]? = g1[i]? := fun i hne => List.getElem?_set_ne (fun e => hne e.symm)
    have hL3 : (g1.set g.length (.loop .busy none T (rfPs rf36) (rfAs rf36) (rfBd rf36)))[g.length]? = some (.loop .busy none T (rfPs rf36) (rfAs rf36) (rfBd rf36)) := List.getElem?_set_self (by omega)
    have hlen3 : (g1.set g.length (.loop .busy none T (rfPs rf36) (rfAs rf36) (rfBd rf36))).length = g1.length := by simp
    generalize g1.set g.length (.loop .busy none T (rfPs rf36) (rfAs rf36) (rfBd rf36)) = g3 at hrest hL3 hlen3 ⊢
    have h53 : g3[i5]? = some (.cells [.int .u64 r] .rw) := (hrest i5 (by omega)).trans j3
    have h63 : g3[i6]? = some (.cells [.int .u64 11400714819323198485] .rw) := (hrest i6 (by have := lt_of_at h6; omega)).trans ((j1 i6 (lt_of_at h6) (Ne.symm n56)).trans h6)
    have C3 : Cells g3 a7 (((bs.drop (8 * k)).take 8).map (GVal.int .u8 ·)) := by
      intro j v hj
      obtain ⟨id, off, e, hl⟩ := B1.cells j v hj
      refine ⟨id, off, e, ?_⟩
      have hne : id ≠ g.length := by
        intro e2
        subst e2
        unfold gload at hl
        rw [j2] at hl
        cases hl
      unfold gload at hl ⊢
      rw [hrest id hne]; exact hl
    have hlen7 := B1.len
    generalize hys : (bs.drop (8 * k)).take 8 = ys at hlen7 C3
    generalize hQ2 : (fun (r : GVal) (g' : GHeap) => r = GVal.bool true ∧ (∀ i, i < g.length → i ≠ i5 → g'[i]? = g[i]?) ∧ g'[g.length]? = some (.loop .ready none T (rfPs rf36) (rfAs rf36) (rfBd rf36)) ∧ ∃ r, g'[i5]? = some (.cells [.int .u64 r] .rw) ∧ mixN ((m + 7) / 8 - (k + 1)) (bs.drop (8 * (k + 1))) r = mixN ((m + 7) / 8) bs r0) = Q2
    have hm8 : m7 ≤ 8 := by rw [← hlen7, ← hys]; simp; omega
    repeat' first
                        | with_reducible refine And.intro (@rfl Go.IntKind _) ?_
                        | with_reducible refine oget_gInt (gload_at (by first | assumption | exact at_new | exact at_append (by assumption) | exact at_set (by assumption) | exact at_append (at_append (by assumption)) | exact at_set (at_set (by assumption)) | exact at_set (at_append (by assumption)) | exact at_set (at_set (at_append (by assumption))) | exact at_set (at_set (at_set (by assumption))) | exact at_set_ne (by assumption) (by assumption)) (by with_unfolding_all rfl)) ?_
                        | with_reducible refine oget_gSlice (gload_at (by first | assumption | exact at_new | exact at_append (by assumption) | exact at_set (by assumption) | exact at_append (at_append (by assumption)) | exact at_set (at_set (by assumption)) | exact at_set (at_append (by assumption)) | exact at_set (at_set (at_append (by assumption))) | exact at_set (at_set (at_set (by assumption))) | exact at_set_ne (by assumption) (by assumption)) (by with_unfolding_all rfl)) ?_
                        | with_reducible refine oget_gMap (gload_at (by first | assumption | exact at_new | exact at_append (by assumption) | exact at_set (by assumption) | exact at_append (at_append (by assumption)) | exact at_set (at_set (by assumption)) | exact at_set (at_append (by assumption)) | exact at_set (at_set (at_append (by assumption))) | exact at_set (at_set (at_set (by assumption))) | exact at_set_ne (by assumption) (by assumption)) (by with_unfolding_all rfl)) ?_
                        | with_reducible refine oget_gBool (gload_at (by first | assumption | exact at_new | exact at_append (by assumption) | exact at_set (by assumption) | exact at_append (at_append (by assumption)) | exact at_set (at_set (by assumption)) | exact at_set (at_append (by assumption)) | exact at_set (at_set (at_append (by assumption))) | exact at_set (at_set (at_set (by assumption))) | exact at_set_ne (by assumption) (by assumption)) (by with_unfolding_all rfl)) ?_
                        | with_reducible refine oget_gPtr (gload_at (by first | assumption | exact at_new | exact at_append (by assumption) | exact at_set (by assumption) | exact at_append (at_append (by assumption)) | exact at_set (at_set (by assumption)) | exact at_set (at_append (by assumption)) | exact at_set (at_set (at_append (by assumption))) | exact at_set (at_set (at_set (by assumption))) | exact at_set_ne (by assumption) (by assumption)) (by with_unfolding_all rfl)) ?_
                        | with_reducible refine gCons_of ?_
                        | with_reducible refine gInt_of ?_
                        | with_reducible refine gBool_of ?_
                        | with_reducible refine gNil_of ?_
                        | with_reducible refine gTup_of ?_
                        | with_reducible refine vsplit_iff.2 ?_
                        | with_reducible refine gAgg_of ?_
                        | with_reducible refine oget_of (gstore_at1 (by first | assumption | exact at_new | exact at_append (by assumption) | exact at_set (by assumption) | exact at_append (at_append (by assumption)) | exact at_set (at_set (by assumption)) | exact at_set (at_append (by assumption)) | exact at_set (at_set (at_append (by assumption))) | exact at_set (at_set (at_set (by assumption))) | exact at_set_ne (by assumption) (by assumption)) (by decide) (by simp) (by with_unfolding_all rfl)) ?_
                        | with_reducible refine bsplit_of (fun hb => ?_) (fun hb => ?_) <;> try simp only [beq_iff_eq, beq_eq_false_iff_ne, ne_eq, bne_iff_ne, bne_eq_false_iff_eq, decide_eq_true_eq, decide_eq_false_iff_not, Int.not_lt, Int.not_le, ge_iff_le, gt_iff_lt] at hb
                        | with_reducible refine cast (Eq.symm (w36b_0_0  ..)) ?_
                        | with_reducible refine cast (Eq.symm (w36b_1_0  ..)) ?_
                        | with_reducible refine cast (Eq.symm (w36b_2_0 (h21_0 := by with_unfolding_all rfl) ..)) ?_
                        | with_reducible refine cast (Eq.symm (w36b_2_1 (h21_0 := by with_unfolding_all rfl) ..)) ?_
                        | with_reducible refine cast (Eq.symm (w36b_3_0  ..)) ?_
                        | with_reducible refine cast (Eq.symm (w36b_4_0  ..)) ?_
                        | with_reducible refine cast (Eq.symm (w36b_5_0  ..)) ?_
                        | with_reducible refine cast (Eq.symm (w36b_6_0  ..)) ?_
                        | with_reducible refine cast (Eq.symm (w36b_7_0  ..)) ?_
                        | with_reducible refine cast (Eq.symm (a36b_0 ..)) ?_
                        | with_reducible refine cast (Eq.symm (a36b_1 ..)) ?_
                        | with_reducible refine cast (Eq.symm (a36b_2 ..)) ?_
                        | with_reducible refine cast (Eq.symm (a36b_3 ..)) ?_
                        | with_reducible refine cast (Eq.symm (a36b_4 ..)) ?_
                        | with_reducible refine cast (Eq.symm (a36b_5 ..)) ?_
                        | with_reducible refine cast (Eq.symm (a36b_6 ..)) ?_
                        | with_reducible refine cast (Eq.symm (a36b_7 ..)) ?_
                        | with_reducible refine res_nil (by with_unfolding_all rfl) ?_
                        | with_reducible refine res_one (by with_unfolding_all rfl) (by with_unfolding_all rfl) ?_
                        | with_reducible refine res_two (by with_unfolding_all rfl) (by with_unfolding_all rfl) (by with_unfolding_all rfl) ?_
                        | rw [lget_s]
                        | rw [lget_z]
    refine l36b_0 _ (fun n2 t h2 => ∃ (j : Nat) (n : Int), J36b_2 i5 i6 n a7 m7 m7 none m7 j t ∧ h2 = g3 ∧ j + n2 = m7 ∧ grpF (ys.drop j) j n = grpF ys 0 0) ?_ (n := m7) ⟨0, 0, (JI36b_2 ..), rfl, by omega, rfl⟩
    rintro n2 t h2 ⟨j, n, hT2, rfl, hj, hg⟩
    obtain ⟨z, rfl⟩ := hT2
    have hw8 : j < 8 → (0 : Int) ≤ IntKind.i64.wrap ((8 : Int) * (j : Int)) := fun _ => by rw [w64 (by omega)]; omega
    refine cast (Eq.symm (a36b_2 ..)) ?_
    refine And.intro rfl (bsplit_of (fun hb => ?_) (fun hb => ?_)) <;> simp only [decide_eq_true_eq, decide_eq_false_iff_not, Int.not_lt] at hb
    · refine cast (Eq.symm (w36b_2_0 (h21_0 := rfl) ..)) ?_
      refine cast (Eq.symm (a36b_3 ..)) ?_
      obtain ⟨x, hx, hd⟩ := drop_at (l := ys) (k := j) (by omega)
      refine ⟨⟨by omega, by omega, Nat.le_refl _⟩, ?_⟩
      refine C3.ptr (j := j) (v := .int .u8 x) (by omega) (by simp [hx]) fun id off ha hl => ?_
      refine oget_gInt hl ?_
      have hw9 := hw8 (by omega)
      refine cast (Eq.symm (w36b_3_0 ..)) ?_
      refine cast (Eq.symm (a36b_4 ..)) ?_
      refine And.intro rfl (And.intro hw9 (And.intro rfl ?_))
      refine cast (Eq.symm (w36b_4_0 ..)) ?_
      refine cast (Eq.symm (a36b_5 ..)) ?_
      refine And.intro rfl ?_
      refine cast (Eq.symm (w36b_5_0 ..)) ?_
      refine ⟨n2 - 1, by omega, j + 1, grpS n x j, ?_, rfl, by omega, ?_⟩
      · rw [show IntKind.i64.wrap ((j : Int) + 1) = ((j + 1 : Nat) : Int) from by rw [w64 (by omega)]; omega]
        exact (JI36b_2 ..)
      · rw [hd] at hg
        exact hg
    · refine cast (Eq.symm (w36b_2_1 (h21_0 := rfl) ..)) ?_
      have e0 : j = ys.length := by omega
      subst e0
      rw [List.drop_length] at hg
      have hg : n = grpF ys 0 0 := hg
      refine cast (Eq.symm (a36b_6 ..)) ?_
      refine oget_gInt (gload_at h53 rfl) ?_
      refine And.intro rfl ?_
      refine oget_gInt (gload_at h63 rfl) ?_
      refine And.intro rfl ?_
      refine oget_of (gstore_at1 h53 (by decide) (by simp) rfl) ?_
      refine cast (Eq.symm (w36b_6_0 ..)) ?_
      refine cast (Eq.symm (a36b_7 ..)) ?_
      have h54 : ∀ v : GVal, (h2.set i5 (.cells ([GVal.int .u64 r].set 0 v) .rw))[i5]? = some (.cells [v] .rw) := fun v => List.getElem?_set_self (lt_of_at h53)
      refine oget_gInt (gload_at (h54 _) rfl) ?_
      refine oget_gInt (gload_at (h54 _) rfl) ?_
      refine And.intro (by decide : (0 : Int) ≤ 29) ?_
      refine And.intro rfl ?_
      refine oget_of (gstore_at1 (h54 _) (by decide) (by simp) rfl) ?_
      refine cast (Eq.symm (w36b_7_0 ..)) ?_
      have hL5 : ∀ (v w : GVal), ((h2.set i5 (.cells ([GVal.int .u64 r].set 0 v) .rw)).set i5 (.cells (([GVal.int .u64 r].set 0 v).set 0 w) .rw))[g.length]? = some (.loop .busy none T (rfPs rf36) (rfAs rf36) (rfBd rf36)) := fun v w => by
        rw [List.getElem?_set_ne (by omega), List.getElem?_set_ne (by omega)]; exact hL3
      refine gendRound_at (hL5 _ _) ?_
      subst hQ2
      refine ⟨rfl, fun i hi hne => ?_, List.getElem?_set_self (lt_of_at (hL5 _ _)), stepB (stepA r n), ?_, ?_⟩
      · rw [List.getElem?_set_ne (by omega), List.getElem?_set_ne (Ne.symm hne), List.getElem?_set_ne (Ne.symm hne), hrest i (by omega)]
        exact j1 i hi hne
      · rw [List.getElem?_set_ne (by omega)]
        exact List.getElem?_set_self (by simp; omega)
      · rw [← j4]
        have : (m + 7) / 8 - k = ((m + 7) / 8 - (k + 1)) + 1 := by omega
        rw [this]
        show _ = mixN ((m + 7) / 8 - (k + 1)) ((bs.drop (8 * k)).drop 8) (stepB (stepA r (grpF ((bs.drop (8 * k)).take 8) 0 0)))
        rw [List.drop_drop, hys, hg]; rfl
  · exact ⟨fun i hi _ => List.getElem?_append_left hi, at_new, r0, at_append h5, rfl⟩
  · rintro r g1 ⟨rfl, j1, j2, r, j3, j4⟩
    refine ⟨rfl, gendLoop_none j2 (by decide) ?_⟩
    rw [g36_0_n_0]
    refine hQ _ (fun i hi hne => ?_) ?_
    · rw [List.getElem?_set_ne (by omega)]; exact j1 i hi hne
    · rw [List.getElem?_set_ne (by omega), j3]
      rw [Nat.sub_self] at j4
      rw [← j4]; rfl
end Go.Proofs.YtkcjbgepmkhdaaaGreatDoor
