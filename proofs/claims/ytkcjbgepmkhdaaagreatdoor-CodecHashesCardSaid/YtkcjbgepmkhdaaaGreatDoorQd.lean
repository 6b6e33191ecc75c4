/- Mix, the specification's: what it hands back; no condition. -/
import Derived.Test.YtkcjbgepmkhdaaaGreatDoorQa
set_option linter.defProp false
set_option linter.unusedSimpArgs false
set_option linter.unusedVariables false
set_option linter.unnecessarySimpa false
open Go Gh Go.Proofs
namespace Go.Proofs.YtkcjbgepmkhdaaaGreatDoor
set_option maxRecDepth 100000
noncomputable def xor64 (a b : Int) : Int := IntKind.u64.wrap (↑(BitVec.ofInt (64 : Nat) a ^^^ BitVec.ofInt (64 : Nat) b).toNat : Int)
noncomputable def grpS (n x k : Int) : Int := IntKind.u64.wrap (↑(BitVec.ofInt (64 : Nat) n ||| BitVec.ofInt (64 : Nat) (IntKind.u64.wrap (IntKind.u64.wrap x * (2 : Int) ^ min (IntKind.i64.wrap ((8 : Int) * k)).toNat (64 : Nat)))).toNat : Int)
noncomputable def grpF : List Int → Int → Int → Int
  | [], _, n => n
  | x :: xs, k, n => grpF xs (k + 1) (grpS n x k)
noncomputable def stepA (h n : Int) : Int := IntKind.u64.wrap (xor64 h n * 11400714819323198485)
noncomputable def stepB (h : Int) : Int := xor64 h (h.fdiv 536870912)
noncomputable def mixN : Nat → List Int → Int → Int
  | 0, _, h => h
  | q + 1, l, h => mixN q (l.drop 8) (stepB (stepA h (grpF (l.take 8) 0 0)))
noncomputable def mixE (h m : Int) : Int := IntKind.u64.wrap (xor64 h (IntKind.u64.wrap m) * 13787848793156543929)
noncomputable def mixR (seed : Int) (bs : List Int) : Int :=
  xor64 (mixE (mixN ((bs.length + 7) / 8) bs (xor64 seed 2611923443488327891)) bs.length) ((mixE (mixN ((bs.length + 7) / 8) bs (xor64 seed 2611923443488327891)) bs.length).fdiv 4294967296)
theorem take_at {l : List Int} {i k : Nat} (hk : k < 8) (hl : i + k < l.length) : ∃ x, l[i + k]? = some x ∧ ((l.drop i).take 8).drop k = x :: ((l.drop i).take 8).drop (k + 1) := by
  have h1 : k < ((l.drop i).take 8).length := by simp; omega
  obtain ⟨x, hx, hd⟩ := drop_at h1
  refine ⟨x, ?_, hd⟩
  rw [List.getElem?_take_of_lt hk, List.getElem?_drop] at hx
  exact hx
theorem take_end {l : List Int} {i k : Nat} (h : 8 ≤ k ∨ l.length ≤ i + k) : ((l.drop i).take 8).drop k = [] := by
  refine List.drop_eq_nil_of_le ?_
  simp; omega
set_option maxHeartbeats 2000000 in
theorem mix37 {a : Option (Nat × Nat)} {m c : Nat} {o : Option Nat} {h : GHeap} {bs : List Int} (B : BL h a m c bs) (seed : Int) :
    CallsG Tryz.prog gl1 37 [.int .u64 seed, .slice a m c o] h fun r h' => r = .int .u64 (mixR seed bs) ∧ h' = h := by
  have hlen := B.len; have hc := B.le; have hb := B.few
  refine pt_call (c := bodyOf Tryz.f37) hD (fn := Tryz.f37) rfl rfl ?_; refine cast (Eq.symm (b37 ..)) ?_
  repeat' first
                        | with_reducible refine And.intro (@rfl Go.IntKind _) ?_
                        | with_reducible refine oget_gInt (gload_at (by first | assumption | exact at_new | exact at_append (by assumption) | exact at_set (by assumption) | exact at_append (at_append (by assumption)) | exact at_set (at_set (by assumption)) | exact at_set (at_append (by assumption)) | exact at_set (at_set (at_append (by assumption))) | exact at_set (at_set (at_set (by assumption))) | exact at_set_ne (by assumption) (by assumption)) (by with_unfolding_all rfl)) ?_
                        | with_reducible refine oget_gSlice (gload_at (by first | assumption | exact at_new | exact at_append (by assumption) | exact at_set (by assumption) | exact at_append (at_append (by assumption)) | exact at_set (at_set (by assumption)) | exact at_set (at_append (by assumption)) | exact at_set (at_set (at_append (by assumption))) | exact at_set (at_set (at_set (by assumption))) | exact at_set_ne (by assumption) (by assumption)) (by with_unfolding_all rfl)) ?_
                        | with_reducible refine oget_gMap (gload_at (by first | assumption | exact at_new | exact at_append (by assumption) | exact at_set (by assumption) | exact at_append (at_append (by assumption)) | exact at_set (at_set (by assumption)) | exact at_set (at_append (by assumption)) | exact at_set (at_set (at_append (by assumption))) | exact at_set (at_set (at_set (by assumption))) | exact at_set_ne (by assumption) (by assumption)) (by with_unfolding_all rfl)) ?_
                        | with_reducible refine oget_gBool (gload_at (by first | assumption | exact at_new | exact at_append (by assumption) | exact at_set (by assumption) | exact at_append (at_append (by assumption)) | exact at_set (at_set (by assumption)) | exact at_set (at_append (by assumption)) | exact at_set (at_set (at_append (by assumption))) | exact at_set (at_set (at_set (by assumption))) | exact at_set_ne (by assumption) (by assumption)) (by with_unfolding_all rfl)) ?_
                        | with_reducible refine oget_gPtr (gload_at (by first | assumption | exact at_new | exact at_append (by assumption) | exact at_set (by assumption) | exact at_append (at_append (by assumption)) | exact at_set (at_set (by assumption)) | exact at_set (at_append (by assumption)) | exact at_set (at_set (at_append (by assumption))) | exact at_set (at_set (at_set (by assumption))) | exact at_set_ne (by assumption) (by assumption)) (by with_unfolding_all rfl)) ?_
                        | with_reducible refine gCons_of ?_
                        | with_reducible refine gInt_of ?_
                        | with_reducible refine gBool_of ?_
                        | with_reducible refine gNil_of ?_
                        | with_reducible refine gTup_of ?_
                        | with_reducible refine vsplit_iff.2 ?_
                        | with_reducible refine gAgg_of ?_
                        | with_reducible refine oget_of (gstore_at1 (by first | assumption | exact at_new | exact at_append (by assumption) | exact at_set (by assumption) | exact at_append (at_append (by assumption)) | exact at_set (at_set (by assumption)) | exact at_set (at_append (by assumption)) | exact at_set (at_set (at_append (by assumption))) | exact at_set (at_set (at_set (by assumption))) | exact at_set_ne (by assumption) (by assumption)) (by decide) (by simp) (by with_unfolding_all rfl)) ?_
                        | with_reducible refine bsplit_of (fun hb => ?_) (fun hb => ?_) <;> try simp only [beq_iff_eq, beq_eq_false_iff_ne, ne_eq, bne_iff_ne, bne_eq_false_iff_eq, decide_eq_true_eq, decide_eq_false_iff_not, Int.not_lt, Int.not_le, ge_iff_le, gt_iff_lt] at hb
                        | with_reducible refine cast (Eq.symm (w37_0_0  ..)) ?_
                        | with_reducible refine cast (Eq.symm (w37_1_0  ..)) ?_
                        | with_reducible refine cast (Eq.symm (w37_2_0  ..)) ?_
                        | with_reducible refine cast (Eq.symm (w37_3_0 (h14_0 := by with_unfolding_all rfl) ..)) ?_
                        | with_reducible refine cast (Eq.symm (w37_3_1 (h14_0 := by with_unfolding_all rfl) ..)) ?_
                        | with_reducible refine cast (Eq.symm (w37_4_0  ..)) ?_
                        | with_reducible refine cast (Eq.symm (w37_5_0  ..)) ?_
                        | with_reducible refine cast (Eq.symm (w37_6_0 (h26_0 := by with_unfolding_all rfl) ..)) ?_
                        | with_reducible refine cast (Eq.symm (w37_6_1 (h26_0 := by with_unfolding_all rfl) ..)) ?_
                        | with_reducible refine cast (Eq.symm (w37_7_0  ..)) ?_
                        | with_reducible refine cast (Eq.symm (w37_8_0  ..)) ?_
                        | with_reducible refine cast (Eq.symm (w37_9_0  ..)) ?_
                        | with_reducible refine cast (Eq.symm (w37_10_0  ..)) ?_
                        | with_reducible refine cast (Eq.symm (w37_11_0  ..)) ?_
                        | with_reducible refine cast (Eq.symm (w37_12_0  ..)) ?_
                        | with_reducible refine cast (Eq.symm (w37_13_0  ..)) ?_
                        | with_reducible refine cast (Eq.symm (a37_0 ..)) ?_
                        | with_reducible refine cast (Eq.symm (a37_1 ..)) ?_
                        | with_reducible refine cast (Eq.symm (a37_2 ..)) ?_
                        | with_reducible refine cast (Eq.symm (a37_3 ..)) ?_
                        | with_reducible refine cast (Eq.symm (a37_4 ..)) ?_
                        | with_reducible refine cast (Eq.symm (a37_5 ..)) ?_
                        | with_reducible refine cast (Eq.symm (a37_6 ..)) ?_
                        | with_reducible refine cast (Eq.symm (a37_7 ..)) ?_
                        | with_reducible refine cast (Eq.symm (a37_8 ..)) ?_
                        | with_reducible refine cast (Eq.symm (a37_9 ..)) ?_
                        | with_reducible refine cast (Eq.symm (a37_10 ..)) ?_
                        | with_reducible refine cast (Eq.symm (a37_11 ..)) ?_
                        | with_reducible refine cast (Eq.symm (a37_12 ..)) ?_
                        | with_reducible refine cast (Eq.symm (a37_13 ..)) ?_
                        | with_reducible refine res_nil (by with_unfolding_all rfl) ?_
                        | with_reducible refine res_one (by with_unfolding_all rfl) (by with_unfolding_all rfl) ?_
                        | with_reducible refine res_two (by with_unfolding_all rfl) (by with_unfolding_all rfl) (by with_unfolding_all rfl) ?_
                        | rw [lget_s]
                        | rw [lget_z]
  refine l37_0 (fun n t h' => ∃ (j : Nat) (r : Int), J37_3 a m c o r ((8 * j : Nat) : Int) t ∧ h' = h ∧ j + n = (m + 7) / 8 ∧ mixN n (bs.drop (8 * j)) r = mixN ((m + 7) / 8) bs (xor64 seed 2611923443488327891)) ?_ (n := (m + 7) / 8) ⟨0, xor64 seed 2611923443488327891, (JI37_3 ..), rfl, by omega, rfl⟩
  rintro n t h' ⟨j, r, hT, rfl, hk, hf⟩
  obtain ⟨z, rfl⟩ := hT
  repeat' first
                        | with_reducible refine And.intro (@rfl Go.IntKind _) ?_
                        | with_reducible refine oget_gInt (gload_at (by first | assumption | exact at_new | exact at_append (by assumption) | exact at_set (by assumption) | exact at_append (at_append (by assumption)) | exact at_set (at_set (by assumption)) | exact at_set (at_append (by assumption)) | exact at_set (at_set (at_append (by assumption))) | exact at_set (at_set (at_set (by assumption))) | exact at_set_ne (by assumption) (by assumption)) (by with_unfolding_all rfl)) ?_
                        | with_reducible refine oget_gSlice (gload_at (by first | assumption | exact at_new | exact at_append (by assumption) | exact at_set (by assumption) | exact at_append (at_append (by assumption)) | exact at_set (at_set (by assumption)) | exact at_set (at_append (by assumption)) | exact at_set (at_set (at_append (by assumption))) | exact at_set (at_set (at_set (by assumption))) | exact at_set_ne (by assumption) (by assumption)) (by with_unfolding_all rfl)) ?_
                        | with_reducible refine oget_gMap (gload_at (by first | assumption | exact at_new | exact at_append (by assumption) | exact at_set (by assumption) | exact at_append (at_append (by assumption)) | exact at_set (at_set (by assumption)) | exact at_set (at_append (by assumption)) | exact at_set (at_set (at_append (by assumption))) | exact at_set (at_set (at_set (by assumption))) | exact at_set_ne (by assumption) (by assumption)) (by with_unfolding_all rfl)) ?_
                        | with_reducible refine oget_gBool (gload_at (by first | assumption | exact at_new | exact at_append (by assumption) | exact at_set (by assumption) | exact at_append (at_append (by assumption)) | exact at_set (at_set (by assumption)) | exact at_set (at_append (by assumption)) | exact at_set (at_set (at_append (by assumption))) | exact at_set (at_set (at_set (by assumption))) | exact at_set_ne (by assumption) (by assumption)) (by with_unfolding_all rfl)) ?_
                        | with_reducible refine oget_gPtr (gload_at (by first | assumption | exact at_new | exact at_append (by assumption) | exact at_set (by assumption) | exact at_append (at_append (by assumption)) | exact at_set (at_set (by assumption)) | exact at_set (at_append (by assumption)) | exact at_set (at_set (at_append (by assumption))) | exact at_set (at_set (at_set (by assumption))) | exact at_set_ne (by assumption) (by assumption)) (by with_unfolding_all rfl)) ?_
                        | with_reducible refine gCons_of ?_
                        | with_reducible refine gInt_of ?_
                        | with_reducible refine gBool_of ?_
                        | with_reducible refine gNil_of ?_
                        | with_reducible refine gTup_of ?_
                        | with_reducible refine vsplit_iff.2 ?_
                        | with_reducible refine gAgg_of ?_
                        | with_reducible refine oget_of (gstore_at1 (by first | assumption | exact at_new | exact at_append (by assumption) | exact at_set (by assumption) | exact at_append (at_append (by assumption)) | exact at_set (at_set (by assumption)) | exact at_set (at_append (by assumption)) | exact at_set (at_set (at_append (by assumption))) | exact at_set (at_set (at_set (by assumption))) | exact at_set_ne (by assumption) (by assumption)) (by decide) (by simp) (by with_unfolding_all rfl)) ?_
                        | with_reducible refine bsplit_of (fun hb => ?_) (fun hb => ?_) <;> try simp only [beq_iff_eq, beq_eq_false_iff_ne, ne_eq, bne_iff_ne, bne_eq_false_iff_eq, decide_eq_true_eq, decide_eq_false_iff_not, Int.not_lt, Int.not_le, ge_iff_le, gt_iff_lt] at hb
                        | with_reducible refine cast (Eq.symm (w37_0_0  ..)) ?_
                        | with_reducible refine cast (Eq.symm (w37_1_0  ..)) ?_
                        | with_reducible refine cast (Eq.symm (w37_2_0  ..)) ?_
                        | with_reducible refine cast (Eq.symm (w37_3_0 (h14_0 := by with_unfolding_all rfl) ..)) ?_
                        | with_reducible refine cast (Eq.symm (w37_3_1 (h14_0 := by with_unfolding_all rfl) ..)) ?_
                        | with_reducible refine cast (Eq.symm (w37_4_0  ..)) ?_
                        | with_reducible refine cast (Eq.symm (w37_5_0  ..)) ?_
                        | with_reducible refine cast (Eq.symm (w37_6_0 (h26_0 := by with_unfolding_all rfl) ..)) ?_
                        | with_reducible refine cast (Eq.symm (w37_6_1 (h26_0 := by with_unfolding_all rfl) ..)) ?_
                        | with_reducible refine cast (Eq.symm (w37_7_0  ..)) ?_
                        | with_reducible refine cast (Eq.symm (w37_8_0  ..)) ?_
                        | with_reducible refine cast (Eq.symm (w37_9_0  ..)) ?_
                        | with_reducible refine cast (Eq.symm (w37_10_0  ..)) ?_
                        | with_reducible refine cast (Eq.symm (w37_11_0  ..)) ?_
                        | with_reducible refine cast (Eq.symm (w37_12_0  ..)) ?_
                        | with_reducible refine cast (Eq.symm (w37_13_0  ..)) ?_
                        | with_reducible refine cast (Eq.symm (a37_0 ..)) ?_
                        | with_reducible refine cast (Eq.symm (a37_1 ..)) ?_
                        | with_reducible refine cast (Eq.symm (a37_2 ..)) ?_
                        | with_reducible refine cast (Eq.symm (a37_3 ..)) ?_
                        | with_reducible refine cast (Eq.symm (a37_4 ..)) ?_
                        | with_reducible refine cast (Eq.symm (a37_5 ..)) ?_
                        | with_reducible refine cast (Eq.symm (a37_6 ..)) ?_
                        | with_reducible refine cast (Eq.symm (a37_7 ..)) ?_
                        | with_reducible refine cast (Eq.symm (a37_8 ..)) ?_
                        | with_reducible refine cast (Eq.symm (a37_9 ..)) ?_
                        | with_reducible refine cast (Eq.symm (a37_10 ..)) ?_
                        | with_reducible refine cast (Eq.symm (a37_11 ..)) ?_
                        | with_reducible refine cast (Eq.symm (a37_12 ..)) ?_
                        | with_reducible refine cast (Eq.symm (a37_13 ..)) ?_
                        | with_reducible refine res_nil (by with_unfolding_all rfl) ?_
                        | with_reducible refine res_one (by with_unfolding_all rfl) (by with_unfolding_all rfl) ?_
                        | with_reducible refine res_two (by with_unfolding_all rfl) (by with_unfolding_all rfl) (by with_unfolding_all rfl) ?_
                        | rw [lget_s]
                        | rw [lget_z]
  · obtain ⟨n, rfl⟩ : ∃ n', n = n' + 1 := ⟨n - 1, by omega⟩
    refine l37_1 (fun n2 t h2 => ∃ (k : Nat) (g : Int), J37_6 a m c o r ((8 * j : Nat) : Int) g k t ∧ h2 = h' ∧ k + n2 = 8 ∧ 8 * j + k ≤ m ∧ grpF (((bs.drop (8 * j)).take 8).drop k) k g = grpF ((bs.drop (8 * j)).take 8) 0 0) ?_ (n := 8) ⟨0, 0, (JI37_6 ..), rfl, by omega, by omega, rfl⟩
    rintro n2 t h2 ⟨k, g, hT2, rfl, hk2, hle, hg⟩
    obtain ⟨z, rfl⟩ := hT2
    have hw : IntKind.i64.wrap (((8 * j : Nat) : Int) + (k : Int)) = ((8 * j + k : Nat) : Int) := by rw [w64 (by omega)]; omega
    have hw8 : (0 : Int) ≤ IntKind.i64.wrap ((8 : Int) * (k : Int)) := by rw [w64 (by omega)]; omega
    have fin : (8 ≤ k ∨ bs.length ≤ 8 * j + k) → g = grpF ((bs.drop (8 * j)).take 8) 0 0 := by
      intro he
      rw [take_end he] at hg
      exact hg
    have nxt : mixN n (bs.drop (8 * (j + 1))) (stepB (stepA r (grpF ((bs.drop (8 * j)).take 8) 0 0))) = mixN ((m + 7) / 8) bs (xor64 seed 2611923443488327891) := by
      rw [← hf]
      show _ = mixN n ((bs.drop (8 * j)).drop 8) _
      rw [List.drop_drop]; rfl
    repeat' first
                        | rw [hw]
                        | with_reducible refine And.intro (@rfl Go.IntKind _) ?_
                        | with_reducible refine oget_gInt (gload_at (by first | assumption | exact at_new | exact at_append (by assumption) | exact at_set (by assumption) | exact at_append (at_append (by assumption)) | exact at_set (at_set (by assumption)) | exact at_set (at_append (by assumption)) | exact at_set (at_set (at_append (by assumption))) | exact at_set (at_set (at_set (by assumption))) | exact at_set_ne (by assumption) (by assumption)) (by with_unfolding_all rfl)) ?_
                        | with_reducible refine oget_gSlice (gload_at (by first | assumption | exact at_new | exact at_append (by assumption) | exact at_set (by assumption) | exact at_append (at_append (by assumption)) | exact at_set (at_set (by assumption)) | exact at_set (at_append (by assumption)) | exact at_set (at_set (at_append (by assumption))) | exact at_set (at_set (at_set (by assumption))) | exact at_set_ne (by assumption) (by assumption)) (by with_unfolding_all rfl)) ?_
                        | with_reducible refine oget_gMap (gload_at (by first | assumption | exact at_new | exact at_append (by assumption) | exact at_set (by assumption) | exact at_append (at_append (by assumption)) | exact at_set (at_set (by assumption)) | exact at_set (at_append (by assumption)) | exact at_set (at_set (at_append (by assumption))) | exact at_set (at_set (at_set (by assumption))) | exact at_set_ne (by assumption) (by assumption)) (by with_unfolding_all rfl)) ?_
                        | with_reducible refine oget_gBool (gload_at (by first | assumption | exact at_new | exact at_append (by assumption) | exact at_set (by assumption) | exact at_append (at_append (by assumption)) | exact at_set (at_set (by assumption)) | exact at_set (at_append (by assumption)) | exact at_set (at_set (at_append (by assumption))) | exact at_set (at_set (at_set (by assumption))) | exact at_set_ne (by assumption) (by assumption)) (by with_unfolding_all rfl)) ?_
                        | with_reducible refine oget_gPtr (gload_at (by first | assumption | exact at_new | exact at_append (by assumption) | exact at_set (by assumption) | exact at_append (at_append (by assumption)) | exact at_set (at_set (by assumption)) | exact at_set (at_append (by assumption)) | exact at_set (at_set (at_append (by assumption))) | exact at_set (at_set (at_set (by assumption))) | exact at_set_ne (by assumption) (by assumption)) (by with_unfolding_all rfl)) ?_
                        | with_reducible refine gCons_of ?_
                        | with_reducible refine gInt_of ?_
                        | with_reducible refine gBool_of ?_
                        | with_reducible refine gNil_of ?_
                        | with_reducible refine gTup_of ?_
                        | with_reducible refine vsplit_iff.2 ?_
                        | with_reducible refine gAgg_of ?_
                        | with_reducible refine oget_of (gstore_at1 (by first | assumption | exact at_new | exact at_append (by assumption) | exact at_set (by assumption) | exact at_append (at_append (by assumption)) | exact at_set (at_set (by assumption)) | exact at_set (at_append (by assumption)) | exact at_set (at_set (at_append (by assumption))) | exact at_set (at_set (at_set (by assumption))) | exact at_set_ne (by assumption) (by assumption)) (by decide) (by simp) (by with_unfolding_all rfl)) ?_
                        | with_reducible refine bsplit_of (fun hb => ?_) (fun hb => ?_) <;> try simp only [beq_iff_eq, beq_eq_false_iff_ne, ne_eq, bne_iff_ne, bne_eq_false_iff_eq, decide_eq_true_eq, decide_eq_false_iff_not, Int.not_lt, Int.not_le, ge_iff_le, gt_iff_lt] at hb
                        | with_reducible refine cast (Eq.symm (w37_0_0  ..)) ?_
                        | with_reducible refine cast (Eq.symm (w37_1_0  ..)) ?_
                        | with_reducible refine cast (Eq.symm (w37_2_0  ..)) ?_
                        | with_reducible refine cast (Eq.symm (w37_3_0 (h14_0 := by with_unfolding_all rfl) ..)) ?_
                        | with_reducible refine cast (Eq.symm (w37_3_1 (h14_0 := by with_unfolding_all rfl) ..)) ?_
                        | with_reducible refine cast (Eq.symm (w37_4_0  ..)) ?_
                        | with_reducible refine cast (Eq.symm (w37_5_0  ..)) ?_
                        | with_reducible refine cast (Eq.symm (w37_6_0 (h26_0 := by with_unfolding_all rfl) ..)) ?_
                        | with_reducible refine cast (Eq.symm (w37_6_1 (h26_0 := by with_unfolding_all rfl) ..)) ?_
                        | with_reducible refine cast (Eq.symm (w37_7_0  ..)) ?_
                        | with_reducible refine cast (Eq.symm (w37_8_0  ..)) ?_
                        | with_reducible refine cast (Eq.symm (w37_9_0  ..)) ?_
                        | with_reducible refine cast (Eq.symm (w37_10_0  ..)) ?_
                        | with_reducible refine cast (Eq.symm (w37_11_0  ..)) ?_
                        | with_reducible refine cast (Eq.symm (w37_12_0  ..)) ?_
                        | with_reducible refine cast (Eq.symm (w37_13_0  ..)) ?_
                        | with_reducible refine cast (Eq.symm (a37_0 ..)) ?_
                        | with_reducible refine cast (Eq.symm (a37_1 ..)) ?_
                        | with_reducible refine cast (Eq.symm (a37_2 ..)) ?_
                        | with_reducible refine cast (Eq.symm (a37_3 ..)) ?_
                        | with_reducible refine cast (Eq.symm (a37_4 ..)) ?_
                        | with_reducible refine cast (Eq.symm (a37_5 ..)) ?_
                        | with_reducible refine cast (Eq.symm (a37_6 ..)) ?_
                        | with_reducible refine cast (Eq.symm (a37_7 ..)) ?_
                        | with_reducible refine cast (Eq.symm (a37_8 ..)) ?_
                        | with_reducible refine cast (Eq.symm (a37_9 ..)) ?_
                        | with_reducible refine cast (Eq.symm (a37_10 ..)) ?_
                        | with_reducible refine cast (Eq.symm (a37_11 ..)) ?_
                        | with_reducible refine cast (Eq.symm (a37_12 ..)) ?_
                        | with_reducible refine cast (Eq.symm (a37_13 ..)) ?_
                        | with_reducible refine res_nil (by with_unfolding_all rfl) ?_
                        | with_reducible refine res_one (by with_unfolding_all rfl) (by with_unfolding_all rfl) ?_
                        | with_reducible refine res_two (by with_unfolding_all rfl) (by with_unfolding_all rfl) (by with_unfolding_all rfl) ?_
                        | rw [lget_s]
                        | rw [lget_z]
    · obtain ⟨x, hx, hd⟩ := take_at (l := bs) (i := 8 * j) (k := k) (by omega) (by omega)
      refine ⟨⟨by omega, by omega, hc⟩, ?_⟩
      refine B.cells.ptr (j := 8 * j + k) (v := .int .u8 x) (by omega) (by simp [hx]) fun id off ha hl => ?_
      refine oget_gInt hl ?_
      repeat' first
                        | with_reducible refine And.intro hw8 ?_
                        | with_reducible refine And.intro (@rfl Go.IntKind _) ?_
                        | with_reducible refine oget_gInt (gload_at (by first | assumption | exact at_new | exact at_append (by assumption) | exact at_set (by assumption) | exact at_append (at_append (by assumption)) | exact at_set (at_set (by assumption)) | exact at_set (at_append (by assumption)) | exact at_set (at_set (at_append (by assumption))) | exact at_set (at_set (at_set (by assumption))) | exact at_set_ne (by assumption) (by assumption)) (by with_unfolding_all rfl)) ?_
                        | with_reducible refine oget_gSlice (gload_at (by first | assumption | exact at_new | exact at_append (by assumption) | exact at_set (by assumption) | exact at_append (at_append (by assumption)) | exact at_set (at_set (by assumption)) | exact at_set (at_append (by assumption)) | exact at_set (at_set (at_append (by assumption))) | exact at_set (at_set (at_set (by assumption))) | exact at_set_ne (by assumption) (by assumption)) (by with_unfolding_all rfl)) ?_
                        | with_reducible refine oget_gMap (gload_at (by first | assumption | exact at_new | exact at_append (by assumption) | exact at_set (by assumption) | exact at_append (at_append (by assumption)) | exact at_set (at_set (by assumption)) | exact at_set (at_append (by assumption)) | exact at_set (at_set (at_append (by assumption))) | exact at_set (at_set (at_set (by assumption))) | exact at_set_ne (by assumption) (by assumption)) (by with_unfolding_all rfl)) ?_
                        | with_reducible refine oget_gBool (gload_at (by first | assumption | exact at_new | exact at_append (by assumption) | exact at_set (by assumption) | exact at_append (at_append (by assumption)) | exact at_set (at_set (by assumption)) | exact at_set (at_append (by assumption)) | exact at_set (at_set (at_append (by assumption))) | exact at_set (at_set (at_set (by assumption))) | exact at_set_ne (by assumption) (by assumption)) (by with_unfolding_all rfl)) ?_
                        | with_reducible refine oget_gPtr (gload_at (by first | assumption | exact at_new | exact at_append (by assumption) | exact at_set (by assumption) | exact at_append (at_append (by assumption)) | exact at_set (at_set (by assumption)) | exact at_set (at_append (by assumption)) | exact at_set (at_set (at_append (by assumption))) | exact at_set (at_set (at_set (by assumption))) | exact at_set_ne (by assumption) (by assumption)) (by with_unfolding_all rfl)) ?_
                        | with_reducible refine gCons_of ?_
                        | with_reducible refine gInt_of ?_
                        | with_reducible refine gBool_of ?_
                        | with_reducible refine gNil_of ?_
                        | with_reducible refine gTup_of ?_
                        | with_reducible refine vsplit_iff.2 ?_
                        | with_reducible refine gAgg_of ?_
                        | with_reducible refine oget_of (gstore_at1 (by first | assumption | exact at_new | exact at_append (by assumption) | exact at_set (by assumption) | exact at_append (at_append (by assumption)) | exact at_set (at_set (by assumption)) | exact at_set (at_append (by assumption)) | exact at_set (at_set (at_append (by assumption))) | exact at_set (at_set (at_set (by assumption))) | exact at_set_ne (by assumption) (by assumption)) (by decide) (by simp) (by with_unfolding_all rfl)) ?_
                        | with_reducible refine bsplit_of (fun hb => ?_) (fun hb => ?_) <;> try simp only [beq_iff_eq, beq_eq_false_iff_ne, ne_eq, bne_iff_ne, bne_eq_false_iff_eq, decide_eq_true_eq, decide_eq_false_iff_not, Int.not_lt, Int.not_le, ge_iff_le, gt_iff_lt] at hb
                        | with_reducible refine cast (Eq.symm (w37_0_0  ..)) ?_
                        | with_reducible refine cast (Eq.symm (w37_1_0  ..)) ?_
                        | with_reducible refine cast (Eq.symm (w37_2_0  ..)) ?_
                        | with_reducible refine cast (Eq.symm (w37_3_0 (h14_0 := by with_unfolding_all rfl) ..)) ?_
                        | with_reducible refine cast (Eq.symm (w37_3_1 (h14_0 := by with_unfolding_all rfl) ..)) ?_
                        | with_reducible refine cast (Eq.symm (w37_4_0  ..)) ?_
                        | with_reducible refine cast (Eq.symm (w37_5_0  ..)) ?_
                        | with_reducible refine cast (Eq.symm (w37_6_0 (h26_0 := by with_unfolding_all rfl) ..)) ?_
                        | with_reducible refine cast (Eq.symm (w37_6_1 (h26_0 := by with_unfolding_all rfl) ..)) ?_
                        | with_reducible refine cast (Eq.symm (w37_7_0  ..)) ?_
                        | with_reducible refine cast (Eq.symm (w37_8_0  ..)) ?_
                        | with_reducible refine cast (Eq.symm (w37_9_0  ..)) ?_
                        | with_reducible refine cast (Eq.symm (w37_10_0  ..)) ?_
                        | with_reducible refine cast (Eq.symm (w37_11_0  ..)) ?_
                        | with_reducible refine cast (Eq.symm (w37_12_0  ..)) ?_
                        | with_reducible refine cast (Eq.symm (w37_13_0  ..)) ?_
                        | with_reducible refine cast (Eq.symm (a37_0 ..)) ?_
                        | with_reducible refine cast (Eq.symm (a37_1 ..)) ?_
                        | with_reducible refine cast (Eq.symm (a37_2 ..)) ?_
                        | with_reducible refine cast (Eq.symm (a37_3 ..)) ?_
                        | with_reducible refine cast (Eq.symm (a37_4 ..)) ?_
                        | with_reducible refine cast (Eq.symm (a37_5 ..)) ?_
                        | with_reducible refine cast (Eq.symm (a37_6 ..)) ?_
                        | with_reducible refine cast (Eq.symm (a37_7 ..)) ?_
                        | with_reducible refine cast (Eq.symm (a37_8 ..)) ?_
                        | with_reducible refine cast (Eq.symm (a37_9 ..)) ?_
                        | with_reducible refine cast (Eq.symm (a37_10 ..)) ?_
                        | with_reducible refine cast (Eq.symm (a37_11 ..)) ?_
                        | with_reducible refine cast (Eq.symm (a37_12 ..)) ?_
                        | with_reducible refine cast (Eq.symm (a37_13 ..)) ?_
                        | with_reducible refine res_nil (by with_unfolding_all rfl) ?_
                        | with_reducible refine res_one (by with_unfolding_all rfl) (by with_unfolding_all rfl) ?_
                        | with_reducible refine res_two (by with_unfolding_all rfl) (by with_unfolding_all rfl) (by with_unfolding_all rfl) ?_
                        | rw [lget_s]
                        | rw [lget_z]
      refine ⟨n2 - 1, by omega, k + 1, grpS g x k, ?_, rfl, by omega, by omega, ?_⟩
      · rw [show IntKind.i64.wrap ((k : Int) + 1) = ((k + 1 : Nat) : Int) from by rw [w64 (by omega)]; omega]
        exact (JI37_6 ..)
      · rw [hd] at hg
        exact hg
    · rw [← fin (by omega)] at nxt
      repeat' first
                        | with_reducible refine And.intro (by decide : (0 : Int) ≤ 29) ?_
                        | with_reducible refine And.intro (@rfl Go.IntKind _) ?_
                        | with_reducible refine oget_gInt (gload_at (by first | assumption | exact at_new | exact at_append (by assumption) | exact at_set (by assumption) | exact at_append (at_append (by assumption)) | exact at_set (at_set (by assumption)) | exact at_set (at_append (by assumption)) | exact at_set (at_set (at_append (by assumption))) | exact at_set (at_set (at_set (by assumption))) | exact at_set_ne (by assumption) (by assumption)) (by with_unfolding_all rfl)) ?_
                        | with_reducible refine oget_gSlice (gload_at (by first | assumption | exact at_new | exact at_append (by assumption) | exact at_set (by assumption) | exact at_append (at_append (by assumption)) | exact at_set (at_set (by assumption)) | exact at_set (at_append (by assumption)) | exact at_set (at_set (at_append (by assumption))) | exact at_set (at_set (at_set (by assumption))) | exact at_set_ne (by assumption) (by assumption)) (by with_unfolding_all rfl)) ?_
                        | with_reducible refine oget_gMap (gload_at (by first | assumption | exact at_new | exact at_append (by assumption) | exact at_set (by assumption) | exact at_append (at_append (by assumption)) | exact at_set (at_set (by assumption)) | exact at_set (at_append (by assumption)) | exact at_set (at_set (at_append (by assumption))) | exact at_set (at_set (at_set (by assumption))) | exact at_set_ne (by assumption) (by assumption)) (by with_unfolding_all rfl)) ?_
                        | with_reducible refine oget_gBool (gload_at (by first | assumption | exact at_new | exact at_append (by assumption) | exact at_set (by assumption) | exact at_append (at_append (by assumption)) | exact at_set (at_set (by assumption)) | exact at_set (at_append (by assumption)) | exact at_set (at_set (at_append (by assumption))) | exact at_set (at_set (at_set (by assumption))) | exact at_set_ne (by assumption) (by assumption)) (by with_unfolding_all rfl)) ?_
                        | with_reducible refine oget_gPtr (gload_at (by first | assumption | exact at_new | exact at_append (by assumption) | exact at_set (by assumption) | exact at_append (at_append (by assumption)) | exact at_set (at_set (by assumption)) | exact at_set (at_append (by assumption)) | exact at_set (at_set (at_append (by assumption))) | exact at_set (at_set (at_set (by assumption))) | exact at_set_ne (by assumption) (by assumption)) (by with_unfolding_all rfl)) ?_
                        | with_reducible refine gCons_of ?_
                        | with_reducible refine gInt_of ?_
                        | with_reducible refine gBool_of ?_
                        | with_reducible refine gNil_of ?_
                        | with_reducible refine gTup_of ?_
                        | with_reducible refine vsplit_iff.2 ?_
                        | with_reducible refine gAgg_of ?_
                        | with_reducible refine oget_of (gstore_at1 (by first | assumption | exact at_new | exact at_append (by assumption) | exact at_set (by assumption) | exact at_append (at_append (by assumption)) | exact at_set (at_set (by assumption)) | exact at_set (at_append (by assumption)) | exact at_set (at_set (at_append (by assumption))) | exact at_set (at_set (at_set (by assumption))) | exact at_set_ne (by assumption) (by assumption)) (by decide) (by simp) (by with_unfolding_all rfl)) ?_
                        | with_reducible refine bsplit_of (fun hb => ?_) (fun hb => ?_) <;> try simp only [beq_iff_eq, beq_eq_false_iff_ne, ne_eq, bne_iff_ne, bne_eq_false_iff_eq, decide_eq_true_eq, decide_eq_false_iff_not, Int.not_lt, Int.not_le, ge_iff_le, gt_iff_lt] at hb
                        | with_reducible refine cast (Eq.symm (w37_0_0  ..)) ?_
                        | with_reducible refine cast (Eq.symm (w37_1_0  ..)) ?_
                        | with_reducible refine cast (Eq.symm (w37_2_0  ..)) ?_
                        | with_reducible refine cast (Eq.symm (w37_3_0 (h14_0 := by with_unfolding_all rfl) ..)) ?_
                        | with_reducible refine cast (Eq.symm (w37_3_1 (h14_0 := by with_unfolding_all rfl) ..)) ?_
                        | with_reducible refine cast (Eq.symm (w37_4_0  ..)) ?_
                        | with_reducible refine cast (Eq.symm (w37_5_0  ..)) ?_
                        | with_reducible refine cast (Eq.symm (w37_6_0 (h26_0 := by with_unfolding_all rfl) ..)) ?_
                        | with_reducible refine cast (Eq.symm (w37_6_1 (h26_0 := by with_unfolding_all rfl) ..)) ?_
                        | with_reducible refine cast (Eq.symm (w37_7_0  ..)) ?_
                        | with_reducible refine cast (Eq.symm (w37_8_0  ..)) ?_
                        | with_reducible refine cast (Eq.symm (w37_9_0  ..)) ?_
                        | with_reducible refine cast (Eq.symm (w37_10_0  ..)) ?_
                        | with_reducible refine cast (Eq.symm (w37_11_0  ..)) ?_
                        | with_reducible refine cast (Eq.symm (w37_12_0  ..)) ?_
                        | with_reducible refine cast (Eq.symm (w37_13_0  ..)) ?_
                        | with_reducible refine cast (Eq.symm (a37_0 ..)) ?_
                        | with_reducible refine cast (Eq.symm (a37_1 ..)) ?_
                        | with_reducible refine cast (Eq.symm (a37_2 ..)) ?_
                        | with_reducible refine cast (Eq.symm (a37_3 ..)) ?_
                        | with_reducible refine cast (Eq.symm (a37_4 ..)) ?_
                        | with_reducible refine cast (Eq.symm (a37_5 ..)) ?_
                        | with_reducible refine cast (Eq.symm (a37_6 ..)) ?_
                        | with_reducible refine cast (Eq.symm (a37_7 ..)) ?_
                        | with_reducible refine cast (Eq.symm (a37_8 ..)) ?_
                        | with_reducible refine cast (Eq.symm (a37_9 ..)) ?_
                        | with_reducible refine cast (Eq.symm (a37_10 ..)) ?_
                        | with_reducible refine cast (Eq.symm (a37_11 ..)) ?_
                        | with_reducible refine cast (Eq.symm (a37_12 ..)) ?_
                        | with_reducible refine cast (Eq.symm (a37_13 ..)) ?_
                        | with_reducible refine res_nil (by with_unfolding_all rfl) ?_
                        | with_reducible refine res_one (by with_unfolding_all rfl) (by with_unfolding_all rfl) ?_
                        | with_reducible refine res_two (by with_unfolding_all rfl) (by with_unfolding_all rfl) (by with_unfolding_all rfl) ?_
                        | rw [lget_s]
                        | rw [lget_z]
      refine ⟨n, by omega, j + 1, stepB (stepA r g), ?_, rfl, by omega, nxt⟩
      rw [show IntKind.i64.wrap (((8 * j : Nat) : Int) + 8) = ((8 * (j + 1) : Nat) : Int) from by rw [w64 (by omega)]; omega]
      exact (JI37_3 ..)
    · rw [← fin (by omega)] at nxt
      repeat' first
                        | with_reducible refine And.intro (by decide : (0 : Int) ≤ 29) ?_
                        | with_reducible refine And.intro (@rfl Go.IntKind _) ?_
                        | with_reducible refine oget_gInt (gload_at (by first | assumption | exact at_new | exact at_append (by assumption) | exact at_set (by assumption) | exact at_append (at_append (by assumption)) | exact at_set (at_set (by assumption)) | exact at_set (at_append (by assumption)) | exact at_set (at_set (at_append (by assumption))) | exact at_set (at_set (at_set (by assumption))) | exact at_set_ne (by assumption) (by assumption)) (by with_unfolding_all rfl)) ?_
                        | with_reducible refine oget_gSlice (gload_at (by first | assumption | exact at_new | exact at_append (by assumption) | exact at_set (by assumption) | exact at_append (at_append (by assumption)) | exact at_set (at_set (by assumption)) | exact at_set (at_append (by assumption)) | exact at_set (at_set (at_append (by assumption))) | exact at_set (at_set (at_set (by assumption))) | exact at_set_ne (by assumption) (by assumption)) (by with_unfolding_all rfl)) ?_
                        | with_reducible refine oget_gMap (gload_at (by first | assumption | exact at_new | exact at_append (by assumption) | exact at_set (by assumption) | exact at_append (at_append (by assumption)) | exact at_set (at_set (by assumption)) | exact at_set (at_append (by assumption)) | exact at_set (at_set (at_append (by assumption))) | exact at_set (at_set (at_set (by assumption))) | exact at_set_ne (by assumption) (by assumption)) (by with_unfolding_all rfl)) ?_
                        | with_reducible refine oget_gBool (gload_at (by first | assumption | exact at_new | exact at_append (by assumption) | exact at_set (by assumption) | exact at_append (at_append (by assumption)) | exact at_set (at_set (by assumption)) | exact at_set (at_append (by assumption)) | exact at_set (at_set (at_append (by assumption))) | exact at_set (at_set (at_set (by assumption))) | exact at_set_ne (by assumption) (by assumption)) (by with_unfolding_all rfl)) ?_
                        | with_reducible refine oget_gPtr (gload_at (by first | assumption | exact at_new | exact at_append (by assumption) | exact at_set (by assumption) | exact at_append (at_append (by assumption)) | exact at_set (at_set (by assumption)) | exact at_set (at_append (by assumption)) | exact at_set (at_set (at_append (by assumption))) | exact at_set (at_set (at_set (by assumption))) | exact at_set_ne (by assumption) (by assumption)) (by with_unfolding_all rfl)) ?_
                        | with_reducible refine gCons_of ?_
                        | with_reducible refine gInt_of ?_
                        | with_reducible refine gBool_of ?_
                        | with_reducible refine gNil_of ?_
                        | with_reducible refine gTup_of ?_
                        | with_reducible refine vsplit_iff.2 ?_
                        | with_reducible refine gAgg_of ?_
                        | with_reducible refine oget_of (gstore_at1 (by first | assumption | exact at_new | exact at_append (by assumption) | exact at_set (by assumption) | exact at_append (at_append (by assumption)) | exact at_set (at_set (by assumption)) | exact at_set (at_append (by assumption)) | exact at_set (at_set (at_append (by assumption))) | exact at_set (at_set (at_set (by assumption))) | exact at_set_ne (by assumption) (by assumption)) (by decide) (by simp) (by with_unfolding_all rfl)) ?_
                        | with_reducible refine bsplit_of (fun hb => ?_) (fun hb => ?_) <;> try simp only [beq_iff_eq, beq_eq_false_iff_ne, ne_eq, bne_iff_ne, bne_eq_false_iff_eq, decide_eq_true_eq, decide_eq_false_iff_not, Int.not_lt, Int.not_le, ge_iff_le, gt_iff_lt] at hb
                        | with_reducible refine cast (Eq.symm (w37_0_0  ..)) ?_
                        | with_reducible refine cast (Eq.symm (w37_1_0  ..)) ?_
                        | with_reducible refine cast (Eq.symm (w37_2_0  ..)) ?_
                        | with_reducible refine cast (Eq.symm (w37_3_0 (h14_0 := by with_unfolding_all rfl) ..)) ?_
                        | with_reducible refine cast (Eq.symm (w37_3_1 (h14_0 := by with_unfolding_all rfl) ..)) ?_
                        | with_reducible refine cast (Eq.symm (w37_4_0  ..)) ?_
                        | with_reducible refine cast (Eq.symm (w37_5_0  ..)) ?_
                        | with_reducible refine cast (Eq.symm (w37_6_0 (h26_0 := by with_unfolding_all rfl) ..)) ?_
                        | with_reducible refine cast (Eq.symm (w37_6_1 (h26_0 := by with_unfolding_all rfl) ..)) ?_
                        | with_reducible refine cast (Eq.symm (w37_7_0  ..)) ?_
                        | with_reducible refine cast (Eq.symm (w37_8_0  ..)) ?_
                        | with_reducible refine cast (Eq.symm (w37_9_0  ..)) ?_
                        | with_reducible refine cast (Eq.symm (w37_10_0  ..)) ?_
                        | with_reducible refine cast (Eq.symm (w37_11_0  ..)) ?_
                        | with_reducible refine cast (Eq.symm (w37_12_0  ..)) ?_
                        | with_reducible refine cast (Eq.symm (w37_13_0  ..)) ?_
                        | with_reducible refine cast (Eq.symm (a37_0 ..)) ?_
                        | with_reducible refine cast (Eq.symm (a37_1 ..)) ?_
                        | with_reducible refine cast (Eq.symm (a37_2 ..)) ?_
                        | with_reducible refine cast (Eq.symm (a37_3 ..)) ?_
                        | with_reducible refine cast (Eq.symm (a37_4 ..)) ?_
                        | with_reducible refine cast (Eq.symm (a37_5 ..)) ?_
                        | with_reducible refine cast (Eq.symm (a37_6 ..)) ?_
                        | with_reducible refine cast (Eq.symm (a37_7 ..)) ?_
                        | with_reducible refine cast (Eq.symm (a37_8 ..)) ?_
                        | with_reducible refine cast (Eq.symm (a37_9 ..)) ?_
                        | with_reducible refine cast (Eq.symm (a37_10 ..)) ?_
                        | with_reducible refine cast (Eq.symm (a37_11 ..)) ?_
                        | with_reducible refine cast (Eq.symm (a37_12 ..)) ?_
                        | with_reducible refine cast (Eq.symm (a37_13 ..)) ?_
                        | with_reducible refine res_nil (by with_unfolding_all rfl) ?_
                        | with_reducible refine res_one (by with_unfolding_all rfl) (by with_unfolding_all rfl) ?_
                        | with_reducible refine res_two (by with_unfolding_all rfl) (by with_unfolding_all rfl) (by with_unfolding_all rfl) ?_
                        | rw [lget_s]
                        | rw [lget_z]
      refine ⟨n, by omega, j + 1, stepB (stepA r g), ?_, rfl, by omega, nxt⟩
      rw [show IntKind.i64.wrap (((8 * j : Nat) : Int) + 8) = ((8 * (j + 1) : Nat) : Int) from by rw [w64 (by omega)]; omega]
      exact (JI37_3 ..)
  · have e0 : n = 0 := by omega
    subst e0
    have hf2 : r = mixN ((m + 7) / 8) bs (xor64 seed 2611923443488327891) := hf
    repeat' first
                        | with_reducible refine And.intro (by decide : (0 : Int) ≤ 32) ?_
                        | with_reducible refine And.intro (@rfl Go.IntKind _) ?_
                        | with_reducible refine oget_gInt (gload_at (by first | assumption | exact at_new | exact at_append (by assumption) | exact at_set (by assumption) | exact at_append (at_append (by assumption)) | exact at_set (at_set (by assumption)) | exact at_set (at_append (by assumption)) | exact at_set (at_set (at_append (by assumption))) | exact at_set (at_set (at_set (by assumption))) | exact at_set_ne (by assumption) (by assumption)) (by with_unfolding_all rfl)) ?_
                        | with_reducible refine oget_gSlice (gload_at (by first | assumption | exact at_new | exact at_append (by assumption) | exact at_set (by assumption) | exact at_append (at_append (by assumption)) | exact at_set (at_set (by assumption)) | exact at_set (at_append (by assumption)) | exact at_set (at_set (at_append (by assumption))) | exact at_set (at_set (at_set (by assumption))) | exact at_set_ne (by assumption) (by assumption)) (by with_unfolding_all rfl)) ?_
                        | with_reducible refine oget_gMap (gload_at (by first | assumption | exact at_new | exact at_append (by assumption) | exact at_set (by assumption) | exact at_append (at_append (by assumption)) | exact at_set (at_set (by assumption)) | exact at_set (at_append (by assumption)) | exact at_set (at_set (at_append (by assumption))) | exact at_set (at_set (at_set (by assumption))) | exact at_set_ne (by assumption) (by assumption)) (by with_unfolding_all rfl)) ?_
                        | with_reducible refine oget_gBool (gload_at (by first | assumption | exact at_new | exact at_append (by assumption) | exact at_set (by assumption) | exact at_append (at_append (by assumption)) | exact at_set (at_set (by assumption)) | exact at_set (at_append (by assumption)) | exact at_set (at_set (at_append (by assumption))) | exact at_set (at_set (at_set (by assumption))) | exact at_set_ne (by assumption) (by assumption)) (by with_unfolding_all rfl)) ?_
                        | with_reducible refine oget_gPtr (gload_at (by first | assumption | exact at_new | exact at_append (by assumption) | exact at_set (by assumption) | exact at_append (at_append (by assumption)) | exact at_set (at_set (by assumption)) | exact at_set (at_append (by assumption)) | exact at_set (at_set (at_append (by assumption))) | exact at_set (at_set (at_set (by assumption))) | exact at_set_ne (by assumption) (by assumption)) (by with_unfolding_all rfl)) ?_
                        | with_reducible refine gCons_of ?_
                        | with_reducible refine gInt_of ?_
                        | with_reducible refine gBool_of ?_
                        | with_reducible refine gNil_of ?_
                        | with_reducible refine gTup_of ?_
                        | with_reducible refine vsplit_iff.2 ?_
                        | with_reducible refine gAgg_of ?_
                        | with_reducible refine oget_of (gstore_at1 (by first | assumption | exact at_new | exact at_append (by assumption) | exact at_set (by assumption) | exact at_append (at_append (by assumption)) | exact at_set (at_set (by assumption)) | exact at_set (at_append (by assumption)) | exact at_set (at_set (at_append (by assumption))) | exact at_set (at_set (at_set (by assumption))) | exact at_set_ne (by assumption) (by assumption)) (by decide) (by simp) (by with_unfolding_all rfl)) ?_
                        | with_reducible refine bsplit_of (fun hb => ?_) (fun hb => ?_) <;> try simp only [beq_iff_eq, beq_eq_false_iff_ne, ne_eq, bne_iff_ne, bne_eq_false_iff_eq, decide_eq_true_eq, decide_eq_false_iff_not, Int.not_lt, Int.not_le, ge_iff_le, gt_iff_lt] at hb
                        | with_reducible refine cast (Eq.symm (w37_0_0  ..)) ?_
                        | with_reducible refine cast (Eq.symm (w37_1_0  ..)) ?_
                        | with_reducible refine cast (Eq.symm (w37_2_0  ..)) ?_
                        | with_reducible refine cast (Eq.symm (w37_3_0 (h14_0 := by with_unfolding_all rfl) ..)) ?_
                        | with_reducible refine cast (Eq.symm (w37_3_1 (h14_0 := by with_unfolding_all rfl) ..)) ?_
                        | with_reducible refine cast (Eq.symm (w37_4_0  ..)) ?_
                        | with_reducible refine cast (Eq.symm (w37_5_0  ..)) ?_
                        | with_reducible refine cast (Eq.symm (w37_6_0 (h26_0 := by with_unfolding_all rfl) ..)) ?_
                        | with_reducible refine cast (Eq.symm (w37_6_1 (h26_0 := by with_unfolding_all rfl) ..)) ?_
                        | with_reducible refine cast (Eq.symm (w37_7_0  ..)) ?_
                        | with_reducible refine cast (Eq.symm (w37_8_0  ..)) ?_
                        | with_reducible refine cast (Eq.symm (w37_9_0  ..)) ?_
                        | with_reducible refine cast (Eq.symm (w37_10_0  ..)) ?_
                        | with_reducible refine cast (Eq.symm (w37_11_0  ..)) ?_
                        | with_reducible refine cast (Eq.symm (w37_12_0  ..)) ?_
                        | with_reducible refine cast (Eq.symm (w37_13_0  ..)) ?_
                        | with_reducible refine cast (Eq.symm (a37_0 ..)) ?_
                        | with_reducible refine cast (Eq.symm (a37_1 ..)) ?_
                        | with_reducible refine cast (Eq.symm (a37_2 ..)) ?_
                        | with_reducible refine cast (Eq.symm (a37_3 ..)) ?_
                        | with_reducible refine cast (Eq.symm (a37_4 ..)) ?_
                        | with_reducible refine cast (Eq.symm (a37_5 ..)) ?_
                        | with_reducible refine cast (Eq.symm (a37_6 ..)) ?_
                        | with_reducible refine cast (Eq.symm (a37_7 ..)) ?_
                        | with_reducible refine cast (Eq.symm (a37_8 ..)) ?_
                        | with_reducible refine cast (Eq.symm (a37_9 ..)) ?_
                        | with_reducible refine cast (Eq.symm (a37_10 ..)) ?_
                        | with_reducible refine cast (Eq.symm (a37_11 ..)) ?_
                        | with_reducible refine cast (Eq.symm (a37_12 ..)) ?_
                        | with_reducible refine cast (Eq.symm (a37_13 ..)) ?_
                        | with_reducible refine res_nil (by with_unfolding_all rfl) ?_
                        | with_reducible refine res_one (by with_unfolding_all rfl) (by with_unfolding_all rfl) ?_
                        | with_reducible refine res_two (by with_unfolding_all rfl) (by with_unfolding_all rfl) (by with_unfolding_all rfl) ?_
                        | rw [lget_s]
                        | rw [lget_z]
    refine ⟨?_, rfl⟩
    subst hlen
    unfold mixR
    rw [← hf2]
    rfl
end Go.Proofs.YtkcjbgepmkhdaaaGreatDoor
