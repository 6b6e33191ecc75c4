/- Mix, the program's: joined; no condition. -/
import Derived.Test.YtkcjbgepmkhdaaaGreatDoorQf
set_option linter.defProp false
set_option linter.unusedSimpArgs false
set_option linter.unusedVariables false
set_option linter.unnecessarySimpa false
open Go Gh Go.Proofs
namespace Go.Proofs.YtkcjbgepmkhdaaaGreatDoor
set_option maxRecDepth 100000
theorem pre_of {h g : GHeap} (hpre : ∀ (i : Nat) (o : GObj), h00[i]? = some o → h[i]? = some o) (hs : ∀ i, i < h.length → g[i]? = h[i]?) : ∀ (i : Nat) (o : GObj), h00[i]? = some o → g[i]? = some o := by
  intro i o ho
  have := hpre i o ho
  rw [hs i (lt_of_at this)]; exact this
set_option maxHeartbeats 1000000 in
theorem mix36 {a : Option (Nat × Nat)} {m c : Nat} {o : Option Nat} {h : GHeap} {bs : List Int} (B : BL h a m c bs) (ho : o = none ∨ o = some 1) (hin : ∀ id off, a = some (id, off) → id < h.length)
    (hpre : ∀ (i : Nat) (o : GObj), h00[i]? = some o → h[i]? = some o) (seed : Int) :
    CallsG Tryz.prog gl1 36 [.int .u64 seed, .slice a m c o] h fun r h' => r = .int .u64 (mixR seed bs) ∧ h' = h := by
  refine CallsG.forget ((?_ : CallsG Tryz.prog gl1 36 [.int .u64 seed, .slice a m c o] h fun r h' => r = .int .u64 (mixR seed bs) ∧ ∀ i, i < h.length → h'[i]? = h[i]?).mono ?_)
  · have hlen := B.len
    refine pt_call (c := bodyOf Tryz.f36) hD (fn := Tryz.f36) rfl rfl ?_; refine cast (Eq.symm (b36 ..)) ?_
    repeat' first
                        | with_reducible refine And.intro (@rfl Go.IntKind _) ?_
                        | with_reducible refine oget_gInt (gload_at (by first | assumption | exact at_new | exact at_append (by assumption) | exact at_set (by assumption) | exact at_append (at_append (by assumption)) | exact at_set (at_set (by assumption)) | exact at_set (at_append (by assumption)) | exact at_set (at_set (at_append (by assumption))) | exact at_set (at_set (at_set (by assumption))) | exact at_set_ne (by assumption) (by assumption)) (by with_unfolding_all rfl)) ?_
                        | with_reducible refine oget_gSlice (gload_at (by first | assumption | exact at_new | exact at_append (by assumption) | exact at_set (by assumption) | exact at_append (at_append (by assumption)) | exact at_set (at_set (by assumption)) | exact at_set (at_append (by assumption)) | exact at_set (at_set (at_append (by assumption))) | exact at_set (at_set (at_set (by assumption))) | exact at_set_ne (by assumption) (by assumption)) (by with_unfolding_all rfl)) ?_
                        | with_reducible refine oget_gMap (gload_at (by first | assumption | exact at_new | exact at_append (by assumption) | exact at_set (by assumption) | exact at_append (at_append (by assumption)) | exact at_set (at_set (by assumption)) | exact at_set (at_append (by assumption)) | exact at_set (at_set (at_append (by assumption))) | exact at_set (at_set (at_set (by assumption))) | exact at_set_ne (by assumption) (by assumption)) (by with_unfolding_all rfl)) ?_
                        | with_reducible refine oget_gBool (gload_at (by first | assumption | exact at_new | exact at_append (by assumption) | exact at_set (by assumption) | exact at_append (at_append (by assumption)) | exact at_set (at_set (by assumption)) | exact at_set (at_append (by assumption)) | exact at_set (at_set (at_append (by assumption))) | exact at_set (at_set (at_set (by assumption))) | exact at_set_ne (by assumption) (by assumption)) (by with_unfolding_all rfl)) ?_
                        | with_reducible refine oget_gPtr (gload_at (by first | assumption | exact at_new | exact at_append (by assumption) | exact at_set (by assumption) | exact at_append (at_append (by assumption)) | exact at_set (at_set (by assumption)) | exact at_set (at_append (by assumption)) | exact at_set (at_set (at_append (by assumption))) | exact at_set (at_set (at_set (by assumption))) | exact at_set_ne (by assumption) (by assumption)) (by with_unfolding_all rfl)) ?_
                        | with_reducible refine gCons_of ?_
                        | with_reducible refine gInt_of ?_
                        | with_reducible refine gBool_of ?_
                        | with_reducible refine gNil_of ?_
                        | with_reducible refine gTup_of ?_
                        | with_reducible refine vsplit_iff.2 ?_
                        | with_reducible refine gAgg_of ?_
                        | with_reducible refine oget_of (gstore_at1 (by first | assumption | exact at_new | exact at_append (by assumption) | exact at_set (by assumption) | exact at_append (at_append (by assumption)) | exact at_set (at_set (by assumption)) | exact at_set (at_append (by assumption)) | exact at_set (at_set (at_append (by assumption))) | exact at_set (at_set (at_set (by assumption))) | exact at_set_ne (by assumption) (by assumption)) (by decide) (by simp) (by with_unfolding_all rfl)) ?_
                        | with_reducible refine bsplit_of (fun hb => ?_) (fun hb => ?_) <;> try simp only [beq_iff_eq, beq_eq_false_iff_ne, ne_eq, bne_iff_ne, bne_eq_false_iff_eq, decide_eq_true_eq, decide_eq_false_iff_not, Int.not_lt, Int.not_le, ge_iff_le, gt_iff_lt] at hb
                        | with_reducible refine cast (Eq.symm (w36_0_0  ..)) ?_
                        | with_reducible refine cast (Eq.symm (w36_1_0  ..)) ?_
                        | with_reducible refine cast (Eq.symm (w36_2_0  ..)) ?_
                        | with_reducible refine cast (Eq.symm (w36_3_0  ..)) ?_
                        | with_reducible refine cast (Eq.symm (w36_4_0  ..)) ?_
                        | with_reducible refine cast (Eq.symm (a36_0 ..)) ?_
                        | with_reducible refine cast (Eq.symm (a36_1 ..)) ?_
                        | with_reducible refine cast (Eq.symm (a36_2 ..)) ?_
                        | with_reducible refine cast (Eq.symm (a36_3 ..)) ?_
                        | with_reducible refine cast (Eq.symm (a36_4 ..)) ?_
                        | with_reducible refine res_nil (by with_unfolding_all rfl) ?_
                        | with_reducible refine res_one (by with_unfolding_all rfl) (by with_unfolding_all rfl) ?_
                        | with_reducible refine res_two (by with_unfolding_all rfl) (by with_unfolding_all rfl) (by with_unfolding_all rfl) ?_
                        | rw [lget_s]
                        | rw [lget_z]
    refine (number69 hpre).mono ?_
    rintro _ _ ⟨rfl, rfl⟩
    repeat' first
                        | with_reducible refine And.intro (@rfl Go.IntKind _) ?_
                        | with_reducible refine oget_gInt (gload_at (by first | assumption | exact at_new | exact at_append (by assumption) | exact at_set (by assumption) | exact at_append (at_append (by assumption)) | exact at_set (at_set (by assumption)) | exact at_set (at_append (by assumption)) | exact at_set (at_set (at_append (by assumption))) | exact at_set (at_set (at_set (by assumption))) | exact at_set_ne (by assumption) (by assumption)) (by with_unfolding_all rfl)) ?_
                        | with_reducible refine oget_gSlice (gload_at (by first | assumption | exact at_new | exact at_append (by assumption) | exact at_set (by assumption) | exact at_append (at_append (by assumption)) | exact at_set (at_set (by assumption)) | exact at_set (at_append (by assumption)) | exact at_set (at_set (at_append (by assumption))) | exact at_set (at_set (at_set (by assumption))) | exact at_set_ne (by assumption) (by assumption)) (by with_unfolding_all rfl)) ?_
                        | with_reducible refine oget_gMap (gload_at (by first | assumption | exact at_new | exact at_append (by assumption) | exact at_set (by assumption) | exact at_append (at_append (by assumption)) | exact at_set (at_set (by assumption)) | exact at_set (at_append (by assumption)) | exact at_set (at_set (at_append (by assumption))) | exact at_set (at_set (at_set (by assumption))) | exact at_set_ne (by assumption) (by assumption)) (by with_unfolding_all rfl)) ?_
                        | with_reducible refine oget_gBool (gload_at (by first | assumption | exact at_new | exact at_append (by assumption) | exact at_set (by assumption) | exact at_append (at_append (by assumption)) | exact at_set (at_set (by assumption)) | exact at_set (at_append (by assumption)) | exact at_set (at_set (at_append (by assumption))) | exact at_set (at_set (at_set (by assumption))) | exact at_set_ne (by assumption) (by assumption)) (by with_unfolding_all rfl)) ?_
                        | with_reducible refine oget_gPtr (gload_at (by first | assumption | exact at_new | exact at_append (by assumption) | exact at_set (by assumption) | exact at_append (at_append (by assumption)) | exact at_set (at_set (by assumption)) | exact at_set (at_append (by assumption)) | exact at_set (at_set (at_append (by assumption))) | exact at_set (at_set (at_set (by assumption))) | exact at_set_ne (by assumption) (by assumption)) (by with_unfolding_all rfl)) ?_
                        | with_reducible refine gCons_of ?_
                        | with_reducible refine gInt_of ?_
                        | with_reducible refine gBool_of ?_
                        | with_reducible refine gNil_of ?_
                        | with_reducible refine gTup_of ?_
                        | with_reducible refine vsplit_iff.2 ?_
                        | with_reducible refine gAgg_of ?_
                        | with_reducible refine oget_of (gstore_at1 (by first | assumption | exact at_new | exact at_append (by assumption) | exact at_set (by assumption) | exact at_append (at_append (by assumption)) | exact at_set (at_set (by assumption)) | exact at_set (at_append (by assumption)) | exact at_set (at_set (at_append (by assumption))) | exact at_set (at_set (at_set (by assumption))) | exact at_set_ne (by assumption) (by assumption)) (by decide) (by simp) (by with_unfolding_all rfl)) ?_
                        | with_reducible refine bsplit_of (fun hb => ?_) (fun hb => ?_) <;> try simp only [beq_iff_eq, beq_eq_false_iff_ne, ne_eq, bne_iff_ne, bne_eq_false_iff_eq, decide_eq_true_eq, decide_eq_false_iff_not, Int.not_lt, Int.not_le, ge_iff_le, gt_iff_lt] at hb
                        | with_reducible refine cast (Eq.symm (w36_0_0  ..)) ?_
                        | with_reducible refine cast (Eq.symm (w36_1_0  ..)) ?_
                        | with_reducible refine cast (Eq.symm (w36_2_0  ..)) ?_
                        | with_reducible refine cast (Eq.symm (w36_3_0  ..)) ?_
                        | with_reducible refine cast (Eq.symm (w36_4_0  ..)) ?_
                        | with_reducible refine cast (Eq.symm (a36_0 ..)) ?_
                        | with_reducible refine cast (Eq.symm (a36_1 ..)) ?_
                        | with_reducible refine cast (Eq.symm (a36_2 ..)) ?_
                        | with_reducible refine cast (Eq.symm (a36_3 ..)) ?_
                        | with_reducible refine cast (Eq.symm (a36_4 ..)) ?_
                        | with_reducible refine res_nil (by with_unfolding_all rfl) ?_
                        | with_reducible refine res_one (by with_unfolding_all rfl) (by with_unfolding_all rfl) ?_
                        | with_reducible refine res_two (by with_unfolding_all rfl) (by with_unfolding_all rfl) (by with_unfolding_all rfl) ?_
                        | rw [lget_s]
                        | rw [lget_z]
    refine (number69b hpre).mono ?_
    rintro _ _ ⟨rfl, rfl⟩
    repeat' first
                        | with_reducible refine And.intro (@rfl Go.IntKind _) ?_
                        | with_reducible refine oget_gInt (gload_at (by first | assumption | exact at_new | exact at_append (by assumption) | exact at_set (by assumption) | exact at_append (at_append (by assumption)) | exact at_set (at_set (by assumption)) | exact at_set (at_append (by assumption)) | exact at_set (at_set (at_append (by assumption))) | exact at_set (at_set (at_set (by assumption))) | exact at_set_ne (by assumption) (by assumption)) (by with_unfolding_all rfl)) ?_
                        | with_reducible refine oget_gSlice (gload_at (by first | assumption | exact at_new | exact at_append (by assumption) | exact at_set (by assumption) | exact at_append (at_append (by assumption)) | exact at_set (at_set (by assumption)) | exact at_set (at_append (by assumption)) | exact at_set (at_set (at_append (by assumption))) | exact at_set (at_set (at_set (by assumption))) | exact at_set_ne (by assumption) (by assumption)) (by with_unfolding_all rfl)) ?_
                        | with_reducible refine oget_gMap (gload_at (by first | assumption | exact at_new | exact at_append (by assumption) | exact at_set (by assumption) | exact at_append (at_append (by assumption)) | exact at_set (at_set (by assumption)) | exact at_set (at_append (by assumption)) | exact at_set (at_set (at_append (by assumption))) | exact at_set (at_set (at_set (by assumption))) | exact at_set_ne (by assumption) (by assumption)) (by with_unfolding_all rfl)) ?_
                        | with_reducible refine oget_gBool (gload_at (by first | assumption | exact at_new | exact at_append (by assumption) | exact at_set (by assumption) | exact at_append (at_append (by assumption)) | exact at_set (at_set (by assumption)) | exact at_set (at_append (by assumption)) | exact at_set (at_set (at_append (by assumption))) | exact at_set (at_set (at_set (by assumption))) | exact at_set_ne (by assumption) (by assumption)) (by with_unfolding_all rfl)) ?_
                        | with_reducible refine oget_gPtr (gload_at (by first | assumption | exact at_new | exact at_append (by assumption) | exact at_set (by assumption) | exact at_append (at_append (by assumption)) | exact at_set (at_set (by assumption)) | exact at_set (at_append (by assumption)) | exact at_set (at_set (at_append (by assumption))) | exact at_set (at_set (at_set (by assumption))) | exact at_set_ne (by assumption) (by assumption)) (by with_unfolding_all rfl)) ?_
                        | with_reducible refine gCons_of ?_
                        | with_reducible refine gInt_of ?_
                        | with_reducible refine gBool_of ?_
                        | with_reducible refine gNil_of ?_
                        | with_reducible refine gTup_of ?_
                        | with_reducible refine vsplit_iff.2 ?_
                        | with_reducible refine gAgg_of ?_
                        | with_reducible refine oget_of (gstore_at1 (by first | assumption | exact at_new | exact at_append (by assumption) | exact at_set (by assumption) | exact at_append (at_append (by assumption)) | exact at_set (at_set (by assumption)) | exact at_set (at_append (by assumption)) | exact at_set (at_set (at_append (by assumption))) | exact at_set (at_set (at_set (by assumption))) | exact at_set_ne (by assumption) (by assumption)) (by decide) (by simp) (by with_unfolding_all rfl)) ?_
                        | with_reducible refine bsplit_of (fun hb => ?_) (fun hb => ?_) <;> try simp only [beq_iff_eq, beq_eq_false_iff_ne, ne_eq, bne_iff_ne, bne_eq_false_iff_eq, decide_eq_true_eq, decide_eq_false_iff_not, Int.not_lt, Int.not_le, ge_iff_le, gt_iff_lt] at hb
                        | with_reducible refine cast (Eq.symm (w36_0_0  ..)) ?_
                        | with_reducible refine cast (Eq.symm (w36_1_0  ..)) ?_
                        | with_reducible refine cast (Eq.symm (w36_2_0  ..)) ?_
                        | with_reducible refine cast (Eq.symm (w36_3_0  ..)) ?_
                        | with_reducible refine cast (Eq.symm (w36_4_0  ..)) ?_
                        | with_reducible refine cast (Eq.symm (a36_0 ..)) ?_
                        | with_reducible refine cast (Eq.symm (a36_1 ..)) ?_
                        | with_reducible refine cast (Eq.symm (a36_2 ..)) ?_
                        | with_reducible refine cast (Eq.symm (a36_3 ..)) ?_
                        | with_reducible refine cast (Eq.symm (a36_4 ..)) ?_
                        | with_reducible refine res_nil (by with_unfolding_all rfl) ?_
                        | with_reducible refine res_one (by with_unfolding_all rfl) (by with_unfolding_all rfl) ?_
                        | with_reducible refine res_two (by with_unfolding_all rfl) (by with_unfolding_all rfl) (by with_unfolding_all rfl) ?_
                        | rw [lget_s]
                        | rw [lget_z]
    rename_i hh
    refine oget_of (gstore_at1 (at_append at_new) (by decide) (by simp) rfl) ?_
    refine oget_of (gstore_at1 (at_set_ne at_new (by simp)) (by decide) (by simp) rfl) ?_
    have f5 : ((((hh ++ [GObj.cells [GVal.int IntKind.u64 0] CM.rw] ++ [GObj.cells [GVal.int IntKind.u64 0] CM.rw]).set hh.length (.cells ([GVal.int IntKind.u64 0].set 0 (GVal.int IntKind.u64 (IntKind.u64.wrap ↑(BitVec.ofInt 64 seed ^^^ BitVec.ofInt 64 2611923443488327891).toNat))) .rw)).set (hh ++ [GObj.cells [GVal.int IntKind.u64 0] CM.rw]).length (.cells ([GVal.int IntKind.u64 0].set 0 (GVal.int IntKind.u64 11400714819323198485)) .rw)))[hh.length]? = some (.cells [.int .u64 (xor64 seed 2611923443488327891)] .rw) := by
      rw [List.getElem?_set_ne (by simp)]
      exact List.getElem?_set_self (by simp)
    have f6 : ((((hh ++ [GObj.cells [GVal.int IntKind.u64 0] CM.rw] ++ [GObj.cells [GVal.int IntKind.u64 0] CM.rw]).set hh.length (.cells ([GVal.int IntKind.u64 0].set 0 (GVal.int IntKind.u64 (IntKind.u64.wrap ↑(BitVec.ofInt 64 seed ^^^ BitVec.ofInt 64 2611923443488327891).toNat))) .rw)).set (hh ++ [GObj.cells [GVal.int IntKind.u64 0] CM.rw]).length (.cells ([GVal.int IntKind.u64 0].set 0 (GVal.int IntKind.u64 11400714819323198485)) .rw)))[(hh ++ [GObj.cells [GVal.int IntKind.u64 0] CM.rw]).length]? = some (.cells [.int .u64 11400714819323198485] .rw) :=
      List.getElem?_set_self (by simp)
    have fo : ∀ i, i < hh.length → ((((hh ++ [GObj.cells [GVal.int IntKind.u64 0] CM.rw] ++ [GObj.cells [GVal.int IntKind.u64 0] CM.rw]).set hh.length (.cells ([GVal.int IntKind.u64 0].set 0 (GVal.int IntKind.u64 (IntKind.u64.wrap ↑(BitVec.ofInt 64 seed ^^^ BitVec.ofInt 64 2611923443488327891).toNat))) .rw)).set (hh ++ [GObj.cells [GVal.int IntKind.u64 0] CM.rw]).length (.cells ([GVal.int IntKind.u64 0].set 0 (GVal.int IntKind.u64 11400714819323198485)) .rw)))[i]? = hh[i]? := by
      intro i hi
      rw [List.getElem?_set_ne (by simp; omega), List.getElem?_set_ne (by omega), List.getElem?_append_left (by simp; omega), List.getElem?_append_left hi]
    have fl : (hh ++ [GObj.cells [GVal.int IntKind.u64 0] CM.rw]).length = hh.length + 1 := by simp
    generalize (hh ++ [GObj.cells [GVal.int IntKind.u64 0] CM.rw]).length = i6 at f5 f6 fo fl ⊢
    generalize ((((hh ++ [GObj.cells [GVal.int IntKind.u64 0] CM.rw] ++ [GObj.cells [GVal.int IntKind.u64 0] CM.rw]).set hh.length (.cells ([GVal.int IntKind.u64 0].set 0 (GVal.int IntKind.u64 (IntKind.u64.wrap ↑(BitVec.ofInt 64 seed ^^^ BitVec.ofInt 64 2611923443488327891).toNat))) .rw)).set i6 (.cells ([GVal.int IntKind.u64 0].set 0 (GVal.int IntKind.u64 11400714819323198485)) .rw))) = g5 at f5 f6 fo ⊢
    have l5 := lt_of_at f5
    have l6 := lt_of_at f6
    repeat' first
                        | with_reducible refine And.intro (@rfl Go.IntKind _) ?_
                        | with_reducible refine oget_gInt (gload_at (by first | assumption | exact at_new | exact at_append (by assumption) | exact at_set (by assumption) | exact at_append (at_append (by assumption)) | exact at_set (at_set (by assumption)) | exact at_set (at_append (by assumption)) | exact at_set (at_set (at_append (by assumption))) | exact at_set (at_set (at_set (by assumption))) | exact at_set_ne (by assumption) (by assumption)) (by with_unfolding_all rfl)) ?_
                        | with_reducible refine oget_gSlice (gload_at (by first | assumption | exact at_new | exact at_append (by assumption) | exact at_set (by assumption) | exact at_append (at_append (by assumption)) | exact at_set (at_set (by assumption)) | exact at_set (at_append (by assumption)) | exact at_set (at_set (at_append (by assumption))) | exact at_set (at_set (at_set (by assumption))) | exact at_set_ne (by assumption) (by assumption)) (by with_unfolding_all rfl)) ?_
                        | with_reducible refine oget_gMap (gload_at (by first | assumption | exact at_new | exact at_append (by assumption) | exact at_set (by assumption) | exact at_append (at_append (by assumption)) | exact at_set (at_set (by assumption)) | exact at_set (at_append (by assumption)) | exact at_set (at_set (at_append (by assumption))) | exact at_set (at_set (at_set (by assumption))) | exact at_set_ne (by assumption) (by assumption)) (by with_unfolding_all rfl)) ?_
                        | with_reducible refine oget_gBool (gload_at (by first | assumption | exact at_new | exact at_append (by assumption) | exact at_set (by assumption) | exact at_append (at_append (by assumption)) | exact at_set (at_set (by assumption)) | exact at_set (at_append (by assumption)) | exact at_set (at_set (at_append (by assumption))) | exact at_set (at_set (at_set (by assumption))) | exact at_set_ne (by assumption) (by assumption)) (by with_unfolding_all rfl)) ?_
                        | with_reducible refine oget_gPtr (gload_at (by first | assumption | exact at_new | exact at_append (by assumption) | exact at_set (by assumption) | exact at_append (at_append (by assumption)) | exact at_set (at_set (by assumption)) | exact at_set (at_append (by assumption)) | exact at_set (at_set (at_append (by assumption))) | exact at_set (at_set (at_set (by assumption))) | exact at_set_ne (by assumption) (by assumption)) (by with_unfolding_all rfl)) ?_
                        | with_reducible refine gCons_of ?_
                        | with_reducible refine gInt_of ?_
                        | with_reducible refine gBool_of ?_
                        | with_reducible refine gNil_of ?_
                        | with_reducible refine gTup_of ?_
                        | with_reducible refine vsplit_iff.2 ?_
                        | with_reducible refine gAgg_of ?_
                        | with_reducible refine oget_of (gstore_at1 (by first | assumption | exact at_new | exact at_append (by assumption) | exact at_set (by assumption) | exact at_append (at_append (by assumption)) | exact at_set (at_set (by assumption)) | exact at_set (at_append (by assumption)) | exact at_set (at_set (at_append (by assumption))) | exact at_set (at_set (at_set (by assumption))) | exact at_set_ne (by assumption) (by assumption)) (by decide) (by simp) (by with_unfolding_all rfl)) ?_
                        | with_reducible refine bsplit_of (fun hb => ?_) (fun hb => ?_) <;> try simp only [beq_iff_eq, beq_eq_false_iff_ne, ne_eq, bne_iff_ne, bne_eq_false_iff_eq, decide_eq_true_eq, decide_eq_false_iff_not, Int.not_lt, Int.not_le, ge_iff_le, gt_iff_lt] at hb
                        | with_reducible refine cast (Eq.symm (w36_0_0  ..)) ?_
                        | with_reducible refine cast (Eq.symm (w36_1_0  ..)) ?_
                        | with_reducible refine cast (Eq.symm (w36_2_0  ..)) ?_
                        | with_reducible refine cast (Eq.symm (w36_3_0  ..)) ?_
                        | with_reducible refine cast (Eq.symm (w36_4_0  ..)) ?_
                        | with_reducible refine cast (Eq.symm (a36_0 ..)) ?_
                        | with_reducible refine cast (Eq.symm (a36_1 ..)) ?_
                        | with_reducible refine cast (Eq.symm (a36_2 ..)) ?_
                        | with_reducible refine cast (Eq.symm (a36_3 ..)) ?_
                        | with_reducible refine cast (Eq.symm (a36_4 ..)) ?_
                        | with_reducible refine res_nil (by with_unfolding_all rfl) ?_
                        | with_reducible refine res_one (by with_unfolding_all rfl) (by with_unfolding_all rfl) ?_
                        | with_reducible refine res_two (by with_unfolding_all rfl) (by with_unfolding_all rfl) (by with_unfolding_all rfl) ?_
                        | rw [lget_s]
                        | rw [lget_z]
    refine chunk70.mono ?_
    rintro _ _ ⟨rfl, rfl⟩
    repeat' first
                        | with_reducible refine And.intro (@rfl Go.IntKind _) ?_
                        | with_reducible refine oget_gInt (gload_at (by first | assumption | exact at_new | exact at_append (by assumption) | exact at_set (by assumption) | exact at_append (at_append (by assumption)) | exact at_set (at_set (by assumption)) | exact at_set (at_append (by assumption)) | exact at_set (at_set (at_append (by assumption))) | exact at_set (at_set (at_set (by assumption))) | exact at_set_ne (by assumption) (by assumption)) (by with_unfolding_all rfl)) ?_
                        | with_reducible refine oget_gSlice (gload_at (by first | assumption | exact at_new | exact at_append (by assumption) | exact at_set (by assumption) | exact at_append (at_append (by assumption)) | exact at_set (at_set (by assumption)) | exact at_set (at_append (by assumption)) | exact at_set (at_set (at_append (by assumption))) | exact at_set (at_set (at_set (by assumption))) | exact at_set_ne (by assumption) (by assumption)) (by with_unfolding_all rfl)) ?_
                        | with_reducible refine oget_gMap (gload_at (by first | assumption | exact at_new | exact at_append (by assumption) | exact at_set (by assumption) | exact at_append (at_append (by assumption)) | exact at_set (at_set (by assumption)) | exact at_set (at_append (by assumption)) | exact at_set (at_set (at_append (by assumption))) | exact at_set (at_set (at_set (by assumption))) | exact at_set_ne (by assumption) (by assumption)) (by with_unfolding_all rfl)) ?_
                        | with_reducible refine oget_gBool (gload_at (by first | assumption | exact at_new | exact at_append (by assumption) | exact at_set (by assumption) | exact at_append (at_append (by assumption)) | exact at_set (at_set (by assumption)) | exact at_set (at_append (by assumption)) | exact at_set (at_set (at_append (by assumption))) | exact at_set (at_set (at_set (by assumption))) | exact at_set_ne (by assumption) (by assumption)) (by with_unfolding_all rfl)) ?_
                        | with_reducible refine oget_gPtr (gload_at (by first | assumption | exact at_new | exact at_append (by assumption) | exact at_set (by assumption) | exact at_append (at_append (by assumption)) | exact at_set (at_set (by assumption)) | exact at_set (at_append (by assumption)) | exact at_set (at_set (at_append (by assumption))) | exact at_set (at_set (at_set (by assumption))) | exact at_set_ne (by assumption) (by assumption)) (by with_unfolding_all rfl)) ?_
                        | with_reducible refine gCons_of ?_
                        | with_reducible refine gInt_of ?_
                        | with_reducible refine gBool_of ?_
                        | with_reducible refine gNil_of ?_
                        | with_reducible refine gTup_of ?_
                        | with_reducible refine vsplit_iff.2 ?_
                        | with_reducible refine gAgg_of ?_
                        | with_reducible refine oget_of (gstore_at1 (by first | assumption | exact at_new | exact at_append (by assumption) | exact at_set (by assumption) | exact at_append (at_append (by assumption)) | exact at_set (at_set (by assumption)) | exact at_set (at_append (by assumption)) | exact at_set (at_set (at_append (by assumption))) | exact at_set (at_set (at_set (by assumption))) | exact at_set_ne (by assumption) (by assumption)) (by decide) (by simp) (by with_unfolding_all rfl)) ?_
                        | with_reducible refine bsplit_of (fun hb => ?_) (fun hb => ?_) <;> try simp only [beq_iff_eq, beq_eq_false_iff_ne, ne_eq, bne_iff_ne, bne_eq_false_iff_eq, decide_eq_true_eq, decide_eq_false_iff_not, Int.not_lt, Int.not_le, ge_iff_le, gt_iff_lt] at hb
                        | with_reducible refine cast (Eq.symm (w36_0_0  ..)) ?_
                        | with_reducible refine cast (Eq.symm (w36_1_0  ..)) ?_
                        | with_reducible refine cast (Eq.symm (w36_2_0  ..)) ?_
                        | with_reducible refine cast (Eq.symm (w36_3_0  ..)) ?_
                        | with_reducible refine cast (Eq.symm (w36_4_0  ..)) ?_
                        | with_reducible refine cast (Eq.symm (a36_0 ..)) ?_
                        | with_reducible refine cast (Eq.symm (a36_1 ..)) ?_
                        | with_reducible refine cast (Eq.symm (a36_2 ..)) ?_
                        | with_reducible refine cast (Eq.symm (a36_3 ..)) ?_
                        | with_reducible refine cast (Eq.symm (a36_4 ..)) ?_
                        | with_reducible refine res_nil (by with_unfolding_all rfl) ?_
                        | with_reducible refine res_one (by with_unfolding_all rfl) (by with_unfolding_all rfl) ?_
                        | with_reducible refine res_two (by with_unfolding_all rfl) (by with_unfolding_all rfl) (by with_unfolding_all rfl) ?_
                        | rw [lget_s]
                        | rw [lget_z]
    have hrest : ∀ i, i < g5.length → (g5 ++ [GObj.cells [GVal.slice a m c o] CM.rw] ++ [GObj.cells [GVal.int IntKind.i64 8] CM.rw])[i]? = g5[i]? := fun i hi => by
      rw [List.getElem?_append_left (by simp; omega), List.getElem?_append_left hi]
    have hn5 : ∀ id off, a = some (id, off) → id ≠ hh.length ∧ id < hh.length := fun id off e => ⟨by have := hin id off e; omega, hin id off e⟩
    refine mix36r (i5 := hh.length) (i6 := i6) (q1 := g5.length) (q2 := g5.length + 1) (r0 := xor64 seed 2611923443488327891) (B.at hh.length hn5 fun i hi _ => (hrest i (by omega)).trans (fo i hi)) ho ((hrest _ l5).trans f5) ((hrest _ l6).trans f6) (at_append at_new) ?_ (by omega) (by omega) (by omega)
      (fun id off e => ⟨(hn5 id off e).1, by simp; have := (hn5 id off e).2; omega⟩) (JIg36_0 ..) fun g' h1 h2 => ?_
    · have := at_new (h := g5 ++ [GObj.cells [GVal.slice a m c o] CM.rw]) (o := GObj.cells [GVal.int IntKind.i64 8] CM.rw) (l := [])
      simp at this ⊢
    · have hold : ∀ i, i < hh.length → g'[i]? = hh[i]? := fun i hi => by
        rw [h1 i (by simp; omega) (by omega), hrest i (by omega)]; exact fo i hi
      have hlg := lt_of_at h2
      generalize (g5 ++ [GObj.cells [GVal.slice a m c o] CM.rw] ++ [GObj.cells [GVal.int IntKind.i64 8] CM.rw]) = gg at h1 hrest ⊢
      repeat' first
                        | with_reducible refine And.intro (@rfl Go.IntKind _) ?_
                        | with_reducible refine oget_gInt (gload_at (by first | assumption | exact at_new | exact at_append (by assumption) | exact at_set (by assumption) | exact at_append (at_append (by assumption)) | exact at_set (at_set (by assumption)) | exact at_set (at_append (by assumption)) | exact at_set (at_set (at_append (by assumption))) | exact at_set (at_set (at_set (by assumption))) | exact at_set_ne (by assumption) (by assumption)) (by with_unfolding_all rfl)) ?_
                        | with_reducible refine oget_gSlice (gload_at (by first | assumption | exact at_new | exact at_append (by assumption) | exact at_set (by assumption) | exact at_append (at_append (by assumption)) | exact at_set (at_set (by assumption)) | exact at_set (at_append (by assumption)) | exact at_set (at_set (at_append (by assumption))) | exact at_set (at_set (at_set (by assumption))) | exact at_set_ne (by assumption) (by assumption)) (by with_unfolding_all rfl)) ?_
                        | with_reducible refine oget_gMap (gload_at (by first | assumption | exact at_new | exact at_append (by assumption) | exact at_set (by assumption) | exact at_append (at_append (by assumption)) | exact at_set (at_set (by assumption)) | exact at_set (at_append (by assumption)) | exact at_set (at_set (at_append (by assumption))) | exact at_set (at_set (at_set (by assumption))) | exact at_set_ne (by assumption) (by assumption)) (by with_unfolding_all rfl)) ?_
                        | with_reducible refine oget_gBool (gload_at (by first | assumption | exact at_new | exact at_append (by assumption) | exact at_set (by assumption) | exact at_append (at_append (by assumption)) | exact at_set (at_set (by assumption)) | exact at_set (at_append (by assumption)) | exact at_set (at_set (at_append (by assumption))) | exact at_set (at_set (at_set (by assumption))) | exact at_set_ne (by assumption) (by assumption)) (by with_unfolding_all rfl)) ?_
                        | with_reducible refine oget_gPtr (gload_at (by first | assumption | exact at_new | exact at_append (by assumption) | exact at_set (by assumption) | exact at_append (at_append (by assumption)) | exact at_set (at_set (by assumption)) | exact at_set (at_append (by assumption)) | exact at_set (at_set (at_append (by assumption))) | exact at_set (at_set (at_set (by assumption))) | exact at_set_ne (by assumption) (by assumption)) (by with_unfolding_all rfl)) ?_
                        | with_reducible refine gCons_of ?_
                        | with_reducible refine gInt_of ?_
                        | with_reducible refine gBool_of ?_
                        | with_reducible refine gNil_of ?_
                        | with_reducible refine gTup_of ?_
                        | with_reducible refine vsplit_iff.2 ?_
                        | with_reducible refine gAgg_of ?_
                        | with_reducible refine oget_of (gstore_at1 (by first | assumption | exact at_new | exact at_append (by assumption) | exact at_set (by assumption) | exact at_append (at_append (by assumption)) | exact at_set (at_set (by assumption)) | exact at_set (at_append (by assumption)) | exact at_set (at_set (at_append (by assumption))) | exact at_set (at_set (at_set (by assumption))) | exact at_set_ne (by assumption) (by assumption)) (by decide) (by simp) (by with_unfolding_all rfl)) ?_
                        | with_reducible refine bsplit_of (fun hb => ?_) (fun hb => ?_) <;> try simp only [beq_iff_eq, beq_eq_false_iff_ne, ne_eq, bne_iff_ne, bne_eq_false_iff_eq, decide_eq_true_eq, decide_eq_false_iff_not, Int.not_lt, Int.not_le, ge_iff_le, gt_iff_lt] at hb
                        | with_reducible refine cast (Eq.symm (w36_0_0  ..)) ?_
                        | with_reducible refine cast (Eq.symm (w36_1_0  ..)) ?_
                        | with_reducible refine cast (Eq.symm (w36_2_0  ..)) ?_
                        | with_reducible refine cast (Eq.symm (w36_3_0  ..)) ?_
                        | with_reducible refine cast (Eq.symm (w36_4_0  ..)) ?_
                        | with_reducible refine cast (Eq.symm (a36_0 ..)) ?_
                        | with_reducible refine cast (Eq.symm (a36_1 ..)) ?_
                        | with_reducible refine cast (Eq.symm (a36_2 ..)) ?_
                        | with_reducible refine cast (Eq.symm (a36_3 ..)) ?_
                        | with_reducible refine cast (Eq.symm (a36_4 ..)) ?_
                        | with_reducible refine res_nil (by with_unfolding_all rfl) ?_
                        | with_reducible refine res_one (by with_unfolding_all rfl) (by with_unfolding_all rfl) ?_
                        | with_reducible refine res_two (by with_unfolding_all rfl) (by with_unfolding_all rfl) (by with_unfolding_all rfl) ?_
                        | rw [lget_s]
                        | rw [lget_z]
      refine (number69c (pre_of hpre hold)).mono ?_
      rintro _ _ ⟨rfl, rfl⟩
      rename_i g2
      have h3 : ∀ v : GVal, (g2.set hh.length (.cells ([GVal.int .u64 (mixN ((m + 7) / 8) bs (xor64 seed 2611923443488327891))].set 0 v) .rw))[hh.length]? = some (.cells [v] .rw) := fun v => List.getElem?_set_self hlg
      refine gInt_of ?_
      refine And.intro (And.intro (gload_at h2 rfl) trivial) (And.intro rfl ?_)
      refine oget_of (gstore_at1 h2 (by decide) (by simp) rfl) ?_
      refine cast (Eq.symm (w36_3_0 ..)) ?_
      refine cast (Eq.symm (a36_4 ..)) ?_
      refine oget_gInt (gload_at (h3 _) rfl) ?_
      refine oget_gInt (gload_at (h3 _) rfl) ?_
      refine And.intro (by decide : (0 : Int) ≤ 32) (And.intro rfl ?_)
      refine cast (Eq.symm (w36_4_0 ..)) ?_
      refine res_one rfl rfl ?_
      refine ⟨?_, fun i hi => ?_⟩
      · subst hlen
        rfl
      · rw [List.getElem?_set_ne (by omega)]
        exact hold i hi
  · rintro r h' ⟨rfl, hst⟩
    exact ⟨rfl, Bare.int, hst⟩
end Go.Proofs.YtkcjbgepmkhdaaaGreatDoor
