/- A map that is nil: New with a nil heap and the methods of a nil map answer as the statement asks, at every key and layout, and the examples hold; no condition. -/
import Derived.Test.YtjdhacapbbakaaaRows
import Derived.Test.YtjdhacapbbakaaaGd
import Derived.Test.YtjdhacapbbakaaaShelf
import Derived.Test.YtjdhacapbbakaaaAwake
import Derived.Test.YtjdhacapbbakaaaGe
import Derived.WalkKit
import Derived.ProofKit
import Derived.OpenShut
import Derived.ShutString
import Derived.ChangeOld
import Derived.Below
import Derived.SizedLaws
open Go Gh
namespace Go.Proofs.Ytjdhacapbbakaaa
set_option maxRecDepth 100000
theorem mix : Try.prog.follows .mixedOrders = true := by kernel_rfl
theorem hD : DrawSound Try.prog gl0 := drawSound mix gl0
def np : FuncId → List GVal → GHeap → Ans := fun _ _ _ => none
theorem npOk : PrimOK Try.prog gl0 np := fun _ _ _ _ h => by cases h
theorem done {f : FuncId} {args : List GVal} {h h' : GHeap} {r : GVal} {Q : GVal → GHeap → Prop} (hx : gcallP Try.prog gl0 np 4 4 f args h = some (r, h')) (hq : Q r h') : CallsG Try.prog gl0 f args h Q :=
  (gcallP_sound hD npOk hx).mono fun a b e => by cases e; exact hq
theorem whenT (e : Int) (h : GHeap) : gcallP Try.prog gl0 np 4 4 37 [.bool true, .int .i64 e] h = some (.int .i64 e, h) := by kernel_rfl
theorem whenF (e : Int) (h : GHeap) : gcallP Try.prog gl0 np 4 4 37 [.bool false, .int .i64 e] h = some (.int .i64 0, h) := by kernel_rfl
theorem first10 (x : Int) : gcallP Try.prog gl0 np 4 4 36 [.slice (some (0, 0)) 2 2 none] [.cells [.int .i64 10, .int .i64 x] .rw] = some (.int .i64 10, [.cells [.int .i64 10, .int .i64 x] .rw]) := by kernel_rfl
noncomputable abbrev p13 (p : List Nat) (Ns : List (List GVal → GHeap → Prop)) (Q : GVal → GHeap → Prop) (t : List GVal) (h : GHeap) : Prop := pt Try.prog gl0 none (bodyOf Try.f13) p Ns (KS Try.prog gl0 Try.f13 Q) t h
theorem at13 (k s : Int) (h : GHeap) (Q : GVal → GHeap → Prop) : p13 [] [] Q [GVal.ptr none, GVal.int IntKind.i64 k, GVal.int IntKind.u64 s, GVal.undef, GVal.undef, GVal.undef, GVal.undef, GVal.undef, GVal.undef, GVal.undef, GVal.undef, GVal.undef, GVal.undef, GVal.undef, GVal.undef, GVal.undef, GVal.undef, GVal.undef, GVal.undef, GVal.undef, GVal.undef, GVal.undef, GVal.undef, GVal.undef, GVal.undef, GVal.undef, GVal.undef, GVal.undef, GVal.undef] (h) = (
 CallsG Try.prog gl0 37 [GVal.bool true, GVal.int IntKind.i64 10] (h) fun r1 h2 =>
  gInt IntKind.i64 (r1) fun n3 =>
  (IntKind.i64 = IntKind.i64) ∧
  bsplit (decide (k < 0))
   ((IntKind.i64 = IntKind.i64) ∧
    bsplit (decide (k ≥ 2))
     (CallsG Try.prog gl0 37 [GVal.bool false, GVal.int IntKind.i64 11] (h2) fun r4 h5 =>
       gInt IntKind.i64 (r4) fun n6 =>
       CallsG Try.prog gl0 36 [GVal.slice (some (List.length h5, 0)) 2 2 none] (h5 ++ [GObj.cells [GVal.int IntKind.i64 n3, GVal.int IntKind.i64 n6] CM.rw]) fun r7 h8 =>
        gInt IntKind.i64 (r7) fun n9 =>
        (IntKind.i64 = IntKind.i64) ∧
        bsplit (n9 != 0)
         (Q (GVal.tuple [GVal.ptr (some (List.length h8, 0)), GVal.int IntKind.i64 0]) (h8 ++ [GObj.cells [GVal.ptr none, GVal.int IntKind.i64 k, GVal.int IntKind.u64 s, GVal.bool false, GVal.slice none 0 0 none, GVal.slice none 0 0 none, GVal.slice none 0 0 none, GVal.slice none 0 0 none, GVal.int IntKind.i64 0] CM.rw]))
         (Q (GVal.tuple [GVal.ptr none, GVal.int IntKind.i64 n9]) (h8)))
     (CallsG Try.prog gl0 37 [GVal.bool true, GVal.int IntKind.i64 11] (h2) fun r10 h11 =>
       gInt IntKind.i64 (r10) fun n12 =>
       CallsG Try.prog gl0 36 [GVal.slice (some (List.length h11, 0)) 2 2 none] (h11 ++ [GObj.cells [GVal.int IntKind.i64 n3, GVal.int IntKind.i64 n12] CM.rw]) fun r13 h14 =>
        gInt IntKind.i64 (r13) fun n15 =>
        (IntKind.i64 = IntKind.i64) ∧
        bsplit (n15 != 0)
         (Q (GVal.tuple [GVal.ptr (some (List.length h14, 0)), GVal.int IntKind.i64 0]) (h14 ++ [GObj.cells [GVal.ptr none, GVal.int IntKind.i64 k, GVal.int IntKind.u64 s, GVal.bool false, GVal.slice none 0 0 none, GVal.slice none 0 0 none, GVal.slice none 0 0 none, GVal.slice none 0 0 none, GVal.int IntKind.i64 0] CM.rw]))
         (Q (GVal.tuple [GVal.ptr none, GVal.int IntKind.i64 n15]) (h14))))
   (CallsG Try.prog gl0 37 [GVal.bool true, GVal.int IntKind.i64 11] (h2) fun r16 h17 =>
     gInt IntKind.i64 (r16) fun n18 =>
     CallsG Try.prog gl0 36 [GVal.slice (some (List.length h17, 0)) 2 2 none] (h17 ++ [GObj.cells [GVal.int IntKind.i64 n3, GVal.int IntKind.i64 n18] CM.rw]) fun r19 h20 =>
      gInt IntKind.i64 (r19) fun n21 =>
      (IntKind.i64 = IntKind.i64) ∧
      bsplit (n21 != 0)
       (Q (GVal.tuple [GVal.ptr (some (List.length h20, 0)), GVal.int IntKind.i64 0]) (h20 ++ [GObj.cells [GVal.ptr none, GVal.int IntKind.i64 k, GVal.int IntKind.u64 s, GVal.bool false, GVal.slice none 0 0 none, GVal.slice none 0 0 none, GVal.slice none 0 0 none, GVal.slice none 0 0 none, GVal.int IntKind.i64 0] CM.rw]))
       (Q (GVal.tuple [GVal.ptr none, GVal.int IntKind.i64 n21]) (h20)))) := by kernel_rfl

noncomputable def bad (k : Int) : Int := if k < 0 then 11 else if k ≥ 2 then 11 else 0
theorem new13 (k s : Int) : CallsG Try.prog gl0 13 [.ptr none, .int .i64 k, .int .u64 s] [] fun a b => (a, b) = (.tuple [.ptr none, .int .i64 10], [.cells [.int .i64 10, .int .i64 (bad k)] .rw]) := by
  refine pt_call (c := bodyOf Try.f13) hD (fn := Try.f13) rfl rfl ?_
  show p13 [] [] _ _ _
  refine cast (at13 k s [] _).symm ?_
  refine done (whenT 10 []) ?_
  refine ⟨rfl, bsplit_of (fun h1 => ?_) (fun h1 => ⟨rfl, bsplit_of (fun h2 => ?_) (fun h2 => ?_)⟩)⟩
  · refine done (whenT 11 []) ?_
    refine done (first10 11) ?_
    refine ⟨rfl, bsplit_of (fun _ => ?_) (fun h => absurd h (by decide))⟩
    have : bad k = 11 := by unfold bad; rw [if_pos (by simpa using h1)]
    rw [this]
  · refine done (whenT 11 []) ?_
    refine done (first10 11) ?_
    refine ⟨rfl, bsplit_of (fun _ => ?_) (fun h => absurd h (by decide))⟩
    have : bad k = 11 := by unfold bad; rw [if_neg (by simpa using h1), if_pos (by simpa using h2)]
    rw [this]
  · refine done (whenF 11 []) ?_
    refine done (first10 0) ?_
    refine ⟨rfl, bsplit_of (fun _ => ?_) (fun h => absurd h (by decide))⟩
    have : bad k = 0 := by unfold bad; rw [if_neg (by simpa using h1), if_neg (by simpa using h2)]
    rw [this]
theorem awake (h : GHeap) : CallsG Try.prog gl0 10 [] h fun r h' => r = .bool true ∧ h' = h :=
  CallsG.closedC hD (joinPrim_ok (k := 57) Try.strings_Join) (fun _ => rfl) awakeTells h
noncomputable def np7 (f : FuncId) (args : List GVal) (h : GHeap) : Ans :=
  if f = 13 then match args, h with
    | [.ptr none, .int .i64 k, .int .u64 _], [] => some (.tuple [.ptr none, .int .i64 10], [.cells [.int .i64 10, .int .i64 (bad k)] .rw])
    | _, _ => none
  else if f = 10 then match args with
    | [] => some (.bool true, h)
    | _ => none
  else none
theorem np7Ok : PrimOK Try.prog gl0 np7 := by
  intro f args h r hx
  unfold np7 at hx
  split at hx
  · rename_i hf; subst hf
    split at hx
    · cases hx; exact new13 _ _
    · cases hx
  · split at hx
    · rename_i hf; subst hf
      split at hx
      · cases hx
        refine (awake h).mono ?_
        rintro a b ⟨rfl, rfl⟩; rfl
      · cases hx
    · cases hx
theorem eval7 (k l : Int) : tells (gcallP Try.prog gl0 np7 10 10 7 [.int .u64 k, .int .i64 l] []) = true := by kernel_rfl
theorem law7 (k l : Int) : CallsG Try.prog gl0 7 [.int .u64 k, .int .i64 l] [] fun r _ => r = .bool true := by
  have hx := eval7 k l
  cases ho : gcallP Try.prog gl0 np7 10 10 7 [.int .u64 k, .int .i64 l] [] with
  | none => rw [ho] at hx; cases hx
  | some r =>
    obtain ⟨v, h'⟩ := r
    rw [ho] at hx
    refine (gcallP_sound hD np7Ok ho).mono fun a b e => ?_
    cases e
    unfold tells at hx
    split at hx
    · rename_i hh; cases hh; rfl
    · cases hx
end Go.Proofs.Ytjdhacapbbakaaa

namespace Go.Proofs.Ytjdhacapbbakaaa.HashmapNothing
open Go.ChangeShapes Go.WideShapes Go.ChangeAt Go.RowKit Gh
set_option linter.unusedVariables false
theorem own : ownKnob Try.prog.godebug = none := by kernel_rfl
set_option maxRecDepth 100000 in
theorem lifted (os : Os) (started : os.Started) (H : Type) (enc : TypeId × Value → H) :
    ReturnsInHanded {} Try.checked os 7 .any (Rows.hashmapNothingSpec.pre6 enc Try.prog Try.f7 Rows.hashmapNothingRow.domain false) (Rows.hashmapNothingSpec.post enc Try.prog Try.f7 false true false false) := by
  refine returnsInHanded_of_change_sized (C := Try.checked) own started (by kernel_rfl) Try.func7
    (ChangeSpec.witness6 (enc := enc) (C := Try.checked) false ⟨#[], #[.int .u64 0, .int .i64 0], []⟩ 8 (by kernel_rfl) (by kernel_rfl) (by kernel_rfl) (by kernel_rfl)) ?_
  intro W base args ds gs before hval0 hW hcnd hsz0 _
  have hval : ∀ (j : Nat) t v, Try.f7.params[j]? = some t → args[j]? = some v → Value.okWide Try.prog W .any base t v := hval0
  have hW' := hW
  obtain ⟨p, q, hA0, hV, rfl, hfz, hnd⟩ := hW
  have hA : DataW.TrodAll enc Try.prog W 0 (fun _ => true) true Try.f7.params.toList args.toList ds p := hA0
  rw [Try.params7] at hA hval
  obtain ⟨v0, vs0, d0, ds0, p0, q0, hargs, rfl, rfl, h0, r0⟩ := trodAll_cons hA
  obtain ⟨v1, vs1, d1, ds1, p1, q1, rfl, rfl, rfl, h1, r1⟩ := trodAll_cons r0
  obtain ⟨rfl, rfl, rfl⟩ := trodAll_nil r1
  obtain rfl : args = #[v0, v1] := by cases args; simp_all
  obtain ⟨rfl, rfl⟩ := trodVars_none hV
  obtain ⟨a0, rfl, rfl, rfl, w0⟩ := open_int Try.underlying22 (hval 0 22 v0 rfl rfl) h0
  obtain ⟨a1, rfl, rfl, rfl, w1⟩ := open_int Try.underlying3 (hval 1 3 v1 rfl rfl) h1
  clear hA0 hval0 hsz0
  have L := plainLaw (W := W) (vs := [.int .u64 a0, .int .i64 a1]) (law7 a0 a1) ⟨_, _, rfl, rfl, ⟨_, _, rfl, rfl, rfl⟩⟩
  refine L.mono fun e W' ⟨he, bel⟩ => ?_
  subst he
  exact ⟨_, rfl, _, _, _, [], _, [], hW', trodAll_mk1 (shut_bool Try.underlying4 _), (trodAll_cons_mk (shut_int Try.underlying22 w0) (trodAll_cons_mk (shut_int Try.underlying3 w1) trodAll_mk0)), rfl, bel _, fun h => by cases h⟩
theorem over : Rows.hashmapNothingRow.holds Try.pinned (OpenSpec.ofChange Rows.hashmapNothingSpec) :=
  OpenClaim.holds_of_wide 7 Try.f7 rfl rfl rfl rfl rfl rfl rfl ⟨rfl, rfl, rfl, rfl, rfl⟩ rfl rfl rfl rfl rfl (by kernel_rfl) Try.func7 (by kernel_rfl)
    (of_decide_eq_true (by kernel_rfl)) (by unfold Func.isWrapper; first | (rw [if_pos (by decide +kernel)]; kernel_rfl) | (rw [if_neg (by decide +kernel)]; exact ⟨rfl, rfl⟩))
    (fun os started H enc _ => lifted os started H enc)
theorem proved : Rows.HashmapNothingSaid := over
end Go.Proofs.Ytjdhacapbbakaaa.HashmapNothing
namespace Go.Proofs.Ytjdhacapbbakaaa
/-- The row, under a short name. -/
theorem hashmapNothing_holds : Rows.HashmapNothingSaid := HashmapNothing.proved
end Go.Proofs.Ytjdhacapbbakaaa
