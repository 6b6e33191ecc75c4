/- Hash of the program and Hash of the reference are one function of key and seed, and the examples hold: HashmapHashes is true at every input; no condition. -/
import Derived.Test.YtjdhacapbbakaaaRows
import Derived.Test.YtjdhacapbbakaaaGd
import Derived.Test.YtjdhacapbbakaaaShelf
import Derived.Test.YtjdhacapbbakaaaAwake
import Derived.WalkKit
import Derived.ProofKit
import Derived.OpenShut
import Derived.ShutString
import Derived.ChangeOld
import Derived.Below
import Derived.SizedLaws
open Go Gh
namespace Go.Proofs.Ytjdhacapbbakaaa
set_option maxRecDepth 100000
theorem mix : Try.prog.follows .mixedOrders = true := by kernel_rfl
theorem hD : DrawSound Try.prog gl0 := drawSound mix gl0
def np : FuncId → List GVal → GHeap → Ans := fun _ _ _ => none
theorem npOk : PrimOK Try.prog gl0 np := fun _ _ _ _ h => by cases h

def xor64 (x y : Int) : Int := IntKind.u64.wrap (BitVec.ofInt IntKind.u64.bits x ^^^ BitVec.ofInt IntKind.u64.bits y).toNat
def hash (k s : Int) : Int :=
  let x := IntKind.u64.wrap (xor64 k s * 11400714819323198485)
  let x := xor64 x (x.fdiv (2 ^ (min 32 IntKind.u64.bits)))
  let x := IntKind.u64.wrap (x * 15485907386658061715)
  xor64 x (x.fdiv (2 ^ (min 32 IntKind.u64.bits)))
theorem eval8 (k s : Int) (h : GHeap) : gcallP Try.prog gl0 np 2 2 8 [.int .u64 k, .int .u64 s] h = some (.int .u64 (hash k s), h) := by kernel_rfl
theorem eval9 (k s : Int) (h : GHeap) : gcallP Try.prog gl0 np 2 2 9 [.int .u64 k, .int .u64 s] h = some (.int .u64 (hash k s), h) := by kernel_rfl
theorem spec8 (k s : Int) (h : GHeap) : CallsG Try.prog gl0 8 [.int .u64 k, .int .u64 s] h fun r h' => r = .int .u64 (hash k s) ∧ h' = h :=
  (gcallP_sound hD npOk (eval8 k s h)).mono fun a b e => by cases e; exact ⟨rfl, rfl⟩
theorem spec9 (k s : Int) (h : GHeap) : CallsG Try.prog gl0 9 [.int .u64 k, .int .u64 s] h fun r h' => r = .int .u64 (hash k s) ∧ h' = h :=
  (gcallP_sound hD npOk (eval9 k s h)).mono fun a b e => by cases e; exact ⟨rfl, rfl⟩

abbrev A := propAlg Try.prog gl0
def q3 (Q : GVal → GHeap → Prop) (i : Nat) (t : List GVal) (h : GHeap) : Prop :=
  gops A Try.prog gl0 (regOps (seqL (seqR (bodyOf Try.f3)))) ((regOps (seqL (seqR (bodyOf Try.f3)))).toList.drop i) t h fun t h => gcode Try.prog gl0 A none .ret (KF Try.prog gl0 Try.f3 Q) t h
theorem at3 (Q : GVal → GHeap → Prop) (k s : Int) (h : GHeap) : gfunc Try.prog gl0 A Try.f3 (bodyOf Try.f3) [.int .u64 k, .int .u64 s] h Q =
    CallsG Try.prog gl0 8 [.int .u64 k, .int .u64 s] h fun r h1 =>
      q3 Q 3 [.int .u64 k, .int .u64 s, .undef, .undef, .bool false, .int .u64 k, .int .u64 s, r, .undef, .undef, .undef, .undef, .undef, .undef, .undef] h1 := by kernel_rfl
theorem at3b (Q : GVal → GHeap → Prop) (k s n : Int) (h : GHeap) : q3 Q 3 [.int .u64 k, .int .u64 s, .undef, .undef, .bool false, .int .u64 k, .int .u64 s, .int .u64 n, .undef, .undef, .undef, .undef, .undef, .undef, .undef] h =
    CallsG Try.prog gl0 9 [.int .u64 k, .int .u64 s] h fun r h1 =>
      q3 Q 6 [.int .u64 k, .int .u64 s, .undef, .undef, .bool false, .int .u64 k, .int .u64 s, .int .u64 n, .int .u64 k, .int .u64 s, r, .undef, .undef, .undef, .undef] h1 := by kernel_rfl
theorem at3c (Q : GVal → GHeap → Prop) (k s n m : Int) (h : GHeap) : q3 Q 6 [.int .u64 k, .int .u64 s, .undef, .undef, .bool false, .int .u64 k, .int .u64 s, .int .u64 n, .int .u64 k, .int .u64 s, .int .u64 m, .undef, .undef, .undef, .undef] h =
    (IntKind.u64 = IntKind.u64 ∧ q3 Q 8 [.int .u64 k, .int .u64 s, .undef, .undef, .bool false, .int .u64 k, .int .u64 s, .int .u64 n, .int .u64 k, .int .u64 s, .int .u64 m, .bool (n == m), .bool (n == m), .undef, .undef] h) := by kernel_rfl
theorem at3d (Q : GVal → GHeap → Prop) (k s n m : Int) (h : GHeap) : q3 Q 8 [.int .u64 k, .int .u64 s, .undef, .undef, .bool false, .int .u64 k, .int .u64 s, .int .u64 n, .int .u64 k, .int .u64 s, .int .u64 m, .bool true, .bool true, .undef, .undef] h =
    CallsG Try.prog gl0 10 [] h fun r h1 =>
      q3 Q 9 [.int .u64 k, .int .u64 s, .undef, .undef, .bool false, .int .u64 k, .int .u64 s, .int .u64 n, .int .u64 k, .int .u64 s, .int .u64 m, .bool true, .bool true, r, .undef] h1 := by kernel_rfl
theorem at3e (Q : GVal → GHeap → Prop) (k s n m : Int) (h : GHeap) : q3 Q 9 [.int .u64 k, .int .u64 s, .undef, .undef, .bool false, .int .u64 k, .int .u64 s, .int .u64 n, .int .u64 k, .int .u64 s, .int .u64 m, .bool true, .bool true, .bool true, .undef] h =
    Q (.bool true) h := by kernel_rfl
theorem law3 (ha : ∀ h, CallsG Try.prog gl0 10 [] h fun r h' => r = .bool true ∧ h' = h) (k s : Int) (h : GHeap) : CallsG Try.prog gl0 3 [.int .u64 k, .int .u64 s] h fun r _ => r = .bool true := by
  refine gfunc_sound (fn := Try.f3) (c := bodyOf Try.f3) hD rfl rfl ?_
  rw [at3]
  refine (spec8 k s h).mono ?_
  rintro r h1 ⟨rfl, rfl⟩
  rw [at3b]
  refine (spec9 k s h1).mono ?_
  rintro r h1 ⟨rfl, rfl⟩
  rw [at3c]
  refine ⟨rfl, ?_⟩
  rw [show (hash k s == hash k s) = true from by simp, at3d]
  refine (ha h1).mono ?_
  rintro r h1 ⟨rfl, rfl⟩
  rw [at3e]
theorem awake (h : GHeap) : CallsG Try.prog gl0 10 [] h fun r h' => r = .bool true ∧ h' = h :=
  CallsG.closedC hD (joinPrim_ok (k := 57) Try.strings_Join) (fun _ => rfl) awakeTells h
end Go.Proofs.Ytjdhacapbbakaaa

namespace Go.Proofs.Ytjdhacapbbakaaa.HashmapHashes
open Go.ChangeShapes Go.WideShapes Go.ChangeAt Go.RowKit Gh
set_option linter.unusedVariables false
theorem own : ownKnob Try.prog.godebug = none := by kernel_rfl
set_option maxRecDepth 100000 in
theorem lifted (os : Os) (started : os.Started) (H : Type) (enc : TypeId × Value → H) :
    ReturnsInHanded {} Try.checked os 3 .any (Rows.hashmapHashesSpec.pre6 enc Try.prog Try.f3 Rows.hashmapHashesRow.domain false) (Rows.hashmapHashesSpec.post enc Try.prog Try.f3 false true false false) := by
  refine returnsInHanded_of_change_sized (C := Try.checked) own started (by kernel_rfl) Try.func3
    (ChangeSpec.witness6 (enc := enc) (C := Try.checked) false ⟨#[], #[.int .u64 0, .int .u64 0], []⟩ 8 (by kernel_rfl) (by kernel_rfl) (by kernel_rfl) (by kernel_rfl)) ?_
  intro W base args ds gs before hval0 hW hcnd hsz0 _
  have hval : ∀ (j : Nat) t v, Try.f3.params[j]? = some t → args[j]? = some v → Value.okWide Try.prog W .any base t v := hval0
  have hW' := hW
  obtain ⟨p, q, hA0, hV, rfl, hfz, hnd⟩ := hW
  have hA : DataW.TrodAll enc Try.prog W 0 (fun _ => true) true Try.f3.params.toList args.toList ds p := hA0
  rw [Try.params3] at hA hval
  obtain ⟨v0, vs0, d0, ds0, p0, q0, hargs, rfl, rfl, h0, r0⟩ := trodAll_cons hA
  obtain ⟨v1, vs1, d1, ds1, p1, q1, rfl, rfl, rfl, h1, r1⟩ := trodAll_cons r0
  obtain ⟨rfl, rfl, rfl⟩ := trodAll_nil r1
  obtain rfl : args = #[v0, v1] := by cases args; simp_all
  obtain ⟨rfl, rfl⟩ := trodVars_none hV
  obtain ⟨a0, rfl, rfl, rfl, w0⟩ := open_int Try.underlying22 (hval 0 22 v0 rfl rfl) h0
  obtain ⟨a1, rfl, rfl, rfl, w1⟩ := open_int Try.underlying22 (hval 1 22 v1 rfl rfl) h1
  clear hA0 hval0 hsz0
  have L := plainLaw (W := W) (vs := [.int .u64 a0, .int .u64 a1]) (law3 awake a0 a1 []) ⟨_, _, rfl, rfl, ⟨_, _, rfl, rfl, rfl⟩⟩
  refine L.mono fun e W' ⟨he, bel⟩ => ?_
  subst he
  exact ⟨_, rfl, _, _, _, [], _, [], hW', trodAll_mk1 (shut_bool Try.underlying4 _), (trodAll_cons_mk (shut_int Try.underlying22 w0) (trodAll_cons_mk (shut_int Try.underlying22 w1) trodAll_mk0)), rfl, bel _, fun h => by cases h⟩
theorem over : Rows.hashmapHashesRow.holds Try.pinned (OpenSpec.ofChange Rows.hashmapHashesSpec) :=
  OpenClaim.holds_of_wide 3 Try.f3 rfl rfl rfl rfl rfl rfl rfl ⟨rfl, rfl, rfl, rfl, rfl⟩ rfl rfl rfl rfl rfl (by kernel_rfl) Try.func3 (by kernel_rfl)
    (of_decide_eq_true (by kernel_rfl)) (by unfold Func.isWrapper; first | (rw [if_pos (by decide +kernel)]; kernel_rfl) | (rw [if_neg (by decide +kernel)]; exact ⟨rfl, rfl⟩))
    (fun os started H enc _ => lifted os started H enc)
theorem proved : Rows.HashmapHashesSaid := over
end Go.Proofs.Ytjdhacapbbakaaa.HashmapHashes
namespace Go.Proofs.Ytjdhacapbbakaaa
/-- The row, under a short name. -/
theorem hashmapHashes_holds : Rows.HashmapHashesSaid := HashmapHashes.proved
end Go.Proofs.Ytjdhacapbbakaaa
