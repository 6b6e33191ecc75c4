/-
  No cell of these rows narrows 'for every input' (looked for: loops, veiled, ifaces, maps, wideKeys, modest, calm, conditions, laid).
  DERIVED. THE GIVEN ROWS OF THIS SEAT. 5 by the template 'for every input the law returns true; each argument reads behind the call as it read before'; 0 by the template 'total and deterministic' (their statements: YtjdhacapbbakaaaTotals.lean).
  GIVEN WITH THE SEED: the statements are not yours to turn. If you find one false, say at which input.
  Laid BY PROGRAM, IN A SANDBOX (cutbox-rows.mjs): the forced cells as the released guide's own fill.sh prints them over the translation 7db098a9ad07289b… (all of the seat's roots in one cut). By AI agents, Wed Nov 11 2026. No macro, syntax, notation, axiom, sorry.
-/
import Derived.Test.YtjdhacapbbakaaaChecked
import GoSem.Claim
import GoSem.ClaimJoined
import GoSem.ClaimMapViews
import Derived.JoinedTies
import Derived.KernelRfl
namespace Go.Proofs.Ytjdhacapbbakaaa
/- THE CELL 'sum', in the pinned program and in every row, IS THE sha256 OF THE DUMP (.gsa) THAT YtjdhacapbbakaaaProg.lean LOADS. Nothing in Lean hashes anything: it is a label: what it is worth is what the hold of that sum in a sandbox is worth. -/
noncomputable def Try.pinned : Pinned := { name := "ytjdhacapbbakaaa", sum := "7db098a9ad07289b42b83696645603a7cd5c91e1a6df16d63400e6a2f5af4fac", checked := Try.checked }
namespace Rows
def none {H : Type} : Left H := { results := [], args := [] }

/-- 'bowlinelaw37.HashmapHashes': WHATEVER THE INPUT: true; the input reads as it did. -/
def hashmapHashesSpec : ChangeSpec := { name := "hashmapHashes", fn := fun _ => fun
  | [d1, d2] => { results := [.lit (.bool true)], args := [d1, d2] }
  | _ => none }
def hashmapHashesRow : OpenClaim := { program := "ytjdhacapbbakaaa", sum := "7db098a9ad07289b42b83696645603a7cd5c91e1a6df16d63400e6a2f5af4fac", func := "bowline/bowlinelaw37.HashmapHashes", spec := "hashmapHashes", inPlace := ["internal/abi.NoEscape", "internal/bytealg.MakeNoZero"], unfollowed := true, recurses := true, apart := false }
def HashmapHashesSaid : Prop := hashmapHashesRow.holds Try.pinned (OpenSpec.ofChange hashmapHashesSpec)

/-- ITS FALSE NEIGHBOUR: 'it returns false'. Refute it at one input. -/
def hashmapHashesWrong : ChangeSpec := { name := "hashmapHashes", fn := fun _ => fun
  | [d1, d2] => { results := [.lit (.bool false)], args := [d1, d2] }
  | _ => none }
def HashmapHashesWrongFalsely : Prop := hashmapHashesRow.holds Try.pinned (OpenSpec.ofChange hashmapHashesWrong)

/-- 'bowlinelaw37.HashmapFails': WHATEVER THE INPUT: true; the input reads as it did. -/
def hashmapFailsSpec : ChangeSpec := { name := "hashmapFails", fn := fun _ => fun
  | [d1, d2, d3] => { results := [.lit (.bool true)], args := [d1, d2, d3] }
  | _ => none }
def hashmapFailsRow : OpenClaim := { program := "ytjdhacapbbakaaa", sum := "7db098a9ad07289b42b83696645603a7cd5c91e1a6df16d63400e6a2f5af4fac", func := "bowline/bowlinelaw37.HashmapFails", spec := "hashmapFails", inPlace := ["internal/abi.NoEscape", "internal/bytealg.MakeNoZero"], unfollowed := true, recurses := true, apart := false }
def HashmapFailsSaid : Prop := hashmapFailsRow.holds Try.pinned (OpenSpec.ofChange hashmapFailsSpec)

/-- ITS FALSE NEIGHBOUR: 'it returns false'. Refute it at one input. -/
def hashmapFailsWrong : ChangeSpec := { name := "hashmapFails", fn := fun _ => fun
  | [d1, d2, d3] => { results := [.lit (.bool false)], args := [d1, d2, d3] }
  | _ => none }
def HashmapFailsWrongFalsely : Prop := hashmapFailsRow.holds Try.pinned (OpenSpec.ofChange hashmapFailsWrong)

/-- 'bowlinelaw37.HashmapReserves': WHATEVER THE INPUT: true; the input reads as it did. -/
def hashmapReservesSpec : ChangeSpec := { name := "hashmapReserves", fn := fun _ => fun
  | [d1, d2, d3] => { results := [.lit (.bool true)], args := [d1, d2, d3] }
  | _ => none }
def hashmapReservesRow : OpenClaim := { program := "ytjdhacapbbakaaa", sum := "7db098a9ad07289b42b83696645603a7cd5c91e1a6df16d63400e6a2f5af4fac", func := "bowline/bowlinelaw37.HashmapReserves", spec := "hashmapReserves", inPlace := ["internal/abi.NoEscape", "internal/bytealg.MakeNoZero"], unfollowed := true, recurses := true, apart := false }
def HashmapReservesSaid : Prop := hashmapReservesRow.holds Try.pinned (OpenSpec.ofChange hashmapReservesSpec)

/-- ITS FALSE NEIGHBOUR: 'it returns false'. Refute it at one input. -/
def hashmapReservesWrong : ChangeSpec := { name := "hashmapReserves", fn := fun _ => fun
  | [d1, d2, d3] => { results := [.lit (.bool false)], args := [d1, d2, d3] }
  | _ => none }
def HashmapReservesWrongFalsely : Prop := hashmapReservesRow.holds Try.pinned (OpenSpec.ofChange hashmapReservesWrong)

/-- 'bowlinelaw37.HashmapHolds': WHATEVER THE INPUT: true; the input reads as it did. -/
def hashmapHoldsSpec : ChangeSpec := { name := "hashmapHolds", fn := fun _ => fun
  | [d1, d2] => { results := [.lit (.bool true)], args := [d1, d2] }
  | _ => none }
def hashmapHoldsRow : OpenClaim := { program := "ytjdhacapbbakaaa", sum := "7db098a9ad07289b42b83696645603a7cd5c91e1a6df16d63400e6a2f5af4fac", func := "bowline/bowlinelaw37.HashmapHolds", spec := "hashmapHolds", inPlace := ["internal/abi.NoEscape", "internal/bytealg.MakeNoZero"], unfollowed := true, recurses := true, apart := false }
def HashmapHoldsSaid : Prop := hashmapHoldsRow.holds Try.pinned (OpenSpec.ofChange hashmapHoldsSpec)

/-- ITS FALSE NEIGHBOUR: 'it returns false'. Refute it at one input. -/
def hashmapHoldsWrong : ChangeSpec := { name := "hashmapHolds", fn := fun _ => fun
  | [d1, d2] => { results := [.lit (.bool false)], args := [d1, d2] }
  | _ => none }
def HashmapHoldsWrongFalsely : Prop := hashmapHoldsRow.holds Try.pinned (OpenSpec.ofChange hashmapHoldsWrong)

/-- 'bowlinelaw37.HashmapNothing': WHATEVER THE INPUT: true; the input reads as it did. -/
def hashmapNothingSpec : ChangeSpec := { name := "hashmapNothing", fn := fun _ => fun
  | [d1, d2] => { results := [.lit (.bool true)], args := [d1, d2] }
  | _ => none }
def hashmapNothingRow : OpenClaim := { program := "ytjdhacapbbakaaa", sum := "7db098a9ad07289b42b83696645603a7cd5c91e1a6df16d63400e6a2f5af4fac", func := "bowline/bowlinelaw37.HashmapNothing", spec := "hashmapNothing", inPlace := ["internal/abi.NoEscape", "internal/bytealg.MakeNoZero"], unfollowed := true, recurses := true, apart := false }
def HashmapNothingSaid : Prop := hashmapNothingRow.holds Try.pinned (OpenSpec.ofChange hashmapNothingSpec)

/-- ITS FALSE NEIGHBOUR: 'it returns false'. Refute it at one input. -/
def hashmapNothingWrong : ChangeSpec := { name := "hashmapNothing", fn := fun _ => fun
  | [d1, d2] => { results := [.lit (.bool false)], args := [d1, d2] }
  | _ => none }
def HashmapNothingWrongFalsely : Prop := hashmapNothingRow.holds Try.pinned (OpenSpec.ofChange hashmapNothingWrong)

/- THE SECOND FORM. 'bulk': how many values and letters a reading holds, each counted each time it is reached (what is shared counts as often as it is met; a slice's spare places count too). A statement '..UptoSaid' is the law's where the arguments, and the package variables that the reading takes, are together of bulk at most 1048576: NARROWER than '..Said'. Prove '..Said' where nothing that the law and all that it calls make is longer than what came in: it says more and counts as full. Else prove '..UptoSaid'. A law counts once. -/
mutual
def uptoBulk {H : Type} : DataW H → Nat
  | .lit (.string bytes) => bytes.length + 1
  | .lit _ => 1
  | .nil => 1
  | .ptr d => uptoBulk d + 1
  | .slice elems spare => uptoBulkAll elems + uptoBulkAll spare + 1
  | .agg parts => uptoBulkAll parts + 1
  | .iface _ d => uptoBulk d + 1
  | .map entries => uptoBulkEntries entries + 1
  | .held _ => 1
def uptoBulkAll {H : Type} : List (DataW H) → Nat
  | [] => 0
  | d :: r => uptoBulk d + uptoBulkAll r
def uptoBulkEntries {H : Type} : List (Lit × DataW H) → Nat
  | [] => 0
  | x :: r => uptoBulkEntry x + uptoBulkEntries r
def uptoBulkEntry {H : Type} : Lit × DataW H → Nat
  | (.string bytes, d) => bytes.length + uptoBulk d + 1
  | (_, d) => uptoBulk d + 1
 end
def uptoSmall : (H : Type) → List (DataW H) → Bool := fun _ ds => decide (uptoBulkAll ds ≤ 1048576)
def OpenSpec.upto (s : _root_.Go.ChangeSpec) : _root_.Go.OpenSpec := { _root_.Go.OpenSpec.ofChange s with cond := some uptoSmall }

/-- 'bowlinelaw37.HashmapHashes', WHERE WHAT IT READS IS OF BULK AT MOST 1048576: true; the input reads as it did. -/
def hashmapHashesUptoRow : OpenClaim := { program := "ytjdhacapbbakaaa", sum := "7db098a9ad07289b42b83696645603a7cd5c91e1a6df16d63400e6a2f5af4fac", func := "bowline/bowlinelaw37.HashmapHashes", spec := "hashmapHashes", inPlace := ["internal/abi.NoEscape", "internal/bytealg.MakeNoZero"], unfollowed := true, recurses := true, apart := false, narrowed := true }
def HashmapHashesUptoSaid : Prop := hashmapHashesUptoRow.holds Try.pinned (OpenSpec.upto hashmapHashesSpec)

/-- 'bowlinelaw37.HashmapFails', WHERE WHAT IT READS IS OF BULK AT MOST 1048576: true; the input reads as it did. -/
def hashmapFailsUptoRow : OpenClaim := { program := "ytjdhacapbbakaaa", sum := "7db098a9ad07289b42b83696645603a7cd5c91e1a6df16d63400e6a2f5af4fac", func := "bowline/bowlinelaw37.HashmapFails", spec := "hashmapFails", inPlace := ["internal/abi.NoEscape", "internal/bytealg.MakeNoZero"], unfollowed := true, recurses := true, apart := false, narrowed := true }
def HashmapFailsUptoSaid : Prop := hashmapFailsUptoRow.holds Try.pinned (OpenSpec.upto hashmapFailsSpec)

/-- 'bowlinelaw37.HashmapReserves', WHERE WHAT IT READS IS OF BULK AT MOST 1048576: true; the input reads as it did. -/
def hashmapReservesUptoRow : OpenClaim := { program := "ytjdhacapbbakaaa", sum := "7db098a9ad07289b42b83696645603a7cd5c91e1a6df16d63400e6a2f5af4fac", func := "bowline/bowlinelaw37.HashmapReserves", spec := "hashmapReserves", inPlace := ["internal/abi.NoEscape", "internal/bytealg.MakeNoZero"], unfollowed := true, recurses := true, apart := false, narrowed := true }
def HashmapReservesUptoSaid : Prop := hashmapReservesUptoRow.holds Try.pinned (OpenSpec.upto hashmapReservesSpec)

/-- 'bowlinelaw37.HashmapHolds', WHERE WHAT IT READS IS OF BULK AT MOST 1048576: true; the input reads as it did. -/
def hashmapHoldsUptoRow : OpenClaim := { program := "ytjdhacapbbakaaa", sum := "7db098a9ad07289b42b83696645603a7cd5c91e1a6df16d63400e6a2f5af4fac", func := "bowline/bowlinelaw37.HashmapHolds", spec := "hashmapHolds", inPlace := ["internal/abi.NoEscape", "internal/bytealg.MakeNoZero"], unfollowed := true, recurses := true, apart := false, narrowed := true }
def HashmapHoldsUptoSaid : Prop := hashmapHoldsUptoRow.holds Try.pinned (OpenSpec.upto hashmapHoldsSpec)

/-- 'bowlinelaw37.HashmapNothing', WHERE WHAT IT READS IS OF BULK AT MOST 1048576: true; the input reads as it did. -/
def hashmapNothingUptoRow : OpenClaim := { program := "ytjdhacapbbakaaa", sum := "7db098a9ad07289b42b83696645603a7cd5c91e1a6df16d63400e6a2f5af4fac", func := "bowline/bowlinelaw37.HashmapNothing", spec := "hashmapNothing", inPlace := ["internal/abi.NoEscape", "internal/bytealg.MakeNoZero"], unfollowed := true, recurses := true, apart := false, narrowed := true }
def HashmapNothingUptoSaid : Prop := hashmapNothingUptoRow.holds Try.pinned (OpenSpec.upto hashmapNothingSpec)

end Rows
end Go.Proofs.Ytjdhacapbbakaaa
