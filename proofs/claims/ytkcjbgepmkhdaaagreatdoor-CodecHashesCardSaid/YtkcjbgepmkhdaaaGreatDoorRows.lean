/-
  NARROWER THAN 'FOR EVERY INPUT', by the rows' own cells (each row's printed sentence says how): CodecCodes: laid · CodecPacks: laid · CodecTokens: laid · CodecInverse: laid · CodecPrefixes: laid · CodecHashes: laid.
  DERIVED. THE GIVEN ROWS OF THIS SEAT. 6 by the template 'for every input the law returns true; each argument reads behind the call as it read before'; 0 by the template 'total and deterministic' (their statements: YtkcjbgepmkhdaaaGreatDoorTotals.lean).
  GIVEN WITH THE SEED: the statements are not yours to turn. If you find one false, say at which input.
  Laid BY PROGRAM, IN A SANDBOX (cutbox-rows.mjs): the forced cells as the released guide's own fill.sh prints them over the translation 0a3e38e5ca40b185… (all of the seat's roots in one cut). By AI agents, Wed Nov 11 2026. No macro, syntax, notation, axiom, sorry.
-/
import Derived.Test.YtkcjbgepmkhdaaaGreatDoorChecked
import GoSem.Claim
import GoSem.ClaimJoined
import GoSem.ClaimMapViews
import Derived.JoinedTies
import Derived.KernelRfl
namespace Go.Proofs.YtkcjbgepmkhdaaaGreatDoor
/- THE CELL 'sum', in the pinned program and in every row, IS THE sha256 OF THE DUMP (.gsa) THAT YtkcjbgepmkhdaaaGreatDoorProg.lean LOADS. Nothing in Lean hashes anything: it is a label: what it is worth is what the hold of that sum in a sandbox is worth. -/
noncomputable def Tryz.pinned : Pinned := { name := "ytkcjbgepmkhdaaagreatdoor", sum := "0a3e38e5ca40b185621a34f3bef50ec81a40675c86121b77d2255fcc2512796d", checked := Tryz.checked }
namespace Rows
def none {H : Type} : Left H := { results := [], args := [] }

/- WHAT THE LISTED PACKAGE-LEVEL VARIABLES READ AS WHEN THE CALL BEGINS. Each datum BY PROGRAM (the guide's laid-datum.mjs) off the statement by which the dump's own 'gosem.cut.vars' lays the variable. In a bare row this is a premise. The card (YtkcjbgepmkhdaaaGreatDoorCards.lean) ties it to the program's text. -/
def laid_bowline_codec_checks {H : Type} : DataW H := .iface "func table" (.agg [.agg [.lit (.string [115, 117, 109]), .iface "func" (.lit (.string [98, 111, 119, 108, 105, 110, 101, 47, 99, 111, 100, 101, 99, 46, 83, 117, 109]))], .agg [.lit (.string [112, 111, 108, 121]), .iface "func" (.lit (.string [98, 111, 119, 108, 105, 110, 101, 47, 99, 111, 100, 101, 99, 46, 80, 111, 108, 121]))]])

/-- 'bowlinelaw39.CodecCodes': WHATEVER THE INPUT: true; the input reads as it did. -/
def codecCodesSpec : ChangeSpec := { name := "codecCodes", fn := fun _ => fun
  | [d1, d2] => { results := [.lit (.bool true)], args := [d1, d2] }
  | _ => none }
def codecCodesRow : OpenClaim := { program := "ytkcjbgepmkhdaaagreatdoor", sum := "0a3e38e5ca40b185621a34f3bef50ec81a40675c86121b77d2255fcc2512796d", func := "bowline/bowlinelaw39.CodecCodes", spec := "codecCodes", unfollowed := true, recurses := true, named := ["bowline/codec.checks"], plainKeys := false, apart := false, laid := [("bowline/codec.checks", laid_bowline_codec_checks)] }
def CodecCodesSaid : Prop := codecCodesRow.holds Tryz.pinned (OpenSpec.ofChange codecCodesSpec)

/-- ITS FALSE NEIGHBOUR: 'it returns false'. Refute it at one input. -/
def codecCodesWrong : ChangeSpec := { name := "codecCodes", fn := fun _ => fun
  | [d1, d2] => { results := [.lit (.bool false)], args := [d1, d2] }
  | _ => none }
def CodecCodesWrongFalsely : Prop := codecCodesRow.holds Tryz.pinned (OpenSpec.ofChange codecCodesWrong)

/-- 'bowlinelaw39.CodecPacks': WHATEVER THE INPUT: true; the input reads as it did. -/
def codecPacksSpec : ChangeSpec := { name := "codecPacks", fn := fun _ => fun
  | [d1, d2] => { results := [.lit (.bool true)], args := [d1, d2] }
  | _ => none }
def codecPacksRow : OpenClaim := { program := "ytkcjbgepmkhdaaagreatdoor", sum := "0a3e38e5ca40b185621a34f3bef50ec81a40675c86121b77d2255fcc2512796d", func := "bowline/bowlinelaw39.CodecPacks", spec := "codecPacks", unfollowed := true, recurses := true, named := ["bowline/codec.checks"], plainKeys := false, apart := false, laid := [("bowline/codec.checks", laid_bowline_codec_checks)] }
def CodecPacksSaid : Prop := codecPacksRow.holds Tryz.pinned (OpenSpec.ofChange codecPacksSpec)

/-- ITS FALSE NEIGHBOUR: 'it returns false'. Refute it at one input. -/
def codecPacksWrong : ChangeSpec := { name := "codecPacks", fn := fun _ => fun
  | [d1, d2] => { results := [.lit (.bool false)], args := [d1, d2] }
  | _ => none }
def CodecPacksWrongFalsely : Prop := codecPacksRow.holds Tryz.pinned (OpenSpec.ofChange codecPacksWrong)

/-- 'bowlinelaw39.CodecTokens': WHATEVER THE INPUT: true; the input reads as it did. -/
def codecTokensSpec : ChangeSpec := { name := "codecTokens", fn := fun _ => fun
  | [d1, d2] => { results := [.lit (.bool true)], args := [d1, d2] }
  | _ => none }
def codecTokensRow : OpenClaim := { program := "ytkcjbgepmkhdaaagreatdoor", sum := "0a3e38e5ca40b185621a34f3bef50ec81a40675c86121b77d2255fcc2512796d", func := "bowline/bowlinelaw39.CodecTokens", spec := "codecTokens", unfollowed := true, recurses := true, named := ["bowline/codec.checks"], plainKeys := false, apart := false, laid := [("bowline/codec.checks", laid_bowline_codec_checks)] }
def CodecTokensSaid : Prop := codecTokensRow.holds Tryz.pinned (OpenSpec.ofChange codecTokensSpec)

/-- ITS FALSE NEIGHBOUR: 'it returns false'. Refute it at one input. -/
def codecTokensWrong : ChangeSpec := { name := "codecTokens", fn := fun _ => fun
  | [d1, d2] => { results := [.lit (.bool false)], args := [d1, d2] }
  | _ => none }
def CodecTokensWrongFalsely : Prop := codecTokensRow.holds Tryz.pinned (OpenSpec.ofChange codecTokensWrong)

/-- 'bowlinelaw39.CodecInverse': WHATEVER THE INPUT: true; the input reads as it did. -/
def codecInverseSpec : ChangeSpec := { name := "codecInverse", fn := fun _ => fun
  | [d1, d2] => { results := [.lit (.bool true)], args := [d1, d2] }
  | _ => none }
def codecInverseRow : OpenClaim := { program := "ytkcjbgepmkhdaaagreatdoor", sum := "0a3e38e5ca40b185621a34f3bef50ec81a40675c86121b77d2255fcc2512796d", func := "bowline/bowlinelaw39.CodecInverse", spec := "codecInverse", unfollowed := true, recurses := true, named := ["bowline/codec.checks"], plainKeys := false, apart := false, laid := [("bowline/codec.checks", laid_bowline_codec_checks)] }
def CodecInverseSaid : Prop := codecInverseRow.holds Tryz.pinned (OpenSpec.ofChange codecInverseSpec)

/-- ITS FALSE NEIGHBOUR: 'it returns false'. Refute it at one input. -/
def codecInverseWrong : ChangeSpec := { name := "codecInverse", fn := fun _ => fun
  | [d1, d2] => { results := [.lit (.bool false)], args := [d1, d2] }
  | _ => none }
def CodecInverseWrongFalsely : Prop := codecInverseRow.holds Tryz.pinned (OpenSpec.ofChange codecInverseWrong)

/-- 'bowlinelaw39.CodecPrefixes': WHATEVER THE INPUT: true; the input reads as it did. -/
def codecPrefixesSpec : ChangeSpec := { name := "codecPrefixes", fn := fun _ => fun
  | [d1, d2, d3] => { results := [.lit (.bool true)], args := [d1, d2, d3] }
  | _ => none }
def codecPrefixesRow : OpenClaim := { program := "ytkcjbgepmkhdaaagreatdoor", sum := "0a3e38e5ca40b185621a34f3bef50ec81a40675c86121b77d2255fcc2512796d", func := "bowline/bowlinelaw39.CodecPrefixes", spec := "codecPrefixes", unfollowed := true, recurses := true, named := ["bowline/codec.checks"], plainKeys := false, apart := false, laid := [("bowline/codec.checks", laid_bowline_codec_checks)] }
def CodecPrefixesSaid : Prop := codecPrefixesRow.holds Tryz.pinned (OpenSpec.ofChange codecPrefixesSpec)

/-- ITS FALSE NEIGHBOUR: 'it returns false'. Refute it at one input. -/
def codecPrefixesWrong : ChangeSpec := { name := "codecPrefixes", fn := fun _ => fun
  | [d1, d2, d3] => { results := [.lit (.bool false)], args := [d1, d2, d3] }
  | _ => none }
def CodecPrefixesWrongFalsely : Prop := codecPrefixesRow.holds Tryz.pinned (OpenSpec.ofChange codecPrefixesWrong)

/-- 'bowlinelaw39.CodecHashes': WHATEVER THE INPUT: true; the input reads as it did. -/
def codecHashesSpec : ChangeSpec := { name := "codecHashes", fn := fun _ => fun
  | [d1, d2] => { results := [.lit (.bool true)], args := [d1, d2] }
  | _ => none }
def codecHashesRow : OpenClaim := { program := "ytkcjbgepmkhdaaagreatdoor", sum := "0a3e38e5ca40b185621a34f3bef50ec81a40675c86121b77d2255fcc2512796d", func := "bowline/bowlinelaw39.CodecHashes", spec := "codecHashes", unfollowed := true, recurses := true, named := ["bowline/codec.checks"], plainKeys := false, apart := false, laid := [("bowline/codec.checks", laid_bowline_codec_checks)] }
def CodecHashesSaid : Prop := codecHashesRow.holds Tryz.pinned (OpenSpec.ofChange codecHashesSpec)

/-- ITS FALSE NEIGHBOUR: 'it returns false'. Refute it at one input. -/
def codecHashesWrong : ChangeSpec := { name := "codecHashes", fn := fun _ => fun
  | [d1, d2] => { results := [.lit (.bool false)], args := [d1, d2] }
  | _ => none }
def CodecHashesWrongFalsely : Prop := codecHashesRow.holds Tryz.pinned (OpenSpec.ofChange codecHashesWrong)

/- THE SECOND FORM. 'bulk': how many values and letters a reading holds, each counted each time it is reached (what is shared counts as often as it is met; a slice's spare places count too). A statement '..UptoSaid' is the law's where the arguments, and the package variables that the reading takes, are together of bulk at most 1048576: NARROWER than '..Said'. Prove '..Said' where nothing that the law and all that it calls make is longer than what came in: it says more and counts as full. Else prove '..UptoSaid'. A law counts once. -/
mutual
def uptoBulk {H : Type} : DataW H → Nat
  | .lit (.string bytes) => bytes.length + 1
  | .lit _ => 1
  | .nil => 1
  | .ptr d => uptoBulk d + 1
  | .slice elems spare => uptoBulkAll elems + uptoBulkAll spare + 1
  | .agg parts => uptoBulkAll parts + 1
  | .iface _ d => uptoBulk d + 1
  | .map entries => uptoBulkEntries entries + 1
  | .held _ => 1
def uptoBulkAll {H : Type} : List (DataW H) → Nat
  | [] => 0
  | d :: r => uptoBulk d + uptoBulkAll r
def uptoBulkEntries {H : Type} : List (Lit × DataW H) → Nat
  | [] => 0
  | x :: r => uptoBulkEntry x + uptoBulkEntries r
def uptoBulkEntry {H : Type} : Lit × DataW H → Nat
  | (.string bytes, d) => bytes.length + uptoBulk d + 1
  | (_, d) => uptoBulk d + 1
 end
def uptoSmall : (H : Type) → List (DataW H) → Bool := fun _ ds => decide (uptoBulkAll ds ≤ 1048576)
def OpenSpec.upto (s : _root_.Go.ChangeSpec) : _root_.Go.OpenSpec := { _root_.Go.OpenSpec.ofChange s with cond := some uptoSmall }

/-- 'bowlinelaw39.CodecCodes', WHERE WHAT IT READS IS OF BULK AT MOST 1048576: true; the input reads as it did. -/
def codecCodesUptoRow : OpenClaim := { program := "ytkcjbgepmkhdaaagreatdoor", sum := "0a3e38e5ca40b185621a34f3bef50ec81a40675c86121b77d2255fcc2512796d", func := "bowline/bowlinelaw39.CodecCodes", spec := "codecCodes", unfollowed := true, recurses := true, named := ["bowline/codec.checks"], plainKeys := false, apart := false, laid := [("bowline/codec.checks", laid_bowline_codec_checks)], narrowed := true }
def CodecCodesUptoSaid : Prop := codecCodesUptoRow.holds Tryz.pinned (OpenSpec.upto codecCodesSpec)

/-- 'bowlinelaw39.CodecPacks', WHERE WHAT IT READS IS OF BULK AT MOST 1048576: true; the input reads as it did. -/
def codecPacksUptoRow : OpenClaim := { program := "ytkcjbgepmkhdaaagreatdoor", sum := "0a3e38e5ca40b185621a34f3bef50ec81a40675c86121b77d2255fcc2512796d", func := "bowline/bowlinelaw39.CodecPacks", spec := "codecPacks", unfollowed := true, recurses := true, named := ["bowline/codec.checks"], plainKeys := false, apart := false, laid := [("bowline/codec.checks", laid_bowline_codec_checks)], narrowed := true }
def CodecPacksUptoSaid : Prop := codecPacksUptoRow.holds Tryz.pinned (OpenSpec.upto codecPacksSpec)

/-- 'bowlinelaw39.CodecTokens', WHERE WHAT IT READS IS OF BULK AT MOST 1048576: true; the input reads as it did. -/
def codecTokensUptoRow : OpenClaim := { program := "ytkcjbgepmkhdaaagreatdoor", sum := "0a3e38e5ca40b185621a34f3bef50ec81a40675c86121b77d2255fcc2512796d", func := "bowline/bowlinelaw39.CodecTokens", spec := "codecTokens", unfollowed := true, recurses := true, named := ["bowline/codec.checks"], plainKeys := false, apart := false, laid := [("bowline/codec.checks", laid_bowline_codec_checks)], narrowed := true }
def CodecTokensUptoSaid : Prop := codecTokensUptoRow.holds Tryz.pinned (OpenSpec.upto codecTokensSpec)

/-- 'bowlinelaw39.CodecInverse', WHERE WHAT IT READS IS OF BULK AT MOST 1048576: true; the input reads as it did. -/
def codecInverseUptoRow : OpenClaim := { program := "ytkcjbgepmkhdaaagreatdoor", sum := "0a3e38e5ca40b185621a34f3bef50ec81a40675c86121b77d2255fcc2512796d", func := "bowline/bowlinelaw39.CodecInverse", spec := "codecInverse", unfollowed := true, recurses := true, named := ["bowline/codec.checks"], plainKeys := false, apart := false, laid := [("bowline/codec.checks", laid_bowline_codec_checks)], narrowed := true }
def CodecInverseUptoSaid : Prop := codecInverseUptoRow.holds Tryz.pinned (OpenSpec.upto codecInverseSpec)

/-- 'bowlinelaw39.CodecPrefixes', WHERE WHAT IT READS IS OF BULK AT MOST 1048576: true; the input reads as it did. -/
def codecPrefixesUptoRow : OpenClaim := { program := "ytkcjbgepmkhdaaagreatdoor", sum := "0a3e38e5ca40b185621a34f3bef50ec81a40675c86121b77d2255fcc2512796d", func := "bowline/bowlinelaw39.CodecPrefixes", spec := "codecPrefixes", unfollowed := true, recurses := true, named := ["bowline/codec.checks"], plainKeys := false, apart := false, laid := [("bowline/codec.checks", laid_bowline_codec_checks)], narrowed := true }
def CodecPrefixesUptoSaid : Prop := codecPrefixesUptoRow.holds Tryz.pinned (OpenSpec.upto codecPrefixesSpec)

/-- 'bowlinelaw39.CodecHashes', WHERE WHAT IT READS IS OF BULK AT MOST 1048576: true; the input reads as it did. -/
def codecHashesUptoRow : OpenClaim := { program := "ytkcjbgepmkhdaaagreatdoor", sum := "0a3e38e5ca40b185621a34f3bef50ec81a40675c86121b77d2255fcc2512796d", func := "bowline/bowlinelaw39.CodecHashes", spec := "codecHashes", unfollowed := true, recurses := true, named := ["bowline/codec.checks"], plainKeys := false, apart := false, laid := [("bowline/codec.checks", laid_bowline_codec_checks)], narrowed := true }
def CodecHashesUptoSaid : Prop := codecHashesUptoRow.holds Tryz.pinned (OpenSpec.upto codecHashesSpec)

end Rows
end Go.Proofs.YtkcjbgepmkhdaaaGreatDoor
