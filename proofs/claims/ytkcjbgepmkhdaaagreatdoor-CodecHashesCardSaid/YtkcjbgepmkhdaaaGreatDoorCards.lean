/-
  DERIVED. GIVEN WITH THE SEED: THE CARDS: each row of YtkcjbgepmkhdaaaGreatDoorRows.lean that lists a variable, with what it lists TIED to the program's text (the seventh form; the later family's looks); each row that meets fmt, with fmt's text TOLD by the authors' own Lean function (tested against real Go, not proved from fmt's source: count such statements apart). THE CARD IS WHAT COUNTS. Prove the row's statement (the work); the ties are given (YtkcjbgepmkhdaaaGreatDoorTie.lean); close each card by the builder's one call (the guide's Derived/Test/ToyasCard.lean, 'card_holds'). Laid BY PROGRAM, IN A SANDBOX (cutbox-door.mjs). By AI agents, Wed Nov 11 2026. No macro, syntax, notation, axiom, sorry.
-/
import Derived.Test.YtkcjbgepmkhdaaaGreatDoorRows
import GoSem.ClaimSeven
namespace Go.Proofs.YtkcjbgepmkhdaaaGreatDoor
namespace Rows

/-- THE TIED CARD OF 'bowlinelaw39.CodecCodes'. -/
def codecCodesCard : Claim7 := { stood := { row := codecCodesRow, standIns := [], harness := (true, "a9d998bf123600302bcc6d73abe8a395b6c2d0250c80433b6b32396887eb25fb"), looks := false }, kinds := [], alts := [], laidByText := true, laidKinds := [.funcs], laidTests := true, laidLooks := .later }
def CodecCodesCardSaid : Prop := Claim7.holds Tryz.pinned (.plain (OpenSpec.ofChange codecCodesSpec)) codecCodesCard

/-- THE TIED CARD OF 'bowlinelaw39.CodecPacks'. -/
def codecPacksCard : Claim7 := { stood := { row := codecPacksRow, standIns := [], harness := (true, "a9d998bf123600302bcc6d73abe8a395b6c2d0250c80433b6b32396887eb25fb"), looks := false }, kinds := [], alts := [], laidByText := true, laidKinds := [.funcs], laidTests := true, laidLooks := .later }
def CodecPacksCardSaid : Prop := Claim7.holds Tryz.pinned (.plain (OpenSpec.ofChange codecPacksSpec)) codecPacksCard

/-- THE TIED CARD OF 'bowlinelaw39.CodecTokens'. -/
def codecTokensCard : Claim7 := { stood := { row := codecTokensRow, standIns := [], harness := (true, "a9d998bf123600302bcc6d73abe8a395b6c2d0250c80433b6b32396887eb25fb"), looks := false }, kinds := [], alts := [], laidByText := true, laidKinds := [.funcs], laidTests := true, laidLooks := .later }
def CodecTokensCardSaid : Prop := Claim7.holds Tryz.pinned (.plain (OpenSpec.ofChange codecTokensSpec)) codecTokensCard

/-- THE TIED CARD OF 'bowlinelaw39.CodecInverse'. -/
def codecInverseCard : Claim7 := { stood := { row := codecInverseRow, standIns := [], harness := (true, "a9d998bf123600302bcc6d73abe8a395b6c2d0250c80433b6b32396887eb25fb"), looks := false }, kinds := [], alts := [], laidByText := true, laidKinds := [.funcs], laidTests := true, laidLooks := .later }
def CodecInverseCardSaid : Prop := Claim7.holds Tryz.pinned (.plain (OpenSpec.ofChange codecInverseSpec)) codecInverseCard

/-- THE TIED CARD OF 'bowlinelaw39.CodecPrefixes'. -/
def codecPrefixesCard : Claim7 := { stood := { row := codecPrefixesRow, standIns := [], harness := (true, "a9d998bf123600302bcc6d73abe8a395b6c2d0250c80433b6b32396887eb25fb"), looks := false }, kinds := [], alts := [], laidByText := true, laidKinds := [.funcs], laidTests := true, laidLooks := .later }
def CodecPrefixesCardSaid : Prop := Claim7.holds Tryz.pinned (.plain (OpenSpec.ofChange codecPrefixesSpec)) codecPrefixesCard

/-- THE TIED CARD OF 'bowlinelaw39.CodecHashes'. -/
def codecHashesCard : Claim7 := { stood := { row := codecHashesRow, standIns := [], harness := (true, "a9d998bf123600302bcc6d73abe8a395b6c2d0250c80433b6b32396887eb25fb"), looks := false }, kinds := [], alts := [], laidByText := true, laidKinds := [.funcs], laidTests := true, laidLooks := .later }
def CodecHashesCardSaid : Prop := Claim7.holds Tryz.pinned (.plain (OpenSpec.ofChange codecHashesSpec)) codecHashesCard

/-- THE SECOND FORM's CARD OF 'bowlinelaw39.CodecCodes'. -/
def codecCodesUptoCard : Claim7 := { stood := { row := codecCodesUptoRow, standIns := [], harness := (true, "a9d998bf123600302bcc6d73abe8a395b6c2d0250c80433b6b32396887eb25fb"), looks := false }, kinds := [], alts := [], laidByText := true, laidKinds := [.funcs], laidTests := true, laidLooks := .later }
def CodecCodesUptoCardSaid : Prop := Claim7.holds Tryz.pinned (.plain (OpenSpec.upto codecCodesSpec)) codecCodesUptoCard

/-- THE SECOND FORM's CARD OF 'bowlinelaw39.CodecPacks'. -/
def codecPacksUptoCard : Claim7 := { stood := { row := codecPacksUptoRow, standIns := [], harness := (true, "a9d998bf123600302bcc6d73abe8a395b6c2d0250c80433b6b32396887eb25fb"), looks := false }, kinds := [], alts := [], laidByText := true, laidKinds := [.funcs], laidTests := true, laidLooks := .later }
def CodecPacksUptoCardSaid : Prop := Claim7.holds Tryz.pinned (.plain (OpenSpec.upto codecPacksSpec)) codecPacksUptoCard

/-- THE SECOND FORM's CARD OF 'bowlinelaw39.CodecTokens'. -/
def codecTokensUptoCard : Claim7 := { stood := { row := codecTokensUptoRow, standIns := [], harness := (true, "a9d998bf123600302bcc6d73abe8a395b6c2d0250c80433b6b32396887eb25fb"), looks := false }, kinds := [], alts := [], laidByText := true, laidKinds := [.funcs], laidTests := true, laidLooks := .later }
def CodecTokensUptoCardSaid : Prop := Claim7.holds Tryz.pinned (.plain (OpenSpec.upto codecTokensSpec)) codecTokensUptoCard

/-- THE SECOND FORM's CARD OF 'bowlinelaw39.CodecInverse'. -/
def codecInverseUptoCard : Claim7 := { stood := { row := codecInverseUptoRow, standIns := [], harness := (true, "a9d998bf123600302bcc6d73abe8a395b6c2d0250c80433b6b32396887eb25fb"), looks := false }, kinds := [], alts := [], laidByText := true, laidKinds := [.funcs], laidTests := true, laidLooks := .later }
def CodecInverseUptoCardSaid : Prop := Claim7.holds Tryz.pinned (.plain (OpenSpec.upto codecInverseSpec)) codecInverseUptoCard

/-- THE SECOND FORM's CARD OF 'bowlinelaw39.CodecPrefixes'. -/
def codecPrefixesUptoCard : Claim7 := { stood := { row := codecPrefixesUptoRow, standIns := [], harness := (true, "a9d998bf123600302bcc6d73abe8a395b6c2d0250c80433b6b32396887eb25fb"), looks := false }, kinds := [], alts := [], laidByText := true, laidKinds := [.funcs], laidTests := true, laidLooks := .later }
def CodecPrefixesUptoCardSaid : Prop := Claim7.holds Tryz.pinned (.plain (OpenSpec.upto codecPrefixesSpec)) codecPrefixesUptoCard

/-- THE SECOND FORM's CARD OF 'bowlinelaw39.CodecHashes'. -/
def codecHashesUptoCard : Claim7 := { stood := { row := codecHashesUptoRow, standIns := [], harness := (true, "a9d998bf123600302bcc6d73abe8a395b6c2d0250c80433b6b32396887eb25fb"), looks := false }, kinds := [], alts := [], laidByText := true, laidKinds := [.funcs], laidTests := true, laidLooks := .later }
def CodecHashesUptoCardSaid : Prop := Claim7.holds Tryz.pinned (.plain (OpenSpec.upto codecHashesSpec)) codecHashesUptoCard
end Rows
end Go.Proofs.YtkcjbgepmkhdaaaGreatDoor
