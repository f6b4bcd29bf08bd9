/-
  DERIVED. GIVEN WITH THE SEED: THE CARDS: each row of YtibnhdbgfodjpaaDoorRows.lean that lists a variable, with what it lists TIED to the program's text (the seventh form; the later family's looks); each row that meets fmt, with fmt's text TOLD by the authors' own Lean function (tested against real Go, not proved from fmt's source: count such statements apart). THE CARD IS WHAT COUNTS. Prove the row's statement (the work); the ties are given (YtibnhdbgfodjpaaDoorTie.lean); close each card by the builder's one call (the guide's Derived/Test/ToyasCard.lean, 'card_holds'). Laid BY PROGRAM, IN A SANDBOX (cutbox-door.mjs). By AI agents, Wed Nov 11 2026. No macro, syntax, notation, axiom, sorry.
-/
import Derived.Test.YtibnhdbgfodjpaaDoorRows
import GoSem.ClaimSeven
namespace Go.Proofs.YtibnhdbgfodjpaaDoor
namespace Rows

/-- THE TIED CARD OF 'laws.FnExactQuoText'. -/
def fnExactQuoTextCard : Claim7 := { stood := { row := fnExactQuoTextRow, standIns := [], harness := (true, "6a077d00245c0d0dceca77b6685af25c91e9b3854fa03ba27aa748aa47be58a2"), looks := true }, kinds := [], alts := [], laidByText := true, laidKinds := [.data, .data, .data], laidTests := true, laidLooks := .later }
def FnExactQuoTextCardSaid : Prop := Claim7.holds Tryd.pinned (.plain (OpenSpec.ofChange fnExactQuoTextSpec)) fnExactQuoTextCard

/-- THE TIED CARD OF 'laws.FnExactBearingText'. -/
def fnExactBearingTextCard : Claim7 := { stood := { row := fnExactBearingTextRow, standIns := [], harness := (true, "6a077d00245c0d0dceca77b6685af25c91e9b3854fa03ba27aa748aa47be58a2"), looks := true }, kinds := [], alts := [], laidByText := true, laidKinds := [.data, .data, .data], laidTests := true, laidLooks := .later }
def FnExactBearingTextCardSaid : Prop := Claim7.holds Tryd.pinned (.plain (OpenSpec.ofChange fnExactBearingTextSpec)) fnExactBearingTextCard

/-- THE TIED CARD OF 'laws.FnBearingText'. -/
def fnBearingTextCard : Claim7 := { stood := { row := fnBearingTextRow, standIns := [], harness := (true, "6a077d00245c0d0dceca77b6685af25c91e9b3854fa03ba27aa748aa47be58a2"), looks := true }, kinds := [], alts := [], laidByText := true, laidKinds := [.data, .data, .data], laidTests := true, laidLooks := .later }
def FnBearingTextCardSaid : Prop := Claim7.holds Tryd.pinned (.plain (OpenSpec.ofChange fnBearingTextSpec)) fnBearingTextCard

/-- THE TIED CARD OF 'laws.FnQuoText'. -/
def fnQuoTextCard : Claim7 := { stood := { row := fnQuoTextRow, standIns := [], harness := (true, "6a077d00245c0d0dceca77b6685af25c91e9b3854fa03ba27aa748aa47be58a2"), looks := true }, kinds := [], alts := [], laidByText := true, laidKinds := [.data, .data, .data], laidTests := true, laidLooks := .later }
def FnQuoTextCardSaid : Prop := Claim7.holds Tryd.pinned (.plain (OpenSpec.ofChange fnQuoTextSpec)) fnQuoTextCard

/-- THE SECOND FORM's CARD OF 'laws.FnExactQuoText'. -/
def fnExactQuoTextUptoCard : Claim7 := { stood := { row := fnExactQuoTextUptoRow, standIns := [], harness := (true, "6a077d00245c0d0dceca77b6685af25c91e9b3854fa03ba27aa748aa47be58a2"), looks := true }, kinds := [], alts := [], laidByText := true, laidKinds := [.data, .data, .data], laidTests := true, laidLooks := .later }
def FnExactQuoTextUptoCardSaid : Prop := Claim7.holds Tryd.pinned (.plain (OpenSpec.upto fnExactQuoTextSpec)) fnExactQuoTextUptoCard

/-- THE SECOND FORM's CARD OF 'laws.FnExactBearingText'. -/
def fnExactBearingTextUptoCard : Claim7 := { stood := { row := fnExactBearingTextUptoRow, standIns := [], harness := (true, "6a077d00245c0d0dceca77b6685af25c91e9b3854fa03ba27aa748aa47be58a2"), looks := true }, kinds := [], alts := [], laidByText := true, laidKinds := [.data, .data, .data], laidTests := true, laidLooks := .later }
def FnExactBearingTextUptoCardSaid : Prop := Claim7.holds Tryd.pinned (.plain (OpenSpec.upto fnExactBearingTextSpec)) fnExactBearingTextUptoCard

/-- THE SECOND FORM's CARD OF 'laws.FnBearingText'. -/
def fnBearingTextUptoCard : Claim7 := { stood := { row := fnBearingTextUptoRow, standIns := [], harness := (true, "6a077d00245c0d0dceca77b6685af25c91e9b3854fa03ba27aa748aa47be58a2"), looks := true }, kinds := [], alts := [], laidByText := true, laidKinds := [.data, .data, .data], laidTests := true, laidLooks := .later }
def FnBearingTextUptoCardSaid : Prop := Claim7.holds Tryd.pinned (.plain (OpenSpec.upto fnBearingTextSpec)) fnBearingTextUptoCard

/-- THE SECOND FORM's CARD OF 'laws.FnQuoText'. -/
def fnQuoTextUptoCard : Claim7 := { stood := { row := fnQuoTextUptoRow, standIns := [], harness := (true, "6a077d00245c0d0dceca77b6685af25c91e9b3854fa03ba27aa748aa47be58a2"), looks := true }, kinds := [], alts := [], laidByText := true, laidKinds := [.data, .data, .data], laidTests := true, laidLooks := .later }
def FnQuoTextUptoCardSaid : Prop := Claim7.holds Tryd.pinned (.plain (OpenSpec.upto fnQuoTextSpec)) fnQuoTextUptoCard
end Rows
end Go.Proofs.YtibnhdbgfodjpaaDoor
