/-
  DERIVED. GIVEN WITH THE SEED: THE CARDS: each row of YtpklljejiofnfaaDoorRows.lean that lists a variable, with what it lists TIED to the program's text (the seventh form; the later family's looks); each row that meets fmt, with fmt's text TOLD by the authors' own Lean function (tested against real Go, not proved from fmt's source: count such statements apart). THE CARD IS WHAT COUNTS. Prove the row's statement (the work); the ties are given (YtpklljejiofnfaaDoorTie.lean); close each card by the builder's one call (the guide's Derived/Test/ToyasCard.lean, 'card_holds'). Laid BY PROGRAM, IN A SANDBOX (cutbox-door.mjs). By AI agents, Wed Nov 11 2026. No macro, syntax, notation, axiom, sorry.
-/
import Derived.Test.YtpklljejiofnfaaDoorRows
import GoSem.ClaimSeven
namespace Go.Proofs.YtpklljejiofnfaaDoor
namespace Rows

/-- THE TIED CARD OF 'storagebarterlaw31.PlayFollows'. -/
def playFollowsCard : Claim7 := { stood := { row := playFollowsRow, standIns := [], harness := (true, "4a88351f19d95d3c349c83e5baf50444b7da156995c291d1692adcd1aac13d28"), looks := false }, kinds := [], alts := [], laidByText := true, laidKinds := [.data, .widerDeep], laidTests := true, laidLooks := .later }
def PlayFollowsCardSaid : Prop := Claim7.holds Tryd.pinned (.plain (OpenSpec.ofChange playFollowsSpec)) playFollowsCard

/-- THE TIED CARD OF 'storagebarterlaw31.PlayApart'. -/
def playApartCard : Claim7 := { stood := { row := playApartRow, standIns := [], harness := (true, "4a88351f19d95d3c349c83e5baf50444b7da156995c291d1692adcd1aac13d28"), looks := false }, kinds := [], alts := [], laidByText := true, laidKinds := [.data, .widerDeep], laidTests := true, laidLooks := .later }
def PlayApartCardSaid : Prop := Claim7.holds Tryd.pinned (.plain (OpenSpec.ofChange playApartSpec)) playApartCard

/-- THE TIED CARD OF 'storagebarterlaw31.PlayConvicts'. -/
def playConvictsCard : Claim7 := { stood := { row := playConvictsRow, standIns := [], harness := (true, "4a88351f19d95d3c349c83e5baf50444b7da156995c291d1692adcd1aac13d28"), looks := false }, kinds := [], alts := [], laidByText := true, laidKinds := [.data, .widerDeep], laidTests := true, laidLooks := .later }
def PlayConvictsCardSaid : Prop := Claim7.holds Tryd.pinned (.plain (OpenSpec.ofChange playConvictsSpec)) playConvictsCard

/-- THE TIED CARD OF 'storagebarterlaw31.PlayParts'. -/
def playPartsCard : Claim7 := { stood := { row := playPartsRow, standIns := [], harness := (true, "4a88351f19d95d3c349c83e5baf50444b7da156995c291d1692adcd1aac13d28"), looks := false }, kinds := [], alts := [], laidByText := true, laidKinds := [.data, .widerDeep], laidTests := true, laidLooks := .later }
def PlayPartsCardSaid : Prop := Claim7.holds Tryd.pinned (.plain (OpenSpec.ofChange playPartsSpec)) playPartsCard

/-- THE TIED CARD OF 'storagebarterlaw33.GainSteps'. -/
def gainStepsCard : Claim7 := { stood := { row := gainStepsRow, standIns := [], harness := (true, "4a88351f19d95d3c349c83e5baf50444b7da156995c291d1692adcd1aac13d28"), looks := false }, kinds := [], alts := [], laidByText := true, laidKinds := [.data, .widerDeep], laidTests := true, laidLooks := .later }
def GainStepsCardSaid : Prop := Claim7.holds Tryd.pinned (.plain (OpenSpec.ofChange gainStepsSpec)) gainStepsCard

/-- THE TIED CARD OF 'storagebarterlaw33.GainParts'. -/
def gainPartsCard : Claim7 := { stood := { row := gainPartsRow, standIns := [], harness := (true, "4a88351f19d95d3c349c83e5baf50444b7da156995c291d1692adcd1aac13d28"), looks := false }, kinds := [], alts := [], laidByText := true, laidKinds := [.data, .widerDeep], laidTests := true, laidLooks := .later }
def GainPartsCardSaid : Prop := Claim7.holds Tryd.pinned (.plain (OpenSpec.ofChange gainPartsSpec)) gainPartsCard

/-- THE TIED CARD OF 'storagebarterlaw33.GainBest'. -/
def gainBestCard : Claim7 := { stood := { row := gainBestRow, standIns := [], harness := (true, "4a88351f19d95d3c349c83e5baf50444b7da156995c291d1692adcd1aac13d28"), looks := false }, kinds := [], alts := [], laidByText := true, laidKinds := [.data, .widerDeep], laidTests := true, laidLooks := .later }
def GainBestCardSaid : Prop := Claim7.holds Tryd.pinned (.plain (OpenSpec.ofChange gainBestSpec)) gainBestCard

/-- THE TIED CARD OF 'storagebarterlaw33.GainLate'. -/
def gainLateCard : Claim7 := { stood := { row := gainLateRow, standIns := [], harness := (true, "4a88351f19d95d3c349c83e5baf50444b7da156995c291d1692adcd1aac13d28"), looks := false }, kinds := [], alts := [], laidByText := true, laidKinds := [.data, .widerDeep], laidTests := true, laidLooks := .later }
def GainLateCardSaid : Prop := Claim7.holds Tryd.pinned (.plain (OpenSpec.ofChange gainLateSpec)) gainLateCard

/-- THE TIED CARD OF 'storagebarterlaw33.GainSkips'. -/
def gainSkipsCard : Claim7 := { stood := { row := gainSkipsRow, standIns := [], harness := (true, "4a88351f19d95d3c349c83e5baf50444b7da156995c291d1692adcd1aac13d28"), looks := false }, kinds := [], alts := [], laidByText := true, laidKinds := [.data, .widerDeep], laidTests := true, laidLooks := .later }
def GainSkipsCardSaid : Prop := Claim7.holds Tryd.pinned (.plain (OpenSpec.ofChange gainSkipsSpec)) gainSkipsCard

/-- THE TIED CARD OF 'storagebarterlaw34.EquilibriumNeeds'. -/
def equilibriumNeedsCard : Claim7 := { stood := { row := equilibriumNeedsRow, standIns := [], harness := (true, "4a88351f19d95d3c349c83e5baf50444b7da156995c291d1692adcd1aac13d28"), looks := false }, kinds := [], alts := [], laidByText := true, laidKinds := [.data, .widerDeep], laidTests := true, laidLooks := .later }
def EquilibriumNeedsCardSaid : Prop := Claim7.holds Tryd.pinned (.plain (OpenSpec.ofChange equilibriumNeedsSpec)) equilibriumNeedsCard

/-- THE TIED CARD OF 'storagebarterlaw34.EquilibriumSpare'. -/
def equilibriumSpareCard : Claim7 := { stood := { row := equilibriumSpareRow, standIns := [], harness := (true, "4a88351f19d95d3c349c83e5baf50444b7da156995c291d1692adcd1aac13d28"), looks := false }, kinds := [], alts := [], laidByText := true, laidKinds := [.data, .widerDeep], laidTests := true, laidLooks := .later }
def EquilibriumSpareCardSaid : Prop := Claim7.holds Tryd.pinned (.plain (OpenSpec.ofChange equilibriumSpareSpec)) equilibriumSpareCard

/-- THE TIED CARD OF 'storagebarterlaw32.PayoffFollows'. -/
def payoffFollowsCard : Claim7 := { stood := { row := payoffFollowsRow, standIns := [], harness := (true, "4a88351f19d95d3c349c83e5baf50444b7da156995c291d1692adcd1aac13d28"), looks := false }, kinds := [], alts := [], laidByText := true, laidKinds := [.data], laidTests := true, laidLooks := .later }
def PayoffFollowsCardSaid : Prop := Claim7.holds Tryd.pinned (.plain (OpenSpec.ofChange payoffFollowsSpec)) payoffFollowsCard

/-- THE TIED CARD OF 'storagebarterlaw32.PayoffWorth'. -/
def payoffWorthCard : Claim7 := { stood := { row := payoffWorthRow, standIns := [], harness := (true, "4a88351f19d95d3c349c83e5baf50444b7da156995c291d1692adcd1aac13d28"), looks := false }, kinds := [], alts := [], laidByText := true, laidKinds := [.data], laidTests := true, laidLooks := .later }
def PayoffWorthCardSaid : Prop := Claim7.holds Tryd.pinned (.plain (OpenSpec.ofChange payoffWorthSpec)) payoffWorthCard

/-- THE TIED CARD OF 'storagebarterlaw32.PayoffSteps'. -/
def payoffStepsCard : Claim7 := { stood := { row := payoffStepsRow, standIns := [], harness := (true, "4a88351f19d95d3c349c83e5baf50444b7da156995c291d1692adcd1aac13d28"), looks := false }, kinds := [], alts := [], laidByText := true, laidKinds := [.data], laidTests := true, laidLooks := .later }
def PayoffStepsCardSaid : Prop := Claim7.holds Tryd.pinned (.plain (OpenSpec.ofChange payoffStepsSpec)) payoffStepsCard

/-- THE TIED CARD OF 'storagebarterlaw32.PayoffSums'. -/
def payoffSumsCard : Claim7 := { stood := { row := payoffSumsRow, standIns := [], harness := (true, "4a88351f19d95d3c349c83e5baf50444b7da156995c291d1692adcd1aac13d28"), looks := false }, kinds := [], alts := [], laidByText := true, laidKinds := [.data], laidTests := true, laidLooks := .later }
def PayoffSumsCardSaid : Prop := Claim7.holds Tryd.pinned (.plain (OpenSpec.ofChange payoffSumsSpec)) payoffSumsCard

/-- THE SECOND FORM's CARD OF 'storagebarterlaw31.PlayFollows'. -/
def playFollowsUptoCard : Claim7 := { stood := { row := playFollowsUptoRow, standIns := [], harness := (true, "4a88351f19d95d3c349c83e5baf50444b7da156995c291d1692adcd1aac13d28"), looks := false }, kinds := [], alts := [], laidByText := true, laidKinds := [.data, .widerDeep], laidTests := true, laidLooks := .later }
def PlayFollowsUptoCardSaid : Prop := Claim7.holds Tryd.pinned (.plain (OpenSpec.upto playFollowsSpec)) playFollowsUptoCard

/-- THE SECOND FORM's CARD OF 'storagebarterlaw31.PlayApart'. -/
def playApartUptoCard : Claim7 := { stood := { row := playApartUptoRow, standIns := [], harness := (true, "4a88351f19d95d3c349c83e5baf50444b7da156995c291d1692adcd1aac13d28"), looks := false }, kinds := [], alts := [], laidByText := true, laidKinds := [.data, .widerDeep], laidTests := true, laidLooks := .later }
def PlayApartUptoCardSaid : Prop := Claim7.holds Tryd.pinned (.plain (OpenSpec.upto playApartSpec)) playApartUptoCard

/-- THE SECOND FORM's CARD OF 'storagebarterlaw31.PlayConvicts'. -/
def playConvictsUptoCard : Claim7 := { stood := { row := playConvictsUptoRow, standIns := [], harness := (true, "4a88351f19d95d3c349c83e5baf50444b7da156995c291d1692adcd1aac13d28"), looks := false }, kinds := [], alts := [], laidByText := true, laidKinds := [.data, .widerDeep], laidTests := true, laidLooks := .later }
def PlayConvictsUptoCardSaid : Prop := Claim7.holds Tryd.pinned (.plain (OpenSpec.upto playConvictsSpec)) playConvictsUptoCard

/-- THE SECOND FORM's CARD OF 'storagebarterlaw31.PlayParts'. -/
def playPartsUptoCard : Claim7 := { stood := { row := playPartsUptoRow, standIns := [], harness := (true, "4a88351f19d95d3c349c83e5baf50444b7da156995c291d1692adcd1aac13d28"), looks := false }, kinds := [], alts := [], laidByText := true, laidKinds := [.data, .widerDeep], laidTests := true, laidLooks := .later }
def PlayPartsUptoCardSaid : Prop := Claim7.holds Tryd.pinned (.plain (OpenSpec.upto playPartsSpec)) playPartsUptoCard

/-- THE SECOND FORM's CARD OF 'storagebarterlaw33.GainSteps'. -/
def gainStepsUptoCard : Claim7 := { stood := { row := gainStepsUptoRow, standIns := [], harness := (true, "4a88351f19d95d3c349c83e5baf50444b7da156995c291d1692adcd1aac13d28"), looks := false }, kinds := [], alts := [], laidByText := true, laidKinds := [.data, .widerDeep], laidTests := true, laidLooks := .later }
def GainStepsUptoCardSaid : Prop := Claim7.holds Tryd.pinned (.plain (OpenSpec.upto gainStepsSpec)) gainStepsUptoCard

/-- THE SECOND FORM's CARD OF 'storagebarterlaw33.GainParts'. -/
def gainPartsUptoCard : Claim7 := { stood := { row := gainPartsUptoRow, standIns := [], harness := (true, "4a88351f19d95d3c349c83e5baf50444b7da156995c291d1692adcd1aac13d28"), looks := false }, kinds := [], alts := [], laidByText := true, laidKinds := [.data, .widerDeep], laidTests := true, laidLooks := .later }
def GainPartsUptoCardSaid : Prop := Claim7.holds Tryd.pinned (.plain (OpenSpec.upto gainPartsSpec)) gainPartsUptoCard

/-- THE SECOND FORM's CARD OF 'storagebarterlaw33.GainBest'. -/
def gainBestUptoCard : Claim7 := { stood := { row := gainBestUptoRow, standIns := [], harness := (true, "4a88351f19d95d3c349c83e5baf50444b7da156995c291d1692adcd1aac13d28"), looks := false }, kinds := [], alts := [], laidByText := true, laidKinds := [.data, .widerDeep], laidTests := true, laidLooks := .later }
def GainBestUptoCardSaid : Prop := Claim7.holds Tryd.pinned (.plain (OpenSpec.upto gainBestSpec)) gainBestUptoCard

/-- THE SECOND FORM's CARD OF 'storagebarterlaw33.GainLate'. -/
def gainLateUptoCard : Claim7 := { stood := { row := gainLateUptoRow, standIns := [], harness := (true, "4a88351f19d95d3c349c83e5baf50444b7da156995c291d1692adcd1aac13d28"), looks := false }, kinds := [], alts := [], laidByText := true, laidKinds := [.data, .widerDeep], laidTests := true, laidLooks := .later }
def GainLateUptoCardSaid : Prop := Claim7.holds Tryd.pinned (.plain (OpenSpec.upto gainLateSpec)) gainLateUptoCard

/-- THE SECOND FORM's CARD OF 'storagebarterlaw33.GainSkips'. -/
def gainSkipsUptoCard : Claim7 := { stood := { row := gainSkipsUptoRow, standIns := [], harness := (true, "4a88351f19d95d3c349c83e5baf50444b7da156995c291d1692adcd1aac13d28"), looks := false }, kinds := [], alts := [], laidByText := true, laidKinds := [.data, .widerDeep], laidTests := true, laidLooks := .later }
def GainSkipsUptoCardSaid : Prop := Claim7.holds Tryd.pinned (.plain (OpenSpec.upto gainSkipsSpec)) gainSkipsUptoCard

/-- THE SECOND FORM's CARD OF 'storagebarterlaw34.EquilibriumNeeds'. -/
def equilibriumNeedsUptoCard : Claim7 := { stood := { row := equilibriumNeedsUptoRow, standIns := [], harness := (true, "4a88351f19d95d3c349c83e5baf50444b7da156995c291d1692adcd1aac13d28"), looks := false }, kinds := [], alts := [], laidByText := true, laidKinds := [.data, .widerDeep], laidTests := true, laidLooks := .later }
def EquilibriumNeedsUptoCardSaid : Prop := Claim7.holds Tryd.pinned (.plain (OpenSpec.upto equilibriumNeedsSpec)) equilibriumNeedsUptoCard

/-- THE SECOND FORM's CARD OF 'storagebarterlaw34.EquilibriumSpare'. -/
def equilibriumSpareUptoCard : Claim7 := { stood := { row := equilibriumSpareUptoRow, standIns := [], harness := (true, "4a88351f19d95d3c349c83e5baf50444b7da156995c291d1692adcd1aac13d28"), looks := false }, kinds := [], alts := [], laidByText := true, laidKinds := [.data, .widerDeep], laidTests := true, laidLooks := .later }
def EquilibriumSpareUptoCardSaid : Prop := Claim7.holds Tryd.pinned (.plain (OpenSpec.upto equilibriumSpareSpec)) equilibriumSpareUptoCard

/-- THE SECOND FORM's CARD OF 'storagebarterlaw32.PayoffFollows'. -/
def payoffFollowsUptoCard : Claim7 := { stood := { row := payoffFollowsUptoRow, standIns := [], harness := (true, "4a88351f19d95d3c349c83e5baf50444b7da156995c291d1692adcd1aac13d28"), looks := false }, kinds := [], alts := [], laidByText := true, laidKinds := [.data], laidTests := true, laidLooks := .later }
def PayoffFollowsUptoCardSaid : Prop := Claim7.holds Tryd.pinned (.plain (OpenSpec.upto payoffFollowsSpec)) payoffFollowsUptoCard

/-- THE SECOND FORM's CARD OF 'storagebarterlaw32.PayoffWorth'. -/
def payoffWorthUptoCard : Claim7 := { stood := { row := payoffWorthUptoRow, standIns := [], harness := (true, "4a88351f19d95d3c349c83e5baf50444b7da156995c291d1692adcd1aac13d28"), looks := false }, kinds := [], alts := [], laidByText := true, laidKinds := [.data], laidTests := true, laidLooks := .later }
def PayoffWorthUptoCardSaid : Prop := Claim7.holds Tryd.pinned (.plain (OpenSpec.upto payoffWorthSpec)) payoffWorthUptoCard

/-- THE SECOND FORM's CARD OF 'storagebarterlaw32.PayoffSteps'. -/
def payoffStepsUptoCard : Claim7 := { stood := { row := payoffStepsUptoRow, standIns := [], harness := (true, "4a88351f19d95d3c349c83e5baf50444b7da156995c291d1692adcd1aac13d28"), looks := false }, kinds := [], alts := [], laidByText := true, laidKinds := [.data], laidTests := true, laidLooks := .later }
def PayoffStepsUptoCardSaid : Prop := Claim7.holds Tryd.pinned (.plain (OpenSpec.upto payoffStepsSpec)) payoffStepsUptoCard

/-- THE SECOND FORM's CARD OF 'storagebarterlaw32.PayoffSums'. -/
def payoffSumsUptoCard : Claim7 := { stood := { row := payoffSumsUptoRow, standIns := [], harness := (true, "4a88351f19d95d3c349c83e5baf50444b7da156995c291d1692adcd1aac13d28"), looks := false }, kinds := [], alts := [], laidByText := true, laidKinds := [.data], laidTests := true, laidLooks := .later }
def PayoffSumsUptoCardSaid : Prop := Claim7.holds Tryd.pinned (.plain (OpenSpec.upto payoffSumsSpec)) payoffSumsUptoCard
end Rows
end Go.Proofs.YtpklljejiofnfaaDoor
