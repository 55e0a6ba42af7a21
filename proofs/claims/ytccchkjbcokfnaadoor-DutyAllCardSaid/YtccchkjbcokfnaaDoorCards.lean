/-
  DERIVED. GIVEN WITH THE SEED: THE CARDS: each row of YtccchkjbcokfnaaDoorRows.lean that lists a variable, with what it lists TIED to the program's text (the seventh form; the later family's looks); each row that meets fmt, with fmt's text TOLD by the authors' own Lean function (tested against real Go, not proved from fmt's source: count such statements apart). THE CARD IS WHAT COUNTS. Prove the row's statement (the work); the ties are given (YtccchkjbcokfnaaDoorTie.lean); close each card by the builder's one call (the guide's Derived/Test/ToyasCard.lean, 'card_holds'). Laid BY PROGRAM, IN A SANDBOX (cutbox-door.mjs). By AI agents, Wed Nov 11 2026. No macro, syntax, notation, axiom, sorry.
-/
import Derived.Test.YtccchkjbcokfnaaDoorRows
import GoSem.ClaimSeven
namespace Go.Proofs.YtccchkjbcokfnaaDoor
namespace Rows

/-- THE TIED CARD OF 'storagebarterlaw28.DutyMerges'. -/
def dutyMergesCard : Claim7 := { stood := { row := dutyMergesRow, standIns := [], harness := (true, "1b9c42854a56a6e0e1b8e2ea647dfc2242bf1330df1c4eb93894fc6942917be6"), looks := false }, kinds := [], alts := [], laidByText := true, laidKinds := [.data], laidTests := true, laidLooks := .later }
def DutyMergesCardSaid : Prop := Claim7.holds Tryd.pinned (.plain (OpenSpec.ofChange dutyMergesSpec)) dutyMergesCard

/-- THE TIED CARD OF 'storagebarterlaw28.DutyAll'. -/
def dutyAllCard : Claim7 := { stood := { row := dutyAllRow, standIns := [], harness := (true, "1b9c42854a56a6e0e1b8e2ea647dfc2242bf1330df1c4eb93894fc6942917be6"), looks := false }, kinds := [], alts := [], laidByText := true, laidKinds := [.data], laidTests := true, laidLooks := .later }
def DutyAllCardSaid : Prop := Claim7.holds Tryd.pinned (.plain (OpenSpec.ofChange dutyAllSpec)) dutyAllCard

/-- THE SECOND FORM's CARD OF 'storagebarterlaw28.DutyMerges'. -/
def dutyMergesUptoCard : Claim7 := { stood := { row := dutyMergesUptoRow, standIns := [], harness := (true, "1b9c42854a56a6e0e1b8e2ea647dfc2242bf1330df1c4eb93894fc6942917be6"), looks := false }, kinds := [], alts := [], laidByText := true, laidKinds := [.data], laidTests := true, laidLooks := .later }
def DutyMergesUptoCardSaid : Prop := Claim7.holds Tryd.pinned (.plain (OpenSpec.upto dutyMergesSpec)) dutyMergesUptoCard

/-- THE SECOND FORM's CARD OF 'storagebarterlaw28.DutyAll'. -/
def dutyAllUptoCard : Claim7 := { stood := { row := dutyAllUptoRow, standIns := [], harness := (true, "1b9c42854a56a6e0e1b8e2ea647dfc2242bf1330df1c4eb93894fc6942917be6"), looks := false }, kinds := [], alts := [], laidByText := true, laidKinds := [.data], laidTests := true, laidLooks := .later }
def DutyAllUptoCardSaid : Prop := Claim7.holds Tryd.pinned (.plain (OpenSpec.upto dutyAllSpec)) dutyAllUptoCard
end Rows
end Go.Proofs.YtccchkjbcokfnaaDoor
