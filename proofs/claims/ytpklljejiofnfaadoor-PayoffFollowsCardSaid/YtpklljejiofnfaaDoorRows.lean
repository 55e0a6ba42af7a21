/-
  NARROWER THAN 'FOR EVERY INPUT', by the rows' own cells (each row's printed sentence says how): PlayFollows: laid · PlayApart: laid · PlayConvicts: laid · PlayParts: laid · GainSteps: laid · GainParts: laid · GainBest: laid · GainLate: laid · GainSkips: laid · EquilibriumNeeds: laid · EquilibriumSpare: laid · PayoffFollows: laid · PayoffWorth: laid · PayoffSteps: laid · PayoffSums: laid.
  DERIVED. THE GIVEN ROWS OF THIS SEAT. 15 by the template 'for every input the law returns true; each argument reads behind the call as it read before'; 0 by the template 'total and deterministic' (their statements: YtpklljejiofnfaaDoorTotals.lean).
  GIVEN WITH THE SEED: the statements are not yours to turn. If you find one false, say at which input.
  Laid BY PROGRAM, IN A SANDBOX (cutbox-rows.mjs): the forced cells as the released guide's own fill.sh prints them over the translation 30d4aa113cf92080… (all of the seat's roots in one cut). By AI agents, Wed Nov 11 2026. No macro, syntax, notation, axiom, sorry.
-/
import Derived.Test.YtpklljejiofnfaaDoorChecked
import GoSem.Claim
import GoSem.ClaimJoined
import GoSem.ClaimMapViews
import Derived.JoinedTies
import Derived.KernelRfl
namespace Go.Proofs.YtpklljejiofnfaaDoor
/- THE CELL 'sum', in the pinned program and in every row, IS THE sha256 OF THE DUMP (.gsa) THAT YtpklljejiofnfaaDoorProg.lean LOADS. Nothing in Lean hashes anything: it is a label: what it is worth is what the hold of that sum in a sandbox is worth. -/
noncomputable def Tryd.pinned : Pinned := { name := "ytpklljejiofnfaadoor", sum := "30d4aa113cf9208004ea1402f3b71677daf5658a8b58501cb042a9f7d016de9d", checked := Tryd.checked }
namespace Rows
def none {H : Type} : Left H := { results := [], args := [] }

/- WHAT THE LISTED PACKAGE-LEVEL VARIABLES READ AS WHEN THE CALL BEGINS. Each datum BY PROGRAM (the guide's laid-datum.mjs) off the statement by which the dump's own 'gosem.cut.vars' lays the variable. In a bare row this is a premise. The card (YtpklljejiofnfaaDoorCards.lean) ties it to the program's text. -/
def laid_storagebarter_duty_costs {H : Type} : DataW H := .agg [.lit (.int .i64 0), .lit (.int .i64 8), .lit (.int .i64 8), .lit (.int .i64 1), .lit (.int .i64 2), .lit (.int .i64 1), .lit (.int .i64 1), .lit (.int .i64 8)]
def laid_storagebarter_deviation_hows {H : Type} : DataW H := .agg [.lit (.int .i64 1), .lit (.int .i64 2), .lit (.int .i64 3)]

/-- 'storagebarterlaw31.PlayFollows': WHATEVER THE INPUT: true; the input reads as it did. -/
def playFollowsSpec : ChangeSpec := { name := "playFollows", fn := fun _ => fun
  | [d] => { results := [.lit (.bool true)], args := [d] }
  | _ => none }
def playFollowsRow : OpenClaim := { program := "ytpklljejiofnfaadoor", sum := "30d4aa113cf9208004ea1402f3b71677daf5658a8b58501cb042a9f7d016de9d", func := "storagebarter/storagebarterlaw31.PlayFollows", spec := "playFollows", unfollowed := true, recurses := true, named := ["storagebarter/deviation.hows", "storagebarter/duty.costs"], apart := false, laid := [("storagebarter/duty.costs", laid_storagebarter_duty_costs), ("storagebarter/deviation.hows", laid_storagebarter_deviation_hows)] }
def PlayFollowsSaid : Prop := playFollowsRow.holds Tryd.pinned (OpenSpec.ofChange playFollowsSpec)

/-- ITS FALSE NEIGHBOUR: 'it returns false'. Refute it at one input. -/
def playFollowsWrong : ChangeSpec := { name := "playFollows", fn := fun _ => fun
  | [d] => { results := [.lit (.bool false)], args := [d] }
  | _ => none }
def PlayFollowsWrongFalsely : Prop := playFollowsRow.holds Tryd.pinned (OpenSpec.ofChange playFollowsWrong)

/-- 'storagebarterlaw31.PlayApart': WHATEVER THE INPUT: true; the input reads as it did. -/
def playApartSpec : ChangeSpec := { name := "playApart", fn := fun _ => fun
  | [d] => { results := [.lit (.bool true)], args := [d] }
  | _ => none }
def playApartRow : OpenClaim := { program := "ytpklljejiofnfaadoor", sum := "30d4aa113cf9208004ea1402f3b71677daf5658a8b58501cb042a9f7d016de9d", func := "storagebarter/storagebarterlaw31.PlayApart", spec := "playApart", unfollowed := true, recurses := true, named := ["storagebarter/deviation.hows", "storagebarter/duty.costs"], apart := false, laid := [("storagebarter/duty.costs", laid_storagebarter_duty_costs), ("storagebarter/deviation.hows", laid_storagebarter_deviation_hows)] }
def PlayApartSaid : Prop := playApartRow.holds Tryd.pinned (OpenSpec.ofChange playApartSpec)

/-- ITS FALSE NEIGHBOUR: 'it returns false'. Refute it at one input. -/
def playApartWrong : ChangeSpec := { name := "playApart", fn := fun _ => fun
  | [d] => { results := [.lit (.bool false)], args := [d] }
  | _ => none }
def PlayApartWrongFalsely : Prop := playApartRow.holds Tryd.pinned (OpenSpec.ofChange playApartWrong)

/-- 'storagebarterlaw31.PlayConvicts': WHATEVER THE INPUT: true; the input reads as it did. -/
def playConvictsSpec : ChangeSpec := { name := "playConvicts", fn := fun _ => fun
  | [d] => { results := [.lit (.bool true)], args := [d] }
  | _ => none }
def playConvictsRow : OpenClaim := { program := "ytpklljejiofnfaadoor", sum := "30d4aa113cf9208004ea1402f3b71677daf5658a8b58501cb042a9f7d016de9d", func := "storagebarter/storagebarterlaw31.PlayConvicts", spec := "playConvicts", unfollowed := true, recurses := true, named := ["storagebarter/deviation.hows", "storagebarter/duty.costs"], apart := false, laid := [("storagebarter/duty.costs", laid_storagebarter_duty_costs), ("storagebarter/deviation.hows", laid_storagebarter_deviation_hows)] }
def PlayConvictsSaid : Prop := playConvictsRow.holds Tryd.pinned (OpenSpec.ofChange playConvictsSpec)

/-- ITS FALSE NEIGHBOUR: 'it returns false'. Refute it at one input. -/
def playConvictsWrong : ChangeSpec := { name := "playConvicts", fn := fun _ => fun
  | [d] => { results := [.lit (.bool false)], args := [d] }
  | _ => none }
def PlayConvictsWrongFalsely : Prop := playConvictsRow.holds Tryd.pinned (OpenSpec.ofChange playConvictsWrong)

/-- 'storagebarterlaw31.PlayParts': WHATEVER THE INPUT: true; the input reads as it did. -/
def playPartsSpec : ChangeSpec := { name := "playParts", fn := fun _ => fun
  | [d] => { results := [.lit (.bool true)], args := [d] }
  | _ => none }
def playPartsRow : OpenClaim := { program := "ytpklljejiofnfaadoor", sum := "30d4aa113cf9208004ea1402f3b71677daf5658a8b58501cb042a9f7d016de9d", func := "storagebarter/storagebarterlaw31.PlayParts", spec := "playParts", unfollowed := true, recurses := true, named := ["storagebarter/deviation.hows", "storagebarter/duty.costs"], apart := false, laid := [("storagebarter/duty.costs", laid_storagebarter_duty_costs), ("storagebarter/deviation.hows", laid_storagebarter_deviation_hows)] }
def PlayPartsSaid : Prop := playPartsRow.holds Tryd.pinned (OpenSpec.ofChange playPartsSpec)

/-- ITS FALSE NEIGHBOUR: 'it returns false'. Refute it at one input. -/
def playPartsWrong : ChangeSpec := { name := "playParts", fn := fun _ => fun
  | [d] => { results := [.lit (.bool false)], args := [d] }
  | _ => none }
def PlayPartsWrongFalsely : Prop := playPartsRow.holds Tryd.pinned (OpenSpec.ofChange playPartsWrong)

/-- 'storagebarterlaw33.GainSteps': WHATEVER THE INPUT: true; the input reads as it did. -/
def gainStepsSpec : ChangeSpec := { name := "gainSteps", fn := fun _ => fun
  | [d1, d2, d3, d4, d5] => { results := [.lit (.bool true)], args := [d1, d2, d3, d4, d5] }
  | _ => none }
def gainStepsRow : OpenClaim := { program := "ytpklljejiofnfaadoor", sum := "30d4aa113cf9208004ea1402f3b71677daf5658a8b58501cb042a9f7d016de9d", func := "storagebarter/storagebarterlaw33.GainSteps", spec := "gainSteps", unfollowed := true, recurses := true, named := ["storagebarter/duty.costs", "storagebarter/deviation.hows"], apart := false, laid := [("storagebarter/duty.costs", laid_storagebarter_duty_costs), ("storagebarter/deviation.hows", laid_storagebarter_deviation_hows)] }
def GainStepsSaid : Prop := gainStepsRow.holds Tryd.pinned (OpenSpec.ofChange gainStepsSpec)

/-- ITS FALSE NEIGHBOUR: 'it returns false'. Refute it at one input. -/
def gainStepsWrong : ChangeSpec := { name := "gainSteps", fn := fun _ => fun
  | [d1, d2, d3, d4, d5] => { results := [.lit (.bool false)], args := [d1, d2, d3, d4, d5] }
  | _ => none }
def GainStepsWrongFalsely : Prop := gainStepsRow.holds Tryd.pinned (OpenSpec.ofChange gainStepsWrong)

/-- 'storagebarterlaw33.GainParts': WHATEVER THE INPUT: true; the input reads as it did. -/
def gainPartsSpec : ChangeSpec := { name := "gainParts", fn := fun _ => fun
  | [d] => { results := [.lit (.bool true)], args := [d] }
  | _ => none }
def gainPartsRow : OpenClaim := { program := "ytpklljejiofnfaadoor", sum := "30d4aa113cf9208004ea1402f3b71677daf5658a8b58501cb042a9f7d016de9d", func := "storagebarter/storagebarterlaw33.GainParts", spec := "gainParts", unfollowed := true, recurses := true, named := ["storagebarter/duty.costs", "storagebarter/deviation.hows"], apart := false, laid := [("storagebarter/duty.costs", laid_storagebarter_duty_costs), ("storagebarter/deviation.hows", laid_storagebarter_deviation_hows)] }
def GainPartsSaid : Prop := gainPartsRow.holds Tryd.pinned (OpenSpec.ofChange gainPartsSpec)

/-- ITS FALSE NEIGHBOUR: 'it returns false'. Refute it at one input. -/
def gainPartsWrong : ChangeSpec := { name := "gainParts", fn := fun _ => fun
  | [d] => { results := [.lit (.bool false)], args := [d] }
  | _ => none }
def GainPartsWrongFalsely : Prop := gainPartsRow.holds Tryd.pinned (OpenSpec.ofChange gainPartsWrong)

/-- 'storagebarterlaw33.GainBest': WHATEVER THE INPUT: true; the input reads as it did. -/
def gainBestSpec : ChangeSpec := { name := "gainBest", fn := fun _ => fun
  | [d] => { results := [.lit (.bool true)], args := [d] }
  | _ => none }
def gainBestRow : OpenClaim := { program := "ytpklljejiofnfaadoor", sum := "30d4aa113cf9208004ea1402f3b71677daf5658a8b58501cb042a9f7d016de9d", func := "storagebarter/storagebarterlaw33.GainBest", spec := "gainBest", unfollowed := true, recurses := true, named := ["storagebarter/duty.costs", "storagebarter/deviation.hows"], apart := false, laid := [("storagebarter/duty.costs", laid_storagebarter_duty_costs), ("storagebarter/deviation.hows", laid_storagebarter_deviation_hows)] }
def GainBestSaid : Prop := gainBestRow.holds Tryd.pinned (OpenSpec.ofChange gainBestSpec)

/-- ITS FALSE NEIGHBOUR: 'it returns false'. Refute it at one input. -/
def gainBestWrong : ChangeSpec := { name := "gainBest", fn := fun _ => fun
  | [d] => { results := [.lit (.bool false)], args := [d] }
  | _ => none }
def GainBestWrongFalsely : Prop := gainBestRow.holds Tryd.pinned (OpenSpec.ofChange gainBestWrong)

/-- 'storagebarterlaw33.GainLate': WHATEVER THE INPUT: true; the input reads as it did. -/
def gainLateSpec : ChangeSpec := { name := "gainLate", fn := fun _ => fun
  | [d] => { results := [.lit (.bool true)], args := [d] }
  | _ => none }
def gainLateRow : OpenClaim := { program := "ytpklljejiofnfaadoor", sum := "30d4aa113cf9208004ea1402f3b71677daf5658a8b58501cb042a9f7d016de9d", func := "storagebarter/storagebarterlaw33.GainLate", spec := "gainLate", unfollowed := true, recurses := true, named := ["storagebarter/duty.costs", "storagebarter/deviation.hows"], apart := false, laid := [("storagebarter/duty.costs", laid_storagebarter_duty_costs), ("storagebarter/deviation.hows", laid_storagebarter_deviation_hows)] }
def GainLateSaid : Prop := gainLateRow.holds Tryd.pinned (OpenSpec.ofChange gainLateSpec)

/-- ITS FALSE NEIGHBOUR: 'it returns false'. Refute it at one input. -/
def gainLateWrong : ChangeSpec := { name := "gainLate", fn := fun _ => fun
  | [d] => { results := [.lit (.bool false)], args := [d] }
  | _ => none }
def GainLateWrongFalsely : Prop := gainLateRow.holds Tryd.pinned (OpenSpec.ofChange gainLateWrong)

/-- 'storagebarterlaw33.GainSkips': WHATEVER THE INPUT: true; the input reads as it did. -/
def gainSkipsSpec : ChangeSpec := { name := "gainSkips", fn := fun _ => fun
  | [d] => { results := [.lit (.bool true)], args := [d] }
  | _ => none }
def gainSkipsRow : OpenClaim := { program := "ytpklljejiofnfaadoor", sum := "30d4aa113cf9208004ea1402f3b71677daf5658a8b58501cb042a9f7d016de9d", func := "storagebarter/storagebarterlaw33.GainSkips", spec := "gainSkips", unfollowed := true, recurses := true, named := ["storagebarter/duty.costs", "storagebarter/deviation.hows"], apart := false, laid := [("storagebarter/duty.costs", laid_storagebarter_duty_costs), ("storagebarter/deviation.hows", laid_storagebarter_deviation_hows)] }
def GainSkipsSaid : Prop := gainSkipsRow.holds Tryd.pinned (OpenSpec.ofChange gainSkipsSpec)

/-- ITS FALSE NEIGHBOUR: 'it returns false'. Refute it at one input. -/
def gainSkipsWrong : ChangeSpec := { name := "gainSkips", fn := fun _ => fun
  | [d] => { results := [.lit (.bool false)], args := [d] }
  | _ => none }
def GainSkipsWrongFalsely : Prop := gainSkipsRow.holds Tryd.pinned (OpenSpec.ofChange gainSkipsWrong)

/-- 'storagebarterlaw34.EquilibriumNeeds': WHATEVER THE INPUT: true; the input reads as it did. -/
def equilibriumNeedsSpec : ChangeSpec := { name := "equilibriumNeeds", fn := fun _ => fun
  | [d] => { results := [.lit (.bool true)], args := [d] }
  | _ => none }
def equilibriumNeedsRow : OpenClaim := { program := "ytpklljejiofnfaadoor", sum := "30d4aa113cf9208004ea1402f3b71677daf5658a8b58501cb042a9f7d016de9d", func := "storagebarter/storagebarterlaw34.EquilibriumNeeds", spec := "equilibriumNeeds", unfollowed := true, recurses := true, named := ["storagebarter/duty.costs", "storagebarter/deviation.hows"], apart := false, laid := [("storagebarter/duty.costs", laid_storagebarter_duty_costs), ("storagebarter/deviation.hows", laid_storagebarter_deviation_hows)] }
def EquilibriumNeedsSaid : Prop := equilibriumNeedsRow.holds Tryd.pinned (OpenSpec.ofChange equilibriumNeedsSpec)

/-- ITS FALSE NEIGHBOUR: 'it returns false'. Refute it at one input. -/
def equilibriumNeedsWrong : ChangeSpec := { name := "equilibriumNeeds", fn := fun _ => fun
  | [d] => { results := [.lit (.bool false)], args := [d] }
  | _ => none }
def EquilibriumNeedsWrongFalsely : Prop := equilibriumNeedsRow.holds Tryd.pinned (OpenSpec.ofChange equilibriumNeedsWrong)

/-- 'storagebarterlaw34.EquilibriumSpare': WHATEVER THE INPUT: true; the input reads as it did. -/
def equilibriumSpareSpec : ChangeSpec := { name := "equilibriumSpare", fn := fun _ => fun
  | [d] => { results := [.lit (.bool true)], args := [d] }
  | _ => none }
def equilibriumSpareRow : OpenClaim := { program := "ytpklljejiofnfaadoor", sum := "30d4aa113cf9208004ea1402f3b71677daf5658a8b58501cb042a9f7d016de9d", func := "storagebarter/storagebarterlaw34.EquilibriumSpare", spec := "equilibriumSpare", unfollowed := true, recurses := true, named := ["storagebarter/duty.costs", "storagebarter/deviation.hows"], apart := false, laid := [("storagebarter/duty.costs", laid_storagebarter_duty_costs), ("storagebarter/deviation.hows", laid_storagebarter_deviation_hows)] }
def EquilibriumSpareSaid : Prop := equilibriumSpareRow.holds Tryd.pinned (OpenSpec.ofChange equilibriumSpareSpec)

/-- ITS FALSE NEIGHBOUR: 'it returns false'. Refute it at one input. -/
def equilibriumSpareWrong : ChangeSpec := { name := "equilibriumSpare", fn := fun _ => fun
  | [d] => { results := [.lit (.bool false)], args := [d] }
  | _ => none }
def EquilibriumSpareWrongFalsely : Prop := equilibriumSpareRow.holds Tryd.pinned (OpenSpec.ofChange equilibriumSpareWrong)

/-- 'storagebarterlaw32.PayoffFollows': WHATEVER THE INPUT: true; the input reads as it did. -/
def payoffFollowsSpec : ChangeSpec := { name := "payoffFollows", fn := fun _ => fun
  | [d] => { results := [.lit (.bool true)], args := [d] }
  | _ => none }
def payoffFollowsRow : OpenClaim := { program := "ytpklljejiofnfaadoor", sum := "30d4aa113cf9208004ea1402f3b71677daf5658a8b58501cb042a9f7d016de9d", func := "storagebarter/storagebarterlaw32.PayoffFollows", spec := "payoffFollows", unfollowed := true, recurses := true, named := ["storagebarter/duty.costs"], apart := false, laid := [("storagebarter/duty.costs", laid_storagebarter_duty_costs)] }
def PayoffFollowsSaid : Prop := payoffFollowsRow.holds Tryd.pinned (OpenSpec.ofChange payoffFollowsSpec)

/-- ITS FALSE NEIGHBOUR: 'it returns false'. Refute it at one input. -/
def payoffFollowsWrong : ChangeSpec := { name := "payoffFollows", fn := fun _ => fun
  | [d] => { results := [.lit (.bool false)], args := [d] }
  | _ => none }
def PayoffFollowsWrongFalsely : Prop := payoffFollowsRow.holds Tryd.pinned (OpenSpec.ofChange payoffFollowsWrong)

/-- 'storagebarterlaw32.PayoffWorth': WHATEVER THE INPUT: true; the input reads as it did. -/
def payoffWorthSpec : ChangeSpec := { name := "payoffWorth", fn := fun _ => fun
  | [d1, d2] => { results := [.lit (.bool true)], args := [d1, d2] }
  | _ => none }
def payoffWorthRow : OpenClaim := { program := "ytpklljejiofnfaadoor", sum := "30d4aa113cf9208004ea1402f3b71677daf5658a8b58501cb042a9f7d016de9d", func := "storagebarter/storagebarterlaw32.PayoffWorth", spec := "payoffWorth", unfollowed := true, recurses := true, named := ["storagebarter/duty.costs"], apart := false, laid := [("storagebarter/duty.costs", laid_storagebarter_duty_costs)] }
def PayoffWorthSaid : Prop := payoffWorthRow.holds Tryd.pinned (OpenSpec.ofChange payoffWorthSpec)

/-- ITS FALSE NEIGHBOUR: 'it returns false'. Refute it at one input. -/
def payoffWorthWrong : ChangeSpec := { name := "payoffWorth", fn := fun _ => fun
  | [d1, d2] => { results := [.lit (.bool false)], args := [d1, d2] }
  | _ => none }
def PayoffWorthWrongFalsely : Prop := payoffWorthRow.holds Tryd.pinned (OpenSpec.ofChange payoffWorthWrong)

/-- 'storagebarterlaw32.PayoffSteps': WHATEVER THE INPUT: true; the input reads as it did. -/
def payoffStepsSpec : ChangeSpec := { name := "payoffSteps", fn := fun _ => fun
  | [d1, d2, d3] => { results := [.lit (.bool true)], args := [d1, d2, d3] }
  | _ => none }
def payoffStepsRow : OpenClaim := { program := "ytpklljejiofnfaadoor", sum := "30d4aa113cf9208004ea1402f3b71677daf5658a8b58501cb042a9f7d016de9d", func := "storagebarter/storagebarterlaw32.PayoffSteps", spec := "payoffSteps", unfollowed := true, recurses := true, named := ["storagebarter/duty.costs"], apart := false, laid := [("storagebarter/duty.costs", laid_storagebarter_duty_costs)] }
def PayoffStepsSaid : Prop := payoffStepsRow.holds Tryd.pinned (OpenSpec.ofChange payoffStepsSpec)

/-- ITS FALSE NEIGHBOUR: 'it returns false'. Refute it at one input. -/
def payoffStepsWrong : ChangeSpec := { name := "payoffSteps", fn := fun _ => fun
  | [d1, d2, d3] => { results := [.lit (.bool false)], args := [d1, d2, d3] }
  | _ => none }
def PayoffStepsWrongFalsely : Prop := payoffStepsRow.holds Tryd.pinned (OpenSpec.ofChange payoffStepsWrong)

/-- 'storagebarterlaw32.PayoffSums': WHATEVER THE INPUT: true; the input reads as it did. -/
def payoffSumsSpec : ChangeSpec := { name := "payoffSums", fn := fun _ => fun
  | [d] => { results := [.lit (.bool true)], args := [d] }
  | _ => none }
def payoffSumsRow : OpenClaim := { program := "ytpklljejiofnfaadoor", sum := "30d4aa113cf9208004ea1402f3b71677daf5658a8b58501cb042a9f7d016de9d", func := "storagebarter/storagebarterlaw32.PayoffSums", spec := "payoffSums", unfollowed := true, recurses := true, named := ["storagebarter/duty.costs"], apart := false, laid := [("storagebarter/duty.costs", laid_storagebarter_duty_costs)] }
def PayoffSumsSaid : Prop := payoffSumsRow.holds Tryd.pinned (OpenSpec.ofChange payoffSumsSpec)

/-- ITS FALSE NEIGHBOUR: 'it returns false'. Refute it at one input. -/
def payoffSumsWrong : ChangeSpec := { name := "payoffSums", fn := fun _ => fun
  | [d] => { results := [.lit (.bool false)], args := [d] }
  | _ => none }
def PayoffSumsWrongFalsely : Prop := payoffSumsRow.holds Tryd.pinned (OpenSpec.ofChange payoffSumsWrong)

/- THE SECOND FORM. 'bulk': how many values and letters a reading holds, each counted each time it is reached (what is shared counts as often as it is met; a slice's spare places count too). A statement '..UptoSaid' is the law's where the arguments, and the package variables that the reading takes, are together of bulk at most 1048576: NARROWER than '..Said'. Prove '..Said' where nothing that the law and all that it calls make is longer than what came in: it says more and counts as full. Else prove '..UptoSaid'. A law counts once. -/
mutual
def uptoBulk {H : Type} : DataW H → Nat
  | .lit (.string bytes) => bytes.length + 1
  | .lit _ => 1
  | .nil => 1
  | .ptr d => uptoBulk d + 1
  | .slice elems spare => uptoBulkAll elems + uptoBulkAll spare + 1
  | .agg parts => uptoBulkAll parts + 1
  | .iface _ d => uptoBulk d + 1
  | .map entries => uptoBulkEntries entries + 1
  | .held _ => 1
def uptoBulkAll {H : Type} : List (DataW H) → Nat
  | [] => 0
  | d :: r => uptoBulk d + uptoBulkAll r
def uptoBulkEntries {H : Type} : List (Lit × DataW H) → Nat
  | [] => 0
  | x :: r => uptoBulkEntry x + uptoBulkEntries r
def uptoBulkEntry {H : Type} : Lit × DataW H → Nat
  | (.string bytes, d) => bytes.length + uptoBulk d + 1
  | (_, d) => uptoBulk d + 1
 end
def uptoSmall : (H : Type) → List (DataW H) → Bool := fun _ ds => decide (uptoBulkAll ds ≤ 1048576)
def OpenSpec.upto (s : _root_.Go.ChangeSpec) : _root_.Go.OpenSpec := { _root_.Go.OpenSpec.ofChange s with cond := some uptoSmall }

/-- 'storagebarterlaw31.PlayFollows', WHERE WHAT IT READS IS OF BULK AT MOST 1048576: true; the input reads as it did. -/
def playFollowsUptoRow : OpenClaim := { program := "ytpklljejiofnfaadoor", sum := "30d4aa113cf9208004ea1402f3b71677daf5658a8b58501cb042a9f7d016de9d", func := "storagebarter/storagebarterlaw31.PlayFollows", spec := "playFollows", unfollowed := true, recurses := true, named := ["storagebarter/deviation.hows", "storagebarter/duty.costs"], apart := false, laid := [("storagebarter/duty.costs", laid_storagebarter_duty_costs), ("storagebarter/deviation.hows", laid_storagebarter_deviation_hows)], narrowed := true }
def PlayFollowsUptoSaid : Prop := playFollowsUptoRow.holds Tryd.pinned (OpenSpec.upto playFollowsSpec)

/-- 'storagebarterlaw31.PlayApart', WHERE WHAT IT READS IS OF BULK AT MOST 1048576: true; the input reads as it did. -/
def playApartUptoRow : OpenClaim := { program := "ytpklljejiofnfaadoor", sum := "30d4aa113cf9208004ea1402f3b71677daf5658a8b58501cb042a9f7d016de9d", func := "storagebarter/storagebarterlaw31.PlayApart", spec := "playApart", unfollowed := true, recurses := true, named := ["storagebarter/deviation.hows", "storagebarter/duty.costs"], apart := false, laid := [("storagebarter/duty.costs", laid_storagebarter_duty_costs), ("storagebarter/deviation.hows", laid_storagebarter_deviation_hows)], narrowed := true }
def PlayApartUptoSaid : Prop := playApartUptoRow.holds Tryd.pinned (OpenSpec.upto playApartSpec)

/-- 'storagebarterlaw31.PlayConvicts', WHERE WHAT IT READS IS OF BULK AT MOST 1048576: true; the input reads as it did. -/
def playConvictsUptoRow : OpenClaim := { program := "ytpklljejiofnfaadoor", sum := "30d4aa113cf9208004ea1402f3b71677daf5658a8b58501cb042a9f7d016de9d", func := "storagebarter/storagebarterlaw31.PlayConvicts", spec := "playConvicts", unfollowed := true, recurses := true, named := ["storagebarter/deviation.hows", "storagebarter/duty.costs"], apart := false, laid := [("storagebarter/duty.costs", laid_storagebarter_duty_costs), ("storagebarter/deviation.hows", laid_storagebarter_deviation_hows)], narrowed := true }
def PlayConvictsUptoSaid : Prop := playConvictsUptoRow.holds Tryd.pinned (OpenSpec.upto playConvictsSpec)

/-- 'storagebarterlaw31.PlayParts', WHERE WHAT IT READS IS OF BULK AT MOST 1048576: true; the input reads as it did. -/
def playPartsUptoRow : OpenClaim := { program := "ytpklljejiofnfaadoor", sum := "30d4aa113cf9208004ea1402f3b71677daf5658a8b58501cb042a9f7d016de9d", func := "storagebarter/storagebarterlaw31.PlayParts", spec := "playParts", unfollowed := true, recurses := true, named := ["storagebarter/deviation.hows", "storagebarter/duty.costs"], apart := false, laid := [("storagebarter/duty.costs", laid_storagebarter_duty_costs), ("storagebarter/deviation.hows", laid_storagebarter_deviation_hows)], narrowed := true }
def PlayPartsUptoSaid : Prop := playPartsUptoRow.holds Tryd.pinned (OpenSpec.upto playPartsSpec)

/-- 'storagebarterlaw33.GainSteps', WHERE WHAT IT READS IS OF BULK AT MOST 1048576: true; the input reads as it did. -/
def gainStepsUptoRow : OpenClaim := { program := "ytpklljejiofnfaadoor", sum := "30d4aa113cf9208004ea1402f3b71677daf5658a8b58501cb042a9f7d016de9d", func := "storagebarter/storagebarterlaw33.GainSteps", spec := "gainSteps", unfollowed := true, recurses := true, named := ["storagebarter/duty.costs", "storagebarter/deviation.hows"], apart := false, laid := [("storagebarter/duty.costs", laid_storagebarter_duty_costs), ("storagebarter/deviation.hows", laid_storagebarter_deviation_hows)], narrowed := true }
def GainStepsUptoSaid : Prop := gainStepsUptoRow.holds Tryd.pinned (OpenSpec.upto gainStepsSpec)

/-- 'storagebarterlaw33.GainParts', WHERE WHAT IT READS IS OF BULK AT MOST 1048576: true; the input reads as it did. -/
def gainPartsUptoRow : OpenClaim := { program := "ytpklljejiofnfaadoor", sum := "30d4aa113cf9208004ea1402f3b71677daf5658a8b58501cb042a9f7d016de9d", func := "storagebarter/storagebarterlaw33.GainParts", spec := "gainParts", unfollowed := true, recurses := true, named := ["storagebarter/duty.costs", "storagebarter/deviation.hows"], apart := false, laid := [("storagebarter/duty.costs", laid_storagebarter_duty_costs), ("storagebarter/deviation.hows", laid_storagebarter_deviation_hows)], narrowed := true }
def GainPartsUptoSaid : Prop := gainPartsUptoRow.holds Tryd.pinned (OpenSpec.upto gainPartsSpec)

/-- 'storagebarterlaw33.GainBest', WHERE WHAT IT READS IS OF BULK AT MOST 1048576: true; the input reads as it did. -/
def gainBestUptoRow : OpenClaim := { program := "ytpklljejiofnfaadoor", sum := "30d4aa113cf9208004ea1402f3b71677daf5658a8b58501cb042a9f7d016de9d", func := "storagebarter/storagebarterlaw33.GainBest", spec := "gainBest", unfollowed := true, recurses := true, named := ["storagebarter/duty.costs", "storagebarter/deviation.hows"], apart := false, laid := [("storagebarter/duty.costs", laid_storagebarter_duty_costs), ("storagebarter/deviation.hows", laid_storagebarter_deviation_hows)], narrowed := true }
def GainBestUptoSaid : Prop := gainBestUptoRow.holds Tryd.pinned (OpenSpec.upto gainBestSpec)

/-- 'storagebarterlaw33.GainLate', WHERE WHAT IT READS IS OF BULK AT MOST 1048576: true; the input reads as it did. -/
def gainLateUptoRow : OpenClaim := { program := "ytpklljejiofnfaadoor", sum := "30d4aa113cf9208004ea1402f3b71677daf5658a8b58501cb042a9f7d016de9d", func := "storagebarter/storagebarterlaw33.GainLate", spec := "gainLate", unfollowed := true, recurses := true, named := ["storagebarter/duty.costs", "storagebarter/deviation.hows"], apart := false, laid := [("storagebarter/duty.costs", laid_storagebarter_duty_costs), ("storagebarter/deviation.hows", laid_storagebarter_deviation_hows)], narrowed := true }
def GainLateUptoSaid : Prop := gainLateUptoRow.holds Tryd.pinned (OpenSpec.upto gainLateSpec)

/-- 'storagebarterlaw33.GainSkips', WHERE WHAT IT READS IS OF BULK AT MOST 1048576: true; the input reads as it did. -/
def gainSkipsUptoRow : OpenClaim := { program := "ytpklljejiofnfaadoor", sum := "30d4aa113cf9208004ea1402f3b71677daf5658a8b58501cb042a9f7d016de9d", func := "storagebarter/storagebarterlaw33.GainSkips", spec := "gainSkips", unfollowed := true, recurses := true, named := ["storagebarter/duty.costs", "storagebarter/deviation.hows"], apart := false, laid := [("storagebarter/duty.costs", laid_storagebarter_duty_costs), ("storagebarter/deviation.hows", laid_storagebarter_deviation_hows)], narrowed := true }
def GainSkipsUptoSaid : Prop := gainSkipsUptoRow.holds Tryd.pinned (OpenSpec.upto gainSkipsSpec)

/-- 'storagebarterlaw34.EquilibriumNeeds', WHERE WHAT IT READS IS OF BULK AT MOST 1048576: true; the input reads as it did. -/
def equilibriumNeedsUptoRow : OpenClaim := { program := "ytpklljejiofnfaadoor", sum := "30d4aa113cf9208004ea1402f3b71677daf5658a8b58501cb042a9f7d016de9d", func := "storagebarter/storagebarterlaw34.EquilibriumNeeds", spec := "equilibriumNeeds", unfollowed := true, recurses := true, named := ["storagebarter/duty.costs", "storagebarter/deviation.hows"], apart := false, laid := [("storagebarter/duty.costs", laid_storagebarter_duty_costs), ("storagebarter/deviation.hows", laid_storagebarter_deviation_hows)], narrowed := true }
def EquilibriumNeedsUptoSaid : Prop := equilibriumNeedsUptoRow.holds Tryd.pinned (OpenSpec.upto equilibriumNeedsSpec)

/-- 'storagebarterlaw34.EquilibriumSpare', WHERE WHAT IT READS IS OF BULK AT MOST 1048576: true; the input reads as it did. -/
def equilibriumSpareUptoRow : OpenClaim := { program := "ytpklljejiofnfaadoor", sum := "30d4aa113cf9208004ea1402f3b71677daf5658a8b58501cb042a9f7d016de9d", func := "storagebarter/storagebarterlaw34.EquilibriumSpare", spec := "equilibriumSpare", unfollowed := true, recurses := true, named := ["storagebarter/duty.costs", "storagebarter/deviation.hows"], apart := false, laid := [("storagebarter/duty.costs", laid_storagebarter_duty_costs), ("storagebarter/deviation.hows", laid_storagebarter_deviation_hows)], narrowed := true }
def EquilibriumSpareUptoSaid : Prop := equilibriumSpareUptoRow.holds Tryd.pinned (OpenSpec.upto equilibriumSpareSpec)

/-- 'storagebarterlaw32.PayoffFollows', WHERE WHAT IT READS IS OF BULK AT MOST 1048576: true; the input reads as it did. -/
def payoffFollowsUptoRow : OpenClaim := { program := "ytpklljejiofnfaadoor", sum := "30d4aa113cf9208004ea1402f3b71677daf5658a8b58501cb042a9f7d016de9d", func := "storagebarter/storagebarterlaw32.PayoffFollows", spec := "payoffFollows", unfollowed := true, recurses := true, named := ["storagebarter/duty.costs"], apart := false, laid := [("storagebarter/duty.costs", laid_storagebarter_duty_costs)], narrowed := true }
def PayoffFollowsUptoSaid : Prop := payoffFollowsUptoRow.holds Tryd.pinned (OpenSpec.upto payoffFollowsSpec)

/-- 'storagebarterlaw32.PayoffWorth', WHERE WHAT IT READS IS OF BULK AT MOST 1048576: true; the input reads as it did. -/
def payoffWorthUptoRow : OpenClaim := { program := "ytpklljejiofnfaadoor", sum := "30d4aa113cf9208004ea1402f3b71677daf5658a8b58501cb042a9f7d016de9d", func := "storagebarter/storagebarterlaw32.PayoffWorth", spec := "payoffWorth", unfollowed := true, recurses := true, named := ["storagebarter/duty.costs"], apart := false, laid := [("storagebarter/duty.costs", laid_storagebarter_duty_costs)], narrowed := true }
def PayoffWorthUptoSaid : Prop := payoffWorthUptoRow.holds Tryd.pinned (OpenSpec.upto payoffWorthSpec)

/-- 'storagebarterlaw32.PayoffSteps', WHERE WHAT IT READS IS OF BULK AT MOST 1048576: true; the input reads as it did. -/
def payoffStepsUptoRow : OpenClaim := { program := "ytpklljejiofnfaadoor", sum := "30d4aa113cf9208004ea1402f3b71677daf5658a8b58501cb042a9f7d016de9d", func := "storagebarter/storagebarterlaw32.PayoffSteps", spec := "payoffSteps", unfollowed := true, recurses := true, named := ["storagebarter/duty.costs"], apart := false, laid := [("storagebarter/duty.costs", laid_storagebarter_duty_costs)], narrowed := true }
def PayoffStepsUptoSaid : Prop := payoffStepsUptoRow.holds Tryd.pinned (OpenSpec.upto payoffStepsSpec)

/-- 'storagebarterlaw32.PayoffSums', WHERE WHAT IT READS IS OF BULK AT MOST 1048576: true; the input reads as it did. -/
def payoffSumsUptoRow : OpenClaim := { program := "ytpklljejiofnfaadoor", sum := "30d4aa113cf9208004ea1402f3b71677daf5658a8b58501cb042a9f7d016de9d", func := "storagebarter/storagebarterlaw32.PayoffSums", spec := "payoffSums", unfollowed := true, recurses := true, named := ["storagebarter/duty.costs"], apart := false, laid := [("storagebarter/duty.costs", laid_storagebarter_duty_costs)], narrowed := true }
def PayoffSumsUptoSaid : Prop := payoffSumsUptoRow.holds Tryd.pinned (OpenSpec.upto payoffSumsSpec)

end Rows
end Go.Proofs.YtpklljejiofnfaaDoor
