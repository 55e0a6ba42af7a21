/-
  NARROWER THAN 'FOR EVERY INPUT', by the rows' own cells (each row's printed sentence says how): DutyMerges: laid · DutyAll: laid.
  DERIVED. THE GIVEN ROWS OF THIS SEAT. 2 by the template 'for every input the law returns true; each argument reads behind the call as it read before'; 0 by the template 'total and deterministic' (their statements: YtccchkjbcokfnaaDoorTotals.lean).
  GIVEN WITH THE SEED: the statements are not yours to turn. If you find one false, say at which input.
  Laid BY PROGRAM, IN A SANDBOX (cutbox-rows.mjs): the forced cells as the released guide's own fill.sh prints them over the translation 98493abd722590c0… (all of the seat's roots in one cut). By AI agents, Wed Nov 11 2026. No macro, syntax, notation, axiom, sorry.
-/
import Derived.Test.YtccchkjbcokfnaaDoorChecked
import GoSem.Claim
import GoSem.ClaimJoined
import GoSem.ClaimMapViews
import Derived.JoinedTies
import Derived.KernelRfl
namespace Go.Proofs.YtccchkjbcokfnaaDoor
/- THE CELL 'sum', in the pinned program and in every row, IS THE sha256 OF THE DUMP (.gsa) THAT YtccchkjbcokfnaaDoorProg.lean LOADS. Nothing in Lean hashes anything: it is a label: what it is worth is what the hold of that sum in a sandbox is worth. -/
noncomputable def Tryd.pinned : Pinned := { name := "ytccchkjbcokfnaadoor", sum := "98493abd722590c0a2a746d8dde8d93b702c32bc308c860fe6e62c866b10c35c", checked := Tryd.checked }
namespace Rows
def none {H : Type} : Left H := { results := [], args := [] }

/- WHAT THE LISTED PACKAGE-LEVEL VARIABLES READ AS WHEN THE CALL BEGINS. Each datum BY PROGRAM (the guide's laid-datum.mjs) off the statement by which the dump's own 'gosem.cut.vars' lays the variable. In a bare row this is a premise. The card (YtccchkjbcokfnaaDoorCards.lean) ties it to the program's text. -/
def laid_storagebarter_duty_costs {H : Type} : DataW H := .agg [.lit (.int .i64 0), .lit (.int .i64 8), .lit (.int .i64 8), .lit (.int .i64 1), .lit (.int .i64 2), .lit (.int .i64 1), .lit (.int .i64 1), .lit (.int .i64 8)]

/-- 'storagebarterlaw28.DutyMerges': WHATEVER THE INPUT: true; the input reads as it did. -/
def dutyMergesSpec : ChangeSpec := { name := "dutyMerges", fn := fun _ => fun
  | [d1, d2] => { results := [.lit (.bool true)], args := [d1, d2] }
  | _ => none }
def dutyMergesRow : OpenClaim := { program := "ytccchkjbcokfnaadoor", sum := "98493abd722590c0a2a746d8dde8d93b702c32bc308c860fe6e62c866b10c35c", func := "storagebarter/storagebarterlaw28.DutyMerges", spec := "dutyMerges", unfollowed := true, recurses := true, named := ["storagebarter/duty.costs"], apart := false, laid := [("storagebarter/duty.costs", laid_storagebarter_duty_costs)] }
def DutyMergesSaid : Prop := dutyMergesRow.holds Tryd.pinned (OpenSpec.ofChange dutyMergesSpec)

/-- ITS FALSE NEIGHBOUR: 'it returns false'. Refute it at one input. -/
def dutyMergesWrong : ChangeSpec := { name := "dutyMerges", fn := fun _ => fun
  | [d1, d2] => { results := [.lit (.bool false)], args := [d1, d2] }
  | _ => none }
def DutyMergesWrongFalsely : Prop := dutyMergesRow.holds Tryd.pinned (OpenSpec.ofChange dutyMergesWrong)

/-- 'storagebarterlaw28.DutyAll': WHATEVER THE INPUT: true; the input reads as it did. -/
def dutyAllSpec : ChangeSpec := { name := "dutyAll", fn := fun _ => fun
  | [d] => { results := [.lit (.bool true)], args := [d] }
  | _ => none }
def dutyAllRow : OpenClaim := { program := "ytccchkjbcokfnaadoor", sum := "98493abd722590c0a2a746d8dde8d93b702c32bc308c860fe6e62c866b10c35c", func := "storagebarter/storagebarterlaw28.DutyAll", spec := "dutyAll", unfollowed := true, recurses := true, named := ["storagebarter/duty.costs"], apart := false, laid := [("storagebarter/duty.costs", laid_storagebarter_duty_costs)] }
def DutyAllSaid : Prop := dutyAllRow.holds Tryd.pinned (OpenSpec.ofChange dutyAllSpec)

/-- ITS FALSE NEIGHBOUR: 'it returns false'. Refute it at one input. -/
def dutyAllWrong : ChangeSpec := { name := "dutyAll", fn := fun _ => fun
  | [d] => { results := [.lit (.bool false)], args := [d] }
  | _ => none }
def DutyAllWrongFalsely : Prop := dutyAllRow.holds Tryd.pinned (OpenSpec.ofChange dutyAllWrong)

/- THE SECOND FORM. 'bulk': how many values and letters a reading holds, each counted each time it is reached (what is shared counts as often as it is met; a slice's spare places count too). A statement '..UptoSaid' is the law's where the arguments, and the package variables that the reading takes, are together of bulk at most 1048576: NARROWER than '..Said'. Prove '..Said' where nothing that the law and all that it calls make is longer than what came in: it says more and counts as full. Else prove '..UptoSaid'. A law counts once. -/
mutual
def uptoBulk {H : Type} : DataW H → Nat
  | .lit (.string bytes) => bytes.length + 1
  | .lit _ => 1
  | .nil => 1
  | .ptr d => uptoBulk d + 1
  | .slice elems spare => uptoBulkAll elems + uptoBulkAll spare + 1
  | .agg parts => uptoBulkAll parts + 1
  | .iface _ d => uptoBulk d + 1
  | .map entries => uptoBulkEntries entries + 1
  | .held _ => 1
def uptoBulkAll {H : Type} : List (DataW H) → Nat
  | [] => 0
  | d :: r => uptoBulk d + uptoBulkAll r
def uptoBulkEntries {H : Type} : List (Lit × DataW H) → Nat
  | [] => 0
  | x :: r => uptoBulkEntry x + uptoBulkEntries r
def uptoBulkEntry {H : Type} : Lit × DataW H → Nat
  | (.string bytes, d) => bytes.length + uptoBulk d + 1
  | (_, d) => uptoBulk d + 1
 end
def uptoSmall : (H : Type) → List (DataW H) → Bool := fun _ ds => decide (uptoBulkAll ds ≤ 1048576)
def OpenSpec.upto (s : _root_.Go.ChangeSpec) : _root_.Go.OpenSpec := { _root_.Go.OpenSpec.ofChange s with cond := some uptoSmall }

/-- 'storagebarterlaw28.DutyMerges', WHERE WHAT IT READS IS OF BULK AT MOST 1048576: true; the input reads as it did. -/
def dutyMergesUptoRow : OpenClaim := { program := "ytccchkjbcokfnaadoor", sum := "98493abd722590c0a2a746d8dde8d93b702c32bc308c860fe6e62c866b10c35c", func := "storagebarter/storagebarterlaw28.DutyMerges", spec := "dutyMerges", unfollowed := true, recurses := true, named := ["storagebarter/duty.costs"], apart := false, laid := [("storagebarter/duty.costs", laid_storagebarter_duty_costs)], narrowed := true }
def DutyMergesUptoSaid : Prop := dutyMergesUptoRow.holds Tryd.pinned (OpenSpec.upto dutyMergesSpec)

/-- 'storagebarterlaw28.DutyAll', WHERE WHAT IT READS IS OF BULK AT MOST 1048576: true; the input reads as it did. -/
def dutyAllUptoRow : OpenClaim := { program := "ytccchkjbcokfnaadoor", sum := "98493abd722590c0a2a746d8dde8d93b702c32bc308c860fe6e62c866b10c35c", func := "storagebarter/storagebarterlaw28.DutyAll", spec := "dutyAll", unfollowed := true, recurses := true, named := ["storagebarter/duty.costs"], apart := false, laid := [("storagebarter/duty.costs", laid_storagebarter_duty_costs)], narrowed := true }
def DutyAllUptoSaid : Prop := dutyAllUptoRow.holds Tryd.pinned (OpenSpec.upto dutyAllSpec)

end Rows
end Go.Proofs.YtccchkjbcokfnaaDoor
