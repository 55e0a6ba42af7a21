import Derived.Test.YtpklljejiofnfaaDoorRows
import Derived.Test.YtpklljejiofnfaaDoorChecked
import Derived.JoinedOf
import Derived.KernelRfl
namespace Go.Proofs.YtpklljejiofnfaaDoor.payoffFollows
set_option maxHeartbeats 40000000 in
theorem closed : joinedFacts Tryd.checked.prog 14 Tryd.f14 Rows.payoffFollowsSpec Rows.payoffFollowsRow = true := by
  unfold joinedFacts
  repeat' (with_reducible refine (Bool.and_eq_true _ _).mpr ⟨?_, ?_⟩)
  all_goals (as_aux_lemma => kernel_rfl)
theorem named : Tryd.pinned.checked.prog.funcNamed Rows.payoffFollowsRow.func = some 14 := by kernel_rfl
end Go.Proofs.YtpklljejiofnfaaDoor.payoffFollows
