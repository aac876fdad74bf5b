/- TopLine answers true at every input, and its arguments read as they did: part 7; conditions: the row's own. -/
import Derived.Test.YtfkadaodnaaceaaGreatDoorTie
import Derived.Test.YtfkadaodnaaceaaGreatDoorCards
import Derived.ProofKit
import Derived.Stop.Joined
import Derived.Test.YtfkadaodnaaceaaGreatDoorM6
set_option linter.all false
set_option linter.unusedVariables false
set_option linter.unusedSimpArgs false
/- TopLine: the closed facts of its row. -/
namespace Go.Proofs.YtfkadaodnaaceaaGreatDoor
open Go
set_option maxRecDepth 100000
theorem top_closed : joinedFacts Tryz.pinned.checked.prog 7 Tryz.f7 Rows.topLineSpec Rows.topLineRow = true := by kernel_rfl
theorem top_named : Tryz.pinned.checked.prog.funcNamed Rows.topLineRow.func = some 7 := by kernel_rfl
theorem top_inst : Tryz.f7.isInstance Tryz.pinned.checked.prog Rows.topLineRow.origin Rows.topLineRow.targs := of_decide_eq_true (by kernel_rfl)
theorem top_wrap : Tryz.f7.isWrapper Tryz.pinned.checked.prog Rows.topLineRow.wrapper Rows.topLineRow.mainSum := by unfold Func.isWrapper; first | (rw [if_pos (by decide +kernel)]; kernel_rfl) | (rw [if_neg (by decide +kernel)]; exact ⟨rfl, rfl⟩)
end Go.Proofs.YtfkadaodnaaceaaGreatDoor
