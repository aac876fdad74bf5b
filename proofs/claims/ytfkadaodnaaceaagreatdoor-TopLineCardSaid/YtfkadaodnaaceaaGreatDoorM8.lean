/- TopLine answers true at every input, and its arguments read as they did: part 8; conditions: the row's own. -/
import Derived.Test.YtfkadaodnaaceaaGreatDoorM7
set_option linter.all false
set_option linter.unusedVariables false
set_option linter.unusedSimpArgs false
/- TopLine's card. -/
namespace Go.Proofs.YtfkadaodnaaceaaGreatDoor
open Go Go.SL Go.ChangeShapes Go.WideShapes Go.RowKit Go.Deep
set_option maxRecDepth 100000
theorem top_row : Rows.TopLineSaid :=
  OpenClaim.holds_of_wide 7 Tryz.f7 rfl rfl rfl rfl rfl rfl rfl ⟨rfl, rfl, rfl, rfl, rfl⟩ rfl rfl rfl rfl rfl top_named Tryz.func7 top_closed
    top_inst top_wrap
    (fun os started H enc _ => top_lifted os started H enc)
theorem topLine_holds : Rows.TopLineCardSaid :=
  Claim7.holds_tied_plain_at .later [] [.data] true (true, "11c1efd7536a9ae71d92c0f4eeae89007d4efdc6cf6d223f39ba4014bf24fc37") false
    top_row (fun _ h => by cases h) (by kernel_rfl) (fun _ h => by cases h) topLine_row_tie rfl ⟨rfl, rfl⟩ (by kernel_rfl) rfl
    (fun f fn hf hfn => by
      obtain rfl : f = 7 := Option.some.inj ((show Tryz.prog.funcNamed "pacemaker/pacemakertop.TopLine" = some 7 by kernel_rfl).symm.trans hf) |>.symm
      obtain rfl : fn = Tryz.f7 := (Option.some.inj (Tryz.func7.symm.trans hfn)).symm
      exact ⟨by kernel_rfl, fun j t ht => by
        rw [Tryz.params7] at ht
        have hm : t ∈ [29, 4, 4] := by simpa using Array.mem_of_getElem? ht
        have hall : ([29, 4, 4].all fun u => !Tryz.prog.wantsStandIn u) = true := by kernel_rfl
        exact (show Tryz.prog.wantsStandIn t = false by simpa using List.all_eq_true.1 hall t hm)⟩)
    (by kernel_rfl)
#print axioms topLine_holds
end Go.Proofs.YtfkadaodnaaceaaGreatDoor
