/-
  The card of NodeNone: for every input it returns true; the listed variables start as the text of the program lays them. Part of the proof of the claim: for every input the law returns true.
-/
import Derived.Test.YtdnngcopahmdgaaGreatDoorNoneFactsB
import Derived.Test.YtdnngcopahmdgaaGreatDoorNoneGoes
namespace Go.Proofs.YtdnngcopahmdgaaGreatDoor
open Go.ChangeShapes Go.WideShapes Go.ChangeAt Go.RowKit
theorem nodeNone_holds : Rows.NodeNoneSaid :=
  OpenClaim.holds_of_wide 3 Tryz.f3 rfl rfl rfl rfl rfl rfl rfl ⟨rfl, rfl, rfl, rfl, rfl⟩ rfl rfl rfl rfl rfl (by kernel_rfl) Tryz.func3 c_joined
    (of_decide_eq_true (by kernel_rfl)) (by unfold Func.isWrapper; first | (rw [if_pos (by decide +kernel)]; kernel_rfl) | (rw [if_neg (by decide +kernel)]; exact ⟨rfl, rfl⟩))
    (fun os started H enc _ => nodeNone_lifted os started H enc)
end Go.Proofs.YtdnngcopahmdgaaGreatDoor

namespace Go.Proofs.YtdnngcopahmdgaaGreatDoor
open Go
theorem nodeNone_card : Rows.NodeNoneCardSaid :=
  Claim7.holds_tied_plain_at .later [] [.data, .pinned] true (true, "a086f1e50a381f8a8d16dc2c142b2e11f714fa7ee6413c71ac23e853e2629ccb") false
    nodeNone_holds (fun _ h => by cases h) (by kernel_rfl) (fun _ h => by cases h) nodeNone_row_tie rfl ⟨rfl, rfl⟩ (by kernel_rfl) rfl
    (fun f fn hf hfn => by
      obtain rfl : f = 3 := Option.some.inj ((show Tryz.prog.funcNamed Rows.nodeNoneRow.func = some 3 by kernel_rfl).symm.trans hf) |>.symm
      obtain rfl : fn = Tryz.f3 := (Option.some.inj (Tryz.func3.symm.trans hfn)).symm
      exact ⟨by kernel_rfl, fun j t ht => by
        rw [Tryz.params3] at ht
        have hm : t ∈ [3, 3, 24] := by simpa using Array.mem_of_getElem? ht
        have hall : ([3, 3, 24].all fun u => !Tryz.prog.wantsStandIn u) = true := by kernel_rfl
        exact (show Tryz.prog.wantsStandIn t = false by simpa using List.all_eq_true.1 hall t hm)⟩)
    nodeNone_goes
#print axioms nodeNone_card
end Go.Proofs.YtdnngcopahmdgaaGreatDoor

