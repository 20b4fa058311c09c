/-
  The card of NodeTimes: for every input it returns true; the listed variables start as the text of the program lays them. Part of the proof of the claim: for every input the law returns true.
-/
import Derived.Test.YtljhcadbocakpaaGreatDoorRow
import Derived.Test.YtljhcadbocakpaaGreatDoorGoes
namespace Go.Proofs.YtljhcadbocakpaaGreatDoor
open Go.ChangeShapes Go.WideShapes Go.ChangeAt Go.RowKit
theorem nodeTimes_holds : Rows.NodeTimesSaid :=
  OpenClaim.holds_of_wide 3 Tryz.f3 rfl rfl rfl rfl rfl rfl rfl ⟨rfl, rfl, rfl, rfl, rfl⟩ rfl rfl rfl rfl rfl (by kernel_rfl) Tryz.func3 c_joined
    (of_decide_eq_true (by kernel_rfl)) (by unfold Func.isWrapper; first | (rw [if_pos (by decide +kernel)]; kernel_rfl) | (rw [if_neg (by decide +kernel)]; exact ⟨rfl, rfl⟩))
    (fun os started H enc _ => nodeTimes_lifted os started H enc)
end Go.Proofs.YtljhcadbocakpaaGreatDoor

namespace Go.Proofs.YtljhcadbocakpaaGreatDoor
open Go
theorem nodeTimes_card : Rows.NodeTimesCardSaid :=
  Claim7.holds_tied_plain_at .later [] [.data, .pinned] true (true, "6dd374e84c6f786e815877a0b74c0533cfbc53c16634fb338427af2daff4ef25") false
    nodeTimes_holds (fun _ h => by cases h) (by kernel_rfl) (fun _ h => by cases h) nodeTimes_row_tie rfl ⟨rfl, rfl⟩ (by kernel_rfl) rfl
    (fun f fn hf hfn => by
      obtain rfl : f = 3 := Option.some.inj ((show Tryz.prog.funcNamed Rows.nodeTimesRow.func = some 3 by kernel_rfl).symm.trans hf) |>.symm
      obtain rfl : fn = Tryz.f3 := (Option.some.inj (Tryz.func3.symm.trans hfn)).symm
      exact ⟨by kernel_rfl, fun j t ht => by
        rw [Tryz.params3] at ht
        have hm : t ∈ [3] := by simpa using Array.mem_of_getElem? ht
        have hall : ([3].all fun u => !Tryz.prog.wantsStandIn u) = true := by kernel_rfl
        exact (show Tryz.prog.wantsStandIn t = false by simpa using List.all_eq_true.1 hall t hm)⟩)
    nodeTimes_goes
#print axioms nodeTimes_card
end Go.Proofs.YtljhcadbocakpaaGreatDoor

