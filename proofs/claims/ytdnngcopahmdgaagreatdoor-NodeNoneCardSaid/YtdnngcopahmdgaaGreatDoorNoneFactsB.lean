/-
  The closed facts of the row of NodeNone, second part. Part of the proof of the claim: for every input the law returns true.
-/
import Derived.Test.YtdnngcopahmdgaaGreatDoorNoneFacts
namespace Go.Proofs.YtdnngcopahmdgaaGreatDoor
open Go
theorem c_mapsRowed : mapsRowed Tryz.prog = true := by kernel_rfl
theorem c_joined : joinedFacts Tryz.prog 3 Tryz.f3 Rows.nodeNoneSpec Rows.nodeNoneRow = true := by
  unfold joinedFacts
  rw [c_inPlace, c_unfollowed, c_recurses, c_named, c_mapsRowed, Tryz.laidOut]
  kernel_rfl
end Go.Proofs.YtdnngcopahmdgaaGreatDoor

