/-
  No function of the program starts a goroutine. Part of the proof of the claim: for every input the law returns true.
-/
import Derived.Test.YtljhcadbocakpaaGreatDoorRows
import Derived.Test.YtljhcadbocakpaaGreatDoorCards
import Derived.SevenTiedAt
namespace Go.Proofs.YtljhcadbocakpaaGreatDoor
open Go
theorem goes_none {P : Program} (h : P.funcs.toList.any Func.goes = false) (f : FuncId) : P.goes f = false := by
  have h1 : ∀ fn ∈ P.funcs.toList, fn.goes = false := fun fn hfn => by
    rw [List.any_eq_false] at h
    simpa using h fn hfn
  unfold Program.goes
  have a : (P.closure f).any (fun g => (P.funcs[g]?).any Func.goes) = false := by
    cases hb : (P.closure f).any (fun g => (P.funcs[g]?).any Func.goes) with
    | false => rfl
    | true =>
      exfalso
      have : ∃ g : Nat, (P.funcs[g]?).any Func.goes = true := by
        first
          | (obtain ⟨g, _, hg⟩ := List.any_eq_true.1 hb; exact ⟨g, hg⟩)
          | (obtain ⟨g, _, hg⟩ := Array.any_eq_true.1 hb; exact ⟨_, hg⟩)
      obtain ⟨g, hg⟩ := this
      cases hfn : P.funcs[g]? with
      | none => rw [hfn] at hg; simp at hg
      | some fn =>
        rw [hfn] at hg
        have := h1 fn (Array.mem_toList_iff.2 (Array.mem_of_getElem? hfn))
        simp [this] at hg
  have b : P.funcs.any Func.goes = false := by rw [← Array.any_toList]; exact h
  rw [a, b]; simp
theorem Tryz.noGoes : Tryz.prog.funcs.toList.any Func.goes = false := by kernel_rfl
theorem nodeTimes_goes : false = Rows.nodeTimesRow.goesBy Tryz.prog := by
  unfold OpenClaim.goesBy Program.goesAt Program.goesFrom
  rw [show Rows.nodeTimesRow.start = .entering from rfl]
  cases Tryz.prog.funcNamed Rows.nodeTimesRow.func with
  | none => rfl
  | some f => simp [goes_none Tryz.noGoes f]
end Go.Proofs.YtljhcadbocakpaaGreatDoor

