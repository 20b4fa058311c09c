/-
  The step of the row of NodeTimes: at every input that fits it returns true, and the input reads as it did. Part of the proof of the claim: for every input the law returns true.
-/
import Derived.Test.YtljhcadbocakpaaGreatDoorAlive
import Derived.KernelRfl
import Derived.Test.YtljhcadbocakpaaGreatDoorRoot
import Derived.Test.YtljhcadbocakpaaGreatDoorRunA
import Derived.Test.YtljhcadbocakpaaGreatDoorRunB
import Derived.Test.YtljhcadbocakpaaGreatDoorRunC
import Derived.Test.YtljhcadbocakpaaGreatDoorRunD
import Derived.Test.YtljhcadbocakpaaGreatDoorFactsB
noncomputable section
namespace Go.X
open Go.Proofs
def e3b : Nat → CallK := nokE
def k3b : F1 := fun a0 hp nx k => arK (opBinI .lss a0 (.s (.int .i64 (.ofNat (nat_lit 0)))) hp nx) fun v1 h2 y3 => booK v1 fun c4 => jn (fun (J5 : AV → Bool → HK) => ifA c4 (J5 (.s (.bool true)) true h2 y3) (arK (opBinI .gtr a0 (.s (.int .i64 (.ofNat (nat_lit 11)))) h2 y3) fun v10 h11 y12 => booK v10 fun c13 => J5 v10 c13 h11 y12)) fun _ c7 h8 y9 => ifA c7 (arK (runIn .yes [] h8 y9) fun v14 h15 y16 => k v14 h15 y16) .bad
theorem h3b : ∀ a0 : AV, zFun e3b (cFun Tryz.prog K1 20262582990068393146008316636160 Tryz.f3) (.n .nil (.n (.n (.r (.gn (.go 1 (.kn s12 .b (.br s12 [(s15, .b)] 3 (.go 1 (.gn .nil)) .nil))))) (.c none .nil .x)) (.n .nil (.n .nil (.n (.n .nil (.c none .x .x)) (.n .nil (.n (.n .nil (.bl none (.lp [] (.n (.n .nil (.c none .x .x)) (.n (.bl none (.n .nil (.n .nil (.n .nil (.c none .x .x))))) .nil))))) .nil))))))) [a0] = k3b a0 := by intro a0; kernel_rfl
theorem o3b (C : Ctx) : FOK Tryz.prog C 3 (ar1 k3b) := fok1 (fok_of rfl (k1_ok C) k1_defer (show FeOK Tryz.prog C e3b from nok_ok) Tryz.func3 _) h3b
end Go.X
end

noncomputable section
open Go.RowKit
namespace Go.X
open Go.Proofs
def lowB : AV := .s (.lin .i64 (nat_lit 0) ⟨.negSucc (nat_lit 9223372036854775807), .negSucc (nat_lit 0)⟩)
def highB : AV := .s (.lin .i64 (nat_lit 0) ⟨.ofNat (nat_lit 12), .ofNat (nat_lit 9223372036854775807)⟩)
theorem runLow : k3b lowB emptyHp firstPid finK = doneA := by kernel_rfl
theorem runHigh : k3b highB emptyHp firstPid finK = doneA := by kernel_rfl
/-- the argument, as the executor has it. -/
def ctxT (b : Int) : Ctx where
  x := fun _ => b
  s := fun _ => []
  v := fun _ => .bool true
  plain := fun _ => rfl
theorem nodeTimes_calls (b : Int) (hb : -9223372036854775808 ≤ b ∧ b ≤ 9223372036854775807) (w : World) :
    Calls Tryz.prog 3 #[.int .i64 b] w fun e w' => e = .returned (.bool true) ∧ Below w.heap.size w w' := by
  let C := ctxT b
  have main : ∀ a : AV, k3 a emptyHp firstPid finK = doneA → AVR C (fun _ => .un) a (.int .i64 b) →
      Calls Tryz.prog 3 #[.int .i64 b] w fun e w' => e = .returned (.bool true) ∧ Below w.heap.size w w' := fun a hr ha =>
    (true_of (args := [a]) (o3 C) hr).2 w [.int .i64 b] ⟨ha, trivial⟩
  have away : ∀ a : AV, k3b a emptyHp firstPid finK = doneA → AVR C (fun _ => .un) a (.int .i64 b) →
      Calls Tryz.prog 3 #[.int .i64 b] w fun e w' => e = .returned (.bool true) ∧ Below w.heap.size w w' := fun a hr ha =>
    (true_of (args := [a]) (o3b C) hr).2 w [.int .i64 b] ⟨ha, trivial⟩
  by_cases g1 : b < 0
  · exact away lowB runLow ⟨rfl, by show Int.negSucc 9223372036854775807 ≤ b; rw [Int.negSucc_eq]; omega, by show b ≤ Int.negSucc 0; rw [Int.negSucc_eq]; omega⟩
  · by_cases g2 : b ≤ 11
    · rcases (show b = 0 ∨ b = 1 ∨ b = 2 ∨ b = 3 ∨ b = 4 ∨ b = 5 ∨ b = 6 ∨ b = 7 ∨ b = 8 ∨ b = 9 ∨ b = 10 ∨ b = 11 by omega) with rfl | rfl | rfl | rfl | rfl | rfl | rfl | rfl | rfl | rfl | rfl | rfl
      · exact main _ runT0 rfl
      · exact main _ runT1 rfl
      · exact main _ runT2 rfl
      · exact main _ runT3 rfl
      · exact main _ runT4 rfl
      · exact main _ runT5 rfl
      · exact main _ runT6 rfl
      · exact main _ runT7 rfl
      · exact main _ runT8 rfl
      · exact main _ runT9 rfl
      · exact main _ runT10 rfl
      · exact main _ runT11 rfl
    · exact away highB runHigh ⟨rfl, by show Int.ofNat 12 ≤ b; rw [Int.ofNat_eq_natCast]; omega, by show b ≤ Int.ofNat 9223372036854775807; rw [Int.ofNat_eq_natCast]; omega⟩
end Go.X
end

namespace Go.Proofs.YtljhcadbocakpaaGreatDoor
open Go.ChangeShapes Go.WideShapes Go.ChangeAt Go.RowKit Go.Joins

def laidN : List (String × DataW Unit) := Rows.nodeTimesRow.laid

set_option maxRecDepth 100000 in
theorem nodeTimes_lifted (os : Os) (started : os.Started) (H : Type) (enc : TypeId × Value → H) :
    ReturnsInHanded {} Tryz.checked os 3 .any (fun w args => (Rows.nodeTimesSpec.pre enc Tryz.prog Tryz.f3 [] false w args ∧ laidMetH Tryz.prog laidN w) ∧ sizedMet enc Tryz.prog Tryz.f3 (OpenSpec.ofChange Rows.nodeTimesSpec) false w args)
      (Rows.nodeTimesSpec.post enc Tryz.prog Tryz.f3 false true false false) := by
  refine returnsInHanded_of_change_and (C := Tryz.checked) (X := fun w _ => laidMetH Tryz.prog laidN w) (fun _ _ _ hh h => h.of_heap hh) Tryz.own started (by kernel_rfl) Tryz.func3
    (ChangeSpec.witness_shaped (enc := enc) (C := Tryz.checked) (os := os) (X := fun w _ => laidMetH Tryz.prog laidN w) false (World.laidAll Tryz.prog os laidN) #[.int .i64 0] 8 (World.laidAll_os _ _ _)
      (World.shaped_of_ZipB (by kernel_rfl) (by kernel_rfl)) (by kernel_rfl) (by kernel_rfl) (by kernel_rfl)
      (by rw [MakeChecks.laidMetH_plain _ _ _ (by kernel_rfl)]; exact laidMet_laidAll _ (by kernel_rfl) (by kernel_rfl))) ?_
  intro W base args ds gs before hval0 hW _ _ _ _
  have hval : ∀ (j : Nat) t v, Tryz.f3.params[j]? = some t → args[j]? = some v → Value.okWide Tryz.prog W .any base t v := hval0
  have hW' := hW
  obtain ⟨p, q, hA0, hV, rfl, _, _⟩ := hW
  have hA : DataW.TrodAll enc Tryz.prog W 0 (fun _ => true) true Tryz.f3.params.toList args.toList ds p := hA0
  rw [Tryz.params3] at hA hval
  obtain ⟨v0, d0, rfl, rfl, h0⟩ := trodAll_one hA
  obtain ⟨rfl, rfl⟩ := trodVars_none hV
  obtain ⟨b, rfl, rfl, rfl, w0⟩ := open_int Tryz.underlying3 (hval 0 3 v0 rfl rfl) h0
  have b0 : -9223372036854775808 ≤ b ∧ b ≤ 9223372036854775807 := by simpa [Lit.wf, IntKind.min, IntKind.max, IntKind.signed, IntKind.bits] using w0
  refine (Go.X.nodeTimes_calls b b0 W).mono fun e W' ⟨he, hb⟩ => ?_
  subst he
  exact ⟨_, rfl, _, _, _, [], _, [], hW', trodAll_mk1 (shut_bool Tryz.underlying4 _), trodAll_mk1 (shut_int Tryz.underlying3 w0), rfl, hb.frame _, fun h => by cases h⟩
end Go.Proofs.YtljhcadbocakpaaGreatDoor

