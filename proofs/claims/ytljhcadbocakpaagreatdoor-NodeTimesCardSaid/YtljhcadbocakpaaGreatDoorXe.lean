/-
  The known functions at this program. Part of the proof of the claim: for every input the law returns true.
-/
import Derived.Conc.MuLone
import Derived.KernelRfl
import Derived.Test.YtljhcadbocakpaaGreatDoorProg
import Derived.Test.YtljhcadbocakpaaGreatDoorXd
import Derived.WalkKit
import Derived.Test.YtljhcadbocakpaaGreatDoorShelf
import Derived.Test.YtljhcadbocakpaaGreatDoorZb
namespace Go.Proofs
abbrev Tryz.muLink : Go.Conc.Locks.MuLink := { lock := 244, unlock := 245, ilock := 337, iunlock := 338, lockSlow := 421, unlockSlow := 424, disable := 417, enable := 419, acquire := 420, relMerge := 422, cas32 := 418, add32 := 423, tMutex := 149, tIMutex := 147, tPMutex := 432, tPIMutex := 488, tPI32 := 490, tUP := 396, tNoCopy := 144, tU32 := 145 }
theorem Tryz.muLib : Go.Conc.Locks.MuLib Tryz.prog Tryz.muLink :=
  ⟨Tryz.func244, Tryz.func245, Tryz.func337, Tryz.func338, Tryz.func417, Tryz.func419, Tryz.func420, Tryz.func422, Tryz.func418, Tryz.func423, Tryz.underlying147, Tryz.runUnderlying147, Tryz.sizeOf147, Tryz.isAgg147, Tryz.zeroValue147, Tryz.underlying149, Tryz.runUnderlying149, Tryz.sizeOf149, Tryz.isAgg149, Tryz.zeroValue149, Tryz.underlying432, Tryz.runUnderlying432, Tryz.sizeOf432, Tryz.isAgg432, Tryz.zeroValue432, Tryz.underlying488, Tryz.runUnderlying488, Tryz.sizeOf488, Tryz.isAgg488, Tryz.zeroValue488, Tryz.underlying490, Tryz.runUnderlying490, Tryz.sizeOf490, Tryz.isAgg490, Tryz.zeroValue490, Tryz.underlying396, Tryz.runUnderlying396, Tryz.sizeOf396, Tryz.isAgg396, Tryz.zeroValue396, Tryz.underlying144, Tryz.runUnderlying144, Tryz.sizeOf144, Tryz.isAgg144, Tryz.zeroValue144, Tryz.underlying21, Tryz.runUnderlying21, Tryz.sizeOf21, Tryz.isAgg21, Tryz.zeroValue21, (by kernel_rfl)⟩
end Go.Proofs

open Go.RowKit
namespace Go.Proofs
open Go.X (cbytes)
def numOf : Value → Int | .int _ q => q | _ => 0
def crcBits : Nat → Nat → Nat
  | 0, x => x
  | q + 1, x => X.crcBit (crcBits q x)
theorem xor32 {m n : Nat} (hm : m < 4294967296) (hn : n < 4294967296) : bits BinOp.xor .u32 (m : Int) (n : Int) = (Nat.xor m n : Nat) := by
  have h := Go.X.run_xor (P := Tryz.prog) (w := default) (kd := .u32) (m := m) (n := n) 0 (by show m ≤ 4294967295; omega) (by show n ≤ 4294967295; omega)
  have h2 : (binOp .xor 0 (.int .u32 (m : Int)) (.int .u32 (n : Int))).run Tryz.prog default = .ok (.int .u32 (bits BinOp.xor .u32 (m : Int) (n : Int))) default := by simp only [binOp, ne_eq, not_true_eq_false, if_false, intBits_xor, Sem.run_pure]
  rw [h2] at h
  injection h with h _
  injection h
theorem and32 {m : Nat} (hm : m < 4294967296) : bits BinOp.and .u32 (m : Int) 1 = (m % 2 : Nat) := by
  have h := Go.X.run_and (P := Tryz.prog) (w := default) (kd := .u32) (m := m) (n := 1) 0 (by show m ≤ 4294967295; omega) (by decide)
  have h2 : (binOp .and 0 (.int .u32 (m : Int)) (.int .u32 ((1 : Nat) : Int))).run Tryz.prog default = .ok (.int .u32 (bits BinOp.and .u32 (m : Int) 1)) default := by
    simp only [binOp, ne_eq, not_true_eq_false, if_false, intBits_and, Sem.run_pure]; rfl
  rw [h2] at h
  injection h with h _
  injection h with _ h
  rw [h]
  show ((m &&& 1 : Nat) : Int) = _
  rw [Nat.and_one_is_mod]
theorem xor32_lt {m n : Nat} (hm : m < 4294967296) (hn : n < 4294967296) : Nat.xor m n < 4294967296 := Nat.xor_lt_two_pow (n := 32) hm hn
theorem crcFrom_app (x : Nat) (l l' : List UInt8) : Go.X.crcFrom x (l ++ l') = Go.X.crcFrom (Go.X.crcFrom x l) l' := by simp [Go.X.crcFrom]
theorem take_byte {s : ByteArray} {j : Nat} (h : j < s.size) : s.data.toList.take (j + 1) = s.data.toList.take j ++ [s[j]] := by
  have : j < s.data.toList.length := by simpa using h
  rw [List.take_succ_eq_append_getElem this]
  rfl
theorem take_all {s : ByteArray} : s.data.toList.take s.size = s.data.toList := List.take_of_length_le (by rw [Array.length_toList]; exact Nat.le_refl _)
theorem cbytes_step {ss : List ByteArray} {k : Nat} {s : ByteArray} (h : k < ss.length) (hs : ss.getD k ByteArray.empty = s) : cbytes (ss.take (k + 1)) = cbytes (ss.take k) ++ s.data.toList := by
  rw [List.take_succ_eq_append_getElem h]
  have : ss[k] = s := by rw [← hs, List.getD_eq_getElem?_getD, List.getElem?_eq_getElem h]; rfl
  simp [cbytes, this]
set_option maxHeartbeats 1600000 in
theorem sumOf_any (b off len cap : Nat) (ss : List ByteArray) (w : World) (hl : ss.length = len) (hlen : len ≤ 100000) (hsz : ∀ j, (ss.getD j ByteArray.empty).size ≤ 1000000000)
    (hc : ∀ j, j < len → w.cell? ⟨b, off + j, none⟩ = some (.string (ss.getD j ByteArray.empty))) :
    Calls Tryz.prog 213 #[.slice (some ⟨b, off, none⟩) len cap] w fun e w' => e = .returned (.int .u32 (Go.X.crcOf (cbytes ss))) ∧ w' = w := by
  go_enter Tryz.func213, Tryz.ntmps213
  go_wp2
  go_loop [3, 10] (fun x i => ∃ (k N : Nat), k ≤ len ∧ i = .int .i64 k ∧ x = .int .u32 N ∧ N < 4294967296 ∧ N = Go.X.crcFrom 4294967295 (cbytes (ss.take k))) (fun _ i => len - (numOf i).toNat)
  case atStart => exact ⟨0, 4294967295, by omega, rfl, rfl, by omega, rfl⟩
  case round =>
    obtain ⟨k, N, hk, rfl, rfl, hN, hd⟩ := hrel
    have hck : k < len → w.cell? ⟨b, off + k, none⟩ = some (.string (ss.getD k ByteArray.empty)) := fun h => hc k h
    have HD : Hid (N = Go.X.crcFrom 4294967295 (cbytes (ss.take k))) := hd
    have hs := hsz k
    have HS : Hid (∃ s, ss.getD k ByteArray.empty = s) := ⟨_, rfl⟩
    generalize hsk : ss.getD k ByteArray.empty = s at hck hs
    have HSK : Hid (ss.getD k ByteArray.empty = s) := hsk
    clear hd hc hsz hsk
    go_wp2
    · go_loop [3, 16] (fun x i => ∃ (j Y : Nat), j ≤ s.size ∧ i = .int .i64 j ∧ x = .int .u32 Y ∧ Y < 4294967296 ∧ Y = Go.X.crcFrom N (s.data.toList.take j)) (fun _ i => s.size - (numOf i).toNat)
      case atStart => exact ⟨0, N, by omega, rfl, rfl, by omega, rfl⟩
      case round =>
        obtain ⟨j, Y, hj, rfl, rfl, hY, hd⟩ := hrel
        have HD2 : Hid (Y = Go.X.crcFrom N (s.data.toList.take j)) := hd
        clear hd
        go_wp2
        · have hjs : j < s.size := by assumption
          have hb : (s[j].toNat : Int) % 4294967296 = ((s[j].toNat : Nat) : Int) := by have := s[j].toNat_lt; omega
          have hx : bits BinOp.xor .u32 (Y : Int) ((s[j].toNat : Int) % 4294967296) = (Nat.xor Y s[j].toNat : Nat) := by
            rw [hb]; exact xor32 hY (by have := s[j].toNat_lt; omega)
          rw [hx]
          have hZ0 : Nat.xor Y s[j].toNat < 4294967296 := xor32_lt hY (by have := s[j].toNat_lt; omega)
          go_loop [3, 25] (fun x i => ∃ (q Z : Nat), q ≤ 8 ∧ i = .int .i64 q ∧ x = .int .u32 Z ∧ Z < 4294967296 ∧ Z = crcBits q (Nat.xor Y s[j].toNat)) (fun _ i => 8 - (numOf i).toNat)
          case atStart => exact ⟨0, _, by omega, rfl, rfl, hZ0, rfl⟩
          case round =>
            obtain ⟨q, Z, hq, rfl, rfl, hZ, hd⟩ := hrel
            have HD3 : Hid (Z = crcBits q (Nat.xor Y s[j].toNat)) := hd
            clear hd
            have ha := and32 hZ
            go_wp2
            · have hq8 : q < 8 := by omega
              have h2 : Z % 2 = 1 := by
                have h1 : ((Z : Int) % 2 == 1) = true := by assumption
                have h1 : (Z : Int) % 2 = 1 := by simpa using h1
                omega
              have hx2 : bits BinOp.xor .u32 ((Z : Int) / 2) 3988292384 = (Nat.xor (Z / 2) 3988292384 : Nat) := by
                have := xor32 (m := Z / 2) (n := 3988292384) (by omega) (by omega)
                simpa using this
              rw [hx2]
              go_round
              case rel => exact ⟨q + 1, Nat.xor (Z / 2) 3988292384, by omega, by simp, rfl, xor32_lt (by omega) (by omega), by rw [show crcBits (q + 1) (Nat.xor Y s[j].toNat) = Go.X.crcBit (crcBits q (Nat.xor Y s[j].toNat)) from rfl, ← HD3.out]; unfold Go.X.crcBit; rw [if_pos h2]⟩
              case measure => simp [numOf]; omega
            · have hq8 : q < 8 := by omega
              have h2 : ¬ Z % 2 = 1 := by
                have h1 : ((Z : Int) % 2 == 1) = false := by assumption
                have h1 : ¬ (Z : Int) % 2 = 1 := by simpa using h1
                omega
              go_round
              case rel => exact ⟨q + 1, Z / 2, by omega, by simp, by simp, by omega, by rw [show crcBits (q + 1) (Nat.xor Y s[j].toNat) = Go.X.crcBit (crcBits q (Nat.xor Y s[j].toNat)) from rfl, ← HD3.out]; unfold Go.X.crcBit; rw [if_neg h2]⟩
              case measure => simp [numOf]; omega
            · have hq8 : ¬ q < 8 := by omega
              obtain rfl : q = 8 := by omega
              go_round
              case rel => exact ⟨j + 1, Z, by omega, by simp, rfl, hZ, by
                rw [HD3.out, HD2.out, take_byte hjs, crcFrom_app]; rfl⟩
              case measure => simp [numOf]; omega
        · have hjs : ¬ j < s.size := by assumption
          obtain rfl : j = s.size := by omega
          go_round
          case rel => exact ⟨k + 1, Y, by omega, by simp, rfl, hY, by
            rw [HD2.out, HD.out, cbytes_step (by omega) HSK.out, crcFrom_app, take_all]⟩
          case measure => simp [numOf]; omega
    · have hkl : ¬ k < len := by assumption
      obtain rfl : k = len := by omega
      have hx : bits BinOp.xor .u32 IntKind.u32.max (N : Int) = (Go.X.crcOf (cbytes ss) : Nat) := by
        have h := xor32 (m := 4294967295) (n := N) (by omega) hN
        rw [show IntKind.u32.max = ((4294967295 : Nat) : Int) from by decide, h]
        unfold Go.X.crcOf
        have e : N = Go.X.crcFrom 4294967295 (cbytes ss) := by rw [HD.out, List.take_of_length_le (by omega)]
        rw [← e]
        exact congrArg _ (Nat.xor_comm _ _)
      rw [hx]
      go_ret
      exact ⟨rfl, rfl⟩
end Go.Proofs

noncomputable section
open Go.RowKit Go.Shelf Go.Sort
namespace Go.Proofs
open Go.X (Enters InOK)

theorem Tryz.enters {f : Nat} {fn : Func} {c : Code} (hf : Tryz.prog.funcs[f]? = some fn) (hn : (fn.name == "runtime.NumGoroutine") = false) (hb : fn.body = some c) : Enters Tryz.prog f := fun args w => MuLone.run_callFunc_enter hf hn hb args w

theorem Tryz.k_clone (C : Go.X.Ctx) : InOK Tryz.prog C 61 .clone :=
  Go.X.clone_ok (Tryz.enters Tryz.func61 (by kernel_rfl) rfl) fun s w hs => Any.stringslite_Clone Tryz.laysM316 s w (by omega)
theorem repeat_zero : ∀ n : Nat, Lib.repeatL [0] n = List.replicate n 0
  | 0 => rfl
  | n + 1 => by show [0] ++ Lib.repeatL [0] n = _; rw [repeat_zero n]; rfl
theorem Tryz.k_repeat (C : Go.X.Ctx) : InOK Tryz.prog C 110 .repeat0 :=
  Go.X.repeat0_ok (Tryz.enters Tryz.func110 (by kernel_rfl) rfl) fun n w hn => by
    have h := Any.strings_Repeat Tryz.lays105 Tryz.Builder_Extra_105 (Go.X.bs [0]) n w (by omega) (by rw [show (Go.X.bs [0]).size = 1 from rfl]; omega)
    rw [show (Go.X.bs [0]).data.toList = [0] from rfl, repeat_zero] at h
    exact h
theorem Tryz.k_lock (C : Go.X.Ctx) : InOK Tryz.prog C 244 .lock := Go.X.lock_ok (Tryz.enters Tryz.func244 (by kernel_rfl) rfl) fun a w h1 h2 => MuLone.lock_free Tryz.muLib a w h1 h2
theorem Tryz.k_unlock (C : Go.X.Ctx) : InOK Tryz.prog C 245 .unlock := Go.X.unlock_ok (Tryz.enters Tryz.func245 (by kernel_rfl) rfl) fun a w h1 h2 => MuLone.unlock_held Tryz.muLib a w h1 h2
theorem Tryz.k_bld (C : Go.X.Ctx) : InOK Tryz.prog C 211 (.bldCheck 207) :=
  Go.X.bldCheck_ok (Tryz.enters Tryz.func211 (by kernel_rfl) rfl)
    (fun b w h0 h1 h2 => Any.Builder_copyCheck_fresh (ρ := Tryz.lays105_ren) { Tryz.lays105 with } Tryz.Builder_Extra_105.toX72 b w h0 h1 h2)
    (fun b w h0 => Any.Builder_copyCheck_used (ρ := Tryz.lays105_ren) { Tryz.lays105 with } Tryz.Builder_Extra_105.toX72 b w h0)
theorem Tryz.k_sum (C : Go.X.Ctx) : InOK Tryz.prog C 213 .sumOf := Go.X.sumOf_ok (Tryz.enters Tryz.func213 (by kernel_rfl) rfl) fun b off len cap ss w h1 h2 h3 h4 => sumOf_any b off len cap ss w h1 h2 h3 h4
end Go.Proofs
end

noncomputable section
open Go.RowKit Go.Shelf Go.Sort Go.Maps
namespace Go.Proofs
open Go.X (Enters InOK KeysC)

theorem Tryz.sortsA (m : Nat) : AnyZI.SortsIn Tryz.prog Tryz.sortedA_ren Fence.wide m :=
  ⟨fun blk off cap ss W hH hblk hsz => callsIn_wide.2 (AnyM.slices_Sort_int Tryz.sortA blk off cap ss W hH hblk hsz),
   fun p cap W => callsIn_wide.2 (AnyM.slices_Sort_int_none Tryz.sortA p cap W)⟩

theorem Tryz.sortedSeq {g : Nat} (eg : ∀ args w, (callFunc g args).run Tryz.prog w = .ok (.enter g args) w) (lb : Array Value) (S : List Int → Prop) (N : Nat) (hN : N ≤ 100000) (w : World)
    (hseq : SeqGives Fence.wide 3 Tryz.prog g lb encZ S N w) :
    Calls Tryz.prog 275 #[.func (.func g) #[] lb] w fun e w' => ∃ (v : Value) (ss : List Int), e = .returned v ∧ S ss ∧
      w'.ownsRow w.heap.size 3 1 v ss.length ((ss.mergeSort (fun x y => decide (x ≤ y))).map encZ) ∧ (v = .slice none 0 0 ↔ ss = []) ∧ Below w.heap.size w w' := by
  refine (callsIn_wide (n := 6)).1 ?_
  have e9 : ∀ args w, (callFunc 369 args).run Tryz.prog w = .ok (.enter 369 args) w := MuLone.run_callFunc_enter Tryz.func369 (by kernel_rfl) rfl
  exact AnyZI.sorted_in Tryz.sortedA Fence.wide 6 trivial trivial trivial trivial rfl (by omega) (Tryz.sortsA _) e9 g lb trivial eg S N (Nat.le_trans hN (by unfold maxLen; omega)) (by omega) w hseq

theorem Tryz.seqA : KeysC Tryz.prog 275 394 3 3 := by
  have eg : ∀ args w, (callFunc 394 args).run Tryz.prog w = .ok (.enter 394 args) w := MuLone.run_callFunc_enter Tryz.func394 (by kernel_rfl) rfl
  refine ⟨fun Bm b nn D0 R w hBm hcell hown hsz => ?_, fun Bm w hBm hcell => ?_⟩
  · exact Tryz.sortedSeq eg _ _ _ hsz w (AnyZI.keys_gives (ρ := Tryz.keysA_ren) { Tryz.keysA with } Fence.wide 3 trivial rfl (by omega) Bm b nn D0 w hBm hcell hown)
  · refine (Tryz.sortedSeq eg _ _ 0 (by omega) w (AnyZI.keys_gives_nil (ρ := Tryz.keysA_ren) { Tryz.keysA with } Fence.wide 3 trivial rfl Bm w hBm hcell)).mono ?_
    rintro e w' ⟨v, ss, rfl, rfl, hrow, hnil, hb⟩
    obtain rfl : v = .slice none 0 0 := hnil.2 rfl
    exact ⟨rfl, hb⟩
theorem Tryz.seqB : KeysC Tryz.prog 275 370 3 3 := by
  have eg : ∀ args w, (callFunc 370 args).run Tryz.prog w = .ok (.enter 370 args) w := MuLone.run_callFunc_enter Tryz.func370 (by kernel_rfl) rfl
  refine ⟨fun Bm b nn D0 R w hBm hcell hown hsz => ?_, fun Bm w hBm hcell => ?_⟩
  · exact Tryz.sortedSeq eg _ _ _ hsz w (AnyZI.keys_gives (ρ := Tryz.keysB_ren) { Tryz.keysB with } Fence.wide 3 trivial rfl (by omega) Bm b nn D0 w hBm hcell hown)
  · refine (Tryz.sortedSeq eg _ _ 0 (by omega) w (AnyZI.keys_gives_nil (ρ := Tryz.keysB_ren) { Tryz.keysB with } Fence.wide 3 trivial rfl Bm w hBm hcell)).mono ?_
    rintro e w' ⟨v, ss, rfl, rfl, hrow, hnil, hb⟩
    obtain rfl : v = .slice none 0 0 := hnil.2 rfl
    exact ⟨rfl, hb⟩
theorem Tryz.seqC : KeysC Tryz.prog 275 454 3 3 := by
  have eg : ∀ args w, (callFunc 454 args).run Tryz.prog w = .ok (.enter 454 args) w := MuLone.run_callFunc_enter Tryz.func454 (by kernel_rfl) rfl
  refine ⟨fun Bm b nn D0 R w hBm hcell hown hsz => ?_, fun Bm w hBm hcell => ?_⟩
  · exact Tryz.sortedSeq eg _ _ _ hsz w (AnyZI.keys_gives (ρ := Tryz.keysC_ren) { Tryz.keysC with } Fence.wide 3 trivial rfl (by omega) Bm b nn D0 w hBm hcell hown)
  · refine (Tryz.sortedSeq eg _ _ 0 (by omega) w (AnyZI.keys_gives_nil (ρ := Tryz.keysC_ren) { Tryz.keysC with } Fence.wide 3 trivial rfl Bm w hBm hcell)).mono ?_
    rintro e w' ⟨v, ss, rfl, rfl, hrow, hnil, hb⟩
    obtain rfl : v = .slice none 0 0 := hnil.2 rfl
    exact ⟨rfl, hb⟩
theorem Tryz.k_keys (C : Go.X.Ctx) : InOK Tryz.prog C 275 (.keys [394, 370, 454] 3) :=
  Go.X.keys_ok (kt := 3) (Tryz.enters Tryz.func275 (by kernel_rfl) rfl) Tryz.underlying3 (by kernel_rfl) fun g hg => by
    simp only [List.mem_cons, List.not_mem_nil, or_false] at hg
    rcases hg with rfl | rfl | rfl
    · exact Tryz.seqA
    · exact Tryz.seqB
    · exact Tryz.seqC
end Go.Proofs
end

noncomputable section
namespace Go.X
open Go.Proofs
theorem kn_ok {P : Program} {C : Ctx} {a : Nat} {i : Intr} {k : Known} (h : InOK P C a i) (hk : KnownOK P C k) : KnownOK P C (kn a i k) := by
  intro f j hf
  have hf : Bool.rec (motive := fun _ => Option Intr) (k f) (some i) (Nat.beq f a) = some j := hf
  cases hb : Nat.beq f a with
  | true =>
    rw [hb] at hf
    injection hf with hf
    subst hf
    have := beq_eq hb
    subst this
    exact h
  | false => rw [hb] at hf; exact hk f j hf
theorem k0_ok (C : Ctx) : KnownOK Tryz.prog C K0 :=
  kn_ok (Tryz.k_sum C) <| kn_ok (Tryz.k_clone C) <| kn_ok (Tryz.k_keys C) <| kn_ok (Tryz.k_repeat C) <| kn_ok (Tryz.k_lock C) <| kn_ok (Tryz.k_unlock C) <| kn_ok (Tryz.k_bld C) fun f i h => by cases h
theorem kn_unlock {a : Nat} {i : Intr} {k : Known} {Q : Nat → Prop} (h : i = .unlock → Q a) (hk : ∀ f, k f = some .unlock → Q f) : ∀ f, kn a i k f = some .unlock → Q f := by
  intro f hf
  have h1 : Bool.rec (motive := fun _ => Option Intr) (k f) (some i) (Nat.beq f a) = some .unlock := hf
  clear hf
  cases hb : Nat.beq f a with
  | true =>
    rw [hb] at h1
    injection h1 with h2
    rw [beq_eq hb]
    exact h h2
  | false => rw [hb] at h1; exact hk f h1
/-- only (*sync.Mutex).Unlock waits for a function's end. -/
theorem k0_unlock : ∀ f, K0 f = some .unlock → f = 245 :=
  kn_unlock (fun h => by cases h) <| kn_unlock (fun h => by cases h) <| kn_unlock (fun h => by cases h) <| kn_unlock (fun h => by cases h) <| kn_unlock (fun h => by cases h) <| kn_unlock (fun _ => rfl) <| kn_unlock (fun h => by cases h) fun f h => by cases h
theorem defer_of {C : Ctx} {K : Known} (h : ∀ f, K f = some .unlock → f = 245) : DeferOK Tryz.prog C K :=
  defer_ok fun f hf => by
    have := h f hf
    subst this
    exact ⟨Tryz.enters Tryz.func245 (by kernel_rfl) rfl, fun a w h1 h2 => MuLone.unlock_deferred Tryz.muLib a .returning w h1 h2⟩
/-- all that the executor says of calls is so. -/
theorem runs_ok {C : Ctx} {fnT : Nat → AFun} {D : Nat → Drop} (hT : ∀ f, fnT f = .bad ∨ ∃ fn, Tryz.prog.funcs[f]? = some fn ∧ fnT f = cFun Tryz.prog K0 (D f) fn) (k : Nat) : CallOK Tryz.prog C (callF fnT (runF fnT k)) :=
  calls_ok rfl (k0_ok C) (defer_of k0_unlock) hT k
end Go.X
end

/-! Closed runs, by their ends. -/
noncomputable section
open Go.RowKit
namespace Go.X
open Go.Proofs
theorem k0_defer {C : Ctx} : DeferOK Tryz.prog C K0 := defer_of k0_unlock
theorem osel_oct8 {α : Type} (d : D8) (x : α) : osel d (oct8 x) = x := by cases d <;> rfl
theorem empty_hp (p : Pid) : get5 p emptyHp = .none := by
  unfold get5 emptyHp
  simp only [osel_oct8]
/-- where nothing is named yet. -/
theorem SR.start {P : Program} {C : Ctx} (w : World) : SR P C w.heap.size (fun _ => .un) emptyHp firstPid w :=
  ⟨fun p B δ N es h => by simp at h, fun p h => by simp at h, fun _ _ => rfl, fun p q B δ δ' N N' es es' h => by simp at h, Nat.le_refl _, fun p _ => empty_hp p⟩
/-- the end that asks for true. -/
def doneA : Ar := .ok (.s .un) emptyHp firstPid
def finK : VK := fun v _ _ => booK v fun b => ifA b doneA .bad
theorem finK_true {v : AV} {hp : Hp} {nx : Pid} (h : finK v hp nx = doneA) : v = .s (.bool true) := by
  have h' : booK v (fun b => ifA b doneA .bad) = doneA := h
  obtain ⟨b, rfl⟩ := booK_inv (v := v) (k := fun b => ifA b doneA .bad) (by rw [h']; exact fun q => by cases q)
  cases b with
  | true => rfl
  | false => cases (show (Ar.bad : Ar) = doneA from h)
/-- a run that gives true, wherever it is called. -/
theorem true_of {C : Ctx} {f : Nat} {z : CallK} {args : List AV} (hz : FOK Tryz.prog C f z) (h : z args emptyHp firstPid finK = doneA) : Enters Tryz.prog f ∧
    ∀ w us, ArgsR C (fun _ => .un) args us → Calls Tryz.prog f us.toArray w fun e w' => e = .returned (.bool true) ∧ Below w.heap.size w w' := by
  obtain ⟨v, hp', nx', h1, h2, h3⟩ := hz args emptyHp firstPid finK (by rw [h]; exact fun q => by cases q)
  rw [h1] at h
  obtain rfl := finK_true h
  refine ⟨h2, fun w us ha => (h3 w.heap.size _ w us (SR.start w) ha).mono fun e w' he => ?_⟩
  cases e with
  | returned u =>
    obtain ⟨m', hu, hG⟩ := he
    have hu : u = .bool true := hu
    subst hu
    exact ⟨rfl, hG.below⟩
  | panicked _ => exact he.elim
  | outgrown => exact he.elim
/-- a function without arguments that gives true. -/
theorem yes_of {C : Ctx} {f : Nat} {z : F0} (hz : FOK Tryz.prog C f (ar0 z)) (h : z emptyHp firstPid finK = doneA) : InOK Tryz.prog C f .yes := by
  obtain ⟨he, hc⟩ := true_of (args := []) hz h
  intro args hp nx v hp' nx' h
  cases args with
  | cons _ _ => cases (show (Ar.bad : Ar) = _ from h)
  | nil =>
    obtain ⟨rfl, rfl, rfl⟩ := okS_ok (show okS (.bool true) hp nx = _ from h)
    refine ⟨he, fun base m w us hs ha => ?_⟩
    cases us with
    | cons _ _ => exact ha.elim
    | nil => exact ends_under hs rfl (hc w [] trivial)
end Go.X
end

