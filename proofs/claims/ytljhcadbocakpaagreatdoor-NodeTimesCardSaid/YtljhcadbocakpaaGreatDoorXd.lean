/-
  What is known of some library functions, each out of a contract. Part of the proof of the claim: for every input the law returns true.
-/
import Derived.Test.YtljhcadbocakpaaGreatDoorXc
import Derived.Maps.Own
import Derived.Lib.SlKeysI
import Derived.KernelRfl
/-! What is known of some functions: each out of a contract. -/
noncomputable section
open Go.RowKit
namespace Go.X
section
variable {P : Program} {C : Ctx} {hp hp' : Hp} {nx nx' : Pid} {v : AV}

/-- memory of the call's own, that nothing names. -/
theorem SR.under {base : Nat} {m : Mp} {w w' : World} (h : SR P C base m hp nx w) (hb : Below w.heap.size w w') : Good P C base m hp nx w m hp nx w' := by
  refine ⟨⟨fun p B δ N es hp => ?_, h.dead, h.fresh, h.inj, Nat.le_trans h.base hb.size, h.clean⟩, .refl _, hb.mono h.base, fun p hp _ => ⟨hp, rfl⟩, Nat.le_refl _⟩
  obtain ⟨h1, h2, h3⟩ := h.live _ _ _ _ _ hp
  exact ⟨h1, Nat.lt_of_lt_of_le h2 hb.size, h3.ext (.refl _) (hb.block _ h2)⟩

/-- a function with one argument that is known. -/
theorem in1_ok {f : AV → Hp → Pid → Ar} {args : List AV} (h : in1 f args hp nx = .ok v hp' nx') : ∃ x, args = [x] ∧ f x hp nx = .ok v hp' nx' := by
  cases args with
  | nil => cases (show (Ar.bad : Ar) = _ from h)
  | cons x l =>
    cases l with
    | nil => exact ⟨x, rfl, h⟩
    | cons _ _ => cases (show (Ar.bad : Ar) = _ from h)
theorem in2_ok {f : AV → AV → Hp → Pid → Ar} {args : List AV} (h : in2 f args hp nx = .ok v hp' nx') : ∃ x y, args = [x, y] ∧ f x y hp nx = .ok v hp' nx' := by
  cases args with
  | nil => cases (show (Ar.bad : Ar) = _ from h)
  | cons x l =>
    obtain ⟨y, rfl, h⟩ := in1_ok (f := f x) (args := l) h
    exact ⟨x, y, rfl, h⟩
/-- so much is said of a known function. -/
def InOK (P : Program) (C : Ctx) (f : Nat) (i : Intr) : Prop := ∀ args hp nx v hp' nx', runIn i args hp nx = .ok v hp' nx' → Enters P f ∧
  ∀ base m w us, SR P C base m hp nx w → ArgsR C m args us → Calls P f us.toArray w (Ends P C base m hp nx w hp' nx' v)

theorem args1 {m : Mp} {x : AV} {us : List Value} (h : ArgsR C m [x] us) : ∃ u, us = [u] ∧ AVR C m x u := by
  cases us with
  | nil => exact h.elim
  | cons u us =>
    cases us with
    | nil => exact ⟨u, rfl, h.1⟩
    | cons _ _ => exact h.2.elim
theorem args2 {m : Mp} {x y : AV} {us : List Value} (h : ArgsR C m [x, y] us) : ∃ u u', us = [u, u'] ∧ AVR C m x u ∧ AVR C m y u' := by
  cases us with
  | nil => exact h.elim
  | cons u us =>
    obtain ⟨u', rfl, h'⟩ := args1 h.2
    exact ⟨u, u', rfl, h.1, h'⟩

/-- a call that hands back a value, in memory of its own. -/
theorem ends_under {base : Nat} {m : Mp} {w : World} {f : Nat} {us : Array Value} {u : Value} (hs : SR P C base m hp nx w) (hv : AVR C m v u)
    (h : Calls P f us w fun e w' => e = .returned u ∧ Below w.heap.size w w') : Calls P f us w (Ends P C base m hp nx w hp nx v) := by
  refine h.mono ?_
  rintro e w' ⟨rfl, hb⟩
  exact ⟨m, hv, hs.under hb⟩

/-- a copy of a string. -/
theorem clone_ok {f : Nat} (he : Enters P f) (hc : ∀ (s : ByteArray) (w : World), s.size ≤ 100000 → Calls P f #[.string s] w fun e w' => e = .returned (.string s) ∧ Below w.heap.size w w') : InOK P C f .clone := by
  intro args hp nx v hp' nx' h
  obtain ⟨x, rfl, g⟩ := in1_ok (f := inClone) h
  obtain ⟨r, rfl, g1⟩ := asStr_ok g
  obtain ⟨hl, g2⟩ := ifB_ok g1
  obtain ⟨rfl, rfl, rfl⟩ := okS_ok g2
  refine ⟨he, fun base m w us hs ha => ?_⟩
  obtain ⟨u, rfl, hu⟩ := args1 ha
  obtain ⟨h1, rfl⟩ := hu.str
  have hl := ble_le hl
  rw [lenR_eq] at hl
  exact ends_under hs ⟨h1, rfl⟩ (hc _ w (by rw [bs_size, Rope.den_length h1]; exact hl))

/-- a string of so many bytes 0. -/
theorem repeat0_ok {f : Nat} (he : Enters P f) (hc : ∀ (n : Nat) (w : World), n ≤ 100000 → Calls P f #[.string (bs [0]), .int .i64 n] w fun e w' => e = .returned (.string (bs (List.replicate n 0))) ∧ Below w.heap.size w w') : InOK P C f .repeat0 := by
  intro args hp nx v hp' nx' h
  obtain ⟨x, y, rfl, g⟩ := in2_ok (f := inRepeat0) h
  obtain ⟨r, rfl, g1⟩ := asStr_ok g
  have H := eqF_ok C (nat_lit 60) r (.lit (nat_lit 1) (nat_lit 0) .nil) false
  cases ht : eqF (nat_lit 60) r (.lit (nat_lit 1) (nat_lit 0) .nil) false with
  | no => rw [ht] at g1; cases (show (Ar.bad : Ar) = _ from g1)
  | unk => rw [ht] at g1; cases (show (Ar.bad : Ar) = _ from g1)
  | yes =>
    rw [ht] at g1 H
    have g1 : asInt y (fun q n => ifB (kindEq q .i64) (intNat n (fun n => ifB (Nat.ble n (nat_lit 100000)) (litK n (nat_lit 0) .nil fun r => okS (.str r) hp nx) .bad) .bad) .bad) .bad = .ok v hp' nx' := g1
    obtain ⟨q, z, rfl, g2⟩ := asInt_ok g1
    obtain ⟨hq, g3⟩ := ifB_ok g2
    obtain ⟨n, rfl, g4⟩ := intNat_ok g3
    obtain ⟨hn, g5⟩ := ifB_ok g4
    obtain ⟨r', g6, hr'⟩ := litK_ok (C := C) g5
    obtain ⟨rfl, rfl, rfl⟩ := okS_ok g6
    have hn : n ≤ 100000 := ble_le hn
    have hq := kindEq_ok hq; subst hq
    refine ⟨he, fun base m w us hs ha => ?_⟩
    obtain ⟨u, u', rfl, hu, hu'⟩ := args2 ha
    obtain ⟨h1, rfl⟩ := hu.str
    have hu' := hu'.int; subst hu'
    obtain ⟨h2, h3⟩ := hr' trivial
    have e := ((H h1 trivial).1 rfl).2
    rw [show (Rope.lit (nat_lit 1) (nat_lit 0) Rope.nil).den C = [0] from rfl] at e
    rw [e]
    have hz : ∀ n, litB n 0 = List.replicate n 0 := fun n => by
      induction n with
      | zero => rfl
      | succ n ih => show _ :: litB n (0 / 256) = _; rw [Nat.zero_div, ih]; rfl
    refine ends_under hs ⟨h2, rfl⟩ ?_
    rw [h3, show Rope.den C .nil = [] from rfl, List.append_nil, show (nat_lit 0) = 0 from rfl, hz]
    exact hc n w hn

theorem layL_one {c : Array Value} {o : Nat} {x : Value} (h : o < c.size) : (layL c.toList o [x]).toArray = c.setIfInBounds o x := by
  apply Array.ext'
  have hc : c.toList.length = c.size := Array.length_toList
  simp only [layL, Array.toList_setIfInBounds, List.length_cons, List.length_nil, Nat.zero_add]
  rw [List.set_eq_take_append_cons_drop, if_pos (by omega), List.append_assoc]; rfl
theorem store_one {w w' : World} {B o : Nat} {c : Array Value} {t : Nat} {x : Value} (h : w.heap[B]? = some (.cells c t (0, 0))) (ho : o < c.size) (hx : x.oneCell' = true)
    (hst : (storeCells ⟨B, o, none⟩ [x]).run P w = .ok () w') : w' = w.setCell ⟨B, o, none⟩ x := by
  have hrun := run_storeCells_row (P := P) [x] w c o 0 h (by simp only [List.length_cons, List.length_nil]; omega) (by simpa using hx)
  simp only [Nat.add_zero] at hrun
  rw [hrun] at hst
  injection hst with _ e
  rw [← e, setCell_row h, layL_one ho]

/-- a lock's cell is turned. -/
theorem setLock_ok {a b : Nat} {x : AV} (h : setLock a b x hp nx = .ok v hp' nx') : nx' = nx ∧ ∀ base m w u, SR P C base m hp nx w → AVR C m x u →
    ∃ ad, u = .pointer (some ad) ∧ w.cell? ad = some (.int .i32 (a : Int)) ∧ w.frozen? ad = false ∧ Good P C base m hp nx w m hp' nx (w.setCell ad (.int .i32 (b : Int))) := by
  obtain ⟨p, o, rfl, g⟩ := asPtr_ok h
  rw [getHp_eq] at g
  rcases obCells_ok g with ⟨t, ex, wr, l, ho, g1⟩ | ⟨t, ex, wr, r, ho, g1⟩
  · obtain ⟨c, hc, g2⟩ := nthK_ok g1
    obtain ⟨q, n, rfl, g3⟩ := svInt_ok g2
    obtain ⟨hq, g4⟩ := ifB_ok g3
    obtain ⟨hq, hn⟩ := cand_true hq
    have hq := kindEq_ok hq; subst hq
    rw [eqI_eq] at hn
    have hn : n = (a : Int) := by simpa using hn
    subst hn
    obtain ⟨rfl, hl, -, rfl, rfl⟩ := stLay_ok g4
    refine ⟨rfl, fun base m w u hs hu => ?_⟩
    have hu : PtrR m p o u := hu
    obtain ⟨B, δ, N, es, hm, hb1, hb2, hob⟩ := hs.at (b := p) (by rw [ho]; simp) (ptr_un hu)
    have := ptr_live hu hm; subst this
    obtain ⟨w', hst, hG⟩ := hs.store (P := P) hm ho (y := [.int .i32 (b : Int)]) (ys := [.int .i32 (b : Int)]) ⟨rfl, rfl, trivial⟩ hl
    rw [ho] at hob
    obtain ⟨cs, fz, h1, h2, h3, h4, h5, h6, h7⟩ := hob
    have := h2 rfl; subst this
    obtain ⟨u0, hu0, hv0, -⟩ := h7.get hc
    have hv0 : u0 = .int .i32 (a : Int) := hv0
    subst hv0
    have hcell : w.cell? ⟨B, δ + o, none⟩ = some (.int .i32 (a : Int)) := by
      have := nth_of hu0
      simp [World.cell?, h1]
      simpa using this
    have hfz : w.frozen? ⟨B, δ + o, none⟩ = false := by simp [World.frozen?, h1]
    refine ⟨_, rfl, hcell, hfz, ?_⟩
    have hw : w' = w.setCell ⟨B, δ + o, none⟩ (.int .i32 (b : Int)) := store_one h1 (by simp only [List.length_cons, List.length_nil] at hl; omega) rfl hst
    rw [← hw]; exact hG
  · cases g1

theorem tupA_ok {r : Ar} (h : tupA r = .ok v hp' nx') : v = .t [] ∧ ∃ x, r = .ok x hp' nx' := by
  cases r with
  | bad => cases h
  | ok x hp nx =>
    have h : Ar.ok (.t []) hp nx = .ok v hp' nx' := h
    injection h with h1 h2 h3
    subst h1; subst h2; subst h3
    exact ⟨rfl, x, rfl⟩

theorem lock_ok {f : Nat} (he : Enters P f) (hc : ∀ (a : Addr) (w : World), w.cell? a = some (.int .i32 0) → w.frozen? a = false → Calls P f #[.pointer (some a)] w fun e w' => e = .returned (.tuple #[]) ∧ w' = w.setCell a (.int .i32 1)) : InOK P C f .lock := by
  intro args hp nx v hp' nx' h
  obtain ⟨x, rfl, g⟩ := in1_ok (f := inLock) h
  obtain ⟨rfl, y, g1⟩ := tupA_ok g
  obtain ⟨rfl, G⟩ := setLock_ok (P := P) (C := C) g1
  refine ⟨he, fun base m w us hs ha => ?_⟩
  obtain ⟨u, rfl, hu⟩ := args1 ha
  obtain ⟨a, rfl, h1, h2, h3⟩ := G base m w u hs hu
  refine (hc a w h1 h2).mono ?_
  rintro e w' ⟨rfl, rfl⟩
  exact ⟨m, ⟨[], rfl, trivial⟩, h3⟩
theorem unlock_ok {f : Nat} (he : Enters P f) (hc : ∀ (a : Addr) (w : World), w.cell? a = some (.int .i32 1) → w.frozen? a = false → Calls P f #[.pointer (some a)] w fun e w' => e = .returned (.tuple #[]) ∧ w' = w.setCell a (.int .i32 0)) : InOK P C f .unlock := by
  intro args hp nx v hp' nx' h
  obtain ⟨x, rfl, g⟩ := in1_ok (f := inUnlock) h
  obtain ⟨rfl, y, g1⟩ := tupA_ok g
  obtain ⟨rfl, G⟩ := setLock_ok (P := P) (C := C) g1
  refine ⟨he, fun base m w us hs ha => ?_⟩
  obtain ⟨u, rfl, hu⟩ := args1 ha
  obtain ⟨a, rfl, h1, h2, h3⟩ := G base m w u hs hu
  refine (hc a w h1 h2).mono ?_
  rintro e w' ⟨rfl, rfl⟩
  exact ⟨m, ⟨[], rfl, trivial⟩, h3⟩
/-- the unlocking that waits for a function's end. -/
theorem defer_ok {K : Known} (hc : ∀ f, K f = some .unlock → Enters P f ∧ ∀ (a : Addr) (w : World), w.cell? a = some (.int .i32 1) → w.frozen? a = false →
    CallsD P f #[.pointer (some a)] .returning w fun e u' w' => u' = .returning ∧ (e = .returned (.tuple #[]) ∧ w' = w.setCell a (.int .i32 0))) : DeferOK P C K := by
  intro f hf b o hp nx v hp' nx' h base m w u hs hu
  obtain ⟨rfl, y, g1⟩ := tupA_ok h
  obtain ⟨rfl, G⟩ := setLock_ok (P := P) (C := C) g1
  obtain ⟨a, rfl, h1, h2, h3⟩ := G base m w u hs hu
  obtain ⟨he, hd⟩ := hc f hf
  refine ⟨?_, (hd a w h1 h2).mono ?_⟩
  · have := he #[.pointer (some a)] w
    simpa [invoke] using this
  · rintro e u' w' ⟨rfl, rfl, rfl⟩
    exact ⟨rfl, _, m, rfl, h3⟩

/-- a builder looks whether it has been copied. -/
theorem bldCheck_ok {f t : Nat} (he : Enters P f)
    (hc0 : ∀ (b : Nat) (w : World), w.cell? ⟨b, 0, none⟩ = some (.pointer none) → w.shape? b = some (t, 2) → w.frozen? ⟨b, 0, none⟩ = false →
      Calls P f #[.pointer (some ⟨b, 0, none⟩)] w fun e w' => e = .returned (.tuple #[]) ∧ w' = w.setCell ⟨b, 0, none⟩ (.pointer (some ⟨b, 0, none⟩)))
    (hc1 : ∀ (b : Nat) (w : World), w.cell? ⟨b, 0, none⟩ = some (.pointer (some ⟨b, 0, none⟩)) → Calls P f #[.pointer (some ⟨b, 0, none⟩)] w fun e w' => e = .returned (.tuple #[]) ∧ w' = w) :
    InOK P C f (.bldCheck t) := by
  intro args hp nx v hp' nx' h
  obtain ⟨x, rfl, g⟩ := in1_ok (f := inBldCheck t) h
  obtain ⟨p, o, rfl, g0⟩ := asPtr_ok g
  rw [getHp_eq] at g0
  rcases obCells_ok g0 with ⟨t', ex, wr, l, ho, g1⟩ | ⟨t', ex, wr, r, ho, g1⟩
  · obtain ⟨hcc, g2⟩ := ifB_ok g1
    obtain ⟨hex, hc1'⟩ := cand_true hcc
    obtain ⟨ht, hc2⟩ := cand_true hc1'
    obtain ⟨ho0, hl⟩ := cand_true hc2
    clear hcc hc1' hc2
    subst hex
    have ht := beq_eq ht; subst ht
    have ho0 : o = 0 := beq_eq ho0; subst ho0
    have hl : lenK l = 2 := beq_eq hl
    rw [lenK_eq] at hl
    obtain ⟨c, hc, g3⟩ := nthK_ok g2
    have fact : ∀ base m w u, SR P C base m hp nx w → AVR C m (.s (.ptr p 0)) u → ∃ B es cs fz, m p = .live B 0 2 es ∧ u = .pointer (some ⟨B, 0, none⟩) ∧ w.heap[B]? = some (.cells cs t' fz) ∧ (wr = true → fz = (0, 0)) ∧ cs.size = 2 ∧ ∃ u0, cs[0]? = some u0 ∧ SVR C m c u0 := by
      intro base m w u hs hu
      have hu : PtrR m p 0 u := hu
      obtain ⟨B, δ, N, es, hm, hb1, hb2, hob⟩ := hs.at (b := p) (by rw [ho]; simp) (ptr_un hu)
      have := ptr_live hu hm; subst this
      rw [ho] at hob
      obtain ⟨cs, fz, h1, h2, h3, h4, h5, h6, h7⟩ := hob
      obtain ⟨rfl, h5⟩ := h5 rfl
      obtain ⟨u0, hu0, hv0, -⟩ := h7.get hc
      have := nth_of hu0
      refine ⟨B, es, cs, fz, by rw [hm]; congr 1; omega, rfl, h1, h2, by omega, u0, by simpa using this, hv0⟩
    cases hn : nilP c with
    | unk => rw [hn] at g3; cases (show (Ar.bad : Ar) = _ from g3)
    | yes =>
      rw [hn] at g3
      have g3 : tupA (stLay p t' true wr l (nat_lit 0) [.ptr p (nat_lit 0)] hp nx) = .ok v hp' nx' := g3
      obtain ⟨rfl, y, g4⟩ := tupA_ok g3
      obtain ⟨rfl, hl', -, rfl, rfl⟩ := stLay_ok g4
      refine ⟨he, fun base m w us hs ha => ?_⟩
      obtain ⟨u, rfl, hu⟩ := args1 ha
      obtain ⟨B, es, cs, fz, hm, rfl, h1, h2, h3, u0, hu0, hv0⟩ := fact base m w u hs hu
      have := h2 rfl; subst this
      have hp0 : SVR C m (.ptr p (nat_lit 0)) (.pointer (some ⟨B, 0, none⟩)) := by
        show PtrR m p 0 _
        unfold PtrR; rw [hm]
      obtain ⟨w', hst, hG⟩ := hs.store (P := P) hm ho (o := 0) (y := [.ptr p (nat_lit 0)]) (ys := [.pointer (some ⟨B, 0, none⟩)]) ⟨hp0, rfl, trivial⟩ hl'
      have hu0' : u0 = .pointer none := by
        have := nilOf_ok (k := .ptr) hv0
        have hn : nilOf .ptr c = .yes := hn
        rw [hn] at this
        exact this
      subst hu0'
      have hcell : w.cell? ⟨B, 0, none⟩ = some (.pointer none) := by simp [World.cell?, h1]; simpa using hu0
      have hfz : w.frozen? ⟨B, 0, none⟩ = false := by simp [World.frozen?, h1]
      refine (hc0 B w hcell (by simp [World.shape?, h1, h3]) hfz).mono ?_
      rintro e w2 ⟨rfl, rfl⟩
      refine ⟨m, ⟨[], rfl, trivial⟩, ?_⟩
      have hw : w' = w.setCell ⟨B, 0, none⟩ (.pointer (some ⟨B, 0, none⟩)) := store_one h1 (by omega) rfl hst
      rw [← hw]; exact hG
    | no =>
      rw [hn] at g3
      obtain ⟨p', o', rfl, g4⟩ := svPtr_ok g3
      obtain ⟨hc', g5⟩ := ifB_ok g4
      obtain ⟨hp1, ho1⟩ := cand_true hc'
      have hp1 := pidEq_ok hp1; subst hp1
      have ho1 : o' = 0 := beq_eq ho1; subst ho1
      obtain ⟨rfl, rfl, rfl⟩ := ok_ok g5
      refine ⟨he, fun base m w us hs ha => ?_⟩
      obtain ⟨u, rfl, hu⟩ := args1 ha
      obtain ⟨B, es, cs, fz, hm, rfl, h1, h2, h3, u0, hu0, hv0⟩ := fact base m w u hs hu
      have hu0' : u0 = .pointer (some ⟨B, 0, none⟩) := by
        have hv0 : PtrR m p 0 u0 := hv0
        simpa using ptr_live hv0 hm
      subst hu0'
      refine (hc1 B w (by simp [World.cell?, h1]; simpa using hu0)).mono ?_
      rintro e w2 ⟨rfl, rfl⟩
      exact ⟨m, ⟨[], rfl, trivial⟩, .refl hs⟩
  · cases g1
end
end Go.X
end

/-! The keys of a map, in their order. -/
noncomputable section
open Go.RowKit
namespace Go.X
section
variable {P : Program} {C : Ctx} {hp hp' : Hp} {nx nx' : Pid} {v : AV}

/-- what is known of slices.Sorted at the sequence g of a map's keys. -/
structure KeysC (P : Program) (f g t kt : Nat) : Prop where
  live : ∀ (Bm b nn : Nat) (D0 : DataW Unit) (R : Value → Option (DataW Unit × List MemPlace)) (w : World), Bm < w.heap.size → w.cell? ⟨Bm, 0, none⟩ = some (.map (some b)) → w.ownsMap P kt R b nn D0 → Maps.size D0 ≤ 100000 →
    Calls P f #[.func (.func g) #[] #[.pointer (some ⟨Bm, 0, none⟩)]] w fun e w' => ∃ (u : Value) (ss : List Int), e = .returned u ∧ ss.Perm (intKeys D0) ∧
      w'.ownsRow w.heap.size t 1 u ss.length ((ss.mergeSort (fun x y => decide (x ≤ y))).map encZ) ∧ (u = .slice none 0 0 ↔ ss = []) ∧ Below w.heap.size w w'
  nil : ∀ (Bm : Nat) (w : World), Bm < w.heap.size → w.cell? ⟨Bm, 0, none⟩ = some (.map none) →
    Calls P f #[.func (.func g) #[] #[.pointer (some ⟨Bm, 0, none⟩)]] w fun e w' => e = .returned (.slice none 0 0) ∧ Below w.heap.size w w'

def numOf : Value → Int
  | .int _ n => n
  | _ => 0
theorem insI_perm (k : IntKind) (n : Int) : ∀ l : List (IntKind × Int), (insI k n l).Perm ((k, n) :: l)
  | [] => .refl _
  | p :: l => by
    show List.Perm (Bool.rec (motive := fun _ => List (IntKind × Int)) ((k, n) :: p :: l) (p :: insI k n l) (ltI p.2 n)) _
    cases ltI p.2 n with
    | false => exact .refl _
    | true => exact ((insI_perm k n l).cons p).trans (.swap _ _ _)

/-- the numbers that a map's keys are. -/
theorem keysK_ok : ∀ {l : List (V1 × V1)} {k : List (IntKind × Int) → Ar}, keysK l k = .ok v hp' nx' → ∃ r, k r = .ok v hp' nx' ∧ r.length = l.length ∧
    ∀ m es, EntsR C m l es → ∃ r0 : List (IntKind × Int), r.Perm r0 ∧ es.map (·.key) = r0.map (fun p => Value.int p.1 p.2)
  | [], k, h => ⟨[], h, rfl, fun m es he => by cases es with | nil => exact ⟨[], .refl _, rfl⟩ | cons _ _ => exact he.elim⟩
  | (kx, x) :: l, k, h => by
    cases kx with
    | a l' => cases (show (Ar.bad : Ar) = _ from h)
    | s y =>
      have h : svInt y (fun q n => keysK l (fun l => k (insI q n l))) .bad = .ok v hp' nx' := h
      obtain ⟨q, n, rfl, g⟩ := svInt_ok h
      obtain ⟨r, h1, h2, h3⟩ := keysK_ok (l := l) g
      refine ⟨_, h1, by rw [(insI_perm q n r).length_eq]; simp [h2], fun m es he => ?_⟩
      cases es with
      | nil => exact he.elim
      | cons e es =>
        obtain ⟨e1, _, e2⟩ := he
        obtain ⟨r0, p1, p2⟩ := h3 m es e2
        have e1 : e.key = .int q n := e1
        exact ⟨(q, n) :: r0, (insI_perm q n r).trans (p1.cons _), by simp [e1, p2]⟩

def Int64 (n : Int) : Prop := (Lit.int .i64 n).wf = true
theorem isInt_ok {p : IntKind × Int} (h : isInt p = true) : p = (.i64, p.2) ∧ Int64 p.2 := by
  obtain ⟨h1, h2⟩ := cand_true h
  obtain ⟨k, n⟩ := p
  have h1 := kindEq_ok h1
  have h1 : k = .i64 := h1
  subst h1
  have h2 := inR_le h2
  refine ⟨rfl, ?_⟩
  simp only [Int64, Lit.wf, Bool.and_eq_true, decide_eq_true_eq]
  have a : maxN .i64 = 9223372036854775807 := rfl
  have b : IntKind.min .i64 = -9223372036854775808 := by decide
  have c : IntKind.max .i64 = 9223372036854775807 := by decide
  have d : sgnB .i64 = true := rfl
  rw [a, d] at h2
  rw [b, c]
  simp only [if_true] at h2
  omega
theorem risesF_ok : ∀ {l : List (IntKind × Int)} {a : Int}, risesF l a = true → (∀ p ∈ l, p = (.i64, p.2) ∧ Int64 p.2 ∧ a < p.2) ∧ (l.map (·.2)).Pairwise (· < ·)
  | [], _, _ => ⟨fun _ h => by simp at h, .nil⟩
  | p :: l, a, h => by
    obtain ⟨h1, h2⟩ := cand_true h
    obtain ⟨h2, h3⟩ := cand_true h2
    rw [ltI_eq] at h2
    have h2 : a < p.2 := by simpa using h2
    obtain ⟨g1, g2⟩ := risesF_ok (l := l) h3
    obtain ⟨i1, i2⟩ := isInt_ok h1
    refine ⟨fun q hq => ?_, .cons (fun b hb => ?_) g2⟩
    · rcases List.mem_cons.1 hq with rfl | hq
      · exact ⟨i1, i2, h2⟩
      · obtain ⟨j1, j2, j3⟩ := g1 q hq; exact ⟨j1, j2, by omega⟩
    · obtain ⟨q, hq, rfl⟩ := List.mem_map.1 hb
      exact (g1 q hq).2.2
theorem rises_ok {l : List (IntKind × Int)} (h : rises l = true) : (∀ p ∈ l, p = (.i64, p.2) ∧ Int64 p.2) ∧ (l.map (·.2)).Pairwise (· < ·) := by
  cases l with
  | nil => exact ⟨fun _ h => by simp at h, .nil⟩
  | cons p l =>
    obtain ⟨h1, h3⟩ := cand_true h
    obtain ⟨g1, g2⟩ := risesF_ok (l := l) h3
    obtain ⟨i1, i2⟩ := isInt_ok h1
    refine ⟨fun q hq => ?_, .cons (fun b hb => ?_) g2⟩
    · rcases List.mem_cons.1 hq with rfl | hq
      · exact ⟨i1, i2⟩
      · obtain ⟨j1, j2, j3⟩ := g1 q hq; exact ⟨j1, j2⟩
    · obtain ⟨q, hq, rfl⟩ := List.mem_map.1 hb
      exact (g1 q hq).2.2

theorem memN_ok {f : Nat} : ∀ {gs : List Nat}, memN f gs = true → f ∈ gs
  | [], h => by cases h
  | g :: gs, h => by
    have h : Bool.rec (motive := fun _ => Bool) (memN f gs) true (Nat.beq f g) = true := h
    cases hb : Nat.beq f g with
    | true => rw [beq_eq hb]; simp
    | false => rw [hb] at h; exact List.mem_cons_of_mem _ (memN_ok h)

theorem intsOf_eq : ∀ l : List (IntKind × Int), intsOf l = l.map fun p => SV.int p.1 p.2
  | [] => rfl
  | p :: l => by show _ :: intsOf l = _; rw [intsOf_eq l]; rfl
theorem intsOf_R {m : Mp} : ∀ l : List (IntKind × Int), ListR C m (l.map fun p => SV.int p.1 p.2) (l.map fun p => Value.int p.1 p.2)
  | [] => trivial
  | _ :: l => ⟨rfl, rfl, intsOf_R l⟩

def anyR : Value → Option (DataW Unit × List MemPlace) := fun _ => some (.nil, [])
/-- such a map, in the kit's words. -/
theorem own_of {kt : Nat} (hk : P.underlying kt = some (.int .i64)) {w : World} {b : Nat} {es : Array MapEntry} {clock : Nat} (hb : w.heap[b]? = some (.map es clock)) (hB : Births es clock)
    {r r0 : List (IntKind × Int)} (hp : r.Perm r0) (he : es.toList.map (·.key) = r0.map (fun p => Value.int p.1 p.2)) (hr : rises r = true) (hn : r.length ≤ 100000) :
    ∃ D0 : DataW Unit, w.ownsMap P kt anyR b es.size D0 ∧ Maps.size D0 = r.length ∧ (r.map (·.2)).Perm (intKeys D0) := by
  obtain ⟨h1, h2⟩ := rises_ok hr
  have hlen : es.size = r.length := by
    have := congrArg List.length he
    simp only [List.length_map, Array.length_toList] at this
    rw [this, hp.length_eq]
  have hkey : ∀ x ∈ es.toList, ∃ n, x.key = .int .i64 n ∧ Int64 n := fun x hx => by
    have : x.key ∈ es.toList.map (·.key) := List.mem_map.2 ⟨x, hx, rfl⟩
    rw [he] at this
    obtain ⟨p, hp', hpx⟩ := List.mem_map.1 this
    obtain ⟨e1, e2⟩ := h1 p (hp.symm.subset hp')
    exact ⟨p.2, by rw [← hpx, e1], e2⟩
  have hko : ∀ n, Int64 n → keyOf P kt (.int .i64 n) = some (.int .i64 n) := fun n hn => by
    have hn : (Lit.int .i64 n).wf = true := hn
    simp [keyOf, hk, mapKey, hn]
  have hrd : ∀ x ∈ es.toList, ∃ n, x.key = .int .i64 n ∧ WideElems.rd P kt anyR x = some (.int .i64 n, .nil) := fun x hx => by
    obtain ⟨n, e, hn⟩ := hkey x hx
    exact ⟨n, e, by simp [WideElems.rd, e, hko n hn, anyR]⟩
  have hnd : (es.toList.map (·.key)).Nodup := by
    rw [he]
    have : (r.map (fun p => Value.int p.1 p.2)).Nodup := by
      rw [List.Nodup, List.pairwise_map]
      rw [List.pairwise_map] at h2
      exact h2.imp fun {a b} hab e => by injection e with _ e2; omega
    exact (hp.map _).nodup_iff.1 this
  have hpw : es.toList.Pairwise (fun x y => x.key ≠ y.key) := by
    rw [List.Nodup, List.pairwise_map] at hnd
    exact hnd
  refine ⟨.map ((es.toList.map (WideElems.rg P kt anyR)).foldr DataW.insert []), ⟨es, clock, hb, ⟨?_, ?_, ?_⟩, Nat.le_refl _, rfl⟩, ?_, ?_⟩
  · rw [hlen]; exact Nat.le_trans hn (by decide)
  · exact (MapKept.stamped_iff es clock).2 ⟨hB.1, hB.2, hpw⟩
  · intro x hx; obtain ⟨n, _, h⟩ := hrd x hx; exact ⟨_, h⟩
  · show ((es.toList.map (WideElems.rg P kt anyR)).foldr DataW.insert []).length = _
    rw [(WideShapes.sorted_perm _).length_eq]; simp [hlen]
  · show (r.map (·.2)).Perm (((es.toList.map (WideElems.rg P kt anyR)).foldr DataW.insert []).map fun p => intOf p.1)
    refine List.Perm.trans ?_ ((WideShapes.sorted_perm _).map _).symm
    have e : (es.toList.map (WideElems.rg P kt anyR)).map (fun p => intOf p.1) = (es.toList.map (·.key)).map numOf := by
      rw [List.map_map, List.map_map]
      refine List.map_congr_left fun x hx => ?_
      obtain ⟨n, e, h⟩ := hrd x hx
      simp [WideElems.rg, h, intOf, e, numOf]
    rw [e, he, List.map_map]
    exact hp.map _

/-- slices.Sorted over the sequence of a map's keys. -/
theorem keys_ok {f t kt : Nat} {gs : List Nat} (he : Enters P f) (hk : P.underlying kt = some (.int .i64)) (ht : szOf P t = some 1) (hc : ∀ g ∈ gs, KeysC P f g t kt) : InOK P C f (.keys gs t) := by
  intro args hp nx v hp' nx' h
  obtain ⟨x, rfl, g⟩ := in1_ok (f := inKeys gs t) h
  obtain ⟨y, rfl, g1⟩ := asS_ok g
  obtain ⟨gf, caps, rfl, g2⟩ := svFn_ok g1
  obtain ⟨hg, g3⟩ := ifB_ok g2
  have HC := hc gf (memN_ok hg)
  cases caps with
  | nil => cases (show (Ar.bad : Ar) = _ from g3)
  | cons q l =>
    cases l with
    | cons _ _ => cases (show (Ar.bad : Ar) = _ from g3)
    | nil =>
      obtain ⟨p, o⟩ := q
      have g3 : inKeysP t (p, o) hp nx = .ok v hp' nx' := g3
      unfold inKeysP at g3
      rw [getHp_eq] at g3
      rcases obCells_ok g3 with ⟨t', ex, wr, l, ho, g4⟩ | ⟨t', ex, wr, r, ho, g4⟩
      · obtain ⟨hcc, g5⟩ := ifB_ok g4
        obtain ⟨hex, ho0⟩ := cand_true hcc
        have ho0 : o = 0 := beq_eq ho0
        subst hex; subst ho0
        obtain ⟨y, hy, g6⟩ := nthK_ok g5
        have fact : ∀ base m w us, SR P C base m hp nx w → ArgsR C m [.s (.fn gf [(p, 0)])] us → ∃ B u0, us = [.func (.func gf) #[] #[.pointer (some ⟨B, 0, none⟩)]] ∧ B < w.heap.size ∧ w.cell? ⟨B, 0, none⟩ = some u0 ∧ SVR C m y u0 := by
          intro base m w us hs ha
          obtain ⟨u, rfl, vs, rfl, hcap⟩ := args1 ha
          cases vs with
          | nil => exact hcap.elim
          | cons u1 vs =>
            cases vs with
            | cons _ _ => exact hcap.2.elim
            | nil =>
              have hu : PtrR m p 0 u1 := hcap.1
              obtain ⟨B, δ, N, es, hm, hb1, hb2, hob⟩ := hs.at (b := p) (by rw [ho]; simp) (ptr_un hu)
              have := ptr_live hu hm; subst this
              rw [ho] at hob
              obtain ⟨cs, fz, h1, h2, h3, h4, h5, h6, h7⟩ := hob
              obtain ⟨rfl, h5⟩ := h5 rfl
              obtain ⟨u0, hu0, hv0, -⟩ := h7.get hy
              have := nth_of hu0
              exact ⟨B, u0, rfl, hb2, by simp [World.cell?, h1]; simpa using this, hv0⟩
        unfold inKeysM at g6
        rcases svMap_ok g6 with ⟨b, rfl, g7⟩ | ⟨rfl, g7⟩
        · rw [getHp_eq] at g7
          obtain ⟨l, hol, g8⟩ := obMap_ok g7
          have mapAt : ∀ base m w u0, SR P C base m hp nx w → SVR C m (.map b) u0 → ∃ B es clock, u0 = .map (some B) ∧ w.heap[B]? = some (.map es clock) ∧ EntsR C m l es.toList ∧ Births es clock := by
            intro base m w u0 hs hu
            obtain ⟨B, δ, N, es', hm, _, _, hob⟩ := hs.at (b := b) (by rw [hol]; simp) (ref_un hu)
            have := ref_live hu hm; subst this
            rw [hol] at hob
            obtain ⟨_, es, clock, h1, h2, h3⟩ := hob
            exact ⟨B, es, clock, rfl, h1, h2, h3⟩
          cases l with
          | nil =>
            obtain ⟨rfl, rfl, rfl⟩ := okS_ok (show okS .nils hp nx = _ from g8)
            refine ⟨he, fun base m w us hs ha => ?_⟩
            obtain ⟨B, u0, rfl, hB, hcell, hu0⟩ := fact base m w us hs ha
            obtain ⟨B', es, clock, rfl, h1, h2, h3⟩ := mapAt base m w u0 hs hu0
            have hes : es.toList = [] := by
              cases hl : es.toList with
              | nil => rfl
              | cons e es' => rw [hl] at h2; exact h2.elim
            obtain ⟨D0, hown, hsz, hperm⟩ := own_of (P := P) hk h1 h3 (r := []) (r0 := []) (.refl _) (by rw [hes]; rfl) rfl (by simp)
            refine (HC.live B B' _ D0 _ w hB hcell hown (by rw [hsz]; simp)).mono ?_
            rintro e w' ⟨u, ss, rfl, hss, hrow, hnil, hb⟩
            have : ss = [] := List.Perm.eq_nil (hss.trans hperm.symm)
            have hu := hnil.2 this
            subst hu
            exact ⟨m, rfl, hs.under hb⟩
          | cons e0 l0 =>
            have g8 : keysK (e0 :: l0) (fun r => inKeysR t r hp nx) = .ok v hp' nx' := g8
            obtain ⟨r, g9, hrl, hr0⟩ := keysK_ok (C := C) g8
            obtain ⟨hri, g10⟩ := ifB_ok g9
            obtain ⟨hn, rfl, rfl, hnx⟩ := growTo_ok g10
            rw [lenK_eq] at hn
            refine ⟨he, fun base m w us hs ha => ?_⟩
            obtain ⟨B, u0, rfl, hB, hcell, hu0⟩ := fact base m w us hs ha
            obtain ⟨B', es, clock, rfl, h1, h2, h3⟩ := mapAt base m w u0 hs hu0
            obtain ⟨r0, hp1, hp2⟩ := hr0 m es.toList h2
            obtain ⟨D0, hown, hsz, hperm⟩ := own_of (P := P) hk h1 h3 hp1 hp2 hri hn
            refine (HC.live B B' _ D0 _ w hB hcell hown (by rw [hsz]; exact hn)).mono ?_
            rintro e w' ⟨u, ss, rfl, hss, hrow, hnil, hb⟩
            obtain ⟨hri1, hri2⟩ := rises_ok hri
            have hssr : ss.Perm (r.map (·.2)) := hss.trans hperm.symm
            have hsort : ss.mergeSort (fun x y => decide (x ≤ y)) = r.map (·.2) := by
              rw [mergeSort_of_perm_i hssr]
              refine List.mergeSort_of_pairwise (hri2.imp fun {a b} hab => ?_)
              simp only [leI, decide_eq_true_eq]; omega
            have hlen : ss.length = r.length := by rw [hssr.length_eq]; simp
            rw [hsort, hlen] at hrow
            have hcells : (r.map (·.2)).map encZ = r.map (fun p => Value.int p.1 p.2) := by
              rw [List.map_map]
              refine List.map_congr_left fun p hp => ?_
              have := (hri1 p hp).1
              show Value.int .i64 p.2 = Value.int p.1 p.2
              rw [this]
            rw [hcells] at hrow
            have hG := hs.under hb
            rcases hrow.2 with ⟨_, hz⟩ | ⟨gb, cap, cur, rfl, hgb, hheap, hcap, hmax, hcs, htake⟩
            · simp [hrl] at hz
            · have hsz' : gb < w'.heap.size := by
                rcases Nat.lt_or_ge gb w'.heap.size with g | g
                · exact g
                · simp [Array.getElem?_eq_none g] at hheap
              have hcur : cur.size = cap := by simpa using hcs
              have hob : ObjR P C m w' gb 0 cap 1 (.cells t false true (intsOf r)) := by
                refine ⟨cur, (0, 0), hheap, fun _ => rfl, hcur, ?_, (fun q => by cases q), fun _ => ht, ?_⟩
                · rw [intsOf_eq]; simpa using hcap
                · rw [intsOf_eq, List.drop_zero, List.length_map]
                  have : cur.toList.take r.length = r.map (fun p => Value.int p.1 p.2) := by simpa using htake
                  rw [this]
                  exact intsOf_R r
              have hN := hG.sr.name (nx' := nx') hnx (.cells t false true (intsOf r)) (B := gb) (δ := 0) (N := cap) (es := 1) (Nat.le_trans hs.base hgb) hsz'
                (fun q δ' N' es' hq => by have := (hs.live _ _ _ _ _ hq).2.1; omega) hob
              refine ⟨_, ?_, hG.trans hN⟩
              show SlcR _ nx 0 (lenK r) (.op 1) _
              unfold SlcR
              rw [upd_same, lenK_eq]
              exact ⟨cap, rfl, hcap, rfl, by simp⟩
        · obtain ⟨rfl, rfl, rfl⟩ := okS_ok g7
          refine ⟨he, fun base m w us hs ha => ?_⟩
          obtain ⟨B, u0, rfl, hB, hcell, hu0⟩ := fact base m w us hs ha
          have hu0 : u0 = .map none := hu0
          subst hu0
          exact ends_under hs rfl (HC.nil B w hB hcell)
      · cases g4
end
end Go.X
end

/-! The check sum of strings. -/
noncomputable section
open Go.RowKit
namespace Go.X
def cbytes (ss : List ByteArray) : List UInt8 := (ss.map (·.data.toList)).flatten
section
variable {P : Program} {C : Ctx} {hp hp' : Hp} {nx nx' : Pid} {v : AV}
theorem catAll_ok : ∀ {l : List SV} {k : Rope → Ar}, catAll l k = .ok v hp' nx' → ∃ r, k r = .ok v hp' nx' ∧
    ∀ m us, ListR C m l us → r.ok C ∧ ∃ ss : List ByteArray, us = ss.map Value.string ∧ r.den C = cbytes ss
  | [], k, h => ⟨.nil, h, fun m us hu => by cases us with | nil => exact ⟨trivial, [], rfl, rfl⟩ | cons _ _ => exact hu.elim⟩
  | x :: l, k, h => by
    have h : svStr x (fun r => catAll l (fun r' => appRK r r' k)) .bad = .ok v hp' nx' := h
    obtain ⟨r, rfl, g⟩ := svStr_ok h
    obtain ⟨r', g1, h2⟩ := catAll_ok (l := l) g
    obtain ⟨q, g2, h3⟩ := appRK_ok (C := C) g1
    refine ⟨q, g2, fun m us hu => ?_⟩
    cases us with
    | nil => exact hu.elim
    | cons u us =>
      obtain ⟨⟨ha, rfl⟩, _, hb⟩ := hu
      obtain ⟨i1, ss, rfl, i2⟩ := h2 m us hb
      obtain ⟨j1, j2⟩ := h3 ha i1
      refine ⟨j1, bs (r.den C) :: ss, rfl, ?_⟩
      rw [j2, i2]; simp [cbytes, bs]

theorem inSumR_ok {r : Rope} (h : inSumR r hp nx = .ok v hp' nx') : r.len ≤ 1000000000 ∧ hp' = hp ∧ nx' = nx ∧ (r.ok C → ∀ m, AVR C m v (.int .u32 (crcOf (r.den C)))) := by
  obtain ⟨h1, g⟩ := ifB_ok h
  have h1 := ble_le h1
  rw [lenR_eq] at h1
  rcases crcRK_or (C := C) r (fun n => okS (.int .u32 (Int.ofNat n)) hp nx) (okS (.crcv r) hp nx) with e | ⟨n, e, hn⟩
  · rw [e] at g
    obtain ⟨rfl, rfl, rfl⟩ := okS_ok g
    exact ⟨h1, rfl, rfl, fun hr m => ⟨hr, rfl⟩⟩
  · rw [e] at g
    obtain ⟨rfl, rfl, rfl⟩ := okS_ok g
    refine ⟨h1, rfl, rfl, fun hr m => ?_⟩
    rw [← hn]; rfl

theorem cbytes_size {ss : List ByteArray} (j : Nat) : (ss.getD j ByteArray.empty).size ≤ (cbytes ss).length := by
  induction ss generalizing j with
  | nil => exact Nat.zero_le _
  | cons s ss ih =>
    have e : (cbytes (s :: ss)).length = s.size + (cbytes ss).length := by
      show (s.data.toList ++ cbytes ss).length = _
      rw [List.length_append, Array.length_toList]; rfl
    rw [e]
    cases j with
    | zero => show s.size ≤ _; omega
    | succ j => have := ih j; show (ss.getD j ByteArray.empty).size ≤ _; omega

theorem sumOf_ok {f : Nat} (he : Enters P f) (hc : ∀ (b off len cap : Nat) (ss : List ByteArray) (w : World), ss.length = len → len ≤ 100000 → (∀ j, (ss.getD j ByteArray.empty).size ≤ 1000000000) →
    (∀ j, j < len → w.cell? ⟨b, off + j, none⟩ = some (.string (ss.getD j ByteArray.empty))) →
    Calls P f #[.slice (some ⟨b, off, none⟩) len cap] w fun e w' => e = .returned (.int .u32 (crcOf (cbytes ss))) ∧ w' = w) : InOK P C f .sumOf := by
  intro args hp nx v hp' nx' h
  obtain ⟨x, rfl, g⟩ := in1_ok (f := inSumOf) h
  obtain ⟨y, rfl, g1⟩ := asS_ok g
  rcases svSlc_ok g1 with ⟨b, o, n, cap, rfl, g2⟩ | ⟨b, o, rfl, g2⟩ | ⟨rfl, g2⟩
  · obtain ⟨hn, g3⟩ := ifB_ok g2
    have hn : n ≤ 100000 := ble_le hn
    unfold elemsO at g3
    rw [getHp_eq] at g3
    rcases obCells_ok g3 with ⟨t', ex, wr, l, ho, g4⟩ | ⟨t', ex, wr, r, ho, g4⟩
    · obtain ⟨ha, g5⟩ := dropK_ok g4
      obtain ⟨hb, g6⟩ := takeK_ok g5
      have hb : n ≤ (l.drop o).length := hb
      rw [List.length_drop] at hb
      obtain ⟨r, g7, hr⟩ := catAll_ok (C := C) g6
      obtain ⟨hlen, rfl, rfl, hv⟩ := inSumR_ok (C := C) g7
      refine ⟨he, fun base m w us hs ha => ?_⟩
      obtain ⟨u, rfl, hu⟩ := args1 ha
      have hu : SlcR m b o n cap u := hu
      obtain ⟨B, δ, N, es', hm, _, _, hob⟩ := hs.at (b := b) (by rw [ho]; simp) (slc_un hu)
      obtain ⟨k, rfl, _, _⟩ := slc_live hu hm
      rw [ho] at hob
      obtain ⟨c, fz, h1, h2, h3, h4, h5, h6, h7⟩ := hob
      have hl := (h7.drop o).take n
      rw [part_of (by omega)] at hl
      obtain ⟨hok, ss, hss, hden⟩ := hr m _ hl
      have hsl : ss.length = n := by
        have := congrArg List.length hss
        simp only [List.length_take, List.length_drop, List.length_map, Array.length_toList] at this
        omega
      have hsize : ∀ j, (ss.getD j ByteArray.empty).size ≤ 1000000000 := fun j => by
        refine Nat.le_trans (cbytes_size j) ?_
        rw [← hden, Rope.den_length hok]; exact hlen
      have hcell : ∀ j, j < n → w.cell? ⟨B, δ + o + j, none⟩ = some (.string (ss.getD j ByteArray.empty)) := fun j hj => by
        have : ((c.toList.drop (δ + o)).take n)[j]? = some (.string (ss.getD j ByteArray.empty)) := by
          rw [hss, List.getElem?_map, List.getElem?_eq_getElem (by omega), List.getD_eq_getElem?_getD, List.getElem?_eq_getElem (by omega)]; rfl
        rw [List.getElem?_take, if_pos hj, List.getElem?_drop] at this
        simp only [World.cell?, h1]
        simpa using this
      have e : (Value.int .u32 (crcOf (r.den C) : Nat)) = .int .u32 (crcOf (cbytes ss)) := by rw [hden]
      refine (hc B (δ + o) n k ss w hsl hn hsize hcell).mono ?_
      rintro e' w' ⟨rfl, rfl⟩
      refine ⟨m, ?_, .refl hs⟩
      rw [← hden]; exact hv hok m
    · cases g4
  · cases g2
  · cases g2
end
end Go.X
end

noncomputable section
namespace Go.X
def kn (a : Nat) (i : Intr) (k : Known) : Known := fun f => Bool.rec (k f) (some i) (Nat.beq f a)
def K0 : Known := kn 213 .sumOf (kn 61 .clone (kn 275 (.keys [394, 370, 454] 3) (kn 110 .repeat0 (kn 244 .lock (kn 245 .unlock (kn 211 (.bldCheck 207) (fun _ => none)))))))
abbrev s0 : Slot := ⟨.a0, .a0, .a0⟩
abbrev s1 : Slot := ⟨.a0, .a0, .a1⟩
abbrev s2 : Slot := ⟨.a0, .a0, .a2⟩
abbrev s3 : Slot := ⟨.a0, .a0, .a3⟩
abbrev s4 : Slot := ⟨.a0, .a0, .a4⟩
abbrev s5 : Slot := ⟨.a0, .a0, .a5⟩
abbrev s6 : Slot := ⟨.a0, .a0, .a6⟩
abbrev s7 : Slot := ⟨.a0, .a0, .a7⟩
abbrev s8 : Slot := ⟨.a0, .a1, .a0⟩
abbrev s9 : Slot := ⟨.a0, .a1, .a1⟩
abbrev s10 : Slot := ⟨.a0, .a1, .a2⟩
abbrev s11 : Slot := ⟨.a0, .a1, .a3⟩
abbrev s12 : Slot := ⟨.a0, .a1, .a4⟩
abbrev s13 : Slot := ⟨.a0, .a1, .a5⟩
abbrev s14 : Slot := ⟨.a0, .a1, .a6⟩
abbrev s15 : Slot := ⟨.a0, .a1, .a7⟩
abbrev s16 : Slot := ⟨.a0, .a2, .a0⟩
abbrev s17 : Slot := ⟨.a0, .a2, .a1⟩
abbrev s18 : Slot := ⟨.a0, .a2, .a2⟩
abbrev s19 : Slot := ⟨.a0, .a2, .a3⟩
abbrev s20 : Slot := ⟨.a0, .a2, .a4⟩
abbrev s21 : Slot := ⟨.a0, .a2, .a5⟩
abbrev s22 : Slot := ⟨.a0, .a2, .a6⟩
abbrev s23 : Slot := ⟨.a0, .a2, .a7⟩
abbrev s24 : Slot := ⟨.a0, .a3, .a0⟩
abbrev s25 : Slot := ⟨.a0, .a3, .a1⟩
abbrev s26 : Slot := ⟨.a0, .a3, .a2⟩
abbrev s27 : Slot := ⟨.a0, .a3, .a3⟩
abbrev s28 : Slot := ⟨.a0, .a3, .a4⟩
abbrev s29 : Slot := ⟨.a0, .a3, .a5⟩
abbrev s30 : Slot := ⟨.a0, .a3, .a6⟩
abbrev s31 : Slot := ⟨.a0, .a3, .a7⟩
abbrev s32 : Slot := ⟨.a0, .a4, .a0⟩
abbrev s33 : Slot := ⟨.a0, .a4, .a1⟩
abbrev s34 : Slot := ⟨.a0, .a4, .a2⟩
abbrev s35 : Slot := ⟨.a0, .a4, .a3⟩
abbrev s36 : Slot := ⟨.a0, .a4, .a4⟩
abbrev s37 : Slot := ⟨.a0, .a4, .a5⟩
abbrev s38 : Slot := ⟨.a0, .a4, .a6⟩
abbrev s39 : Slot := ⟨.a0, .a4, .a7⟩
abbrev s40 : Slot := ⟨.a0, .a5, .a0⟩
abbrev s41 : Slot := ⟨.a0, .a5, .a1⟩
abbrev s42 : Slot := ⟨.a0, .a5, .a2⟩
abbrev s43 : Slot := ⟨.a0, .a5, .a3⟩
abbrev s44 : Slot := ⟨.a0, .a5, .a4⟩
abbrev s45 : Slot := ⟨.a0, .a5, .a5⟩
abbrev s46 : Slot := ⟨.a0, .a5, .a6⟩
abbrev s47 : Slot := ⟨.a0, .a5, .a7⟩
abbrev s48 : Slot := ⟨.a0, .a6, .a0⟩
abbrev s49 : Slot := ⟨.a0, .a6, .a1⟩
abbrev s50 : Slot := ⟨.a0, .a6, .a2⟩
abbrev s51 : Slot := ⟨.a0, .a6, .a3⟩
abbrev s52 : Slot := ⟨.a0, .a6, .a4⟩
abbrev s53 : Slot := ⟨.a0, .a6, .a5⟩
abbrev s54 : Slot := ⟨.a0, .a6, .a6⟩
abbrev s55 : Slot := ⟨.a0, .a6, .a7⟩
abbrev s56 : Slot := ⟨.a0, .a7, .a0⟩
abbrev s57 : Slot := ⟨.a0, .a7, .a1⟩
abbrev s58 : Slot := ⟨.a0, .a7, .a2⟩
abbrev s59 : Slot := ⟨.a0, .a7, .a3⟩
abbrev s60 : Slot := ⟨.a0, .a7, .a4⟩
abbrev s61 : Slot := ⟨.a0, .a7, .a5⟩
abbrev s62 : Slot := ⟨.a0, .a7, .a6⟩
abbrev s63 : Slot := ⟨.a0, .a7, .a7⟩
abbrev s64 : Slot := ⟨.a1, .a0, .a0⟩
abbrev s65 : Slot := ⟨.a1, .a0, .a1⟩
abbrev s66 : Slot := ⟨.a1, .a0, .a2⟩
abbrev s67 : Slot := ⟨.a1, .a0, .a3⟩
abbrev s68 : Slot := ⟨.a1, .a0, .a4⟩
abbrev s69 : Slot := ⟨.a1, .a0, .a5⟩
abbrev s70 : Slot := ⟨.a1, .a0, .a6⟩
abbrev s71 : Slot := ⟨.a1, .a0, .a7⟩
abbrev s72 : Slot := ⟨.a1, .a1, .a0⟩
abbrev s73 : Slot := ⟨.a1, .a1, .a1⟩
abbrev s74 : Slot := ⟨.a1, .a1, .a2⟩
abbrev s75 : Slot := ⟨.a1, .a1, .a3⟩
abbrev s76 : Slot := ⟨.a1, .a1, .a4⟩
abbrev s77 : Slot := ⟨.a1, .a1, .a5⟩
abbrev s78 : Slot := ⟨.a1, .a1, .a6⟩
abbrev s79 : Slot := ⟨.a1, .a1, .a7⟩
abbrev s80 : Slot := ⟨.a1, .a2, .a0⟩
abbrev s81 : Slot := ⟨.a1, .a2, .a1⟩
abbrev s82 : Slot := ⟨.a1, .a2, .a2⟩
abbrev s83 : Slot := ⟨.a1, .a2, .a3⟩
abbrev s84 : Slot := ⟨.a1, .a2, .a4⟩
abbrev s85 : Slot := ⟨.a1, .a2, .a5⟩
abbrev s86 : Slot := ⟨.a1, .a2, .a6⟩
abbrev s87 : Slot := ⟨.a1, .a2, .a7⟩
abbrev s88 : Slot := ⟨.a1, .a3, .a0⟩
abbrev s89 : Slot := ⟨.a1, .a3, .a1⟩
abbrev s90 : Slot := ⟨.a1, .a3, .a2⟩
abbrev s91 : Slot := ⟨.a1, .a3, .a3⟩
abbrev s92 : Slot := ⟨.a1, .a3, .a4⟩
abbrev s93 : Slot := ⟨.a1, .a3, .a5⟩
abbrev s94 : Slot := ⟨.a1, .a3, .a6⟩
abbrev s95 : Slot := ⟨.a1, .a3, .a7⟩
abbrev s96 : Slot := ⟨.a1, .a4, .a0⟩
abbrev s97 : Slot := ⟨.a1, .a4, .a1⟩
abbrev s98 : Slot := ⟨.a1, .a4, .a2⟩
abbrev s99 : Slot := ⟨.a1, .a4, .a3⟩
abbrev s100 : Slot := ⟨.a1, .a4, .a4⟩
abbrev s101 : Slot := ⟨.a1, .a4, .a5⟩
abbrev s102 : Slot := ⟨.a1, .a4, .a6⟩
abbrev s103 : Slot := ⟨.a1, .a4, .a7⟩
abbrev s104 : Slot := ⟨.a1, .a5, .a0⟩
abbrev s105 : Slot := ⟨.a1, .a5, .a1⟩
abbrev s106 : Slot := ⟨.a1, .a5, .a2⟩
abbrev s107 : Slot := ⟨.a1, .a5, .a3⟩
abbrev s108 : Slot := ⟨.a1, .a5, .a4⟩
abbrev s109 : Slot := ⟨.a1, .a5, .a5⟩
abbrev s110 : Slot := ⟨.a1, .a5, .a6⟩
abbrev s111 : Slot := ⟨.a1, .a5, .a7⟩
abbrev s112 : Slot := ⟨.a1, .a6, .a0⟩
abbrev s113 : Slot := ⟨.a1, .a6, .a1⟩
abbrev s114 : Slot := ⟨.a1, .a6, .a2⟩
abbrev s115 : Slot := ⟨.a1, .a6, .a3⟩
abbrev s116 : Slot := ⟨.a1, .a6, .a4⟩
abbrev s117 : Slot := ⟨.a1, .a6, .a5⟩
abbrev s118 : Slot := ⟨.a1, .a6, .a6⟩
abbrev s119 : Slot := ⟨.a1, .a6, .a7⟩
abbrev s120 : Slot := ⟨.a1, .a7, .a0⟩
abbrev s121 : Slot := ⟨.a1, .a7, .a1⟩
abbrev s122 : Slot := ⟨.a1, .a7, .a2⟩
abbrev s123 : Slot := ⟨.a1, .a7, .a3⟩
abbrev s124 : Slot := ⟨.a1, .a7, .a4⟩
abbrev s125 : Slot := ⟨.a1, .a7, .a5⟩
abbrev s126 : Slot := ⟨.a1, .a7, .a6⟩
abbrev s127 : Slot := ⟨.a1, .a7, .a7⟩
abbrev s128 : Slot := ⟨.a2, .a0, .a0⟩
abbrev s129 : Slot := ⟨.a2, .a0, .a1⟩
abbrev s130 : Slot := ⟨.a2, .a0, .a2⟩
abbrev s131 : Slot := ⟨.a2, .a0, .a3⟩
abbrev s132 : Slot := ⟨.a2, .a0, .a4⟩
abbrev s133 : Slot := ⟨.a2, .a0, .a5⟩
abbrev s134 : Slot := ⟨.a2, .a0, .a6⟩
abbrev s135 : Slot := ⟨.a2, .a0, .a7⟩
abbrev s136 : Slot := ⟨.a2, .a1, .a0⟩
abbrev s137 : Slot := ⟨.a2, .a1, .a1⟩
abbrev s138 : Slot := ⟨.a2, .a1, .a2⟩
abbrev s139 : Slot := ⟨.a2, .a1, .a3⟩
abbrev s140 : Slot := ⟨.a2, .a1, .a4⟩
abbrev s141 : Slot := ⟨.a2, .a1, .a5⟩
abbrev s142 : Slot := ⟨.a2, .a1, .a6⟩
abbrev s143 : Slot := ⟨.a2, .a1, .a7⟩
abbrev s144 : Slot := ⟨.a2, .a2, .a0⟩
abbrev s145 : Slot := ⟨.a2, .a2, .a1⟩
abbrev s146 : Slot := ⟨.a2, .a2, .a2⟩
abbrev s147 : Slot := ⟨.a2, .a2, .a3⟩
abbrev s148 : Slot := ⟨.a2, .a2, .a4⟩
abbrev s149 : Slot := ⟨.a2, .a2, .a5⟩
abbrev s150 : Slot := ⟨.a2, .a2, .a6⟩
abbrev s151 : Slot := ⟨.a2, .a2, .a7⟩
abbrev s152 : Slot := ⟨.a2, .a3, .a0⟩
abbrev s153 : Slot := ⟨.a2, .a3, .a1⟩
abbrev s154 : Slot := ⟨.a2, .a3, .a2⟩
abbrev s155 : Slot := ⟨.a2, .a3, .a3⟩
abbrev s156 : Slot := ⟨.a2, .a3, .a4⟩
abbrev s157 : Slot := ⟨.a2, .a3, .a5⟩
abbrev s158 : Slot := ⟨.a2, .a3, .a6⟩
abbrev s159 : Slot := ⟨.a2, .a3, .a7⟩
abbrev s160 : Slot := ⟨.a2, .a4, .a0⟩
abbrev s161 : Slot := ⟨.a2, .a4, .a1⟩
abbrev s162 : Slot := ⟨.a2, .a4, .a2⟩
abbrev s163 : Slot := ⟨.a2, .a4, .a3⟩
abbrev s164 : Slot := ⟨.a2, .a4, .a4⟩
abbrev s165 : Slot := ⟨.a2, .a4, .a5⟩
abbrev s166 : Slot := ⟨.a2, .a4, .a6⟩
abbrev s167 : Slot := ⟨.a2, .a4, .a7⟩
abbrev s168 : Slot := ⟨.a2, .a5, .a0⟩
abbrev s169 : Slot := ⟨.a2, .a5, .a1⟩
abbrev s170 : Slot := ⟨.a2, .a5, .a2⟩
abbrev s171 : Slot := ⟨.a2, .a5, .a3⟩
abbrev s172 : Slot := ⟨.a2, .a5, .a4⟩
abbrev s173 : Slot := ⟨.a2, .a5, .a5⟩
abbrev s174 : Slot := ⟨.a2, .a5, .a6⟩
abbrev s175 : Slot := ⟨.a2, .a5, .a7⟩
abbrev s176 : Slot := ⟨.a2, .a6, .a0⟩
abbrev s177 : Slot := ⟨.a2, .a6, .a1⟩
abbrev s178 : Slot := ⟨.a2, .a6, .a2⟩
abbrev s179 : Slot := ⟨.a2, .a6, .a3⟩
abbrev s180 : Slot := ⟨.a2, .a6, .a4⟩
abbrev s181 : Slot := ⟨.a2, .a6, .a5⟩
abbrev s182 : Slot := ⟨.a2, .a6, .a6⟩
abbrev s183 : Slot := ⟨.a2, .a6, .a7⟩
abbrev s184 : Slot := ⟨.a2, .a7, .a0⟩
abbrev s185 : Slot := ⟨.a2, .a7, .a1⟩
abbrev s186 : Slot := ⟨.a2, .a7, .a2⟩
abbrev s187 : Slot := ⟨.a2, .a7, .a3⟩
abbrev s188 : Slot := ⟨.a2, .a7, .a4⟩
abbrev s189 : Slot := ⟨.a2, .a7, .a5⟩
abbrev s190 : Slot := ⟨.a2, .a7, .a6⟩
abbrev s191 : Slot := ⟨.a2, .a7, .a7⟩
abbrev s192 : Slot := ⟨.a3, .a0, .a0⟩
abbrev s193 : Slot := ⟨.a3, .a0, .a1⟩
abbrev s194 : Slot := ⟨.a3, .a0, .a2⟩
abbrev s195 : Slot := ⟨.a3, .a0, .a3⟩
abbrev s196 : Slot := ⟨.a3, .a0, .a4⟩
abbrev s197 : Slot := ⟨.a3, .a0, .a5⟩
abbrev s198 : Slot := ⟨.a3, .a0, .a6⟩
abbrev s199 : Slot := ⟨.a3, .a0, .a7⟩
abbrev s200 : Slot := ⟨.a3, .a1, .a0⟩
abbrev s201 : Slot := ⟨.a3, .a1, .a1⟩
abbrev s202 : Slot := ⟨.a3, .a1, .a2⟩
abbrev s203 : Slot := ⟨.a3, .a1, .a3⟩
abbrev s204 : Slot := ⟨.a3, .a1, .a4⟩
abbrev s205 : Slot := ⟨.a3, .a1, .a5⟩
abbrev s206 : Slot := ⟨.a3, .a1, .a6⟩
abbrev s207 : Slot := ⟨.a3, .a1, .a7⟩
abbrev s208 : Slot := ⟨.a3, .a2, .a0⟩
abbrev s209 : Slot := ⟨.a3, .a2, .a1⟩
abbrev s210 : Slot := ⟨.a3, .a2, .a2⟩
abbrev s211 : Slot := ⟨.a3, .a2, .a3⟩
abbrev s212 : Slot := ⟨.a3, .a2, .a4⟩
abbrev s213 : Slot := ⟨.a3, .a2, .a5⟩
abbrev s214 : Slot := ⟨.a3, .a2, .a6⟩
abbrev s215 : Slot := ⟨.a3, .a2, .a7⟩
abbrev s216 : Slot := ⟨.a3, .a3, .a0⟩
abbrev s217 : Slot := ⟨.a3, .a3, .a1⟩
abbrev s218 : Slot := ⟨.a3, .a3, .a2⟩
abbrev s219 : Slot := ⟨.a3, .a3, .a3⟩
abbrev s220 : Slot := ⟨.a3, .a3, .a4⟩
abbrev s221 : Slot := ⟨.a3, .a3, .a5⟩
abbrev s222 : Slot := ⟨.a3, .a3, .a6⟩
abbrev s223 : Slot := ⟨.a3, .a3, .a7⟩
abbrev s224 : Slot := ⟨.a3, .a4, .a0⟩
abbrev s225 : Slot := ⟨.a3, .a4, .a1⟩
abbrev s226 : Slot := ⟨.a3, .a4, .a2⟩
abbrev s227 : Slot := ⟨.a3, .a4, .a3⟩
abbrev s228 : Slot := ⟨.a3, .a4, .a4⟩
abbrev s229 : Slot := ⟨.a3, .a4, .a5⟩
abbrev s230 : Slot := ⟨.a3, .a4, .a6⟩
abbrev s231 : Slot := ⟨.a3, .a4, .a7⟩
abbrev s232 : Slot := ⟨.a3, .a5, .a0⟩
abbrev s233 : Slot := ⟨.a3, .a5, .a1⟩
abbrev s234 : Slot := ⟨.a3, .a5, .a2⟩
abbrev s235 : Slot := ⟨.a3, .a5, .a3⟩
abbrev s236 : Slot := ⟨.a3, .a5, .a4⟩
abbrev s237 : Slot := ⟨.a3, .a5, .a5⟩
abbrev s238 : Slot := ⟨.a3, .a5, .a6⟩
abbrev s239 : Slot := ⟨.a3, .a5, .a7⟩
abbrev s240 : Slot := ⟨.a3, .a6, .a0⟩
abbrev s241 : Slot := ⟨.a3, .a6, .a1⟩
abbrev s242 : Slot := ⟨.a3, .a6, .a2⟩
abbrev s243 : Slot := ⟨.a3, .a6, .a3⟩
abbrev s244 : Slot := ⟨.a3, .a6, .a4⟩
abbrev s245 : Slot := ⟨.a3, .a6, .a5⟩
abbrev s246 : Slot := ⟨.a3, .a6, .a6⟩
abbrev s247 : Slot := ⟨.a3, .a6, .a7⟩
abbrev s248 : Slot := ⟨.a3, .a7, .a0⟩
abbrev s249 : Slot := ⟨.a3, .a7, .a1⟩
abbrev s250 : Slot := ⟨.a3, .a7, .a2⟩
abbrev s251 : Slot := ⟨.a3, .a7, .a3⟩
abbrev s252 : Slot := ⟨.a3, .a7, .a4⟩
abbrev s253 : Slot := ⟨.a3, .a7, .a5⟩
abbrev s254 : Slot := ⟨.a3, .a7, .a6⟩
abbrev s255 : Slot := ⟨.a3, .a7, .a7⟩
abbrev s256 : Slot := ⟨.a4, .a0, .a0⟩
abbrev s257 : Slot := ⟨.a4, .a0, .a1⟩
abbrev s258 : Slot := ⟨.a4, .a0, .a2⟩
abbrev s259 : Slot := ⟨.a4, .a0, .a3⟩
abbrev s260 : Slot := ⟨.a4, .a0, .a4⟩
abbrev s261 : Slot := ⟨.a4, .a0, .a5⟩
abbrev s262 : Slot := ⟨.a4, .a0, .a6⟩
abbrev s263 : Slot := ⟨.a4, .a0, .a7⟩
abbrev s264 : Slot := ⟨.a4, .a1, .a0⟩
abbrev s265 : Slot := ⟨.a4, .a1, .a1⟩
abbrev s266 : Slot := ⟨.a4, .a1, .a2⟩
abbrev s267 : Slot := ⟨.a4, .a1, .a3⟩
abbrev s268 : Slot := ⟨.a4, .a1, .a4⟩
abbrev s269 : Slot := ⟨.a4, .a1, .a5⟩
abbrev s270 : Slot := ⟨.a4, .a1, .a6⟩
abbrev s271 : Slot := ⟨.a4, .a1, .a7⟩
abbrev s272 : Slot := ⟨.a4, .a2, .a0⟩
abbrev s273 : Slot := ⟨.a4, .a2, .a1⟩
abbrev s274 : Slot := ⟨.a4, .a2, .a2⟩
abbrev s275 : Slot := ⟨.a4, .a2, .a3⟩
abbrev s276 : Slot := ⟨.a4, .a2, .a4⟩
abbrev s277 : Slot := ⟨.a4, .a2, .a5⟩
abbrev s278 : Slot := ⟨.a4, .a2, .a6⟩
abbrev s279 : Slot := ⟨.a4, .a2, .a7⟩
abbrev s280 : Slot := ⟨.a4, .a3, .a0⟩
abbrev s281 : Slot := ⟨.a4, .a3, .a1⟩
abbrev s282 : Slot := ⟨.a4, .a3, .a2⟩
abbrev s283 : Slot := ⟨.a4, .a3, .a3⟩
abbrev s284 : Slot := ⟨.a4, .a3, .a4⟩
abbrev s285 : Slot := ⟨.a4, .a3, .a5⟩
abbrev s286 : Slot := ⟨.a4, .a3, .a6⟩
abbrev s287 : Slot := ⟨.a4, .a3, .a7⟩
abbrev s288 : Slot := ⟨.a4, .a4, .a0⟩
abbrev s289 : Slot := ⟨.a4, .a4, .a1⟩
abbrev s290 : Slot := ⟨.a4, .a4, .a2⟩
abbrev s291 : Slot := ⟨.a4, .a4, .a3⟩
abbrev s292 : Slot := ⟨.a4, .a4, .a4⟩
abbrev s293 : Slot := ⟨.a4, .a4, .a5⟩
abbrev s294 : Slot := ⟨.a4, .a4, .a6⟩
abbrev s295 : Slot := ⟨.a4, .a4, .a7⟩
abbrev s296 : Slot := ⟨.a4, .a5, .a0⟩
abbrev s297 : Slot := ⟨.a4, .a5, .a1⟩
abbrev s298 : Slot := ⟨.a4, .a5, .a2⟩
abbrev s299 : Slot := ⟨.a4, .a5, .a3⟩
abbrev s300 : Slot := ⟨.a4, .a5, .a4⟩
abbrev s301 : Slot := ⟨.a4, .a5, .a5⟩
abbrev s302 : Slot := ⟨.a4, .a5, .a6⟩
abbrev s303 : Slot := ⟨.a4, .a5, .a7⟩
abbrev s304 : Slot := ⟨.a4, .a6, .a0⟩
abbrev s305 : Slot := ⟨.a4, .a6, .a1⟩
abbrev s306 : Slot := ⟨.a4, .a6, .a2⟩
abbrev s307 : Slot := ⟨.a4, .a6, .a3⟩
abbrev s308 : Slot := ⟨.a4, .a6, .a4⟩
abbrev s309 : Slot := ⟨.a4, .a6, .a5⟩
abbrev s310 : Slot := ⟨.a4, .a6, .a6⟩
abbrev s311 : Slot := ⟨.a4, .a6, .a7⟩
abbrev s312 : Slot := ⟨.a4, .a7, .a0⟩
abbrev s313 : Slot := ⟨.a4, .a7, .a1⟩
abbrev s314 : Slot := ⟨.a4, .a7, .a2⟩
abbrev s315 : Slot := ⟨.a4, .a7, .a3⟩
abbrev s316 : Slot := ⟨.a4, .a7, .a4⟩
abbrev s317 : Slot := ⟨.a4, .a7, .a5⟩
abbrev s318 : Slot := ⟨.a4, .a7, .a6⟩
abbrev s319 : Slot := ⟨.a4, .a7, .a7⟩
abbrev s320 : Slot := ⟨.a5, .a0, .a0⟩
abbrev s321 : Slot := ⟨.a5, .a0, .a1⟩
abbrev s322 : Slot := ⟨.a5, .a0, .a2⟩
abbrev s323 : Slot := ⟨.a5, .a0, .a3⟩
abbrev s324 : Slot := ⟨.a5, .a0, .a4⟩
abbrev s325 : Slot := ⟨.a5, .a0, .a5⟩
abbrev s326 : Slot := ⟨.a5, .a0, .a6⟩
abbrev s327 : Slot := ⟨.a5, .a0, .a7⟩
abbrev s328 : Slot := ⟨.a5, .a1, .a0⟩
abbrev s329 : Slot := ⟨.a5, .a1, .a1⟩
abbrev s330 : Slot := ⟨.a5, .a1, .a2⟩
abbrev s331 : Slot := ⟨.a5, .a1, .a3⟩
abbrev s332 : Slot := ⟨.a5, .a1, .a4⟩
abbrev s333 : Slot := ⟨.a5, .a1, .a5⟩
abbrev s334 : Slot := ⟨.a5, .a1, .a6⟩
abbrev s335 : Slot := ⟨.a5, .a1, .a7⟩
abbrev s336 : Slot := ⟨.a5, .a2, .a0⟩
abbrev s337 : Slot := ⟨.a5, .a2, .a1⟩
abbrev s338 : Slot := ⟨.a5, .a2, .a2⟩
abbrev s339 : Slot := ⟨.a5, .a2, .a3⟩
abbrev s340 : Slot := ⟨.a5, .a2, .a4⟩
abbrev s341 : Slot := ⟨.a5, .a2, .a5⟩
abbrev s342 : Slot := ⟨.a5, .a2, .a6⟩
abbrev s343 : Slot := ⟨.a5, .a2, .a7⟩
abbrev s344 : Slot := ⟨.a5, .a3, .a0⟩
abbrev s345 : Slot := ⟨.a5, .a3, .a1⟩
abbrev s346 : Slot := ⟨.a5, .a3, .a2⟩
abbrev s347 : Slot := ⟨.a5, .a3, .a3⟩
abbrev s348 : Slot := ⟨.a5, .a3, .a4⟩
abbrev s349 : Slot := ⟨.a5, .a3, .a5⟩
abbrev s350 : Slot := ⟨.a5, .a3, .a6⟩
abbrev s351 : Slot := ⟨.a5, .a3, .a7⟩
abbrev s352 : Slot := ⟨.a5, .a4, .a0⟩
abbrev s353 : Slot := ⟨.a5, .a4, .a1⟩
abbrev s354 : Slot := ⟨.a5, .a4, .a2⟩
abbrev s355 : Slot := ⟨.a5, .a4, .a3⟩
abbrev s356 : Slot := ⟨.a5, .a4, .a4⟩
abbrev s357 : Slot := ⟨.a5, .a4, .a5⟩
abbrev s358 : Slot := ⟨.a5, .a4, .a6⟩
abbrev s359 : Slot := ⟨.a5, .a4, .a7⟩
abbrev s360 : Slot := ⟨.a5, .a5, .a0⟩
abbrev s361 : Slot := ⟨.a5, .a5, .a1⟩
abbrev s362 : Slot := ⟨.a5, .a5, .a2⟩
abbrev s363 : Slot := ⟨.a5, .a5, .a3⟩
abbrev s364 : Slot := ⟨.a5, .a5, .a4⟩
abbrev s365 : Slot := ⟨.a5, .a5, .a5⟩
abbrev s366 : Slot := ⟨.a5, .a5, .a6⟩
abbrev s367 : Slot := ⟨.a5, .a5, .a7⟩
abbrev s368 : Slot := ⟨.a5, .a6, .a0⟩
abbrev s369 : Slot := ⟨.a5, .a6, .a1⟩
abbrev s370 : Slot := ⟨.a5, .a6, .a2⟩
abbrev s371 : Slot := ⟨.a5, .a6, .a3⟩
abbrev s372 : Slot := ⟨.a5, .a6, .a4⟩
abbrev s373 : Slot := ⟨.a5, .a6, .a5⟩
abbrev s374 : Slot := ⟨.a5, .a6, .a6⟩
abbrev s375 : Slot := ⟨.a5, .a6, .a7⟩
abbrev s376 : Slot := ⟨.a5, .a7, .a0⟩
abbrev s377 : Slot := ⟨.a5, .a7, .a1⟩
abbrev s378 : Slot := ⟨.a5, .a7, .a2⟩
abbrev s379 : Slot := ⟨.a5, .a7, .a3⟩
abbrev s380 : Slot := ⟨.a5, .a7, .a4⟩
abbrev s381 : Slot := ⟨.a5, .a7, .a5⟩
abbrev s382 : Slot := ⟨.a5, .a7, .a6⟩
abbrev s383 : Slot := ⟨.a5, .a7, .a7⟩
abbrev s384 : Slot := ⟨.a6, .a0, .a0⟩
abbrev s385 : Slot := ⟨.a6, .a0, .a1⟩
abbrev s386 : Slot := ⟨.a6, .a0, .a2⟩
abbrev s387 : Slot := ⟨.a6, .a0, .a3⟩
abbrev s388 : Slot := ⟨.a6, .a0, .a4⟩
abbrev s389 : Slot := ⟨.a6, .a0, .a5⟩
abbrev s390 : Slot := ⟨.a6, .a0, .a6⟩
abbrev s391 : Slot := ⟨.a6, .a0, .a7⟩
abbrev s392 : Slot := ⟨.a6, .a1, .a0⟩
abbrev s393 : Slot := ⟨.a6, .a1, .a1⟩
abbrev s394 : Slot := ⟨.a6, .a1, .a2⟩
abbrev s395 : Slot := ⟨.a6, .a1, .a3⟩
abbrev s396 : Slot := ⟨.a6, .a1, .a4⟩
abbrev s397 : Slot := ⟨.a6, .a1, .a5⟩
abbrev s398 : Slot := ⟨.a6, .a1, .a6⟩
abbrev s399 : Slot := ⟨.a6, .a1, .a7⟩
abbrev s400 : Slot := ⟨.a6, .a2, .a0⟩
abbrev s401 : Slot := ⟨.a6, .a2, .a1⟩
abbrev s402 : Slot := ⟨.a6, .a2, .a2⟩
abbrev s403 : Slot := ⟨.a6, .a2, .a3⟩
abbrev s404 : Slot := ⟨.a6, .a2, .a4⟩
abbrev s405 : Slot := ⟨.a6, .a2, .a5⟩
abbrev s406 : Slot := ⟨.a6, .a2, .a6⟩
abbrev s407 : Slot := ⟨.a6, .a2, .a7⟩
abbrev s408 : Slot := ⟨.a6, .a3, .a0⟩
abbrev s409 : Slot := ⟨.a6, .a3, .a1⟩
abbrev s410 : Slot := ⟨.a6, .a3, .a2⟩
abbrev s411 : Slot := ⟨.a6, .a3, .a3⟩
abbrev s412 : Slot := ⟨.a6, .a3, .a4⟩
abbrev s413 : Slot := ⟨.a6, .a3, .a5⟩
abbrev s414 : Slot := ⟨.a6, .a3, .a6⟩
abbrev s415 : Slot := ⟨.a6, .a3, .a7⟩
abbrev s416 : Slot := ⟨.a6, .a4, .a0⟩
abbrev s417 : Slot := ⟨.a6, .a4, .a1⟩
abbrev s418 : Slot := ⟨.a6, .a4, .a2⟩
abbrev s419 : Slot := ⟨.a6, .a4, .a3⟩
abbrev s420 : Slot := ⟨.a6, .a4, .a4⟩
abbrev s421 : Slot := ⟨.a6, .a4, .a5⟩
abbrev s422 : Slot := ⟨.a6, .a4, .a6⟩
abbrev s423 : Slot := ⟨.a6, .a4, .a7⟩
abbrev s424 : Slot := ⟨.a6, .a5, .a0⟩
abbrev s425 : Slot := ⟨.a6, .a5, .a1⟩
abbrev s426 : Slot := ⟨.a6, .a5, .a2⟩
abbrev s427 : Slot := ⟨.a6, .a5, .a3⟩
abbrev s428 : Slot := ⟨.a6, .a5, .a4⟩
abbrev s429 : Slot := ⟨.a6, .a5, .a5⟩
abbrev s430 : Slot := ⟨.a6, .a5, .a6⟩
abbrev s431 : Slot := ⟨.a6, .a5, .a7⟩
abbrev s432 : Slot := ⟨.a6, .a6, .a0⟩
abbrev s433 : Slot := ⟨.a6, .a6, .a1⟩
abbrev s434 : Slot := ⟨.a6, .a6, .a2⟩
abbrev s435 : Slot := ⟨.a6, .a6, .a3⟩
abbrev s436 : Slot := ⟨.a6, .a6, .a4⟩
abbrev s437 : Slot := ⟨.a6, .a6, .a5⟩
abbrev s438 : Slot := ⟨.a6, .a6, .a6⟩
abbrev s439 : Slot := ⟨.a6, .a6, .a7⟩
abbrev s440 : Slot := ⟨.a6, .a7, .a0⟩
abbrev s441 : Slot := ⟨.a6, .a7, .a1⟩
abbrev s442 : Slot := ⟨.a6, .a7, .a2⟩
abbrev s443 : Slot := ⟨.a6, .a7, .a3⟩
abbrev s444 : Slot := ⟨.a6, .a7, .a4⟩
abbrev s445 : Slot := ⟨.a6, .a7, .a5⟩
abbrev s446 : Slot := ⟨.a6, .a7, .a6⟩
abbrev s447 : Slot := ⟨.a6, .a7, .a7⟩
abbrev s448 : Slot := ⟨.a7, .a0, .a0⟩
abbrev s449 : Slot := ⟨.a7, .a0, .a1⟩
abbrev s450 : Slot := ⟨.a7, .a0, .a2⟩
abbrev s451 : Slot := ⟨.a7, .a0, .a3⟩
abbrev s452 : Slot := ⟨.a7, .a0, .a4⟩
abbrev s453 : Slot := ⟨.a7, .a0, .a5⟩
abbrev s454 : Slot := ⟨.a7, .a0, .a6⟩
abbrev s455 : Slot := ⟨.a7, .a0, .a7⟩
abbrev s456 : Slot := ⟨.a7, .a1, .a0⟩
abbrev s457 : Slot := ⟨.a7, .a1, .a1⟩
abbrev s458 : Slot := ⟨.a7, .a1, .a2⟩
abbrev s459 : Slot := ⟨.a7, .a1, .a3⟩
abbrev s460 : Slot := ⟨.a7, .a1, .a4⟩
abbrev s461 : Slot := ⟨.a7, .a1, .a5⟩
abbrev s462 : Slot := ⟨.a7, .a1, .a6⟩
abbrev s463 : Slot := ⟨.a7, .a1, .a7⟩
abbrev s464 : Slot := ⟨.a7, .a2, .a0⟩
abbrev s465 : Slot := ⟨.a7, .a2, .a1⟩
abbrev s466 : Slot := ⟨.a7, .a2, .a2⟩
abbrev s467 : Slot := ⟨.a7, .a2, .a3⟩
abbrev s468 : Slot := ⟨.a7, .a2, .a4⟩
abbrev s469 : Slot := ⟨.a7, .a2, .a5⟩
abbrev s470 : Slot := ⟨.a7, .a2, .a6⟩
abbrev s471 : Slot := ⟨.a7, .a2, .a7⟩
abbrev s472 : Slot := ⟨.a7, .a3, .a0⟩
abbrev s473 : Slot := ⟨.a7, .a3, .a1⟩
abbrev s474 : Slot := ⟨.a7, .a3, .a2⟩
abbrev s475 : Slot := ⟨.a7, .a3, .a3⟩
abbrev s476 : Slot := ⟨.a7, .a3, .a4⟩
abbrev s477 : Slot := ⟨.a7, .a3, .a5⟩
abbrev s478 : Slot := ⟨.a7, .a3, .a6⟩
abbrev s479 : Slot := ⟨.a7, .a3, .a7⟩
abbrev s480 : Slot := ⟨.a7, .a4, .a0⟩
abbrev s481 : Slot := ⟨.a7, .a4, .a1⟩
abbrev s482 : Slot := ⟨.a7, .a4, .a2⟩
abbrev s483 : Slot := ⟨.a7, .a4, .a3⟩
abbrev s484 : Slot := ⟨.a7, .a4, .a4⟩
abbrev s485 : Slot := ⟨.a7, .a4, .a5⟩
abbrev s486 : Slot := ⟨.a7, .a4, .a6⟩
abbrev s487 : Slot := ⟨.a7, .a4, .a7⟩
abbrev s488 : Slot := ⟨.a7, .a5, .a0⟩
abbrev s489 : Slot := ⟨.a7, .a5, .a1⟩
abbrev s490 : Slot := ⟨.a7, .a5, .a2⟩
abbrev s491 : Slot := ⟨.a7, .a5, .a3⟩
abbrev s492 : Slot := ⟨.a7, .a5, .a4⟩
abbrev s493 : Slot := ⟨.a7, .a5, .a5⟩
abbrev s494 : Slot := ⟨.a7, .a5, .a6⟩
abbrev s495 : Slot := ⟨.a7, .a5, .a7⟩
abbrev s496 : Slot := ⟨.a7, .a6, .a0⟩
abbrev s497 : Slot := ⟨.a7, .a6, .a1⟩
abbrev s498 : Slot := ⟨.a7, .a6, .a2⟩
abbrev s499 : Slot := ⟨.a7, .a6, .a3⟩
abbrev s500 : Slot := ⟨.a7, .a6, .a4⟩
abbrev s501 : Slot := ⟨.a7, .a6, .a5⟩
abbrev s502 : Slot := ⟨.a7, .a6, .a6⟩
abbrev s503 : Slot := ⟨.a7, .a6, .a7⟩
abbrev s504 : Slot := ⟨.a7, .a7, .a0⟩
abbrev s505 : Slot := ⟨.a7, .a7, .a1⟩
abbrev s506 : Slot := ⟨.a7, .a7, .a2⟩
abbrev s507 : Slot := ⟨.a7, .a7, .a3⟩
abbrev s508 : Slot := ⟨.a7, .a7, .a4⟩
abbrev s509 : Slot := ⟨.a7, .a7, .a5⟩
abbrev s510 : Slot := ⟨.a7, .a7, .a6⟩
abbrev s511 : Slot := ⟨.a7, .a7, .a7⟩
end Go.X
end

