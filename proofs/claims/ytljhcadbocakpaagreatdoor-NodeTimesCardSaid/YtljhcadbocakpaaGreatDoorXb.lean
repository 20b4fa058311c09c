/-
  Each operation of the executor does what the operation of the model does. Part of the proof of the claim: for every input the law returns true.
-/
import Derived.Test.YtljhcadbocakpaaGreatDoorXa
import Derived.Laws.Strings3
import Derived.Laws.AppendOwn
import Derived.Laws.StructEq
import Derived.Laws.Concat
import Derived.Great.BuildSlice
import Derived.ChangeKeysEq
import Derived.Laws.BytesString
import Derived.Lib.UnsafeStr
import Derived.Conc.LoneSelect
/-! The quiet operations: what they give. -/
noncomputable section
namespace Go.X

section
variable {P : Program} {C : Ctx} {hp hp' : Hp} {nx nx' : Pid} {v : AV}

theorem okS_ok {x : SV} (h : okS x hp nx = .ok v hp' nx') : v = .s x ∧ hp' = hp ∧ nx' = nx := by
  unfold okS at h; injection h with a b c; exact ⟨a.symm, b.symm, c.symm⟩
theorem ok_ok {x : AV} (h : (Ar.ok x hp nx : Ar) = .ok v hp' nx') : v = x ∧ hp' = hp ∧ nx' = nx := by
  injection h with a b c; exact ⟨a.symm, b.symm, c.symm⟩

/-- a quiet part gives v, whatever the world. -/
abbrev Gives (P : Program) (C : Ctx) (m : Mp) (s : Sem Value) (v : AV) : Prop := ∀ w, ∃ u, s.run P w = .ok u w ∧ AVR C m v u

theorem opMov_ok {x : AV} (h : opMov x hp nx = .ok v hp' nx') : v = x ∧ hp' = hp ∧ nx' = nx := by
  cases x <;> exact ok_ok h

theorem ptr_some {m : Mp} {b : Pid} {o : Nat} {u : Value} (h : PtrR m b o u) : ∃ a : Addr, u = .pointer (some a) := by
  unfold PtrR at h; split at h
  · exact ⟨_, h⟩
  · exact h
  · exact h.elim
theorem PtrR.add {m : Mp} {b : Pid} {o : Nat} {a : Addr} (h : PtrR m b o (.pointer (some a))) (k : Nat) : PtrR m b (o + k) (.pointer (some (a.add k))) := by
  unfold PtrR at *; split at h
  · injection h with h; injection h with h; subst h; simp [Addr.add, Nat.add_assoc]
  · exact ⟨_, rfl⟩
  · exact h.elim
theorem slc_some {m : Mp} {b : Pid} {o n : Nat} {c : Cap} {u : Value} (h : SlcR m b o n c u) : ∃ (a : Addr) (k : Nat), u = .slice (some a) n k := by
  unfold SlcR at h; split at h
  · obtain ⟨c, h, _⟩ := h; exact ⟨_, c, h⟩
  · obtain ⟨a, c, h, _⟩ := h; exact ⟨a, c, h⟩
  · exact h.elim
theorem SlcR.ptr {m : Mp} {b : Pid} {o n k : Nat} {c : Cap} {a : Addr} (h : SlcR m b o n c (.slice (some a) n k)) (j : Nat) : PtrR m b (o + j) (.pointer (some (a.add j))) := by
  unfold SlcR at h; unfold PtrR; split at h
  · obtain ⟨c, h, _⟩ := h; injection h with h; injection h with h; subst h; simp [Addr.add, Nat.add_assoc]
  · exact ⟨_, rfl⟩
  · exact h.elim
theorem slz_some {m : Mp} {b : Pid} {o : Nat} {u : Value} (h : SlzR m b o u) : ∃ (a : Addr) (k : Nat), u = .slice (some a) 0 k := by
  unfold SlzR at h; split at h
  · obtain ⟨a, c, h, _⟩ := h; exact ⟨a, c, h⟩
  · exact h
  · exact h.elim

theorem opNilck_ok {x : AV} (h : opNilck x hp nx = .ok v hp' nx') : v = x ∧ hp' = hp ∧ nx' = nx ∧ ∀ m u, AVR C m x u → ∃ a : Addr, u = .pointer (some a) := by
  obtain ⟨b, o, rfl, h⟩ := asPtr_ok h
  obtain ⟨rfl, rfl, rfl⟩ := okS_ok h
  exact ⟨rfl, rfl, rfl, fun m u hu => ptr_some hu⟩

theorem opFad_ok {x : AV} {off : Nat} (h : opFad off x hp nx = .ok v hp' nx') : hp' = hp ∧ nx' = nx ∧ ∀ m u, AVR C m x u → ∀ (t i : Nat) (fs : Array Field) (f : Field) k,
    P.underlying t = some (.struct fs) → fs[i]? = some f → f.offset = off → szOf P f.type = some k → k ≠ 0 → Gives P C m (Instr.fieldAt t u i) v := by
  obtain ⟨b, o, rfl, g⟩ := asPtr_ok h
  rw [forceN_eq] at g
  obtain ⟨rfl, rfl, rfl⟩ := okS_ok g
  refine ⟨rfl, rfl, fun m u hu t i fs f k ht hf ho hs hk w => ?_⟩
  obtain ⟨a, rfl⟩ := ptr_some hu
  refine ⟨.pointer (some (a.add off)), ?_, PtrR.add hu off⟩
  simp [Instr.fieldAt, run_underlying ht, hf, Instr.sureAddr, fieldPlace, run_sizeOf hs, hk, ho]

theorem part_one {t : Nat} {c : Array Value} {o : Nat} {w : World} {x : Value} {d : TypeDesc} (ht : P.underlying t = some d) (ha : aggD d = false) (hx : c[o]? = some x) : (part t c o).run P w = .ok x w := by
  cases d <;> first | (simp [part, isAgg, run_underlying ht, hx]; done) | cases ha
theorem part_agg {t : Nat} {c : Array Value} {o n : Nat} {w : World} {d : TypeDesc} (ht : P.underlying t = some d) (ha : aggD d = true) (hs : szOf P t = some n) : (part t c o).run P w = .ok (.agg (c.extract o (o + n))) w := by
  cases d <;> first | (simp [part, isAgg, run_underlying ht, run_sizeOf hs]; done) | cases ha

theorem opFld_ok {x : AV} {off n : Nat} {agg : Bool} (h : opFld off n agg x hp nx = .ok v hp' nx') : hp' = hp ∧ nx' = nx ∧ ∀ m u, AVR C m x u → ∀ (t i : Nat) (fs : Array Field) (f : Field) (d : TypeDesc),
    P.underlying t = some (.struct fs) → fs[i]? = some f → f.offset = off → szOf P f.type = some n → P.underlying f.type = some d → aggD d = agg → Gives P C m (Instr.field t u i) v := by
  obtain ⟨l, rfl, h⟩ := asA_ok h
  cases agg with
  | true =>
    obtain ⟨h1, h⟩ := dropK_ok (l := l) h
    obtain ⟨h2, h⟩ := takeK_ok h
    obtain ⟨rfl, rfl, rfl⟩ := ok_ok h
    refine ⟨rfl, rfl, fun m u hu t i fs f d ht hf ho hs hd ha w => ?_⟩
    obtain ⟨vs, rfl, hl⟩ := hu
    subst ho
    refine ⟨.agg ((vs.drop f.offset).take n).toArray, ?_, ((vs.drop f.offset).take n), rfl, (hl.drop f.offset).take n⟩
    simp [Instr.field, run_underlying ht, hf, part_agg hd ha hs, asAgg]
  | false =>
    obtain ⟨y, hy, h⟩ := nthK_ok (l := l) h
    obtain ⟨rfl, rfl, rfl⟩ := okS_ok h
    refine ⟨rfl, rfl, fun m u hu t i fs f d ht hf ho hs hd ha w => ?_⟩
    obtain ⟨vs, rfl, hl⟩ := hu
    subst ho
    obtain ⟨z, hz, hr, _⟩ := hl.get hy
    refine ⟨z, ?_, hr⟩
    simp [Instr.field, run_underlying ht, hf, asAgg]
    exact part_one hd ha (by simpa using hz)

theorem ixp_ok {es : Nat} {b : Pid} {o len i : Nat} (h : ixp es b o len i hp nx = .ok v hp' nx') : i < len ∧ v = .s (.ptr b (o + i * es)) ∧ hp' = hp ∧ nx' = nx := by
  obtain ⟨h1, h⟩ := ifB_ok h
  rw [forceN_eq] at h
  obtain ⟨rfl, rfl, rfl⟩ := okS_ok h
  exact ⟨ble_le h1, rfl, rfl, rfl⟩
theorem AVR.int {C : Ctx} {m : Mp} {k : IntKind} {n : Int} {u : Value} (h : AVR C m (.s (.int k n)) u) : u = .int k n := h

theorem opIxs_ok {x i : AV} {es : Nat} (h : opIxs es x i hp nx = .ok v hp' nx') : hp' = hp ∧ nx' = nx ∧ ∀ m u j, AVR C m x u → AVR C m i j → ∀ (t e : Nat),
    P.underlying t = some (.slice e) → szOf P e = some es → Gives P C m (Instr.indexAt t u j) v := by
  obtain ⟨x, rfl, g⟩ := asS_ok h
  rcases svSlc_ok g with ⟨b, o, l, c, rfl, g⟩ | ⟨b, o, rfl, g⟩ | ⟨rfl, g⟩
  · obtain ⟨q, k, rfl, g⟩ := asNat_ok g
    obtain ⟨hk, rfl, rfl, rfl⟩ := ixp_ok g
    refine ⟨rfl, rfl, fun m u j hu hj t e ht hs w => ?_⟩
    obtain ⟨a, c', rfl⟩ := slc_some hu
    have hj := AVR.int hj; subst hj
    refine ⟨_, ?_, SlcR.ptr hu (k * es)⟩
    simp [Instr.indexAt, asIntOf, run_underlying ht, run_sizeOf hs, hk]
  · cases g
  · cases g

theorem opIxa_ok {x i : AV} {n es : Nat} (h : opIxa n es x i hp nx = .ok v hp' nx') : hp' = hp ∧ nx' = nx ∧ ∀ m u j, AVR C m x u → AVR C m i j → ∀ (t e : Nat),
    P.underlying t = some (.array n e) → szOf P e = some es → Gives P C m (Instr.indexAt t u j) v := by
  obtain ⟨b, o, rfl, g⟩ := asPtr_ok h
  obtain ⟨q, k, rfl, g⟩ := asNat_ok g
  obtain ⟨hk, rfl, rfl, rfl⟩ := ixp_ok g
  refine ⟨rfl, rfl, fun m u j hu hj t e ht hs w => ?_⟩
  obtain ⟨a, rfl⟩ := ptr_some hu
  have hj := AVR.int hj; subst hj
  refine ⟨_, ?_, PtrR.add hu (k * es)⟩
  simp [Instr.indexAt, asIntOf, run_underlying ht, run_sizeOf hs, hk, Instr.sureAddr]

theorem ld1b_ok {r : Rope} {o : Nat} (h : ld1b r o hp nx = .ok v hp' nx') : ∃ n, v = .s (.int .u8 (Int.ofNat n)) ∧ hp' = hp ∧ nx' = nx ∧ n < 256 ∧ (r.ok C → (r.den C)[o]? = some (UInt8.ofNat n)) := by
  unfold ld1b at h
  rcases byteK_or (C := C) r o (fun n => okS (.int .u8 (Int.ofNat n)) hp nx) .bad with e | ⟨n, e, hn⟩
  · rw [e] at h; cases h
  · rw [e] at h
    obtain ⟨rfl, rfl, rfl⟩ := okS_ok h
    exact ⟨n, rfl, rfl, rfl, hn⟩

theorem AVR.str {C : Ctx} {m : Mp} {r : Rope} {u : Value} (h : AVR C m (.s (.str r)) u) : r.ok C ∧ u = .string (bs (r.den C)) := h

theorem bs_get (l : List UInt8) (i : Nat) : (bs l)[i]? = l[i]? := by
  unfold bs
  by_cases h : i < l.length
  · rw [ByteArray.getElem?_lt' _ _ (by simpa [ByteArray.size] using h)]
    simp [List.getElem?_eq_getElem h]; rfl
  · rw [ByteArray.getElem?_ge' _ _ (by simpa [ByteArray.size] using h), List.getElem?_eq_none (by omega)]
theorem bs_size (l : List UInt8) : (bs l).size = l.length := by simp [bs, ByteArray.size]

theorem opIxstr_ok {x i : AV} (h : opIxstr x i hp nx = .ok v hp' nx') : hp' = hp ∧ nx' = nx ∧ ∀ m u j, AVR C m x u → AVR C m i j → ∀ (t : Nat),
    P.underlying t = some .string → Gives P C m (Instr.index t u j) v := by
  obtain ⟨r, rfl, g⟩ := asStr_ok h
  obtain ⟨q, k, rfl, g⟩ := asNat_ok g
  obtain ⟨n, rfl, rfl, rfl, h2, hn⟩ := ld1b_ok (C := C) g
  refine ⟨rfl, rfl, fun m u j hu hj t ht w => ?_⟩
  obtain ⟨hr, rfl⟩ := AVR.str hu
  have hj := AVR.int hj; subst hj
  have h1 := hn hr
  refine ⟨.int .u8 n, ?_, rfl⟩
  simp [Instr.index, asIntOf, run_underlying ht, bs_get, h1]
  omega
end
end Go.X
end

/-! The quiet operations: pieces, numbers, strings. -/
noncomputable section
namespace Go.X
section
variable {P : Program} {C : Ctx} {hp hp' : Hp} {nx nx' : Pid} {v : AV}

theorem takeRK_ok {r : Rope} {n : Nat} {k : Rope → Ar} (h : takeRK r n k .bad = .ok v hp' nx') : ∃ q, k q = .ok v hp' nx' ∧ (r.ok C → q.ok C ∧ q.den C = (r.den C).take n) := by
  rcases takeRK_made (C := C) r n k .bad with e | ⟨q, e, hq⟩
  · rw [e] at h; cases h
  · exact ⟨q, by rw [← h]; exact e.symm, hq⟩
theorem dropRK_ok {r : Rope} {n : Nat} {k : Rope → Ar} (h : dropRK r n k .bad = .ok v hp' nx') : ∃ q, k q = .ok v hp' nx' ∧ (r.ok C → q.ok C ∧ q.den C = (r.den C).drop n) := by
  rcases dropRK_made (C := C) r n k .bad with e | ⟨q, e, hq⟩
  · rw [e] at h; cases h
  · exact ⟨q, by rw [← h]; exact e.symm, hq⟩
theorem appRK_ok {r s : Rope} {k : Rope → Ar} (h : appRK r s k = .ok v hp' nx') : ∃ q, k q = .ok v hp' nx' ∧ (r.ok C → s.ok C → q.ok C ∧ q.den C = r.den C ++ s.den C) := by
  obtain ⟨q, e, hq⟩ := appRK_made (C := C) r s k
  exact ⟨q, by rw [← h]; exact e.symm, fun a b => hq ⟨a, b⟩⟩
theorem litK_ok {n x : Nat} {r : Rope} {k : Rope → Ar} (h : litK n x r k = .ok v hp' nx') : ∃ q, k q = .ok v hp' nx' ∧ (r.ok C → q.ok C ∧ q.den C = litB n x ++ r.den C) := by
  obtain ⟨q, e, hq⟩ := litK_made (C := C) n x r k
  exact ⟨q, by rw [← h]; exact e.symm, hq⟩

/-- a bound that may lack, where something came of it. -/
theorem bnd_ok {x : Option AV} {d : Nat} {k : Nat → Ar} (h : bnd x d k .bad = .ok v hp' nx') :
    (x = none ∧ k d = .ok v hp' nx') ∨ (∃ q, ∃ n : Nat, x = some (.s (.int q n)) ∧ k n = .ok v hp' nx') := by
  cases x with
  | none => exact .inl ⟨rfl, h⟩
  | some y => obtain ⟨q, n, rfl, g⟩ := asNat_ok h; exact .inr ⟨q, n, rfl, g⟩

/-- what stands for a bound. -/
def OptR (C : Ctx) (m : Mp) : Option AV → Option Value → Prop
  | none, none => True
  | some x, some u => AVR C m x u
  | _, _ => False
def bndV (x : Option Value) (d : Nat) (n : Nat) : Prop := (x = none ∧ n = d) ∨ ∃ q, x = some (.int q n)

theorem bnd_rel {x : Option AV} {d : Nat} {k : Nat → Ar} (h : bnd x d k .bad = .ok v hp' nx') :
    ∃ n, k n = .ok v hp' nx' ∧ ∀ (m : Mp) u, OptR C m x u → bndV u d n := by
  rcases bnd_ok h with ⟨rfl, g⟩ | ⟨q, n, rfl, g⟩
  · refine ⟨d, g, fun m u hu => ?_⟩
    cases u with
    | none => exact .inl ⟨rfl, rfl⟩
    | some _ => exact hu.elim
  · refine ⟨n, g, fun m u hu => ?_⟩
    cases u with
    | none => exact hu.elim
    | some u => exact .inr ⟨q, congrArg some (AVR.int (C := C) (m := m) hu)⟩

theorem run_bounds {isSlice : Bool} {len cap : Nat} {lo hi mx : Option Value} {l h m : Nat} (hl : bndV lo 0 l) (hh : bndV hi len h) (hm : bndV mx cap m)
    (hmx : mx.isSome → hi.isSome) (h1 : l ≤ h) (h2 : h ≤ m) (h3 : m ≤ cap) {w : World} :
    (Instr.sliceBounds isSlice len cap lo hi mx).run P w = .ok (l, h, m) w := by
  have e1 : ∀ (k : IntKind) (n y : Nat) (c : BoundsCode), n ≤ y → (Instr.sliceBound (.int k n) y c).run P w = .ok n w := fun k n y c g => by
    simp [Instr.sliceBound, asIntOf, g]
  rcases hm with ⟨rfl, rfl⟩ | ⟨qm, rfl⟩
  · rcases hh with ⟨rfl, rfl⟩ | ⟨qh, rfl⟩ <;> rcases hl with ⟨rfl, rfl⟩ | ⟨ql, rfl⟩ <;> simp [Instr.sliceBounds, e1, h1, h2]
  · rcases hh with ⟨rfl, rfl⟩ | ⟨qh, rfl⟩
    · exact absurd (hmx rfl) (by simp)
    · rcases hl with ⟨rfl, rfl⟩ | ⟨ql, rfl⟩ <;> simp [Instr.sliceBounds, e1, h1, h2, h3]

theorem opSlstr_ok {x : AV} {lo hi : Option AV} (h : opSlstr x lo hi hp nx = .ok v hp' nx') : hp' = hp ∧ nx' = nx ∧ ∀ m u lo' hi', AVR C m x u → OptR C m lo lo' → OptR C m hi hi' → ∀ (t : Nat),
    P.underlying t = some .string → Gives P C m (Instr.sliceAt t u lo' hi' none) v := by
  obtain ⟨r, rfl, g⟩ := asStr_ok h
  rw [forceN_eq] at g
  obtain ⟨l, g, hl⟩ := bnd_rel (C := C) g
  obtain ⟨n, g, hn⟩ := bnd_rel (C := C) g
  obtain ⟨h1, g⟩ := ifB_ok g
  obtain ⟨h2, g⟩ := ifB_ok g
  have h1 := ble_le h1
  have h2 := ble_le h2
  rw [lenR_eq] at h1
  obtain ⟨q, g, hq⟩ := takeRK_ok (C := C) g
  obtain ⟨q', g, hq'⟩ := dropRK_ok (C := C) g
  obtain ⟨rfl, rfl, rfl⟩ := okS_ok g
  refine ⟨rfl, rfl, fun m u lo' hi' hu hlo hhi t ht w => ?_⟩
  obtain ⟨hr, rfl⟩ := AVR.str hu
  obtain ⟨a, b⟩ := hq hr
  obtain ⟨a', b'⟩ := hq' a
  have hlen := Rope.den_length hr
  refine ⟨.string ((bs (r.den C)).extract l n), ?_, a', ?_⟩
  · have hb : (bs (r.den C)).size = r.len := by rw [bs_size, hlen]
    have hn' : bndV hi' (bs (r.den C)).size n := by
      have := hn m hi' hhi
      rwa [lenR_eq, ← hlen, ← bs_size] at this
    have := run_bounds (P := P) (isSlice := false) (w := w) (hl m lo' hlo) hn' (.inl ⟨rfl, rfl⟩ : bndV none (bs (r.den C)).size (bs (r.den C)).size) (by simp) h2 (by omega) (by omega)
    simp [Instr.sliceAt, Instr.slice, run_underlying ht, this]
  · rw [b', b]
    unfold bs
    rw [ByteArray.extract_mk, List.drop_take]

theorem underlying_ne_array {t : Nat} {d : TypeDesc} (ht : P.underlying t = some d) (hd : ∀ n e, d ≠ .array n e) {x : Value} {lo hi mx : Option Value} {w : World} :
    (Instr.sliceAt t x lo hi mx).run P w = (Instr.slice t x lo hi mx).run P w := by
  unfold Instr.sliceAt
  cases d <;> first | (simp [run_underlying ht]; done) | exact absurd rfl (hd _ _)

theorem mkSlc_ok {es : Nat} {b : Pid} {o l h m : Nat} (g : mkSlc es b o l h m hp nx = .ok v hp' nx') :
    l ≤ h ∧ h ≤ m ∧ v = .s (.slc b (if m - l = 0 then o else o + l * es) (h - l) (.kn (m - l))) ∧ hp' = hp ∧ nx' = nx := by
  obtain ⟨h1, g⟩ := ifB_ok g
  obtain ⟨h1, h2⟩ := cand_true h1
  simp only [forceN_eq] at g
  cases hc : Nat.beq (m - l) 0 with
  | true =>
    rw [show Nat.beq (Nat.sub m l) 0 = true from hc] at g
    obtain ⟨rfl, rfl, rfl⟩ := okS_ok (v := v) g
    exact ⟨ble_le h1, ble_le h2, by rw [if_pos (beq_eq hc)]; rfl, rfl, rfl⟩
  | false =>
    rw [show Nat.beq (Nat.sub m l) 0 = false from hc] at g
    obtain ⟨rfl, rfl, rfl⟩ := okS_ok (v := v) g
    refine ⟨ble_le h1, ble_le h2, ?_, rfl, rfl⟩
    rw [if_neg (fun e => by rw [e] at hc; cases hc)]; rfl

/-- a piece of a slice whose capacity is known. -/
theorem slcR_piece {m : Mp} {b : Pid} {o l h k es : Nat} {a : Addr} (hr : PtrR m b o (.pointer (some a))) (h1 : l ≤ h) (h2 : h ≤ k) :
    SlcR m b (if k - l = 0 then o else o + l * es) (h - l) (.kn (k - l)) (.slice (some (if k = l then a else a.add (l * es))) (h - l) (k - l)) := by
  unfold PtrR at hr; unfold SlcR
  have he : (k - l = 0) ↔ (k = l) := by omega
  split at hr
  · injection hr with hr; injection hr with hr; subst hr
    refine ⟨k - l, ?_, by omega, rfl⟩
    by_cases hk : k = l
    · rw [if_pos hk, if_pos (he.2 hk)]
    · rw [if_neg hk, if_neg (fun q => hk (he.1 q))]; simp [Addr.add, Nat.add_assoc]
  · exact ⟨_, _, rfl, by omega, rfl⟩
  · exact hr.elim

theorem SlcR.addr {m : Mp} {b : Pid} {o n k : Nat} {c : Cap} {a : Addr} (h : SlcR m b o n c (.slice (some a) n k)) : PtrR m b o (.pointer (some a)) := by
  unfold SlcR at h; unfold PtrR; split at h
  · obtain ⟨c, h, _⟩ := h; injection h with h; injection h with h; subst h; rfl
  · exact ⟨_, rfl⟩
  · exact h.elim

/-- of a slice whose room is not known, within its length. -/
theorem mkSlo_ok {es e : Nat} {b : Pid} {o l h : Nat} (g : mkSlo es e b o l h hp nx = .ok v hp' nx') :
    l ≤ h ∧ hp' = hp ∧ nx' = nx ∧ ∀ (m : Mp) (n : Nat) (a : Addr) (k : Nat), h ≤ n → n ≤ k → SlcR m b o n (.op e) (.slice (some a) n k) →
      AVR C m v (.slice (some (if k = l then a else a.add (l * es))) (h - l) (k - l)) := by
  obtain ⟨h1, g⟩ := ifB_ok g
  obtain ⟨he, h2⟩ := cand_true h1
  have h5 := ble_le h2
  obtain rfl := beq_eq he
  simp only [forceN_eq] at g
  cases hc : cand (Nat.beq (Nat.sub h l) 0) (Nat.ble 1 l) with
  | true =>
    rw [hc] at g
    obtain ⟨rfl, rfl, rfl⟩ := okS_ok (v := v) g
    obtain ⟨h3, h4⟩ := cand_true hc
    have h3 : h - l = 0 := beq_eq h3
    refine ⟨h5, rfl, rfl, fun m n a k hn hk hr => ?_⟩
    have he : h - l = 0 := h3
    show SlzR m b (o + l * es) _
    rw [he]
    unfold SlcR at hr; unfold SlzR
    split at hr
    · obtain ⟨c, hr, _, rfl, hN⟩ := hr; injection hr with hr hr2 hr3; injection hr with hr; subst hr; subst hr3
      refine ⟨_, _, rfl, ?_⟩
      by_cases hkl : k = l
      · left; omega
      · right; rw [if_neg hkl]
        refine ⟨by simp [Addr.add, Nat.add_assoc], ?_⟩
        rw [Nat.sub_mul]
        have : l * es ≤ k * es := Nat.mul_le_mul_right _ (by omega)
        omega
    · exact ⟨_, _, rfl⟩
    · exact hr.elim
  | false =>
    rw [hc] at g
    obtain ⟨rfl, rfl, rfl⟩ := okS_ok (v := v) g
    refine ⟨h5, rfl, rfl, fun m n a k hn hk hr => ?_⟩
    show SlcR m b (o + l * es) (h - l) (.op es) _
    have hlk : k = l → l = 0 := fun e => by
      rcases Nat.eq_zero_or_pos l with z | z
      · exact z
      · have h0 : h - l = 0 := by omega
        rw [show Nat.beq (Nat.sub h l) 0 = true from by rw [show Nat.sub h l = 0 from h0]; rfl, Nat.ble_eq_true_of_le z] at hc; cases hc
    unfold SlcR at *
    split at hr
    · obtain ⟨c, hr, hc2, rfl, hN⟩ := hr; injection hr with hr hr2 hr3; injection hr with hr; subst hr; subst hr3
      refine ⟨k - l, ?_, by omega, ?_⟩
      · by_cases hkl : k = l
        · have := hlk hkl; subst this; simp [hkl]
        · rw [if_neg hkl]; simp [Addr.add, Nat.add_assoc]
      · refine ⟨rfl, ?_⟩
        rw [Nat.sub_mul]
        have : l * es ≤ k * es := Nat.mul_le_mul_right _ (by omega)
        omega
    · obtain ⟨_, c, hr, hc, _⟩ := hr; injection hr with _ _ hr3; subst hr3; exact ⟨_, _, rfl, by omega, trivial⟩
    · exact hr.elim

theorem slcR_cap {m : Mp} {b : Pid} {o n k : Nat} {cap : Cap} {a : Addr} (h : SlcR m b o n cap (.slice (some a) n k)) : (∀ c, cap = .kn c → k = c) ∧ n ≤ k := by
  unfold SlcR at h; split at h
  · obtain ⟨c, h, h1, h2⟩ := h; injection h with _ _ h3; subst h3
    exact ⟨fun c' e => by subst e; exact h2, h1⟩
  · obtain ⟨_, c, h, h1, h2⟩ := h; injection h with _ _ h3; subst h3
    exact ⟨fun c' e => by subst e; exact h2, h1⟩
  · exact h.elim

/-- what is cut of a slice that lies at 'a', 'n' long, with room for 'k'. -/
theorem slSlc_ok {es : Nat} {b : Pid} {o n : Nat} {cap : Cap} {lo hi mx : Option AV} (g : slSlc es b o n cap lo hi mx hp nx = .ok v hp' nx') :
    hp' = hp ∧ nx' = nx ∧ ∀ m a k lo' hi' mx', OptR C m lo lo' → OptR C m hi hi' → OptR C m mx mx' → (mx'.isSome → hi'.isSome) → SlcR m b o n cap (.slice (some a) n k) →
      ∀ isSlice, ∃ l h x, AVR C m v (.slice (some (if x = l then a else a.add (l * es))) (h - l) (x - l)) ∧ ∀ w : World, (Instr.sliceBounds isSlice n k lo' hi' mx').run P w = .ok (l, h, x) w := by
  obtain ⟨l, g, hl⟩ := bnd_rel (C := C) g
  obtain ⟨h, g, hh⟩ := bnd_rel (C := C) g
  cases cap with
  | kn c =>
    obtain ⟨x, g, hx⟩ := bnd_rel (C := C) g
    obtain ⟨h3, g⟩ := ifB_ok g
    have h3 := ble_le h3
    obtain ⟨h1, h2, rfl, rfl, rfl⟩ := mkSlc_ok g
    refine ⟨rfl, rfl, fun m a k lo' hi' mx' hlo hhi hmx hs hr isSlice => ?_⟩
    obtain ⟨hk, hn⟩ := slcR_cap hr
    have := hk c rfl; subst this
    exact ⟨l, h, x, slcR_piece hr.addr h1 h2, fun w => run_bounds (hl m _ hlo) (hh m _ hhi) (hx m _ hmx) hs h1 h2 h3⟩
  | op e =>
    cases mx with
    | none =>
      obtain ⟨h3, g⟩ := ifB_ok g
      have h3 := ble_le h3
      obtain ⟨h1, rfl, rfl, hv⟩ := mkSlo_ok (C := C) g
      refine ⟨rfl, rfl, fun m a k lo' hi' mx' hlo hhi hmx hs hr isSlice => ?_⟩
      obtain ⟨hk, hn⟩ := slcR_cap hr
      have hmx' : mx' = none := by cases mx' with | none => rfl | some _ => exact hmx.elim
      subst hmx'
      exact ⟨l, h, k, hv m n a k h3 hn hr, fun w => run_bounds (hl m _ hlo) (hh m _ hhi) (.inl ⟨rfl, rfl⟩) hs h1 (by omega) (Nat.le_refl _)⟩
    | some x =>
      obtain ⟨q, x, rfl, g⟩ := asNat_ok g
      obtain ⟨h3, g⟩ := ifB_ok g
      have h3 := ble_le h3
      obtain ⟨h1, h2, rfl, rfl, rfl⟩ := mkSlc_ok g
      refine ⟨rfl, rfl, fun m a k lo' hi' mx' hlo hhi hmx hs hr isSlice => ?_⟩
      obtain ⟨hk, hn⟩ := slcR_cap hr
      cases mx' with
      | none => exact hmx.elim
      | some u =>
        have hu := AVR.int (C := C) (m := m) hmx; subst hu
        exact ⟨l, h, x, slcR_piece hr.addr h1 h2, fun w => run_bounds (hl m _ hlo) (hh m _ hhi) (.inr ⟨q, rfl⟩) hs h1 h2 (by omega)⟩

theorem slNil_ok {x : SV} {lo hi mx : Option AV} (g : slNil x lo hi mx hp nx = .ok v hp' nx') :
    v = .s x ∧ hp' = hp ∧ nx' = nx ∧ ∀ m lo' hi' mx', OptR C m lo lo' → OptR C m hi hi' → OptR C m mx mx' → (mx'.isSome → hi'.isSome) → ∀ k isSlice, ∃ x, (x = k ∨ x = 0) ∧ ∀ w : World, (Instr.sliceBounds isSlice 0 k lo' hi' mx').run P w = .ok (0, 0, x) w := by
  obtain ⟨l, g, hl⟩ := bnd_rel (C := C) g
  obtain ⟨h, g, hh⟩ := bnd_rel (C := C) g
  obtain ⟨x, g, hx⟩ := bnd_rel (C := C) g
  obtain ⟨h0, g⟩ := ifB_ok g
  have h0 : l + (h + x) = 0 := beq_eq h0
  obtain rfl : l = 0 := by omega
  obtain rfl : h = 0 := by omega
  obtain rfl : x = 0 := by omega
  obtain ⟨rfl, rfl, rfl⟩ := okS_ok (v := v) g
  refine ⟨rfl, rfl, rfl, fun m lo' hi' mx' hlo hhi hmx hs k isSlice => ?_⟩
  have hm := hx m _ hmx
  rcases hm with ⟨rfl, _⟩ | ⟨q, rfl⟩
  · exact ⟨k, .inl rfl, fun w => run_bounds (hl m _ hlo) (hh m _ hhi) (.inl ⟨rfl, rfl⟩) hs (Nat.le_refl _) (Nat.zero_le _) (Nat.le_refl _)⟩
  · exact ⟨0, .inr rfl, fun w => run_bounds (hl m _ hlo) (hh m _ hhi) (.inr ⟨q, rfl⟩) hs (Nat.le_refl _) (Nat.le_refl _) (Nat.zero_le _)⟩


theorem opSlslc_ok {x : AV} {es : Nat} {lo hi mx : Option AV} (h : opSlslc es x lo hi mx hp nx = .ok v hp' nx') : hp' = hp ∧ nx' = nx ∧ ∀ m u lo' hi' mx', AVR C m x u → OptR C m lo lo' → OptR C m hi hi' → OptR C m mx mx' → (mx'.isSome → hi'.isSome) →
    ∀ (t e : Nat), P.underlying t = some (.slice e) → szOf P e = some es → Gives P C m (Instr.sliceAt t u lo' hi' mx') v := by
  obtain ⟨x, rfl, g⟩ := asS_ok h
  rcases svSlc_ok g with ⟨b, o, l, c, rfl, g⟩ | ⟨b, o, rfl, g⟩ | ⟨rfl, g⟩
  · obtain ⟨rfl, rfl, hv⟩ := slSlc_ok (C := C) (P := P) g
    refine ⟨rfl, rfl, fun m u lo' hi' mx' hu hlo hhi hmx hs t e ht he w => ?_⟩
    obtain ⟨a, k, rfl⟩ := slc_some hu
    obtain ⟨l', h', x', hr, hb⟩ := hv m a k lo' hi' mx' hlo hhi hmx hs hu true
    refine ⟨_, ?_, hr⟩
    rw [underlying_ne_array ht (by simp)]
    simp [Instr.slice, run_underlying ht, hb, run_sizeOf he]
    by_cases hx : x' = l' <;> simp [hx]
  · obtain ⟨rfl, rfl, rfl, hv⟩ := slNil_ok (C := C) (P := P) g
    refine ⟨rfl, rfl, fun m u lo' hi' mx' hu hlo hhi hmx hs t e ht he w => ?_⟩
    obtain ⟨a, k, rfl⟩ := slz_some hu
    obtain ⟨x, hx, hb⟩ := hv m lo' hi' mx' hlo hhi hmx hs k true
    refine ⟨.slice (some a) 0 x, ?_, ?_⟩
    · rw [underlying_ne_array ht (by simp)]
      simp [Instr.slice, run_underlying ht, hb, run_sizeOf he]
      by_cases h0 : x = 0 <;> simp [h0, Addr.add]
    · have hu : SlzR m b o (.slice (some a) 0 k) := hu
      show SlzR m b o _
      unfold SlzR at *
      split at hu
      · obtain ⟨a', c, h1, h2⟩ := hu; injection h1 with h1 _ h3; injection h1 with h1; subst h1; subst h3
        refine ⟨_, _, rfl, ?_⟩
        rcases hx with rfl | rfl
        · exact h2
        · exact .inl rfl
      · exact ⟨_, _, rfl⟩
      · exact hu.elim
  · obtain ⟨rfl, rfl, rfl, hv⟩ := slNil_ok (C := C) (P := P) g
    refine ⟨rfl, rfl, fun m u lo' hi' mx' hu hlo hhi hmx hs t e ht he w => ?_⟩
    have hu : u = .slice none 0 0 := hu
    subst hu
    obtain ⟨x, hx, hb⟩ := hv m lo' hi' mx' hlo hhi hmx hs 0 true
    have hx : x = 0 := by omega
    subst hx
    refine ⟨.slice none 0 0, ?_, rfl⟩
    rw [underlying_ne_array ht (by simp)]
    simp [Instr.slice, run_underlying ht, hb, run_sizeOf he]

theorem opSlarr_ok {x : AV} {n es : Nat} {lo hi mx : Option AV} (h : opSlarr n es x lo hi mx hp nx = .ok v hp' nx') : hp' = hp ∧ nx' = nx ∧ ∀ m u lo' hi' mx', AVR C m x u → OptR C m lo lo' → OptR C m hi hi' → OptR C m mx mx' → (mx'.isSome → hi'.isSome) →
    ∀ (t e : Nat), P.underlying t = some (.array n e) → szOf P e = some es → Gives P C m (Instr.sliceAt t u lo' hi' mx') v := by
  obtain ⟨b, o, rfl, g⟩ := asPtr_ok h
  obtain ⟨rfl, rfl, hv⟩ := slSlc_ok (C := C) (P := P) g
  refine ⟨rfl, rfl, fun m u lo' hi' mx' hu hlo hhi hmx hs t e ht he w => ?_⟩
  obtain ⟨a, rfl⟩ := ptr_some hu
  have hsl : SlcR m b o n (.kn n) (.slice (some a) n n) := by
    have hu : PtrR m b o (.pointer (some a)) := hu
    unfold PtrR at hu; unfold SlcR; split at hu
    · injection hu with hu; injection hu with hu; subst hu; exact ⟨n, rfl, Nat.le_refl _, rfl⟩
    · exact ⟨_, _, rfl, Nat.le_refl _, rfl⟩
    · exact hu.elim
  obtain ⟨l', h', x', hr, hb⟩ := hv m a n lo' hi' mx' hlo hhi hmx hs hsl false
  refine ⟨_, ?_, hr⟩
  simp [Instr.sliceAt, run_underlying ht, hb, run_sizeOf he, Instr.sureAddr]
end
end Go.X
end

/-! The quiet operations: truths, numbers, strings, tuples. -/
noncomputable section
namespace Go.X
section
variable {P : Program} {C : Ctx} {hp hp' : Hp} {nx nx' : Pid} {v : AV}

theorem AVR.bool {m : Mp} {b : Bool} {u : Value} (h : AVR C m (.s (.bool b)) u) : u = .bool b := h
theorem sameB_eq (a b : Bool) : sameB a b = (a == b) := by cases a <;> cases b <;> rfl

theorem eqRK_ok {r s : Rope} {k : Bool → Ar} (h : eqRK r s k .bad = .ok v hp' nx') : ∃ b, k b = .ok v hp' nx' ∧ (r.ok C → s.ok C → (b = true ↔ r.den C = s.den C)) := by
  rcases eqRK_or C r s k .bad with e | ⟨b, e, hb⟩
  · rw [e] at h; cases h
  · exact ⟨b, by rw [← h]; exact e.symm, hb⟩
theorem boolK_ok {b : Bool} {k : Bool → Ar} (h : boolK b k = .ok v hp' nx') : k b = .ok v hp' nx' := by rwa [boolK_eq] at h

theorem ByteArray_beq (l l' : List UInt8) : ((bs l).toList == (bs l').toList) = (l == l') := by
  rw [show (bs l).toList = l from ByteArray.toList_mk l, show (bs l').toList = l' from ByteArray.toList_mk l']

def eqOp (neg : Bool) : BinOp := if neg then .neq else .eql
theorem run_eq {neg : Bool} {t : Nat} {u u' : Value} {x y : Operand} {w : World} {r : Bool}
    (hb : binOp .eql t u u' = (do pure (.bool (← Op.equal t u u')))) (hb' : binOp .neq t u u' = (do pure (.bool (!(← Op.equal t u u'))))) (hg : ∀ op, eqGuard op t x y u u' = pure ())
    (he : (Op.equalIn (9999 + 1) t u u').run P w = .ok r w) : (do eqGuard (eqOp neg) t x y u u'; binOp (eqOp neg) t u u' : Sem Value).run P w = .ok (.bool ((!neg) == r)) w := by
  have he : (Op.equal t u u').run P w = .ok r w := he
  rw [hg]
  cases neg with
  | false => rw [show eqOp false = .eql from rfl, hb]; simp [he]
  | true => rw [show eqOp true = .neq from rfl, hb']; simp [he]
theorem guard_none {t : Nat} {u u' : Value} {x y : Operand} (h1 : u ≠ .nilIface) (h2 : ∀ c, u ≠ .agg c) (op : BinOp) : eqGuard op t x y u u' = pure () := by
  unfold eqGuard
  cases op <;> first | rfl | (cases u <;> first | rfl | exact absurd rfl h1 | exact absurd rfl (h2 _))

theorem opEqS_ok {neg : Bool} {x y : AV} (h : opEqS neg x y hp nx = .ok v hp' nx') : hp' = hp ∧ nx' = nx ∧ ∀ m u u', AVR C m x u → AVR C m y u' → ∀ (t : Nat) (a b : Operand),
    Gives P C m (do eqGuard (eqOp neg) t a b u u'; binOp (eqOp neg) t u u') v := by
  obtain ⟨r, rfl, g⟩ := asStr_ok h
  obtain ⟨s, rfl, g1⟩ := asStr_ok g
  obtain ⟨b, g2, hb⟩ := eqRK_ok (C := C) g1
  obtain ⟨rfl, rfl, rfl⟩ := okS_ok (boolK_ok g2)
  refine ⟨rfl, rfl, fun m u u' hu hu' t a a' w => ?_⟩
  obtain ⟨hr, rfl⟩ := AVR.str hu
  obtain ⟨hs, rfl⟩ := AVR.str hu'
  have hb := hb hr hs
  have he : (r.den C == s.den C) = b := by rw [Bool.eq_iff_iff, beq_iff_eq]; exact hb.symm
  cases neg with
  | false => exact ⟨.bool b, by simp only [eqOp, if_false, Bool.false_eq_true, binOp_string_eql, ByteArray_beq, he]; rfl, by show _ = _; rw [sameB_eq]; cases b <;> rfl⟩
  | true => exact ⟨.bool !b, by simp only [eqOp, if_true, binOp_string_neq, ByteArray_beq, he]; rfl, by show _ = _; rw [sameB_eq]; cases b <;> rfl⟩

theorem opEqB_ok {neg : Bool} {x y : AV} (h : opEqB neg x y hp nx = .ok v hp' nx') : hp' = hp ∧ nx' = nx ∧ ∀ m u u', AVR C m x u → AVR C m y u' → ∀ (t : Nat) (a b : Operand),
    P.underlying t = some .bool → Gives P C m (do eqGuard (eqOp neg) t a b u u'; binOp (eqOp neg) t u u') v := by
  obtain ⟨r, rfl, g⟩ := asBool_ok h
  obtain ⟨s, rfl, g1⟩ := asBool_ok g
  obtain ⟨rfl, rfl, rfl⟩ := okS_ok (boolK_ok g1)
  refine ⟨rfl, rfl, fun m u u' hu hu' t a a' ht w => ?_⟩
  have hu := AVR.bool hu
  have hu' := AVR.bool hu'
  subst hu; subst hu'
  cases neg with
  | false => exact ⟨_, run_eq rfl rfl (guard_none (by simp) (by simp)) (run_equalIn_bool w 9999 t r s ht), by show _ = _; cases r <;> cases s <;> rfl⟩
  | true => exact ⟨_, run_eq rfl rfl (guard_none (by simp) (by simp)) (run_equalIn_bool w 9999 t r s ht), by show _ = _; cases r <;> cases s <;> rfl⟩

/-- the types whose values may be nil. -/
def nilT : NilK → TypeDesc → Prop
  | .ptr, d => ∃ e, d = .pointer e
  | .slc, d => ∃ e, d = .slice e
  | .map, d => ∃ k e, d = .map k e
  | .fn, d => ∃ a b c, d = .func a b c
/-- what stands for nil, what does not. -/
def nilV (k : NilK) (t : Tri) (u : Value) : Prop :=
  match k, t with
  | _, .unk => True
  | .ptr, .yes => u = .pointer none
  | .ptr, .no => ∃ a, u = .pointer (some a)
  | .slc, .yes => u = .slice none 0 0
  | .slc, .no => ∃ a n c, u = .slice (some a) n c
  | .map, .yes => u = .map none
  | .map, .no => ∃ a, u = .map (some a)
  | .fn, .yes => u = .nilFunc
  | .fn, .no => ∃ f a b, u = .func f a b
theorem RefR.mk {m : Mp} {b : Pid} {mk : Nat → Value} {u : Value} (h : RefR m b mk u) : ∃ B, u = mk B := by
  unfold RefR at h; split at h
  · exact ⟨_, h⟩
  · exact h
  · exact h.elim
theorem nilOf_ok {m : Mp} {k : NilK} {x : SV} {u : Value} (h : SVR C m x u) : nilV k (nilOf k x) u := by
  cases k <;> cases x
  case ptr.ptr => exact ptr_some h
  case ptr.nilp => exact h
  case slc.slc => obtain ⟨a, k, h⟩ := slc_some h; exact ⟨a, _, k, h⟩
  case slc.slz => obtain ⟨a, k, h⟩ := slz_some h; exact ⟨a, _, k, h⟩
  case slc.nils => exact h
  case map.map => exact RefR.mk h
  case map.nilm => exact h
  case fn.fn => obtain ⟨vs, h, _⟩ := h; exact ⟨_, _, _, h⟩
  case fn.nilf => exact h
  all_goals trivial

theorem bothNil_ok {a b : Tri} {k : Bool → Ar} (h : bothNil a b k = .ok v hp' nx') : ∃ r, k r = .ok v hp' nx' ∧ ((a = .yes ∧ b = .yes ∧ r = true) ∨ (a = .yes ∧ b = .no ∧ r = false) ∨ (a = .no ∧ b = .yes ∧ r = false)) := by
  cases a <;> cases b <;> first | exact ⟨true, h, .inl ⟨rfl, rfl, rfl⟩⟩ | exact ⟨false, h, .inr (.inl ⟨rfl, rfl, rfl⟩)⟩ | exact ⟨false, h, .inr (.inr ⟨rfl, rfl, rfl⟩)⟩ | cases h

theorem run_nilIn {k : NilK} {d : TypeDesc} (hd : nilT k d) {t : Nat} (ht : P.underlying t = some d) {a b : Tri} {r : Bool} {u u' : Value}
    (hr : (a = .yes ∧ b = .yes ∧ r = true) ∨ (a = .yes ∧ b = .no ∧ r = false) ∨ (a = .no ∧ b = .yes ∧ r = false)) (hu : nilV k a u) (hu' : nilV k b u') (w : World) (n : Nat) : (Op.equalIn (n + 1) t u u').run P w = .ok r w := by
  cases k
  · obtain ⟨e, rfl⟩ := hd
    rcases hr with ⟨rfl, rfl, rfl⟩ | ⟨rfl, rfl, rfl⟩ | ⟨rfl, rfl, rfl⟩
    · have hu : u = _ := hu; have hu' : u' = _ := hu'; subst hu; subst hu'
      simp [Op.equalIn, run_underlying ht]
    · have hu : u = _ := hu; obtain ⟨_, rfl⟩ := hu'; subst hu
      simp [Op.equalIn, run_underlying ht]
    · have hu' : u' = _ := hu'; obtain ⟨_, rfl⟩ := hu; subst hu'
      simp [Op.equalIn, run_underlying ht]
  · obtain ⟨e, rfl⟩ := hd
    rcases hr with ⟨rfl, rfl, rfl⟩ | ⟨rfl, rfl, rfl⟩ | ⟨rfl, rfl, rfl⟩
    · have hu : u = _ := hu; have hu' : u' = _ := hu'; subst hu; subst hu'
      simp [Op.equalIn, run_underlying ht]
    · have hu : u = _ := hu; obtain ⟨_, _, _, rfl⟩ := hu'; subst hu
      simp [Op.equalIn, run_underlying ht]
    · have hu' : u' = _ := hu'; obtain ⟨_, _, _, rfl⟩ := hu; subst hu'
      simp [Op.equalIn, run_underlying ht]
  · obtain ⟨q, e, rfl⟩ := hd
    rcases hr with ⟨rfl, rfl, rfl⟩ | ⟨rfl, rfl, rfl⟩ | ⟨rfl, rfl, rfl⟩
    · have hu : u = _ := hu; have hu' : u' = _ := hu'; subst hu; subst hu'
      simp [Op.equalIn, run_underlying ht]
    · have hu : u = _ := hu; obtain ⟨_, rfl⟩ := hu'; subst hu
      simp [Op.equalIn, run_underlying ht]
    · have hu' : u' = _ := hu'; obtain ⟨_, rfl⟩ := hu; subst hu'
      simp [Op.equalIn, run_underlying ht]
  · obtain ⟨_, _, _, rfl⟩ := hd
    rcases hr with ⟨rfl, rfl, rfl⟩ | ⟨rfl, rfl, rfl⟩ | ⟨rfl, rfl, rfl⟩
    · have hu : u = _ := hu; have hu' : u' = _ := hu'; subst hu; subst hu'
      simp [Op.equalIn, run_underlying ht]
    · have hu : u = _ := hu; obtain ⟨_, _, _, rfl⟩ := hu'; subst hu
      simp [Op.equalIn, run_underlying ht]
    · have hu' : u' = _ := hu'; obtain ⟨_, _, _, rfl⟩ := hu; subst hu'
      simp [Op.equalIn, run_underlying ht]

theorem run_nilEq {k : NilK} {d : TypeDesc} (hd : nilT k d) {t : Nat} (ht : P.underlying t = some d) {a b : Tri} {r : Bool} {u u' : Value}
    (hr : (a = .yes ∧ b = .yes ∧ r = true) ∨ (a = .yes ∧ b = .no ∧ r = false) ∨ (a = .no ∧ b = .yes ∧ r = false)) (hu : nilV k a u) (hu' : nilV k b u') (w : World) (neg : Bool) (x y : Operand) :
    (do eqGuard (eqOp neg) t x y u u'; binOp (eqOp neg) t u u' : Sem Value).run P w = .ok (.bool ((!neg) == r)) w := by
  have h := run_nilIn hd ht hr hu hu' w 9999
  cases k
  · rcases hr with ⟨rfl, rfl, rfl⟩ | ⟨rfl, rfl, rfl⟩ | ⟨rfl, rfl, rfl⟩
    · have hu : u = _ := hu; have hu' : u' = _ := hu'; subst hu; subst hu'; exact run_eq rfl rfl (guard_none (by simp) (by simp)) h
    · have hu : u = _ := hu; obtain ⟨_, rfl⟩ := hu'; subst hu; exact run_eq rfl rfl (guard_none (by simp) (by simp)) h
    · have hu' : u' = _ := hu'; obtain ⟨_, rfl⟩ := hu; subst hu'; exact run_eq rfl rfl (guard_none (by simp) (by simp)) h
  · rcases hr with ⟨rfl, rfl, rfl⟩ | ⟨rfl, rfl, rfl⟩ | ⟨rfl, rfl, rfl⟩
    · have hu : u = _ := hu; have hu' : u' = _ := hu'; subst hu; subst hu'; exact run_eq rfl rfl (guard_none (by simp) (by simp)) h
    · have hu : u = _ := hu; obtain ⟨_, _, _, rfl⟩ := hu'; subst hu; exact run_eq rfl rfl (guard_none (by simp) (by simp)) h
    · have hu' : u' = _ := hu'; obtain ⟨_, _, _, rfl⟩ := hu; subst hu'; exact run_eq rfl rfl (guard_none (by simp) (by simp)) h
  · rcases hr with ⟨rfl, rfl, rfl⟩ | ⟨rfl, rfl, rfl⟩ | ⟨rfl, rfl, rfl⟩
    · have hu : u = _ := hu; have hu' : u' = _ := hu'; subst hu; subst hu'; exact run_eq rfl rfl (guard_none (by simp) (by simp)) h
    · have hu : u = _ := hu; obtain ⟨_, rfl⟩ := hu'; subst hu; exact run_eq rfl rfl (guard_none (by simp) (by simp)) h
    · have hu' : u' = _ := hu'; obtain ⟨_, rfl⟩ := hu; subst hu'; exact run_eq rfl rfl (guard_none (by simp) (by simp)) h
  · rcases hr with ⟨rfl, rfl, rfl⟩ | ⟨rfl, rfl, rfl⟩ | ⟨rfl, rfl, rfl⟩
    · have hu : u = _ := hu; have hu' : u' = _ := hu'; subst hu; subst hu'; exact run_eq rfl rfl (guard_none (by simp) (by simp)) h
    · have hu : u = _ := hu; obtain ⟨_, _, _, rfl⟩ := hu'; subst hu; exact run_eq rfl rfl (guard_none (by simp) (by simp)) h
    · have hu' : u' = _ := hu'; obtain ⟨_, _, _, rfl⟩ := hu; subst hu'; exact run_eq rfl rfl (guard_none (by simp) (by simp)) h

theorem opEqN_ok {k : NilK} {neg : Bool} {x y : AV} (h : opEqN k neg x y hp nx = .ok v hp' nx') : hp' = hp ∧ nx' = nx ∧ ∀ m u u', AVR C m x u → AVR C m y u' → ∀ (t : Nat) (a b : Operand) (d : TypeDesc),
    P.underlying t = some d → nilT k d → Gives P C m (do eqGuard (eqOp neg) t a b u u'; binOp (eqOp neg) t u u') v := by
  obtain ⟨r, rfl, g⟩ := asS_ok h
  obtain ⟨s, rfl, g1⟩ := asS_ok g
  obtain ⟨b, g2, hb⟩ := bothNil_ok g1
  obtain ⟨rfl, rfl, rfl⟩ := okS_ok (boolK_ok g2)
  exact ⟨rfl, rfl, fun m u u' hu hu' t a a' d ht hd w => ⟨_, run_nilEq hd ht hb (nilOf_ok hu) (nilOf_ok hu') w neg a a', by show _ = _; rw [sameB_eq, notB_eq]⟩⟩
end
end Go.X
end

/-! The quiet operations: the others. -/
noncomputable section
namespace Go.X
section
variable {P : Program} {C : Ctx} {hp hp' : Hp} {nx nx' : Pid} {v : AV}

theorem opCat_ok {x y : AV} (h : opCat x y hp nx = .ok v hp' nx') : hp' = hp ∧ nx' = nx ∧ ∀ m u u', AVR C m x u → AVR C m y u' → ∀ (t : Nat), Gives P C m (binOp .add t u u') v := by
  obtain ⟨r, rfl, g⟩ := asStr_ok h
  obtain ⟨s, rfl, g1⟩ := asStr_ok g
  obtain ⟨q, g2, hq⟩ := appRK_ok (C := C) g1
  obtain ⟨hl, g3⟩ := ifB_ok g2
  have hl := ble_le hl
  rw [lenR_eq] at hl
  have hl : q.len ≤ 4611686018427387904 := hl
  obtain ⟨rfl, rfl, rfl⟩ := okS_ok g3
  refine ⟨rfl, rfl, fun m u u' hu hu' t w => ?_⟩
  obtain ⟨hr, rfl⟩ := AVR.str hu
  obtain ⟨hs, rfl⟩ := AVR.str hu'
  obtain ⟨ho, hd⟩ := hq hr hs
  refine ⟨.string (bs (q.den C)), ?_, ho, rfl⟩
  have h1 := Rope.den_length ho
  rw [hd, List.length_append] at h1
  have hsz : ¬ ((((bs (r.den C)).size + (bs (s.den C)).size : Nat) : Int) > IntKind.i64.max) := by
    rw [bs_size, bs_size, h1, show IntKind.i64.max = 9223372036854775807 from by decide]; omega
  rw [binOp_string_add, hd]
  unfold Op.stringOp
  simp only [if_neg hsz]
  show Result.ok _ _ = _
  congr 2
  try (apply ByteArray.ext; simp [bs])

theorem srAr_ok {r : Sr} (h : srAr r hp nx = .ok v hp' nx') : ∃ x, r = .ok x ∧ v = .s x ∧ hp' = hp ∧ nx' = nx := by
  cases r with
  | bad => cases h
  | ok x => obtain ⟨a, b, c⟩ := okS_ok (v := v) h; exact ⟨x, rfl, a, b, c⟩
theorem guard_int {op : BinOp} {t : Nat} {x y : Operand} {k k' : IntKind} {a b : Int} : eqGuard op t x y (.int k a) (.int k' b) = pure () := guard_none (by simp) (by simp) op

theorem kindEq_ok {k k' : IntKind} (h : kindEq k k' = true) : k = k' := by
  cases k <;> cases k' <;> first | rfl | cases h

theorem svInt_or {x : SV} {k : IntKind → Int → Ar} {z : Ar} (h : svInt x k z = .ok v hp' nx') : (∃ q n, x = .int q n ∧ k q n = .ok v hp' nx') ∨ z = .ok v hp' nx' := by
  cases x with
  | int q n => exact .inl ⟨q, n, rfl, h⟩
  | _ => exact .inr h
theorem svLin_ok {x : SV} {k : IntKind → Nat → Rng → Ar} (h : svLin x k .bad = .ok v hp' nx') : ∃ q i r, x = .lin q i r ∧ k q i r = .ok v hp' nx' := by
  cases x with
  | lin q i r => exact ⟨q, i, r, rfl, h⟩
  | _ => cases (show (Ar.bad : Ar) = _ from h)
theorem triAr_ok {t : Tri} (h : triAr t hp nx = .ok v hp' nx') : ∃ b, v = .s (.bool b) ∧ hp' = hp ∧ nx' = nx ∧ t = (if b then .yes else .no) := by
  cases t with
  | yes => obtain ⟨rfl, rfl, rfl⟩ := okS_ok (show okS (.bool true) hp nx = _ from h); exact ⟨true, rfl, rfl, rfl, rfl⟩
  | no => obtain ⟨rfl, rfl, rfl⟩ := okS_ok (show okS (.bool false) hp nx = _ from h); exact ⟨false, rfl, rfl, rfl, rfl⟩
  | unk => cases (show (Ar.bad : Ar) = _ from h)
/-- a truth of a number is known. -/
def Tells (t : Tri) (p : Bool) : Prop := (t = .yes → p = true) ∧ (t = .no → p = false)
theorem Tells.not {t : Tri} {p : Bool} (h : Tells t p) : Tells (tNot t) (!p) := by
  cases t with
  | yes => exact ⟨fun q => (by cases q), fun _ => by rw [h.1 rfl]; rfl⟩
  | no => exact ⟨fun _ => by rw [h.2 rfl]; rfl, fun q => (by cases q)⟩
  | unk => exact ⟨fun q => (by cases q), fun q => (by cases q)⟩
theorem Tells.unk {p : Bool} : Tells .unk p := ⟨fun q => (by cases q), fun q => (by cases q)⟩
theorem rLt_tells {r : Rng} {x b : Int} (h1 : r.lo ≤ x) (h2 : x ≤ r.hi) : Tells (rLt r b) (ltI x b) := by
  unfold rLt
  rw [ltI_eq, ltI_eq, ltI_eq]
  by_cases h : r.hi < b
  · rw [decide_eq_true h]; exact ⟨fun _ => by simp; omega, fun q => (by cases q)⟩
  · rw [decide_eq_false h]
    by_cases h' : r.lo < b
    · rw [decide_eq_true h']; exact .unk
    · rw [decide_eq_false h']; exact ⟨fun q => (by cases q), fun _ => by simp; omega⟩
theorem rLe_tells {r : Rng} {x b : Int} (h1 : r.lo ≤ x) (h2 : x ≤ r.hi) : Tells (rLe r b) (notB (ltI b x)) := by
  unfold rLe
  rw [ltI_eq, ltI_eq, ltI_eq, notB_eq]
  by_cases h : b < r.lo
  · rw [decide_eq_true h]; exact ⟨fun q => (by cases q), fun _ => by simp; omega⟩
  · rw [decide_eq_false h]
    by_cases h' : b < r.hi
    · rw [decide_eq_true h']; exact .unk
    · rw [decide_eq_false h']; exact ⟨fun _ => by simp; omega, fun q => (by cases q)⟩
theorem rEq_tells {r : Rng} {x b : Int} (h1 : r.lo ≤ x) (h2 : x ≤ r.hi) : Tells (rEq r b) (eqI x b) := by
  unfold rEq
  rw [ltI_eq, ltI_eq, eqI_eq]
  by_cases h : r.hi < b
  · rw [decide_eq_true h]; exact ⟨fun q => (by cases q), fun _ => by simp; omega⟩
  · rw [decide_eq_false h]
    by_cases h' : b < r.lo
    · rw [decide_eq_true h']; exact ⟨fun q => (by cases q), fun _ => by simp; omega⟩
    · rw [decide_eq_false h']; exact .unk
theorem eqI_comm (a b : Int) : eqI a b = eqI b a := by
  rw [eqI_eq, eqI_eq, Bool.eq_iff_iff, beq_iff_eq, beq_iff_eq]; exact ⟨Eq.symm, Eq.symm⟩
theorem tell_bin {op : BinOp} {k : IntKind} {a b : Int} {p c : Bool} (hb : binI op k a b = boolK p (fun r => .ok (.bool r))) {t : Tri} (ht : Tells t p) (h : t = (if c then .yes else .no)) : binI op k a b = .ok (.bool c) := by
  rw [hb, boolK_eq]
  cases c with
  | true => rw [ht.1 h]
  | false => rw [ht.2 h]
theorem cmpLC_ok {op : BinOp} {k : IntKind} {r : Rng} {x b : Int} {c : Bool} (h1 : r.lo ≤ x) (h2 : x ≤ r.hi) (h : cmpLC op r b = (if c then .yes else .no)) : binI op k x b = .ok (.bool c) := by
  have no : (Tri.unk) = (if c then .yes else .no) → binI op k x b = .ok (.bool c) := fun q => by cases c <;> cases q
  cases op with
  | eql => exact tell_bin (p := eqI x b) rfl (rEq_tells h1 h2) h
  | neq => exact tell_bin (p := notB (eqI x b)) rfl (by rw [notB_eq]; exact (rEq_tells h1 h2).not) h
  | lss => exact tell_bin (p := ltI x b) rfl (rLt_tells h1 h2) h
  | leq => exact tell_bin (p := notB (ltI b x)) rfl (rLe_tells h1 h2) h
  | gtr => exact tell_bin (p := ltI b x) rfl (by have := (rLe_tells h1 h2 (b := b)).not; rw [notB_eq, Bool.not_not] at this; exact this) h
  | geq => exact tell_bin (p := notB (ltI x b)) rfl (by rw [notB_eq]; exact (rLt_tells h1 h2).not) h
  | _ => exact no h
theorem cmpCL_ok {op : BinOp} {k : IntKind} {r : Rng} {x a : Int} {c : Bool} (h1 : r.lo ≤ x) (h2 : x ≤ r.hi) (h : cmpCL op a r = (if c then .yes else .no)) : binI op k a x = .ok (.bool c) := by
  have no : (Tri.unk) = (if c then .yes else .no) → binI op k a x = .ok (.bool c) := fun q => by cases c <;> cases q
  cases op with
  | eql => exact tell_bin (p := eqI a x) rfl (by rw [eqI_comm]; exact rEq_tells h1 h2) h
  | neq => exact tell_bin (p := notB (eqI a x)) rfl (by rw [notB_eq, eqI_comm]; exact (rEq_tells h1 h2).not) h
  | lss => exact tell_bin (p := ltI a x) rfl (by have := (rLe_tells h1 h2 (b := a)).not; rw [notB_eq, Bool.not_not] at this; exact this) h
  | leq => exact tell_bin (p := notB (ltI x a)) rfl (by rw [notB_eq]; exact (rLt_tells h1 h2).not) h
  | gtr => exact tell_bin (p := ltI x a) rfl (rLt_tells h1 h2) h
  | geq => exact tell_bin (p := notB (ltI a x)) rfl (rLe_tells h1 h2) h
  | _ => exact no h
theorem opBinI_ok {op : BinOp} {x y : AV} (h : opBinI op x y hp nx = .ok v hp' nx') : hp' = hp ∧ nx' = nx ∧ ∀ m u u', AVR C m x u → AVR C m y u' → ∀ (t : Nat) (a b : Operand),
    Gives P C m (do eqGuard op t a b u u'; binOp op t u u') v := by
  obtain ⟨x', rfl, h0⟩ := asS_ok h
  obtain ⟨y', rfl, h9⟩ := asS_ok h0
  have main : ∀ {q : IntKind} {a b : Int} {z : SV} (_ : binI op q a b = .ok z) (m : Mp) (t : Nat) (x y : Operand), Gives P C m (do eqGuard op t x y (.int q a) (.int q b); binOp op t (.int q a) (.int q b)) (.s z) := fun {q a b z} hz m t x y w => by
    obtain ⟨u, e, hr⟩ := binI_ok (P := P) hz t w
    exact ⟨u, by rw [guard_int]; exact e, hr C m⟩
  rcases svInt_or h9 with ⟨q, a, rfl, g⟩ | g
  · rcases svInt_or g with ⟨q', b, rfl, g1⟩ | g1
    · obtain ⟨hk, g2⟩ := ifB_ok g1
      have hk := kindEq_ok hk
      obtain ⟨z, hz, rfl, rfl, rfl⟩ := srAr_ok g2
      refine ⟨rfl, rfl, fun m u u' hu hu' t x y => ?_⟩
      have hu := AVR.int hu; subst hu
      have hu' := AVR.int hu'; subst hu'
      subst hk
      exact main hz m t x y
    · obtain ⟨q', i, r, rfl, g2⟩ := svLin_ok g1
      obtain ⟨hk, g3⟩ := ifB_ok g2
      have hk := kindEq_ok hk
      obtain ⟨c, rfl, rfl, rfl, ht⟩ := triAr_ok g3
      refine ⟨rfl, rfl, fun m u u' hu hu' t x y => ?_⟩
      have hu := AVR.int hu; subst hu
      obtain ⟨hu', h1, h2⟩ := (show u' = .int q' (C.x i) ∧ r.lo ≤ C.x i ∧ C.x i ≤ r.hi from hu'); subst hu'
      subst hk
      exact main (cmpCL_ok h1 h2 ht) m t x y
  · obtain ⟨q, i, r, rfl, g1⟩ := svLin_ok g
    obtain ⟨q', b, rfl, g2⟩ := svInt_ok g1
    obtain ⟨hk, g3⟩ := ifB_ok g2
    have hk := kindEq_ok hk
    obtain ⟨c, rfl, rfl, rfl, ht⟩ := triAr_ok g3
    refine ⟨rfl, rfl, fun m u u' hu hu' t x y => ?_⟩
    obtain ⟨hu, h1, h2⟩ := (show u = .int q (C.x i) ∧ r.lo ≤ C.x i ∧ C.x i ≤ r.hi from hu); subst hu
    have hu' := AVR.int hu'; subst hu'
    subst hk
    exact main (cmpLC_ok h1 h2 ht) m t x y
theorem opSh_ok {op : BinOp} {x y : AV} (h : opSh op x y hp nx = .ok v hp' nx') : hp' = hp ∧ nx' = nx ∧ ∀ m u u', AVR C m x u → AVR C m y u' → ∀ (t : Nat) (a b : Operand),
    Gives P C m (do eqGuard op t a b u u'; binOp op t u u') v := by
  obtain ⟨q, a, rfl, g⟩ := asInt_ok h
  obtain ⟨q', b, rfl, g1⟩ := asInt_ok g
  obtain ⟨z, hz, rfl, rfl, rfl⟩ := srAr_ok g1
  refine ⟨rfl, rfl, fun m u u' hu hu' t x y w => ?_⟩
  have hu := AVR.int hu; subst hu
  have hu' := AVR.int hu'; subst hu'
  obtain ⟨u, e, hr⟩ := shI_ok (P := P) (kd' := q') hz t w
  exact ⟨u, by rw [guard_int]; exact e, hr C m⟩
theorem opNot_ok {x : AV} (h : opNot x hp nx = .ok v hp' nx') : hp' = hp ∧ nx' = nx ∧ ∀ m u, AVR C m x u → Gives P C m (Op.unary .not u) v := by
  obtain ⟨b, rfl, g⟩ := asBool_ok h
  obtain ⟨rfl, rfl, rfl⟩ := okS_ok (boolK_ok g)
  refine ⟨rfl, rfl, fun m u hu w => ?_⟩
  have hu := AVR.bool hu; subst hu
  exact ⟨.bool !b, rfl, by show _ = _; rw [notB_eq]⟩
theorem opNeg_ok {x : AV} (h : opNeg x hp nx = .ok v hp' nx') : hp' = hp ∧ nx' = nx ∧ ∀ m u, AVR C m x u → Gives P C m (Op.unary .neg u) v := by
  obtain ⟨k, a, rfl, g⟩ := asInt_ok h
  rw [wrapK_eq] at g
  obtain ⟨rfl, rfl, rfl⟩ := okS_ok g
  refine ⟨rfl, rfl, fun m u hu w => ?_⟩
  have hu := AVR.int hu; subst hu
  refine ⟨.int k (k.wrap (0 - a)), rfl, ?_⟩
  show _ = _
  rw [Int.zero_sub]; rfl
theorem opCvi_ok {k : IntKind} {x : AV} (h : opCvi k x hp nx = .ok v hp' nx') : hp' = hp ∧ nx' = nx ∧ ∀ m u, AVR C m x u → ∀ (s d : Nat) (q : TypeDesc), P.underlying s = some q → P.underlying d = some (.int k) → Gives P C m (convert s d u) v := by
  obtain ⟨q, a, rfl, g⟩ := asInt_ok h
  rw [wrapK_eq] at g
  obtain ⟨rfl, rfl, rfl⟩ := okS_ok g
  refine ⟨rfl, rfl, fun m u hu s d q hs hd w => ?_⟩
  have hu := AVR.int hu; subst hu
  exact ⟨.int k (k.wrap a), by simp [convert, run_underlying hs, run_underlying hd, Conv.intToInt], rfl⟩
theorem opPick_ok {c x y : AV} (h : opPick c x y hp nx = .ok v hp' nx') : hp' = hp ∧ nx' = nx ∧ ∀ m u a b, AVR C m c u → AVR C m x a → AVR C m y b → Gives P C m (do pure (if ← _root_.Go.asBool u then a else b)) v := by
  obtain ⟨r, rfl, g⟩ := asBool_ok h
  cases r with
  | true =>
    obtain ⟨rfl, rfl, rfl⟩ := opMov_ok (v := v) g
    refine ⟨rfl, rfl, fun m u a b hu ha hb w => ?_⟩
    have hu := AVR.bool hu; subst hu
    exact ⟨a, by simp [_root_.Go.asBool], ha⟩
  | false =>
    obtain ⟨rfl, rfl, rfl⟩ := opMov_ok (v := v) g
    refine ⟨rfl, rfl, fun m u a b hu ha hb w => ?_⟩
    have hu := AVR.bool hu; subst hu
    exact ⟨b, by simp [_root_.Go.asBool], hb⟩
theorem V1R.av {m : Mp} {x : V1} {u : Value} (h : V1R C m x u) : AVR C m (v1AV x) u := by cases x <;> exact h
theorem V1R.of_av {m : Mp} {x : V1} {u : Value} (h : AVR C m (v1AV x) u) : V1R C m x u := by cases x <;> exact h
theorem TupR.get {m : Mp} {l : List V1} : ∀ {vs : List Value} {i : Nat} {x : V1}, TupR C m l vs → l[i]? = some x → ∃ u, vs[i]? = some u ∧ V1R C m x u := by
  induction l with
  | nil => intro vs i x _ hx; cases hx
  | cons y l ih =>
    intro vs i x h hx
    cases vs with
    | nil => exact h.elim
    | cons u vs =>
      cases i with
      | zero => simp only [List.getElem?_cons_zero, Option.some.injEq] at hx; subst hx; exact ⟨u, rfl, h.1⟩
      | succ i => simp only [List.getElem?_cons_succ] at hx ⊢; exact ih h.2 hx
theorem opExt_ok {x : AV} {i : Nat} (h : opExt i x hp nx = .ok v hp' nx') : hp' = hp ∧ nx' = nx ∧ ∀ m u, AVR C m x u → Gives P C m (Instr.extract u i) v := by
  obtain ⟨l, rfl, g⟩ := asT_ok h
  obtain ⟨y, hy, g1⟩ := nthK_ok g
  obtain ⟨rfl, rfl, rfl⟩ := ok_ok g1
  refine ⟨rfl, rfl, fun m u hu w => ?_⟩
  obtain ⟨vs, rfl, hl⟩ := hu
  obtain ⟨z, hz, hr⟩ := hl.get hy
  exact ⟨z, by simp [Instr.extract, hz], hr.av⟩
theorem opLenStr_ok {x : AV} (h : opLenStr x hp nx = .ok v hp' nx') : hp' = hp ∧ nx' = nx ∧ ∀ m u, AVR C m x u → ∀ (t ty : Nat), P.underlying t = some .string → Gives P C m (Builtin.len_ #[t] ty #[u]) v := by
  obtain ⟨r, rfl, g⟩ := asStr_ok h
  rw [forceN_eq, lenR_eq] at g
  obtain ⟨rfl, rfl, rfl⟩ := okS_ok g
  refine ⟨rfl, rfl, fun m u hu t ty ht w => ?_⟩
  obtain ⟨hr, rfl⟩ := AVR.str hu
  refine ⟨.int .i64 r.len, ?_, rfl⟩
  simp [Builtin.len_, run_underlying ht, goInt, bs_size, Rope.den_length hr]
theorem opLenSlc_ok {x : AV} (h : opLenSlc x hp nx = .ok v hp' nx') : hp' = hp ∧ nx' = nx ∧ ∀ m u, AVR C m x u → ∀ (t ty e : Nat), P.underlying t = some (.slice e) → Gives P C m (Builtin.len_ #[t] ty #[u]) v := by
  obtain ⟨x, rfl, g⟩ := asS_ok h
  rcases svSlc_ok g with ⟨b, o, l, c, rfl, g1⟩ | ⟨b, o, rfl, g1⟩ | ⟨rfl, g1⟩
  · obtain ⟨rfl, rfl, rfl⟩ := okS_ok g1
    refine ⟨rfl, rfl, fun m u hu t ty e ht w => ?_⟩
    obtain ⟨a, k, rfl⟩ := slc_some hu
    exact ⟨.int .i64 l, by simp [Builtin.len_, run_underlying ht, goInt], rfl⟩
  · obtain ⟨rfl, rfl, rfl⟩ := okS_ok g1
    refine ⟨rfl, rfl, fun m u hu t ty e ht w => ?_⟩
    obtain ⟨a, k, rfl⟩ := slz_some hu
    exact ⟨.int .i64 0, by simp [Builtin.len_, run_underlying ht, goInt], rfl⟩
  · obtain ⟨rfl, rfl, rfl⟩ := okS_ok g1
    refine ⟨rfl, rfl, fun m u hu t ty e ht w => ?_⟩
    have hu : u = _ := hu; subst hu
    exact ⟨.int .i64 0, by simp [Builtin.len_, run_underlying ht, goInt], rfl⟩
theorem opCap_ok {x : AV} (h : opCap x hp nx = .ok v hp' nx') : hp' = hp ∧ nx' = nx ∧ ∀ m u, AVR C m x u → ∀ (t ty e : Nat), P.underlying t = some (.slice e) → Gives P C m (Builtin.cap_ #[t] ty #[u]) v := by
  obtain ⟨x, rfl, g⟩ := asS_ok h
  rcases svSlc_ok g with ⟨b, o, l, c, rfl, g1⟩ | ⟨b, o, rfl, g1⟩ | ⟨rfl, g1⟩
  · cases c with
    | op e => cases g1
    | kn c =>
      obtain ⟨rfl, rfl, rfl⟩ := okS_ok (v := v) g1
      refine ⟨rfl, rfl, fun m u hu t ty e ht w => ?_⟩
      have hu : SlcR m b o l (.kn c) u := hu
      obtain ⟨a, k, rfl⟩ := slc_some hu
      have := (slcR_cap hu).1 c rfl
      subst this
      exact ⟨.int .i64 k, by simp [Builtin.cap_, run_underlying ht, goInt], rfl⟩
  · cases g1
  · obtain ⟨rfl, rfl, rfl⟩ := okS_ok g1
    refine ⟨rfl, rfl, fun m u hu t ty e ht w => ?_⟩
    have hu : u = _ := hu; subst hu
    exact ⟨.int .i64 0, by simp [Builtin.cap_, run_underlying ht, goInt], rfl⟩

/-- what stands for a list of values. -/
def ArgsR (C : Ctx) (m : Mp) : List AV → List Value → Prop
  | [], [] => True
  | x :: l, v :: vs => AVR C m x v ∧ ArgsR C m l vs
  | _, _ => False
theorem capsOf_ok {l : List AV} : ∀ {k : List (Pid × Nat) → Ar}, capsOf l k .bad = .ok v hp' nx' → ∃ c, k c = .ok v hp' nx' ∧ ∀ (m : Mp) (us : List Value), ArgsR C m l us → CapsR m c us := by
  induction l with
  | nil => intro k h; exact ⟨[], h, fun m us hu => by cases us with | nil => trivial | cons _ _ => exact hu.elim⟩
  | cons x l ih =>
    intro k h
    obtain ⟨b, o, rfl, g⟩ := asPtr_ok (x := x) h
    obtain ⟨c, g1, hc⟩ := ih g
    refine ⟨(b, o) :: c, g1, fun m us hu => ?_⟩
    cases us with
    | nil => exact hu.elim
    | cons u us => exact ⟨hu.1, hc m us hu.2⟩
theorem opMkfn_ok {f : Nat} {l : List AV} (h : opMkfn f l hp nx = .ok v hp' nx') : hp' = hp ∧ nx' = nx ∧ ∀ m us, ArgsR C m l us → AVR C m v (.func (.func f) #[] us.toArray) := by
  obtain ⟨c, g, hc⟩ := capsOf_ok (C := C) h
  obtain ⟨rfl, rfl, rfl⟩ := okS_ok g
  exact ⟨rfl, rfl, fun m us hu => ⟨us, rfl, hc m us hu⟩⟩
end
end Go.X
end

/-! Parts laid together; new blocks. -/
noncomputable section
namespace Go.X
section
variable {P : Program} {C : Ctx} {hp hp' : Hp} {nx nx' : Pid} {v : AV}

theorem fold_lay (vs : List Value) : ∀ (cs : Array Value) (off k : Nat), off + k + vs.length ≤ cs.size →
    ((vs.zipIdx k).foldl (fun cs (x : Value × Nat) => cs.setIfInBounds (off + x.2) x.1) cs).toList = layL cs.toList (off + k) vs := by
  induction vs with
  | nil => intro cs off k h; simp [layL]
  | cons v vs ih =>
    intro cs off k h
    simp only [List.length_cons] at h
    rw [List.zipIdx_cons, List.foldl_cons, ih _ _ _ (by simp; omega)]
    simp only [Array.toList_setIfInBounds]
    exact layL_cons _ _ _ _ (by simp; omega)

theorem fill_one {place : Nat → Option (Nat × Nat)} {cells : Array Value} {i off size : Nat} {v : Value} {rest : List (Nat × Value)} (hp : place i = some (off, size)) (hs : v.cells.size = size) (ho : off + size ≤ cells.size) :
    ∃ c : Array Value, c.toList = layL cells.toList off v.cells.toList ∧ c.size = cells.size ∧ Instr.fill place cells ((i, v) :: rest) = Instr.fill place c rest := by
  have e := fold_lay v.cells.toList cells off 0 (by simp; omega)
  rw [← Array.toList_zipIdx, Array.foldl_toList] at e
  have e2 := congrArg List.length e
  refine ⟨v.cells.zipIdx.foldl (fun cs (x : Value × Nat) => cs.setIfInBounds (off + x.2) x.1) cells, by simpa using e, ?_, ?_⟩
  · simp only [Array.length_toList] at e2
    rw [e2]; simp [layL]; omega
  · rw [Instr.fill, hp]
    simp only []
    rw [if_neg (by simp; omega)]

def PartsR (C : Ctx) (m : Mp) (place : Nat → Option (Nat × Nat)) : List (Nat × Nat × AV) → List (Nat × Value) → Prop
  | [], [] => True
  | (off, size, x) :: ps, (i, v) :: qs => place i = some (off, size) ∧ AVR C m x v ∧ PartsR C m place ps qs
  | _, _ => False

theorem cells_one {u : Value} (h : u.oneCell' = true) : u.cells = #[u] := by cases u <;> first | rfl | cases h
theorem svR_list {m : Mp} {x : SV} {u : Value} (h : SVR C m x u) (hx : x ≠ .un) : ListR C m [x] u.cells.toList := by
  have := h.one hx
  rw [cells_one this]
  exact ⟨h, this, trivial⟩

theorem fill1_ok {l : List SV} {off size : Nat} {x : AV} {k : List SV → Ar} (h : fill1 l off size x k .bad = .ok v hp' nx') :
    ∃ y : List SV, off + y.length ≤ l.length ∧ y.length = size ∧ k (layL l off y) = .ok v hp' nx' ∧ ∀ (m : Mp) u, AVR C m x u → ListR C m y u.cells.toList := by
  cases x with
  | s x =>
    obtain ⟨h1, g⟩ := ifB_ok h
    obtain ⟨h2, g1⟩ := svKnown_ok g
    obtain ⟨h3, g2⟩ := layAtK_ok g1
    exact ⟨[x], h3, (beq_eq h1).symm, g2, fun m u hu => svR_list hu h2⟩
  | a y =>
    obtain ⟨h1, g⟩ := ifB_ok h
    obtain ⟨h3, g2⟩ := layAtK_ok g
    have h1 := beq_eq h1
    rw [lenK_eq] at h1
    refine ⟨y, h3, h1, g2, fun m u hu => ?_⟩
    obtain ⟨vs, rfl, hl⟩ := hu
    exact hl
  | t y => cases h

theorem fillK_ok {ps : List (Nat × Nat × AV)} : ∀ {l : List SV} {k : List SV → Ar}, fillK ps l k .bad = .ok v hp' nx' →
    ∃ l', k l' = .ok v hp' nx' ∧ l'.length = l.length ∧ ∀ (m : Mp) (place : Nat → Option (Nat × Nat)) (cells : Array Value) (qs : List (Nat × Value)), ListR C m l cells.toList → PartsR C m place ps qs →
      ∃ cells', Instr.fill place cells qs = some cells' ∧ ListR C m l' cells'.toList := by
  induction ps with
  | nil =>
    intro l k h
    refine ⟨l, h, rfl, fun m place cells qs hl hp => ?_⟩
    cases qs with
    | nil => exact ⟨cells, rfl, hl⟩
    | cons _ _ => exact hp.elim
  | cons p ps ih =>
    intro l k h
    obtain ⟨off, size, x⟩ := p
    obtain ⟨y, h1, h2, g, hy⟩ := fill1_ok (C := C) (v := v) (hp' := hp') (nx' := nx') (l := l) (off := off) (size := size) (x := x) h
    obtain ⟨l', g1, h3, hf⟩ := ih g
    refine ⟨l', g1, by rw [h3]; simp [layL]; omega, fun m place cells qs hl hp => ?_⟩
    cases qs with
    | nil => exact hp.elim
    | cons q qs =>
      obtain ⟨ha, hb, hc⟩ := hp
      have hyl := hy m q.2 hb
      have hlen := hyl.length
      have hlc := hl.length
      simp only [Array.length_toList] at hlen hlc
      obtain ⟨c, e1, e2, e3⟩ := fill_one (cells := cells) (v := q.2) (rest := qs) ha (by omega) (by omega)
      obtain ⟨c', e4, e5⟩ := hf m place c qs (by rw [e1]; exact hl.lay _ hyl) hc
      exact ⟨c', by rw [← e4, ← e3], e5⟩

theorem opBuild_ok {z : List SV} {ps : List (Nat × Nat × AV)} (h : opBuild z ps hp nx = .ok v hp' nx') : hp' = hp ∧ nx' = nx ∧ ∀ m (place : Nat → Option (Nat × Nat)) (cells : Array Value) qs, ListR C m z cells.toList → PartsR C m place ps qs →
    ∃ c, Instr.fill place cells qs = some c ∧ AVR C m v (.agg c) := by
  obtain ⟨l', g, _, hf⟩ := fillK_ok (C := C) h
  obtain ⟨rfl, rfl, rfl⟩ := ok_ok g
  refine ⟨rfl, rfl, fun m place cells qs hl hp => ?_⟩
  obtain ⟨c, e, hr⟩ := hf m place cells qs hl hp
  exact ⟨c, e, c.toList, by simp, hr⟩
end
end Go.X
end

/-! New blocks. -/
noncomputable section
namespace Go.X
open Go.RowKit (Below)

/-- the world has one more block. -/
structure NewW (w w' : World) (x : Go.Obj) : Prop where
  heap : w'.heap = w.heap.push x
  os : w'.os = w.os
  tape : w'.tape = w.tape
  output : w'.output = w.output

theorem NewW.alloc (w : World) (x : Go.Obj) : NewW w (w.alloc x) x := ⟨rfl, rfl, rfl, rfl⟩
theorem NewW.size {w w' : World} {x : Go.Obj} (h : NewW w w' x) : w'.heap.size = w.heap.size + 1 := by rw [h.heap, Array.size_push]
theorem NewW.old {w w' : World} {x : Go.Obj} (h : NewW w w' x) {k : Nat} (hk : k < w.heap.size) : w'.heap[k]? = w.heap[k]? := by
  rw [h.heap, Array.getElem?_push_lt hk, Array.getElem?_eq_getElem hk]
theorem NewW.new {w w' : World} {x : Go.Obj} (h : NewW w w' x) : w'.heap[w.heap.size]? = some x := by
  rw [h.heap]; simp

section
variable {P : Program} {C : Ctx} {base : Nat} {m : Mp} {hp hp' : Hp} {nx nx' : Pid} {w w' : World}

/-- a new block takes a name's place. -/
theorem SR.place (h : SR P C base m hp nx w) {p : Pid} (hm : m p = .un) {x : Go.Obj} (hw : NewW w w' x) {o : Obj} (ho : get5 p hp' = o) (hk : ∀ q, q ≠ p → get5 q hp' = get5 q hp)
    (hf : ∀ q : Pid, nx'.num ≤ q.num → q ≠ p ∧ nx.num ≤ q.num) {N es : Nat} (hx : ObjR P C m w' w.heap.size 0 N es o) :
    SR P C base (upd m p (.live w.heap.size 0 N es)) hp' nx' w' ∧ Ext m (upd m p (.live w.heap.size 0 N es)) ∧ Below base w w' := by
  have e : Ext m (upd m p (.live w.heap.size 0 N es)) := .fresh hm
  have hs := hw.size
  refine ⟨⟨fun q B δ N' es' hq => ?_, fun q hq => ?_, fun q hq => ?_, fun q r B δ δ' N N' es es' hq hr => ?_, ?_, fun q hq => by obtain ⟨h1, h2⟩ := hf q hq; rw [hk q h1]; exact h.clean q h2⟩, e, ⟨hw.os, hw.tape, hw.output, by omega, fun k hk => hw.old (Nat.lt_of_lt_of_le hk h.base)⟩⟩
  · by_cases hqp : q = p
    · subst hqp
      rw [upd_same] at hq; injection hq with a b c d; subst a; subst b; subst c; subst d
      refine ⟨h.base, by omega, ?_⟩
      rw [ho]; exact hx.ext e rfl
    · rw [upd_other hqp] at hq
      obtain ⟨h1, h2, h3⟩ := h.live _ _ _ _ _ hq
      rw [hk q hqp]
      exact ⟨h1, by omega, h3.ext e (hw.old h2)⟩
  · have hqp : q ≠ p := fun hqp => by subst hqp; rw [upd_same] at hq; cases hq
    rw [upd_other hqp] at hq
    rw [hk q hqp]; exact h.dead q hq
  · obtain ⟨h1, h2⟩ := hf q hq
    rw [upd_other h1]; exact h.fresh q h2
  · by_cases h1 : q = p <;> by_cases h2 : r = p
    · rw [h1, h2]
    · subst h1; rw [upd_same] at hq; rw [upd_other h2] at hr; injection hq with a
      have := (h.live _ _ _ _ _ hr).2.1; omega
    · subst h2; rw [upd_same] at hr; rw [upd_other h1] at hq; injection hr with a
      have := (h.live _ _ _ _ _ hq).2.1; omega
    · rw [upd_other h1] at hq; rw [upd_other h2] at hr; exact h.inj _ _ _ _ _ _ _ _ _ hq hr
  · have := h.base; omega

/-- a new block, under the next name. -/
theorem SR.new (h : SR P C base m hp nx w) (hn : nx'.num = nx.num + 1) {x : Go.Obj} (hw : NewW w w' x) {o : Obj} {N es : Nat} (hx : ObjR P C m w' w.heap.size 0 N es o) :
    Good P C base m hp nx w (upd m nx (.live w.heap.size 0 N es)) (put5 nx o hp) nx' w' := by
  obtain ⟨a, b, c⟩ := h.place (h.fresh nx (Nat.le_refl _)) hw (hp' := put5 nx o hp) (nx' := nx') (by rw [get5_put5, if_pos rfl]) (fun q hq => by rw [get5_put5, if_neg hq]) (fun q hq => ⟨fun e => by subst e; omega, by omega⟩) hx
  exact ⟨a, b, c, fun p hp hl => by
    have hq : p ≠ nx := fun hq => by subst hq; omega
    rw [upd_other hq, get5_put5, if_neg hq]; exact ⟨hp, rfl⟩, by omega⟩

/-- what an operation that makes a block gives. -/
def News (P : Program) (C : Ctx) (m : Mp) (s : Sem Value) (nx : Pid) (o : Obj) (v : AV) : Prop := ∀ w : World, ∃ u w' x N es, s.run P w = .ok u w' ∧ NewW w w' x ∧ ObjR P C m w' w.heap.size 0 N es o ∧
  ∀ m' : Mp, m' nx = .live w.heap.size 0 N es → AVR C m' v u

theorem newO_ok {o : Obj} {x v : AV} (h : newO o x hp nx = .ok v hp' nx') : v = x ∧ hp' = put5 nx o hp ∧ nx'.num = nx.num + 1 := by
  unfold newO at h
  rw [setHp_eq, sucF_eq] at h
  rcases sucK_or nx (fun nx => Ar.ok x (put5 (nx) o hp) nx) .bad with ⟨q, hq, e⟩ | e
  · rcases sucK_or nx (fun q => Ar.ok x (put5 nx o hp) q) .bad with ⟨q, hq, e⟩ | e
    · rw [e] at h; obtain ⟨a, b, c⟩ := ok_ok h; exact ⟨a, b, by rw [c]; exact hq⟩
    · rw [e] at h; cases h
  · rcases sucK_or nx (fun q => Ar.ok x (put5 nx o hp) q) .bad with ⟨q, hq, e⟩ | e
    · rw [e] at h; obtain ⟨a, b, c⟩ := ok_ok h; exact ⟨a, b, by rw [c]; exact hq⟩
    · rw [e] at h; cases h

/-- a new row, all of it known. -/
theorem objNew {c : Array Value} {t : Nat} (hw : NewW w w' (.cells c t)) {l : List SV} (hl : ListR C m l c.toList) (es : Nat) : ObjR P C m w' w.heap.size 0 l.length es (.cells t true true l) := by
  have hn := hl.length
  refine ⟨c, (0, 0), hw.new, fun _ => rfl, by simpa using hn.symm, by omega, fun _ => by omega, fun h => (nomatch h), ?_⟩
  rw [List.drop_zero, hn, List.take_length]; exact hl

/-- what is known of a type's zero value. -/
def ZeroR (P : Program) (C : Ctx) (t : Nat) (z : List SV) : Prop := ∃ i v, P.info? t = some i ∧ i.zero = some v ∧ ∀ m, ListR C m z v.cells.toList

theorem opAlloc_ok {t : Nat} {z : List SV} {v : AV} (h : opAlloc t z hp nx = .ok v hp' nx') : ∃ o, hp' = put5 nx o hp ∧ nx'.num = nx.num + 1 ∧ ∀ m, ZeroR P C t z → News P C m (Instr.alloc t true (.tuple #[])) nx o v := by
  obtain ⟨rfl, h1, h2⟩ := newO_ok h
  refine ⟨_, h1, h2, fun m hz w => ?_⟩
  obtain ⟨i, u, hi, hz, hl⟩ := hz
  refine ⟨.pointer (some ⟨w.heap.size, 0, none⟩), w.alloc (.cells u.cells t), .cells u.cells t, z.length, 0, ?_, .alloc _ _, objNew (.alloc _ _) (hl m) 0, fun m' hm => ?_⟩
  · simp [Instr.alloc, zeroValue, typeInfo, hi, hz, newVar, newRow]
  · show PtrR m' nx 0 _; unfold PtrR; rw [hm]

theorem opBox_ok {t : Nat} {x : AV} {v : AV} (h : opBox t x hp nx = .ok v hp' nx') : ∃ o, hp' = put5 nx o hp ∧ nx'.num = nx.num + 1 ∧ ∀ m u, AVR C m x u → News P C m (Instr.box t u) nx o v := by
  have fin : ∀ (l : List SV), newO (.cells t true true l) (.s (.ptr nx 0)) hp nx = .ok v hp' nx' → (∀ m u, AVR C m x u → ListR C m l u.cells.toList) →
      ∃ o, hp' = put5 nx o hp ∧ nx'.num = nx.num + 1 ∧ ∀ m u, AVR C m x u → News P C m (Instr.box t u) nx o v := fun l h hl => by
    obtain ⟨rfl, h1, h2⟩ := newO_ok h
    refine ⟨_, h1, h2, fun m u hu w => ?_⟩
    refine ⟨.pointer (some ⟨w.heap.size, 0, none⟩), w.alloc (.cells u.cells t), .cells u.cells t, l.length, 0, ?_, .alloc _ _, objNew (.alloc _ _) (hl m u hu) 0, fun m' hm => ?_⟩
    · simp [Instr.box, newVar, newRow]
    · show PtrR m' nx 0 _; unfold PtrR; rw [hm]
  cases x with
  | s y => obtain ⟨h1, g⟩ := svKnown_ok h; exact fin [y] g (fun m u hu => svR_list hu h1)
  | a l => exact fin l h (fun m u hu => by obtain ⟨vs, rfl, hl⟩ := hu; exact hl)
  | t l => cases h

/-- a list, so many times: as the model spells it. -/
theorem times_eq (z : Array Value) (n : Nat) : ((Array.range (n * z.size)).map (z[· % z.size]!)).toList = (List.replicate n z.toList).flatten := by
  induction n with
  | zero => simp
  | succ n ih =>
    rw [List.replicate_succ', List.flatten_append, ← ih, Nat.succ_mul]
    simp only [List.flatten_cons, List.flatten_nil, List.append_nil]
    apply List.ext_getElem?
    intro k
    simp only [Array.toList_map, Array.toList_range, List.getElem?_map, List.getElem?_append, List.length_map, List.length_range]
    by_cases h : k < n * z.size
    · rw [if_pos h, List.getElem?_range (by omega), List.getElem?_range h]
    · rw [if_neg h]
      by_cases h2 : k < n * z.size + z.size
      · rw [List.getElem?_range h2]
        have hm : k % z.size = k - n * z.size := by
          obtain ⟨j, rfl⟩ : ∃ j, k = j + z.size * n := ⟨k - n * z.size, by rw [Nat.mul_comm z.size n]; omega⟩
          rw [Nat.add_mul_mod_self_left, Nat.mul_comm z.size n, Nat.add_sub_cancel, Nat.mod_eq_of_lt]
          rw [Nat.mul_comm z.size n] at h2; omega
        simp only [Option.map_some, hm]
        rw [Array.getElem?_toList, Array.getElem?_eq_getElem (by omega), getElem!_pos z _ (by omega)]
      · rw [List.getElem?_eq_none (by simp; omega), Array.getElem?_toList, Array.getElem?_eq_none (by omega)]; rfl

theorem run_buildSlice_nil {t e : Nat} {ie : TypeInfo} (hu : P.underlying t = some (.slice e)) (hie : P.info? e = some ie) : (Instr.buildSlice t 0 #[]).run P w = .ok (.slice (some ⟨w.heap.size, 0, none⟩) 0 0) (w.alloc (.cells #[] e)) := by
  simp [Instr.buildSlice, run_underlying hu, sizeOf, typeInfo, hie, newRow, Instr.fill, Array.range_zero']

theorem opBslice_ok {t len : Nat} {z : List SV} {ps : List (Nat × Nat × AV)} {v : AV} (h : opBslice t len z ps hp nx = .ok v hp' nx') : ∃ o, hp' = put5 nx o hp ∧ nx'.num = nx.num + 1 ∧
    ∀ (m : Mp) (qs : Array (Nat × Value)) (ty n : Nat), PartsR C m (fun i => some (i * n, n)) ps qs.toList → ZeroR P C t z → P.underlying ty = some (.slice t) → szOf P t = some n → z.length = n → ((1 ≤ len * n ∧ len * n ≤ 2 ^ 24) ∨ (len = 0 ∧ ps = [])) → News P C m (Instr.buildSlice ty len qs) nx o v := by
  unfold opBslice at h
  rw [timesK_eq] at h
  obtain ⟨l', g, hl, hf⟩ := fillK_ok (C := C) h
  obtain ⟨rfl, h1, h2⟩ := newO_ok g
  refine ⟨_, h1, h2, fun m qs ty n hp hz ht hs hn h3 w => ?_⟩
  obtain ⟨i, u, hi, hz, hzl⟩ := hz
  have hsz : i.size = n := by unfold szOf at hs; rw [hi] at hs; simpa using hs
  have hll : l'.length = len * n := by rw [hl]; simp [hn]
  rcases h3 with ⟨h3, h4⟩ | ⟨rfl, rfl⟩
  · have hzs : u.cells.size = n := by have := (hzl m).length; simp at this; omega
    obtain ⟨c, e, hr⟩ := hf m (fun i => some (i * n, n)) ((Array.range (len * n)).map (u.cells[· % u.cells.size]!)) qs.toList (by
      rw [← hzs, times_eq]; exact (hzl m).flatten len) hp
    have hrun := run_buildSlice (P := P) w ty t len qs c i u ht hi hz (by rw [hsz]; omega) (by rw [hsz]; omega) (by rw [hsz]; exact e)
    refine ⟨_, _, _, l'.length, n, hrun, .alloc _ _, objNew (.alloc _ _) hr n, fun m' hm => ?_⟩
    show SlcR m' nx 0 len (.kn len) _
    unfold SlcR; rw [hm]
    exact ⟨len, rfl, Nat.le_refl _, rfl⟩
  · have hq : qs = #[] := by
      cases hq : qs.toList with
      | nil => simpa using hq
      | cons a b => rw [hq] at hp; exact hp.elim
    subst hq
    have hl0 : l' = [] := List.eq_nil_of_length_eq_zero (by omega)
    subst hl0
    refine ⟨_, _, _, 0, n, run_buildSlice_nil ht hi, .alloc _ _, objNew (.alloc w (.cells #[] t)) (l := []) trivial n, fun m' hm => ?_⟩
    show SlcR m' nx 0 0 (.kn 0) _
    unfold SlcR; rw [hm]
    exact ⟨0, rfl, Nat.le_refl _, rfl⟩

theorem opMkslice_ok {t : Nat} {z : List SV} {x y : AV} {v : AV} (h : opMkslice t z x y hp nx = .ok v hp' nx') : ∃ o, hp' = put5 nx o hp ∧ nx'.num = nx.num + 1 ∧
    ∀ (m : Mp) a b (ty : Nat) i, AVR C m x a → AVR C m y b → ZeroR P C t z → P.underlying ty = some (.slice t) → P.info? t = some i → i.bytes ≤ 2147483648 → z.length = i.size → News P C m (Instr.makeSlice ty a b) nx o v := by
  obtain ⟨q, n, rfl, g⟩ := asNat_ok h
  obtain ⟨q', k, rfl, g1⟩ := asNat_ok g
  obtain ⟨h1, g2⟩ := ifB_ok g1
  obtain ⟨h1, h2⟩ := cand_true h1
  have h1 := ble_le h1
  have h2 : k ≤ 100000 := ble_le h2
  rw [timesK_eq] at g2
  obtain ⟨rfl, h3, h4⟩ := newO_ok g2
  refine ⟨_, h3, h4, fun m a b ty i ha hb hz ht hi hby hn w => ?_⟩
  have ha := AVR.int ha; subst ha
  have hb := AVR.int hb; subst hb
  obtain ⟨j, u, hj, hz, hzl⟩ := hz
  rw [hi] at hj; injection hj with hj; subst hj
  have hzs : u.cells.size = i.size := by have := (hzl m).length; simp at this; omega
  have hb2 : (i.bytes : Int) * k ≤ 281474976710656 := by
    have : i.bytes * k ≤ 2147483648 * 100000 := Nat.mul_le_mul hby h2
    omega
  have hrun := run_make (P := P) w ty t i u ht hi hz q q' (n : Int) (k : Int) (by omega) (by omega) hb2 (by omega)
  refine ⟨_, _, _, _, 0, hrun, .alloc _ _, objNew (.alloc _ _) ?_ 0, fun m' hm => ?_⟩
  · unfold madeCells
    rw [Int.toNat_natCast, ← hzs, times_eq]
    exact (hzl m).flatten k
  · show SlcR m' nx 0 n (.kn k) _
    unfold SlcR; rw [hm]
    exact ⟨k, by simp, h1, rfl⟩

theorem opMkmap_ok {v : AV} (h : opMkmap hp nx = .ok v hp' nx') : ∃ o, hp' = put5 nx o hp ∧ nx'.num = nx.num + 1 ∧ ∀ m t, News P C m (Instr.makeMap t none) nx o v := by
  obtain ⟨rfl, h3, h4⟩ := newO_ok h
  refine ⟨_, h3, h4, fun m t w => ?_⟩
  refine ⟨.map (some w.heap.size), w.alloc (.map #[] 0), .map #[] 0, 0, 0, by simp [Instr.makeMap], .alloc _ _, ⟨rfl, #[], 0, (NewW.alloc w _).new, trivial, births_nil _⟩, fun m' hm => ?_⟩
  show RefR m' nx _ _
  unfold RefR; rw [hm]
end
end Go.X
end

/-! Loads and stores. -/
noncomputable section
namespace Go.X
section
variable {P : Program} {C : Ctx} {base : Nat} {m : Mp} {hp hp' : Hp} {nx nx' : Pid} {w : World} {v : AV}

theorem SR.at (h : SR P C base m hp nx w) {b : Pid} (ho : get5 b hp ≠ .none) (hm : m b ≠ .un) : ∃ B δ N es, m b = .live B δ N es ∧ base ≤ B ∧ B < w.heap.size ∧ ObjR P C m w B δ N es (get5 b hp) := by
  cases hb : m b with
  | un => exact absurd hb hm
  | dead => exact absurd (h.dead b hb) ho
  | live B δ N es => obtain ⟨h1, h2, h3⟩ := h.live _ _ _ _ _ hb; exact ⟨B, δ, N, es, rfl, h1, h2, h3⟩
theorem ptr_un {b : Pid} {o : Nat} {u : Value} (h : PtrR m b o u) : m b ≠ .un := fun e => by unfold PtrR at h; rw [e] at h; exact h
theorem slc_un {b : Pid} {o n : Nat} {c : Cap} {u : Value} (h : SlcR m b o n c u) : m b ≠ .un := fun e => by unfold SlcR at h; rw [e] at h; exact h
theorem slz_un {b : Pid} {o : Nat} {u : Value} (h : SlzR m b o u) : m b ≠ .un := fun e => by unfold SlzR at h; rw [e] at h; exact h
theorem ref_un {b : Pid} {mk : Nat → Value} {u : Value} (h : RefR m b mk u) : m b ≠ .un := fun e => by unfold RefR at h; rw [e] at h; exact h
theorem ptr_live {b : Pid} {o : Nat} {u : Value} (h : PtrR m b o u) {B δ N es : Nat} (e : m b = .live B δ N es) : u = .pointer (some ⟨B, δ + o, none⟩) := by unfold PtrR at h; rw [e] at h; exact h
/-- what a slice's room says. -/
def CapR (p N es : Nat) (c : Nat) : Cap → Prop
  | .kn c' => c = c'
  | .op e => e = es ∧ p + c * es = N
theorem slc_live {b : Pid} {o n : Nat} {cap : Cap} {u : Value} (h : SlcR m b o n cap u) {B δ N es : Nat} (e : m b = .live B δ N es) :
    ∃ c, u = .slice (some ⟨B, δ + o, none⟩) n c ∧ n ≤ c ∧ CapR (δ + o) N es c cap := by
  unfold SlcR at h; rw [e] at h
  obtain ⟨c, h1, h2, h3⟩ := h
  exact ⟨c, h1, h2, by cases cap <;> exact h3⟩
theorem ref_live {b : Pid} {mk : Nat → Value} {u : Value} (h : RefR m b mk u) {B δ N es : Nat} (e : m b = .live B δ N es) : u = mk B := by unfold RefR at h; rw [e] at h; exact h

/-- what an operation that reads gives. -/
def Reads (P : Program) (C : Ctx) (base : Nat) (m : Mp) (hp : Hp) (nx : Pid) (s : Sem Value) (v : AV) : Prop := ∀ w, SR P C base m hp nx w → ∃ u, s.run P w = .ok u w ∧ AVR C m v u

theorem part_of {l : List Value} {δ k o n : Nat} (h : o + n ≤ k) : ((((l.drop δ).take k).drop o).take n) = (l.drop (δ + o)).take n := by
  rw [List.drop_take, List.take_take, List.drop_drop, Nat.min_eq_left (by omega)]
theorem nth_of {l : List Value} {δ k o : Nat} {u : Value} (h : ((l.drop δ).take k)[o]? = some u) : l[δ + o]? = some u := by
  rw [List.getElem?_take] at h
  split at h
  · rw [List.getElem?_drop] at h; exact h
  · cases h

theorem run_load_one {t : Nat} {d : TypeDesc} (ht : P.underlying t = some d) (ha : aggD d = false) {a : Addr} {u : Value} (hc : w.cell? a = some u) : (Instr.loadAt t (.pointer (some a))).run P w = .ok u w := by
  cases d <;> first | (simp [Instr.loadAt, Instr.sureAddr, loadVar, isAgg, run_underlying ht, hc]; done) | cases ha
theorem run_load_agg {t n : Nat} {d : TypeDesc} (ht : P.underlying t = some d) (ha : aggD d = true) (hs : szOf P t = some n) {a : Addr} {c : Array Value} (hc : (loadCells a n).run P w = .ok c w) : (Instr.loadAt t (.pointer (some a))).run P w = .ok (.agg c) w := by
  cases d <;> first | (simp [Instr.loadAt, Instr.sureAddr, loadVar, isAgg, run_underlying ht, run_sizeOf hs, hc]; done) | cases ha

theorem opLd1_ok {x : AV} (h : opLd1 x hp nx = .ok v hp' nx') : hp' = hp ∧ nx' = nx ∧ ∀ base m u, AVR C m x u → ∀ (t : Nat) (d : TypeDesc), P.underlying t = some d → aggD d = false → Reads P C base m hp nx (Instr.loadAt t u) v := by
  obtain ⟨b, o, rfl, g⟩ := asPtr_ok h
  unfold ld1o at g
  rw [getHp_eq] at g
  rcases obCells_ok g with ⟨t', ex, wr, l, ho, g1⟩ | ⟨t', ex, wr, r, ho, g1⟩
  · obtain ⟨y, hy, g2⟩ := nthK_ok g1
    obtain ⟨rfl, rfl, rfl⟩ := okS_ok g2
    refine ⟨rfl, rfl, fun base m u hu t d ht hd w hs => ?_⟩
    obtain ⟨B, δ, N, es, hm, _, _, hob⟩ := hs.at (b := b) (by rw [ho]; simp) (ptr_un hu)
    have := ptr_live hu hm; subst this
    rw [ho] at hob
    obtain ⟨c, fz, h1, h2, h3, h4, h5, h6, h7⟩ := hob
    obtain ⟨z, hz, hr, _⟩ := h7.get hy
    exact ⟨z, run_load_one ht hd (by rw [cell_of h1]; simpa using nth_of hz), hr⟩
  · obtain ⟨n, rfl, rfl, rfl, h2, hn⟩ := ld1b_ok (C := C) g1
    refine ⟨rfl, rfl, fun base m u hu t d ht hd w hs => ?_⟩
    obtain ⟨B, δ, N, es, hm, _, _, hob⟩ := hs.at (b := b) (by rw [ho]; simp) (ptr_un hu)
    have := ptr_live hu hm; subst this
    rw [ho] at hob
    obtain ⟨hr, c, fz, h1, _, h3, h4, h5, _, _, h7⟩ := hob
    have hz : ((c.toList.drop δ).take r.len)[o]? = some (.int .u8 n) := by
      rw [h7, List.getElem?_map, hn hr]; simp; omega
    exact ⟨_, run_load_one ht hd (by rw [cell_of h1]; simpa using nth_of hz), rfl⟩

theorem opLdn_ok {x : AV} {n : Nat} (h : opLdn n x hp nx = .ok v hp' nx') : hp' = hp ∧ nx' = nx ∧ ∀ base m u, AVR C m x u → ∀ (t : Nat) (d : TypeDesc), P.underlying t = some d → aggD d = true → szOf P t = some n → Reads P C base m hp nx (Instr.loadAt t u) v := by
  obtain ⟨b, o, rfl, g⟩ := asPtr_ok h
  unfold ldno at g
  rw [getHp_eq] at g
  rcases obCells_ok g with ⟨t', ex, wr, l, ho, g1⟩ | ⟨t', ex, wr, r, ho, g1⟩
  · obtain ⟨ha, g2⟩ := dropK_ok g1
    obtain ⟨hb, g3⟩ := takeK_ok g2
    obtain ⟨rfl, rfl, rfl⟩ := ok_ok g3
    refine ⟨rfl, rfl, fun base m u hu t d ht hd hsz w hs => ?_⟩
    obtain ⟨B, δ, N, es, hm, _, _, hob⟩ := hs.at (b := b) (by rw [ho]; simp) (ptr_un hu)
    have := ptr_live hu hm; subst this
    rw [ho] at hob
    obtain ⟨c, fz, h1, h2, h3, h4, h5, h6, h7⟩ := hob
    rw [List.length_drop] at hb
    have hr := (h7.drop o).take n
    rw [part_of (by omega)] at hr
    exact ⟨_, run_load_agg ht hd hsz (run_loadCells_row h1 (δ + o) n (by omega)), _, rfl, hr⟩
  · cases g1

/-- y is laid into a row. -/
theorem stLay_ok {b : Pid} {t : Nat} {ex wr : Bool} {l : List SV} {o : Nat} {y : List SV} (h : stLay b t ex wr l o y hp nx = .ok v hp' nx') :
    wr = true ∧ o + y.length ≤ l.length ∧ v = .s .un ∧ hp' = put5 b (.cells t ex wr (layL l o y)) hp ∧ nx' = nx := by
  obtain ⟨h1, g⟩ := ifB_ok h
  obtain ⟨h2, g1⟩ := layAtK_ok g
  rw [setHp_eq] at g1
  obtain ⟨rfl, rfl, rfl⟩ := ok_ok g1
  exact ⟨h1, h2, rfl, rfl, rfl⟩

theorem lay_part {l : List Value} {δ k o : Nat} {ys : List Value} (h : o + ys.length ≤ k) (hk : δ + k ≤ l.length) : ((layL l (δ + o) ys).drop δ).take k = layL ((l.drop δ).take k) o ys := by
  unfold layL
  apply List.ext_getElem?
  intro i
  simp only [List.getElem?_take, List.getElem?_drop, List.getElem?_append, List.length_append, List.length_take, List.length_drop]
  by_cases h1 : i < k
  · rw [if_pos h1]
    by_cases h2 : i < o
    · rw [if_pos (by omega), if_pos (by omega), if_pos (by omega), if_pos (by omega), if_pos (by omega), if_pos (by omega)]; rw [if_pos h1]
    · by_cases h3 : i < o + ys.length
      · rw [if_pos (by omega), if_neg (by omega), if_pos (by omega), if_neg (by omega)]; congr 1; omega
      · rw [if_neg (by omega), if_neg (by omega), if_pos (by omega)]; congr 1; omega
  · rw [if_neg h1]
    rw [if_neg (by omega), if_neg (by omega)]

/-- a store into a row, in the model: what stands for y goes to cell o. -/
theorem SR.store (h : SR P C base m hp nx w) {b : Pid} {B δ N es : Nat} (hm : m b = .live B δ N es) {t : Nat} {ex : Bool} {l : List SV} (ho : get5 b hp = .cells t ex true l) {o : Nat} {y : List SV} {ys : List Value}
    (hy : ListR C m y ys) (hl : o + y.length ≤ l.length) :
    ∃ w', (storeCells ⟨B, δ + o, none⟩ ys).run P w = .ok () w' ∧ Good P C base m hp nx w m (put5 b (.cells t ex true (layL l o y)) hp) nx w' := by
  obtain ⟨hB, hlt, hob⟩ := h.live _ _ _ _ _ hm
  rw [ho] at hob
  obtain ⟨c, fz, h1, h2, h3, h4, h5, h6, h7⟩ := hob
  have hfz := h2 rfl
  subst hfz
  have hyl := hy.length
  have hcl : c.toList.length = c.size := Array.length_toList
  have hrun := run_storeCells_row (P := P) ys w c (δ + o) 0 h1 (by omega) hy.one
  refine ⟨_, hrun, h.update hm _ (fun k hk => setRow_other _ hk) (setRow_size _) rfl rfl rfl ?_⟩
  refine ⟨_, (0, 0), setRow_self h1 _, fun _ => rfl, ?_, ?_, ?_, h6, ?_⟩
  · simp [layL]; omega
  · simp [layL]; omega
  · intro he; have := h5 he; simp [layL]; omega
  · have hll : (layL l o y).length = l.length := by simp [layL]; omega
    rw [hll]
    simp only [Nat.add_zero]
    rw [lay_part (by omega) (by omega)]
    exact h7.lay _ hy

/-- what an operation that writes does. -/
def Does (P : Program) (C : Ctx) (base : Nat) (m : Mp) (hp : Hp) (nx : Pid) (w : World) (hp' : Hp) (nx' : Pid) (v : AV) (K : Value → World → Prop) : Prop := ∃ u w' m', K u w' ∧ AVR C m' v u ∧ Good P C base m hp nx w m' hp' nx' w'

theorem run_storeVar {t n : Nat} (hs : szOf P t = some n) {a : Addr} {u : Value} (hn : u.cells.size = n) {w' : World} (h : (storeCells a u.cells.toList).run P w = .ok () w') : (Instr.storeAt t (.pointer (some a)) u).run P w = .ok () w' := by
  simp [Instr.storeAt, Instr.sureAddr, storeVar, run_sizeOf hs, hn, h]

theorem stObj_ok {b : Pid} {o : Nat} {y : List SV} (g : stObj b (getHp b hp) o y hp nx = .ok v hp' nx') : v = .s .un ∧ nx' = nx ∧
    ∀ base m w u (ys : List Value), SR P C base m hp nx w → PtrR m b o u → ListR C m y ys → ∃ a w', u = .pointer (some a) ∧ (storeCells a ys).run P w = .ok () w' ∧ Good P C base m hp nx w m hp' nx' w' := by
  unfold stObj at g
  rw [getHp_eq] at g
  rcases obCells_ok g with ⟨t', ex, wr, l, ho, g1⟩ | ⟨t', ex, wr, r, ho, g1⟩
  · obtain ⟨rfl, hl, rfl, rfl, rfl⟩ := stLay_ok g1
    refine ⟨rfl, rfl, fun base m w u ys hs hu hy => ?_⟩
    obtain ⟨B, δ, N, es, hm, _, _, hob⟩ := hs.at (b := b) (by rw [ho]; simp) (ptr_un hu)
    have := ptr_live hu hm; subst this
    obtain ⟨w', e, hg⟩ := hs.store (P := P) hm ho hy hl
    exact ⟨_, w', rfl, e, hg⟩
  · cases g1

theorem opSt1_ok {x y : AV} (h : opSt1 x y hp nx = .ok v hp' nx') : v = .s .un ∧ nx' = nx ∧ ∀ base m w u u', SR P C base m hp nx w → AVR C m x u → AVR C m y u' → ∀ t, szOf P t = some 1 →
    ∃ w', (Instr.storeAt t u u').run P w = .ok () w' ∧ Good P C base m hp nx w m hp' nx' w' := by
  obtain ⟨b, o, rfl, g⟩ := asPtr_ok h
  obtain ⟨z, rfl, g1⟩ := asS_ok g
  obtain ⟨hz, g2⟩ := svKnown_ok g1
  obtain ⟨rfl, rfl, hst⟩ := stObj_ok (P := P) (C := C) g2
  refine ⟨rfl, rfl, fun base m w u u' hs hu hu' t ht => ?_⟩
  obtain ⟨a, w', rfl, e, hg⟩ := hst base m w u _ hs hu (svR_list hu' hz)
  have h1 := SVR.one hu' hz
  exact ⟨w', run_storeVar ht (by rw [cells_one h1]; rfl) e, hg⟩

theorem opStn_ok {n : Nat} {x y : AV} (h : opStn n x y hp nx = .ok v hp' nx') : v = .s .un ∧ nx' = nx ∧ ∀ base m w u u', SR P C base m hp nx w → AVR C m x u → AVR C m y u' → ∀ t, szOf P t = some n →
    ∃ w', (Instr.storeAt t u u').run P w = .ok () w' ∧ Good P C base m hp nx w m hp' nx' w' := by
  obtain ⟨b, o, rfl, g⟩ := asPtr_ok h
  obtain ⟨z, rfl, g1⟩ := asA_ok g
  obtain ⟨hz, g2⟩ := ifB_ok g1
  have hz := beq_eq hz
  rw [lenK_eq] at hz
  obtain ⟨rfl, rfl, hst⟩ := stObj_ok (P := P) (C := C) g2
  refine ⟨rfl, rfl, fun base m w u u' hs hu hu' t ht => ?_⟩
  obtain ⟨vs, rfl, hl⟩ := hu'
  obtain ⟨a, w', rfl, e, hg⟩ := hst base m w u _ hs hu hl
  have := hl.length
  exact ⟨w', run_storeVar ht (by show vs.toArray.size = n; simp; omega) (by simpa [Value.cells] using e), hg⟩
end
end Go.X
end

/-! Appending. -/
noncomputable section
namespace Go.X
section
variable {P : Program} {C : Ctx} {base : Nat} {m : Mp} {hp hp' : Hp} {nx nx' : Pid} {w : World} {v : AV}

/-- what is appended: a slice, a string. -/
def AppT (P : Program) (u : Nat) : Prop := P.underlying u = some .string ∨ ∃ e, P.underlying u = some (.slice e)

theorem run_app_none {t u ty e : Nat} {i : TypeInfo} (ht : P.underlying t = some (.slice e)) (hu : AppT P u) (hi : P.info? e = some i) {sLen sCap n : Nat} {x : Value} {news : Array Value}
    (hn : (Builtin.lenOf x).run P w = .ok n w) (hf : (Builtin.firstCells i.size n x).run P w = .ok news w) (hroom : sLen + n ≤ sCap) :
    (Builtin.append_ #[t, u] ty #[.slice none sLen sCap, x]).run P w = .ok (.slice none (sLen + n) sCap) w := by
  rcases hu with hu | ⟨_, hu⟩ <;> simp [Builtin.append_, run_underlying ht, run_underlying hu, sizeOf, typeInfo, hi, hn, hroom, hf]

theorem run_app_room {t u ty e : Nat} {i : TypeInfo} (ht : P.underlying t = some (.slice e)) (hu : AppT P u) (hi : P.info? e = some i) {a : Addr} {sLen sCap n : Nat} {x : Value} {news : Array Value}
    (hn : (Builtin.lenOf x).run P w = .ok n w) (hf : (Builtin.firstCells i.size n x).run P w = .ok news w) (hroom : sLen + n ≤ sCap) {w' : World} (hs : (storeCells (a.add (sLen * i.size)) news.toList).run P w = .ok () w') :
    (Builtin.append_ #[t, u] ty #[.slice (some a) sLen sCap, x]).run P w = .ok (.slice (some a) (sLen + n) sCap) w' := by
  rcases hu with hu | ⟨_, hu⟩ <;> simp [Builtin.append_, run_underlying ht, run_underlying hu, sizeOf, typeInfo, hi, hn, hroom, hf, hs]

theorem run_app_grow {t u ty e : Nat} {i : TypeInfo} {z : Value} (ht : P.underlying t = some (.slice e)) (hu : AppT P u) (hi : P.info? e = some i) (hz : i.zero = some z) {b : Option Addr} {sLen sCap n : Nat} {x : Value} {news olds : Array Value}
    (hn : (Builtin.lenOf x).run P w = .ok n w) (hf : (Builtin.firstCells i.size n x).run P w.drew = .ok news w.drew) (ho : (Builtin.firstCells i.size sLen (.slice b sLen sCap)).run P w.drew = .ok olds w.drew)
    (hg : sCap < sLen + n) (h1 : sLen + n ≤ 100000) (h2 : i.bytes ≤ 1073741824) :
    (Builtin.append_ #[t, u] ty #[.slice b sLen sCap, x]).run P w = .ok (.slice (some ⟨w.heap.size, 0, none⟩) (sLen + n) (grownCap w (sLen + n) sCap e))
        (w.drew.alloc (.cells (olds ++ news ++ Builtin.zeroCells z.cells (grownCap w (sLen + n) sCap e - (sLen + n))) e)) := by
  have hroom : ¬ (sLen + n ≤ sCap) := by omega
  have h63' : ¬ (9223372036854775807 < ((sLen : Int) + (n : Int))) := by omega
  have hb : (sLen + n) * i.bytes ≤ 140737488355328 := by
    have : (sLen + n) * i.bytes ≤ 100000 * 1073741824 := Nat.mul_le_mul h1 h2
    omega
  have h48' : ¬ (281474976710656 < Builtin.nextslicecap (sLen + n) sCap * i.bytes) := by have := growslice_fits hg hb; omega
  rcases hu with hu | ⟨_, hu⟩ <;> simp [Builtin.append_, run_underlying ht, run_underlying hu, sizeOf, typeInfo, zeroValue, hi, hz, hn, hroom, h63', h48', Question.forced, hf, ho, newRow, grownCap]

/-- what was made of old elements and new ones. -/
theorem objGrown {olds news : Array Value} {z : Array Value} {k : Nat} {t : Nat} {r : List SV} {es need : Nat} {w' : World} (hw : NewW w w' (.cells (olds ++ news ++ Builtin.zeroCells z k) t))
    (hr : ListR C m r (olds.toList ++ news.toList)) (hl : r.length = need * es) (hz : z.size = es) (ht : szOf P t = some es) :
    ObjR P C m w' w.heap.size 0 ((need + k) * es) es (.cells t false true r) := by
  have hn := hr.length
  refine ⟨_, (0, 0), hw.new, fun _ => rfl, ?_, ?_, fun h => (nomatch h), fun _ => ht, ?_⟩
  · simp only [Array.size_append, size_zeroCells, hz]
    rw [Nat.add_mul, ← hl, hn]; simp
  · rw [Nat.add_mul, hl]; omega
  · rw [List.drop_zero, hn]
    simp only [Array.toList_append]
    rw [List.take_left]; exact hr

theorem lenOf_slice {b : Option Addr} {n c : Nat} : (Builtin.lenOf (.slice b n c)).run P w = .ok n w := rfl

/-- some elements. -/
def ElemsR (P : Program) (C : Ctx) (m : Mp) (w : World) (es n : Nat) (l : List SV) (u : Value) : Prop := ∃ us : List Value, ListR C m l us ∧ (∀ w', (Builtin.lenOf u).run P w' = .ok n w') ∧ ∀ w' : World, w'.heap = w.heap → (Builtin.firstCells es n u).run P w' = .ok us.toArray w'

theorem elems_ok {es : Nat} {y : AV} {k : Nat → List SV → Ar} (h : elems es y hp k .bad = .ok v hp' nx') :
    ∃ n l, k n l = .ok v hp' nx' ∧ l.length = n * es ∧ ∀ base m w (nx : Pid) u, SR P C base m hp nx w → AVR C m y u → ElemsR P C m w es n l u := by
  obtain ⟨x, rfl, g⟩ := asS_ok h
  rcases svSlc_ok g with ⟨b, o, n, c, rfl, g1⟩ | ⟨b, o, rfl, g1⟩ | ⟨rfl, g1⟩
  · unfold elemsO at g1
    rw [getHp_eq] at g1
    rcases obCells_ok g1 with ⟨t', ex, wr, l, ho, g2⟩ | ⟨t', ex, wr, r, ho, g2⟩
    · obtain ⟨ha, g3⟩ := dropK_ok g2
      obtain ⟨hb, g4⟩ := takeK_ok g3
      have hb : n * es ≤ (l.drop o).length := hb
      rw [List.length_drop] at hb
      refine ⟨n, (l.drop o).take (n * es), g4, by simp; omega, fun base m w nx u hs hu => ?_⟩
      obtain ⟨B, δ, N, es', hm, _, _, hob⟩ := hs.at (b := b) (by rw [ho]; simp) (slc_un hu)
      obtain ⟨k, rfl, _, _⟩ := slc_live hu hm
      rw [ho] at hob
      obtain ⟨c, fz, h1, h2, h3, h4, h5, h6, h7⟩ := hob
      have hr := (h7.drop o).take (n * es)
      rw [part_of (by omega)] at hr
      refine ⟨_, hr, fun _ => rfl, fun w' hw => ?_⟩
      exact run_loadCells_row (by rw [hw]; exact h1) (δ + o) (n * es) (by omega)
    · cases g2
  · refine ⟨0, [], g1, by simp, fun base m w nx u hs hu => ?_⟩
    obtain ⟨a, k, rfl⟩ := slz_some hu
    exact ⟨[], trivial, fun _ => rfl, fun w' _ => by simp [Builtin.firstCells, loadCells, loadCellsFrom]⟩
  · refine ⟨0, [], g1, by simp, fun base m w nx u hs hu => ?_⟩
    have hu : u = _ := hu; subst hu
    exact ⟨[], trivial, fun _ => rfl, fun w' _ => by simp [Builtin.firstCells]⟩

/-- what an append must know of its types. -/
structure AppH (P : Program) (t u e es : Nat) : Prop where
  ht : P.underlying t = some (.slice e)
  hu : AppT P u
  hs : szOf P e = some es
  pos : 0 < es
  info : ∃ i z, P.info? e = some i ∧ i.zero = some z ∧ i.size = es ∧ z.cells.size = es ∧ i.bytes ≤ 1073741824

/-- an append does. -/
def AppD (P : Program) (C : Ctx) (base : Nat) (m : Mp) (hp : Hp) (nx : Pid) (w : World) (hp' : Hp) (nx' : Pid) (v : AV) (t u ty : Nat) (x y : Value) : Prop :=
  ∃ z w' m', (Builtin.append_ #[t, u] ty #[x, y]).run P w = .ok z w' ∧ AVR C m' v z ∧ Good P C base m hp nx w m' hp' nx' w'

theorem ElemsR.ext {es n : Nat} {l : List SV} {u : Value} {m' : Mp} (e : Ext m m') (h : ElemsR P C m w es n l u) : ElemsR P C m' w es n l u := by
  obtain ⟨us, a, b⟩ := h; exact ⟨us, a.ext e, b⟩

theorem growTo_ok {t es n : Nat} {l : List SV} (h : growTo t es n l hp nx = .ok v hp' nx') : n ≤ 100000 ∧ v = .s (.slc nx 0 n (.op es)) ∧ hp' = put5 nx (.cells t false true l) hp ∧ nx'.num = nx.num + 1 := by
  obtain ⟨h1, g⟩ := ifB_ok h
  exact ⟨ble_le h1, newO_ok g⟩

/-- it grows. -/
theorem grow_does {t u e es ty : Nat} (H : AppH P t u e es) (hs : SR P C base m hp nx w) {r y : List SV} {need n sLen sCap : Nat} (hg : growTo e es need r hp nx = .ok v hp' nx') {b : Option Addr} {x : Value} {olds : Array Value}
    (hneed : need = sLen + n) (hcap : sCap < need) (hy : ElemsR P C m w es n y x) (ho : ∀ w' : World, w'.heap = w.heap → (Builtin.firstCells es sLen (.slice b sLen sCap)).run P w' = .ok olds w') {q : List SV} (hq : ListR C m q olds.toList) (hr : r = q ++ y) (hl : r.length = need * es) :
    AppD P C base m hp nx w hp' nx' v t u ty (.slice b sLen sCap) x := by
  obtain ⟨i, z, hi, hz, his, hzs, hby⟩ := H.info
  obtain ⟨us, hus, hn, hf⟩ := hy
  obtain ⟨h1, rfl, rfl, h2⟩ := growTo_ok hg
  subst hneed
  subst his
  have hrun := run_app_grow (ty := ty) (P := P) (w := w) H.ht H.hu hi hz (hn w) (hf w.drew rfl) (ho w.drew rfl) hcap h1 hby
  have hw : NewW w (w.drew.alloc (.cells (olds ++ us.toArray ++ Builtin.zeroCells z.cells (grownCap w (sLen + n) sCap e - (sLen + n))) e)) (.cells (olds ++ us.toArray ++ Builtin.zeroCells z.cells (grownCap w (sLen + n) sCap e - (sLen + n))) e) := ⟨rfl, rfl, rfl, rfl⟩
  have hge := grownCap_ge w (sLen + n) sCap e
  have hob := objGrown (P := P) (C := C) (m := m) hw (r := r) (by subst hr; simpa using hq.append hus) hl hzs H.hs
  refine ⟨_, _, _, hrun, ?_, hs.new h2 hw hob⟩
  show SlcR _ nx 0 (sLen + n) (.op i.size) _
  unfold SlcR; rw [upd_same]
  refine ⟨_, rfl, hge, rfl, ?_⟩
  simp only [Nat.zero_add]
  congr 1; omega

theorem ifB_or {b : Bool} {k z : Ar} (h : ifB b k z = .ok v hp' nx') : (b = true ∧ k = .ok v hp' nx') ∨ (b = false ∧ z = .ok v hp' nx') := by
  cases b
  · exact .inr ⟨rfl, h⟩
  · exact .inl ⟨rfl, h⟩

theorem Good.same (h : SR P C base m hp nx w) : Good P C base m hp nx w m hp nx w := .refl h

/-- nothing is appended. -/
theorem app_zero {t u e es ty : Nat} (H : AppH P t u e es) (hs : SR P C base m hp nx w) {b : Option Addr} {sLen sCap : Nat} {x : Value} {y : List SV} (hl : y.length = 0 * es) (hy : ElemsR P C m w es 0 y x) (hr : sLen ≤ sCap) (hv : AVR C m v (.slice b sLen sCap)) :
    AppD P C base m hp nx w hp nx v t u ty (.slice b sLen sCap) x := by
  obtain ⟨i, z, hi, hz, his, hzs, hby⟩ := H.info
  obtain ⟨us, hus, hn, hf⟩ := hy
  have h0 : us = [] := List.eq_nil_of_length_eq_zero (by rw [← hus.length, hl]; simp)
  subst h0; subst his
  cases b with
  | none => exact ⟨_, _, _, run_app_none H.ht H.hu hi (hn w) (hf w rfl) (by omega), hv, .same hs⟩
  | some a => exact ⟨_, _, _, run_app_room H.ht H.hu hi (hn w) (hf w rfl) (by omega) (w' := w) (by simp [storeCells]), hv, .same hs⟩

theorem appGrow_ok {t es : Nat} {kill : Bool} {b : Pid} {l : List SV} {o len need : Nat} {y : List SV} (h : appGrow t es kill b l o len need y hp nx = .ok v hp' nx') :
    o + len * es ≤ l.length ∧ ((kill = true ∧ growTo t es need ((l.drop o).take (len * es) ++ y) (put5 b .none hp) nx = .ok v hp' nx') ∨ (kill = false ∧ growTo t es need ((l.drop o).take (len * es) ++ y) hp nx = .ok v hp' nx')) := by
  obtain ⟨h1, g⟩ := dropK_ok h
  obtain ⟨h2, g1⟩ := takeK_ok g
  have h2 : len * es ≤ (l.drop o).length := h2
  rw [List.length_drop] at h2
  rw [appK_eq] at g1
  refine ⟨by omega, ?_⟩
  rcases ifB_or g1 with ⟨rfl, g2⟩ | ⟨rfl, g2⟩
  · left
    unfold growKill at g2
    rw [setHp_eq] at g2
    exact ⟨rfl, g2⟩
  · exact .inr ⟨rfl, g2⟩

theorem inPlace_ok {b : Pid} {t : Nat} {ex wr : Bool} {l : List SV} {o : Nat} {y : List SV} {x : SV} (h : inPlace b t ex wr l o y x hp nx = .ok v hp' nx') :
    wr = true ∧ o + y.length ≤ l.length ∧ v = .s x ∧ hp' = put5 b (.cells t ex wr (layL l o y)) hp ∧ nx' = nx := by
  obtain ⟨h1, g⟩ := ifB_ok h
  obtain ⟨h2, g1⟩ := layAtK_ok g
  rw [setHp_eq] at g1
  obtain ⟨rfl, rfl, rfl⟩ := okS_ok g1
  exact ⟨h1, h2, rfl, rfl, rfl⟩

theorem olds_at {b : Pid} {B δ N es' t : Nat} {ex wr : Bool} {l : List SV} (hob : ObjR P C m w B δ N es' (.cells t ex wr l)) {o n es k : Nat} (h : o + n * es ≤ l.length) (_ : b = b) :
    ∃ q : Array Value, ListR C m ((l.drop o).take (n * es)) q.toList ∧ ∀ w' : World, w'.heap = w.heap → (Builtin.firstCells es n (.slice (some ⟨B, δ + o, none⟩) n k)).run P w' = .ok q w' := by
  obtain ⟨c, fz, h1, h2, h3, h4, h5, h6, h7⟩ := hob
  have hr := (h7.drop o).take (n * es)
  rw [part_of (by omega)] at hr
  exact ⟨_, by simpa using hr, fun w' hw => run_loadCells_row (by rw [hw]; exact h1) (δ + o) (n * es) (by omega)⟩

theorem grow_len {l y : List SV} {o len n need es : Nat} (h : o + len * es ≤ l.length) (hy : y.length = n * es) (hn : need = len + n) : ((l.drop o).take (len * es) ++ y).length = need * es := by
  subst hn
  rw [List.length_append, List.length_take, List.length_drop, hy, Nat.add_mul]; omega

theorem addr_add {B o k n : Nat} : Addr.add ⟨B, o + k, none⟩ n = ⟨B, o + (k + n), none⟩ := by simp [Addr.add, Nat.add_assoc]
/-- to a slice whose room is known. -/
theorem appKnown_does {t u e es ty : Nat} (H : AppH P t u e es) (hs : SR P C base m hp nx w) {b : Pid} {B δ N es' : Nat} (hm : m b = .live B δ N es') {t' : Nat} {ex wr : Bool} {l y : List SV} (ho : get5 b hp = .cells t' ex wr l) {o len need n c : Nat}
    (hneed : need = len + n) (hyl : y.length = n * es) {x : Value} (hy : ElemsR P C m w es n y x) (h : appKnown e es b t' ex wr l o len need c y hp nx = .ok v hp' nx') :
    AppD P C base m hp nx w hp' nx' v t u ty (.slice (some ⟨B, δ + o, none⟩) len c) x := by
  have hob := (hs.live _ _ _ _ _ hm).2.2
  rw [ho] at hob
  rcases ifB_or h with ⟨h1, g⟩ | ⟨h1, g⟩
  · have h1 := ble_le h1
    obtain ⟨rfl, hl, rfl, rfl, rfl⟩ := inPlace_ok g
    obtain ⟨i, z, hi, hz, his, hzs, hby⟩ := H.info
    obtain ⟨us, hus, hn, hf⟩ := hy
    subst his; subst hneed
    obtain ⟨w', e1, hg⟩ := hs.store (P := P) hm ho (o := o + len * i.size) hus hl
    refine ⟨_, w', m, run_app_room H.ht H.hu hi (hn w) (hf w rfl) h1 (by rw [addr_add]; simpa using e1), ?_, hg⟩
    show SlcR m b o (len + n) (.kn c) _
    unfold SlcR; rw [hm]
    exact ⟨c, rfl, h1, rfl⟩
  · have h1 : c < need := by
      rcases Nat.lt_or_ge c need with q | q
      · exact q
      · rw [Nat.ble_eq_true_of_le q] at h1; cases h1
    obtain ⟨h2, g1⟩ := appGrow_ok g
    rcases g1 with ⟨hk, _⟩ | ⟨_, g2⟩
    · cases hk
    · obtain ⟨q, hq, hf⟩ := olds_at (b := b) hob (k := c) h2 rfl
      exact grow_does H hs g2 hneed h1 hy hf hq rfl (grow_len h2 hyl hneed)

/-- a block that bears no name is written. -/
theorem SR.unnamed (h : SR P C base m hp nx w) {B : Nat} (hB : base ≤ B) (free : ∀ q δ N es, m q ≠ .live B δ N es) {w' : World}
    (hk : ∀ k, k ≠ B → w'.heap[k]? = w.heap[k]?) (hs : w'.heap.size = w.heap.size) (h1 : w'.os = w.os) (h2 : w'.tape = w.tape) (h3 : w'.output = w.output) : Good P C base m hp nx w m hp nx w' := by
  refine ⟨⟨fun q B' δ' N' es' hq => ?_, h.dead, h.fresh, h.inj, by rw [hs]; exact h.base, h.clean⟩, .refl _, ⟨h1, h2, h3, by omega, fun k hkb => hk k (by omega)⟩, fun q hq _ => ⟨hq, rfl⟩, Nat.le_refl _⟩
  obtain ⟨g1, g2, g3⟩ := h.live _ _ _ _ _ hq
  exact ⟨g1, by omega, g3.ext (.refl _) (hk _ (fun hB => free q _ _ _ (hB ▸ hq)))⟩

theorem AppD.pre {m1 : Mp} {hp1 : Hp} {nx1 : Pid} (g : Good P C base m hp nx w m1 hp1 nx1 w) {t u ty : Nat} {x y : Value} (h : AppD P C base m1 hp1 nx1 w hp' nx' v t u ty x y) : AppD P C base m hp nx w hp' nx' v t u ty x y := by
  obtain ⟨z, w', m', a, b, c⟩ := h; exact ⟨z, w', m', a, b, g.trans c⟩

theorem lay_end {l : List Value} {p L : Nat} {us : List Value} (h : p + L + us.length ≤ l.length) : ((layL l (p + L) us).drop p).take (L + us.length) = (l.drop p).take L ++ us := by
  unfold layL
  apply List.ext_getElem?
  intro i
  simp only [List.getElem?_take, List.getElem?_drop, List.getElem?_append, List.length_append, List.length_take, List.length_drop]
  by_cases h1 : i < L
  · rw [if_pos (by omega), if_pos (by omega), if_pos (by omega), if_pos (by omega), if_pos (by omega), if_pos h1]
  · by_cases h2 : i < L + us.length
    · rw [if_pos h2, if_pos (by omega), if_neg (by omega), if_neg (by omega)]; congr 1; omega
    · rw [if_neg h2, if_neg (by omega), List.getElem?_eq_none (by omega)]

/-- to a slice whose room is not known: what stands there bears a new name, be it the old block, be it a new one. -/
theorem kill_does {t u e es ty : Nat} (H : AppH P t u e es) (hs : SR P C base m hp nx w) {b : Pid} {B δ N : Nat} (hm : m b = .live B δ N es) {l y q : List SV} (ho : get5 b hp = .cells e false true l) {o len need n k : Nat} {a : Addr}
    (hneed : need = len + n) (hyl : y.length = n * es) {x : Value} (hy : ElemsR P C m w es n y x) {qs : Array Value} (hq : ListR C m q qs.toList) (hql : q.length = len * es)
    (hqf : ∀ w' : World, w'.heap = w.heap → (Builtin.firstCells es len (.slice (some a) len k)).run P w' = .ok qs w')
    (hin : ∀ c fz, w.heap[B]? = some (.cells c e fz) → need ≤ k → a = ⟨B, δ + o, none⟩ ∧ δ + o + k * es = N ∧ qs.toList = (c.toList.drop (δ + o)).take (len * es))
    (hg : growTo e es need (q ++ y) (put5 b .none hp) nx = .ok v hp' nx') :
    AppD P C base m hp nx w hp' nx' v t u ty (.slice (some a) len k) x := by
  have hkill := hs.kill (p := b) (by rw [hm]; simp)
  have hlen : (q ++ y).length = need * es := by rw [List.length_append, hql, hyl, hneed, Nat.add_mul]
  rcases Nat.lt_or_ge k need with hk | hk
  · exact AppD.pre hkill (grow_does H hkill.sr hg hneed hk (hy.ext hkill.ext) hqf (hq.ext hkill.ext) rfl hlen)
  · obtain ⟨hB, hlt, hob⟩ := hs.live _ _ _ _ _ hm
    rw [ho] at hob
    obtain ⟨c, fz, h1, h2, h3, h4, h5, h6, h7⟩ := hob
    have hfz := h2 rfl
    subst hfz
    obtain ⟨rfl, hN, hqc⟩ := hin c _ h1 hk
    obtain ⟨i, z, hi, hz, his, hzs, hby⟩ := H.info
    obtain ⟨us, hus, hn, hf⟩ := hy
    obtain ⟨_, rfl, rfl, hnx⟩ := growTo_ok hg
    subst his; subst hneed
    have hul := hus.length
    have hmul : (len + n) * i.size ≤ k * i.size := Nat.mul_le_mul_right _ hk
    rw [Nat.add_mul] at hmul
    have hcl : c.toList.length = c.size := Array.length_toList
    have hst := run_storeCells_row (P := P) us w c (δ + (o + len * i.size)) 0 h1 (by omega) hus.one
    simp only [Nat.add_zero] at hst
    have hfree : ∀ q δ' N' es', upd m b .dead q ≠ .live B δ' N' es' := fun q δ' N' es' hq' => by
      by_cases hqb : q = b
      · subst hqb; rw [upd_same] at hq'; cases hq'
      · rw [upd_other hqb] at hq'; exact hqb (hs.inj _ _ _ _ _ _ _ _ _ hq' hm)
    have hun := hkill.sr.unnamed hB hfree (w' := setRow w B (layL c.toList (δ + (o + len * i.size)) us).toArray e (0, 0)) (fun k hk => setRow_other _ hk) (setRow_size _) rfl rfl rfl
    have hname := hun.sr.name (nx' := nx') hnx (.cells e false true (q ++ y)) (B := B) (δ := δ + o) (N := N) (es := i.size) hB (by rw [setRow_size]; exact hlt) hfree (by
      refine ⟨_, (0, 0), setRow_self h1 _, fun _ => rfl, ?_, ?_, fun h => (nomatch h), fun _ => H.hs, ?_⟩
      · simp [layL]; omega
      · rw [hlen, Nat.add_mul]; omega
      · rw [hlen, Nat.add_mul, ← hyl, hul]
        have := lay_end (l := c.toList) (p := δ + o) (L := len * i.size) (us := us) (by omega)
        rw [Nat.add_assoc] at this
        simp only []
        rw [this, ← hqc]
        exact (hq.ext hkill.ext).append (hus.ext hkill.ext))
    refine ⟨_, _, _, run_app_room H.ht H.hu hi (hn w) (hf w rfl) hk (by rw [addr_add]; simpa using hst), ?_, (hkill.trans hun).trans hname⟩
    show SlcR _ nx 0 (len + n) (.op i.size) _
    unfold SlcR; rw [upd_same]
    exact ⟨k, rfl, hk, rfl, hN⟩
end
end Go.X
end

/-! Appending: the operation. -/
noncomputable section
namespace Go.X
section
variable {P : Program} {C : Ctx} {base : Nat} {m : Mp} {hp hp' : Hp} {nx nx' : Pid} {w : World} {v : AV}

theorem take_nil_len {l : List SV} {n es : Nat} (h : n = 0) : (l.take (n * es)).length = 0 * es := by subst h; simp

theorem appOpen_does {t u e es ty : Nat} (H : AppH P t u e es) (hs : SR P C base m hp nx w) {b : Pid} {B δ N : Nat} (hm : m b = .live B δ N es) {t' : Nat} {ex wr : Bool} {l y : List SV} (ho : get5 b hp = .cells t' ex wr l) {o len need n k : Nat}
    (hN : δ + o + k * es = N) (hneed : need = len + n) (hyl : y.length = n * es) {x : Value} (hy : ElemsR P C m w es n y x) (h : appOpen e es b t' ex wr l o len need y hp nx = .ok v hp' nx') :
    AppD P C base m hp nx w hp' nx' v t u ty (.slice (some ⟨B, δ + o, none⟩) len k) x := by
  have hob := (hs.live _ _ _ _ _ hm).2.2
  rw [ho] at hob
  obtain ⟨hc, g⟩ := ifB_ok h
  obtain ⟨ht, hex⟩ := cand_true hc
  have ht := beq_eq ht
  have hex := notB_true hex
  subst ht; subst hex
  rcases ifB_or g with ⟨h1, g1⟩ | ⟨_, g1⟩
  · have h1 : o + need * es ≤ lenK l := ble_le h1
    rw [lenK_eq] at h1
    obtain ⟨rfl, hl, rfl, rfl, rfl⟩ := inPlace_ok g1
    obtain ⟨c, fz, hc1, hc2, hc3, hc4, hc5, hc6, hc7⟩ := hob
    have hk : need ≤ k := Nat.le_of_mul_le_mul_right (by omega : need * es ≤ k * es) H.pos
    obtain ⟨i, z, hi, hz, his, hzs, hby⟩ := H.info
    obtain ⟨us, hus, hn, hf⟩ := hy
    subst his; subst hneed
    obtain ⟨w', e1, hg⟩ := hs.store (P := P) hm ho (o := o + len * i.size) hus hl
    refine ⟨_, w', m, run_app_room H.ht H.hu hi (hn w) (hf w rfl) hk (by rw [addr_add]; simpa using e1), ?_, hg⟩
    show SlcR m b o (len + n) (.op i.size) _
    unfold SlcR; rw [hm]
    exact ⟨k, rfl, hk, rfl, hN⟩
  · obtain ⟨hwr, g2⟩ := ifB_ok g1
    subst hwr
    obtain ⟨h2, g3⟩ := appGrow_ok g2
    rcases g3 with ⟨_, g4⟩ | ⟨hk, _⟩
    · obtain ⟨q, hq, hf⟩ := olds_at (b := b) (es := es) hob (k := k) h2 rfl
      refine kill_does H hs hm ho hneed hyl hy hq (by rw [List.length_take, List.length_drop]; omega) hf (fun c fz hc _ => ⟨rfl, hN, ?_⟩) g4
      have hf' := hf w rfl
      have := run_loadCells_row (P := P) (w := w) hc (δ + o) (len * es) (by
        obtain ⟨c', fz', h1, h2', h3, h4, h5, h6, h7⟩ := hob
        rw [hc] at h1; injection h1 with h1; injection h1 with h1; subst h1; omega)
      have e := hf'.symm.trans this
      injection e with e
      rw [e]
    · cases hk

theorem opApp_ok {e es : Nat} {x y : AV} (h : opApp e es x y hp nx = .ok v hp' nx') : ∀ base m w u u', SR P C base m hp nx w → AVR C m x u → AVR C m y u' → ∀ t ut ty, AppH P t ut e es → AppD P C base m hp nx w hp' nx' v t ut ty u u' := by
  obtain ⟨n, l, g, hl, hel⟩ := elems_ok (P := P) (C := C) h
  intro base m w u u' hs hu hu' t ut ty H
  have hy := hel base m w nx u' hs hu'
  obtain ⟨x, rfl, g1⟩ := asS_ok g
  rcases svSlc_ok g1 with ⟨b, o, len, c, rfl, g2⟩ | ⟨b, o, rfl, g2⟩ | ⟨rfl, g2⟩
  · have hu : SlcR m b o len c u := hu
    rcases ifB_or g2 with ⟨h0, g3⟩ | ⟨_, g3⟩
    · obtain rfl := beq_eq h0
      obtain ⟨rfl, rfl, rfl⟩ := okS_ok g3
      obtain ⟨a, k, rfl⟩ := slc_some hu
      exact app_zero H hs hl hy (slcR_cap hu).2 hu
    · unfold appSlc at g3
      rw [forceN_eq, getHp_eq] at g3
      rcases obCells_ok g3 with ⟨t', ex, wr, lb, ho, g4⟩ | ⟨_, _, _, _, _, g4⟩
      · obtain ⟨B, δ, N, es', hm, _, _, hob⟩ := hs.at (b := b) (by rw [ho]; simp) (slc_un hu)
        obtain ⟨k, rfl, hlk, hcap⟩ := slc_live hu hm
        cases c with
        | kn c =>
          have hcap : k = c := hcap
          subst hcap
          exact appKnown_does H hs hm ho rfl hl hy g4
        | op e' =>
          obtain ⟨he, g5⟩ := ifB_ok g4
          have he := beq_eq he
          obtain ⟨h1, h2⟩ := hcap
          subst he; subst h1
          exact appOpen_does H hs hm ho h2 rfl hl hy g5
      · cases g4
  · have hu : SlzR m b o u := hu
    rcases ifB_or g2 with ⟨h0, g3⟩ | ⟨h0, g3⟩
    · obtain rfl := beq_eq h0
      obtain ⟨rfl, rfl, rfl⟩ := okS_ok g3
      obtain ⟨a, k, rfl⟩ := slz_some hu
      exact app_zero H hs hl hy (Nat.zero_le _) hu
    · have hn : n ≠ 0 := fun hn => by subst hn; cases h0
      unfold appSlz at g3
      rw [getHp_eq] at g3
      rcases obCells_ok g3 with ⟨t', ex, wr, lb, ho, g4⟩ | ⟨_, _, _, _, _, g4⟩
      · obtain ⟨hc, g5⟩ := ifB_ok g4
        obtain ⟨h1, h2⟩ := cand_true hc
        obtain ⟨h2, h3⟩ := cand_true h2
        have h1 := beq_eq h1
        have h2 := notB_true h2
        subst h1; subst h2; subst h3
        obtain ⟨B, δ, N, es', hm, _, _, hob⟩ := hs.at (b := b) (by rw [ho]; simp) (slz_un hu)
        rw [ho] at hob
        obtain ⟨c, fz, q1, q2, q3, q4, q5, q6, q7⟩ := hob
        have := q6 rfl
        rw [H.hs] at this
        injection this with this
        subst this
        unfold growKill at g5
        rw [setHp_eq] at g5
        unfold SlzR at hu
        rw [hm] at hu
        obtain ⟨a, k, rfl, hk⟩ := hu
        refine kill_does H hs hm ho (o := o) (len := 0) (by simp) hl hy (q := []) (qs := #[]) trivial (by simp) (fun w' _ => by simp [Builtin.firstCells, loadCells, loadCellsFrom]) (fun c fz hc hk' => ?_) g5
        rcases hk with hk | ⟨h1, h2⟩
        · omega
        · exact ⟨h1, h2, by simp⟩
      · cases g4
  · have hu : u = _ := hu
    subst hu
    rcases ifB_or g2 with ⟨h0, g3⟩ | ⟨h0, g3⟩
    · obtain rfl := beq_eq h0
      obtain ⟨rfl, rfl, rfl⟩ := okS_ok g3
      exact app_zero H hs hl hy (Nat.zero_le _) rfl
    · have hn : n ≠ 0 := fun hn => by subst hn; cases h0
      exact grow_does H hs g3 (sLen := 0) (olds := #[]) (by simp) (by omega) hy (fun w' _ => by simp [Builtin.firstCells]) (q := []) trivial rfl (by rw [hl])
end
end Go.X
end

/-! Maps. -/
noncomputable section
namespace Go.X
section
variable {P : Program} {C : Ctx} {base : Nat} {m : Mp} {hp hp' : Hp} {nx nx' : Pid} {w : World} {v : AV}

theorem bT_yes {b : Bool} (h : bT b = .yes) : b = true := by cases b <;> first | rfl | cases h
theorem bT_no {b : Bool} (h : bT b = .no) : b = false := by cases b <;> first | rfl | cases h

/-- how the model finds a key among a map's. -/
structure Finder (P : Program) (kt : Nat) (kv : Value) where
  E : Value → Bool → Prop
  F : List MapEntry → Nat → Option (Nat × Value) → Prop
  nil : ∀ j, F [] j none
  yes : ∀ {e es j}, E e.key true → F (e :: es) j (some (j, e.val))
  no : ∀ {e es j r}, E e.key false → F es (j + 1) r → F (e :: es) j r
  run : ∀ {es r}, F es 0 r → ∀ w, (Instr.findKey kt kv es).run P w = .ok r w
  stays : ∀ {u}, E u true → ∀ w, (Instr.keyThatStays u kv).run P w = .ok kv w
  check : ∀ b w, (Instr.checkKey b 10000 kt kv).run P w = .ok () w

/-- what 'cmp' says is so. -/
def Says {kt : Nat} {kv : Value} (C : Ctx) (Fd : Finder P kt kv) (cmp : V1 → Tri) : Prop := ∀ m y u, V1R C m y u → (cmp y = .yes → Fd.E u true) ∧ (cmp y = .no → Fd.E u false)

section
variable {cmp : V1 → Tri}
theorem findM_ok {l : List (V1 × V1)} {k : V1 → Ar} {no : Ar} (h : findM cmp l k no = .ok v hp' nx') :
    (∃ x, k x = .ok v hp' nx' ∧ ∀ {kt : Nat} {kv : Value} (Fd : Finder P kt kv), Says C Fd cmp → ∀ (m : Mp) es, EntsR C m l es → ∀ j, ∃ i u, Fd.F es j (some (i, u)) ∧ V1R C m x u) ∨
    (no = .ok v hp' nx' ∧ ∀ {kt : Nat} {kv : Value} (Fd : Finder P kt kv), Says C Fd cmp → ∀ (m : Mp) es, EntsR C m l es → ∀ j, Fd.F es j none) := by
  induction l with
  | nil => exact .inr ⟨h, fun {_ _} Fd _ m es he j => by cases es with | nil => exact Fd.nil j | cons _ _ => exact he.elim⟩
  | cons p l ih =>
    have h : (Tri.rec (motive := fun _ => Ar) (k p.2) (findM cmp l k no) .bad (cmp p.1) : Ar) = .ok v hp' nx' := h
    cases ht : cmp p.1 with
    | unk => rw [ht] at h; cases h
    | yes =>
      rw [ht] at h
      exact .inl ⟨p.2, h, fun {_ _} Fd hF m es he j => by
        cases es with
        | nil => exact he.elim
        | cons e es => exact ⟨j, e.val, Fd.yes ((hF m _ _ he.1).1 ht), he.2.1⟩⟩
    | no =>
      rw [ht] at h
      rcases ih h with ⟨x, hx, g⟩ | ⟨hx, g⟩
      · exact .inl ⟨x, hx, fun {_ _} Fd hF m es he j => by
          cases es with
          | nil => exact he.elim
          | cons e es =>
            obtain ⟨i, u, a, b⟩ := g Fd hF m es he.2.2 (j + 1)
            exact ⟨i, u, Fd.no ((hF m _ _ he.1).2 ht) a, b⟩⟩
      · exact .inr ⟨hx, fun {_ _} Fd hF m es he j => by
          cases es with
          | nil => exact he.elim
          | cons e es => exact Fd.no ((hF m _ _ he.1).2 ht) (g Fd hF m es he.2.2 (j + 1))⟩

theorem setM_ok {key x : V1} {l : List (V1 × V1)} : ∀ {k : List (V1 × V1) → Ar}, setM cmp key x l k = .ok v hp' nx' →
    ∃ l', k l' = .ok v hp' nx' ∧ ∀ {kt : Nat} {kv : Value} (Fd : Finder P kt kv), Says C Fd cmp → ∀ (m : Mp) es u, EntsR C m l es → V1R C m x u → V1R C m key kv → ∀ j,
      (∃ i w, Fd.F es j (some (j + i, w)) ∧ (∃ e, es[i]? = some e ∧ Fd.E e.key true) ∧ EntsR C m l' (es.modify i fun e => { e with key := kv, val := u })) ∨
      (Fd.F es j none ∧ ∀ e : MapEntry, e.key = kv → e.val = u → EntsR C m l' (es ++ [e])) := by
  induction l with
  | nil =>
    intro k h
    refine ⟨[(key, x)], h, fun {_ _} Fd hF m es u he hu hk j => .inr ?_⟩
    cases es with
    | nil => exact ⟨Fd.nil j, fun e h1 h2 => ⟨by rw [h1]; exact hk, by rw [h2]; exact hu, trivial⟩⟩
    | cons _ _ => exact he.elim
  | cons p l ih =>
    intro k h
    have h : (Tri.rec (motive := fun _ => Ar) (k ((key, x) :: l)) (setM cmp key x l (fun l => k (p :: l))) .bad (cmp p.1) : Ar) = .ok v hp' nx' := h
    cases ht : cmp p.1 with
    | unk => rw [ht] at h; cases h
    | yes =>
      rw [ht] at h
      refine ⟨_, h, fun {_ _} Fd hF m es u he hu hk j => .inl ?_⟩
      cases es with
      | nil => exact he.elim
      | cons e es =>
        have hE := (hF m _ _ he.1).1 ht
        exact ⟨0, e.val, Fd.yes hE, ⟨e, rfl, hE⟩, by simp only [List.modify_zero_cons]; exact ⟨hk, hu, he.2.2⟩⟩
    | no =>
      rw [ht] at h
      obtain ⟨l', g, hr⟩ := ih h
      refine ⟨p :: l', g, fun {_ _} Fd hF m es u he hu hk j => ?_⟩
      cases es with
      | nil => exact he.elim
      | cons e es =>
        have hE := (hF m _ _ he.1).2 ht
        rcases hr Fd hF m es u he.2.2 hu hk (j + 1) with ⟨i, z, a, b, c⟩ | ⟨a, b⟩
        · exact .inl ⟨i + 1, z, by rw [show j + (i + 1) = j + 1 + i from by omega]; exact Fd.no hE a, by simpa using b, by simp only [List.modify_succ_cons]; exact ⟨he.1, he.2.1, c⟩⟩
        · exact .inr ⟨Fd.no hE a, fun e' g1 g2 => ⟨he.1, he.2.1, b e' g1 g2⟩⟩

theorem delM_ok {l : List (V1 × V1)} : ∀ {k : List (V1 × V1) → Ar}, delM cmp l k = .ok v hp' nx' →
    ∃ l', k l' = .ok v hp' nx' ∧ ∀ {kt : Nat} {kv : Value} (Fd : Finder P kt kv), Says C Fd cmp → ∀ (m : Mp) es, EntsR C m l es → ∀ j,
      (∃ i w, Fd.F es j (some (j + i, w)) ∧ EntsR C m l' (es.eraseIdx i)) ∨ (Fd.F es j none ∧ EntsR C m l' es) := by
  induction l with
  | nil =>
    intro k h
    refine ⟨[], h, fun {_ _} Fd hF m es he j => .inr ?_⟩
    cases es with
    | nil => exact ⟨Fd.nil j, trivial⟩
    | cons _ _ => exact he.elim
  | cons p l ih =>
    intro k h
    have h : (Tri.rec (motive := fun _ => Ar) (k l) (delM cmp l (fun l => k (p :: l))) .bad (cmp p.1) : Ar) = .ok v hp' nx' := h
    cases ht : cmp p.1 with
    | unk => rw [ht] at h; cases h
    | yes =>
      rw [ht] at h
      refine ⟨_, h, fun {_ _} Fd hF m es he j => .inl ?_⟩
      cases es with
      | nil => exact he.elim
      | cons e es => exact ⟨0, e.val, Fd.yes ((hF m _ _ he.1).1 ht), by simpa using he.2.2⟩
    | no =>
      rw [ht] at h
      obtain ⟨l', g, hr⟩ := ih h
      refine ⟨p :: l', g, fun {_ _} Fd hF m es he j => ?_⟩
      cases es with
      | nil => exact he.elim
      | cons e es =>
        have hE := (hF m _ _ he.1).2 ht
        rcases hr Fd hF m es he.2.2 (j + 1) with ⟨i, z, a, c⟩ | ⟨a, b⟩
        · exact .inl ⟨i + 1, z, by rw [show j + (i + 1) = j + 1 + i from by omega]; exact Fd.no hE a, by simp only [List.eraseIdx_cons_succ]; exact ⟨he.1, he.2.1, c⟩⟩
        · exact .inr ⟨Fd.no hE a, he.1, he.2.1, b⟩
end

theorem run_getMap {B : Nat} {es : Array MapEntry} {clock : Nat} (h : w.heap[B]? = some (.map es clock)) : (getObj B).run P w = .ok (.map es clock) w := by simp [getObj, Sem.run, h]

/-- of a look-up: what is found. -/
theorem lookR_ok {ok is : Bool} {x : V1} (h : lookR ok x is hp nx = .ok v hp' nx') : hp' = hp ∧ nx' = nx ∧ ∀ (m : Mp) u, V1R C m x u → AVR C m v (if ok then .tuple #[u, .bool is] else u) := by
  cases ok with
  | true =>
    obtain ⟨rfl, rfl, rfl⟩ := ok_ok (v := v) h
    exact ⟨rfl, rfl, fun m u hu => ⟨[u, .bool is], by simp, hu, rfl, trivial⟩⟩
  | false =>
    obtain ⟨rfl, rfl, rfl⟩ := ok_ok (v := v) h
    exact ⟨rfl, rfl, fun m u hu => by simpa using hu.av⟩

/-! ### Number keys -/
theorem findNow_yes {kd q : IntKind} {n : Int} {e : MapEntry} {es : List MapEntry} {j : Nat} (h : e.key = .int q n) : Instr.findNow (.int kd) (.int q n) (e :: es) j = some (some (j, e.val)) := by
  simp [Instr.findNow, Instr.sameNow, h]
theorem findNow_no {kd q : IntKind} {n n' : Int} {e : MapEntry} {es : List MapEntry} {j : Nat} (h : e.key = .int q n') (hn : n ≠ n') : Instr.findNow (.int kd) (.int q n) (e :: es) j = Instr.findNow (.int kd) (.int q n) es (j + 1) := by
  have e : (n == n') = false := by simpa using hn
  simp [Instr.findNow, Instr.sameNow, h, e]
theorem run_checkInt {t : Nat} {kd q : IntKind} {n : Int} {b : Bool} (ht : P.underlying t = some (.int kd)) (d : Nat) : (Instr.checkKey b (d + 1) t (.int q n)).run P w = .ok () w := by
  simp [Instr.checkKey, run_underlying ht]

def intFinder {kt : Nat} {kd : IntKind} (ht : P.underlying kt = some (.int kd)) (q : IntKind) (n : Int) : Finder P kt (.int q n) where
  E u b := ∃ n', u = .int q n' ∧ b = (n == n')
  F es j r := Instr.findNow (.int kd) (.int q n) es j = some r
  nil _ := rfl
  yes h := by
    obtain ⟨n', h1, h2⟩ := h
    have : n = n' := by simpa using h2.symm
    subst this; exact findNow_yes h1
  no h g := by
    obtain ⟨n', h1, h2⟩ := h
    have : n ≠ n' := by simpa using h2.symm
    rw [findNow_no h1 this]; exact g
  run h w := by simp [Instr.findKey, run_underlying ht, h]
  stays h w := by
    obtain ⟨n', h1, h2⟩ := h
    have : n = n' := by simpa using h2.symm
    subst this; subst h1
    simp [Instr.keyThatStays, Instr.sameBits]
  check b w := run_checkInt ht 9999

theorem eqKey_ok {q : IntKind} {n : Int} {m : Mp} {y : V1} {u : Value} (hy : V1R C m y u) {t : Tri} (ht : eqKey q n y = t) :
    (t = .yes → u = .int q n) ∧ (t = .no → ∃ n', u = .int q n' ∧ n ≠ n') := by
  subst ht
  cases y with
  | a l => exact ⟨fun h => (nomatch h), fun h => (nomatch h)⟩
  | s y =>
    cases y with
    | int k a =>
      have hu : u = .int k a := hy
      subst hu
      show (eqInt q n (.int k a) = .yes → _) ∧ (eqInt q n (.int k a) = .no → _)
      unfold eqInt
      show ((Bool.rec (motive := fun _ => Tri) Tri.unk (bT (eqI n a)) (kindEq q k) : Tri) = Tri.yes → _) ∧ ((Bool.rec (motive := fun _ => Tri) Tri.unk (bT (eqI n a)) (kindEq q k) : Tri) = Tri.no → _)
      cases hk : kindEq q k with
      | false => exact ⟨fun h => (nomatch h), fun h => (nomatch h)⟩
      | true =>
        have hk := kindEq_ok hk
        subst hk
        refine ⟨fun h => ?_, fun h => ?_⟩
        · have := bT_yes h; rw [eqI_eq] at this; simp at this; rw [this]
        · have := bT_no h; rw [eqI_eq] at this; simp at this; exact ⟨a, rfl, this⟩
    | _ => exact ⟨fun h => (nomatch h), fun h => (nomatch h)⟩

theorem intSays {kt : Nat} {kd : IntKind} (ht : P.underlying kt = some (.int kd)) (q : IntKind) (n : Int) : Says C (intFinder ht q n) (eqKey q n) := fun m y u hy =>
  ⟨fun h => ⟨n, (eqKey_ok hy h).1 rfl, by simp⟩, fun h => by
    obtain ⟨n', h1, h2⟩ := (eqKey_ok hy h).2 rfl
    exact ⟨n', h1, by simpa using h2⟩⟩

/-! ### Struct keys -/
/-- a cell of its kind. -/
def KKR : KK → Value → Prop
  | .b, v => ∃ b, v = .bool b
  | .s, v => ∃ s, v = .string s
  | .i k, v => ∃ n, v = .int k n
def Typed : List KK → List Value → Prop
  | [], [] => True
  | k :: ks, v :: vs => KKR k v ∧ Typed ks vs
  | _, _ => False
theorem Typed.length : ∀ {ks : List KK} {vs : List Value}, Typed ks vs → ks.length = vs.length := by
  intro ks
  induction ks with
  | nil => intro vs h; cases vs with | nil => rfl | cons _ _ => exact h.elim
  | cons k ks ih => intro vs h; cases vs with | nil => exact h.elim | cons v vs => simp [ih h.2]
theorem Typed.append : ∀ {ks ks' : List KK} {vs vs' : List Value}, Typed ks vs → Typed ks' vs' → Typed (ks ++ ks') (vs ++ vs') := by
  intro ks
  induction ks with
  | nil => intro ks' vs vs' h g; cases vs with | nil => exact g | cons _ _ => exact h.elim
  | cons k ks ih => intro ks' vs vs' h g; cases vs with | nil => exact h.elim | cons v vs => exact ⟨h.1, ih h.2 g⟩
theorem Typed.split : ∀ {ks ks' : List KK} {vs : List Value}, Typed (ks ++ ks') vs → Typed ks (vs.take ks.length) ∧ Typed ks' (vs.drop ks.length) := by
  intro ks
  induction ks with
  | nil => intro ks' vs h; exact ⟨by simp [Typed], h⟩
  | cons k ks ih => intro ks' vs h; cases vs with | nil => exact h.elim | cons v vs => obtain ⟨a, b⟩ := ih h.2; exact ⟨⟨h.1, a⟩, b⟩

/-- values' sameness, of one kind. -/
theorem eq1_ok {k : KK} {x y : SV} {m m' : Mp} {u u' : Value} (hx : SVR C m x u) (hy : SVR C m' y u') : (eq1 k x y = .yes → KKR k u ∧ KKR k u' ∧ u = u') ∧ (eq1 k x y = .no → KKR k u ∧ KKR k u' ∧ u ≠ u') := by
  have bs_inj : ∀ {a b : List UInt8}, bs a = bs b → a = b := fun {a b} h => by
    have := congrArg (fun x => x.toList) h
    simpa [bs] using this
  cases k with
  | b =>
    cases x <;> cases y <;> first | (refine ⟨fun h => ?_, fun h => ?_⟩ <;> cases h; done) | skip
    rename_i a b
    have hx : u = .bool a := hx
    have hy : u' = .bool b := hy
    subst hx; subst hy
    show (bT (sameB a b) = .yes → _) ∧ (bT (sameB a b) = .no → _)
    rw [sameB_eq]
    exact ⟨fun h => ⟨⟨a, rfl⟩, ⟨b, rfl⟩, by have := bT_yes h; simp at this; rw [this]⟩, fun h => ⟨⟨a, rfl⟩, ⟨b, rfl⟩, by have := bT_no h; simpa using this⟩⟩
  | s =>
    cases x <;> cases y <;> first | (refine ⟨fun h => ?_, fun h => ?_⟩ <;> cases h; done) | skip
    rename_i a b
    obtain ⟨ha, hx⟩ : a.ok C ∧ u = .string (bs (a.den C)) := hx
    obtain ⟨hb, hy⟩ : b.ok C ∧ u' = .string (bs (b.den C)) := hy
    subst hx; subst hy
    show (eqRK a b bT .unk = .yes → _) ∧ (eqRK a b bT .unk = .no → _)
    rcases eqRK_or C a b bT .unk with e | ⟨r, e, hr⟩
    · rw [e]; exact ⟨fun h => (nomatch h), fun h => (nomatch h)⟩
    · rw [e]
      have hr := hr ha hb
      refine ⟨fun h => ⟨⟨_, rfl⟩, ⟨_, rfl⟩, by rw [hr.1 (bT_yes h)]⟩, fun h => ⟨⟨_, rfl⟩, ⟨_, rfl⟩, fun q => ?_⟩⟩
      injection q with q
      have := hr.2 (bs_inj q)
      rw [bT_no h] at this; cases this
  | i k =>
    cases x <;> cases y <;> first | (refine ⟨fun h => ?_, fun h => ?_⟩ <;> cases h; done) | skip
    rename_i q a q' b
    have hx : u = .int q a := hx
    have hy : u' = .int q' b := hy
    subst hx; subst hy
    show (eqI2 k q q' a b = .yes → _) ∧ (eqI2 k q q' a b = .no → _)
    unfold eqI2
    cases hc : cand (kindEq k q) (kindEq k q') with
    | false => exact ⟨fun h => (nomatch h), fun h => (nomatch h)⟩
    | true =>
      obtain ⟨h1, h2⟩ := cand_true hc
      have h1 := kindEq_ok h1
      have h2 := kindEq_ok h2
      subst h1; subst h2
      refine ⟨fun h => ⟨⟨a, rfl⟩, ⟨b, rfl⟩, ?_⟩, fun h => ⟨⟨a, rfl⟩, ⟨b, rfl⟩, ?_⟩⟩
      · have := bT_yes h; rw [eqI_eq] at this; simp at this; rw [this]
      · have := bT_no h; rw [eqI_eq] at this; simpa using this

theorem tBoth_ok {a b : Tri} : (tBoth a b = .yes → a = .yes ∧ b = .yes) ∧ (tBoth a b = .no → (a = .no ∧ b ≠ .unk) ∨ (a = .yes ∧ b = .no)) := by
  cases a <;> cases b <;> refine ⟨fun h => ?_, fun h => ?_⟩ <;> first | (cases h; done) | exact ⟨rfl, rfl⟩ | exact .inr ⟨rfl, rfl⟩ | exact .inl ⟨rfl, fun h => (by cases h)⟩

theorem eqFlat_ok {m m' : Mp} {ks : List KK} : ∀ {x y : List SV} {us us' : List Value}, ListR C m x us → ListR C m' y us' →
    (eqFlat ks x y = .yes → Typed ks us ∧ Typed ks us' ∧ us = us') ∧ (eqFlat ks x y = .no → Typed ks us ∧ Typed ks us' ∧ us ≠ us') := by
  induction ks with
  | nil =>
    intro x y us us' hx hy
    cases x with
    | cons _ _ => exact ⟨fun h => (nomatch h), fun h => (nomatch h)⟩
    | nil =>
      cases y with
      | cons _ _ => exact ⟨fun h => (nomatch h), fun h => (nomatch h)⟩
      | nil =>
        cases us with
        | cons _ _ => exact hx.elim
        | nil =>
          cases us' with
          | cons _ _ => exact hy.elim
          | nil => exact ⟨fun _ => ⟨trivial, trivial, rfl⟩, fun h => (nomatch h)⟩
  | cons k ks ih =>
    intro x y us us' hx hy
    cases x with
    | nil => exact ⟨fun h => (nomatch h), fun h => (nomatch h)⟩
    | cons a x =>
      cases y with
      | nil => exact ⟨fun h => (nomatch h), fun h => (nomatch h)⟩
      | cons b y =>
        cases us with
        | nil => exact hx.elim
        | cons u us =>
          cases us' with
          | nil => exact hy.elim
          | cons u' us' =>
            show (tBoth (eq1 k a b) (eqFlat ks x y) = .yes → _) ∧ (tBoth (eq1 k a b) (eqFlat ks x y) = .no → _)
            obtain ⟨e1, e2⟩ := eq1_ok (k := k) hx.1 hy.1
            obtain ⟨i1, i2⟩ := ih (us := us) (us' := us') hx.2.2 hy.2.2
            refine ⟨fun h => ?_, fun h => ?_⟩
            · obtain ⟨h1, h2⟩ := tBoth_ok.1 h
              obtain ⟨a1, a2, a3⟩ := e1 h1
              obtain ⟨b1, b2, b3⟩ := i1 h2
              exact ⟨⟨a1, b1⟩, ⟨a2, b2⟩, by rw [a3, b3]⟩
            · rcases tBoth_ok.2 h with ⟨h1, h2⟩ | ⟨h1, h2⟩
              · obtain ⟨a1, a2, a3⟩ := e2 h1
                cases ht : eqFlat ks x y with
                | unk => exact absurd ht h2
                | yes => obtain ⟨b1, b2, b3⟩ := i1 ht; exact ⟨⟨a1, b1⟩, ⟨a2, b2⟩, fun q => a3 (List.cons.inj q).1⟩
                | no => obtain ⟨b1, b2, b3⟩ := i2 ht; exact ⟨⟨a1, b1⟩, ⟨a2, b2⟩, fun q => a3 (List.cons.inj q).1⟩
              · obtain ⟨a1, a2, a3⟩ := e1 h1
                obtain ⟨b1, b2, b3⟩ := i2 h2
                exact ⟨⟨a1, b1⟩, ⟨a2, b2⟩, fun q => b3 (List.cons.inj q).2⟩

theorem fits_ok {m : Mp} {ks : List KK} : ∀ {x : List SV} {us : List Value}, fits ks x = true → ListR C m x us → Typed ks us := by
  induction ks with
  | nil =>
    intro x us h hx
    cases x with
    | cons _ _ => cases h
    | nil => cases us with | nil => trivial | cons _ _ => exact hx.elim
  | cons k ks ih =>
    intro x us h hx
    cases x with
    | nil => cases h
    | cons a x =>
      cases us with
      | nil => exact hx.elim
      | cons u us =>
        obtain ⟨h1, h2⟩ := cand_true (a := fit1 k a) (b := fits ks x) h
        refine ⟨?_, ih h2 hx.2.2⟩
        have hu := hx.1
        cases k with
        | b => cases a <;> first | (cases h1; done) | exact ⟨_, hu⟩
        | s => cases a <;> first | (cases h1; done) | exact ⟨_, hu.2⟩
        | i k => cases a <;> first | (cases h1; done) | (have := kindEq_ok h1; subst this; exact ⟨_, hu⟩)

/-- a value of a type, and its cells. -/
def OfT (P : Program) (t : Nat) (vs : List Value) (u : Value) : Prop := ∃ d, P.underlying t = some d ∧ if aggD d then u = .agg vs.toArray else vs = [u]

theorem take_one {xs : List Value} {off : Nat} {v : Value} (h : (xs.drop off).take 1 = [v]) : xs[off]? = some v := by
  have := congrArg (·[0]?) h
  simpa using this

theorem flat_part {d t : Nat} {ks : List KK} (hf : flatK P d t = some ks) (hs : szOf P t = some ks.length) {xs : List Value} {off : Nat} (ht : Typed ks ((xs.drop off).take ks.length)) (w : World) :
    ∃ u, (part t xs.toArray off).run P w = .ok u w ∧ OfT P t ((xs.drop off).take ks.length) u := by
  cases d with
  | zero => cases hf
  | succ d =>
    unfold flatK at hf
    cases hu : P.underlying t with
    | none => rw [hu] at hf; cases hf
    | some q =>
      rw [hu] at hf
      have one : ∀ k, ks = [k] → aggD q = false → ∃ u, (part t xs.toArray off).run P w = .ok u w ∧ OfT P t ((xs.drop off).take ks.length) u := fun k hk ha => by
        subst hk
        simp only [List.length_cons, List.length_nil, Nat.zero_add] at ht ⊢
        have hl := ht.length
        cases hv : (xs.drop off).take 1 with
        | nil => rw [hv] at hl; cases hl
        | cons v l =>
          cases l with
          | cons _ _ => rw [hv] at hl; cases hl
          | nil => exact ⟨v, part_one hu ha (by simpa using take_one hv), q, hu, by rw [ha]; rfl⟩
      cases q <;> simp only [Option.some.injEq] at hf <;> first | (cases hf; done) | exact one _ hf.symm rfl | skip
      all_goals
        refine ⟨_, part_agg hu rfl hs, _, hu, ?_⟩
        simp [aggD]

theorem flatFs_cons {flat : Nat → Option (List KK)} {f : Field} {fs : List Field} {off : Nat} {ks : List KK} (h : flatFs P flat (f :: fs) off = some ks) :
    f.name ≠ "_" ∧ f.offset = off ∧ ∃ l r, flat f.type = some l ∧ szOf P f.type = some l.length ∧ flatFs P flat fs (off + l.length) = some r ∧ ks = l ++ r := by
  unfold flatFs at h
  split at h
  · rename_i hc
    simp only [Bool.and_eq_true, bne_iff_ne, ne_eq, beq_iff_eq] at hc
    split at h
    · rename_i l n r h1 h2 h3
      split at h
      · rename_i hn
        simp only [beq_iff_eq] at hn
        simp only [Option.some.injEq] at h
        subst hn
        rw [h2] at h3
        exact ⟨hc.1, hc.2, l, r, h1, h2, h3, h.symm⟩
      · cases h
    · cases h
  · cases h

theorem bytes_beq (a b : ByteArray) : ((a == b) = true) = (a = b) := by
  rw [Go.beq_toListBytes]
  simp [ByteArray.toList_eq, ByteArray.ext_iff]
/-- two values of a flat type are compared. -/
def FlatEq (P : Program) (n t : Nat) (ks : List KK) : Prop := ∀ (vs vs' : List Value) (u u' : Value) (w : World), Typed ks vs → Typed ks vs' → OfT P t vs u → OfT P t vs' u' →
  ∃ b : Bool, (Op.equalIn n t u u').run P w = .ok b w ∧ (b = true ↔ vs = vs')

theorem flatFs_equal {d n : Nat} (IH : ∀ t ks, flatK P d t = some ks → FlatEq P n t ks) : ∀ (fs : List Field) (off : Nat) (ks : List KK), flatFs P (flatK P d) fs off = some ks →
    ∀ (xs ys : List Value) (w : World), Typed ks (xs.drop off) → Typed ks (ys.drop off) → ∃ b : Bool, (Op.eqFields n xs.toArray ys.toArray fs).run P w = .ok b w ∧ (b = true ↔ xs.drop off = ys.drop off) := by
  intro fs
  induction fs with
  | nil =>
    intro off ks h xs ys w hx hy
    simp only [flatFs, Option.some.injEq] at h
    subst h
    have h1 := hx.length; have h2 := hy.length
    simp only [List.length_nil] at h1 h2
    exact ⟨true, by simp [Op.eqFields], by simp [List.length_eq_zero_iff.1 h1.symm, List.length_eq_zero_iff.1 h2.symm]⟩
  | cons f fs ih =>
    intro off ks h xs ys w hx hy
    obtain ⟨hn, ho, l, r, h1, h2, h3, rfl⟩ := flatFs_cons h
    obtain ⟨x1, x2⟩ := hx.split
    obtain ⟨y1, y2⟩ := hy.split
    rw [List.drop_drop] at x2 y2
    subst ho
    obtain ⟨a, pa, oa⟩ := flat_part h1 h2 x1 w
    obtain ⟨b, pb, ob⟩ := flat_part h1 h2 y1 w
    obtain ⟨q, hq, hqi⟩ := IH _ _ h1 _ _ a b w x1 y1 oa ob
    obtain ⟨q', hq', hqi'⟩ := ih _ _ h3 xs ys w x2 y2
    simp only [Op.eqFields, ne_eq, hn, not_false_eq_true, if_true, Sem.run_bind, pa, pb, hq, Result.andThen_ok]
    have sx : xs.drop f.offset = (xs.drop f.offset).take l.length ++ xs.drop (f.offset + l.length) := by rw [← List.drop_drop, List.take_append_drop]
    have sy : ys.drop f.offset = (ys.drop f.offset).take l.length ++ ys.drop (f.offset + l.length) := by rw [← List.drop_drop, List.take_append_drop]
    have hlen : ((xs.drop f.offset).take l.length).length = ((ys.drop f.offset).take l.length).length := by rw [← x1.length, ← y1.length]
    cases q with
    | false =>
      refine ⟨false, by simp, ⟨fun e => (by cases e), fun e => ?_⟩⟩
      exact absurd (hqi.2 (by rw [e])) (by simp)
    | true =>
      refine ⟨q', by simpa using hq', ?_⟩
      rw [hqi', sx, sy]
      have e1 := hqi.1 rfl
      constructor
      · intro e; rw [e1, e]
      · intro e; exact (List.append_inj e hlen).2

theorem cellsOf_sz {e k : Nat} (h : szOf P e = some k) : P.cellsOf e = k := by
  unfold szOf at h
  cases hi : P.info? e with
  | none => rw [hi] at h; cases h
  | some i => rw [hi] at h; injection h with h; simp [Program.cellsOf, hi, h]
theorem flatArr_equal {d n e : Nat} {l : List KK} (IH : FlatEq P n e l) (he : flatK P d e = some l) (hs : szOf P e = some l.length) : ∀ (m s : Nat)
    (xs ys : List Value) (w : World), Typed (List.replicate m l).flatten (xs.drop (s * l.length)) → Typed (List.replicate m l).flatten (ys.drop (s * l.length)) →
    ∃ b : Bool, (Op.eqItems n e (P.cellsOf e) xs.toArray ys.toArray (List.range' s m)).run P w = .ok b w ∧ (b = true ↔ xs.drop (s * l.length) = ys.drop (s * l.length)) := by
  intro m
  induction m with
  | zero =>
    intro s xs ys w hx hy
    have h1 := hx.length; have h2 := hy.length
    simp only [List.replicate_zero, List.flatten_nil, List.length_nil] at h1 h2
    exact ⟨true, by simp [Op.eqItems], by simp [List.length_eq_zero_iff.1 h1.symm, List.length_eq_zero_iff.1 h2.symm]⟩
  | succ m ih =>
    intro s xs ys w hx hy
    rw [List.replicate_succ, List.flatten_cons] at hx hy
    obtain ⟨x1, x2⟩ := hx.split
    obtain ⟨y1, y2⟩ := hy.split
    rw [List.drop_drop] at x2 y2
    obtain ⟨a, pa, oa⟩ := flat_part he hs x1 w
    obtain ⟨b, pb, ob⟩ := flat_part he hs y1 w
    obtain ⟨q, hq, hqi⟩ := IH _ _ a b w x1 y1 oa ob
    have es : s * l.length + l.length = (s + 1) * l.length := by rw [Nat.add_mul, Nat.one_mul]
    rw [es] at x2 y2
    obtain ⟨q', hq', hqi'⟩ := ih (s + 1) xs ys w x2 y2
    have hc := cellsOf_sz hs
    rw [hc] at hq' ⊢
    rw [List.range'_succ]
    simp only [Op.eqItems, Sem.run_bind, pa, pb, hq, Result.andThen_ok]
    have sx : xs.drop (s * l.length) = (xs.drop (s * l.length)).take l.length ++ xs.drop ((s + 1) * l.length) := by rw [← es, ← List.drop_drop, List.take_append_drop]
    have sy : ys.drop (s * l.length) = (ys.drop (s * l.length)).take l.length ++ ys.drop ((s + 1) * l.length) := by rw [← es, ← List.drop_drop, List.take_append_drop]
    have hlen : ((xs.drop (s * l.length)).take l.length).length = ((ys.drop (s * l.length)).take l.length).length := by rw [← x1.length, ← y1.length]
    cases q with
    | false =>
      refine ⟨false, by simp, ⟨fun e => (by cases e), fun e => ?_⟩⟩
      exact absurd (hqi.2 (by rw [e])) (by simp)
    | true =>
      refine ⟨q', by simpa using hq', ?_⟩
      rw [hqi', sx, sy]
      have e1 := hqi.1 rfl
      constructor
      · intro e; rw [e1, e]
      · intro e; exact (List.append_inj e hlen).2

theorem OfT.aggA {t n e : Nat} {vs : List Value} {u : Value} (h : OfT P t vs u) (ht : P.underlying t = some (.array n e)) : u = .agg vs.toArray := by
  obtain ⟨d, hd, h⟩ := h
  rw [ht] at hd; injection hd with hd; subst hd
  simpa [aggD] using h
/-- an array's parts. -/
theorem flatA_of {d n e : Nat} {ks : List KK} (h : (match flatK P d e, szOf P e with
      | some l, some k => if k == l.length then some (List.replicate n l).flatten else none
      | _, _ => none) = some ks) : ∃ l, flatK P d e = some l ∧ szOf P e = some l.length ∧ ks = (List.replicate n l).flatten := by
  split at h
  · rename_i l k h1 h2
    split at h
    · rename_i hk
      injection h with h
      have hk : k = l.length := by simpa using hk
      exact ⟨l, h1, by rw [h2, hk], h.symm⟩
    · cases h
  · cases h
theorem OfT.agg {t : Nat} {fs : Array Field} {vs : List Value} {u : Value} (h : OfT P t vs u) (ht : P.underlying t = some (.struct fs)) : u = .agg vs.toArray := by
  obtain ⟨d, hd, h⟩ := h
  rw [ht] at hd; injection hd with hd; subst hd
  simpa [aggD] using h
theorem OfT.one {t : Nat} {d : TypeDesc} {vs : List Value} {u : Value} (h : OfT P t vs u) (ht : P.underlying t = some d) (ha : aggD d = false) : vs = [u] := by
  obtain ⟨d', hd, h⟩ := h
  rw [ht] at hd; injection hd with hd; subst hd
  simpa [ha] using h

theorem flat_equal (d : Nat) : ∀ (n t : Nat) (ks : List KK), d ≤ n → flatK P d t = some ks → FlatEq P n t ks := by
  induction d with
  | zero => intro n t ks _ h; cases h
  | succ d ih =>
    intro n t ks hn h vs vs' u u' w hv hv' ou ou'
    cases n with
    | zero => omega
    | succ n =>
      unfold flatK at h
      cases hu : P.underlying t with
      | none => rw [hu] at h; cases h
      | some q =>
        rw [hu] at h
        cases q <;> simp only [Option.some.injEq] at h <;> first | (cases h; done) | skip
        · subst h
          have e1 := ou.one hu rfl; have e2 := ou'.one hu rfl
          subst e1; subst e2
          obtain ⟨⟨a, rfl⟩, _⟩ := hv
          obtain ⟨⟨b, rfl⟩, _⟩ := hv'
          exact ⟨a == b, by simp [Op.equalIn, run_underlying hu], by first | (simp; done) | simp [bytes_beq]⟩
        · subst h
          have e1 := ou.one hu rfl; have e2 := ou'.one hu rfl
          subst e1; subst e2
          obtain ⟨⟨a, rfl⟩, _⟩ := hv
          obtain ⟨⟨b, rfl⟩, _⟩ := hv'
          exact ⟨a == b, by simp [Op.equalIn, run_underlying hu], by first | (simp; done) | simp [bytes_beq]⟩
        · subst h
          have e1 := ou.one hu rfl; have e2 := ou'.one hu rfl
          subst e1; subst e2
          obtain ⟨⟨a, rfl⟩, _⟩ := hv
          obtain ⟨⟨b, rfl⟩, _⟩ := hv'
          exact ⟨a == b, by simp [Op.equalIn, run_underlying hu], by first | (simp; done) | simp [bytes_beq]⟩
        · rename_i len el
          obtain ⟨l, h1, h2, rfl⟩ := flatA_of h
          have e1 := ou.aggA hu; have e2 := ou'.aggA hu
          subst e1; subst e2
          obtain ⟨i, hi⟩ : ∃ i, P.info? el = some i := by
            unfold szOf at h2
            cases hi : P.info? el with
            | none => rw [hi] at h2; cases h2
            | some i => exact ⟨i, rfl⟩
          rw [run_equalIn_array w n _ _ hu hi, List.range_eq_range']
          have := flatArr_equal (ih n el l (by omega) h1) h1 h2 len 0 vs vs' w (by simpa using hv) (by simpa using hv')
          simpa using this
        · rename_i fs
          split at h
          · cases h
          · rename_i hst
            have e1 := ou.agg hu; have e2 := ou'.agg hu
            subst e1; subst e2
            have hfs : P.fieldsOf t = fs := by simp [Program.fieldsOf, hu]
            rw [run_equalIn_struct w n t _ _ (by rw [hfs]; exact hu) (by simpa using hst), hfs]
            have := flatFs_equal (n := n) (fun t ks hk => ih n t ks (by omega) hk) _ _ _ h vs vs' w (by simpa using hv) (by simpa using hv')
            simpa using this

def FlatCheck (P : Program) (em : Bool) (n t : Nat) (ks : List KK) : Prop := ∀ (vs : List Value) (u : Value) (w : World), Typed ks vs → OfT P t vs u → (Instr.checkKey em n t u).run P w = .ok () w

theorem flat_check (em : Bool) (d : Nat) : ∀ (n t : Nat) (ks : List KK), d ≤ n → flatK P d t = some ks → FlatCheck P em n t ks := by
  induction d with
  | zero => intro n t ks _ h; cases h
  | succ d ih =>
    intro n t ks hn h vs u w hv ou
    cases n with
    | zero => omega
    | succ n =>
      unfold flatK at h
      cases hu : P.underlying t with
      | none => rw [hu] at h; cases h
      | some q =>
        rw [hu] at h
        cases q <;> simp only [Option.some.injEq] at h <;> first | (cases h; done) | skip
        · simp [Instr.checkKey, run_underlying hu]
        · simp [Instr.checkKey, run_underlying hu]
        · simp [Instr.checkKey, run_underlying hu]
        · rename_i len el
          obtain ⟨l, h1, h2, rfl⟩ := flatA_of h
          have e1 := ou.aggA hu
          subst e1
          simp only [Instr.checkKey, Sem.run_bind, run_underlying hu, Result.andThen_ok, Std.Legacy.Range.forIn_eq_forIn_range', Std.Legacy.Range.size, Nat.sub_zero, Nat.add_one_sub_one, Nat.div_one]
          have key : ∀ (m s : Nat), Typed (List.replicate m l).flatten (vs.drop (s * l.length)) → (forIn (List.range' s m) PUnit.unit fun i (_ : PUnit) => (do
              let k ← Go.sizeOf el
              let a ← part el vs.toArray (i * k)
              Instr.checkKey em n el a
              pure (ForInStep.yield PUnit.unit) : Sem (ForInStep PUnit))).run P w = .ok PUnit.unit w := by
            intro m
            induction m with
            | zero => intro s _; simp
            | succ m ihm =>
              intro s hx
              rw [List.replicate_succ, List.flatten_cons] at hx
              obtain ⟨x1, x2⟩ := hx.split
              rw [List.drop_drop, show s * l.length + l.length = (s + 1) * l.length by rw [Nat.add_mul, Nat.one_mul]] at x2
              obtain ⟨a, pa, oa⟩ := flat_part h1 h2 x1 w
              have hc := ih n _ _ (by omega) h1 _ a w x1 oa
              rw [List.range'_succ]
              simp only [List.forIn_cons, Sem.run_bind, run_sizeOf h2, Result.andThen_ok, pa, hc, Sem.run_pure]
              exact ihm (s + 1) x2
          rw [key len 0 (by simpa using hv)]; rfl
        · rename_i fs
          split at h
          · cases h
          · have e1 := ou.agg hu
            subst e1
            simp only [Instr.checkKey, Sem.run_bind, run_underlying hu, Result.andThen_ok]
            rw [← Array.forIn_toList]
            have key : ∀ (l : List Field) (off : Nat) (ks : List KK), flatFs P (flatK P d) l off = some ks → Typed ks (vs.drop off) →
                (forIn l PUnit.unit fun f (_ : PUnit) => if f.name ≠ "_" then (do
                  let a ← part f.type vs.toArray f.offset
                  Instr.checkKey em n f.type a
                  pure (ForInStep.yield PUnit.unit)) else
                  pure (ForInStep.yield PUnit.unit) : Sem PUnit).run P w = .ok PUnit.unit w := by
              intro l
              induction l with
              | nil => intro off ks _ _; simp
              | cons f l ihl =>
                intro off ks h hx
                obtain ⟨hn', ho, l1, r, h1, h2, h3, rfl⟩ := flatFs_cons h
                obtain ⟨x1, x2⟩ := hx.split
                rw [List.drop_drop] at x2
                subst ho
                obtain ⟨a, pa, oa⟩ := flat_part h1 h2 x1 w
                have hc := ih n _ _ (by omega) h1 _ a w x1 oa
                simp only [List.forIn_cons, Sem.run_bind, hn', ne_eq, not_false_eq_true, if_true, Result.andThen_ok, pa, hc, Sem.run_pure]
                exact ihl _ _ h3 x2
            rw [key _ _ _ h (by simpa using hv)]; rfl

theorem KKR.bits {k : KK} {v : Value} (h : KKR k v) (n : Nat) : Instr.sameBits n v v = true := by
  cases k <;> obtain ⟨x, rfl⟩ := h <;> cases n <;> simp [Instr.sameBits, bytes_beq]
theorem Typed.bits {n : Nat} : ∀ {ks : List KK} {vs : List Value}, Typed ks vs → ((vs.zip vs).all fun (x, y) => Instr.sameBits n x y) = true := by
  intro ks
  induction ks with
  | nil => intro vs h; cases vs with | nil => rfl | cons _ _ => exact h.elim
  | cons k ks ih => intro vs h; cases vs with | nil => rfl | cons v vs => simp only [List.zip_cons_cons, List.all_cons, h.1.bits n, ih h.2, Bool.and_self]

theorem sameNow_agg {q : TypeDesc} (ha : aggD q = true) (xs : Array Value) (v : Value) : Instr.sameNow q (.agg xs) v = none := by
  cases q <;> first | rfl | (simp [aggD] at ha)
def flatFinder {kt : Nat} {q : TypeDesc} (ht : P.underlying kt = some q) (ha : aggD q = true) {ks : List KK} (hk : flatK P 5 kt = some ks) {us : List Value} (hu : Typed ks us) : Finder P kt (.agg us.toArray) where
  E u b := ∃ us', u = .agg us'.toArray ∧ Typed ks us' ∧ (b = true ↔ us = us')
  F es j r := ∀ w, (Instr.findAsking kt (.agg us.toArray) es j).run P w = .ok r w
  nil j w := by simp [Instr.findAsking]
  yes {e es j} h := by
    obtain ⟨us', h1, h2, h3⟩ := h
    intro w
    obtain ⟨b, hb, hi⟩ := flat_equal 5 10000 kt ks (by omega) hk us us' (.agg us.toArray) (.agg us'.toArray) w hu h2 ⟨_, ht, by simp [ha]⟩ ⟨_, ht, by simp [ha]⟩
    have : b = true := hi.2 (h3.1 rfl)
    subst this
    simp [Instr.findAsking, Op.equal, Op.maxDepth, h1, hb]
  no {e es j r} h g := by
    obtain ⟨us', h1, h2, h3⟩ := h
    intro w
    obtain ⟨b, hb, hi⟩ := flat_equal 5 10000 kt ks (by omega) hk us us' (.agg us.toArray) (.agg us'.toArray) w hu h2 ⟨_, ht, by simp [ha]⟩ ⟨_, ht, by simp [ha]⟩
    have : b = false := by
      cases b with
      | false => rfl
      | true => exact absurd (h3.2 (hi.1 rfl)) (by simp)
    subst this
    simp [Instr.findAsking, Op.equal, Op.maxDepth, h1, hb, g w]
  run {es r} h w := by
    cases es with
    | nil =>
      have := h w
      simp only [Instr.findAsking, Sem.run_pure, Result.ok.injEq, and_true] at this
      simp [Instr.findKey, run_underlying ht, Instr.findNow, this]
    | cons e es =>
      simp only [Instr.findKey, Sem.run_bind, run_underlying ht, Result.andThen_ok, Instr.findNow, sameNow_agg ha]
      exact h w
  stays {u} h w := by
    obtain ⟨us', h1, h2, h3⟩ := h
    have := h3.1 rfl
    subst this; subst h1
    have hs : Instr.sameBits 10000 (.agg us.toArray) (.agg us.toArray) = true := by
      show Instr.sameBits (9999 + 1) (.agg us.toArray) (.agg us.toArray) = true
      simp only [Instr.sameBits, beq_self_eq_true, Bool.true_and]
      exact h2.bits
    simp [Instr.keyThatStays, hs]
  check b w := flat_check b 5 10000 kt ks (by omega) hk us (.agg us.toArray) w hu ⟨_, ht, by simp [ha]⟩

theorem flatSays {kt : Nat} {q : TypeDesc} (ht : P.underlying kt = some q) (ha : aggD q = true) {ks : List KK} (hk : flatK P 5 kt = some ks) {us : List Value} (hu : Typed ks us) {l : List SV} {m : Mp} (hl : ListR C m l us) :
    Says C (flatFinder ht ha hk hu) (cmpKey ks l) := fun m' y u hy => by
  cases y with
  | s y => exact ⟨fun h => (nomatch h), fun h => (nomatch h)⟩
  | a l' =>
    obtain ⟨us', rfl, hl'⟩ := hy
    obtain ⟨e1, e2⟩ := eqFlat_ok (ks := ks) hl hl'
    exact ⟨fun h => ⟨us', rfl, (e1 h).2.1, ⟨fun _ => (e1 h).2.2, fun _ => rfl⟩⟩, fun h => ⟨us', rfl, (e2 h).2.1, ⟨fun q => (by cases q), fun q => absurd q (e2 h).2.2⟩⟩⟩

theorem run_eq' {neg : Bool} {t : Nat} {u u' : Value} {x y : Operand} {w : World} {r : Bool}
    (hb : binOp .eql t u u' = (do pure (.bool (← Op.equal t u u')))) (hb' : binOp .neq t u u' = (do pure (.bool (!(← Op.equal t u u'))))) (hg : ∀ op, (eqGuard op t x y u u').run P w = .ok () w)
    (he : (Op.equalIn (9999 + 1) t u u').run P w = .ok r w) : (do eqGuard (eqOp neg) t x y u u'; binOp (eqOp neg) t u u' : Sem Value).run P w = .ok (.bool ((!neg) == r)) w := by
  have he : (Op.equal t u u').run P w = .ok r w := he
  simp only [Sem.run_bind, hg, Result.andThen_ok]
  cases neg with
  | false => rw [show eqOp false = .eql from rfl, hb]; simp [he]
  | true => rw [show eqOp true = .neq from rfl, hb']; simp [he]
/-- two structs of plain parts, compared. -/
theorem opEqF_ok {ks : List KK} {neg : Bool} {x y : AV} (h : opEqF ks neg x y hp nx = .ok v hp' nx') : hp' = hp ∧ nx' = nx ∧ ∀ m u u', AVR C m x u → AVR C m y u' → ∀ (t : Nat) (fs : Array Field) (a b : Operand),
    P.underlying t = some (.struct fs) → flatK P 5 t = some ks → P.eqGuardType P.depth t = false → Gives P C m (do eqGuard (eqOp neg) t a b u u'; binOp (eqOp neg) t u u') v := by
  obtain ⟨l, rfl, g⟩ := asA_ok h
  obtain ⟨l', rfl, g1⟩ := asA_ok g
  obtain ⟨c, rfl, rfl, rfl, ht⟩ := triAr_ok g1
  refine ⟨rfl, rfl, fun m u u' hu hu' t fs a b hs hk hgd w => ?_⟩
  obtain ⟨us, rfl, hl⟩ := hu
  obtain ⟨us', rfl, hl'⟩ := hu'
  obtain ⟨e1, e2⟩ := eqFlat_ok (ks := ks) hl hl'
  have key : ∃ r : Bool, Typed ks us ∧ Typed ks us' ∧ (r = true ↔ us = us') ∧ c = ((!neg) == r) := by
    cases hf : eqFlat ks l l' with
    | yes =>
      obtain ⟨i1, i2, i3⟩ := e1 hf
      refine ⟨true, i1, i2, ⟨fun _ => i3, fun _ => rfl⟩, ?_⟩
      rw [hf] at ht
      cases neg <;> cases c <;> first | rfl | cases ht
    | no =>
      obtain ⟨i1, i2, i3⟩ := e2 hf
      refine ⟨false, i1, i2, ⟨fun q => (by cases q), fun q => absurd q i3⟩, ?_⟩
      rw [hf] at ht
      cases neg <;> cases c <;> first | rfl | cases ht
    | unk =>
      rw [hf] at ht
      cases neg <;> cases c <;> cases ht
  obtain ⟨r, i1, i2, i3, rfl⟩ := key
  have of : ∀ vs : List Value, OfT P t vs (.agg vs.toArray) := fun vs => ⟨_, hs, by simp [aggD]⟩
  obtain ⟨r', hr', hri⟩ := flat_equal (P := P) 5 (9999 + 1) t ks (by omega) hk us us' _ _ w i1 i2 (of us) (of us')
  have hrr : r = r' := by rw [Bool.eq_iff_iff]; exact i3.trans hri.symm
  subst hrr
  refine ⟨_, run_eq' rfl rfl ?_ hr', rfl⟩
  intro op
  unfold eqGuard
  cases op <;> simp [run_program, hgd]

/-- which keys a type has. -/
def KeyT (P : Program) (kt : Nat) (kk : KeyK) : Prop := keyKind P kt = some kk
theorem withKey_ok {kk : KeyK} {key : AV} {k : V1 → (V1 → Tri) → Ar} (h : withKey kk key k = .ok v hp' nx') : ∃ kx cmp, k kx cmp = .ok v hp' nx' ∧
    ∀ m kv, AVR C m key kv → V1R C m kx kv ∧ ∀ kt, KeyT P kt kk → ∃ Fd : Finder P kt kv, Says C Fd cmp := by
  cases kk with
  | int =>
    obtain ⟨q, n, rfl, g⟩ := asInt_ok h
    refine ⟨_, _, g, fun m kv hkv => ?_⟩
    have := AVR.int hkv; subst this
    refine ⟨rfl, fun kt hk => ?_⟩
    unfold KeyT keyKind at hk
    split at hk
    · rename_i kd ht; exact ⟨intFinder ht q n, intSays ht q n⟩
    · rename_i fs ht
      cases hf : flatK P 5 kt <;> simp [hf] at hk
    · rename_i fs ht
      cases hf : flatK P 5 kt <;> simp [hf] at hk
    · cases hk
  | flat ks =>
    obtain ⟨l, rfl, g⟩ := asA_ok h
    obtain ⟨hf, g⟩ := ifB_ok g
    refine ⟨_, _, g, fun m kv hkv => ?_⟩
    obtain ⟨us, rfl, hl⟩ := hkv
    refine ⟨⟨us, rfl, hl⟩, fun kt hk => ?_⟩
    have hu := fits_ok hf hl
    unfold KeyT keyKind at hk
    split at hk
    · cases hk
    · rename_i fs ht
      cases hfk : flatK P 5 kt with
      | none => simp [hfk] at hk
      | some ks' =>
        simp only [hfk, Option.map_some, Option.some.injEq, KeyK.flat.injEq] at hk
        subst hk
        exact ⟨flatFinder ht rfl hfk hu, flatSays ht rfl hfk hu hl⟩
    · rename_i fs ht
      cases hfk : flatK P 5 kt with
      | none => simp [hfk] at hk
      | some ks' =>
        simp only [hfk, Option.map_some, Option.some.injEq, KeyK.flat.injEq] at hk
        subst hk
        exact ⟨flatFinder ht rfl hfk hu, flatSays ht rfl hfk hu hl⟩
    · cases hk

theorem opLook_ok {kk : KeyK} {ok : Bool} {z : V1} {x y : AV} (h : opLook kk ok z x y hp nx = .ok v hp' nx') : hp' = hp ∧ nx' = nx ∧ ∀ base m u u', AVR C m x u → AVR C m y u' → ∀ (t kt e : Nat) (i : TypeInfo) (zv : Value), P.underlying t = some (.map kt e) → KeyT P kt kk →
    P.info? e = some i → i.zero = some zv → (∀ m, V1R C m z zv) → Reads P C base m hp nx (Instr.lookup t u u' ok) v := by
  obtain ⟨x, rfl, g⟩ := asS_ok h
  obtain ⟨kx, cmp, g1, hK⟩ := withKey_ok (P := P) (C := C) g
  rcases svMap_ok g1 with ⟨b, rfl, g2⟩ | ⟨rfl, g2⟩
  · unfold lookO at g2
    rw [getHp_eq] at g2
    obtain ⟨l, ho, g3⟩ := obMap_ok g2
    rcases findM_ok (P := P) (C := C) g3 with ⟨x, g4, hf⟩ | ⟨g4, hf⟩
    · obtain ⟨rfl, rfl, hv⟩ := lookR_ok (C := C) g4
      refine ⟨rfl, rfl, fun base m u u' hu hu' t kt e i zv ht hk hi hz hzr w hs => ?_⟩
      obtain ⟨_, hF⟩ := hK m u' hu'
      obtain ⟨Fd, hS⟩ := hF kt hk
      obtain ⟨B, δ, N, es', hm, _, _, hob⟩ := hs.at (b := b) (by rw [ho]; simp) (ref_un hu)
      have := ref_live hu hm; subst this
      rw [ho] at hob
      obtain ⟨_, es, clock, h1, h2, hbs⟩ := hob
      obtain ⟨j, u, hj, hr⟩ := hf Fd hS m es.toList h2 0
      refine ⟨_, ?_, hv m u hr⟩
      simp [Instr.lookup, run_underlying ht, run_getMap h1, Fd.check, Fd.run hj]
    · obtain ⟨rfl, rfl, hv⟩ := lookR_ok (C := C) g4
      refine ⟨rfl, rfl, fun base m u u' hu hu' t kt e i zv ht hk hi hz hzr w hs => ?_⟩
      obtain ⟨_, hF⟩ := hK m u' hu'
      obtain ⟨Fd, hS⟩ := hF kt hk
      obtain ⟨B, δ, N, es', hm, _, _, hob⟩ := hs.at (b := b) (by rw [ho]; simp) (ref_un hu)
      have := ref_live hu hm; subst this
      rw [ho] at hob
      obtain ⟨_, es, clock, h1, h2, hbs⟩ := hob
      have hj := hf Fd hS m es.toList h2 0
      refine ⟨_, ?_, hv m zv (hzr m)⟩
      simp [Instr.lookup, run_underlying ht, run_getMap h1, Fd.check, Fd.run hj, zeroValue, typeInfo, hi, hz]
  · obtain ⟨rfl, rfl, hv⟩ := lookR_ok (C := C) g2
    refine ⟨rfl, rfl, fun base m u u' hu hu' t kt e i zv ht hk hi hz hzr w hs => ?_⟩
    obtain ⟨_, hF⟩ := hK m u' hu'
    obtain ⟨Fd, hS⟩ := hF kt hk
    have hu : u = _ := hu; subst hu
    refine ⟨_, ?_, hv m zv (hzr m)⟩
    simp [Instr.lookup, run_underlying ht, Fd.check, Fd.run (Fd.nil 0), zeroValue, typeInfo, hi, hz]

def setMap (w : World) (B : Nat) (o : Go.Obj) : World := { w with heap := w.heap.setIfInBounds B o }
theorem run_setMap {B : Nat} {es : Array MapEntry} {clock : Nat} (h : w.heap[B]? = some (.map es clock)) (o : Go.Obj) : (setObj B o).run P w = .ok () (setMap w B o) := by simp [setObj, Sem.run, h, setMap]
theorem SR.setMap (hs : SR P C base m hp nx w) {b : Pid} {B δ N es' : Nat} (hm : m b = .live B δ N es') (hδ : δ = 0) {l : List (V1 × V1)} {es : Array MapEntry} {clock : Nat} (he : EntsR C m l es.toList) (hb : Births es clock) :
    Good P C base m hp nx w m (put5 b (.map l) hp) nx (setMap w B (.map es clock)) := by
  have hlt := (hs.live _ _ _ _ _ hm).2.1
  exact hs.update hm _ (fun k hk => by simp [X.setMap, Ne.symm hk]) (by simp [X.setMap]) rfl rfl rfl ⟨hδ, es, clock, by simp [X.setMap, hlt], he, hb⟩

theorem opMset_ok {kk : KeyK} {x y z : AV} (h : opMset kk x y z hp nx = .ok v hp' nx') : v = .s .un ∧ nx' = nx ∧ ∀ base m w a b c, SR P C base m hp nx w → AVR C m x a → AVR C m y b → AVR C m z c → ∀ (t kt e : Nat), P.underlying t = some (.map kt e) → KeyT P kt kk →
    ∃ w', (Instr.mapUpdate t a b c).run P w = .ok () w' ∧ Good P C base m hp nx w m hp' nx' w' := by
  obtain ⟨x, rfl, g⟩ := asS_ok h
  obtain ⟨kx, cmp, g1, hK⟩ := withKey_ok (P := P) (C := C) g
  obtain ⟨z, rfl, g2⟩ := avV1_ok g1
  rcases svMap_ok g2 with ⟨b, rfl, g3⟩ | ⟨rfl, g3⟩
  · unfold putO at g3
    rw [getHp_eq] at g3
    obtain ⟨l, ho, g4⟩ := obMap_ok g3
    obtain ⟨l', g5, hr⟩ := setM_ok (P := P) (C := C) g4
    rw [setHp_eq] at g5
    obtain ⟨rfl, rfl, rfl⟩ := okS_ok g5
    refine ⟨rfl, rfl, fun base m w ua ub uc hs hu hb hc t kt e ht hk => ?_⟩
    obtain ⟨hkv, hF⟩ := hK m ub hb
    obtain ⟨Fd, hS⟩ := hF kt hk
    obtain ⟨B, δ, N, es', hm, _, _, hob⟩ := hs.at (b := b) (by rw [ho]; simp) (ref_un hu)
    have := ref_live hu hm; subst this
    rw [ho] at hob
    obtain ⟨hδ, es, clock, h1, h2, hbs⟩ := hob
    rcases hr Fd hS m es.toList uc h2 (V1R.of_av hc) hkv 0 with ⟨i, u, hf, ⟨en, he, hkey⟩, hl⟩ | ⟨hf, hl⟩
    · have hst : (Instr.keyThatStays (((es[0 + i]?).map (·.key)).getD ub) ub).run P w = .ok ub w := by
        have : es[0 + i]? = some en := by simpa using he
        rw [this]
        exact Fd.stays hkey w
      refine ⟨setMap w B (.map (es.modify (0 + i) fun e => { e with key := ub, val := uc }) clock), ?_, hs.setMap hm hδ (by simpa using hl) (births_modify hbs _ _ fun _ => rfl)⟩
      simp only [Instr.mapUpdate, Sem.run_bind, run_underlying ht, Result.andThen_ok, run_getMap h1, Fd.check, Fd.run hf, hst, run_setMap h1]
    · refine ⟨setMap w B (.map (es.push { key := ub, val := uc, born := clock }) (clock + 1)), ?_, hs.setMap hm hδ (by simpa using hl _ rfl rfl) (births_push hbs _ _)⟩
      simp only [Instr.mapUpdate, Sem.run_bind, run_underlying ht, Result.andThen_ok, run_getMap h1, Fd.check, Fd.run hf, run_setMap h1]
  · cases g3

theorem opMdel_ok {kk : KeyK} {x y : AV} (h : opMdel kk x y hp nx = .ok v hp' nx') : v = .s .un ∧ nx' = nx ∧ ∀ base m w a b, SR P C base m hp nx w → AVR C m x a → AVR C m y b → ∀ (t u ty kt e : Nat), P.underlying t = some (.map kt e) → KeyT P kt kk →
    ∃ w', (Builtin.delete_ #[t, u] ty #[a, b]).run P w = .ok (.tuple #[]) w' ∧ Good P C base m hp nx w m hp' nx' w' := by
  obtain ⟨x, rfl, g⟩ := asS_ok h
  obtain ⟨kx, cmp, g1, hK⟩ := withKey_ok (P := P) (C := C) g
  rcases svMap_ok g1 with ⟨b, rfl, g3⟩ | ⟨rfl, g3⟩
  · unfold delO at g3
    rw [getHp_eq] at g3
    obtain ⟨l, ho, g4⟩ := obMap_ok g3
    obtain ⟨l', g5, hr⟩ := delM_ok (P := P) (C := C) g4
    rw [setHp_eq] at g5
    obtain ⟨rfl, rfl, rfl⟩ := okS_ok g5
    refine ⟨rfl, rfl, fun base m w ua ub hs hu hb t u ty kt e ht hk => ?_⟩
    obtain ⟨hkv, hF⟩ := hK m ub hb
    obtain ⟨Fd, hS⟩ := hF kt hk
    obtain ⟨B, δ, N, es', hm, _, _, hob⟩ := hs.at (b := b) (by rw [ho]; simp) (ref_un hu)
    have := ref_live hu hm; subst this
    rw [ho] at hob
    obtain ⟨hδ, es, clock, h1, h2, hbs⟩ := hob
    rcases hr Fd hS m es.toList h2 0 with ⟨i, u, hf, hl⟩ | ⟨hf, hl⟩
    · refine ⟨setMap w B (.map (es.eraseIdxIfInBounds (0 + i)) clock), ?_, hs.setMap hm hδ ?_ (births_erase hbs _)⟩
      · simp [Builtin.delete_, run_underlying ht, run_getMap h1, Fd.check, Fd.run hf, run_setMap h1]
      · simpa using hl
    · refine ⟨setMap w B (.map es clock), ?_, hs.setMap hm hδ hl hbs⟩
      simp [Builtin.delete_, run_underlying ht, run_getMap h1, Fd.check, Fd.run hf, run_setMap h1]
  · obtain ⟨rfl, rfl, rfl⟩ := okS_ok g3
    refine ⟨rfl, rfl, fun base m w ua ub hs hu hb t u ty kt e ht hk => ⟨w, ?_, .refl hs⟩⟩
    obtain ⟨hkv, hF⟩ := hK m ub hb
    obtain ⟨Fd, hS⟩ := hF kt hk
    have hu : ua = _ := hu; subst hu
    simp [Builtin.delete_, run_underlying ht, Fd.check]

theorem EntsR.length {l : List (V1 × V1)} : ∀ {es : List MapEntry}, EntsR C m l es → l.length = es.length := by
  induction l with
  | nil => intro es h; cases es with | nil => rfl | cons _ _ => exact h.elim
  | cons p l ih => intro es h; cases es with | nil => exact h.elim | cons e es => simp [ih h.2.2]

theorem opLenMap_ok {x : AV} (h : opLenMap x hp nx = .ok v hp' nx') : hp' = hp ∧ nx' = nx ∧ ∀ base m u, AVR C m x u → ∀ (t ty kt e : Nat), P.underlying t = some (.map kt e) → Reads P C base m hp nx (Builtin.len_ #[t] ty #[u]) v := by
  obtain ⟨x, rfl, g⟩ := asS_ok h
  rcases svMap_ok g with ⟨b, rfl, g2⟩ | ⟨rfl, g2⟩
  · unfold lenMapO at g2
    rw [getHp_eq] at g2
    obtain ⟨l, ho, g3⟩ := obMap_ok g2
    rw [forceN_eq, lenK_eq] at g3
    obtain ⟨rfl, rfl, rfl⟩ := okS_ok g3
    refine ⟨rfl, rfl, fun base m u hu t ty kt e ht w hs => ?_⟩
    obtain ⟨B, δ, N, es', hm, _, _, hob⟩ := hs.at (b := b) (by rw [ho]; simp) (ref_un hu)
    have := ref_live hu hm; subst this
    rw [ho] at hob
    obtain ⟨_, es, clock, h1, h2, hbs⟩ := hob
    have := h2.length
    simp only [Array.length_toList] at this
    exact ⟨.int .i64 es.size, by simp [Builtin.len_, run_underlying ht, run_getMap h1, goInt], by show _ = _; rw [this]; rfl⟩
  · obtain ⟨rfl, rfl, rfl⟩ := okS_ok g2
    refine ⟨rfl, rfl, fun base m u hu t ty kt e ht w hs => ?_⟩
    have hu : u = _ := hu; subst hu
    exact ⟨.int .i64 0, by simp [Builtin.len_, run_underlying ht, goInt], rfl⟩
end
end Go.X
end

/-! Bytes; clearing; the least and the greatest. -/
noncomputable section
namespace Go.X
section
variable {P : Program} {C : Ctx} {base : Nat} {m : Mp} {hp hp' : Hp} {nx nx' : Pid} {w : World} {v : AV}

theorem clearO_ok : True := trivial

theorem opClear_ok {z : List SV} {x : AV} (h : opClear z x hp nx = .ok v hp' nx') : v = .s .un ∧ nx' = nx ∧ ∀ base m w a, SR P C base m hp nx w → AVR C m x a → ∀ (t ty e : Nat), P.underlying t = some (.slice e) → ZeroR P C e z →
    ∃ w', (Builtin.clear_ #[t] ty #[a]).run P w = .ok (.tuple #[]) w' ∧ Good P C base m hp nx w m hp' nx' w' := by
  obtain ⟨x, rfl, g⟩ := asS_ok h
  rcases svSlc_ok g with ⟨b, o, n, c, rfl, g1⟩ | ⟨b, o, rfl, g1⟩ | ⟨rfl, g1⟩
  · rcases ifB_or g1 with ⟨h0, g2⟩ | ⟨h0, g2⟩
    · have h0 := beq_eq h0; subst h0
      obtain ⟨rfl, rfl, rfl⟩ := okS_ok g2
      refine ⟨rfl, rfl, fun base m w a hs hu t ty e ht hz => ⟨w, ?_, .refl hs⟩⟩
      obtain ⟨a, k, rfl⟩ := slc_some hu
      simp [Builtin.clear_, run_underlying ht]
    · have hn : n ≠ 0 := fun hn => by subst hn; cases h0
      rw [timesK_eq] at g2
      obtain ⟨rfl, rfl, hst⟩ := stObj_ok (P := P) (C := C) g2
      refine ⟨rfl, rfl, fun base m w ua hs hu t ty e ht hz => ?_⟩
      obtain ⟨i, zv, hi, hz, hzl⟩ := hz
      have hu : SlcR m b o n c ua := hu
      obtain ⟨a, k, rfl⟩ := slc_some hu
      obtain ⟨a', w', he, e1, hg⟩ := hst base m w _ _ hs hu.addr ((hzl m).flatten n)
      injection he with he; injection he with he; subst he
      refine ⟨w', ?_, hg⟩
      have e2 : (Builtin.zeroCells zv.cells n).toList = (List.replicate n zv.cells.toList).flatten := times_eq _ _
      obtain ⟨j, rfl⟩ : ∃ j, n = j + 1 := ⟨n - 1, by omega⟩
      simp [Builtin.clear_, run_underlying ht, zeroValue, typeInfo, hi, hz, e2, e1]
  · obtain ⟨rfl, rfl, rfl⟩ := okS_ok g1
    refine ⟨rfl, rfl, fun base m w a hs hu t ty e ht hz => ⟨w, ?_, .refl hs⟩⟩
    obtain ⟨a, k, rfl⟩ := slz_some hu
    simp [Builtin.clear_, run_underlying ht]
  · obtain ⟨rfl, rfl, rfl⟩ := okS_ok g1
    refine ⟨rfl, rfl, fun base m w a hs hu t ty e ht hz => ⟨w, ?_, .refl hs⟩⟩
    have hu : a = _ := hu; subst hu
    simp [Builtin.clear_, run_underlying ht]

theorem lessI_eq (mx : Bool) (a b : Int) : lessI mx a b = if mx then (if b > a then b else a) else (if b < a then b else a) := by
  cases mx with
  | true =>
    show (Bool.rec a b (ltI a b) : Int) = _
    rw [ltI_eq]
    by_cases h : a < b
    · simp [h]
    · simp [h]
  | false =>
    show (Bool.rec a b (ltI b a) : Int) = _
    rw [ltI_eq]
    by_cases h : b < a
    · simp [h]
    · simp [h]

theorem minmax1_ok {mx : Bool} {l : List AV} : ∀ {k : IntKind} {a : Int}, minmax1 mx l k a hp nx = .ok v hp' nx' → hp' = hp ∧ nx' = nx ∧ ∀ (m : Mp) us, ArgsR C m l us → ∀ w : World, ∃ r, AVR C m v r ∧
    (us.foldlM (if mx then Builtin.max2 else Builtin.min2) (.int k a)).run P w = .ok r w := by
  induction l with
  | nil =>
    intro k a h
    obtain ⟨rfl, rfl, rfl⟩ := okS_ok h
    exact ⟨rfl, rfl, fun m us hu w => by cases us with | nil => exact ⟨.int k a, rfl, rfl⟩ | cons _ _ => exact hu.elim⟩
  | cons x l ih =>
    intro k a h
    have h : asInt x (fun _ b => forceI (lessI mx a b) fun c => minmax1 mx l k c hp nx) .bad = .ok v hp' nx' := h
    obtain ⟨q, b, rfl, g⟩ := asInt_ok h
    rw [forceI_eq] at g
    obtain ⟨h1, h2, hr⟩ := ih g
    refine ⟨h1, h2, fun m us hu w => ?_⟩
    cases us with
    | nil => exact hu.elim
    | cons u us =>
      have hb := AVR.int hu.1; subst hb
      obtain ⟨r, hr, e⟩ := hr m us hu.2 w
      refine ⟨r, hr, ?_⟩
      rw [List.foldlM_cons, Sem.run_bind]
      have : ((if mx then Builtin.max2 else Builtin.min2) (.int k a) (.int q b)).run P w = .ok (.int k (lessI mx a b)) w := by
        rw [lessI_eq]; cases mx <;> rfl
      rw [this]; exact e

theorem opMinmax_ok {mx : Bool} {l : List AV} (h : opMinmax mx l hp nx = .ok v hp' nx') : hp' = hp ∧ nx' = nx ∧ ∀ m us, ArgsR C m l us → ∀ ts ty, Gives P C m ((if mx then Builtin.max_ else Builtin.min_) ts ty us.toArray) v := by
  cases l with
  | nil => cases h
  | cons x l =>
    have h : asInt x (fun k a => minmax1 mx l k a hp nx) .bad = .ok v hp' nx' := h
    obtain ⟨k, a, rfl, g⟩ := asInt_ok h
    obtain ⟨h1, h2, hr⟩ := minmax1_ok (P := P) (C := C) g
    refine ⟨h1, h2, fun m us hu ts ty w => ?_⟩
    cases us with
    | nil => exact hu.elim
    | cons u us =>
      have ha := AVR.int hu.1; subst ha
      obtain ⟨r, hr, e⟩ := hr m us hu.2 w
      refine ⟨r, ?_, hr⟩
      cases mx <;> exact e

/-- some bytes. -/
def BytesR (P : Program) (C : Ctx) (w : World) (n : Nat) (r : Rope) (u : Value) : Prop := r.ok C ∧ r.len = n ∧ (∀ w', (Builtin.lenOf u).run P w' = .ok n w') ∧
  (∀ w' : World, w'.heap = w.heap → (Builtin.firstCells 1 n u).run P w' = .ok ((r.den C).map fun b => Value.int .u8 b.toNat).toArray w')

theorem cellsR_ok {l : List SV} : ∀ {k : Rope → Ar}, cellsR l k .bad = .ok v hp' nx' → ∃ r, k r = .ok v hp' nx' ∧ r.ok C ∧ r.len = l.length ∧ ∀ (m : Mp) us, ListR C m l us → us = (r.den C).map fun b => Value.int .u8 b.toNat := by
  induction l with
  | nil => intro k h; exact ⟨.nil, h, trivial, rfl, fun m us hu => by cases us with | nil => rfl | cons _ _ => exact hu.elim⟩
  | cons x l ih =>
    intro k h
    have h : svInt x (fun q n => intNat n (fun n => (Bool.rec (motive := fun _ => Ar) .bad (cellsR l (fun r => litK 1 n r k) .bad) (cand (kindEq q .u8) (Nat.ble n 255)))) .bad) .bad = .ok v hp' nx' := h
    obtain ⟨q, n, rfl, g⟩ := svInt_ok h
    obtain ⟨n, rfl, g1⟩ := intNat_ok g
    cases hc : cand (kindEq q .u8) (Nat.ble n 255) with
    | false => rw [hc] at g1; cases g1
    | true =>
      rw [hc] at g1
      obtain ⟨h1, h2⟩ := cand_true hc
      have h1 := kindEq_ok h1
      have h2 := ble_le h2
      subst h1
      obtain ⟨r, g2, h3, h4, h5⟩ := ih g1
      obtain ⟨r', g3, h6⟩ := litK_ok (C := C) g2
      obtain ⟨h7, h8⟩ := h6 h3
      refine ⟨r', g3, h7, ?_, fun m us hu => ?_⟩
      · rw [← Rope.den_length h7, h8, List.length_append, Rope.den_length h3, h4, litB_length]; simp; omega
      · cases us with
        | nil => exact hu.elim
        | cons u us =>
          have hu1 : u = _ := hu.1
          rw [h8, hu1, h5 m us hu.2.2]
          simp [litB]; omega

theorem cutK_ok {r : Rope} {o n : Nat} {k : Rope → Ar} (h : cutK r o n k .bad = .ok v hp' nx') : ∃ q, k q = .ok v hp' nx' ∧ (r.ok C → q.ok C ∧ q.den C = ((r.den C).drop o).take n ∧ o + n ≤ r.len ∧ q.len = n) := by
  obtain ⟨h0, g⟩ := ifB_ok (b := Nat.ble (Nat.add o n) (lenR r)) h
  have h0 : o + n ≤ lenR r := ble_le h0
  rw [lenR_eq] at h0
  obtain ⟨r1, g3, h1⟩ := dropRK_ok (C := C) g
  obtain ⟨r2, g4, h2⟩ := takeRK_ok (C := C) g3
  refine ⟨r2, g4, fun hr => ?_⟩
  obtain ⟨a, b⟩ := h1 hr
  obtain ⟨c, d⟩ := h2 a
  refine ⟨c, by rw [d, b], h0, ?_⟩
  rw [← Rope.den_length c, d, b, List.length_take, List.length_drop, Rope.den_length hr]; omega

theorem bytesO_ok {o n : Nat} {ob : Obj} {k : Rope → Ar} (h : bytesO ob o n k .bad = .ok v hp' nx') : ∃ r, k r = .ok v hp' nx' ∧ ∀ (m : Mp) (w : World) B δ N es, ObjR P C m w B δ N es ob → r.ok C ∧ r.len = n ∧ ∀ w' : World, w'.heap = w.heap → (loadCells ⟨B, δ + o, none⟩ n).run P w' = .ok ((r.den C).map fun b => Value.int .u8 b.toNat).toArray w' := by
  rcases obCells_ok h with ⟨t', ex, wr, l, rfl, g2⟩ | ⟨t', ex, wr, r, rfl, g2⟩
  · obtain ⟨ha, g3⟩ := dropK_ok g2
    obtain ⟨hb, g4⟩ := takeK_ok g3
    rw [List.length_drop] at hb
    obtain ⟨r, g5, h1, h2, h3⟩ := cellsR_ok (C := C) g4
    refine ⟨r, g5, fun m w B δ N es hob => ⟨h1, by rw [h2, List.length_take, List.length_drop]; omega, fun w' hw => ?_⟩⟩
    obtain ⟨c, fz, q1, q2, q3, q4, q5, q6, q7⟩ := hob
    have hr := (q7.drop o).take n
    rw [part_of (by omega)] at hr
    rw [run_loadCells_row (c := c) (t := t') (fz := fz) (by rw [hw]; exact q1) (δ + o) n (by omega), h3 m _ hr]
  · obtain ⟨r2, g4, h3⟩ := cutK_ok (C := C) g2
    refine ⟨r2, g4, fun m w B δ N es hob => ?_⟩
    obtain ⟨hr, c, fz, q1, q2, q3, q4, q5, q6, q7, q8⟩ := hob
    obtain ⟨h4, h5, h6, h2⟩ := h3 hr
    refine ⟨h4, h2, fun w' hw => ?_⟩
    have hl := Rope.den_length hr
    rw [run_loadCells_row (c := c) (t := t') (fz := fz) (by rw [hw]; exact q1) (δ + o) n (by omega), ← part_of (k := r.len) (by omega), q8, h5]
    simp [List.map_drop, List.map_take]

theorem lenOf_string {b : ByteArray} : (Builtin.lenOf (.string b)).run P w = .ok b.size w := rfl

theorem push_all (l : List UInt8) : (l.map fun b => (b.toNat : Int)).foldl (fun r n => r.push (UInt8.ofNat n.toNat)) ByteArray.empty = bs l := by
  have : ∀ (l acc : List UInt8), (l.map fun b => (b.toNat : Int)).foldl (fun r n => r.push (UInt8.ofNat n.toNat)) (bs acc) = bs (acc ++ l) := by
    intro l
    induction l with
    | nil => intro acc; simp
    | cons b l ih =>
      intro acc
      rw [List.map_cons, List.foldl_cons]
      have e : (bs acc).push (UInt8.ofNat ((b.toNat : Int)).toNat) = bs (acc ++ [b]) := by
        simp [bs, ByteArray.push]
      rw [e, ih]; simp
  exact this l []
theorem bytesOf_ok {y : AV} {k : Nat → Rope → Ar} (h : bytesOf y hp k .bad = .ok v hp' nx') : ∃ n r, k n r = .ok v hp' nx' ∧ ∀ base m w (nx : Pid) u, SR P C base m hp nx w → AVR C m y u → BytesR P C w n r u ∧
    (u = .string (bs (r.den C)) ∨ (∃ b l c, u = .slice b l c ∧ (Conv.bytesToString u).run P w = .ok (.string (bs (r.den C))) w)) := by
  obtain ⟨x, rfl, g⟩ := asS_ok h
  have e0 : ∀ (c : Nat) (a : Addr) (w : World), (Conv.bytesToString (.slice (some a) 0 c)).run P w = .ok (.string (bs [])) w := fun c a w => by
    have := run_bytesToString (P := P) w a 0 c [] (by simp [loadCells, loadCellsFrom])
    rw [this]; rfl
  cases x <;> first | (cases g; done) | skip
  case str r =>
    have g : forceN (lenR r) (fun n => k n r) = .ok v hp' nx' := g
    rw [forceN_eq, lenR_eq] at g
    refine ⟨_, _, g, fun base m w nx u hs hu => ?_⟩
    obtain ⟨hr, rfl⟩ := AVR.str hu
    have hl := Rope.den_length hr
    refine ⟨⟨hr, rfl, fun w' => ?_, fun w' hw => ?_⟩, .inl rfl⟩
    · rw [lenOf_string, bs_size, hl]
    · simp only [Builtin.firstCells]
      rw [show (bs (r.den C)).extract 0 r.len = bs (r.den C) from by
        unfold bs; rw [ByteArray.extract_mk]; simp [← hl]]
      simp [bs]
  case slc b o n c =>
    have g : bytesO (getHp b hp) o n (k n) .bad = .ok v hp' nx' := g
    rw [getHp_eq] at g
    obtain ⟨r, g1, hr⟩ := bytesO_ok (P := P) (C := C) g
    refine ⟨_, _, g1, fun base m w nx u hs hu => ?_⟩
    have hu : SlcR m b o n c u := hu
    by_cases hno : get5 b hp = .none
    · rw [hno] at g; cases g
    · obtain ⟨B, δ, N, es, hm, _, _, hob⟩ := hs.at hno (slc_un hu)
      obtain ⟨kk, rfl, _, _⟩ := slc_live hu hm
      obtain ⟨h1, h2, h3⟩ := hr m w B δ N es hob
      refine ⟨⟨h1, h2, fun w' => rfl, fun w' hw => ?_⟩, .inr ⟨_, _, _, rfl, ?_⟩⟩
      · have := h3 w' hw
        simpa [Builtin.firstCells] using this
      · have := run_bytesToString (P := P) w ⟨B, δ + o, none⟩ n kk ((r.den C).map fun b => (b.toNat : Int)) (by rw [h3 w rfl]; simp)
        rw [this, push_all]
  case slz b o =>
    have g : k 0 .nil = .ok v hp' nx' := g
    refine ⟨_, _, g, fun base m w nx u hs hu => ?_⟩
    obtain ⟨a, kk, rfl⟩ := slz_some hu
    exact ⟨⟨trivial, rfl, fun _ => rfl, fun w' _ => by simp [Builtin.firstCells, loadCells, loadCellsFrom, Rope.den]⟩, .inr ⟨_, _, _, rfl, e0 _ _ _⟩⟩
  case nils =>
    have g : k 0 .nil = .ok v hp' nx' := g
    refine ⟨_, _, g, fun base m w nx u hs hu => ?_⟩
    have hu : u = _ := hu; subst hu
    exact ⟨⟨trivial, rfl, fun _ => rfl, fun w' _ => by simp [Builtin.firstCells, Rope.den]⟩, .inr ⟨_, _, _, rfl, by simp [Conv.bytesToString, Rope.den, bs]; rfl⟩⟩

theorem opB2s_ok {x : AV} (h : opB2s x hp nx = .ok v hp' nx') : hp' = hp ∧ nx' = nx ∧ ∀ base m u, AVR C m x u → ∀ (s d e : Nat), P.underlying s = some (.slice e) → P.underlying e = some (.int .u8) → P.underlying d = some .string → Reads P C base m hp nx (convert s d u) v := by
  obtain ⟨n, r, g, hr⟩ := bytesOf_ok (P := P) (C := C) h
  obtain ⟨rfl, rfl, rfl⟩ := okS_ok g
  refine ⟨rfl, rfl, fun base m u hu s d e hs he hd w hw => ?_⟩
  obtain ⟨⟨h1, h2, h3, h4⟩, hh⟩ := hr base m w nx' u hw hu
  rcases hh with rfl | ⟨b, l, c, rfl, hrun⟩
  · exact ⟨_, by simp [convert, run_underlying hs, run_underlying hd], h1, rfl⟩
  · exact ⟨_, by rw [run_convert_bytes_string w s d e b l c hs he hd]; exact hrun, h1, rfl⟩
end
end Go.X
end

/-! Bytes made and appended. -/
noncomputable section
namespace Go.X
section
variable {P : Program} {C : Ctx} {base : Nat} {m : Mp} {hp hp' : Hp} {nx nx' : Pid} {w w' : World} {v : AV}

def byteV (l : List UInt8) : List Value := l.map fun b => Value.int .u8 b.toNat

theorem objGrownB {olds news : List UInt8} {z : Array Value} {k : Nat} {t : Nat} {r : Rope} {need : Nat} (hw : NewW w w' (.cells ((byteV olds).toArray ++ (byteV news).toArray ++ Builtin.zeroCells z k) t))
    (hr : r.ok C) (hd : r.den C = olds ++ news) (hl : r.len = need) (hz : z.size = 1) (ht : szOf P t = some 1) (wr : Bool) :
    ObjR P C m w' w.heap.size 0 ((need + k) * 1) 1 (.bytes t false wr r) := by
  have hn := Rope.den_length hr
  rw [hd, List.length_append, hl] at hn
  refine ⟨hr, _, (0, 0), hw.new, fun _ => rfl, ?_, ?_, fun h => (nomatch h), rfl, ht, ?_⟩
  · simp only [Array.size_append, size_zeroCells, hz]
    simp [byteV]; omega
  · omega
  · rw [List.drop_zero, hl, hd]
    simp only [Array.toList_append]
    rw [← hn, List.map_append]
    rw [show olds.length + news.length = ((byteV olds) ++ (byteV news)).length from by simp [byteV], List.take_left]; rfl

theorem growB_ok {t n : Nat} {r : Rope} (h : growB t n r hp nx = .ok v hp' nx') : n ≤ 100000 ∧ v = .s (.slc nx 0 n (.op 1)) ∧ hp' = put5 nx (.bytes t false true r) hp ∧ nx'.num = nx.num + 1 := by
  obtain ⟨h1, g⟩ := ifB_ok h
  exact ⟨ble_le h1, newO_ok g⟩

theorem growB_does {t u e ty : Nat} (H : AppH P t u e 1) (hs : SR P C base m hp nx w) {r q y : Rope} {need n sLen sCap : Nat} (hg : growB e need r hp nx = .ok v hp' nx') {b : Option Addr} {x : Value}
    (hneed : need = sLen + n) (hcap : sCap < need) (hy : BytesR P C w n y x) (ho : ∀ w' : World, w'.heap = w.heap → (Builtin.firstCells 1 sLen (.slice b sLen sCap)).run P w' = .ok (byteV (q.den C)).toArray w') (hq : q.ok C) (hql : q.len = sLen) (hr : r.ok C ∧ r.den C = q.den C ++ y.den C) :
    AppD P C base m hp nx w hp' nx' v t u ty (.slice b sLen sCap) x := by
  obtain ⟨i, z, hi, hz, his, hzs, hby⟩ := H.info
  obtain ⟨hyo, hyl, hn, hf⟩ := hy
  obtain ⟨h1, rfl, rfl, h2⟩ := growB_ok hg
  subst hneed
  have hrun := run_app_grow (ty := ty) (P := P) (w := w) H.ht H.hu hi hz (hn w) (by rw [his]; exact hf w.drew rfl) (by rw [his]; exact ho w.drew rfl) hcap h1 hby
  have hge := grownCap_ge w (sLen + n) sCap e
  have hl : r.len = sLen + n := by rw [← Rope.den_length hr.1, hr.2, List.length_append, Rope.den_length hq, Rope.den_length hyo]; omega
  have hw : NewW w (w.drew.alloc (.cells ((byteV (q.den C)).toArray ++ (byteV (y.den C)).toArray ++ Builtin.zeroCells z.cells (grownCap w (sLen + n) sCap e - (sLen + n))) e)) (.cells ((byteV (q.den C)).toArray ++ (byteV (y.den C)).toArray ++ Builtin.zeroCells z.cells (grownCap w (sLen + n) sCap e - (sLen + n))) e) := ⟨rfl, rfl, rfl, rfl⟩
  have hob := objGrownB (P := P) (C := C) (m := m) hw (r := r) hr.1 hr.2 hl hzs H.hs true
  refine ⟨_, _, _, hrun, ?_, hs.new h2 hw hob⟩
  show SlcR _ nx 0 (sLen + n) (.op 1) _
  unfold SlcR; rw [upd_same]
  refine ⟨_, rfl, hge, rfl, ?_⟩
  omega

theorem app_zeroB {t u e : Nat} {ty : Nat} (H : AppH P t u e 1) (hs : SR P C base m hp nx w) {b : Option Addr} {sLen sCap : Nat} {x : Value} {y : Rope} (hy : BytesR P C w 0 y x) (hr : sLen ≤ sCap) (hv : AVR C m v (.slice b sLen sCap)) :
    AppD P C base m hp nx w hp nx v t u ty (.slice b sLen sCap) x := by
  refine app_zero H hs (y := []) (by simp) ⟨[], trivial, hy.2.2.1, fun w' hw => ?_⟩ hr hv
  have := hy.2.2.2 w' hw
  have h0 : y.den C = [] := List.eq_nil_of_length_eq_zero (by rw [Rope.den_length hy.1]; exact hy.2.1)
  rw [h0] at this
  exact this

theorem killB_does {t u e ty : Nat} (H : AppH P t u e 1) (hs : SR P C base m hp nx w) {b : Pid} {B δ N : Nat} (hm : m b = .live B δ N 1) {l q y r : Rope} (ho : get5 b hp = .bytes e false true l) {o len need n k : Nat}
    (hneed : need = len + n) {x : Value} (hy : BytesR P C w n y x) (hq : l.ok C → q.ok C ∧ q.den C = ((l.den C).drop o).take len ∧ o + len ≤ l.len ∧ q.len = len) (hr : q.ok C → y.ok C → r.ok C ∧ r.den C = q.den C ++ y.den C)
    (hN : δ + o + k * 1 = N) (hg : growB e need r (put5 b .none hp) nx = .ok v hp' nx') :
    AppD P C base m hp nx w hp' nx' v t u ty (.slice (some ⟨B, δ + o, none⟩) len k) x := by
  have hkill := hs.kill (p := b) (by rw [hm]; simp)
  obtain ⟨hB, hlt, hob⟩ := hs.live _ _ _ _ _ hm
  rw [ho] at hob
  obtain ⟨hlo, c, fz, h1, h2, h3, h4, h5, h6, h6', h7⟩ := hob
  obtain ⟨hqo, hqd, hqb, hql⟩ := hq hlo
  obtain ⟨hro, hrd⟩ := hr hqo hy.1
  have hll := Rope.den_length hlo
  have hold : (c.toList.drop (δ + o)).take len = byteV (q.den C) := by
    rw [← part_of (k := l.len) hqb, h7, hqd]
    simp [byteV, List.map_drop, List.map_take]
  have hrl : r.len = need := by rw [← Rope.den_length hro, hrd, List.length_append, Rope.den_length hqo, Rope.den_length hy.1, hql, hy.2.1, hneed]
  rcases Nat.lt_or_ge k need with hk | hk
  · exact AppD.pre hkill (growB_does H hkill.sr hg hneed hk hy (q := q) (fun w' hw => by
      have := run_loadCells_row (P := P) (w := w') (c := c) (t := e) (fz := fz) (B := B) (by rw [hw]; exact h1) (δ + o) (len * 1) (by omega)
      rw [Nat.mul_one, hold] at this
      simpa [Builtin.firstCells] using this) hqo hql ⟨hro, hrd⟩)
  · have hfz := h2 rfl
    subst hfz
    obtain ⟨i, z, hi, hz, his, hzs, hby⟩ := H.info
    obtain ⟨hyo, hyl, hn, hf⟩ := hy
    obtain ⟨_, rfl, rfl, hnx⟩ := growB_ok hg
    subst hneed
    have hcl : c.toList.length = c.size := Array.length_toList
    have hyn : (byteV (y.den C)).length = n := by simp [byteV, Rope.den_length hyo, hyl]
    have hone : ∀ v ∈ byteV (y.den C), v.oneCell' = true := fun v hv => by
      obtain ⟨b, _, rfl⟩ := List.mem_map.1 hv; rfl
    have hst := run_storeCells_row (P := P) (byteV (y.den C)) w c (δ + (o + len * 1)) 0 h1 (by omega) hone
    simp only [Nat.add_zero] at hst
    have hfree : ∀ q δ' N' es', upd m b .dead q ≠ .live B δ' N' es' := fun q δ' N' es' hq' => by
      by_cases hqb : q = b
      · subst hqb; rw [upd_same] at hq'; cases hq'
      · rw [upd_other hqb] at hq'; exact hqb (hs.inj _ _ _ _ _ _ _ _ _ hq' hm)
    have hun := hkill.sr.unnamed hB hfree (w' := setRow w B (layL c.toList (δ + (o + len * 1)) (byteV (y.den C))).toArray e (0, 0)) (fun k hk => setRow_other _ hk) (setRow_size _) rfl rfl rfl
    have hname := hun.sr.name (nx' := nx') hnx (.bytes e false true r) (B := B) (δ := δ + o) (N := N) (es := 1) hB (by rw [setRow_size]; exact hlt) hfree (by
      refine ⟨hro, _, (0, 0), setRow_self h1 _, fun _ => rfl, ?_, ?_, fun h => (nomatch h), rfl, H.hs, ?_⟩
      · simp [layL]; omega
      · omega
      · rw [hrl, hrd]
        have := lay_end (l := c.toList) (p := δ + o) (L := len) (us := byteV (y.den C)) (by omega)
        rw [Nat.add_assoc, hyn] at this
        simp only [Nat.mul_one]
        rw [this, hold]
        simp [byteV])
    refine ⟨_, _, _, run_app_room H.ht H.hu hi (hn w) (by rw [his]; exact hf w rfl) hk (by rw [addr_add, his]; exact hst), ?_, (hkill.trans hun).trans hname⟩
    show SlcR _ nx 0 (len + n) (.op 1) _
    unfold SlcR; rw [upd_same]
    exact ⟨k, rfl, hk, rfl, hN⟩

theorem opAppB_ok {e : Nat} {x y : AV} (h : opAppB e x y hp nx = .ok v hp' nx') : ∀ base m w u u', SR P C base m hp nx w → AVR C m x u → AVR C m y u' → ∀ t ut ty, AppH P t ut e 1 → AppD P C base m hp nx w hp' nx' v t ut ty u u' := by
  obtain ⟨n, l, g, hel⟩ := bytesOf_ok (P := P) (C := C) h
  intro base m w u u' hs hu hu' t ut ty H
  obtain ⟨hy, _⟩ := hel base m w nx u' hs hu'
  obtain ⟨x, rfl, g1⟩ := asS_ok g
  rcases svSlc_ok g1 with ⟨b, o, len, c, rfl, g2⟩ | ⟨b, o, rfl, g2⟩ | ⟨rfl, g2⟩
  · have hu : SlcR m b o len c u := hu
    rcases ifB_or g2 with ⟨h0, g3⟩ | ⟨_, g3⟩
    · obtain rfl := beq_eq h0
      obtain ⟨rfl, rfl, rfl⟩ := okS_ok g3
      obtain ⟨a, k, rfl⟩ := slc_some hu
      exact app_zeroB H hs hy (slcR_cap hu).2 hu
    · unfold appBs at g3
      rw [forceN_eq, getHp_eq] at g3
      cases c with
      | kn c =>
        rcases ifB_or (k := .bad) g3 with ⟨_, g4⟩ | ⟨hc, g4⟩
        · cases g4
        · have hc : c < len + n := by
            rcases Nat.lt_or_ge c (len + n) with q | q
            · exact q
            · rw [show Nat.ble (Nat.add len n) c = true from Nat.ble_eq_true_of_le q] at hc; cases hc
          obtain ⟨q, g5, hq⟩ := bytesO_ok (P := P) (C := C) g4
          obtain ⟨r, g6, hr⟩ := appRK_ok (C := C) g5
          by_cases hno : get5 b hp = .none
          · rw [hno] at g4; cases g4
          · obtain ⟨B, δ, N, es, hm, _, _, hob⟩ := hs.at hno (slc_un hu)
            obtain ⟨k, rfl, hk1, hk2⟩ := slc_live hu hm
            have hk2 : k = c := hk2
            subst hk2
            obtain ⟨h1, h2, h3⟩ := hq m w B δ N es hob
            exact growB_does H hs g6 rfl hc hy (fun w' hw => by have := h3 w' hw; simpa [Builtin.firstCells, byteV] using this) h1 h2 (hr h1 hy.1)
      | op e' =>
        rcases obCells_ok g3 with ⟨_, _, _, _, _, g4⟩ | ⟨t', ex, wr, lb, ho, g4⟩
        · cases g4
        · obtain ⟨hc, g5⟩ := ifB_ok g4
          obtain ⟨h1, h2⟩ := cand_true hc
          obtain ⟨h2, h3⟩ := cand_true h2
          have h1 := beq_eq h1
          have h2 := notB_true h2
          subst h1; subst h2; subst h3
          obtain ⟨q, g6, hq⟩ := cutK_ok (C := C) g5
          obtain ⟨r, g7, hr⟩ := appRK_ok (C := C) g6
          rw [setHp_eq] at g7
          obtain ⟨B, δ, N, es', hm, _, _, hob⟩ := hs.at (b := b) (by rw [ho]; simp) (slc_un hu)
          obtain ⟨k, rfl, _, hk1, hk2⟩ := slc_live hu hm
          rw [ho] at hob
          obtain ⟨_, c, fz, q1, q2, q3, q4, q5, q6, q7⟩ := hob
          subst q6
          exact killB_does H hs hm ho rfl hy hq hr (by rw [← hk2]) g7
  · have hu : SlzR m b o u := hu
    rcases ifB_or g2 with ⟨h0, g3⟩ | ⟨_, g3⟩
    · obtain rfl := beq_eq h0
      obtain ⟨rfl, rfl, rfl⟩ := okS_ok g3
      obtain ⟨a, k, rfl⟩ := slz_some hu
      exact app_zeroB H hs hy (Nat.zero_le _) hu
    · cases g3
  · have hu : u = _ := hu
    subst hu
    rcases ifB_or g2 with ⟨h0, g3⟩ | ⟨h0, g3⟩
    · obtain rfl := beq_eq h0
      obtain ⟨rfl, rfl, rfl⟩ := okS_ok g3
      exact app_zeroB H hs hy (Nat.zero_le _) rfl
    · have hn : n ≠ 0 := fun hn => by subst hn; cases h0
      exact growB_does H hs g3 (sLen := 0) (q := .nil) (by simp) (by omega) hy (fun w' _ => by simp [Builtin.firstCells, byteV, Rope.den]) trivial rfl ⟨hy.1, by simp [Rope.den]⟩

theorem opMkbytes_ok {t : Nat} {x y : AV} {v : AV} (h : opMkbytes t x y hp nx = .ok v hp' nx') : ∃ o, hp' = put5 nx o hp ∧ nx'.num = nx.num + 1 ∧
    ∀ (m : Mp) a b (ty : Nat) i, AVR C m x a → AVR C m y b → P.underlying ty = some (.slice t) → P.info? t = some i → i.bytes ≤ 2147483648 → i.size = 1 → i.zero = some (.int .u8 0) → News P C m (Instr.makeSlice ty a b) nx o v := by
  obtain ⟨q, n, rfl, g⟩ := asNat_ok h
  obtain ⟨q', k, rfl, g1⟩ := asNat_ok g
  obtain ⟨h1, g2⟩ := ifB_ok g1
  obtain ⟨h1, h2⟩ := cand_true h1
  have h1 := ble_le h1
  have h2 : k ≤ 100000 := ble_le h2
  obtain ⟨r, g3, hr⟩ := litK_ok (C := C) g2
  obtain ⟨rfl, h3, h4⟩ := newO_ok g3
  refine ⟨_, h3, h4, fun m a b ty i ha hb ht hi hby hn hz w => ?_⟩
  have ha := AVR.int ha; subst ha
  have hb := AVR.int hb; subst hb
  obtain ⟨hro, hrd⟩ := hr trivial
  have hb2 : (i.bytes : Int) * k ≤ 281474976710656 := by
    have : i.bytes * k ≤ 2147483648 * 100000 := Nat.mul_le_mul hby h2
    omega
  have hrun := run_make (P := P) w ty t i _ ht hi hz q q' (n : Int) (k : Int) (by omega) (by omega) hb2 (by omega)
  have hlen : r.len = k := by rw [← Rope.den_length hro, hrd]; simp [litB_length, Rope.den]
  have hcells : (madeCells (Value.int .u8 0).cells (((k : Nat) : Int).toNat * i.size)).toList = byteV (r.den C) := by
    rw [Int.toNat_natCast, hn, hrd]
    unfold madeCells
    rw [show k * 1 = k * (Value.int IntKind.u8 0).cells.size from rfl, times_eq]
    simp only [Rope.den, List.append_nil]
    have hz : ∀ k, litB k 0 = List.replicate k 0 := fun k => by
      induction k with
      | zero => rfl
      | succ k ih => simp only [litB, List.replicate_succ]; rw [show 0 / 256 = 0 from rfl, ih]; rfl
    rw [hz]
    simp only [byteV, List.map_replicate]
    show (List.replicate k [Value.int IntKind.u8 0]).flatten = _
    simp
  refine ⟨_, _, _, k, 1, hrun, .alloc _ _, ⟨hro, _, (0, 0), (NewW.alloc w _).new, fun _ => rfl, ?_, ?_, fun _ => by omega, rfl, ?_, ?_⟩, fun m' hm => ?_⟩
  · have := congrArg List.length hcells
    simp only [Array.length_toList] at this
    rw [this]; simp [byteV, Rope.den_length hro, hlen]
  · omega
  · unfold szOf; rw [hi]; simp [hn]
  · rw [List.drop_zero, hcells, List.take_of_length_le (by simp [byteV, Rope.den_length hro])]; rfl
  · show SlcR m' nx 0 n (.kn k) _
    unfold SlcR; rw [hm]
    exact ⟨k, by simp, h1, rfl⟩
end
end Go.X
end

/-! Bytes made of a string. -/
noncomputable section
namespace Go.X
section
variable {P : Program} {C : Ctx} {base : Nat} {m : Mp} {hp hp' : Hp} {nx nx' : Pid} {w w' : World} {v : AV}

theorem freeze_new {w w1 : World} {c : Array Value} {t : Nat} (h : w1.heap = w.heap.push (.cells c t (0, 0))) : (w1.freeze ⟨w.heap.size, c.size, none⟩ 1).heap = w.heap.push (.cells c t (c.size, c.size + 1)) := by
  unfold World.freeze
  rw [if_neg (by omega)]
  simp only [h]
  apply Array.ext_getElem?
  intro k
  rw [Array.getElem?_modify]
  by_cases hk : w.heap.size = k
  · subst hk; simp
  · rw [if_neg hk]
    by_cases hk2 : k < w.heap.size
    · rw [Array.getElem?_push_lt hk2, Array.getElem?_push_lt hk2]
    · rw [Array.getElem?_eq_none (by simp; omega), Array.getElem?_eq_none (by simp; omega)]

theorem opS2b_ok {t : Nat} {x : AV} {v : AV} (h : opS2b t x hp nx = .ok v hp' nx') : ∃ o, hp' = put5 nx o hp ∧ nx'.num = nx.num + 1 ∧
    ∀ (m : Mp) a (s d : Nat), AVR C m x a → P.underlying s = some .string → P.underlying d = some (.slice t) → P.underlying t = some (.int .u8) → szOf P t = some 1 → News P C m (convert s d a) nx o v := by
  obtain ⟨r, rfl, g⟩ := asStr_ok h
  rw [forceN_eq, lenR_eq] at g
  obtain ⟨rfl, h1, h2⟩ := newO_ok g
  refine ⟨_, h1, h2, fun m a s d ha hs hd ht hz w => ?_⟩
  obtain ⟨hr, rfl⟩ := AVR.str ha
  have hl := Rope.den_length hr
  have hge := grownCap_ge w r.len 0 t
  let c : Array Value := (byteV (r.den C)).toArray ++ Array.replicate (grownCap w r.len 0 t - r.len) (.int .u8 0)
  have hcs : c.size = grownCap w r.len 0 t := by simp [c, byteV, hl]; omega
  let w1 : World := w.drew.alloc (.cells c t)
  have hnew : w1.heap[w.heap.size]? = some (.cells c t (0, 0)) := (NewW.alloc w.drew (.cells c t)).new
  have hsh : w1.shape? w.heap.size = some (t, c.size) := by simp [World.shape?, hnew]
  refine ⟨.slice (some ⟨w.heap.size, 0, none⟩) r.len (grownCap w r.len 0 t), w1.freeze ⟨w.heap.size, c.size, none⟩ 1, .cells c t (c.size, c.size + 1), grownCap w r.len 0 t, 1, ?_, ⟨?_, rfl, rfl, rfl⟩, ?_, fun m' hm => ?_⟩
  · have hq : (Question.appendCap (bs (r.den C)).size 0 t).forced = false := rfl
    have hrun : (Conv.stringToBytes t (bs (r.den C))).run P w = .ok (.slice (some ⟨w.heap.size, 0, none⟩) r.len (grownCap w r.len 0 t)) (w1.freeze ⟨w.heap.size, c.size, none⟩ 1) := by
      have hbs : (bs (r.den C)).size = r.len := by rw [bs_size, hl]
      have hel : Array.map (fun b : UInt8 => Value.int IntKind.u8 (b.toNat : Int)) (bs (r.den C)).data = (byteV (r.den C)).toArray := by simp [bs, byteV]
      have hms : (markStringish ⟨w.heap.size, 0, none⟩).run P w1 = .ok () (w1.freeze ⟨w.heap.size, c.size, none⟩ 1) := by
        simp [markStringish, shape, freeze, Sem.run, hsh]
      unfold Conv.stringToBytes
      simp [Question.forced, hel, hbs, newRow]
      show ((Sem.run P (markStringish ⟨w.heap.size, 0, none⟩) w1).andThen _) = _
      rw [hms]; rfl
    simpa [convert, run_underlying hs, run_underlying hd, run_underlying ht] using hrun
  · exact freeze_new (w := w) (w1 := w1) rfl
  · refine ⟨hr, c, (c.size, c.size + 1), ?_, fun h => (nomatch h), hcs, by omega, fun h => (nomatch h), rfl, hz, ?_⟩
    · rw [freeze_new (w := w) (w1 := w1) rfl]; simp
    · rw [List.drop_zero]
      simp only [c, Array.toList_append]
      rw [List.take_append_of_le_length (by simp [byteV, hl]), List.take_of_length_le (by simp [byteV, hl])]
      rfl
  · show SlcR m' nx 0 r.len (.op 1) _
    unfold SlcR; rw [hm]
    exact ⟨_, rfl, hge, rfl, by omega⟩
end
end Go.X
end

/-! Are two addresses the same? -/
noncomputable section
namespace Go.X
section
variable {P : Program} {C : Ctx} {base : Nat} {m : Mp} {hp hp' : Hp} {nx nx' : Pid} {w : World} {v : AV}

theorem d8eq_ok {a b : D8} (h : d8eq a b = true) : a = b := by cases a <;> cases b <;> first | rfl | cases h
theorem pidEq_ok {a b : Pid} (h : pidEq a b = true) : a = b := by
  obtain ⟨h5, h⟩ := cand_true h
  obtain ⟨h4, h⟩ := cand_true h
  obtain ⟨h3, h⟩ := cand_true h
  obtain ⟨h2, h⟩ := cand_true h
  obtain ⟨h1, h0⟩ := cand_true h
  cases a; cases b
  rw [Pid.mk.injEq]
  exact ⟨d8eq_ok h0, d8eq_ok h1, d8eq_ok h2, d8eq_ok h3, d8eq_ok h4, d8eq_ok h5⟩
theorem d8eq_refl (a : D8) : d8eq a a = true := by cases a <;> rfl
theorem pidEq_refl (a : Pid) : pidEq a a = true := by
  unfold pidEq
  simp only [d8eq_refl]
  rfl

/-- a row that no string shares. -/
def FreeRow (w : World) (B : Nat) : Prop := ∃ c t, w.heap[B]? = some (.cells c t (0, 0))
theorem wrO_row {ob : Obj} (h : wrO ob = true) {B δ N es : Nat} (g : ObjR P C m w B δ N es ob) : FreeRow w B := by
  cases ob with
  | cells t ex wr l => obtain ⟨c, fz, h1, h2, _⟩ := g; have := h2 h; subst this; exact ⟨c, t, h1⟩
  | bytes t ex wr r => obtain ⟨_, c, fz, h1, h2, _⟩ := g; have := h2 h; subst this; exact ⟨c, t, h1⟩
  | _ => cases h
theorem wrO_none {ob : Obj} (h : wrO ob = true) : ob ≠ .none := fun e => by subst e; cases h

theorem run_sameAddr {B B' o o' : Nat} (h : FreeRow w B) (h' : FreeRow w B') (hne : B ≠ B') : (sameAddr ⟨B, o, none⟩ ⟨B', o', none⟩).run P w = .ok false w := by
  obtain ⟨c, t, h⟩ := h
  obtain ⟨c', t', h'⟩ := h'
  have f1 : ∀ o, w.frozen? ⟨B, o, none⟩ = false := frozen_of h
  have f2 : ∀ o, w.frozen? ⟨B', o, none⟩ = false := frozen_of h'
  have s1 : w.shape? B = some (t, c.size) := by simp [World.shape?, h]
  have s2 : w.shape? B' = some (t', c'.size) := by simp [World.shape?, h']
  have q1 : ∀ o, (frozen ⟨B, o, none⟩).run P w = .ok false w := fun o => by simp [frozen, Sem.run, f1]
  have q2 : ∀ o, (frozen ⟨B', o, none⟩).run P w = .ok false w := fun o => by simp [frozen, Sem.run, f2]
  have r1 : (shape B).run P w = .ok (some (t, c.size)) w := by simp [shape, Sem.run, s1]
  have r2 : (shape B').run P w = .ok (some (t', c'.size)) w := by simp [shape, Sem.run, s2]
  have v1 : (noView ⟨B, o, none⟩).run P w = .ok () w := by simp [noView, viewAt, r1]
  have v2 : (noView ⟨B', o', none⟩).run P w = .ok () w := by simp [noView, viewAt, r2]
  have g1 : (stringish ⟨B, o, none⟩).run P w = .ok false w := by simp [stringish, q1, s1]
  have g2 : (stringish ⟨B', o', none⟩).run P w = .ok false w := by simp [stringish, q2, s2]
  have m1 : (mayBeOne ⟨B, o, none⟩ ⟨B', o', none⟩).run P w = .ok false w := by simp [mayBeOne, g1, g2]
  simp [sameAddr, hne, q1, v1, v2, m1]

theorem bothPtr_ok {a b : Tri} {k : Bool → Ar} {z : Ar} (h : bothPtr a b k z = .ok v hp' nx') :
    (∃ r, k r = .ok v hp' nx' ∧ ((a = .yes ∧ b = .yes ∧ r = true) ∨ (a = .yes ∧ b = .no ∧ r = false) ∨ (a = .no ∧ b = .yes ∧ r = false))) ∨ z = .ok v hp' nx' := by
  cases a <;> cases b <;> first | exact .inl ⟨true, h, .inl ⟨rfl, rfl, rfl⟩⟩ | exact .inl ⟨false, h, .inr (.inl ⟨rfl, rfl, rfl⟩)⟩ | exact .inl ⟨false, h, .inr (.inr ⟨rfl, rfl, rfl⟩)⟩ | exact .inr h | cases h

theorem run_ptrIn {t e k : Nat} (ht : P.underlying t = some (.pointer e)) (hs : szOf P e = some (k + 1)) {a b : Addr} {r : Bool} (h : (sameAddr a b).run P w = .ok r w) (n : Nat) : (Op.equalIn (n + 1) t (.pointer (some a)) (.pointer (some b))).run P w = .ok r w := by
  simp [Op.equalIn, run_underlying ht, run_sizeOf hs, h]

theorem opEqP_ok {neg : Bool} {x y : AV} (h : opEqP neg x y hp nx = .ok v hp' nx') : hp' = hp ∧ nx' = nx ∧ ∀ base m u u', AVR C m x u → AVR C m y u' → ∀ (t e k : Nat) (a b : Operand),
    P.underlying t = some (.pointer e) → szOf P e = some (k + 1) → Reads P C base m hp nx (do eqGuard (eqOp neg) t a b u u'; binOp (eqOp neg) t u u') v := by
  obtain ⟨x, rfl, g⟩ := asS_ok h
  obtain ⟨y, rfl, g1⟩ := asS_ok g
  rcases bothPtr_ok g1 with ⟨r, g2, hr⟩ | g2
  · obtain ⟨rfl, rfl, rfl⟩ := okS_ok (boolK_ok g2)
    exact ⟨rfl, rfl, fun base m u u' hu hu' t e k a b ht hs w _ => ⟨_, run_nilEq (k := .ptr) ⟨e, rfl⟩ ht hr (nilOf_ok (k := .ptr) hu) (nilOf_ok (k := .ptr) hu') w neg a b, by show _ = _; rw [sameB_eq, notB_eq]⟩⟩
  · obtain ⟨b, o, rfl, g3⟩ := svPtr_ok g2
    obtain ⟨b', o', rfl, g4⟩ := svPtr_ok g3
    unfold samePtr at g4
    rw [getHp_eq, getHp_eq] at g4
    obtain ⟨h1, g5⟩ := ifB_ok g4
    cases hq : pidEq b b' with
    | true =>
      rw [hq] at g5
      obtain ⟨rfl, rfl, rfl⟩ := okS_ok (v := v) (boolK_ok (v := v) g5)
      refine ⟨rfl, rfl, fun base m u u' hu hu' t e k a a' ht hs w hw => ?_⟩
      have := pidEq_ok hq; subst this
      obtain ⟨B, δ, N, es, hm, _, _, _⟩ := hw.at (wrO_none h1) (ptr_un hu)
      have e1 := ptr_live hu hm; subst e1
      have e2 := ptr_live hu' hm; subst e2
      have hr : (sameAddr ⟨B, δ + o, none⟩ ⟨B, δ + o', none⟩).run P w = .ok (Nat.beq o o') w := by
        have : ((⟨B, δ + o, none⟩ : Addr) == ⟨B, δ + o', none⟩) = Nat.beq o o' := by
          rw [Bool.eq_iff_iff, beq_iff_eq]
          constructor
          · intro q; injection q with _ q; have : o = o' := by omega
            subst this; exact Nat.beq_refl _
          · intro q; rw [Nat.eq_of_beq_eq_true q]
        simp [sameAddr, this]
      exact ⟨_, run_eq rfl rfl (guard_none (by simp) (by simp)) (run_ptrIn ht hs hr 9999), by show _ = _; rw [sameB_eq, notB_eq]⟩
    | false =>
      rw [hq] at g5
      obtain ⟨h2, g6⟩ := ifB_ok (b := wrO (get5 b' hp)) g5
      obtain ⟨rfl, rfl, rfl⟩ := okS_ok (v := v) (boolK_ok (v := v) g6)
      refine ⟨rfl, rfl, fun base m u u' hu hu' t e k a a' ht hs w hw => ?_⟩
      obtain ⟨B, δ, N, es, hm, _, _, ho⟩ := hw.at (wrO_none h1) (ptr_un hu)
      obtain ⟨B', δ', N', es', hm', _, _, ho'⟩ := hw.at (wrO_none h2) (ptr_un hu')
      have e1 := ptr_live hu hm; subst e1
      have e2 := ptr_live hu' hm'; subst e2
      have hne : B ≠ B' := fun q => by
        subst q
        have := hw.inj _ _ _ _ _ _ _ _ _ hm hm'
        subst this; rw [pidEq_refl] at hq; cases hq
      have hr := run_sameAddr (P := P) (w := w) (o := δ + o) (o' := δ' + o') (wrO_row h1 ho) (wrO_row h2 ho') hne
      exact ⟨_, run_eq rfl rfl (guard_none (by simp) (by simp)) (run_ptrIn ht hs hr 9999), by show _ = _; rw [sameB_eq, notB_eq]⟩
end
end Go.X
end

/-! Channels, and bytes that become a string. -/
noncomputable section
namespace Go.X
section
variable {P : Program} {C : Ctx} {base : Nat} {m : Mp} {hp hp' : Hp} {nx nx' : Pid} {w w' : World} {v : AV}

theorem opMkchan_ok {x : AV} (h : opMkchan x hp nx = .ok v hp' nx') : ∃ o, hp' = put5 nx o hp ∧ nx'.num = nx.num + 1 ∧
    ∀ (m : Mp) a (t _d e : Nat) (i : TypeInfo) (dir), AVR C m x a → P.underlying t = some (.chan dir e) → P.info? e = some i → i.bytes ≤ 65536 → News P C m (Instr.makeChan t a) nx o v := by
  obtain ⟨q, n, rfl, g⟩ := asNat_ok h
  obtain ⟨hn, g⟩ := ifB_ok g
  have hn : n ≤ 100000 := ble_le hn
  obtain ⟨rfl, h1, h2⟩ := newO_ok g
  refine ⟨_, h1, h2, fun m a t d e i dir ha ht hi hb w => ?_⟩
  have ha := AVR.int ha; subst ha
  refine ⟨.chan (some w.heap.size), w.alloc (.chan n #[] false 0 0 false), .chan n #[] false 0 0 false, 0, 0, ?_, .alloc _ _, ⟨rfl, #[], 0, 0, (NewW.alloc w _).new, trivial⟩, fun m' hm => ?_⟩
  · have hle : i.bytes * n ≤ 65536 * 100000 := Nat.mul_le_mul hb hn
    have hc : ¬ ((n : Int) < 0 ∨ (n : Int) > IntKind.i64.max ∨ (i.bytes : Int) * (n : Int) > 2 ^ 48 - 112) := by
      have hmax : IntKind.i64.max = 9223372036854775807 := rfl
      rw [hmax]
      have : (i.bytes : Int) * (n : Int) = ((i.bytes * n : Nat) : Int) := by simp
      rw [this]
      omega
    simp only [Instr.makeChan, Sem.run_bind]
    have h1 : (Go.asInt (.int q n)).run P w = .ok (n : Int) w := by simp [Go.asInt, asIntOf]
    simp only [h1, Result.andThen_ok, run_underlying ht]
    have h2 : (typeInfo e).run P w = .ok i w := by simp [typeInfo, hi]
    simp only [Sem.run_bind, h2, Result.andThen_ok, if_neg hc]
    rfl
  · show RefR m' nx _ _; unfold RefR; rw [hm]

theorem run_getChan {B cap s r : Nat} {b : Array Value} {c tm : Bool} (h : w.heap[B]? = some (.chan cap b c s r tm)) : (getObj B).run P w = .ok (.chan cap b c s r tm) w := by simp [getObj, Sem.run, h]
theorem TupR.len {l : List V1} : ∀ {vs : List Value}, TupR C m l vs → l.length = vs.length := by
  induction l with
  | nil => intro vs h; cases vs with | nil => rfl | cons _ _ => exact h.elim
  | cons x l ih => intro vs h; cases vs with | nil => exact h.elim | cons v vs => simp [ih h.2]

theorem opLenChan_ok {x : AV} (h : opLenChan x hp nx = .ok v hp' nx') : hp' = hp ∧ nx' = nx ∧ ∀ base m u, AVR C m x u → ∀ (t ty : Nat) (dir) (e : Nat), P.underlying t = some (.chan dir e) → Reads P C base m hp nx (Builtin.len_ #[t] ty #[u]) v := by
  obtain ⟨x, rfl, g⟩ := asS_ok h
  obtain ⟨b, rfl, g2⟩ := svChan_ok g
  unfold lenChanO at g2
  rw [getHp_eq] at g2
  obtain ⟨cap, l, ho, g3⟩ := obChan_ok g2
  rw [forceN_eq, lenK_eq] at g3
  obtain ⟨rfl, rfl, rfl⟩ := okS_ok g3
  refine ⟨rfl, rfl, fun base m u hu t ty dir e ht w hs => ?_⟩
  obtain ⟨B, δ, N, es', hm, _, _, hob⟩ := hs.at (b := b) (by rw [ho]; simp) (ref_un hu)
  have := ref_live hu hm; subst this
  rw [ho] at hob
  obtain ⟨_, bb, s, r, h1, h2⟩ := hob
  have := h2.len
  simp only [Array.length_toList] at this
  exact ⟨.int .i64 bb.size, by simp [Builtin.len_, run_underlying ht, run_getChan h1, goInt], by show _ = _; rw [this]; rfl⟩

theorem opUsd_ok {x : AV} (h : opUsd x hp nx = .ok v hp' nx') : hp' = hp ∧ nx' = nx ∧ ∀ m u, AVR C m x u → ∀ (ts : Array TypeId) (ty : Nat), Gives P C m (Builtin.unsafeSliceData_ ts ty #[u]) v := by
  obtain ⟨x, rfl, g⟩ := asS_ok h
  rcases svSlc_ok g with ⟨b, o, n, c, rfl, g⟩ | ⟨b, o, rfl, g⟩ | ⟨rfl, g⟩
  · obtain ⟨hn, g⟩ := ifB_ok g
    have hn : 1 ≤ n := ble_le hn
    obtain ⟨rfl, rfl, rfl⟩ := okS_ok g
    refine ⟨rfl, rfl, fun m u hu ts ty w => ?_⟩
    obtain ⟨a, k, rfl⟩ := slc_some hu
    have hk := (slcR_cap hu).2
    exact ⟨.pointer (some a), Lib.run_unsafeSliceData_row w ts ty a n k (by omega), SlcR.addr hu⟩
  · cases g
  · obtain ⟨rfl, rfl, rfl⟩ := okS_ok g
    refine ⟨rfl, rfl, fun m u hu ts ty w => ?_⟩
    have hu : u = _ := hu; subst hu
    exact ⟨.pointer none, Lib.run_unsafeSliceData_nil w ts ty 0 0, rfl⟩

/-- so many bytes lie at a place of a row of bytes. -/
theorem liesAt_off {e : TypeId} (hc : P.cellsOf e = 1) (count off n : Nat) (hn : off + n ≤ count) : liesAt P P.depth e count off e n = true := by
  have hd : P.depth = (2 * (P.types.size + Made.depth) + 1) + 1 := rfl
  rw [hd]
  simp only [liesAt, Bool.or_eq_true]
  left
  rw [hd]
  have hm : off % 1 = 0 := Nat.mod_one off
  simp [rowAt, hc, hn, hm, sameLayout]
theorem run_ustr {pt it ty e : TypeId} (hp : P.underlying pt = some (.pointer e)) (hc : P.cellsOf e = 1) {B off cells : Nat} (hsh : w.shape? B = some (e, cells)) {l : List UInt8} (h0 : l.length ≠ 0) (hn : off + l.length ≤ cells) (h63 : l.length ≤ 9223372036854775807) {q : IntKind}
    (hcell : ∀ j x, l[j]? = some x → w.cell? ((⟨B, off, none⟩ : Addr).add j) = some (.int .u8 x.toNat)) :
    (Builtin.unsafeString_ #[pt, it] ty #[.pointer (some ⟨B, off, none⟩), .int q l.length]).run P w = .ok (.string ⟨l.toArray⟩) (w.freeze ⟨B, off, none⟩ l.length) := by
  have hlb := Lib.run_loadBytes (P := P) w l ⟨B, off, none⟩ .empty hcell
  have hlies := liesAt_off (P := P) hc (cells / P.cellsOf e) off l.length (by rw [hc]; simpa using hn)
  have h63' : ¬ (9223372036854775807 : Int) < (l.length : Int) := by omega
  show (Go.asInt (.int q l.length) >>= _ : Sem Value).run P w = _
  have hmax : IntKind.i64.max = 9223372036854775807 := rfl
  have hneg : ¬ (l.length : Int) < 0 := by omega
  simp [Go.asInt, asIntOf, hmax, h63', hneg, h0, variablesAt, hsh, elemOf, Go.run_underlying hp, hlies, hlb]

theorem run_ustr0 (pt it ty : TypeId) (p : Option Addr) (q : IntKind) : (Builtin.unsafeString_ #[pt, it] ty #[.pointer p, .int q 0]).run P w = .ok (.string .empty) w := by
  have hmax : IntKind.i64.max = 9223372036854775807 := rfl
  cases p with
  | none =>
    show (Go.asInt (.int q 0) >>= _ : Sem Value).run P w = _
    simp [Go.asInt, asIntOf, hmax]
  | some a =>
    show (Go.asInt (.int q 0) >>= _ : Sem Value).run P w = _
    simp [Go.asInt, asIntOf, hmax]

theorem opUstr_ok {e : Nat} {x n : AV} (h : opUstr e x n hp nx = .ok v hp' nx') : ∀ base m w a i, SR P C base m hp nx w → AVR C m x a → AVR C m n i → ∀ (pt it ty : Nat), P.underlying pt = some (.pointer e) → szOf P e = some 1 →
    ∃ u w' m', (Builtin.unsafeString_ #[pt, it] ty #[a, i]).run P w = .ok u w' ∧ AVR C m' v u ∧ Good P C base m hp nx w m' hp' nx' w' := by
  obtain ⟨q, k, rfl, g⟩ := asNat_ok h
  obtain ⟨hmaxk, g⟩ := ifB_ok g
  have hmaxk : k ≤ 100000 := ble_le hmaxk
  intro base m w a i hs ha hi pt it ty hpt hsz
  have hi := AVR.int hi; subst hi
  cases hk : Nat.beq k 0 with
  | true =>
    have hk := beq_eq hk; subst hk
    have g1 : asS x (fun x => Tri.rec (motive := fun _ => Ar) (okS (.str .nil) hp nx) (okS (.str .nil) hp nx) .bad (nilP x)) .bad = .ok v hp' nx' := g
    obtain ⟨y, rfl, g2⟩ := asS_ok g1
    have hst : okS (.str .nil) hp nx = .ok v hp' nx' ∧ ∃ p, a = .pointer p := by
      have ha : SVR C m y a := ha
      cases y <;> first | (cases g2; done) | skip
      · refine ⟨g2, ?_⟩
        have ha : PtrR m _ _ a := ha
        unfold PtrR at ha
        split at ha
        · exact ⟨_, ha⟩
        · obtain ⟨_, ha⟩ := ha; exact ⟨_, ha⟩
        · exact ha.elim
      · exact ⟨g2, _, ha⟩
    obtain ⟨hst, p, rfl⟩ := hst
    obtain ⟨rfl, rfl, rfl⟩ := okS_ok hst
    exact ⟨.string .empty, w, m, run_ustr0 pt it ty p q, ⟨trivial, rfl⟩, .refl hs⟩
  | false =>
    have hk0 : k ≠ 0 := fun e => by subst e; cases hk
    rw [hk] at g
    have g1 : asPtr x (fun b o => ustrO e b (getHp b hp) o k hp nx) .bad = .ok v hp' nx' := g
    obtain ⟨b, o, rfl, g2⟩ := asPtr_ok g1
    unfold ustrO at g2
    rw [getHp_eq] at g2
    rcases obCells_ok g2 with ⟨t, ex, wr, l, ho, g3⟩ | ⟨t, ex, wr, r, ho, g3⟩
    · cases g3
    · obtain ⟨ht, g4⟩ := ifB_ok g3
      have ht := beq_eq ht; subst ht
      obtain ⟨y, g5, hy⟩ := cutK_ok (C := C) g4
      rw [setHp_eq] at g5
      obtain ⟨rfl, rfl, rfl⟩ := okS_ok g5
      have ha : PtrR m b o a := ha
      obtain ⟨B, δ, N, es', hm, hbB, hBlt, hob⟩ := hs.at (b := b) (by rw [ho]; simp) (ptr_un ha)
      have := ptr_live ha hm; subst this
      rw [ho] at hob
      obtain ⟨hr, c, fz, h1, h2, h3, h4, h5, h6, h7, h8⟩ := hob
      obtain ⟨hyok, hyd, hle, hyl⟩ := hy hr
      have hlen : (y.den C).length = k := by rw [Rope.den_length hyok, hyl]
      have hcell : ∀ j z, (y.den C)[j]? = some z → w.cell? ((⟨B, δ + o, none⟩ : Addr).add j) = some (.int .u8 z.toNat) := fun j z hj => by
        have hadd : (Addr.add ⟨B, δ + o, none⟩ j) = ⟨B, δ + (o + j), none⟩ := by simp [Addr.add, Nat.add_assoc]
        rw [hadd, cell_of h1]
        rw [hyd, List.getElem?_take] at hj
        split at hj
        · rename_i hjk
          rw [List.getElem?_drop] at hj
          have h9 : ((c.toList.drop δ).take r.len)[o + j]? = some (.int .u8 z.toNat) := by rw [h8, List.getElem?_map, hj]; rfl
          rw [List.getElem?_take] at h9
          split at h9
          · rw [List.getElem?_drop] at h9; simpa using h9
          · cases h9
        · cases hj
      have hsh : w.shape? B = some (t, c.size) := by simp [World.shape?, h1]
      have hrun := run_ustr (P := P) (w := w) (it := it) (ty := ty) (q := q) hpt (cellsOf_sz hsz) (B := B) (off := δ + o) (cells := c.size) hsh (l := y.den C) (by rw [hlen]; exact hk0) (by rw [hlen, h3]; omega) (by omega) hcell
      rw [hlen] at hrun
      refine ⟨_, w.freeze ⟨B, δ + o, none⟩ k, m, hrun, ⟨hyok, rfl⟩, ?_⟩
      have hfz : ∀ j, j ≠ B → (w.freeze ⟨B, δ + o, none⟩ k).heap[j]? = w.heap[j]? := fun j hj => by
        unfold World.freeze
        rw [if_neg hk0]
        simp only [Array.getElem?_modify]
        rw [if_neg (Ne.symm hj)]
      have hB : ∃ fz', (w.freeze ⟨B, δ + o, none⟩ k).heap[B]? = some (.cells c t fz') := by
        unfold World.freeze
        rw [if_neg hk0]
        simp only [Array.getElem?_modify, if_true, h1]
        exact ⟨_, rfl⟩
      obtain ⟨fz', hB⟩ := hB
      exact hs.update hm _ hfz (by unfold World.freeze; rw [if_neg hk0]; simp) (by unfold World.freeze; rw [if_neg hk0]) (by unfold World.freeze; rw [if_neg hk0]) (by unfold World.freeze; rw [if_neg hk0])
        ⟨hr, c, fz', hB, fun q => (nomatch q), h3, h4, h5, h6, h7, h8⟩
end
end Go.X
end

