/-
  What the executor says of a call, the model does: whatever order is drawn. Part of the proof of the claim: for every input the law returns true.
-/
import Derived.Test.YtljhcadbocakpaaGreatDoorXb
import Derived.Laws.Tables
import Derived.Defers
/-! What the helpers give hangs on nothing but what is handed on; reads of a larger memory. -/
noncomputable section
namespace Go.X
section
variable {β : Type}
theorem litK_nat (n v : Nat) (r : Rope) (k : Rope → β) : litK n v r k = k (litK n v r id) := by
  unfold litK
  cases Nat.beq n 0 with
  | true => rfl
  | false =>
    show litK1 n v r k = k (litK1 n v r id)
    cases r with
    | lit n' v' r' =>
      show forceN _ (fun n2 => forceN _ fun v2 => k (.lit n2 v2 r')) = k (forceN _ (fun n2 => forceN _ fun v2 => id (.lit n2 v2 r')))
      simp only [forceN_eq, id]
    | _ => rfl
theorem symK_nat (i o l : Nat) (r : Rope) (k : Rope → β) : symK i o l r k = k (symK i o l r id) := by
  unfold symK
  cases Nat.beq l 0 with
  | true => rfl
  | false =>
    show symK1 i o l r k = k (symK1 i o l r id)
    cases r with
    | sym i' o' l' r' =>
      show symK2 i o l i' o' l' r' k = k (symK2 i o l i' o' l' r' id)
      unfold symK2
      cases cand (Nat.beq i i') (Nat.beq o' (Nat.add o l)) with
      | false => rfl
      | true => show forceN _ _ = k (forceN _ _); simp only [forceN_eq, id]
    | _ => rfl
theorem byteK_nat (r : Rope) : ∀ {β : Type} (m : Nat) (k : Nat → β) (z : β), byteK r m k z = (byteK r m some none).elim z k := by
  induction r with
  | nil => intro β m k z; rfl
  | lit n v r ih =>
    intro β m k z
    show (Bool.rec (byteK r (Nat.sub m n) k z) (forceN (Nat.mod (Nat.div v (Nat.pow (nat_lit 256) m)) (nat_lit 256)) k) (Nat.ble (Nat.succ m) n) : β) =
      Option.elim (Bool.rec (byteK r (Nat.sub m n) some none) (forceN (Nat.mod (Nat.div v (Nat.pow (nat_lit 256) m)) (nat_lit 256)) some) (Nat.ble (Nat.succ m) n) : Option Nat) z k
    cases Nat.ble (Nat.succ m) n with
    | false => exact ih _ _ _
    | true => simp only [forceN_eq]; rfl
  | sym i o l r ih =>
    intro β m k z
    show (Bool.rec (byteK r (Nat.sub m l) k z) z (Nat.ble (Nat.succ m) l) : β) = Option.elim (Bool.rec (byteK r (Nat.sub m l) some none) none (Nat.ble (Nat.succ m) l) : Option Nat) z k
    cases Nat.ble (Nat.succ m) l with
    | false => exact ih _ _ _
    | true => rfl
  | crc c r _ ih =>
    intro β m k z
    show (Bool.rec (byteK r (Nat.sub m 4) k z) z (Nat.ble (Nat.succ m) 4) : β) = Option.elim (Bool.rec (byteK r (Nat.sub m 4) some none) none (Nat.ble (Nat.succ m) 4) : Option Nat) z k
    cases Nat.ble (Nat.succ m) 4 with
    | false => exact ih _ _ _
    | true => rfl
theorem elim_elim {α γ : Type} (o : Option α) (f : α → Option γ) (z : β) (k : γ → β) : (o.elim none f).elim z k = o.elim z (fun x => (f x).elim z k) := by cases o <;> rfl
theorem takeRK_nat (r : Rope) : ∀ {β : Type} (m : Nat) (k : Rope → β) (z : β), takeRK r m k z = (takeRK r m some none).elim z k := by
  induction r with
  | nil => intro β m k z; rfl
  | lit n v r ih =>
    intro β m k z
    show takeLit n v (takeRK r) m k z = Option.elim (takeLit n v (takeRK r) m some none) z k
    unfold takeLit
    cases Nat.ble n m with
    | false => simp only [forceN_eq]; rw [litK_nat, litK_nat (k := some)]; rfl
    | true =>
      show takeRK r (Nat.sub m n) (fun r => litK n v r k) z = Option.elim (takeRK r (Nat.sub m n) (fun r => litK n v r some) none) z k
      rw [ih, ih (k := fun r => litK n v r some)]
      cases takeRK r (Nat.sub m n) some none with
      | none => rfl
      | some q => show litK n v q k = Option.elim (litK n v q some) z k; rw [litK_nat, litK_nat (k := some)]; rfl
  | sym i o l r ih =>
    intro β m k z
    show takeSym i o l (takeRK r) m k z = Option.elim (takeSym i o l (takeRK r) m some none) z k
    unfold takeSym
    cases Nat.ble l m with
    | false => show symK i o m .nil k = Option.elim (symK i o m .nil some) z k; rw [symK_nat, symK_nat (k := some)]; rfl
    | true =>
      show takeRK r (Nat.sub m l) (fun r => symK i o l r k) z = Option.elim (takeRK r (Nat.sub m l) (fun r => symK i o l r some) none) z k
      rw [ih, ih (k := fun r => symK i o l r some)]
      cases takeRK r (Nat.sub m l) some none with
      | none => rfl
      | some q => show symK i o l q k = Option.elim (symK i o l q some) z k; rw [symK_nat, symK_nat (k := some)]; rfl
  | crc c r _ ih =>
    intro β m k z
    show takeCrc c (takeRK r) m k z = Option.elim (takeCrc c (takeRK r) m some none) z k
    unfold takeCrc
    cases Nat.ble 4 m with
    | false => cases h : Nat.beq m 0 <;> rfl
    | true =>
      show takeRK r (Nat.sub m 4) (fun r => k (.crc c r)) z = Option.elim (takeRK r (Nat.sub m 4) (fun r => some (.crc c r)) none) z k
      rw [ih, ih (k := fun r => some (Rope.crc c r))]
      cases takeRK r (Nat.sub m 4) some none <;> rfl
theorem dropRK_nat (r : Rope) : ∀ {β : Type} (m : Nat) (k : Rope → β) (z : β), dropRK r m k z = (dropRK r m some none).elim z k := by
  induction r with
  | nil => intro β m k z; rfl
  | lit n v r ih =>
    intro β m k z
    show dropLit n v r (dropRK r) m k z = Option.elim (dropLit n v r (dropRK r) m some none) z k
    unfold dropLit
    cases Nat.ble n m with
    | false => simp only [forceN_eq]; rfl
    | true => exact ih _ _ _
  | sym i o l r ih =>
    intro β m k z
    show dropSym i o l r (dropRK r) m k z = Option.elim (dropSym i o l r (dropRK r) m some none) z k
    unfold dropSym
    cases Nat.ble l m with
    | false => simp only [forceN_eq]; rfl
    | true => exact ih _ _ _
  | crc c r _ ih =>
    intro β m k z
    show dropCrc c r (dropRK r) m k z = Option.elim (dropCrc c r (dropRK r) m some none) z k
    unfold dropCrc
    cases Nat.ble 4 m with
    | false => cases h : Nat.beq m 0 <;> rfl
    | true => exact ih _ _ _
theorem cutK_nat (r : Rope) (o n : Nat) (k : Rope → β) (z : β) : cutK r o n k z = (cutK r o n some none).elim z k := by
  unfold cutK
  cases Nat.ble (Nat.add o n) (lenR r) with
  | false => rfl
  | true =>
    show dropRK r o (fun r => takeRK r n k z) z = Option.elim (dropRK r o (fun r => takeRK r n some none) none) z k
    rw [dropRK_nat, dropRK_nat (k := fun r => takeRK r n some none)]
    cases dropRK r o some none with
    | none => rfl
    | some q => exact takeRK_nat q n k z
theorem cellsR_nat (l : List SV) : ∀ {β : Type} (k : Rope → β) (z : β), cellsR l k z = (cellsR l some none).elim z k := by
  induction l with
  | nil => intro β k z; rfl
  | cons x l ih =>
    intro β k z
    cases x <;> first | rfl | skip
    rename_i q n
    cases n with
    | negSucc m => rfl
    | ofNat m =>
      show (Bool.rec z (cellsR l (fun r => litK 1 m r k) z) (cand (kindEq q .u8) (Nat.ble m 255)) : β) = Option.elim (Bool.rec none (cellsR l (fun r => litK 1 m r some) none) (cand (kindEq q .u8) (Nat.ble m 255)) : Option Rope) z k
      cases cand (kindEq q .u8) (Nat.ble m 255) with
      | false => rfl
      | true =>
        show cellsR l (fun r => litK 1 m r k) z = Option.elim (cellsR l (fun r => litK 1 m r some) none) z k
        rw [ih, ih (k := fun r => litK 1 m r some)]
        cases cellsR l some none with
        | none => rfl
        | some r => show litK 1 m r k = Option.elim (litK 1 m r some) z k; rw [litK_nat, litK_nat (k := some)]; rfl
end

/-- a larger memory: whatever stands in the one stands in the other. -/
def Wider (hp hp2 : Hp) : Prop := ∀ p, get5 p hp ≠ .none → get5 p hp2 = get5 p hp
theorem Wider.refl (hp : Hp) : Wider hp hp := fun _ _ => rfl
theorem Wider.trans {a b c : Hp} (h : Wider a b) (g : Wider b c) : Wider a c := fun p hp => by
  have := h p hp
  rw [g p (by rw [this]; exact hp), this]
theorem Wider.put {hp : Hp} {p : Pid} (h : get5 p hp = .none) (o : Obj) : Wider hp (put5 p o hp) := fun q hq => by
  rw [get5_put5, if_neg (fun e => by subst e; exact hq h)]

/-- a reading part does the same over a larger memory. -/
def Frames (f : Hp → Pid → Ar) (hp : Hp) (nx : Pid) : Prop := ∀ v hp' nx', f hp nx = .ok v hp' nx' → ∀ hp2 nx2, Wider hp hp2 → f hp2 nx2 = .ok v hp2 nx2

section
variable {hp hp2 : Hp} {nx nx2 : Pid} {v : AV} {hp' : Hp} {nx' : Pid}
theorem ne_none {o : Obj} {k : Nat → Bool → Bool → List SV → Ar} {b : Nat → Bool → Bool → Rope → Ar} (h : obCells o k b .bad = .ok v hp' nx') : o ≠ .none := fun e => by subst e; cases h
theorem ne_none_map {o : Obj} {k : List (V1 × V1) → Ar} (h : obMap o k .bad = .ok v hp' nx') : o ≠ .none := fun e => by subst e; cases h

theorem opLd1_wide {x : AV} : Frames (fun hp nx => opLd1 x hp nx) hp nx := fun v hp' nx' h hp2 nx2 hw => by
  obtain ⟨b, o, rfl, g⟩ := asPtr_ok h
  show ld1o (getHp b hp2) o hp2 nx2 = _
  unfold ld1o at g ⊢
  rw [getHp_eq] at g ⊢
  rw [hw b (ne_none g)]
  rcases obCells_ok g with ⟨t, ex, wr, l, e, g⟩ | ⟨t, ex, wr, r, e, g⟩
  · rw [e]
    obtain ⟨y, hy, g⟩ := nthK_ok g
    obtain ⟨rfl, -, -⟩ := okS_ok g
    show nthK l o (fun x => okS x hp2 nx2) .bad = _
    rw [nthK_eq, hy]; rfl
  · rw [e]
    show ld1b r o hp2 nx2 = _
    unfold ld1b at g ⊢
    rw [byteK_nat] at g ⊢
    cases hb : byteK r o some none with
    | none => rw [hb] at g; cases g
    | some n => rw [hb] at g; obtain ⟨rfl, -, -⟩ := okS_ok (show okS _ hp nx = _ from g); rfl

theorem opLdn_wide {x : AV} {n : Nat} : Frames (fun hp nx => opLdn n x hp nx) hp nx := fun v hp' nx' h hp2 nx2 hw => by
  obtain ⟨b, o, rfl, g⟩ := asPtr_ok h
  show ldno n (getHp b hp2) o hp2 nx2 = _
  unfold ldno at g ⊢
  rw [getHp_eq] at g ⊢
  rw [hw b (ne_none g)]
  rcases obCells_ok g with ⟨t, ex, wr, l, e, g⟩ | ⟨t, ex, wr, r, e, g⟩
  · rw [e]
    obtain ⟨h1, g⟩ := dropK_ok g
    obtain ⟨h2, g⟩ := takeK_ok g
    obtain ⟨rfl, -, -⟩ := ok_ok g
    show dropK l o (fun l => takeK l n (fun l => Ar.ok (.a l) hp2 nx2) .bad) .bad = _
    rw [dropK_eq, if_pos h1, takeK_eq, if_pos h2]
  · cases g

theorem lookR_wide {ok is : Bool} {x : V1} (h : lookR ok x is hp nx = .ok v hp' nx') : lookR ok x is hp2 nx2 = .ok v hp2 nx2 := by
  cases ok with
  | true => obtain ⟨rfl, -, -⟩ := ok_ok (v := v) h; rfl
  | false => obtain ⟨rfl, -, -⟩ := ok_ok (v := v) h; rfl
theorem findM_wide {cmp : V1 → Tri} {l : List (V1 × V1)} {k k2 : V1 → Ar} {no no2 : Ar} (hk : ∀ x, k x = .ok v hp' nx' → k2 x = .ok v hp2 nx2) (hn : no = .ok v hp' nx' → no2 = .ok v hp2 nx2)
    (h : findM cmp l k no = .ok v hp' nx') : findM cmp l k2 no2 = .ok v hp2 nx2 := by
  induction l with
  | nil => exact hn h
  | cons p l ih =>
    have h : (Tri.rec (motive := fun _ => Ar) (k p.2) (findM cmp l k no) .bad (cmp p.1) : Ar) = .ok v hp' nx' := h
    show (Tri.rec (motive := fun _ => Ar) (k2 p.2) (findM cmp l k2 no2) .bad (cmp p.1) : Ar) = _
    cases ht : cmp p.1 with
    | unk => rw [ht] at h; cases h
    | yes => rw [ht] at h; exact hk _ h
    | no => rw [ht] at h; exact ih h
theorem withKey_split {kk : KeyK} {key : AV} {k : V1 → (V1 → Tri) → Ar} (h : withKey kk key k = .ok v hp' nx') : ∃ kx cmp, k kx cmp = .ok v hp' nx' ∧ ∀ (k2 : V1 → (V1 → Tri) → Ar), withKey kk key k2 = k2 kx cmp := by
  cases kk with
  | int =>
    obtain ⟨q, n, rfl, g⟩ := asInt_ok h
    exact ⟨_, _, g, fun k2 => rfl⟩
  | flat ks =>
    obtain ⟨l, rfl, g⟩ := asA_ok h
    obtain ⟨hf, g⟩ := ifB_ok g
    refine ⟨_, _, g, fun k2 => ?_⟩
    show ifB (fits ks l) (k2 (.a l) (cmpKey ks l)) .bad = _
    rw [hf]; rfl
theorem opLook_wide {kk : KeyK} {ok : Bool} {z : V1} {x y : AV} : Frames (fun hp nx => opLook kk ok z x y hp nx) hp nx := fun v hp' nx' h hp2 nx2 hw => by
  obtain ⟨x, rfl, g⟩ := asS_ok h
  obtain ⟨kx, cmp, g, hk⟩ := withKey_split g
  show withKey kk y (fun _ cmp => svMap x (fun b => lookO ok z cmp (getHp b hp2) hp2 nx2) (lookR ok z false hp2 nx2) .bad) = _
  rw [hk]
  rcases svMap_ok g with ⟨b, rfl, g⟩ | ⟨rfl, g⟩
  · have g : lookO ok z cmp (getHp b hp) hp nx = .ok v hp' nx' := g
    show lookO ok z cmp (getHp b hp2) hp2 nx2 = _
    unfold lookO at g ⊢
    rw [getHp_eq] at g ⊢
    rw [hw b (ne_none_map g)]
    obtain ⟨l, e, g⟩ := obMap_ok g
    rw [e]
    exact findM_wide (fun x h => lookR_wide h) (fun h => lookR_wide h) g
  · exact lookR_wide g
theorem opLenMap_wide {x : AV} : Frames (fun hp nx => opLenMap x hp nx) hp nx := fun v hp' nx' h hp2 nx2 hw => by
  obtain ⟨x, rfl, g⟩ := asS_ok h
  rcases svMap_ok g with ⟨b, rfl, g1⟩ | ⟨rfl, g1⟩
  · show lenMapO (getHp b hp2) hp2 nx2 = _
    unfold lenMapO at g1 ⊢
    rw [getHp_eq] at g1 ⊢
    rw [hw b (ne_none_map g1)]
    obtain ⟨l, e, g2⟩ := obMap_ok g1
    rw [e]
    rw [forceN_eq] at g2
    obtain ⟨rfl, -, -⟩ := okS_ok g2
    show forceN (lenK l) (fun n => okS (int64 n) hp2 nx2) = _
    rw [forceN_eq]; rfl
  · obtain ⟨rfl, -, -⟩ := okS_ok g1; rfl
theorem ne_none_chan {o : Obj} {k : Nat → List V1 → Ar} (h : obChan o k .bad = .ok v hp' nx') : o ≠ .none := fun e => by subst e; cases h
theorem opLenChan_wide {x : AV} : Frames (fun hp nx => opLenChan x hp nx) hp nx := fun v hp' nx' h hp2 nx2 hw => by
  obtain ⟨x, rfl, g⟩ := asS_ok h
  obtain ⟨b, rfl, g1⟩ := svChan_ok g
  show lenChanO (getHp b hp2) hp2 nx2 = _
  unfold lenChanO at g1 ⊢
  rw [getHp_eq] at g1 ⊢
  rw [hw b (ne_none_chan g1)]
  obtain ⟨c, l, e, g2⟩ := obChan_ok g1
  rw [e]
  rw [forceN_eq] at g2
  obtain ⟨rfl, -, -⟩ := okS_ok g2
  show forceN (lenK l) (fun n => okS (int64 n) hp2 nx2) = _
  rw [forceN_eq]; rfl
theorem bytesO_wide {ob : Obj} {o n : Nat} {k k2 : Rope → Ar} (hk : ∀ r, k r = .ok v hp' nx' → k2 r = .ok v hp2 nx2) (h : bytesO ob o n k .bad = .ok v hp' nx') : bytesO ob o n k2 .bad = .ok v hp2 nx2 := by
  unfold bytesO at h ⊢
  rcases obCells_ok h with ⟨t, ex, wr, l, e, g⟩ | ⟨t, ex, wr, r, e, g⟩
  · subst e
    obtain ⟨h1, g⟩ := dropK_ok g
    obtain ⟨h2, g⟩ := takeK_ok g
    show dropK l o (fun l => takeK l n (fun l => cellsR l k2 .bad) .bad) .bad = _
    rw [dropK_eq, if_pos h1, takeK_eq, if_pos h2]
    rw [cellsR_nat] at g ⊢
    cases hc : cellsR (List.take n (List.drop o l)) some none with
    | none => rw [hc] at g; cases g
    | some r => rw [hc] at g; exact hk r g
  · subst e
    show cutK r o n k2 .bad = _
    rw [cutK_nat] at g ⊢
    cases hc : cutK r o n some none with
    | none => rw [hc] at g; cases g
    | some r => rw [hc] at g; exact hk r g
theorem opB2s_wide {x : AV} : Frames (fun hp nx => opB2s x hp nx) hp nx := fun v hp' nx' h hp2 nx2 hw => by
  unfold opB2s bytesOf at h
  obtain ⟨y, rfl, g⟩ := asS_ok h
  show opB2s (.s y) hp2 nx2 = _
  cases y <;> first | (cases g; done) | skip
  · rename_i r
    have g : forceN (lenR r) (fun _ => okS (.str r) hp nx) = .ok v hp' nx' := g
    rw [forceN_eq] at g
    obtain ⟨rfl, -, -⟩ := okS_ok g
    show forceN (lenR r) (fun _ => okS (.str r) hp2 nx2) = _
    rw [forceN_eq]; rfl
  · rename_i b o n c
    have g : bytesO (getHp b hp) o n (fun r => okS (.str r) hp nx) .bad = .ok v hp' nx' := g
    show bytesO (getHp b hp2) o n (fun r => okS (.str r) hp2 nx2) .bad = _
    rw [getHp_eq] at g ⊢
    rw [hw b (ne_none g)]
    exact bytesO_wide (fun r h => by obtain ⟨rfl, -, -⟩ := okS_ok h; rfl) g
  · have g : okS (.str .nil) hp nx = .ok v hp' nx' := g
    obtain ⟨rfl, -, -⟩ := okS_ok g; rfl
  · have g : okS (.str .nil) hp nx = .ok v hp' nx' := g
    obtain ⟨rfl, -, -⟩ := okS_ok g; rfl
theorem wrO_ne {o : Obj} (h : wrO o = true) : o ≠ .none := fun e => by subst e; cases h
theorem samePtr_wide {b b' : Pid} {o o' : Nat} {k k2 : Bool → Ar} (hw : Wider hp hp2) (hk : ∀ b, k b = .ok v hp' nx' → k2 b = .ok v hp2 nx2) (h : samePtr b o b' o' hp k = .ok v hp' nx') : samePtr b o b' o' hp2 k2 = .ok v hp2 nx2 := by
  unfold samePtr at h ⊢
  rw [getHp_eq, getHp_eq] at *
  obtain ⟨h1, g⟩ := ifB_ok h
  rw [hw b (wrO_ne h1), h1]
  show (Bool.rec (ifB (wrO (get5 b' hp2)) (k2 false) .bad) (k2 (Nat.beq o o')) (pidEq b b') : Ar) = _
  cases he : pidEq b b' with
  | true => rw [he] at g; exact hk _ g
  | false =>
    rw [he] at g
    obtain ⟨h2, g⟩ := ifB_ok (b := wrO (get5 b' hp)) g
    show ifB (wrO (get5 b' hp2)) (k2 false) .bad = _
    rw [hw b' (wrO_ne h2), h2]
    exact hk _ g
theorem opEqP_wide {neg : Bool} {x y : AV} : Frames (fun hp nx => opEqP neg x y hp nx) hp nx := fun v hp' nx' h hp2 nx2 hw => by
  obtain ⟨x, rfl, g⟩ := asS_ok h
  obtain ⟨y, rfl, g⟩ := asS_ok g
  have fin : ∀ b : Bool, boolK (sameB (notB neg) b) (fun b => okS (.bool b) hp nx) = .ok v hp' nx' → boolK (sameB (notB neg) b) (fun b => okS (.bool b) hp2 nx2) = .ok v hp2 nx2 := fun b h => by
    rw [boolK_eq] at h ⊢
    obtain ⟨rfl, -, -⟩ := okS_ok h; rfl
  have g : bothPtr (nilP x) (nilP y) (fun b => boolK (sameB (notB neg) b) fun b => okS (.bool b) hp nx) (ptrs x y hp fun b => boolK (sameB (notB neg) b) fun b => okS (.bool b) hp nx) = .ok v hp' nx' := g
  show bothPtr (nilP x) (nilP y) (fun b => boolK (sameB (notB neg) b) fun b => okS (.bool b) hp2 nx2) (ptrs x y hp2 fun b => boolK (sameB (notB neg) b) fun b => okS (.bool b) hp2 nx2) = _
  have pp : ptrs x y hp (fun b => boolK (sameB (notB neg) b) fun b => okS (.bool b) hp nx) = .ok v hp' nx' → ptrs x y hp2 (fun b => boolK (sameB (notB neg) b) fun b => okS (.bool b) hp2 nx2) = .ok v hp2 nx2 := fun h => by
    obtain ⟨b, o, e1, h1⟩ := svPtr_ok h
    obtain ⟨b', o', e2, h2⟩ := svPtr_ok h1
    rw [e1, e2]
    exact samePtr_wide hw fin h2
  cases ha : nilP x <;> cases hb : nilP y <;> rw [ha, hb] at g <;> first | (cases g; done) | exact fin _ g | exact pp g
end
end Go.X
end

/-! Each operation of the model, as the executor does it: one of four kinds. -/
noncomputable section
namespace Go.X

section
variable {P : Program} {C : Ctx} {m : Mp}

theorem litB_bytes (l : List UInt8) : litB l.length (bytesNat l) = l := by
  induction l with
  | nil => rfl
  | cons b l ih =>
    have hb : b.toNat < 256 := b.toNat_lt
    show UInt8.ofNat ((b.toNat + 256 * bytesNat l) % 256) :: litB l.length ((b.toNat + 256 * bytesNat l) / 256) = _
    rw [show (b.toNat + 256 * bytesNat l) % 256 = b.toNat by omega, show (b.toNat + 256 * bytesNat l) / 256 = bytesNat l by omega, ih]
    simp
theorem valS_ok (v : Value) : SVR C m (valS v) v := by
  unfold valS
  split <;> first | rfl | trivial | skip
  rename_i s
  split
  · rename_i h
    refine ⟨trivial, ?_⟩
    have h : s.size = 0 := by simpa using h
    obtain ⟨d⟩ := s
    have : d = #[] := by simpa [ByteArray.size] using h
    subst this; rfl
  · refine ⟨trivial, ?_⟩
    obtain ⟨d⟩ := s
    have : litB d.size (bytesNat d.toList) = d.toList := by have := litB_bytes d.toList; simpa using this
    show Value.string ⟨d⟩ = .string (bs (litB d.size (bytesNat d.toList) ++ []))
    rw [this]; simp [bs]
theorem valL_ok : ∀ {l : List Value}, l.all (·.oneCell') = true → ListR C m (valL l) l
  | [], _ => trivial
  | v :: l, h => by
    simp only [List.all_cons, Bool.and_eq_true] at h
    exact ⟨valS_ok v, h.1, valL_ok h.2⟩
theorem valA_ok (v : Value) : AVR C m (valA v) v := by
  unfold valA
  split
  · split
    · rename_i cs h; exact ⟨cs.toList, by simp, valL_ok h⟩
    · trivial
  · exact valS_ok v
theorem val1_ok {v : Value} (h : v.cells.toList.all (·.oneCell') = true) : V1R C m (val1 v) v := by
  unfold val1
  split
  · rename_i cs; exact ⟨cs.toList, by simp, valL_ok h⟩
  · exact valS_ok v
theorem plainO_ok {fr : Fr} {la : AV} {a : Act} {x : Operand} (hx : ∀ t, x ≠ .tmp t) : AVR C m (evO (plainO x) fr la) (a.eval x) := by
  cases x with
  | tmp t => exact absurd rfl (hx t)
  | const v => exact valA_ok v
  | global g => trivial
  | func f => exact ⟨[], rfl, trivial⟩
theorem zeroL_ok {t : Nat} {z : List SV} (h : zeroL P t = some z) : ZeroR P C t z ∧ ∃ i, P.info? t = some i := by
  unfold zeroL at h
  split at h
  · rename_i i hi
    split at h
    · rename_i v hv
      split at h
      · rename_i ha
        injection h with h; subst h
        exact ⟨⟨i, v, hi, hv, fun m => valL_ok ha⟩, i, hi⟩
      · cases h
    · cases h
  · cases h
theorem aggO_ok {t : Nat} {b : Bool} (h : aggO P t = some b) : ∃ d, P.underlying t = some d ∧ aggD d = b := by
  unfold aggO at h
  cases hu : P.underlying t with
  | none => rw [hu] at h; cases h
  | some d => rw [hu] at h; injection h with h; exact ⟨d, rfl, h⟩
theorem isByte_ok {e : Nat} (h : isByte P e = true) : P.underlying e = some (.int .u8) := by
  unfold isByte at h
  split at h
  · assumption
  · cases h
theorem byteZero_ok {i : TypeInfo} (h : byteZero i = true) : i.zero = some (.int .u8 0) ∧ i.size = 1 := by
  unfold byteZero at h
  split at h
  · exact ⟨by assumption, by simpa using h⟩
  · cases h
theorem appOK_ok {t u e n : Nat} {d : TypeDesc} (h : appOK P e d = some n) (ht : P.underlying t = some (.slice e)) (hu : P.underlying u = some d) : AppH P t u e n := by
  have key : ∀ (i : TypeInfo), P.info? e = some i → (match i.zero with
      | some z => if z.cells.size == i.size && 1 ≤ i.size && i.bytes ≤ 1073741824 && z.cells.toList.all (·.oneCell') then some i.size else none
      | none => none) = some n → AppT P u → AppH P t u e n := fun i hi h hT => by
    split at h
    · rename_i z hz
      split at h
      · rename_i hc
        injection h with h
        simp only [Bool.and_eq_true, beq_iff_eq, decide_eq_true_eq] at hc
        exact ⟨ht, hT, by unfold szOf; rw [hi]; exact congrArg some h, by omega, i, z, hi, hz, h, by omega, hc.1.2⟩
      · cases h
    · cases h
  unfold appOK at h
  split at h
  · rename_i i hi; exact key i hi h (.inl hu)
  · rename_i i x hi; exact key i hi h (.inr ⟨_, hu⟩)
  · cases h
end

section
variable {P : Program} {C : Ctx} {m : Mp} {c : Operand → AOpd} {fr : Fr} {la : AV} {a : Act}
theorem evL_ok : ∀ {l : List Operand}, (∀ x ∈ l, AVR C m (evO (c x) fr la) (a.eval x)) → ArgsR C m (evL (l.map c) fr la) (l.map a.eval)
  | [], _ => trivial
  | x :: l, h => ⟨h x (by simp), evL_ok fun y hy => h y (by simp [hy])⟩
theorem evM_ok {x : Option Operand} (h : ∀ y, x = some y → AVR C m (evO (c y) fr la) (a.eval y)) : OptR C m (evM (x.map c) fr la) (x.map a.eval) := by
  cases x with
  | none => trivial
  | some y => exact h y rfl
theorem partsAt_ok {n : Nat} : ∀ {l : List (Nat × Operand)}, (∀ p ∈ l, AVR C m (evO (c p.2) fr la) (a.eval p.2)) →
    PartsR C m (fun i => some (i * n, n)) (evP (partsAt c n l) fr la) (l.map fun p => (p.1, a.eval p.2))
  | [], _ => trivial
  | (i, x) :: l, h => ⟨rfl, h (i, x) (by simp), partsAt_ok fun y hy => h y (by simp [hy])⟩
theorem partsOf_ok {pl : List (Nat × Nat)} : ∀ {l : List (Nat × Operand)} {r : List (Nat × Nat × AOpd)}, partsOf c pl l = some r → (∀ p ∈ l, AVR C m (evO (c p.2) fr la) (a.eval p.2)) →
    PartsR C m (pl.toArray[·]?) (evP r fr la) (l.map fun p => (p.1, a.eval p.2)) := by
  intro l
  induction l with
  | nil => intro r h _; injection h with h; subst h; trivial
  | cons p l ih =>
    intro r h hl
    obtain ⟨i, x⟩ := p
    unfold partsOf at h
    split at h
    · rename_i o n r' h1 h2
      injection h with h; subst h
      exact ⟨by simpa using h1, hl (i, x) (by simp), ih h2 fun y hy => hl y (by simp [hy])⟩
    · cases h
end

/-- a function of the model is entered as it is called. -/
def Enters (P : Program) (f : Nat) : Prop := ∀ (args : Array Value) (w : World), (callFunc f args).run P w = .ok (.enter f args) w
/-- how a call ends. -/
def Ends (P : Program) (C : Ctx) (base : Nat) (m : Mp) (hp : Hp) (nx : Pid) (w : World) (hp' : Hp) (nx' : Pid) (v : AV) : Ending → World → Prop
  | .returned u, w' => ∃ m', AVR C m' v u ∧ Good P C base m hp nx w m' hp' nx' w'
  | _, _ => False
/-- what the executor says of calls is so. -/
def CallOK (P : Program) (C : Ctx) (ih : CallF) : Prop := ∀ f args hp nx v hp' nx', ih f args hp nx = .ok v hp' nx' → Enters P f ∧
  ∀ base m w us, SR P C base m hp nx w → ArgsR C m args us → Calls P f us.toArray w (Ends P C base m hp nx w hp' nx' v)
/-- .. and of the functions that are known. -/
def KnownOK (P : Program) (C : Ctx) (K : Known) : Prop := ∀ f i, K f = some i → ∀ args hp nx v hp' nx', runIn i args hp nx = .ok v hp' nx' → Enters P f ∧
  ∀ base m w us, SR P C base m hp nx w → ArgsR C m args us → Calls P f us.toArray w (Ends P C base m hp nx w hp' nx' v)

section
variable (P : Program) (C : Ctx) (o : Oper) (R : Mp → Act → Prop)
def Pures (v : AV) : Prop := ∀ m a, R m a → ∀ w, ∃ u, (execOp a.eval o).run P w = .ok (.value u) w ∧ AVR C m v u
def Readers (hp : Hp) (v : AV) : Prop := ∀ hp2 nx2, Wider hp hp2 → ∀ base m a, R m a → ∀ w, SR P C base m hp2 nx2 w → ∃ u, (execOp a.eval o).run P w = .ok (.value u) w ∧ AVR C m v u
def Makers (nx : Pid) (ob : Obj) (v : AV) : Prop := ∀ m a, R m a → ∀ w, ∃ u w' x N es, (execOp a.eval o).run P w = .ok (.value u) w' ∧ NewW w w' x ∧ ObjR P C m w' w.heap.size 0 N es ob ∧
  ∀ m' : Mp, m' nx = .live w.heap.size 0 N es → AVR C m' v u
def Louds (hp : Hp) (nx : Pid) (hp' : Hp) (nx' : Pid) (v : AV) : Prop := ∀ base m a w, R m a → SR P C base m hp nx w → ∀ next Q,
  (∀ m' u w', AVR C m' v u → Good P C base m hp nx w m' hp' nx' w' → next (a.put o.dst u) w') → o.wp P a w next Q
/-- the four kinds. -/
inductive Class (A : AOp) (hp : Hp) (nx : Pid) (hp' : Hp) (nx' : Pid) (v : AV) : Prop
  | pure (h : Pures P C o R v) (e1 : hp' = hp) (e2 : nx' = nx)
  | read (hr : isRd A = true) (h : Readers P C o R hp v) (e1 : hp' = hp) (e2 : nx' = nx)
  | make (ob : Obj) (h : Makers P C o R nx ob v) (e1 : hp' = put5 nx ob hp) (e2 : nx'.num = nx.num + 1)
  | loud (hl : loudO o.op = true) (h : Louds P C o R hp nx hp' nx' v)
end

section
variable {P : Program} {C : Ctx} {o : Oper} {R : Mp → Act → Prop} {A : AOp} {hp hp' : Hp} {nx nx' : Pid} {v : AV}
theorem Class.louds (h : Class P C o R A hp nx hp' nx' v) : Louds P C o R hp nx hp' nx' v := by
  cases h with
  | loud _ h => exact h
  | pure h e1 e2 =>
    subst e1; subst e2
    intro base m a w hR hs next Q hn
    obtain ⟨u, h1, h2⟩ := h m a hR w
    unfold Oper.wp; rw [h1]
    exact hn m u w h2 (.refl hs)
  | read hr h e1 e2 =>
    subst e1; subst e2
    intro base m a w hR hs next Q hn
    obtain ⟨u, h1, h2⟩ := h _ _ (.refl _) base m a hR w hs
    unfold Oper.wp; rw [h1]
    exact hn m u w h2 (.refl hs)
  | make ob h e1 e2 =>
    subst e1
    intro base m a w hR hs next Q hn
    obtain ⟨u, w', x, N, es, h1, h2, h3, h4⟩ := h m a hR w
    unfold Oper.wp; rw [h1]
    exact hn _ u w' (h4 _ (upd_same _ _ _)) (hs.new e2 h2 h3)
end

/-- each operand is what the executor says. -/
def OpsR (C : Ctx) (o : Oper) (c : Operand → AOpd) (fr : Fr) (la : AV) (m : Mp) (a : Act) : Prop := ∀ x ∈ o.op.operands, AVR C m (evO (c x) fr la) (a.eval x)

section
variable {P : Program} {C : Ctx} {K : Known} {ih : CallF} {c : Operand → AOpd} {fr : Fr} {la : AV} {hp hp' : Hp} {nx nx' : Pid} {v : AV}
variable {A : AOp} {dst : Option Tmp} {type : TypeId} {pos : String} {after : Array Edge} {guard : Option (Nat × Bool)}

abbrev Cls (P : Program) (C : Ctx) (c : Operand → AOpd) (fr : Fr) (la : AV) (A : AOp) (hp : Hp) (nx : Pid) (hp' : Hp) (nx' : Pid) (v : AV) (o : Oper) : Prop := Class P C o (OpsR C o c fr la) A hp nx hp' nx' v

/-- out of what a part gives. -/
theorem Cls.gives {o : Oper} {s : Act → Sem Value} (he : ∀ a : Act, execOp a.eval o = (do pure (.value (← s a)))) (e1 : hp' = hp) (e2 : nx' = nx)
    (h : ∀ m a, OpsR C o c fr la m a → Gives P C m (s a) v) : Cls P C c fr la A hp nx hp' nx' v o :=
  .pure (fun m a hR w => by
    obtain ⟨u, h1, h2⟩ := h m a hR w
    exact ⟨u, by rw [he]; simp [h1], h2⟩) e1 e2
theorem Cls.reads {o : Oper} {s : Act → Sem Value} (hr : isRd A = true) (he : ∀ a : Act, execOp a.eval o = (do pure (.value (← s a)))) {f : Hp → Pid → Ar} (hf : ∀ hp nx, Frames f hp nx) (hv : f hp nx = .ok v hp' nx')
    (h : ∀ {hp2 nx2 hp3 nx3}, f hp2 nx2 = .ok v hp3 nx3 → hp3 = hp2 ∧ nx3 = nx2 ∧ ∀ base m a, OpsR C o c fr la m a → Reads P C base m hp2 nx2 (s a) v) : Cls P C c fr la A hp nx hp' nx' v o := by
  obtain ⟨e1, e2, -⟩ := h hv
  refine .read hr (fun hp2 nx2 hw base m a hR w hs => ?_) e1 e2
  obtain ⟨-, -, g⟩ := h (hf hp nx _ _ _ hv hp2 nx2 hw)
  obtain ⟨u, h1, h2⟩ := g base m a hR w hs
  exact ⟨u, by rw [he]; simp [h1], h2⟩
theorem Cls.news {o : Oper} {s : Act → Sem Value} (he : ∀ a : Act, execOp a.eval o = (do pure (.value (← s a)))) {ob : Obj} (e1 : hp' = put5 nx ob hp) (e2 : nx'.num = nx.num + 1)
    (h : ∀ m a, OpsR C o c fr la m a → News P C m (s a) nx ob v) : Cls P C c fr la A hp nx hp' nx' v o :=
  .make ob (fun m a hR w => by
    obtain ⟨u, w', x, N, es, h1, h2, h3, h4⟩ := h m a hR w
    exact ⟨u, w', x, N, es, by rw [he]; simp [h1], h2, h3, h4⟩) e1 e2
theorem Cls.units {o : Oper} {s : Act → Sem Unit} (he : ∀ a : Act, execOp a.eval o = (do s a; pure .skip)) (hl : loudO o.op = true) (hv : v = .s .un)
    (h : ∀ base m a w, OpsR C o c fr la m a → SR P C base m hp nx w → ∃ w', (s a).run P w = .ok () w' ∧ Good P C base m hp nx w m hp' nx' w') : Cls P C c fr la A hp nx hp' nx' v o :=
  .loud hl fun base m a w hR hs next Q hn => by
    obtain ⟨w', h1, h2⟩ := h base m a w hR hs
    subst hv
    unfold Oper.wp; rw [he]
    simp only [Sem.run_bind, h1, Result.andThen_ok, Sem.run_pure]
    exact hn m undef w' trivial h2
theorem Cls.does {o : Oper} {s : Act → Sem Value} (he : ∀ a : Act, execOp a.eval o = (do pure (.value (← s a)))) (hl : loudO o.op = true)
    (h : ∀ base m a w, OpsR C o c fr la m a → SR P C base m hp nx w → ∃ u w' m', (s a).run P w = .ok u w' ∧ AVR C m' v u ∧ Good P C base m hp nx w m' hp' nx' w') : Cls P C c fr la A hp nx hp' nx' v o :=
  .loud hl fun base m a w hR hs next Q hn => by
    obtain ⟨u, w', m', h1, h2, h3⟩ := h base m a w hR hs
    unfold Oper.wp; rw [he]
    simp only [Sem.run_bind, h1, Result.andThen_ok, Sem.run_pure]
    exact hn m' u w' h2 h3

theorem bad_no {α : Prop} (h : (runOp .bad ih fr la hp nx : Ar) = .ok v hp' nx') : α := by
  have h : (Ar.bad : Ar) = .ok v hp' nx' := h
  cases h
end
end Go.X
end

/-! Each operation of the model, as the executor does it: one of four kinds. -/
noncomputable section
namespace Go.X
section
variable {P : Program} {C : Ctx} {K : Known} {ih : CallF} {c : Operand → AOpd} {fr : Fr} {la : AV} {hp hp' : Hp} {nx nx' : Pid} {v : AV}
variable {A : AOp} {dst : Option Tmp} {type : TypeId} {pos : String} {after : Array Edge} {guard : Option (Nat × Bool)}

theorem cls_move {x : Operand} (h : runOp (cOp P K c ⟨dst, .move x, type, pos, after, guard⟩) ih fr la hp nx = .ok v hp' nx') : Cls P C c fr la A hp nx hp' nx' v ⟨dst, .move x, type, pos, after, guard⟩ := by
  have h : opMov (evO (c x) fr la) hp nx = .ok v hp' nx' := h
  obtain ⟨rfl, e1, e2⟩ := opMov_ok h
  exact .pure (fun m a hR w => ⟨a.eval x, rfl, hR x (by simp [Op.operands])⟩) e1 e2
theorem cls_assign {x : Operand} (h : runOp (cOp P K c ⟨dst, .assign x, type, pos, after, guard⟩) ih fr la hp nx = .ok v hp' nx') : Cls P C c fr la A hp nx hp' nx' v ⟨dst, .assign x, type, pos, after, guard⟩ := by
  have h : opMov (evO (c x) fr la) hp nx = .ok v hp' nx' := h
  obtain ⟨rfl, e1, e2⟩ := opMov_ok h
  exact .pure (fun m a hR w => ⟨a.eval x, rfl, hR x (by simp [Op.operands])⟩) e1 e2
theorem cls_pick {b x y : Operand} (h : runOp (cOp P K c ⟨dst, .pick b x y, type, pos, after, guard⟩) ih fr la hp nx = .ok v hp' nx') : Cls P C c fr la A hp nx hp' nx' v ⟨dst, .pick b x y, type, pos, after, guard⟩ := by
  have h : opPick (evO (c b) fr la) (evO (c x) fr la) (evO (c y) fr la) hp nx = .ok v hp' nx' := h
  obtain ⟨e1, e2, g⟩ := opPick_ok (P := P) (C := C) h
  refine .pure (fun m a hR w => ?_) e1 e2
  obtain ⟨u, h1, h2⟩ := g m _ _ _ (hR b (by simp [Op.operands])) (hR x (by simp [Op.operands])) (hR y (by simp [Op.operands])) w
  refine ⟨u, ?_, h2⟩
  simp only [execOp, Sem.run_bind] at h1 ⊢
  cases hr : (Go.asBool (a.eval b)).run P w with
  | ok t w1 =>
    rw [hr] at h1
    simp only [Result.andThen_ok, Sem.run_pure, Result.ok.injEq] at h1 ⊢
    exact ⟨by rw [h1.1], h1.2⟩
  | halt q w1 => rw [hr] at h1; cases h1
theorem cls_alloc {t : TypeId} (h : runOp (cOp P K c ⟨dst, .alloc t, type, pos, after, guard⟩) ih fr la hp nx = .ok v hp' nx') : Cls P C c fr la A hp nx hp' nx' v ⟨dst, .alloc t, type, pos, after, guard⟩ := by
  simp only [cOp] at h
  split at h
  · rename_i z hz
    have h : opAlloc t z hp nx = .ok v hp' nx' := h
    obtain ⟨ob, e1, e2, g⟩ := opAlloc_ok (P := P) (C := C) h
    exact Cls.news (s := fun _ => Instr.alloc t true (.tuple #[])) (fun _ => rfl) e1 e2 (fun m a _ => g m (zeroL_ok hz).1)
  · exact bad_no h
theorem cls_box {t : TypeId} {x : Operand} (h : runOp (cOp P K c ⟨dst, .box t x, type, pos, after, guard⟩) ih fr la hp nx = .ok v hp' nx') : Cls P C c fr la A hp nx hp' nx' v ⟨dst, .box t x, type, pos, after, guard⟩ := by
  have h : opBox t (evO (c x) fr la) hp nx = .ok v hp' nx' := h
  obtain ⟨ob, e1, e2, g⟩ := opBox_ok (P := P) (C := C) h
  exact Cls.news (s := fun a => Instr.box t (a.eval x)) (fun _ => rfl) e1 e2 (fun m a hR => g m _ (hR x (by simp [Op.operands])))

theorem map_parts (ps : Array (Nat × Operand)) (a : Act) : (ps.map fun (i, x) => (i, a.eval x)).toList = ps.toList.map fun p => (p.1, a.eval p.2) := by simp
theorem cls_build {t : TypeId} {ps : Array (Nat × Operand)} (h : runOp (cOp P K c ⟨dst, .build t ps, type, pos, after, guard⟩) ih fr la hp nx = .ok v hp' nx') : Cls P C c fr la A hp nx hp' nx' v ⟨dst, .build t ps, type, pos, after, guard⟩ := by
  simp only [cOp] at h
  have hmem : ∀ (m : Mp) (a : Act), OpsR C ⟨dst, .build t ps, type, pos, after, guard⟩ c fr la m a → ∀ p ∈ ps.toList, AVR C m (evO (c p.2) fr la) (a.eval p.2) := fun m a hR p hp => hR p.2 (by
    simp only [Op.operands, List.mem_toArray, List.mem_map]; exact ⟨p, hp, rfl⟩)
  split at h
  · rename_i z fs hz hu
    split at h
    · rename_i pl hpl
      split at h
      · rename_i l hl
        have h : opBuild z (evP l fr la) hp nx = .ok v hp' nx' := h
        obtain ⟨e1, e2, g⟩ := opBuild_ok (C := C) h
        obtain ⟨⟨i, v0, hi, hz, hzl⟩, -⟩ := zeroL_ok (P := P) (C := C) hz
        refine Cls.gives (s := fun a => Instr.build t (ps.map fun (i, x) => (i, a.eval x))) (fun _ => rfl) e1 e2 fun m a hR w => ?_
        obtain ⟨cs, h1, h2⟩ := g m (pl.toArray[·]?) v0.cells (ps.toList.map fun p => (p.1, a.eval p.2)) (hzl m) (partsOf_ok hl (hmem m a hR))
        refine ⟨_, run_build w t _ cs ?_, h2⟩
        rw [map_parts]
        unfold placesOf at hpl
        simp only [Program.built, hi, hu, hz, hpl]
        exact h1
      · exact bad_no h
    · exact bad_no h
  · rename_i z n e hz hu
    split at h
    · rename_i k hk
      have h : opBuild z (evP (partsAt c k ps.toList) fr la) hp nx = .ok v hp' nx' := h
      obtain ⟨e1, e2, g⟩ := opBuild_ok (C := C) h
      obtain ⟨⟨i, v0, hi, hz, hzl⟩, -⟩ := zeroL_ok (P := P) (C := C) hz
      refine Cls.gives (s := fun a => Instr.build t (ps.map fun (i, x) => (i, a.eval x))) (fun _ => rfl) e1 e2 fun m a hR w => ?_
      obtain ⟨cs, h1, h2⟩ := g m (fun i => some (i * k, k)) v0.cells (ps.toList.map fun p => (p.1, a.eval p.2)) (hzl m) (partsAt_ok (hmem m a hR))
      refine ⟨_, run_build w t _ cs ?_, h2⟩
      rw [map_parts]
      unfold szOf at hk
      cases hie : P.info? e with
      | none => rw [hie] at hk; cases hk
      | some ie =>
        rw [hie] at hk; injection hk with hk
        simp only [Program.built, hi, hu, hz, hie, hk]
        exact h1
    · exact bad_no h
  · exact bad_no h
theorem partsAt_nil {n : Nat} {l : List (Nat × Operand)} (h : l.isEmpty = true) : evP (partsAt c n l) fr la = [] := by
  cases l with
  | nil => rfl
  | cons _ _ => cases h
theorem cls_bslice {t : TypeId} {len : Nat} {ps : Array (Nat × Operand)} (h : runOp (cOp P K c ⟨dst, .buildSlice t len ps, type, pos, after, guard⟩) ih fr la hp nx = .ok v hp' nx') : Cls P C c fr la A hp nx hp' nx' v ⟨dst, .buildSlice t len ps, type, pos, after, guard⟩ := by
  simp only [cOp] at h
  have hmem : ∀ (m : Mp) (a : Act), OpsR C ⟨dst, .buildSlice t len ps, type, pos, after, guard⟩ c fr la m a → ∀ p ∈ ps.toList, AVR C m (evO (c p.2) fr la) (a.eval p.2) := fun m a hR p hp => hR p.2 (by
    simp only [Op.operands, List.mem_toArray, List.mem_map]; exact ⟨p, hp, rfl⟩)
  split at h
  · rename_i e hu
    split at h
    · rename_i z n hz hn
      split at h
      · rename_i hc
        simp only [Bool.and_eq_true, beq_iff_eq, Bool.or_eq_true, decide_eq_true_eq] at hc
        have h : opBslice e len z (evP (partsAt c n ps.toList) fr la) hp nx = .ok v hp' nx' := h
        obtain ⟨ob, e1, e2, g⟩ := opBslice_ok (P := P) (C := C) h
        refine Cls.news (s := fun a => Instr.buildSlice t len (ps.map fun (i, x) => (i, a.eval x))) (fun a => by simp only [execOp]) e1 e2 fun m a hR => ?_
        refine g m _ t n ?_ (zeroL_ok hz).1 hu hn hc.1 ?_
        · rw [map_parts]; exact partsAt_ok (hmem m a hR)
        · rcases hc.2 with h1 | h1
          · exact .inl ⟨h1.1, by have := h1.2; omega⟩
          · exact .inr ⟨h1.1, partsAt_nil h1.2⟩
      · exact bad_no h
    · exact bad_no h
  · exact bad_no h
theorem cls_load {t : TypeId} {x : Operand} (hA : cOp P K c ⟨dst, .load t x, type, pos, after, guard⟩ = A) (h : runOp A ih fr la hp nx = .ok v hp' nx') : Cls P C c fr la A hp nx hp' nx' v ⟨dst, .load t x, type, pos, after, guard⟩ := by
  simp only [cOp] at hA
  split at hA <;> subst hA
  · rename_i n ha hn
    obtain ⟨d, hd, ha⟩ := aggO_ok ha
    exact Cls.reads rfl (s := fun a => Instr.loadAt t (a.eval x)) (fun _ => rfl) (f := fun hp nx => opLdn n (evO (c x) fr la) hp nx) (fun _ _ => opLdn_wide) h fun h => by
      obtain ⟨e1, e2, g⟩ := opLdn_ok (P := P) (C := C) h
      exact ⟨e1, e2, fun base m a hR => g base m _ (hR x (by simp [Op.operands])) t d hd ha hn⟩
  · rename_i ha
    obtain ⟨d, hd, ha⟩ := aggO_ok ha
    exact Cls.reads rfl (s := fun a => Instr.loadAt t (a.eval x)) (fun _ => rfl) (f := fun hp nx => opLd1 (evO (c x) fr la) hp nx) (fun _ _ => opLd1_wide) h fun h => by
      obtain ⟨e1, e2, g⟩ := opLd1_ok (P := P) (C := C) h
      exact ⟨e1, e2, fun base m a hR => g base m _ (hR x (by simp [Op.operands])) t d hd ha⟩
  · exact bad_no h
theorem cls_store {t : TypeId} {x y : Operand} (h : runOp (cOp P K c ⟨dst, .store t x y, type, pos, after, guard⟩) ih fr la hp nx = .ok v hp' nx') : Cls P C c fr la A hp nx hp' nx' v ⟨dst, .store t x y, type, pos, after, guard⟩ := by
  simp only [cOp] at h
  split at h
  · rename_i n ha hn
    have h : opStn n (evO (c x) fr la) (evO (c y) fr la) hp nx = .ok v hp' nx' := h
    obtain ⟨hv, rfl, g⟩ := opStn_ok (P := P) (C := C) h
    exact Cls.units (s := fun a => Instr.storeAt t (a.eval x) (a.eval y)) (fun _ => rfl) rfl hv fun base m a w hR hs => g base m w _ _ hs (hR x (by simp [Op.operands])) (hR y (by simp [Op.operands])) t hn
  · rename_i ha hn
    have h : opSt1 (evO (c x) fr la) (evO (c y) fr la) hp nx = .ok v hp' nx' := h
    obtain ⟨hv, rfl, g⟩ := opSt1_ok (P := P) (C := C) h
    exact Cls.units (s := fun a => Instr.storeAt t (a.eval x) (a.eval y)) (fun _ => rfl) rfl hv fun base m a w hR hs => g base m w _ _ hs (hR x (by simp [Op.operands])) (hR y (by simp [Op.operands])) t hn
  · exact bad_no h
theorem cls_nilck {x : Operand} (h : runOp (cOp P K c ⟨dst, .nilCheck x, type, pos, after, guard⟩) ih fr la hp nx = .ok v hp' nx') : Cls P C c fr la A hp nx hp' nx' v ⟨dst, .nilCheck x, type, pos, after, guard⟩ := by
  have h : opNilck (evO (c x) fr la) hp nx = .ok v hp' nx' := h
  obtain ⟨rfl, e1, e2, g⟩ := opNilck_ok (C := C) h
  refine .pure (fun m a hR w => ?_) e1 e2
  have hu := hR x (by simp [Op.operands])
  obtain ⟨ad, hx⟩ := g m _ hu
  exact ⟨a.eval x, by simp [execOp, hx], hu⟩

theorem guard_not {op : BinOp} {t : Nat} {x y : Operand} {u u' : Value} (h1 : op ≠ .eql) (h2 : op ≠ .neq) : eqGuard op t x y u u' = pure () := by
  cases op <;> first | rfl | exact absurd rfl h1 | exact absurd rfl h2
theorem cls_eq {t : TypeId} {x y : Operand} {yt : TypeId} {neg : Bool} {d : TypeDesc} {k : EqK} (hu : P.underlying t = some d) (hk : eqKind P d = some k)
    (hA : A = .eq k neg (c x) (c y)) (h : opEq k neg (evO (c x) fr la) (evO (c y) fr la) hp nx = .ok v hp' nx') : Cls P C c fr la A hp nx hp' nx' v ⟨dst, .binOp (eqOp neg) t x y yt, type, pos, after, guard⟩ := by
  have n : ∀ nk, k = .n nk → nilT nk d → Cls P C c fr la A hp nx hp' nx' v ⟨dst, .binOp (eqOp neg) t x y yt, type, pos, after, guard⟩ := fun nk hnk hT => by
    subst hnk
    have h : opEqN nk neg (evO (c x) fr la) (evO (c y) fr la) hp nx = .ok v hp' nx' := h
    obtain ⟨e1, e2, g⟩ := opEqN_ok (P := P) (C := C) h
    exact Cls.gives (s := fun a => do eqGuard (eqOp neg) t x y (a.eval x) (a.eval y); binOp (eqOp neg) t (a.eval x) (a.eval y)) (fun _ => rfl) e1 e2
      fun m a hR => g m _ _ (hR x (by simp [Op.operands])) (hR y (by simp [Op.operands])) t x y d hu hT
  unfold eqKind at hk
  split at hk
  · injection hk with hk; subst hk
    have h : opEqB neg (evO (c x) fr la) (evO (c y) fr la) hp nx = .ok v hp' nx' := h
    obtain ⟨e1, e2, g⟩ := opEqB_ok (P := P) (C := C) h
    exact Cls.gives (s := fun a => do eqGuard (eqOp neg) t x y (a.eval x) (a.eval y); binOp (eqOp neg) t (a.eval x) (a.eval y)) (fun _ => rfl) e1 e2
      fun m a hR => g m _ _ (hR x (by simp [Op.operands])) (hR y (by simp [Op.operands])) t x y hu
  · injection hk with hk; subst hk
    have h : opEqS neg (evO (c x) fr la) (evO (c y) fr la) hp nx = .ok v hp' nx' := h
    obtain ⟨e1, e2, g⟩ := opEqS_ok (P := P) (C := C) h
    exact Cls.gives (s := fun a => do eqGuard (eqOp neg) t x y (a.eval x) (a.eval y); binOp (eqOp neg) t (a.eval x) (a.eval y)) (fun _ => rfl) e1 e2
      fun m a hR => g m _ _ (hR x (by simp [Op.operands])) (hR y (by simp [Op.operands])) t x y
  · rename_i e
    split at hk
    · rename_i j hj
      injection hk with hk; subst hk
      exact Cls.reads (by rw [hA]; rfl) (s := fun a => do eqGuard (eqOp neg) t x y (a.eval x) (a.eval y); binOp (eqOp neg) t (a.eval x) (a.eval y)) (fun _ => rfl)
        (f := fun hp nx => opEqP neg (evO (c x) fr la) (evO (c y) fr la) hp nx) (fun _ _ => opEqP_wide) h fun h => by
          obtain ⟨e1, e2, g⟩ := opEqP_ok (P := P) (C := C) h
          exact ⟨e1, e2, fun base m a hR => g base m _ _ (hR x (by simp [Op.operands])) (hR y (by simp [Op.operands])) t e j x y hu hj⟩
    · injection hk with hk; exact n _ hk.symm ⟨e, rfl⟩
  · injection hk with hk; exact n _ hk.symm ⟨_, rfl⟩
  · injection hk with hk; exact n _ hk.symm ⟨_, _, rfl⟩
  · injection hk with hk; exact n _ hk.symm ⟨_, _, _, rfl⟩
  · cases hk
theorem cls_bin {op : BinOp} {t : TypeId} {x y : Operand} {yt : TypeId} (hA : cOp P K c ⟨dst, .binOp op t x y yt, type, pos, after, guard⟩ = A) (h : runOp A ih fr la hp nx = .ok v hp' nx') : Cls P C c fr la A hp nx hp' nx' v ⟨dst, .binOp op t x y yt, type, pos, after, guard⟩ := by
  have sh : ∀ op, opSh op (evO (c x) fr la) (evO (c y) fr la) hp nx = .ok v hp' nx' → Cls P C c fr la A hp nx hp' nx' v ⟨dst, .binOp op t x y yt, type, pos, after, guard⟩ := fun op h => by
    obtain ⟨e1, e2, g⟩ := opSh_ok (P := P) (C := C) h
    exact Cls.gives (s := fun a => do eqGuard op t x y (a.eval x) (a.eval y); binOp op t (a.eval x) (a.eval y)) (fun _ => rfl) e1 e2
      fun m a hR => g m _ _ (hR x (by simp [Op.operands])) (hR y (by simp [Op.operands])) t x y
  simp only [cOp] at hA
  split at hA
  · subst hA; exact sh _ h
  · subst hA; exact sh _ h
  · subst hA
    rename_i op op2 xd q h1 h2 hu
    have h : opBinI op (evO (c x) fr la) (evO (c y) fr la) hp nx = .ok v hp' nx' := h
    obtain ⟨e1, e2, g⟩ := opBinI_ok (P := P) (C := C) h
    exact Cls.gives (s := fun a => do eqGuard op t x y (a.eval x) (a.eval y); binOp op t (a.eval x) (a.eval y)) (fun _ => rfl) e1 e2
      fun m a hR => g m _ _ (hR x (by simp [Op.operands])) (hR y (by simp [Op.operands])) t x y
  · subst hA
    have h : opCat (evO (c x) fr la) (evO (c y) fr la) hp nx = .ok v hp' nx' := h
    obtain ⟨e1, e2, g⟩ := opCat_ok (P := P) (C := C) h
    refine Cls.gives (s := fun a => do eqGuard .add t x y (a.eval x) (a.eval y); binOp .add t (a.eval x) (a.eval y)) (fun _ => rfl) e1 e2 fun m a hR w => ?_
    obtain ⟨u, h1, h2⟩ := g m _ _ (hR x (by simp [Op.operands])) (hR y (by simp [Op.operands])) t w
    exact ⟨u, by rw [guard_not (by simp) (by simp)]; simpa using h1, h2⟩
  · rename_i fs hu
    split at hA
    · rename_i ks hk
      split at hA
      · subst hA; exact bad_no h
      · rename_i hg
        subst hA
        have h : opEqF ks false (evO (c x) fr la) (evO (c y) fr la) hp nx = .ok v hp' nx' := h
        obtain ⟨e1, e2, g⟩ := opEqF_ok (P := P) (C := C) h
        exact Cls.gives (s := fun a => do eqGuard (eqOp false) t x y (a.eval x) (a.eval y); binOp (eqOp false) t (a.eval x) (a.eval y)) (fun _ => rfl) e1 e2
          fun m a hR => g m _ _ (hR x (by simp [Op.operands])) (hR y (by simp [Op.operands])) t fs x y hu hk (by simpa using hg)
    · subst hA; exact bad_no h
  · rename_i fs hu
    split at hA
    · rename_i ks hk
      split at hA
      · subst hA; exact bad_no h
      · rename_i hg
        subst hA
        have h : opEqF ks true (evO (c x) fr la) (evO (c y) fr la) hp nx = .ok v hp' nx' := h
        obtain ⟨e1, e2, g⟩ := opEqF_ok (P := P) (C := C) h
        exact Cls.gives (s := fun a => do eqGuard (eqOp true) t x y (a.eval x) (a.eval y); binOp (eqOp true) t (a.eval x) (a.eval y)) (fun _ => rfl) e1 e2
          fun m a hR => g m _ _ (hR x (by simp [Op.operands])) (hR y (by simp [Op.operands])) t fs x y hu hk (by simpa using hg)
    · subst hA; exact bad_no h
  · rename_i d _ hu
    split at hA <;> subst hA
    · rename_i k hk; exact cls_eq (neg := false) hu hk rfl h
    · exact bad_no h
  · rename_i d _ hu
    split at hA <;> subst hA
    · rename_i k hk; exact cls_eq (neg := true) hu hk rfl h
    · exact bad_no h
  · subst hA; exact bad_no h
theorem cls_un {op : UnOp} {t : TypeId} {x : Operand} (h : runOp (cOp P K c ⟨dst, .unOp op t x, type, pos, after, guard⟩) ih fr la hp nx = .ok v hp' nx') : Cls P C c fr la A hp nx hp' nx' v ⟨dst, .unOp op t x, type, pos, after, guard⟩ := by
  cases op <;> simp only [cOp] at h <;> first | (exact bad_no h) | skip
  · split at h
    · have h : opNeg (evO (c x) fr la) hp nx = .ok v hp' nx' := h
      obtain ⟨e1, e2, g⟩ := opNeg_ok (P := P) (C := C) h
      exact Cls.gives (s := fun a => Op.unary .neg (a.eval x)) (fun _ => rfl) e1 e2 fun m a hR => g m _ (hR x (by simp [Op.operands]))
    · exact bad_no h
  · have h : opNot (evO (c x) fr la) hp nx = .ok v hp' nx' := h
    obtain ⟨e1, e2, g⟩ := opNot_ok (P := P) (C := C) h
    exact Cls.gives (s := fun a => Op.unary .not (a.eval x)) (fun _ => rfl) e1 e2 fun m a hR => g m _ (hR x (by simp [Op.operands]))
theorem cls_convert {s d : TypeId} {x : Operand} (hA : cOp P K c ⟨dst, .convert s d x, type, pos, after, guard⟩ = A) (h : runOp A ih fr la hp nx = .ok v hp' nx') : Cls P C c fr la A hp nx hp' nx' v ⟨dst, .convert s d x, type, pos, after, guard⟩ := by
  simp only [cOp] at hA
  split at hA
  · subst hA
    rename_i k0 k hs hd
    have h : opCvi k (evO (c x) fr la) hp nx = .ok v hp' nx' := h
    obtain ⟨e1, e2, g⟩ := opCvi_ok (P := P) (C := C) h
    exact Cls.gives (s := fun a => convert s d (a.eval x)) (fun _ => rfl) e1 e2 fun m a hR => g m _ (hR x (by simp [Op.operands])) s d _ hs hd
  · rename_i e hs hd
    split at hA <;> subst hA
    · rename_i hc
      simp only [Bool.and_eq_true, beq_iff_eq] at hc
      have h : opS2b e (evO (c x) fr la) hp nx = .ok v hp' nx' := h
      obtain ⟨ob, e1, e2, g⟩ := opS2b_ok (P := P) (C := C) h
      exact Cls.news (s := fun a => convert s d (a.eval x)) (fun _ => rfl) e1 e2 fun m a hR => g m _ s d (hR x (by simp [Op.operands])) hs hd (isByte_ok hc.1) hc.2
    · exact bad_no h
  · rename_i e hs hd
    split at hA <;> subst hA
    · rename_i hc
      exact Cls.reads rfl (s := fun a => convert s d (a.eval x)) (fun _ => rfl) (f := fun hp nx => opB2s (evO (c x) fr la) hp nx) (fun _ _ => opB2s_wide) h fun h => by
        obtain ⟨e1, e2, g⟩ := opB2s_ok (P := P) (C := C) h
        exact ⟨e1, e2, fun base m a hR => g base m _ (hR x (by simp [Op.operands])) s d e hs (isByte_ok hc) hd⟩
    · exact bad_no h
  · subst hA; exact bad_no h
theorem cls_mkfn {fn : Fn} {first captured : Array Operand} (h : runOp (cOp P K c ⟨dst, .makeFunc fn first captured, type, pos, after, guard⟩) ih fr la hp nx = .ok v hp' nx') : Cls P C c fr la A hp nx hp' nx' v ⟨dst, .makeFunc fn first captured, type, pos, after, guard⟩ := by
  cases fn <;> simp only [cOp] at h <;> first | (exact bad_no h) | skip
  rename_i f
  split at h
  · rename_i hf
    have hf : first = #[] := by simpa using hf
    subst hf
    have h : opMkfn f (evL (captured.toList.map c) fr la) hp nx = .ok v hp' nx' := h
    obtain ⟨e1, e2, g⟩ := opMkfn_ok (C := C) h
    refine .pure (fun m a hR w => ⟨.func (.func f) #[] (captured.map a.eval), by simp [execOp, Instr.makeFunc], ?_⟩) e1 e2
    have := g m (captured.toList.map a.eval) (evL_ok fun y hy => hR y (by simp [Op.operands]; simpa using hy))
    rw [show captured.map a.eval = (captured.toList.map a.eval).toArray from by apply Array.ext'; simp]
    exact this
  · exact bad_no h
theorem cls_mkmap {t : TypeId} {r : Option Operand} (h : runOp (cOp P K c ⟨dst, .makeMap t r, type, pos, after, guard⟩) ih fr la hp nx = .ok v hp' nx') : Cls P C c fr la A hp nx hp' nx' v ⟨dst, .makeMap t r, type, pos, after, guard⟩ := by
  cases r with
  | some r => exact bad_no h
  | none =>
    have h : opMkmap hp nx = .ok v hp' nx' := h
    obtain ⟨ob, e1, e2, g⟩ := opMkmap_ok (P := P) (C := C) h
    exact Cls.news (s := fun _ => Instr.makeMap t none) (fun _ => rfl) e1 e2 fun m a _ => g m t
theorem cls_mkchan {t : TypeId} {x : Operand} (h : runOp (cOp P K c ⟨dst, .makeChan t x, type, pos, after, guard⟩) ih fr la hp nx = .ok v hp' nx') : Cls P C c fr la A hp nx hp' nx' v ⟨dst, .makeChan t x, type, pos, after, guard⟩ := by
  simp only [cOp] at h
  split at h
  · rename_i dir e hu
    split at h
    · rename_i i hi
      split at h
      · rename_i hb
        have h : opMkchan (evO (c x) fr la) hp nx = .ok v hp' nx' := h
        obtain ⟨ob, e1, e2, g⟩ := opMkchan_ok (P := P) (C := C) h
        exact Cls.news (s := fun a => Instr.makeChan t (a.eval x)) (fun _ => rfl) e1 e2 fun m a hR => g m _ t 0 e i dir (hR x (by simp [Op.operands])) hu hi hb
      · exact bad_no h
    · exact bad_no h
  · exact bad_no h
theorem cls_mkslice {t : TypeId} {x y : Operand} (h : runOp (cOp P K c ⟨dst, .makeSlice t x y, type, pos, after, guard⟩) ih fr la hp nx = .ok v hp' nx') : Cls P C c fr la A hp nx hp' nx' v ⟨dst, .makeSlice t x y, type, pos, after, guard⟩ := by
  simp only [cOp] at h
  split at h
  · rename_i e hu
    split at h
    · rename_i i z hi hz
      split at h
      · rename_i hc
        simp only [Bool.and_eq_true, beq_iff_eq, decide_eq_true_eq] at hc
        split at h
        · split at h
          · rename_i hb
            obtain ⟨b1, b2⟩ := byteZero_ok hb
            have h : opMkbytes e (evO (c x) fr la) (evO (c y) fr la) hp nx = .ok v hp' nx' := h
            obtain ⟨ob, e1, e2, g⟩ := opMkbytes_ok (P := P) (C := C) h
            exact Cls.news (s := fun a => Instr.makeSlice t (a.eval x) (a.eval y)) (fun _ => rfl) e1 e2 fun m a hR => g m _ _ t i (hR x (by simp [Op.operands])) (hR y (by simp [Op.operands])) hu hi hc.2 b2 b1
          · exact bad_no h
        · have h : opMkslice e z (evO (c x) fr la) (evO (c y) fr la) hp nx = .ok v hp' nx' := h
          obtain ⟨ob, e1, e2, g⟩ := opMkslice_ok (P := P) (C := C) h
          exact Cls.news (s := fun a => Instr.makeSlice t (a.eval x) (a.eval y)) (fun _ => rfl) e1 e2 fun m a hR => g m _ _ t i (hR x (by simp [Op.operands])) (hR y (by simp [Op.operands])) (zeroL_ok hz).1 hu hi hc.2 hc.1
      · exact bad_no h
    · exact bad_no h
  · exact bad_no h
theorem cls_slice {t : TypeId} {x : Operand} {lo hi mx : Option Operand} (h : runOp (cOp P K c ⟨dst, .slice t x lo hi mx, type, pos, after, guard⟩) ih fr la hp nx = .ok v hp' nx') : Cls P C c fr la A hp nx hp' nx' v ⟨dst, .slice t x lo hi mx, type, pos, after, guard⟩ := by
  simp only [cOp] at h
  have h1 : ∀ (m : Mp) (a : Act), OpsR C ⟨dst, .slice t x lo hi mx, type, pos, after, guard⟩ c fr la m a → OptR C m (evM (lo.map c) fr la) (lo.map a.eval) := fun m a hR => evM_ok fun y hy => hR y (by simp [Op.operands, hy])
  have h2 : ∀ (m : Mp) (a : Act), OpsR C ⟨dst, .slice t x lo hi mx, type, pos, after, guard⟩ c fr la m a → OptR C m (evM (hi.map c) fr la) (hi.map a.eval) := fun m a hR => evM_ok fun y hy => hR y (by simp [Op.operands, hy])
  have h3 : ∀ (m : Mp) (a : Act), OpsR C ⟨dst, .slice t x lo hi mx, type, pos, after, guard⟩ c fr la m a → OptR C m (evM (mx.map c) fr la) (mx.map a.eval) := fun m a hR => evM_ok fun y hy => hR y (by simp [Op.operands, hy])
  have h4 : ¬ (mx.isSome && hi.isNone) = true → ∀ (a : Act), (mx.map a.eval).isSome → (hi.map a.eval).isSome := fun hc a hm => by
    cases mx with
    | none => cases hm
    | some _ => cases hi with
      | none => exact absurd rfl hc
      | some _ => rfl
  split at h
  · rename_i hu
    split at h
    · exact bad_no h
    · rename_i hmx
      have hmx : mx = none := by cases mx with | none => rfl | some _ => exact absurd rfl hmx
      subst hmx
      have h : opSlstr (evO (c x) fr la) (evM (lo.map c) fr la) (evM (hi.map c) fr la) hp nx = .ok v hp' nx' := h
      obtain ⟨e1, e2, g⟩ := opSlstr_ok (P := P) (C := C) h
      exact Cls.gives (s := fun a => Instr.sliceAt t (a.eval x) (lo.map a.eval) (hi.map a.eval) none) (fun _ => rfl) e1 e2 fun m a hR => g m _ _ _ (hR x (by simp [Op.operands])) (h1 m a hR) (h2 m a hR) t hu
  · rename_i e hu
    split at h
    · rename_i n hn
      split at h
      · exact bad_no h
      · rename_i hc
        have h : opSlslc n (evO (c x) fr la) (evM (lo.map c) fr la) (evM (hi.map c) fr la) (evM (mx.map c) fr la) hp nx = .ok v hp' nx' := h
        obtain ⟨e1, e2, g⟩ := opSlslc_ok (P := P) (C := C) h
        exact Cls.gives (s := fun a => Instr.sliceAt t (a.eval x) (lo.map a.eval) (hi.map a.eval) (mx.map a.eval)) (fun _ => rfl) e1 e2 fun m a hR => g m _ _ _ _ (hR x (by simp [Op.operands])) (h1 m a hR) (h2 m a hR) (h3 m a hR) (h4 hc a) t e hu hn
    · exact bad_no h
  · rename_i k e hu
    split at h
    · rename_i n hn
      split at h
      · exact bad_no h
      · rename_i hc
        have h : opSlarr k n (evO (c x) fr la) (evM (lo.map c) fr la) (evM (hi.map c) fr la) (evM (mx.map c) fr la) hp nx = .ok v hp' nx' := h
        obtain ⟨e1, e2, g⟩ := opSlarr_ok (P := P) (C := C) h
        exact Cls.gives (s := fun a => Instr.sliceAt t (a.eval x) (lo.map a.eval) (hi.map a.eval) (mx.map a.eval)) (fun _ => rfl) e1 e2 fun m a hR => g m _ _ _ _ (hR x (by simp [Op.operands])) (h1 m a hR) (h2 m a hR) (h3 m a hR) (h4 hc a) t e hu hn
    · exact bad_no h
  · exact bad_no h
theorem cls_fad {t : TypeId} {x : Operand} {i : Nat} (h : runOp (cOp P K c ⟨dst, .fieldAddr t x i, type, pos, after, guard⟩) ih fr la hp nx = .ok v hp' nx') : Cls P C c fr la A hp nx hp' nx' v ⟨dst, .fieldAddr t x i, type, pos, after, guard⟩ := by
  simp only [cOp] at h
  split at h
  · rename_i fs hu
    split at h
    · rename_i f hf
      split at h
      · rename_i n hn
        have h : opFad f.offset (evO (c x) fr la) hp nx = .ok v hp' nx' := h
        obtain ⟨e1, e2, g⟩ := opFad_ok (P := P) (C := C) h
        exact Cls.gives (s := fun a => Instr.fieldAt t (a.eval x) i) (fun _ => rfl) e1 e2 fun m a hR => g m _ (hR x (by simp [Op.operands])) t i fs f _ hu hf rfl hn (by omega)
      · exact bad_no h
    · exact bad_no h
  · exact bad_no h
theorem cls_fld {t : TypeId} {x : Operand} {i : Nat} (h : runOp (cOp P K c ⟨dst, .field t x i, type, pos, after, guard⟩) ih fr la hp nx = .ok v hp' nx') : Cls P C c fr la A hp nx hp' nx' v ⟨dst, .field t x i, type, pos, after, guard⟩ := by
  simp only [cOp] at h
  split at h
  · rename_i fs hu
    split at h
    · rename_i f hf
      split at h
      · rename_i n b hn hb
        obtain ⟨d, hd, ha⟩ := aggO_ok hb
        have h : opFld f.offset n b (evO (c x) fr la) hp nx = .ok v hp' nx' := h
        obtain ⟨e1, e2, g⟩ := opFld_ok (P := P) (C := C) h
        exact Cls.gives (s := fun a => Instr.field t (a.eval x) i) (fun _ => rfl) e1 e2 fun m a hR => g m _ (hR x (by simp [Op.operands])) t i fs f d hu hf rfl hn hd ha
      · exact bad_no h
    · exact bad_no h
  · exact bad_no h
theorem cls_ixaddr {t : TypeId} {x i : Operand} (h : runOp (cOp P K c ⟨dst, .indexAddr t x i, type, pos, after, guard⟩) ih fr la hp nx = .ok v hp' nx') : Cls P C c fr la A hp nx hp' nx' v ⟨dst, .indexAddr t x i, type, pos, after, guard⟩ := by
  simp only [cOp] at h
  split at h
  · rename_i e hu
    split at h
    · rename_i n hn
      have h : opIxs n (evO (c x) fr la) (evO (c i) fr la) hp nx = .ok v hp' nx' := h
      obtain ⟨e1, e2, g⟩ := opIxs_ok (P := P) (C := C) h
      exact Cls.gives (s := fun a => Instr.indexAt t (a.eval x) (a.eval i)) (fun _ => rfl) e1 e2 fun m a hR => g m _ _ (hR x (by simp [Op.operands])) (hR i (by simp [Op.operands])) t e hu hn
    · exact bad_no h
  · rename_i k e hu
    split at h
    · rename_i n hn
      have h : opIxa k n (evO (c x) fr la) (evO (c i) fr la) hp nx = .ok v hp' nx' := h
      obtain ⟨e1, e2, g⟩ := opIxa_ok (P := P) (C := C) h
      exact Cls.gives (s := fun a => Instr.indexAt t (a.eval x) (a.eval i)) (fun _ => rfl) e1 e2 fun m a hR => g m _ _ (hR x (by simp [Op.operands])) (hR i (by simp [Op.operands])) t e hu hn
    · exact bad_no h
  · exact bad_no h
theorem cls_ix {t : TypeId} {x i : Operand} (h : runOp (cOp P K c ⟨dst, .index t x i, type, pos, after, guard⟩) ih fr la hp nx = .ok v hp' nx') : Cls P C c fr la A hp nx hp' nx' v ⟨dst, .index t x i, type, pos, after, guard⟩ := by
  simp only [cOp] at h
  split at h
  · rename_i hu
    have h : opIxstr (evO (c x) fr la) (evO (c i) fr la) hp nx = .ok v hp' nx' := h
    obtain ⟨e1, e2, g⟩ := opIxstr_ok (P := P) (C := C) h
    exact Cls.gives (s := fun a => Instr.index t (a.eval x) (a.eval i)) (fun _ => rfl) e1 e2 fun m a hR => g m _ _ (hR x (by simp [Op.operands])) (hR i (by simp [Op.operands])) t hu
  · exact bad_no h
theorem cls_look {t : TypeId} {x y : Operand} {ok : Bool} (hA : cOp P K c ⟨dst, .lookup t x y ok, type, pos, after, guard⟩ = A) (h : runOp A ih fr la hp nx = .ok v hp' nx') : Cls P C c fr la A hp nx hp' nx' v ⟨dst, .lookup t x y ok, type, pos, after, guard⟩ := by
  simp only [cOp] at hA
  split at hA
  · rename_i kt e hu
    split at hA
    · rename_i kk i hk hi
      split at hA
      · rename_i z hz
        split at hA <;> subst hA
        · rename_i hc
          exact Cls.reads rfl (s := fun a => Instr.lookup t (a.eval x) (a.eval y) ok) (fun _ => rfl) (f := fun hp nx => opLook kk ok (val1 z) (evO (c x) fr la) (evO (c y) fr la) hp nx) (fun _ _ => opLook_wide) h fun h => by
            obtain ⟨e1, e2, g⟩ := opLook_ok (P := P) (C := C) h
            exact ⟨e1, e2, fun base m a hR => g base m _ _ (hR x (by simp [Op.operands])) (hR y (by simp [Op.operands])) t kt e i z hu hk hi hz fun m => val1_ok hc⟩
        · exact bad_no h
      · subst hA; exact bad_no h
    · subst hA; exact bad_no h
  · subst hA; exact bad_no h
theorem cls_mset {t : TypeId} {x y z : Operand} (h : runOp (cOp P K c ⟨dst, .mapUpdate t x y z, type, pos, after, guard⟩) ih fr la hp nx = .ok v hp' nx') : Cls P C c fr la A hp nx hp' nx' v ⟨dst, .mapUpdate t x y z, type, pos, after, guard⟩ := by
  simp only [cOp] at h
  split at h
  · rename_i kt e hu
    split at h
    · rename_i kk hk
      have h : opMset kk (evO (c x) fr la) (evO (c y) fr la) (evO (c z) fr la) hp nx = .ok v hp' nx' := h
      obtain ⟨hv, rfl, g⟩ := opMset_ok (P := P) (C := C) h
      exact Cls.units (s := fun a => Instr.mapUpdate t (a.eval x) (a.eval y) (a.eval z)) (fun _ => rfl) rfl hv
        fun base m a w hR hs => g base m w _ _ _ hs (hR x (by simp [Op.operands])) (hR y (by simp [Op.operands])) (hR z (by simp [Op.operands])) t kt e hu hk
    · exact bad_no h
  · exact bad_no h
theorem cls_ext {x : Operand} {i : Nat} (h : runOp (cOp P K c ⟨dst, .extract x i, type, pos, after, guard⟩) ih fr la hp nx = .ok v hp' nx') : Cls P C c fr la A hp nx hp' nx' v ⟨dst, .extract x i, type, pos, after, guard⟩ := by
  have h : opExt i (evO (c x) fr la) hp nx = .ok v hp' nx' := h
  obtain ⟨e1, e2, g⟩ := opExt_ok (P := P) (C := C) h
  exact Cls.gives (s := fun a => Instr.extract (a.eval x) i) (fun _ => rfl) e1 e2 fun m a hR => g m _ (hR x (by simp [Op.operands]))
end
end Go.X
end

/-! Calls; all kinds of operations. -/
noncomputable section
namespace Go.X
section
variable {P : Program} {C : Ctx} {K : Known} {ih : CallF} {c : Operand → AOpd} {fr : Fr} {la : AV} {hp hp' : Hp} {nx nx' : Pid} {v : AV}
variable {A : AOp} {dst : Option Tmp} {type : TypeId} {pos : String} {after : Array Edge} {guard : Option (Nat × Bool)}

theorem exec_builtin {b : Builtin} {args : Array Operand} {ats : Array TypeId} (a : Act) : execOp a.eval ⟨dst, .call ⟨.builtin b, args, ats⟩, type, pos, after, guard⟩ =
    builtin b ats type (args.map fun | .const _ => true | _ => false) (args.map a.eval) := rfl
theorem exec_b1 {b : Builtin} {x : Operand} {ats : Array TypeId} (a : Act) : execOp a.eval ⟨dst, .call ⟨.builtin b, #[x], ats⟩, type, pos, after, guard⟩ =
    builtin b ats type (#[x].map fun | .const _ => true | _ => false) #[a.eval x] := by rw [exec_builtin, show #[x].map a.eval = #[a.eval x] from by simp]
theorem exec_b2 {b : Builtin} {x y : Operand} {ats : Array TypeId} (a : Act) : execOp a.eval ⟨dst, .call ⟨.builtin b, #[x, y], ats⟩, type, pos, after, guard⟩ =
    builtin b ats type (#[x, y].map fun | .const _ => true | _ => false) #[a.eval x, a.eval y] := by rw [exec_builtin, show #[x, y].map a.eval = #[a.eval x, a.eval y] from by simp]
theorem exec_fn {f : FuncId} {args : Array Operand} {ats : Array TypeId} (a : Act) : execOp a.eval ⟨dst, .call ⟨.value (.func f), args, ats⟩, type, pos, after, guard⟩ =
    callFunc f ((#[] ++ args.map a.eval) ++ #[]) := rfl
theorem exec_fnv {x : Operand} {f : FuncId} {vs : Array Value} {args : Array Operand} {ats : Array TypeId} {a : Act} (hx : a.eval x = .func (.func f) #[] vs) :
    execOp a.eval ⟨dst, .call ⟨.value x, args, ats⟩, type, pos, after, guard⟩ = callFunc f ((#[] ++ args.map a.eval) ++ vs) := by
  show (do let d ← Deferred.ofValue (a.eval x) (args.map a.eval); invoke d.target d.args : Sem Next) = _
  rw [hx]; rfl

theorem cls_enter {o : Oper} {f : FuncId} {args : List AV} {us : Act → List Value} (hl : loudO o.op = true) (he : Enters P f)
    (hx : ∀ m a, OpsR C o c fr la m a → execOp a.eval o = callFunc f (us a).toArray) (ha : ∀ m a, OpsR C o c fr la m a → ArgsR C m args (us a))
    (hc : ∀ base m w us, SR P C base m hp nx w → ArgsR C m args us → Calls P f us.toArray w (Ends P C base m hp nx w hp' nx' v)) : Cls P C c fr la A hp nx hp' nx' v o :=
  .loud hl fun base m a w hR hs next Q hn => by
    unfold Oper.wp
    rw [hx m a hR, he]
    refine Calls.mono (hc base m w _ hs (ha m a hR)) fun e w' h => ?_
    cases e with
    | returned u => obtain ⟨m', h1, h2⟩ := h; exact hn m' u w' h1 h2
    | panicked _ => exact h.elim
    | outgrown => exact h.elim

theorem ArgsR.append {m : Mp} : ∀ {l l' : List AV} {us us' : List Value}, ArgsR C m l us → ArgsR C m l' us' → ArgsR C m (l ++ l') (us ++ us')
  | [], _, [], _, _, g => g
  | _ :: _, _, _ :: _, _, h, g => ⟨h.1, ArgsR.append h.2 g⟩
  | [], _, _ :: _, _, h, _ => h.elim
  | _ :: _, _, [], _, h, _ => h.elim
theorem capAV_ok {m : Mp} : ∀ {l : List (Pid × Nat)} {vs : List Value}, CapsR m l vs → ArgsR C m (capAV l) vs
  | [], [], _ => trivial
  | (_, _) :: _, _ :: _, h => ⟨h.1, capAV_ok h.2⟩
  | [], _ :: _, h => h.elim
  | _ :: _, [], h => h.elim

theorem arr_map {α β : Type} (xs : Array α) (f : α → β) : xs.map f = (xs.toList.map f).toArray := by apply Array.ext'; simp
theorem list_one {α : Type} {l : List α} {y : α} (h : l = [y]) : l.toArray = #[y] := by rw [h]
theorem arr_one {α : Type} {xs : Array α} {y : α} (h : xs.toList = [y]) : xs = #[y] := by
  obtain ⟨l⟩ := xs
  have h : l = [y] := h
  rw [h]
theorem arr_two {α : Type} {xs : Array α} {y z : α} (h : xs.toList = [y, z]) : xs = #[y, z] := by
  obtain ⟨l⟩ := xs
  have h : l = [y, z] := h
  rw [h]
theorem ats_one {ats : Array TypeId} {d : Option TypeDesc} (h : ats.toList.map P.underlying = [d]) : ∃ t, ats = #[t] ∧ P.underlying t = d := by
  obtain ⟨l⟩ := ats
  cases l with
  | nil => cases h
  | cons t l =>
    cases l with
    | nil => exact ⟨t, rfl, by simpa using h⟩
    | cons _ _ => simp at h
theorem ats_two {ats : Array TypeId} {d d' : Option TypeDesc} (h : ats.toList.map P.underlying = [d, d']) : ∃ t u, ats = #[t, u] ∧ P.underlying t = d ∧ P.underlying u = d' := by
  obtain ⟨l⟩ := ats
  cases l with
  | nil => cases h
  | cons t l =>
    cases l with
    | nil => simp at h
    | cons u l =>
      cases l with
      | nil => exact ⟨t, u, rfl, by simpa using h⟩
      | cons _ _ => simp at h

theorem cls_builtin {b : Builtin} {args : Array Operand} {ats : Array TypeId} (hA : cOp P K c ⟨dst, .call ⟨.builtin b, args, ats⟩, type, pos, after, guard⟩ = A) (h : runOp A ih fr la hp nx = .ok v hp' nx') :
    Cls P C c fr la A hp nx hp' nx' v ⟨dst, .call ⟨.builtin b, args, ats⟩, type, pos, after, guard⟩ := by
  simp only [cOp] at hA
  split at hA
  · rename_i x e1 e2
    obtain rfl := arr_one e1
    obtain ⟨t, rfl, hu⟩ := ats_one e2
    subst hA
    have h : opLenStr (evO (c x) fr la) hp nx = .ok v hp' nx' := h
    obtain ⟨e1, e2, g⟩ := opLenStr_ok (P := P) (C := C) h
    exact Cls.gives (s := fun a => Builtin.len_ #[t] type #[a.eval x]) (fun a => (exec_b1 a).trans rfl) e1 e2 fun m a hR => g m _ (hR x (by simp [Op.operands, Call.operands])) t type hu
  · rename_i x e e1 e2
    obtain rfl := arr_one e1
    obtain ⟨t, rfl, hu⟩ := ats_one e2
    subst hA
    have h : opLenSlc (evO (c x) fr la) hp nx = .ok v hp' nx' := h
    obtain ⟨e1, e2, g⟩ := opLenSlc_ok (P := P) (C := C) h
    exact Cls.gives (s := fun a => Builtin.len_ #[t] type #[a.eval x]) (fun a => (exec_b1 a).trans rfl) e1 e2 fun m a hR => g m _ (hR x (by simp [Op.operands, Call.operands])) t type e hu
  · rename_i x kt e e1 e2
    obtain rfl := arr_one e1
    obtain ⟨t, rfl, hu⟩ := ats_one e2
    subst hA
    exact Cls.reads rfl (s := fun a => Builtin.len_ #[t] type #[a.eval x]) (fun a => (exec_b1 a).trans rfl) (f := fun hp nx => opLenMap (evO (c x) fr la) hp nx) (fun _ _ => opLenMap_wide) h fun h => by
      obtain ⟨e1, e2, g⟩ := opLenMap_ok (P := P) (C := C) h
      exact ⟨e1, e2, fun base m a hR => g base m _ (hR x (by simp [Op.operands, Call.operands])) t type kt e hu⟩
  · rename_i x dir e e1 e2
    obtain rfl := arr_one e1
    obtain ⟨t, rfl, hu⟩ := ats_one e2
    subst hA
    exact Cls.reads rfl (s := fun a => Builtin.len_ #[t] type #[a.eval x]) (fun a => (exec_b1 a).trans rfl) (f := fun hp nx => opLenChan (evO (c x) fr la) hp nx) (fun _ _ => opLenChan_wide) h fun h => by
      obtain ⟨e1, e2, g⟩ := opLenChan_ok (P := P) (C := C) h
      exact ⟨e1, e2, fun base m a hR => g base m _ (hR x (by simp [Op.operands, Call.operands])) t type dir e hu⟩
  · rename_i x e1
    obtain rfl := arr_one e1
    subst hA
    have h : opUsd (evO (c x) fr la) hp nx = .ok v hp' nx' := h
    obtain ⟨e1, e2, g⟩ := opUsd_ok (P := P) (C := C) h
    exact Cls.gives (s := fun a => Builtin.unsafeSliceData_ ats type #[a.eval x]) (fun a => (exec_b1 a).trans rfl) e1 e2 fun m a hR => g m _ (hR x (by simp [Op.operands, Call.operands])) ats type
  · rename_i x y e d e1 e2
    obtain rfl := arr_two e1
    obtain ⟨t, u, rfl, hu, -⟩ := ats_two e2
    split at hA
    · rename_i hb
      simp only [Bool.and_eq_true, beq_iff_eq] at hb
      subst hA
      have h : opUstr e (evO (c x) fr la) (evO (c y) fr la) hp nx = .ok v hp' nx' := h
      exact Cls.does (s := fun a => Builtin.unsafeString_ #[t, u] type #[a.eval x, a.eval y]) (fun a => (exec_b2 a).trans rfl) rfl fun base m a w hR hs =>
        opUstr_ok (P := P) (C := C) h base m w _ _ hs (hR x (by simp [Op.operands, Call.operands])) (hR y (by simp [Op.operands, Call.operands])) t u type hu hb.2
    · subst hA; exact bad_no h
  · rename_i x e e1 e2
    obtain rfl := arr_one e1
    obtain ⟨t, rfl, hu⟩ := ats_one e2
    subst hA
    have h : opCap (evO (c x) fr la) hp nx = .ok v hp' nx' := h
    obtain ⟨e1, e2, g⟩ := opCap_ok (P := P) (C := C) h
    exact Cls.gives (s := fun a => Builtin.cap_ #[t] type #[a.eval x]) (fun a => (exec_b1 a).trans rfl) e1 e2 fun m a hR => g m _ (hR x (by simp [Op.operands, Call.operands])) t type e hu
  · rename_i x y e d e1 e2
    obtain rfl := arr_two e1
    obtain ⟨t, u, rfl, hu, hu'⟩ := ats_two e2
    split at hA
    · rename_i n hn
      have H := appOK_ok hn hu hu'
      split at hA
      · split at hA
        · rename_i h1
          have h1 : n = 1 := by simpa using h1
          subst h1
          subst hA
          have h : opAppB e (evO (c x) fr la) (evO (c y) fr la) hp nx = .ok v hp' nx' := h
          exact Cls.does (s := fun a => Builtin.append_ #[t, u] type #[a.eval x, a.eval y]) (fun a => (exec_b2 a).trans rfl) rfl fun base m a w hR hs =>
            opAppB_ok (P := P) (C := C) h base m w _ _ hs (hR x (by simp [Op.operands, Call.operands])) (hR y (by simp [Op.operands, Call.operands])) t u type H
        · subst hA; exact bad_no h
      · subst hA
        have h : opApp e n (evO (c x) fr la) (evO (c y) fr la) hp nx = .ok v hp' nx' := h
        exact Cls.does (s := fun a => Builtin.append_ #[t, u] type #[a.eval x, a.eval y]) (fun a => (exec_b2 a).trans rfl) rfl fun base m a w hR hs =>
          opApp_ok (P := P) (C := C) h base m w _ _ hs (hR x (by simp [Op.operands, Call.operands])) (hR y (by simp [Op.operands, Call.operands])) t u type H
    · subst hA; exact bad_no h
  · rename_i x y kt e d e1 e2
    obtain rfl := arr_two e1
    obtain ⟨t, u, rfl, hu, -⟩ := ats_two e2
    split at hA
    · rename_i kk hk
      subst hA
      have h : opMdel kk (evO (c x) fr la) (evO (c y) fr la) hp nx = .ok v hp' nx' := h
      obtain ⟨rfl, rfl, g⟩ := opMdel_ok (P := P) (C := C) h
      exact Cls.does (s := fun a => Builtin.delete_ #[t, u] type #[a.eval x, a.eval y]) (fun a => (exec_b2 a).trans rfl) rfl fun base m a w hR hs => by
        obtain ⟨w', h1, h2⟩ := g base m w _ _ hs (hR x (by simp [Op.operands, Call.operands])) (hR y (by simp [Op.operands, Call.operands])) t u type kt e hu hk
        exact ⟨_, w', m, h1, trivial, h2⟩
    · subst hA; exact bad_no h
  · rename_i x e e1 e2
    obtain rfl := arr_one e1
    obtain ⟨t, rfl, hu⟩ := ats_one e2
    split at hA
    · rename_i z hz
      subst hA
      have h : opClear z (evO (c x) fr la) hp nx = .ok v hp' nx' := h
      obtain ⟨rfl, rfl, g⟩ := opClear_ok (P := P) (C := C) h
      exact Cls.does (s := fun a => Builtin.clear_ #[t] type #[a.eval x]) (fun a => (exec_b1 a).trans rfl) rfl fun base m a w hR hs => by
        obtain ⟨w', h1, h2⟩ := g base m w _ hs (hR x (by simp [Op.operands, Call.operands])) t type e hu (zeroL_ok hz).1
        exact ⟨_, w', m, h1, trivial, h2⟩
    · subst hA; exact bad_no h
  · subst hA
    have h : opMinmax true (evL (args.toList.map c) fr la) hp nx = .ok v hp' nx' := h
    obtain ⟨e1, e2, g⟩ := opMinmax_ok (P := P) (C := C) h
    refine Cls.gives (s := fun a => Builtin.max_ ats type (args.map a.eval)) (fun _ => rfl) e1 e2 fun m a hR => ?_
    rw [show args.map a.eval = (args.toList.map a.eval).toArray from by apply Array.ext'; simp]
    exact g m (args.toList.map a.eval) (evL_ok fun y hy => hR y (by simp [Op.operands, Call.operands]; simpa using hy)) ats type
  · subst hA
    have h : opMinmax false (evL (args.toList.map c) fr la) hp nx = .ok v hp' nx' := h
    obtain ⟨e1, e2, g⟩ := opMinmax_ok (P := P) (C := C) h
    refine Cls.gives (s := fun a => Builtin.min_ ats type (args.map a.eval)) (fun _ => rfl) e1 e2 fun m a hR => ?_
    rw [show args.map a.eval = (args.toList.map a.eval).toArray from by apply Array.ext'; simp]
    exact g m (args.toList.map a.eval) (evL_ok fun y hy => hR y (by simp [Op.operands, Call.operands]; simpa using hy)) ats type
  · subst hA; exact bad_no h

theorem cls_call {cl : Call} (hih : CallOK P C ih) (hK : KnownOK P C K) (hA : cOp P K c ⟨dst, .call cl, type, pos, after, guard⟩ = A) (h : runOp A ih fr la hp nx = .ok v hp' nx') :
    Cls P C c fr la A hp nx hp' nx' v ⟨dst, .call cl, type, pos, after, guard⟩ := by
  obtain ⟨callee, args, ats⟩ := cl
  have hargs : ∀ (m : Mp) (a : Act), OpsR C ⟨dst, .call ⟨callee, args, ats⟩, type, pos, after, guard⟩ c fr la m a → ArgsR C m (evL (args.toList.map c) fr la) (args.toList.map a.eval) := fun m a hR =>
    evL_ok fun y hy => hR y (by simp only [Op.operands, Call.operands]; exact Array.mem_append.2 (.inr (Array.mem_toList_iff.1 hy)))
  have val : ∀ x, callee = .value x → callvK (evO (c x) fr la) (evL (args.toList.map c) fr la) ih hp nx = .ok v hp' nx' →
      Cls P C c fr la A hp nx hp' nx' v ⟨dst, .call ⟨callee, args, ats⟩, type, pos, after, guard⟩ := fun x hx h => by
    subst hx
    unfold callvK at h
    obtain ⟨y, hy, h3⟩ := asS_ok h
    obtain ⟨f, caps, rfl, h4⟩ := svFn_ok h3
    rw [appK_eq] at h4
    obtain ⟨h1, h2⟩ := hih _ _ _ _ _ _ _ h4
    refine .loud rfl fun base m a w hR hs next Q hn => ?_
    have hv := hR x (by simp [Op.operands, Call.operands])
    rw [hy] at hv
    obtain ⟨vs, hv, hc⟩ := hv
    unfold Oper.wp
    rw [exec_fnv hv, h1]
    rw [show (#[] ++ args.map a.eval) ++ vs.toArray = (args.toList.map a.eval ++ vs).toArray from by apply Array.ext'; simp]
    refine Calls.mono (h2 base m w _ hs ((hargs m a hR).append (capAV_ok (C := C) hc))) fun e w' h => ?_
    cases e with
    | returned u => obtain ⟨m', h1, h2⟩ := h; exact hn m' u w' h1 h2
    | panicked _ => exact h.elim
    | outgrown => exact h.elim
  cases callee with
  | builtin b => exact cls_builtin hA h
  | invoke r mth => subst hA; exact bad_no h
  | value x =>
    cases x with
    | func f =>
      simp only [cOp] at hA
      split at hA <;> subst hA
      · rename_i i hi
        have h : runIn i (evL (args.toList.map c) fr la) hp nx = .ok v hp' nx' := h
        obtain ⟨h1, h2⟩ := hK f i hi _ _ _ _ _ _ h
        exact cls_enter (us := fun a => args.toList.map a.eval) rfl h1 (fun m a _ => by rw [exec_fn, ← arr_map]; simp) hargs h2
      · have h : ih f (evL (args.toList.map c) fr la) hp nx = .ok v hp' nx' := h
        obtain ⟨h1, h2⟩ := hih _ _ _ _ _ _ _ h
        exact cls_enter (us := fun a => args.toList.map a.eval) rfl h1 (fun m a _ => by rw [exec_fn, ← arr_map]; simp) hargs h2
    | tmp t => subst hA; exact val _ rfl h
    | const u => subst hA; exact val _ rfl h
    | global g => subst hA; exact val _ rfl h

/-- whatever the executor does for an operation, the model's does. -/
theorem class_ok {o : Oper} (hih : CallOK P C ih) (hK : KnownOK P C K) (h : runOp (cOp P K c o) ih fr la hp nx = .ok v hp' nx') : Cls P C c fr la (cOp P K c o) hp nx hp' nx' v o := by
  obtain ⟨dst, op, type, pos, after, guard⟩ := o
  cases op with
  | move x => exact cls_move h
  | assign x => exact cls_assign h
  | pick a b d => exact cls_pick h
  | alloc t => exact cls_alloc h
  | box t x => exact cls_box h
  | build t ps => exact cls_build h
  | buildSlice t n ps => exact cls_bslice h
  | load t x => exact cls_load rfl h
  | store t x y => exact cls_store h
  | nilCheck x => exact cls_nilck h
  | binOp op t x y yt => exact cls_bin rfl h
  | unOp op t x => exact cls_un h
  | convert s d x => exact cls_convert rfl h
  | makeFunc f a b => exact cls_mkfn h
  | makeMap t r => exact cls_mkmap h
  | makeChan t x => exact cls_mkchan h
  | makeSlice t x y => exact cls_mkslice h
  | slice t x lo hi mx => exact cls_slice h
  | fieldAddr t x i => exact cls_fad h
  | field t x i => exact cls_fld h
  | indexAddr t x i => exact cls_ixaddr h
  | index t x i => exact cls_ix h
  | lookup t x y ok => exact cls_look rfl h
  | mapUpdate t x y z => exact cls_mset h
  | extract x i => exact cls_ext h
  | call cl => exact cls_call hih hK rfl h
  | _ => exact bad_no h
end
end Go.X
end

/-! Frames; operations one behind the other. -/
noncomputable section
namespace Go.X

/-- calls that wait for the function's end, and what the executor has of them, in the last slot. -/
structure DT where
  ds : List Deferred
  tp : AV
theorem top_of : topS = Slot.of 511 := rfl
/-- an executor's frame, and the model's. -/
structure FR (C : Ctx) (D n : Nat) (T : DT) (m : Mp) (fr : Fr) (a : Act) : Prop where
  rel : ∀ t, t < n → AVR C m (get3 (Slot.of t) fr) (a.eval (.tmp t))
  drop : ∀ t, t < n → Nat.testBit D t = true → get3 (Slot.of t) fr = .s .un
  size : n ≤ a.tmps.size
  defers : a.defers = T.ds
  top : get3 topS fr = T.tp

section
variable {P : Program} {C : Ctx} {D n : Nat} {T : DT} {m m' : Mp} {fr : Fr} {a : Act} {hp hp' : Hp} {nx nx' : Pid} {v : AV}

theorem FR.ext (h : FR C D n T m fr a) (e : Ext m m') : FR C D n T m' fr a := ⟨fun t ht => (h.rel t ht).ext e, h.drop, h.size, h.defers, h.top⟩

theorem eval_put_same {d : Nat} {u : Value} (h : d < a.tmps.size) : (a.put (some d) u).eval (.tmp d) = u := by
  simp [Act.eval, Act.put, h]
theorem eval_put_ne {d t : Nat} {u : Value} (h : t ≠ d) : (a.put (some d) u).eval (.tmp t) = a.eval (.tmp t) := by
  simp [Act.eval, Act.put, Array.getElem?_setIfInBounds_ne (Ne.symm h)]
theorem put_size {x : Option Nat} {u : Value} : (a.put x u).tmps.size = a.tmps.size := by cases x <;> simp [Act.put]
theorem put_defers' {x : Option Nat} {u : Value} : (a.put x u).defers = a.defers := by cases x <;> rfl

/-- what is put in a frame. -/
def putF (d : Option Slot) (v : AV) (fr : Fr) : Fr :=
  match d with
  | none => fr
  | some s => put3 s v fr
theorem putD_eq (d : Option Slot) (v : AV) (fr : Fr) (k : Fr → Cr) : putD d v fr k = k (putF d v fr) := by
  cases d with
  | none => rfl
  | some s => exact setFr_eq s v fr k

/-- a temporary's value is another one. -/
theorem FR.put (h : FR C D n T m fr a) (hn : n ≤ 511) {x : Option Nat} (hx : ∀ d, x = some d → d < n) {o : Oper} (ho : o.dst = x) {u : Value} (hv : AVR C m v u) : FR C D n T m (putF (dstOf D o) v fr) (a.put x u) := by
  cases x with
  | none =>
    have : dstOf D o = none := by unfold dstOf; rw [ho]
    rw [this]; exact h
  | some d =>
    have hd := hx d rfl
    have hds : d < a.tmps.size := Nat.lt_of_lt_of_le hd h.size
    cases hb : Nat.testBit D d with
    | true =>
      have : dstOf D o = none := by unfold dstOf; rw [ho]; simp [hb]
      rw [this]
      refine ⟨fun t ht => ?_, h.drop, by rw [put_size]; exact h.size, by rw [put_defers']; exact h.defers, h.top⟩
      by_cases e : t = d
      · subst e; show AVR C m (get3 (Slot.of t) fr) _; rw [h.drop t ht hb]; trivial
      · rw [eval_put_ne e]; exact h.rel t ht
    | false =>
      have : dstOf D o = some (Slot.of d) := by unfold dstOf; rw [ho]; simp [hb]
      rw [this]
      refine ⟨fun t ht => ?_, fun t ht hb' => ?_, by rw [put_size]; exact h.size, by rw [put_defers']; exact h.defers, by show get3 topS (put3 (Slot.of d) v fr) = _; rw [top_of, get3_put3, if_neg (fun q => by have := Slot.of_inj (by omega) (by omega) q; omega), ← top_of]; exact h.top⟩
      · show AVR C m (get3 (Slot.of t) (put3 (Slot.of d) v fr)) _
        rw [get3_put3]
        by_cases e : t = d
        · subst e; rw [if_pos rfl, eval_put_same hds]; exact hv
        · rw [if_neg (fun q => e (Slot.of_inj (by omega) (by omega) q)), eval_put_ne e]; exact h.rel t ht
      · show get3 (Slot.of t) (put3 (Slot.of d) v fr) = _
        have e : t ≠ d := fun e => by subst e; rw [hb] at hb'; cases hb'
        rw [get3_put3, if_neg (fun q => e (Slot.of_inj (by omega) (by omega) q))]
        exact h.drop t ht hb'

/-- what was moved: an entry of a substitution. -/
def OkS (n : Nat) (a : Act) (p : Nat × Operand) : Prop := (∃ v, p.2 = .const v ∧ a.eval (.tmp p.1) = v) ∨ (∃ y, p.2 = .tmp y ∧ y < n ∧ a.eval (.tmp p.1) = a.eval (.tmp y))
theorem substOf_mem {σ : Subst} {t : Nat} {x : Operand} (h : substOf σ t = some x) : (t, x) ∈ σ := by
  induction σ with
  | nil => cases h
  | cons p σ ih =>
    obtain ⟨u, y⟩ := p
    unfold substOf at h
    split at h
    · rename_i e
      have e : u = t := by simpa using e
      injection h with h
      subst e; subst h; simp
    · exact List.mem_cons_of_mem _ (ih h)

/-- in a line of operations. -/
structure LR (C : Ctx) (D n : Nat) (T : DT) (σ : Subst) (pr : Option Nat) (m : Mp) (fr : Fr) (la : AV) (a : Act) : Prop where
  fr : FR C D n T m fr a
  sub : ∀ p ∈ σ, OkS n a p
  last : ∀ t, pr = some t → AVR C m la (a.eval (.tmp t))

theorem LR.op {σ : Subst} {pr : Option Nat} {la : AV} (h : LR C D n T σ pr m fr la a) {x : Operand} (hx : fitX n x = true) : AVR C m (evO (cO σ pr x) fr la) (a.eval x) := by
  cases x with
  | const v => exact valA_ok v
  | global g => trivial
  | func f => exact ⟨[], rfl, trivial⟩
  | tmp t =>
    have ht : t < n := by simpa [fitX] using hx
    have at_ : ∀ y, y < n → AVR C m (evO (if pr == some y then AOpd.la else .t (Slot.of y)) fr la) (a.eval (.tmp y)) := fun y hy => by
      by_cases e : pr = some y
      · rw [if_pos (by simp [e])]; exact h.last y e
      · rw [if_neg (by simpa using e)]
        show AVR C m (getFr (Slot.of y) fr) _
        rw [getFr_eq]; exact h.fr.rel y hy
    show AVR C m (evO (match substOf σ t with
      | some (.tmp y) => if pr == some y then AOpd.la else .t (Slot.of y)
      | some y => plainO y
      | none => if pr == some t then .la else .t (Slot.of t)) fr la) _
    cases hs : substOf σ t with
    | none => exact at_ t ht
    | some x =>
      rcases h.sub _ (substOf_mem hs) with ⟨v, e1, e2⟩ | ⟨y, e1, e2, e3⟩
      · have e1 : x = .const v := e1
        subst e1
        rw [e2]; exact valA_ok v
      · have e1 : x = .tmp y := e1
        subst e1
        rw [e3]; exact at_ y e2

theorem OkS.put {σ : Subst} {x : Option Nat} {u : Value} (h : ∀ p ∈ σ, OkS n a p) : ∀ p ∈ strike x σ, OkS n (a.put x u) p := by
  cases x with
  | none => exact h
  | some d =>
    intro p hp
    have hp : p ∈ σ.filter fun (u, x) => u != d && (match x with | .tmp t => t != d | _ => true) := hp
    obtain ⟨h1, h2⟩ := List.mem_filter.1 hp
    obtain ⟨k, x⟩ := p
    simp only [Bool.and_eq_true, bne_iff_ne, ne_eq] at h2
    rcases h _ h1 with ⟨v, e1, e2⟩ | ⟨y, e1, e2, e3⟩
    · exact .inl ⟨v, e1, by rw [eval_put_ne h2.1]; exact e2⟩
    · have e1 : x = .tmp y := e1
      subst e1
      have hy : y ≠ d := by simpa using h2.2
      exact .inr ⟨y, rfl, e2, by rw [eval_put_ne h2.1, eval_put_ne hy]; exact e3⟩

theorem LR.ext {σ : Subst} {pr : Option Nat} {la : AV} (h : LR C D n T σ pr m fr la a) (e : Ext m m') : LR C D n T σ pr m' fr la a := ⟨h.fr.ext e, h.sub, fun t ht => (h.last t ht).ext e⟩
theorem LR.put {σ : Subst} {pr : Option Nat} {la : AV} (h : LR C D n T σ pr m fr la a) (hn : n ≤ 511) {o : Oper} (hx : ∀ d, o.dst = some d → d < n) {u : Value} (hv : AVR C m v u) :
    LR C D n T (strike o.dst σ) o.dst m (putF (dstOf D o) v fr) v (a.put o.dst u) :=
  ⟨h.fr.put hn hx rfl hv, OkS.put h.sub, fun t ht => by rw [ht, eval_put_same (Nat.lt_of_lt_of_le (hx t ht) h.fr.size)]; exact hv⟩

/-! ## Steps -/
section
variable {ih : CallF} {fr' : Fr} {la : AV} {e : Ex} {k : StK}
theorem stSt_ok {o : AOp} {d : Option Slot} (h : stSt o d ih fr la hp nx k = .ok e fr' hp' nx') : ∃ v hp1 nx1, runOp o ih fr la hp nx = .ok v hp1 nx1 ∧ k (putF d v fr) v hp1 nx1 = .ok e fr' hp' nx' := by
  unfold stSt at h
  cases hr : runOp o ih fr la hp nx with
  | bad => rw [hr] at h; cases h
  | ok v hp1 nx1 =>
    rw [hr] at h
    have h : putD d v fr (fun fr => k fr v hp1 nx1) = .ok e fr' hp' nx' := h
    rw [putD_eq] at h
    exact ⟨v, hp1, nx1, rfl, h⟩
theorem skipD_ok {d : Option Slot} (h : skipD d fr hp nx k = .ok e fr' hp' nx') : k (putF d undefA fr) undefA hp nx = .ok e fr' hp' nx' := by
  unfold skipD at h; rwa [putD_eq] at h
theorem undefA_ok : AVR C m undefA undef := ⟨[], rfl, trivial⟩
theorem gK_ok {v : AV} {f : Bool → Cr} {u : Cr} (h : gK v f u .bad = .ok e fr' hp' nx') : (∃ b, v = .s (.bool b) ∧ f b = .ok e fr' hp' nx') ∨ (v = .t [] ∧ u = .ok e fr' hp' nx') := by
  cases v with
  | s x => cases x <;> first | exact .inl ⟨_, rfl, h⟩ | cases h
  | a l => cases h
  | t l => cases l with
    | nil => exact .inr ⟨rfl, h⟩
    | cons _ _ => cases h
/-- what a guard says. -/
theorem guard_says {ops : Array Oper} {j d : Nat} {a : Act} (hd : (ops[j]?).bind (·.dst) = some d) (hs : d < a.tmps.size) {v : AV} (hv : AVR C m v (a.eval (.tmp d))) :
    (∀ b, v = .s (.bool b) → yielded ops a.tmps j = some b) ∧ (v = .t [] → yielded ops a.tmps j = none) := by
  have e : a.eval (.tmp d) = a.tmps[d] := by simp [Act.eval, hs]
  rw [e] at hv
  unfold yielded
  rw [hd]
  simp only [Option.bind_some, Array.getElem?_eq_getElem hs]
  refine ⟨fun b hb => ?_, fun hb => ?_⟩
  · subst hb
    have hv : a.tmps[d] = .bool b := hv
    rw [hv]
  · subst hb
    obtain ⟨vs, hv, ht⟩ := hv
    rw [hv]
end

theorem fitO_dst {o : Oper} (h : fitO n o = true) (d : Nat) (hd : o.dst = some d) : d < n := by
  unfold fitO at h
  rw [hd] at h
  simp only [Bool.and_eq_true] at h
  simpa using h.1
theorem fitO_op {o : Oper} (h : fitO n o = true) (x : Operand) (hx : x ∈ o.op.operands) : fitX n x = true := by
  unfold fitO at h
  simp only [Bool.and_eq_true, List.all_eq_true] at h
  exact h.2 x (Array.mem_toList_iff.2 hx)
theorem gSlot_ok {ops : Array Oper} {j : Nat} {s : Slot} (hf : ∀ o ∈ ops.toList, fitO n o = true) (h : gSlot ops j = some s) : ∃ d, (ops[j]?).bind (·.dst) = some d ∧ s = Slot.of d ∧ d < n := by
  unfold gSlot at h
  cases hd : (ops[j]?).bind (·.dst) with
  | none => rw [hd] at h; cases h
  | some d =>
    rw [hd] at h
    injection h with h
    refine ⟨d, rfl, h.symm, ?_⟩
    cases ho : ops[j]? with
    | none => rw [ho] at hd; cases hd
    | some o => rw [ho] at hd; exact fitO_dst (hf o (by simpa using Array.mem_of_getElem? ho)) d hd
end

/-! ## A line -/
section
variable {P : Program} {C : Ctx} {K : Known} {ih : CallF} {D n base : Nat} {T : DT} {ops : Array Oper}

theorem wanted_none {o : Oper} {y : Nat → Option Bool} (h : o.guard = none) : Region.wanted o y = true := by unfold Region.wanted; rw [h]
theorem wanted_some {o : Oper} {y : Nat → Option Bool} {j : Nat} {b : Bool} (h : o.guard = some (j, b)) : Region.wanted o y = (y j == some b) := by unfold Region.wanted; rw [h]

theorem wpOps_some {Q : Exit → Act → World → Prop} {i : Nat} {l : List Nat} {o : Oper} (ho : ops[i]? = some o) {a : Act} {w : World} (hw : Region.wanted o (yielded ops a.tmps) = true)
    (h : o.wp P a w (wpOps P ops Q l) Q) : wpOps P ops Q (i :: l) a w := by
  simp only [wpOps, ho, hw, if_true]; exact .inl h
theorem wpOps_skip {Q : Exit → Act → World → Prop} {i : Nat} {l : List Nat} {o : Oper} (ho : ops[i]? = some o) {a : Act} {w : World} (hw : Region.wanted o (yielded ops a.tmps) = false)
    (h : wpOps P ops Q l (a.put o.dst undef) w) : wpOps P ops Q (i :: l) a w := by
  simp only [wpOps, ho, hw, Bool.false_eq_true, if_false]; exact h

theorem line_ok (hih : CallOK P C ih) (hK : KnownOK P C K) (hn : n ≤ 511) (hf : ∀ o ∈ ops.toList, fitO n o = true) {Q : Exit → Act → World → Prop} {e : Ex} {fr' : Fr} {hp' : Hp} {nx' : Pid} {r2 : List Nat} :
    ∀ (l : List Oper) (i : Nat) (σ : Subst) (pr : Option Nat) (fr : Fr) (la : AV) (hp : Hp) (nx : Pid) (m : Mp) (a : Act) (w : World), (∃ l2, ops.toList.drop i = l ++ l2) → LR C D n T σ pr m fr la a → SR P C base m hp nx w →
      runSteps ih (cLine P K D ops σ pr l) fr la hp nx = .ok e fr' hp' nx' →
      (∀ m' a' w', e = .norm → FR C D n T m' fr' a' → Good P C base m hp nx w m' hp' nx' w' → wpOps P ops Q r2 a' w') → wpOps P ops Q (List.range' i l.length ++ r2) a w := by
  intro l
  induction l with
  | nil =>
    intro i σ pr fr la hp nx m a w _ hL hs h hq
    have h : Cr.ok .norm fr hp nx = .ok e fr' hp' nx' := h
    injection h with h1 h2 h3 h4
    subst h1; subst h2; subst h3; subst h4
    exact hq m a w rfl hL.fr (.refl hs)
  | cons o l ihl =>
    intro i σ pr fr la hp nx m a w hd hL hs h hq
    have ho : ops[i]? = some o := by
      obtain ⟨l2, hd⟩ := hd
      have := congrArg (·[0]?) hd
      simpa using this
    have hd' : ∃ l2, ops.toList.drop (i + 1) = l ++ l2 := by
      obtain ⟨l2, hd⟩ := hd
      have := congrArg (List.drop 1) hd
      exact ⟨l2, by simpa using this⟩
    have hfo : fitO n o = true := hf o (by simpa using Array.mem_of_getElem? ho)
    have hdst := fitO_dst hfo
    have hops : OpsR C o (cO σ pr) fr la m a := fun x hx => hL.op (fitO_op hfo x hx)
    rw [List.length_cons, List.range'_succ, List.cons_append]
    -- an operation that is done
    have run : ∀ {k : StK}, (∀ fr la hp nx, k fr la hp nx = runSteps ih (cLine P K D ops (strike o.dst σ) o.dst l) fr la hp nx) → Region.wanted o (yielded ops a.tmps) = true →
        stSt (cOp P K (cO σ pr) o) (dstOf D o) ih fr la hp nx k = .ok e fr' hp' nx' → wpOps P ops Q (i :: (List.range' (i + 1) l.length ++ r2)) a w := fun {k} hk hw h => by
      obtain ⟨v, hp1, nx1, h1, h2⟩ := stSt_ok h
      rw [hk] at h2
      refine wpOps_some ho hw ((class_ok hih hK h1).louds base m a w hops hs _ _ fun m' u w' hv hg => ?_)
      exact ihl (i + 1) _ _ _ _ _ _ m' _ w' hd' ((hL.ext hg.ext).put hn hdst hv) hg.sr h2 fun m2 a2 w2 he hF hG => hq m2 a2 w2 he hF (hg.trans hG)
    have skip : ∀ {k : StK}, (∀ fr la hp nx, k fr la hp nx = runSteps ih (cLine P K D ops (strike o.dst σ) o.dst l) fr la hp nx) → Region.wanted o (yielded ops a.tmps) = false →
        skipD (dstOf D o) fr hp nx k = .ok e fr' hp' nx' → wpOps P ops Q (i :: (List.range' (i + 1) l.length ++ r2)) a w := fun {k} hk hw h => by
      have h2 := skipD_ok h
      rw [hk] at h2
      exact wpOps_skip ho hw (ihl (i + 1) _ _ _ _ _ _ m _ w hd' (hL.put hn hdst undefA_ok) hs h2 hq)
    -- a move that is kept in mind
    have moved : ∀ (d : Nat) (x x' : Operand), o.dst = some d → o.guard = none → o.op = .move x → Nat.testBit D d = true →
        (∀ u, u = a.eval x → OkS n (a.put (some d) u) (d, x')) → runSteps ih (cLine P K D ops ((d, x') :: strike (some d) σ) (if pr == some d then none else pr) l) fr la hp nx = .ok e fr' hp' nx' →
        wpOps P ops Q (i :: (List.range' (i + 1) l.length ++ r2)) a w := fun d x x' hd1 hg hop hb hx h => by
      refine wpOps_some ho (wanted_none hg) ?_
      unfold Oper.wp execOp
      rw [hop]
      show wpOps P ops Q (List.range' (i + 1) l.length ++ r2) (a.put o.dst (a.eval x)) w
      have hF := hL.fr.put hn hdst rfl (v := .s .un) (u := a.eval x) trivial
      rw [show dstOf D o = none from by unfold dstOf; rw [hd1]; simp [hb]] at hF
      rw [hd1] at hF ⊢
      refine ihl (i + 1) _ _ _ _ _ _ m _ w hd' ⟨hF, fun p hp => ?_, fun t ht => ?_⟩ hs h hq
      · rcases List.mem_cons.1 hp with rfl | hp
        · exact hx _ rfl
        · exact OkS.put hL.sub p hp
      · split at ht
        · cases ht
        · rename_i hne
          have hne : t ≠ d := fun q => hne (by rw [ht, q]; simp)
          rw [eval_put_ne hne]; exact hL.last t ht
    unfold cLine at h
    split at h
    · rename_i hg
      split at h
      · rename_i t d hop hd1
        split at h
        · rename_i hb
          have hdn := hdst d hd1
          have hds : d < a.tmps.size := Nat.lt_of_lt_of_le hdn hL.fr.size
          refine moved d _ _ hd1 hg hop hb (fun u hu => ?_) h
          have ht : t < n := by
            have := fitO_op hfo (.tmp t) (by rw [hop]; simp [Op.operands])
            simpa [fitX] using this
          cases hs : substOf σ t with
          | none =>
            refine .inr ⟨t, rfl, ht, ?_⟩
            show (a.put (some d) u).eval (.tmp d) = (a.put (some d) u).eval (.tmp t)
            by_cases q : t = d
            · rw [q]
            · rw [eval_put_same hds, eval_put_ne q, hu]
          | some x =>
            rcases hL.sub _ (substOf_mem hs) with ⟨v, e1, e2⟩ | ⟨y, e1, e2, e3⟩
            · exact .inl ⟨v, e1, by show (a.put (some d) u).eval (.tmp d) = v; rw [eval_put_same hds, hu]; exact e2⟩
            · refine .inr ⟨y, e1, e2, ?_⟩
              show (a.put (some d) u).eval (.tmp d) = (a.put (some d) u).eval (.tmp y)
              by_cases q : y = d
              · rw [q]
              · rw [eval_put_same hds, eval_put_ne q, hu]; exact e3
        · exact run (fun _ _ _ _ => rfl) (wanted_none hg) h
      · rename_i cv d hop hd1
        split at h
        · rename_i hb
          have hds : d < a.tmps.size := Nat.lt_of_lt_of_le (hdst d hd1) hL.fr.size
          exact moved d _ _ hd1 hg hop hb (fun u hu => .inl ⟨cv, rfl, by show (a.put (some d) u).eval (.tmp d) = cv; rw [eval_put_same hds, hu]; rfl⟩) h
        · exact run (fun _ _ _ _ => rfl) (wanted_none hg) h
      · exact run (fun _ _ _ _ => rfl) (wanted_none hg) h
    · rename_i j b hg
      split at h
      · rename_i s hs'
        obtain ⟨d, hd1, rfl, hdn⟩ := gSlot_ok hf hs'
        have hds : d < a.tmps.size := Nat.lt_of_lt_of_le hdn hL.fr.size
        have h : stGd (Slot.of d) b (cOp P K (cO σ pr) o) (dstOf D o) ih fr la hp nx (runSteps ih (cLine P K D ops (strike o.dst σ) o.dst l)) = .ok e fr' hp' nx' := h
        unfold stGd at h
        have hv := hL.fr.rel d hdn
        rw [getFr_eq] at h
        obtain ⟨g1, g2⟩ := guard_says hd1 hds hv
        rcases gK_ok h with ⟨b', hb, h⟩ | ⟨hb, h⟩
        · have hy := g1 b' hb
          cases hbb : sameB b b' with
          | true =>
            rw [hbb] at h
            rw [sameB_eq] at hbb
            exact run (fun _ _ _ _ => rfl) (by rw [wanted_some hg, hy]; simp at hbb; simp [hbb]) h
          | false =>
            rw [hbb] at h
            rw [sameB_eq] at hbb
            exact skip (fun _ _ _ _ => rfl) (by rw [wanted_some hg, hy]; simp at hbb; simp [Ne.symm hbb]) h
        · have hy := g2 hb
          exact skip (fun _ _ _ _ => rfl) (by rw [wanted_some hg, hy]; rfl) h
      · have h : stSt .bad none ih fr la hp nx (runSteps ih []) = .ok e fr' hp' nx' := h
        obtain ⟨v, hp1, nx1, h1, -⟩ := stSt_ok h
        exact bad_no h1
end
end Go.X
end

/-! Regions whose order is open: what is known of the order. -/
noncomputable section
namespace Go.X

/-! ## What must be ahead -/
def befIn (acc : Array Nat) (o : Oper) : Nat := o.after.foldl (fun s e => if Region.binds .any e then s ||| 2 ^ e.on ||| acc.getD e.on 0 else s) 0
theorem befIn_bit (acc : Array Nat) (o : Oper) (j : Nat) : Nat.testBit (befIn acc o) j = true ↔ ∃ e ∈ o.after.toList, Region.binds .any e = true ∧ (e.on = j ∨ Nat.testBit (acc.getD e.on 0) j = true) := by
  unfold befIn
  rw [← Array.foldl_toList]
  have key : ∀ (l : List Edge) (s : Nat), Nat.testBit (l.foldl (fun s e => if Region.binds .any e then s ||| 2 ^ e.on ||| acc.getD e.on 0 else s) s) j = true ↔
      Nat.testBit s j = true ∨ ∃ e ∈ l, Region.binds .any e = true ∧ (e.on = j ∨ Nat.testBit (acc.getD e.on 0) j = true) := by
    intro l
    induction l with
    | nil => intro s; simp
    | cons e l ih =>
      intro s
      rw [List.foldl_cons, ih]
      cases hb : Region.binds .any e with
      | false => simp [hb]
      | true =>
        simp only [if_true, Nat.testBit_or, Nat.testBit_two_pow, Bool.or_eq_true, decide_eq_true_eq, List.mem_cons, exists_eq_or_imp, hb, true_and, or_assoc]
  rw [key]; simp

structure BefOK (l : List Oper) (acc : Array Nat) : Prop where
  sz : acc.size = l.length
  bit : ∀ i o, l[i]? = some o → ∀ j, Nat.testBit (acc.getD i 0) j = true ↔ ∃ e ∈ o.after.toList, Region.binds .any e = true ∧ (e.on = j ∨ (e.on < i ∧ Nat.testBit (acc.getD e.on 0) j = true))
theorem BefOK.push {l : List Oper} {acc : Array Nat} (h : BefOK l acc) (o : Oper) : BefOK (l ++ [o]) (acc.push (befIn acc o)) := by
  have old : ∀ k, k < l.length → (acc.push (befIn acc o)).getD k 0 = acc.getD k 0 := fun k hk => by
    have : k < acc.size := by rw [h.sz]; exact hk
    simp [Array.getElem?_push_lt this, this]
  refine ⟨by simp [h.sz], fun i q hq j => ?_⟩
  by_cases hi : i < l.length
  · rw [List.getElem?_append_left hi] at hq
    rw [old i hi, h.bit i q hq]
    constructor
    · rintro ⟨e, h1, h2, h3 | ⟨h3, h4⟩⟩
      · exact ⟨e, h1, h2, .inl h3⟩
      · exact ⟨e, h1, h2, .inr ⟨h3, by rw [old _ (by omega)]; exact h4⟩⟩
    · rintro ⟨e, h1, h2, h3 | ⟨h3, h4⟩⟩
      · exact ⟨e, h1, h2, .inl h3⟩
      · exact ⟨e, h1, h2, .inr ⟨h3, by rw [old _ (by omega)] at h4; exact h4⟩⟩
  · have hi' : i = l.length := by
      rcases Nat.lt_or_ge i (l.length + 1) with g | g
      · omega
      · rw [List.getElem?_eq_none (by simp; omega)] at hq; cases hq
    subst hi'
    have : q = o := by simpa using hq.symm
    subst this
    have hx : (acc.push (befIn acc q)).getD l.length 0 = befIn acc q := by rw [← h.sz]; simp
    rw [hx, befIn_bit]
    constructor
    · rintro ⟨e, h1, h2, h3 | h3⟩
      · exact ⟨e, h1, h2, .inl h3⟩
      · have hlt : e.on < l.length := by
          rcases Nat.lt_or_ge e.on l.length with g | g
          · exact g
          · rw [← h.sz] at g; simp [Array.getElem?_eq_none g] at h3
        exact ⟨e, h1, h2, .inr ⟨hlt, by rw [old _ hlt]; exact h3⟩⟩
    · rintro ⟨e, h1, h2, h3 | ⟨h3, h4⟩⟩
      · exact ⟨e, h1, h2, .inl h3⟩
      · exact ⟨e, h1, h2, .inr (by rw [old _ h3] at h4; exact h4)⟩
theorem before_ok (ops : Array Oper) : BefOK ops.toList (Region.before ops) := by
  have key : ∀ (l l0 : List Oper) (acc : Array Nat), BefOK l0 acc → BefOK (l0 ++ l) (l.foldl (fun acc o => acc.push (befIn acc o)) acc) := by
    intro l
    induction l with
    | nil => intro l0 acc h; simpa using h
    | cons o l ih =>
      intro l0 acc h
      have := ih (l0 ++ [o]) _ (h.push o)
      simpa using this
  have := key ops.toList [] #[] ⟨rfl, fun i o h => by simp at h⟩
  unfold Region.before
  rw [← Array.foldl_toList]
  simpa [befIn] using this

section
variable {ops : Array Oper}
abbrev Bf (ops : Array Oper) (i j : Nat) : Prop := bef (Region.before ops) i j = true
theorem bf_edge {i : Nat} {o : Oper} (ho : ops[i]? = some o) {e : Edge} (he : e ∈ o.after.toList) (hb : Region.binds .any e = true) : Bf ops i e.on :=
  ((before_ok ops).bit i o (by simpa using ho) e.on).2 ⟨e, he, hb, .inl rfl⟩
theorem bf_cases {i j : Nat} {o : Oper} (ho : ops[i]? = some o) (h : Bf ops i j) : ∃ e ∈ o.after.toList, Region.binds .any e = true ∧ (e.on = j ∨ Bf ops e.on j) := by
  obtain ⟨e, h1, h2, h3⟩ := ((before_ok ops).bit i o (by simpa using ho) j).1 h
  exact ⟨e, h1, h2, h3.imp id (·.2)⟩

/-- an order in which each one comes behind what must be ahead of it. -/
inductive Ord (ops : Array Oper) : List Nat → Prop
  | nil : Ord ops []
  | snoc {l : List Nat} {i : Nat} (h : Ord ops l) (hb : ∀ j, Bf ops i j → j ∈ l) : Ord ops (l ++ [i])
theorem Ord.closed {l : List Nat} (h : Ord ops l) {i j : Nat} (hi : i ∈ l) (hb : Bf ops i j) : j ∈ l := by
  induction h with
  | nil => cases hi
  | snoc h hb' ih =>
    rcases List.mem_append.1 hi with g | g
    · exact List.mem_append.2 (.inl (ih g))
    · rw [List.mem_singleton] at g; subst g; exact List.mem_append.2 (.inl (hb' j hb))
theorem Ord.first {l : List Nat} (h : Ord ops l) {L : Nat → Bool} {i : Nat} (hi : i ∈ l) (hL : L i = false) : ∃ i ∈ l, L i = false ∧ ∀ j, Bf ops i j → L j = true := by
  induction h generalizing i with
  | nil => cases hi
  | snoc h hb ih =>
    rename_i l k
    by_cases g : ∃ i ∈ l, L i = false
    · obtain ⟨i, h1, h2⟩ := g
      obtain ⟨i, h1, h2, h3⟩ := ih h1 h2
      exact ⟨i, List.mem_append.2 (.inl h1), h2, h3⟩
    · have all : ∀ j ∈ l, L j = true := fun j hj => by
        cases hL : L j with
        | true => rfl
        | false => exact absurd ⟨j, hj, hL⟩ g
      rcases List.mem_append.1 hi with q | q
      · rw [all i q] at hL; cases hL
      · rw [List.mem_singleton] at q; subst q
        exact ⟨i, by simp, hL, fun j hj => all j (hb j hj)⟩

/-- what is listed. -/
abbrev Li (listed : Array Bool) (i : Nat) : Bool := listed.getD i false
theorem ready_bf {listed : Array Bool} (hc : ∀ i j, Li listed i = true → Bf ops i j → Li listed j = true) {i : Nat} (h : i ∈ Region.ready .any ops listed) :
    Li listed i = false ∧ i < listed.size ∧ ∃ o, ops[i]? = some o ∧ ∀ j, Bf ops i j → Li listed j = true := by
  obtain ⟨h0, o, ho, hall⟩ := mem_ready.1 h
  have hlt : i < listed.size := by
    rcases Nat.lt_or_ge i listed.size with g | g
    · exact g
    · simp [Array.getElem?_eq_none g] at h0
  refine ⟨by simpa [hlt] using h0, hlt, o, ho, fun j hj => ?_⟩
  obtain ⟨e, h1, h2, h3⟩ := bf_cases ho hj
  have he := hall e (by simpa using h1) h2
  rcases h3 with h3 | h3
  · rw [← h3]; exact he
  · exact hc _ _ he h3
theorem bf_ready {listed : Array Bool} {i : Nat} {o : Oper} (ho : ops[i]? = some o) (hs : listed.size = ops.size) (hl : Li listed i = false) (hb : ∀ j, Bf ops i j → Li listed j = true) : i ∈ Region.ready .any ops listed := by
  refine mem_ready.2 ⟨?_, o, ho, fun e he hbd => hb _ (bf_edge ho (by simpa using he) hbd)⟩
  have hlt : i < listed.size := by rw [hs]; exact (Array.getElem?_eq_some_iff.1 ho).1
  simpa [hlt] using hl
theorem li_set {listed : Array Bool} {i j : Nat} (hi : i < listed.size) : Li (listed.setIfInBounds i true) j = (if j = i then true else Li listed j) := by
  by_cases e : j = i
  · subst e; simp [Li, hi]
  · rw [if_neg e]; exact getD_set_ne false (Ne.symm e)
end

/-! ## What the plan says -/
theorem land_sub {a d : Nat} (h : Nat.land a d = a) {j : Nat} (hj : Nat.testBit a j = true) : Nat.testBit d j = true := by
  have : Nat.testBit (a &&& d) j = true := by rw [show (a &&& d) = a from h]; exact hj
  rw [Nat.testBit_and] at this
  simp only [Bool.and_eq_true] at this
  exact this.2
theorem lor_bit (d i j : Nat) : Nat.testBit (Nat.lor d (2 ^ i)) j = (Nat.testBit d j || decide (i = j)) := by
  rw [show Nat.lor d (2 ^ i) = d ||| 2 ^ i from rfl, Nat.testBit_or, Nat.testBit_two_pow]

section
variable {P : Program} {K : Known} {D : Drop} {ops : Array Oper} {σ : Subst} {all : List Nat}

theorem cEager_cons {before : Array Nat} {last : Option Nat} {done i : Nat} {l : List Nat} {d : Nat} {r : List AStep} (h : cEager P K D ops σ before last done (i :: l) = some (d, r)) :
    (cEager P K D ops σ before last done l = some (d, r) ∧ ∀ o, ops[i]? = some o → Nat.testBit done i = false → loudO o.op = false → Nat.land (before.getD i 0) done ≠ before.getD i 0) ∨
    ∃ o s r', ops[i]? = some o ∧ Nat.testBit done i = false ∧ loudO o.op = false ∧ Nat.land (before.getD i 0) done = before.getD i 0 ∧ lastOk before last i = true ∧ oneStep P K D ops σ o = some s ∧
      cEager P K D ops σ before last (Nat.lor done (2 ^ i)) l = some (d, r') ∧ r = s ++ r' := by
  unfold cEager at h
  split at h
  · rename_i ho
    exact .inl ⟨h, fun o ho' => by rw [ho] at ho'; cases ho'⟩
  · rename_i o ho
    split at h
    · rename_i hc
      simp only [Bool.and_eq_true, Bool.not_eq_true', beq_iff_eq] at hc
      split at h
      · rename_i hl
        split at h
        · rename_i s d' r' h1 h2
          injection h with h; injection h with h3 h4
          subst h3; subst h4
          exact .inr ⟨o, s, r', ho, hc.1.1, hc.1.2, hc.2, hl, h1, h2, rfl⟩
        · cases h
      · cases h
    · rename_i hc
      refine .inl ⟨h, fun o' ho' h1 h2 h3 => hc ?_⟩
      rw [ho] at ho'; injection ho' with ho'; subst ho'
      rw [h1, h2, h3]; simp

theorem cEager_grow {before : Array Nat} {last : Option Nat} : ∀ {l : List Nat} {done d : Nat} {r : List AStep}, cEager P K D ops σ before last done l = some (d, r) →
    (∀ j, Nat.testBit done j = true → Nat.testBit d j = true) ∧ (∀ j, Nat.testBit d j = true → Nat.testBit done j = true ∨ (lastOk before last j = true ∧ ∀ o, ops[j]? = some o → loudO o.op = false)) := by
  intro l
  induction l with
  | nil => intro done d r h; injection h with h; injection h with h1 h2; subst h1; exact ⟨fun j h => h, fun j h => .inl h⟩
  | cons i l ih =>
    intro done d r h
    rcases cEager_cons h with ⟨h, -⟩ | ⟨o, s, r', ho, h1, h2, h3, h4, h5, h6, h7⟩
    · exact ih h
    · obtain ⟨a, b⟩ := ih h6
      refine ⟨fun j hj => a j (by rw [lor_bit, hj]; rfl), fun j hj => ?_⟩
      rcases b j hj with g | g
      · rw [lor_bit] at g
        simp only [Bool.or_eq_true, decide_eq_true_eq] at g
        rcases g with g | g
        · exact .inl g
        · subst g; exact .inr ⟨h4, fun o' ho' => by rw [ho] at ho'; injection ho' with ho'; subst ho'; exact h2⟩
      · exact .inr g

theorem cLoud_cons {before : Array Nat} {last : Option Nat} {done k : Nat} {l : List Nat} {r : List AStep} (h : cLoud P K D ops σ before all done last (k :: l) = some r) :
    ∃ d r1 o s1 s2 s3, cEager P K D ops σ before last done all = some (d, r1) ∧ ops[k]? = some o ∧ Nat.land (before.getD k 0) d = before.getD k 0 ∧ lastOk before last k = true ∧ Nat.testBit d k = false ∧
      cOpen P K D ops σ o = some s1 ∧ cChks P K ops σ before d k all = some s2 ∧ cLoud P K D ops σ before all (Nat.lor d (2 ^ k)) (some k) l = some s3 ∧ r = r1 ++ (s1 ++ (s2 ++ s3)) := by
  unfold cLoud at h
  split at h
  · rename_i d r1 o h1 h2
    split at h
    · rename_i hc
      simp only [Bool.and_eq_true, beq_iff_eq, Bool.not_eq_true'] at hc
      split at h
      · rename_i s1 s2 s3 h3 h4 h5
        injection h with h
        exact ⟨d, r1, o, s1, s2, s3, h1, h2, hc.1.1, hc.1.2, hc.2, h3, h4, h5, h.symm⟩
      · cases h
    · cases h
  · cases h
theorem cLoud_nil {before : Array Nat} {last : Option Nat} {done : Nat} {r : List AStep} (h : cLoud P K D ops σ before all done last [] = some r) :
    ∃ d, cEager P K D ops σ before last done all = some (d, r) ∧ ∀ i ∈ all, Nat.testBit d i = true := by
  unfold cLoud at h
  split at h
  · rename_i d r' h1
    split at h
    · rename_i hc
      injection h with h; subst h
      exact ⟨d, h1, by simpa using hc⟩
    · cases h
  · cases h

/-- who is not done before the next loud one waits for one of those that are left. -/
theorem later {before : Array Nat} (hall : ∀ i, i < ops.size → i ∈ all) : ∀ (l : List Nat) {done : Nat} {last : Option Nat} {r : List AStep}, cLoud P K D ops σ before all done last l = some r →
    ∀ {d : Nat} {r1 : List AStep}, cEager P K D ops σ before last done all = some (d, r1) → ∀ i, i < ops.size → Nat.testBit d i = false → l.head? ≠ some i → ∃ k ∈ l, bef before i k = true := by
  intro l
  induction l with
  | nil =>
    intro done last r h d r1 h1 i hi hd _
    obtain ⟨d', h2, h3⟩ := cLoud_nil h
    rw [h1] at h2; injection h2 with h2; injection h2 with h2 h4; subst h2
    rw [h3 i (hall i hi)] at hd; cases hd
  | cons k l ih =>
    intro done last r h d r1 h1 i hi hd hne
    obtain ⟨d', r1', o, s1, s2, s3, h2, ho, h3, h4, h5, h6, h7, h8, -⟩ := cLoud_cons h
    rw [h1] at h2; injection h2 with h2; injection h2 with h2 h9; subst h2
    have hik : k ≠ i := fun e => hne (by simp [e])
    -- the next stage
    have : ∃ d2 r2, cEager P K D ops σ before (some k) (Nat.lor d (2 ^ k)) all = some (d2, r2) := by
      cases l with
      | nil => obtain ⟨d2, h, -⟩ := cLoud_nil h8; exact ⟨d2, _, h⟩
      | cons k' l => obtain ⟨d2, r2, _, _, _, _, h, -⟩ := cLoud_cons h8; exact ⟨d2, r2, h⟩
    obtain ⟨d2, r2, h10⟩ := this
    obtain ⟨g1, g2⟩ := cEager_grow h10
    cases hd2 : Nat.testBit d2 i with
    | true =>
      rcases g2 i hd2 with g | ⟨g, -⟩
      · rw [lor_bit, hd] at g
        simp only [Bool.false_or, decide_eq_true_eq] at g
        exact absurd g hik
      · exact ⟨k, by simp, g⟩
    | false =>
      by_cases hh : l.head? = some i
      · cases l with
        | nil => cases hh
        | cons k' l' =>
          have : k' = i := by simpa using hh
          subst this
          obtain ⟨_, _, _, _, _, _, _, _, _, h11, -⟩ := cLoud_cons h8
          exact ⟨k, by simp, h11⟩
      · obtain ⟨q, hq, hb⟩ := ih h8 h10 i hi hd2 hh
        exact ⟨q, List.mem_cons_of_mem _ hq, hb⟩
end
end Go.X
end

/-! Regions whose order is open: the executor's state, and the model's. -/
noncomputable section
namespace Go.X

/-! ## Values that are the same -/
theorem ropeSame_eq {r : Rope} : ∀ {r' : Rope}, ropeSame r r' = true → r = r' := by
  induction r with
  | nil => intro r' h; cases r' <;> first | rfl | cases h
  | lit n v r ih =>
    intro r' h
    cases r' with
    | lit n' v' r1 =>
      obtain ⟨h1, h2⟩ := cand_true (a := Nat.beq n n') (b := cand (Nat.beq v v') (ropeSame r r1)) h
      obtain ⟨h2, h3⟩ := cand_true h2
      rw [beq_eq h1, beq_eq h2, ih h3]
    | _ => cases h
  | sym i o l r ih =>
    intro r' h
    cases r' with
    | sym i' o' l' r1 =>
      obtain ⟨h1, h2⟩ := cand_true (a := Nat.beq i i') (b := cand (Nat.beq o o') (cand (Nat.beq l l') (ropeSame r r1))) h
      obtain ⟨h2, h3⟩ := cand_true h2
      obtain ⟨h3, h4⟩ := cand_true h3
      rw [beq_eq h1, beq_eq h2, beq_eq h3, ih h4]
    | _ => cases h
  | crc c r ihc ih =>
    intro r' h
    cases r' with
    | crc c' r1 =>
      obtain ⟨h1, h2⟩ := cand_true (a := ropeSame c c') (b := ropeSame r r1) h
      rw [ihc h1, ih h2]
    | _ => cases h
theorem natO_eq {a b : Cap} (h : natO a b = true) : a = b := by
  cases a <;> cases b <;> first | (cases h; done) | (rw [beq_eq h])
theorem sameS_eq {x y : SV} (h : sameS x y = true) : x = y := by
  cases x <;> cases y <;> first | (cases h; done) | rfl | skip
  · rename_i a b
    have h : sameB a b = true := h
    rw [sameB_eq] at h; simp at h; rw [h]
  · rename_i k a k' b
    obtain ⟨h1, h2⟩ := cand_true (a := kindEq k k') (b := eqI a b) h
    rw [eqI_eq] at h2; simp at h2
    rw [kindEq_ok h1, h2]
  · rename_i r r'; rw [ropeSame_eq h]
  · rename_i b o b' o'
    obtain ⟨h1, h2⟩ := cand_true (a := pidEq b b') (b := Nat.beq o o') h
    rw [pidEq_ok h1, beq_eq h2]
  · rename_i b o n c b' o' n' c'
    obtain ⟨h1, h2⟩ := cand_true (a := pidEq b b') (b := cand (Nat.beq o o') (cand (Nat.beq n n') (natO c c'))) h
    obtain ⟨h2, h3⟩ := cand_true h2
    obtain ⟨h3, h4⟩ := cand_true h3
    rw [pidEq_ok h1, beq_eq h2, beq_eq h3, natO_eq h4]
  · rename_i b b'
    rw [pidEq_ok (a := b) (b := b') h]
  · rename_i b b'
    rw [pidEq_ok (a := b) (b := b') h]
theorem sameL_eq {l : List SV} : ∀ {l' : List SV}, sameL l l' = true → l = l' := by
  induction l with
  | nil => intro l' h; cases l' with | nil => rfl | cons _ _ => cases h
  | cons x l ih =>
    intro l' h
    cases l' with
    | nil => cases h
    | cons y l' =>
      obtain ⟨h1, h2⟩ := cand_true (a := sameS x y) (b := sameL l l') h
      rw [sameS_eq h1, ih h2]
theorem sameAV_eq {x y : AV} (h : sameAV x y = true) : x = y := by
  cases x <;> cases y <;> first | (cases h; done) | skip
  · rw [sameS_eq (show sameS _ _ = true from h)]
  · rw [sameL_eq (show sameL _ _ = true from h)]

/-! ## The world's side -/
section
variable {P : Program} {C : Ctx} {base : Nat} {m m' : Mp} {hp : Hp} {nx nx' : Pid} {w w' : World}
theorem Good.reserve {m0 : Mp} {hp0 : Hp} {nx0 : Pid} {w0 : World} (h : Good P C base m0 hp0 nx0 w0 m hp nx w) (hn : nx'.num = nx.num + 1) (o : Obj) : Good P C base m0 hp0 nx0 w0 m (put5 nx o hp) nx' w :=
  ⟨h.sr.reserve hn o, h.ext, h.below, fun p hp hl => by
    obtain ⟨a, b⟩ := h.kept p hp hl
    refine ⟨a, ?_⟩
    rw [get5_put5, if_neg (fun e => by subst e; have := h.le; omega)]; exact b, by have := h.le; omega⟩
theorem Good.place {m0 : Mp} {hp0 : Hp} {nx0 : Pid} {w0 : World} (h : Good P C base m0 hp0 nx0 w0 m hp nx w) {p : Pid} (hm : m p = .un) (h0 : nx0.num ≤ p.num) (h1 : p.num < nx.num) {x : Go.Obj} (hw : NewW w w' x)
    {N es : Nat} (hx : ObjR P C m w' w.heap.size 0 N es (get5 p hp)) : Good P C base m0 hp0 nx0 w0 (upd m p (.live w.heap.size 0 N es)) hp nx w' ∧ Ext m (upd m p (.live w.heap.size 0 N es)) := by
  obtain ⟨a, b, c⟩ := h.sr.place hm hw (hp' := hp) (nx' := nx) rfl (fun _ _ => rfl) (fun q hq => ⟨fun e => by subst e; omega, hq⟩) hx
  refine ⟨⟨a, h.ext.trans b, h.below.trans c, fun q hq hl => ?_, h.le⟩, b⟩
  have hqp : q ≠ p := fun e => by subst e; omega
  rw [upd_other hqp]; exact h.kept q hq hl
end

/-! ## Operands where the order is open -/
section
variable {C : Ctx} {σ : Subst} {n : Nat}
theorem evO_none (σ : Subst) (x : Operand) (fr : Fr) (la la' : AV) : evO (cO σ none x) fr la = evO (cO σ none x) fr la' := by
  have pl : ∀ y : Operand, evO (plainO y) fr la = evO (plainO y) fr la' := fun y => by cases y <;> rfl
  cases x with
  | tmp t =>
    show evO (match substOf σ t with
      | some (.tmp y) => if (none : Option Nat) == some y then AOpd.la else .t (Slot.of y)
      | some y => plainO y
      | none => if (none : Option Nat) == some t then .la else .t (Slot.of t)) fr la = evO (match substOf σ t with
      | some (.tmp y) => if (none : Option Nat) == some y then AOpd.la else .t (Slot.of y)
      | some y => plainO y
      | none => if (none : Option Nat) == some t then .la else .t (Slot.of t)) fr la'
    cases substOf σ t with
    | none => rfl
    | some y => cases y <;> rfl
  | _ => rfl
theorem evO_tmp (σ : Subst) (t : Nat) (fr : Fr) (la : AV) : (∀ y, substOf σ t = some (.tmp y) → evO (cO σ none (.tmp t)) fr la = get3 (Slot.of y) fr) ∧
    (substOf σ t = none → evO (cO σ none (.tmp t)) fr la = get3 (Slot.of t) fr) ∧ (∀ v, substOf σ t = some (.const v) → evO (cO σ none (.tmp t)) fr la = valA v) := by
  have e : ∀ r, substOf σ t = r → evO (cO σ none (.tmp t)) fr la = evO (match r with
      | some (.tmp y) => if (none : Option Nat) == some y then AOpd.la else .t (Slot.of y)
      | some y => plainO y
      | none => if (none : Option Nat) == some t then .la else .t (Slot.of t)) fr la := fun r hr => by subst hr; rfl
  refine ⟨fun y h => ?_, fun h => ?_, fun v h => ?_⟩
  · rw [e _ h]; show getFr (Slot.of y) fr = _; rw [getFr_eq]
  · rw [e _ h]; show getFr (Slot.of t) fr = _; rw [getFr_eq]
  · rw [e _ h]; rfl
/-- another temporary is written. -/
theorem evO_put {x : Operand} {d : Nat} {v : AV} {fr : Fr} {la : AV} (hn : n ≤ 511) (hd : d < n) (hx : ∀ t, x = .tmp t → t < n ∧ (substOf σ t = none → t ≠ d)) (hs : ∀ t y, substOf σ t = some (.tmp y) → y < n ∧ y ≠ d) :
    evO (cO σ none x) (put3 (Slot.of d) v fr) la = evO (cO σ none x) fr la := by
  cases x with
  | tmp t =>
    obtain ⟨h1, h2⟩ := hx t rfl
    obtain ⟨a1, a2, a3⟩ := evO_tmp σ t (put3 (Slot.of d) v fr) la
    obtain ⟨b1, b2, b3⟩ := evO_tmp σ t fr la
    have slot : ∀ y, y < n → y ≠ d → get3 (Slot.of y) (put3 (Slot.of d) v fr) = get3 (Slot.of y) fr := fun y hy hne => by
      rw [get3_put3, if_neg (fun q => hne (Slot.of_inj (by omega) (by omega) q))]
    cases hs' : substOf σ t with
    | none => rw [a2 hs', b2 hs']; exact slot t h1 (h2 hs')
    | some y =>
      cases y with
      | tmp y => rw [a1 y hs', b1 y hs']; obtain ⟨q1, q2⟩ := hs t y hs'; exact slot y q1 q2
      | const v => rw [a3 v hs', b3 v hs']
      | global g =>
        show evO (match substOf σ t with
          | some (.tmp y) => if (none : Option Nat) == some y then AOpd.la else .t (Slot.of y)
          | some y => plainO y
          | none => if (none : Option Nat) == some t then .la else .t (Slot.of t)) (put3 (Slot.of d) v fr) la = evO (match substOf σ t with
          | some (.tmp y) => if (none : Option Nat) == some y then AOpd.la else .t (Slot.of y)
          | some y => plainO y
          | none => if (none : Option Nat) == some t then .la else .t (Slot.of t)) fr la
        rw [hs']; rfl
      | func g =>
        show evO (match substOf σ t with
          | some (.tmp y) => if (none : Option Nat) == some y then AOpd.la else .t (Slot.of y)
          | some y => plainO y
          | none => if (none : Option Nat) == some t then .la else .t (Slot.of t)) (put3 (Slot.of d) v fr) la = evO (match substOf σ t with
          | some (.tmp y) => if (none : Option Nat) == some y then AOpd.la else .t (Slot.of y)
          | some y => plainO y
          | none => if (none : Option Nat) == some t then .la else .t (Slot.of t)) fr la
        rw [hs']; rfl
  | _ => rfl
end

section
variable {P : Program} {C : Ctx} {o : Oper} {R R' : Mp → Act → Prop} {v : AV}
theorem Pures.mono (h : Pures P C o R v) (hR : ∀ m a, R' m a → R m a) : Pures P C o R' v := fun m a hr => h m a (hR m a hr)
theorem Readers.mono {hp hp2 : Hp} (h : Readers P C o R hp v) (hR : ∀ m a, R' m a → R m a) (hw : Wider hp hp2) : Readers P C o R' hp2 v := fun hp3 nx3 h3 base m a hr => h hp3 nx3 (hw.trans h3) base m a (hR m a hr)
theorem Makers.mono {nx : Pid} {ob : Obj} (h : Makers P C o R nx ob v) (hR : ∀ m a, R' m a → R m a) : Makers P C o R' nx ob v := fun m a hr => h m a (hR m a hr)
end

/-! ## What is known of the region -/
structure RF (D n : Nat) (ops : Array Oper) (σ : Subst) : Prop where
  fit : ∀ o ∈ ops.toList, fitO n o = true
  hn : n ≤ 511
  sub : ∀ d x, substOf σ d = some x → ∃ (i : Nat) (o : Oper), ops[i]? = some o ∧ o.guard = none ∧ o.op = .move x ∧ o.dst = some d ∧ Nat.testBit D d = true ∧
    ((∃ v, x = .const v) ∨ ∃ t, x = .tmp t ∧ ∀ (j : Nat) (q : Oper), ops[j]? = some q → q.dst ≠ some t)
  look : ∀ (i : Nat) (o : Oper) t, ops[i]? = some o → t ∈ o.looksAt ops → ∀ (j : Nat) (q : Oper), ops[j]? = some q → q.dst = some t → Bf ops i j
  once : ∀ (i : Nat) (o : Oper) d, ops[i]? = some o → o.dst = some d → ∀ (j : Nat) (q : Oper), ops[j]? = some q → q.dst = some d → i = j
  kept : ∀ (i : Nat) (o : Oper) d, ops[i]? = some o → o.dst = some d → Nat.testBit D d = true → isMoved σ o = true

/-- what a guard's value says. -/
def gval (v : AV) (b : Bool) : Option Bool :=
  match v with
  | .s (.bool b') => some (b == b')
  | .t [] => some false
  | _ => none
def gsay (ops : Array Oper) (fr : Fr) (o : Oper) : Option Bool :=
  match o.guard with
  | none => some true
  | some (j, b) => match (ops[j]?).bind (·.dst) with
    | none => none
    | some d => gval (get3 (Slot.of d) fr) b

abbrev un0 : AV := .s .un
section
variable (P : Program) (C : Ctx) (K : Known) (base : Nat) (D n : Nat) (ops : Array Oper) (σ : Subst) (T : DT) (m0 : Mp) (hp0 : Hp) (nx0 : Pid) (w0 : World)
/-- what an operation that the executor has done will do in the model. -/
inductive Will (o : Oper) (fr : Fr) (hp : Hp) (nx : Pid) (m : Mp) (mk : Prop) (p : Pid) (v : AV) : Prop
  | pure (h : Pures P C o (OpsR C o (cO σ none) fr un0) v)
  | read (hr : isRd (cOp P K (cO σ none) o) = true) (h : Readers P C o (OpsR C o (cO σ none) fr un0) hp v)
  | make (ob : Obj) (h : Makers P C o (OpsR C o (cO σ none) fr un0) p ob v) (hk : mk) (hm : m p = .un) (h0 : nx0.num ≤ p.num) (h1 : p.num < nx.num) (ho : get5 p hp = ob)
def Pend (o : Oper) (fr : Fr) (hp : Hp) (nx : Pid) (m : Mp) (mk : Prop) (p : Pid) : Prop :=
  ∃ v, (∀ d, o.dst = some d → get3 (Slot.of d) fr = v) ∧ ((gsay ops fr o = some true ∧ Will P C K σ nx0 o fr hp nx m mk p v) ∨ (gsay ops fr o = some false ∧ v = undefA))

structure OS (Mk : Nat → Prop) (pn : Nat → Pid) (ord : List Nat) (done : Nat) (fr : Fr) (hp : Hp) (nx : Pid) (listed : Array Bool) (m : Mp) (a : Act) (w : World) : Prop where
  sz : listed.size = ops.size
  sub : ∀ i, Li listed i = true → Nat.testBit done i = true
  cl : ∀ i j, Li listed i = true → Bf ops i j → Li listed j = true
  loud : ∀ (i : Nat) (o : Oper), ops[i]? = some o → Nat.testBit done i = true → loudO o.op = true → Li listed i = true
  good : Good P C base m0 hp0 nx0 w0 m hp nx w
  rel : ∀ t, t < n → (∀ (i : Nat) (o : Oper), ops[i]? = some o → Li listed i = false → o.dst ≠ some t) → AVR C m (evO (cO σ none (.tmp t)) fr un0) (a.eval (.tmp t))
  drop : ∀ t, t < n → Nat.testBit D t = true → get3 (Slot.of t) fr = .s .un
  size : n ≤ a.tmps.size
  defers : a.defers = T.ds
  top : get3 topS fr = T.tp
  pend : ∀ (i : Nat) (o : Oper), ops[i]? = some o → Nat.testBit done i = true → Li listed i = false → isMoved σ o = false → Pend P C K ops σ nx0 o fr hp nx m (Mk i) (pn i)
  ordI : Ord ops ord
  ordB : ∀ i, Nat.testBit done i = true ↔ i ∈ ord
  inb : ∀ i ∈ ord, ∃ o, ops[i]? = some o
  dist : ∀ i j, Mk i → Mk j → pn i = pn j → i = j
  mkp : ∀ j, Mk j → (pn j).num < nx.num
end

section
variable {P : Program} {C : Ctx} {K : Known} {base : Nat} {D n : Nat} {ops : Array Oper} {σ : Subst} {T : DT} {m0 : Mp} {hp0 : Hp} {nx0 : Pid} {w0 : World}
variable {Mk : Nat → Prop} {pn : Nat → Pid} {ord : List Nat} {done : Nat} {fr : Fr} {hp : Hp} {nx : Pid} {listed : Array Bool} {m : Mp} {a : Act} {w : World}

theorem RF.fit' (F : RF D n ops σ) {i : Nat} {o : Oper} (ho : ops[i]? = some o) : fitO n o = true := F.fit o (by simpa using Array.mem_of_getElem? ho)
theorem RF.dst (F : RF D n ops σ) {i : Nat} {o : Oper} (ho : ops[i]? = some o) {d : Nat} (hd : o.dst = some d) : d < n := fitO_dst (F.fit' ho) d hd
theorem RF.lt (F : RF D n ops σ) {i : Nat} {o : Oper} (ho : ops[i]? = some o) {d : Nat} (hd : o.dst = some d) : d < 512 := by
  have h1 := F.dst ho hd
  have h2 := F.hn
  omega
theorem looks_op {o : Oper} {t : Nat} (h : Operand.tmp t ∈ o.op.operands) : t ∈ o.looksAt ops := List.mem_append_left _ (List.mem_filterMap.2 ⟨.tmp t, by simpa using h, rfl⟩)
theorem looks_guard {o : Oper} {j d : Nat} {b : Bool} (h : o.guard = some (j, b)) (hd : (ops[j]?).bind (·.dst) = some d) : d ∈ o.looksAt ops := by
  unfold Oper.looksAt; rw [h]; simp [hd]
/-- a temporary that nobody writes here. -/
theorem RF.free (F : RF D n ops σ) {t y : Nat} (h : substOf σ t = some (.tmp y)) : y < n ∧ ∀ (j : Nat) (q : Oper), ops[j]? = some q → q.dst ≠ some y := by
  obtain ⟨i, o, ho, hg, hop, hd, hb, hx⟩ := F.sub t _ h
  rcases hx with ⟨v, e⟩ | ⟨t', e, hf⟩
  · cases e
  · injection e with e
    subst e
    refine ⟨?_, hf⟩
    have := fitO_op (F.fit' ho) (.tmp y) (by rw [hop]; simp [Op.operands])
    simpa [fitX] using this
theorem RF.key (F : RF D n ops σ) {t : Nat} {x : Operand} (h : substOf σ t = some x) : ∃ (i : Nat) (o : Oper), ops[i]? = some o ∧ o.dst = some t := by
  obtain ⟨i, o, ho, _, _, hd, _⟩ := F.sub t x h; exact ⟨i, o, ho, hd⟩
theorem RF.moved (F : RF D n ops σ) {i : Nat} {o : Oper} (ho : ops[i]? = some o) (hm : isMoved σ o = true) : ∃ d x, o.dst = some d ∧ substOf σ d = some x ∧ o.guard = none ∧ o.op = .move x ∧ Nat.testBit D d = true := by
  unfold isMoved at hm
  cases hd : o.dst with
  | none => rw [hd] at hm; cases hm
  | some d =>
    rw [hd] at hm
    simp only at hm
    cases hs : substOf σ d with
    | none => rw [hs] at hm; cases hm
    | some x =>
      obtain ⟨j, q, hq, hg, hop, hdq, hb, _⟩ := F.sub d x hs
      have := F.once i o d ho hd j q hq hdq
      subst this
      rw [ho] at hq; injection hq with hq; subst hq
      exact ⟨d, x, rfl, hs, hg, hop, hb⟩
theorem RF.notMoved (F : RF D n ops σ) {i : Nat} {o : Oper} (ho : ops[i]? = some o) (hm : isMoved σ o = false) {d : Nat} (hd : o.dst = some d) : substOf σ d = none ∧ Nat.testBit D d = false ∧ dstOf D o = some (Slot.of d) := by
  have h1 : substOf σ d = none := by
    unfold isMoved at hm; rw [hd] at hm
    cases hs : substOf σ d with
    | none => rfl
    | some x => simp [hs] at hm
  have h2 : Nat.testBit D d = false := by
    cases hb : Nat.testBit D d with
    | false => rfl
    | true => have := F.kept i o d ho hd hb; rw [hm] at this; cases this
  exact ⟨h1, h2, by unfold dstOf; rw [hd]; simp [h2]⟩

/-- operands, when another temporary is written. -/
theorem RF.ops_put (F : RF D n ops σ) {i : Nat} {o : Oper} (ho : ops[i]? = some o) {k : Nat} {q : Oper} (hq : ops[k]? = some q) {d : Nat} (hd : q.dst = some d) (hb : ¬ Bf ops i k) {v : AV} {x : Operand} (hx : x ∈ o.op.operands) (la : AV) :
    evO (cO σ none x) (put3 (Slot.of d) v fr) la = evO (cO σ none x) fr la :=
  evO_put F.hn (F.dst hq hd) (fun t e => by
    subst e
    have := fitO_op (F.fit' ho) _ hx
    exact ⟨by simpa [fitX] using this, fun _ e => hb (F.look i o t ho (looks_op hx) k q hq (by rw [hd, e]))⟩)
    (fun t y h => by obtain ⟨h1, h2⟩ := F.free h; exact ⟨h1, fun e => h2 k q hq (by rw [hd, e])⟩)
theorem RF.gsay_put (F : RF D n ops σ) {i : Nat} {o : Oper} (ho : ops[i]? = some o) {k : Nat} {q : Oper} (hq : ops[k]? = some q) {d : Nat} (hd : q.dst = some d) (hb : ¬ Bf ops i k) {v : AV} :
    gsay ops (put3 (Slot.of d) v fr) o = gsay ops fr o := by
  unfold gsay
  split
  · rfl
  · rename_i j b hg
    split
    · rfl
    · rename_i e he
      have he' : ∃ r, ops[j]? = some r ∧ r.dst = some e := by
        cases hr : ops[j]? with
        | none => rw [hr] at he; cases he
        | some r => rw [hr] at he; exact ⟨r, rfl, he⟩
      obtain ⟨r, hr, hre⟩ := he'
      have hne : e ≠ d := fun q' => by
        subst q'
        exact hb (F.look i o e ho (looks_guard hg he) k q hq hd)
      rw [get3_put3, if_neg (fun z => hne (Slot.of_inj (F.lt hr hre) (F.lt hq hd) z))]

theorem opsR_la {o : Oper} {la la' : AV} (h : OpsR C o (cO σ none) fr la m a) : OpsR C o (cO σ none) fr la' m a := fun x hx => by rw [evO_none σ x fr la' la]; exact h x hx

/-- the operands of one that may come now. -/
theorem OS.opsR (F : RF D n ops σ) (h : OS P C K base D n ops σ T m0 hp0 nx0 w0 Mk pn ord done fr hp nx listed m a w) {i : Nat} {o : Oper} (ho : ops[i]? = some o) (hr : ∀ j, Bf ops i j → Li listed j = true) : OpsR C o (cO σ none) fr un0 m a := fun x hx => by
  cases x with
  | tmp t =>
    have ht : t < n := by have := fitO_op (F.fit' ho) _ hx; simpa [fitX] using this
    refine h.rel t ht fun j q hq hl e => ?_
    have := hr j (F.look i o t ho (looks_op hx) j q hq e)
    rw [this] at hl; cases hl
  | const v => exact valA_ok v
  | global g => trivial
  | func f => exact ⟨[], rfl, trivial⟩
/-- a slot's value. -/
theorem OS.slot (F : RF D n ops σ) (h : OS P C K base D n ops σ T m0 hp0 nx0 w0 Mk pn ord done fr hp nx listed m a w) {j : Nat} {q : Oper} (hq : ops[j]? = some q) {d : Nat} (hd : q.dst = some d) (hl : Li listed j = true) : AVR C m (get3 (Slot.of d) fr) (a.eval (.tmp d)) := by
  have hr := h.rel d (F.dst hq hd) (fun k r hk hlk e => by have := F.once j q d hq hd k r hk e; subst this; rw [hl] at hlk; cases hlk)
  cases hs : substOf σ d with
  | none => rwa [(evO_tmp σ d fr un0).2.1 hs] at hr
  | some x =>
    obtain ⟨_, _, _, _, _, _, hb, _⟩ := F.sub d x hs
    rw [h.drop d (F.dst hq hd) hb]; trivial
/-- what the guard says in the model. -/
theorem OS.wanted (F : RF D n ops σ) (h : OS P C K base D n ops σ T m0 hp0 nx0 w0 Mk pn ord done fr hp nx listed m a w) {i : Nat} {o : Oper} (ho : ops[i]? = some o) (hr : ∀ j, Bf ops i j → Li listed j = true) {b : Bool} (hg : gsay ops fr o = some b) :
    Region.wanted o (yielded ops a.tmps) = b := by
  unfold gsay at hg
  split at hg
  · rename_i hn; injection hg with hg; subst hg; exact wanted_none hn
  · rename_i j b' hj
    split at hg
    · cases hg
    · rename_i d hd
      have he' : ∃ r, ops[j]? = some r ∧ r.dst = some d := by
        cases hr : ops[j]? with
        | none => rw [hr] at hd; cases hd
        | some r => rw [hr] at hd; exact ⟨r, rfl, hd⟩
      obtain ⟨r, hr1, hr2⟩ := he'
      have hv := h.slot F hr1 hr2 (hr j (F.look i o d ho (looks_guard hj hd) j r hr1 hr2))
      obtain ⟨g1, g2⟩ := guard_says hd (Nat.lt_of_lt_of_le (F.dst hr1 hr2) h.size) hv
      unfold gval at hg
      split at hg
      · rename_i c e
        injection hg with hg
        rw [wanted_some hj, g1 c e, ← hg]
        cases c <;> cases b' <;> rfl
      · rename_i e
        injection hg with hg
        rw [wanted_some hj, g2 e, ← hg]; rfl
      · cases hg

theorem wpOp_run {Q : Exit → Act → World → Prop} {i : Nat} {o : Oper} (ho : ops[i]? = some o) {K' : Act → World → Prop} (hw : Region.wanted o (yielded ops a.tmps) = true) (h : o.wp P a w K' Q) : wpOp P ops Q i K' a w := by
  unfold wpOp; simp only [ho, hw, if_true]; exact .inl h
theorem wpOp_not {Q : Exit → Act → World → Prop} {i : Nat} {o : Oper} (ho : ops[i]? = some o) {K' : Act → World → Prop} (hw : Region.wanted o (yielded ops a.tmps) = false) (h : K' (a.put o.dst undef) w) : wpOp P ops Q i K' a w := by
  unfold wpOp; simp only [ho, hw, Bool.false_eq_true, if_false]; exact h

/-- one more is listed. -/
theorem OS.list (_F : RF D n ops σ) (h : OS P C K base D n ops σ T m0 hp0 nx0 w0 Mk pn ord done fr hp nx listed m a w) {i : Nat} {o : Oper} (ho : ops[i]? = some o) (hd : Nat.testBit done i = true) (hr : ∀ j, Bf ops i j → Li listed j = true)
    {m' : Mp} {w' : World} {u : Value} (he : Ext m m') (hg : Good P C base m0 hp0 nx0 w0 m' hp nx w') (hv : ∀ d, o.dst = some d → AVR C m' (evO (cO σ none (.tmp d)) fr un0) u)
    (hp' : ∀ j q, ops[j]? = some q → Nat.testBit done j = true → Li listed j = false → isMoved σ q = false → j ≠ i → Pend P C K ops σ nx0 q fr hp nx m (Mk j) (pn j) → Pend P C K ops σ nx0 q fr hp nx m' (Mk j) (pn j)) :
    OS P C K base D n ops σ T m0 hp0 nx0 w0 Mk pn ord done fr hp nx (listed.setIfInBounds i true) m' (a.put o.dst u) w' := by
  have hi : i < listed.size := by rw [h.sz]; exact (Array.getElem?_eq_some_iff.1 ho).1
  have hset : ∀ j, Li (listed.setIfInBounds i true) j = (if j = i then true else Li listed j) := fun j => li_set hi
  refine ⟨by simp [h.sz], fun j hj => ?_, fun j k hj hb => ?_, fun j q hq hdj hl => ?_, hg, fun t ht hc => ?_, h.drop, by rw [put_size]; exact h.size, by rw [put_defers']; exact h.defers, h.top, fun j q hq hdj hl hm => ?_, h.ordI, h.ordB, h.inb, h.dist, h.mkp⟩
  · rw [hset] at hj; split at hj
    · rename_i e; subst e; exact hd
    · exact h.sub j hj
  · rw [hset] at hj ⊢; split
    · rfl
    · split at hj
      · rename_i e; subst e; exact hr k hb
      · exact h.cl j k hj hb
  · rw [hset]; split
    · rfl
    · exact h.loud j q hq hdj hl
  · by_cases e : o.dst = some t
    · rw [e, eval_put_same (Nat.lt_of_lt_of_le ht h.size)]; exact hv t e
    · have h1 : (a.put o.dst u).eval (.tmp t) = a.eval (.tmp t) := by
        cases hd' : o.dst with
        | none => rfl
        | some d => exact eval_put_ne (fun q => e (by rw [hd', q]))
      rw [h1]
      refine (h.rel t ht fun j q hq hl => ?_).ext he
      by_cases e2 : j = i
      · subst e2; rw [ho] at hq; injection hq with hq; subst hq; exact e
      · exact hc j q hq (by rw [hset, if_neg e2]; exact hl)
  · rw [hset] at hl; split at hl
    · cases hl
    · rename_i e
      exact hp' j q hq hdj hl hm e (h.pend j q hq hdj hl hm)

theorem Pend.up {o : Oper} {mk : Prop} {p : Pid} {m' : Mp} (h : Pend P C K ops σ nx0 o fr hp nx m mk p) (hm : mk → m p = .un → m' p = .un) : Pend P C K ops σ nx0 o fr hp nx m' mk p := by
  obtain ⟨v, h1, h2⟩ := h
  refine ⟨v, h1, h2.imp (fun ⟨a, b⟩ => ⟨a, ?_⟩) id⟩
  cases b with
  | pure h => exact .pure h
  | read hr h => exact .read hr h
  | make ob h hk hm' h0 h1 ho => exact .make ob h hk (hm hk hm') h0 h1 ho

/-- the model does one that the executor has done. -/
theorem OS.step (F : RF D n ops σ) (h : OS P C K base D n ops σ T m0 hp0 nx0 w0 Mk pn ord done fr hp nx listed m a w) {i : Nat} {o : Oper} (ho : ops[i]? = some o) (hd : Nat.testBit done i = true) (hl : Li listed i = false) (hr : ∀ j, Bf ops i j → Li listed j = true)
    {Q : Exit → Act → World → Prop} {K' : Act → World → Prop} (hK : ∀ m' a' w', OS P C K base D n ops σ T m0 hp0 nx0 w0 Mk pn ord done fr hp nx (listed.setIfInBounds i true) m' a' w' → K' a' w') : wpOp P ops Q i K' a w := by
  have hops := h.opsR F ho hr
  cases hmv : isMoved σ o with
  | true =>
    obtain ⟨d, x, hd1, hs, hg, hop, hb⟩ := F.moved ho hmv
    refine wpOp_run ho (wanted_none hg) ?_
    unfold Oper.wp execOp
    rw [hop]
    show K' (a.put o.dst (a.eval x)) w
    refine hK m _ w (h.list F ho hd hr (.refl _) h.good (fun d' hd' => ?_) fun j q _ _ _ _ _ hp => hp)
    rw [hd1] at hd'; injection hd' with hd'; subst hd'
    have hx := hops x (by rw [hop]; simp [Op.operands])
    obtain ⟨_, _, _, _, _, _, _, hx2⟩ := F.sub d x hs
    rcases hx2 with ⟨v, rfl⟩ | ⟨t, rfl, hf⟩
    · rw [(evO_tmp σ d fr un0).2.2 v hs]; exact valA_ok v
    · rw [(evO_tmp σ d fr un0).1 t hs]
      have hs2 : substOf σ t = none := by
        cases hs2 : substOf σ t with
        | none => rfl
        | some y => obtain ⟨j, q, hq, hdq⟩ := F.key hs2; exact absurd hdq (hf j q hq)
      rwa [(evO_tmp σ t fr un0).2.1 hs2] at hx
  | false =>
    obtain ⟨v, hv, hw⟩ := h.pend i o ho hd hl hmv
    have hv' : ∀ d, o.dst = some d → evO (cO σ none (.tmp d)) fr un0 = v := fun d hd => by
      obtain ⟨h1, _⟩ := F.notMoved ho hmv hd
      rw [(evO_tmp σ d fr un0).2.1 h1]; exact hv d hd
    rcases hw with ⟨hg, hW⟩ | ⟨hg, rfl⟩
    · refine wpOp_run ho (h.wanted F ho hr hg) ?_
      cases hW with
      | pure hW =>
        obtain ⟨u, h1, h2⟩ := hW m a hops w
        unfold Oper.wp; rw [h1]
        exact hK m _ w (h.list F ho hd hr (.refl _) h.good (fun d hd => by rw [hv' d hd]; exact h2) fun j q _ _ _ _ _ hp => hp)
      | read _ hW =>
        obtain ⟨u, h1, h2⟩ := hW hp nx (.refl _) base m a hops w h.good.sr
        unfold Oper.wp; rw [h1]
        exact hK m _ w (h.list F ho hd hr (.refl _) h.good (fun d hd => by rw [hv' d hd]; exact h2) fun j q _ _ _ _ _ hp => hp)
      | make ob hW hk hm h0 h1 hob =>
        obtain ⟨u, w', x, N, es, g1, g2, g3, g4⟩ := hW m a hops w
        unfold Oper.wp; rw [g1]
        obtain ⟨hG, hE⟩ := h.good.place hm h0 h1 g2 (by rw [hob]; exact g3)
        refine hK _ _ w' (h.list F ho hd hr hE hG (fun d hd => by rw [hv' d hd]; exact g4 _ (upd_same _ _ _)) fun j q _ _ _ _ hji hp => hp.up fun hkj hun => ?_)
        rw [upd_other (fun e => hji (h.dist j i hkj hk e))]; exact hun
    · exact wpOp_not ho (h.wanted F ho hr hg) (hK m _ w (h.list F ho hd hr (.refl _) h.good (fun d hd => by rw [hv' d hd]; exact undefA_ok) fun j q _ _ _ _ _ hp => hp))
end
end Go.X
end

/-! Regions whose order is open: the executor goes on; the model's steps. -/
noncomputable section
namespace Go.X
section
variable {P : Program} {C : Ctx} {K : Known} {ih : CallF} {base : Nat} {D n : Nat} {ops : Array Oper} {σ : Subst} {T : DT} {m0 : Mp} {hp0 : Hp} {nx0 : Pid} {w0 : World}
variable {Mk : Nat → Prop} {pn : Nat → Pid} {ord : List Nat} {done : Nat} {fr : Fr} {hp : Hp} {nx : Pid} {listed : Array Bool} {m : Mp} {a : Act} {w : World}
variable {la : AV} {e : Ex} {frF : Fr} {hpF : Hp} {nxF : Pid}

theorem rd_same (P : Program) (C : Ctx) {A : AOp} {v : AV} {hp' : Hp} {nx' : Pid} (hr : isRd A = true) (h : runOp A ih fr la hp nx = .ok v hp' nx') : nx' = nx := by
  cases A <;> first | (cases hr; done) | skip
  · exact (opLd1_ok (P := P) (C := C) h).2.1
  · exact (opLdn_ok (P := P) (C := C) h).2.1
  · rename_i k neg x y
    cases k with
    | b => exact (opEqB_ok (P := P) (C := C) (neg := neg) (x := evO x fr la) (y := evO y fr la) h).2.1
    | s => exact (opEqS_ok (P := P) (C := C) (neg := neg) (x := evO x fr la) (y := evO y fr la) h).2.1
    | n k => exact (opEqN_ok (P := P) (C := C) (k := k) (neg := neg) (x := evO x fr la) (y := evO y fr la) h).2.1
    | p => exact (opEqP_ok (P := P) (C := C) (neg := neg) (x := evO x fr la) (y := evO y fr la) h).2.1
    | flat ks => exact (opEqF_ok (P := P) (C := C) (ks := ks) (neg := neg) (x := evO x fr la) (y := evO y fr la) h).2.1
  · exact (opLenMap_ok (P := P) (C := C) h).2.1
  · exact (opB2s_ok (P := P) (C := C) h).2.1
  · exact (opLook_ok (P := P) (C := C) h).2.1
  · exact (opLenChan_ok (P := P) (C := C) h).2.1

/-- an operation's steps, run. -/
theorem open_run (F : RF D n ops σ) {o : Oper} {s r : List AStep} (hs : cOpen P K D ops σ o = some s) (h : runSteps ih (s ++ r) fr la hp nx = .ok e frF hpF nxF) :
    (gsay ops fr o = some true ∧ ∃ v hp1 nx1, runOp (cOp P K (cO σ none) o) ih fr la hp nx = .ok v hp1 nx1 ∧ runSteps ih r (putF (dstOf D o) v fr) v hp1 nx1 = .ok e frF hpF nxF) ∨
    (gsay ops fr o = some false ∧ runSteps ih r (putF (dstOf D o) undefA fr) undefA hp nx = .ok e frF hpF nxF) := by
  unfold cOpen at hs
  split at hs
  · rename_i hg
    injection hs with hs; subst hs
    have h : stSt (cOp P K (cO σ none) o) (dstOf D o) ih fr la hp nx (runSteps ih r) = .ok e frF hpF nxF := h
    exact .inl ⟨by unfold gsay; rw [hg], stSt_ok h⟩
  · rename_i j b hg
    split at hs
    · rename_i s' hs'
      injection hs with hs; subst hs
      obtain ⟨d, hd1, rfl, hdn⟩ := gSlot_ok F.fit hs'
      have h : stGd (Slot.of d) b (cOp P K (cO σ none) o) (dstOf D o) ih fr la hp nx (runSteps ih r) = .ok e frF hpF nxF := h
      unfold stGd at h
      rw [getFr_eq] at h
      have hgs : gsay ops fr o = gval (get3 (Slot.of d) fr) b := by unfold gsay; rw [hg]; simp only [hd1]
      rcases gK_ok h with ⟨b', hb, h⟩ | ⟨hb, h⟩
      · cases hbb : sameB b b' with
        | true =>
          rw [hbb] at h
          rw [sameB_eq] at hbb
          exact .inl ⟨by rw [hgs, hb]; show some (b == b') = _; rw [hbb], stSt_ok h⟩
        | false =>
          rw [hbb] at h
          rw [sameB_eq] at hbb
          exact .inr ⟨by rw [hgs, hb]; show some (b == b') = _; rw [hbb], skipD_ok h⟩
      · exact .inr ⟨by rw [hgs, hb]; rfl, skipD_ok h⟩
    · cases hs

/-- .. asked again. -/
theorem chk_run (F : RF D n ops σ) {o : Oper} {s r : List AStep} (hs : cChk P K ops σ o = some s) (h : runSteps ih (s ++ r) fr la hp nx = .ok e frF hpF nxF) :
    (∃ d, o.dst = some d ∧ (gsay ops fr o = some true → ∃ hp1 nx1, runOp (cOp P K (cO σ none) o) ih fr la hp nx = .ok (get3 (Slot.of d) fr) hp1 nx1)) ∧ runSteps ih r fr la hp nx = .ok e frF hpF nxF := by
  have chk : ∀ d, stChk (cOp P K (cO σ none) o) (Slot.of d) ih fr la hp nx (runSteps ih r) = .ok e frF hpF nxF →
      (∃ hp1 nx1, runOp (cOp P K (cO σ none) o) ih fr la hp nx = .ok (get3 (Slot.of d) fr) hp1 nx1) ∧ runSteps ih r fr la hp nx = .ok e frF hpF nxF := fun d h => by
    unfold stChk at h
    cases hr : runOp (cOp P K (cO σ none) o) ih fr la hp nx with
    | bad => rw [hr] at h; cases h
    | ok v hp1 nx1 =>
      rw [hr] at h
      have h : (Bool.rec .bad (runSteps ih r fr la hp nx) (sameAV v (getFr (Slot.of d) fr)) : Cr) = .ok e frF hpF nxF := h
      cases hb : sameAV v (getFr (Slot.of d) fr) with
      | false => rw [hb] at h; cases h
      | true =>
        rw [hb] at h
        have := sameAV_eq hb
        rw [getFr_eq] at this
        exact ⟨⟨hp1, nx1, by rw [this]⟩, h⟩
  unfold cChk at hs
  split at hs
  · cases hs
  · rename_i d hd
    split at hs
    · injection hs with hs; subst hs
      have h : stChk (cOp P K (cO σ none) o) (Slot.of d) ih fr la hp nx (runSteps ih r) = .ok e frF hpF nxF := h
      obtain ⟨h1, h2⟩ := chk d h
      exact ⟨⟨d, hd, fun _ => h1⟩, h2⟩
    · rename_i j b hg
      split at hs
      · rename_i s' hs'
        injection hs with hs; subst hs
        obtain ⟨g, hg1, rfl, hgn⟩ := gSlot_ok F.fit hs'
        have h : stGchk (Slot.of g) b (cOp P K (cO σ none) o) (Slot.of d) ih fr la hp nx (runSteps ih r) = .ok e frF hpF nxF := h
        unfold stGchk at h
        rw [getFr_eq] at h
        have hgs : gsay ops fr o = gval (get3 (Slot.of g) fr) b := by unfold gsay; rw [hg]; simp only [hg1]
        rcases gK_ok h with ⟨b', hb, h⟩ | ⟨hb, h⟩
        · cases hbb : sameB b b' with
          | true =>
            rw [hbb] at h
            obtain ⟨h1, h2⟩ := chk d h
            exact ⟨⟨d, hd, fun _ => h1⟩, h2⟩
          | false =>
            rw [hbb] at h
            rw [sameB_eq] at hbb
            refine ⟨⟨d, hd, fun q => ?_⟩, h⟩
            rw [hgs, hb] at q
            have q : some (b == b') = some true := q
            rw [hbb] at q; cases q
        · refine ⟨⟨d, hd, fun q => ?_⟩, h⟩
          rw [hgs, hb] at q; cases q
      · cases hs
theorem chks_run (F : RF D n ops σ) {B : Array Nat} {d k : Nat} : ∀ {l : List Nat} {s r : List AStep}, cChks P K ops σ B d k l = some s → runSteps ih (s ++ r) fr la hp nx = .ok e frF hpF nxF →
    (∀ i ∈ l, ∀ q, ops[i]? = some q → Nat.testBit d i = true → isRd (cOp P K (cO σ none) q) = true → loudO q.op = false → isMoved σ q = false → bef B k i = false →
      ∃ x, q.dst = some x ∧ (gsay ops fr q = some true → ∃ hp1 nx1, runOp (cOp P K (cO σ none) q) ih fr la hp nx = .ok (get3 (Slot.of x) fr) hp1 nx1)) ∧ runSteps ih r fr la hp nx = .ok e frF hpF nxF := by
  intro l
  induction l with
  | nil => intro s r hs h; injection hs with hs; subst hs; exact ⟨fun i hi => (by cases hi), h⟩
  | cons i l ihl =>
    intro s r hs h
    unfold cChks at hs
    split at hs
    · rename_i q r' hq hr
      split at hs
      · rename_i hc
        split at hs
        · rename_i s' hs'
          injection hs with hs; subst hs
          rw [List.append_assoc] at h
          obtain ⟨h1, h2⟩ := chk_run F hs' h
          obtain ⟨h3, h4⟩ := ihl hr h2
          refine ⟨fun j hj q' hq' => ?_, h4⟩
          rcases List.mem_cons.1 hj with e | hj
          · subst e
            rw [hq] at hq'; injection hq' with hq'; subst hq'
            exact fun _ _ _ _ _ => h1
          · exact h3 j hj q' hq'
        · cases hs
      · rename_i hc
        injection hs with hs; subst hs
        obtain ⟨h3, h4⟩ := ihl hr h
        refine ⟨fun j hj q' hq' a1 a2 a3 a4 a5 => ?_, h4⟩
        rcases List.mem_cons.1 hj with e | hj
        · subst e
          rw [hq] at hq'; injection hq' with hq'; subst hq'
          exact absurd (by rw [a1, a2, a3, a4, a5]; rfl) hc
        · exact h3 j hj q' hq' a1 a2 a3 a4 a5
    · cases hs

/-- nothing is written but what one of them writes. -/
def Aside (ops : Array Oper) (k : Nat) (fr fr1 : Fr) : Prop := fr1 = fr ∨ ∃ q d v, ops[k]? = some q ∧ q.dst = some d ∧ fr1 = put3 (Slot.of d) v fr
theorem aside_put (F : RF D n ops σ) {k : Nat} {q : Oper} (hq : ops[k]? = some q) (hm : isMoved σ q = false) (v : AV) : Aside ops k fr (putF (dstOf D q) v fr) := by
  cases hd : q.dst with
  | none => left; unfold dstOf; rw [hd]; rfl
  | some d => right; obtain ⟨_, _, h⟩ := F.notMoved hq hm hd; exact ⟨q, d, v, hq, hd, by rw [h]; rfl⟩
section
variable {k : Nat} {fr1 : Fr}
theorem Aside.op (F : RF D n ops σ) (h : Aside ops k fr fr1) {i : Nat} {o : Oper} (ho : ops[i]? = some o) (hb : ¬ Bf ops i k) {x : Operand} (hx : x ∈ o.op.operands) (la : AV) : evO (cO σ none x) fr1 la = evO (cO σ none x) fr la := by
  rcases h with rfl | ⟨q, d, v, hq, hd, rfl⟩
  · rfl
  · exact F.ops_put ho hq hd hb hx la
theorem Aside.says (F : RF D n ops σ) (h : Aside ops k fr fr1) {i : Nat} {o : Oper} (ho : ops[i]? = some o) (hb : ¬ Bf ops i k) : gsay ops fr1 o = gsay ops fr o := by
  rcases h with rfl | ⟨q, d, v, hq, hd, rfl⟩
  · rfl
  · exact F.gsay_put ho hq hd hb
theorem Aside.dst (F : RF D n ops σ) (h : Aside ops k fr fr1) {i : Nat} {o : Oper} (ho : ops[i]? = some o) (hik : i ≠ k) {d : Nat} (hd : o.dst = some d) : get3 (Slot.of d) fr1 = get3 (Slot.of d) fr := by
  rcases h with rfl | ⟨q, d', v, hq, hd', rfl⟩
  · rfl
  · rw [get3_put3, if_neg]
    intro z
    have := Slot.of_inj (F.lt ho hd) (F.lt hq hd') z
    subst this
    exact hik (F.once i o d ho hd k q hq hd')
theorem Aside.tmp (F : RF D n ops σ) (h : Aside ops k fr fr1) {t : Nat} (ht : t < n) (hne : ∀ q, ops[k]? = some q → q.dst ≠ some t) (la : AV) : evO (cO σ none (.tmp t)) fr1 la = evO (cO σ none (.tmp t)) fr la := by
  rcases h with rfl | ⟨q, d', v, hq, hd', rfl⟩
  · rfl
  · refine evO_put F.hn (F.dst hq hd') (fun t' e => ?_) (fun t y h => by obtain ⟨h1, h2⟩ := F.free h; exact ⟨h1, fun e => h2 k q hq (by rw [hd', e])⟩)
    injection e with e; subst e
    exact ⟨ht, fun _ e => hne q hq (by rw [hd', e])⟩
theorem Aside.drop (F : RF D n ops σ) (h : Aside ops k fr fr1) (hm : ∀ q, ops[k]? = some q → isMoved σ q = false) {t : Nat} (ht : t < n) (hb : Nat.testBit D t = true) (hu : get3 (Slot.of t) fr = .s .un) : get3 (Slot.of t) fr1 = .s .un := by
  rcases h with rfl | ⟨q, d', v, hq, hd', rfl⟩
  · exact hu
  · rw [get3_put3, if_neg]
    · exact hu
    intro z
    have := Slot.of_inj (Nat.lt_of_lt_of_le ht (Nat.le_succ_of_le F.hn)) (F.lt hq hd') z
    subst this
    obtain ⟨_, h2, _⟩ := F.notMoved hq (hm q hq) hd'
    rw [h2] at hb; cases hb
theorem Aside.top (F : RF D n ops σ) (h : Aside ops k fr fr1) {v : AV} (ht : get3 topS fr = v) : get3 topS fr1 = v := by
  rcases h with rfl | ⟨q, d', u, hq, hd', rfl⟩
  · exact ht
  · have hd := F.dst hq hd'
    have hn := F.hn
    rw [top_of, get3_put3, if_neg (fun q => by have := Slot.of_inj (by omega) (by omega) q; omega), ← top_of]; exact ht
theorem Aside.opsR (F : RF D n ops σ) (h : Aside ops k fr fr1) {i : Nat} {o : Oper} (ho : ops[i]? = some o) (hb : ¬ Bf ops i k) {m : Mp} {a : Act} (hr : OpsR C o (cO σ none) fr1 la m a) (la' : AV) : OpsR C o (cO σ none) fr la' m a := fun x hx => by
  have := hr x hx
  rw [h.op F ho hb hx la] at this
  rwa [evO_none σ x fr la' la]
/-- what waits goes on waiting. -/
theorem Pend.frame (F : RF D n ops σ) (h : Aside ops k fr fr1) {i : Nat} {o : Oper} (ho : ops[i]? = some o) (hb : ¬ Bf ops i k) (hik : i ≠ k) {mk mk' : Prop} {p : Pid} (hp' : Pend P C K ops σ nx0 o fr hp nx m mk p) {hp1 : Hp} {nx1 : Pid} {m1 : Mp}
    (hread : ∀ v, (∀ d, o.dst = some d → get3 (Slot.of d) fr1 = v) → gsay ops fr1 o = some true → isRd (cOp P K (cO σ none) o) = true → Readers P C o (OpsR C o (cO σ none) fr un0) hp v → Will P C K σ nx0 o fr1 hp1 nx1 m1 mk' p v)
    (hmake : mk → m p = .un → p.num < nx.num → mk' ∧ m1 p = .un ∧ p.num < nx1.num ∧ get5 p hp1 = get5 p hp) : Pend P C K ops σ nx0 o fr1 hp1 nx1 m1 mk' p := by
  obtain ⟨v, h1, h2⟩ := hp'
  have hv : ∀ d, o.dst = some d → get3 (Slot.of d) fr1 = v := fun d hd => by rw [h.dst F ho hik hd]; exact h1 d hd
  refine ⟨v, hv, ?_⟩
  rcases h2 with ⟨hg, hW⟩ | ⟨hg, hu⟩
  · left
    have hg' : gsay ops fr1 o = some true := by rw [h.says F ho hb]; exact hg
    refine ⟨hg', ?_⟩
    cases hW with
    | pure hW => exact .pure (hW.mono fun m a hr => h.opsR F ho hb hr _)
    | read hr hW => exact hread v hv hg' hr hW
    | make ob hW hk hm h0 hl hob =>
      obtain ⟨a1, a2, a3, a4⟩ := hmake hk hm hl
      exact .make ob (hW.mono fun m a hr => h.opsR F ho hb hr _) a1 a2 h0 a3 (by rw [a4]; exact hob)
  · right; exact ⟨by rw [h.says F ho hb]; exact hg, hu⟩
end

/-- the executor does one more that is not loud. -/
theorem OS.exec (F : RF D n ops σ) (hih : CallOK P C ih) (hK : KnownOK P C K) (h : OS P C K base D n ops σ T m0 hp0 nx0 w0 Mk pn ord done fr hp nx listed m a w) {i : Nat} {o : Oper} (ho : ops[i]? = some o) (hnd : Nat.testBit done i = false)
    (hbf : ∀ j, Bf ops i j → Nat.testBit done j = true) (hl : loudO o.op = false) {s r : List AStep} (hs : oneStep P K D ops σ o = some s) (hrun : runSteps ih (s ++ r) fr la hp nx = .ok e frF hpF nxF) :
    ∃ Mk' pn' fr1 la1 hp1 nx1, OS P C K base D n ops σ T m0 hp0 nx0 w0 Mk' pn' (ord ++ [i]) (Nat.lor done (2 ^ i)) fr1 hp1 nx1 listed m a w ∧ runSteps ih r fr1 la1 hp1 nx1 = .ok e frF hpF nxF := by
  have hli : Li listed i = false := by
    cases hli : Li listed i with
    | false => rfl
    | true => have := h.sub i hli; rw [hnd] at this; cases this
  have hself : ¬ Bf ops i i := fun hb => by have := hbf i hb; rw [hnd] at this; cases this
  have hnb : ∀ j, Nat.testBit done j = true → ¬ Bf ops j i := fun j hj hb => by
    have := (h.ordB i).2 (h.ordI.closed ((h.ordB j).1 hj) hb)
    rw [hnd] at this; cases this
  have hne : ∀ j, Nat.testBit done j = true → j ≠ i := fun j hj e => by subst e; rw [hnd] at hj; cases hj
  have bits : ∀ j, Nat.testBit (Nat.lor done (2 ^ i)) j = true ↔ (Nat.testBit done j = true ∨ j = i) := fun j => by
    rw [lor_bit]; simp only [Bool.or_eq_true, decide_eq_true_eq]; exact ⟨fun h => h.imp id Eq.symm, fun h => h.imp id Eq.symm⟩
  have mk : ∀ (Mk' : Nat → Prop) (pn' : Nat → Pid) (fr1 : Fr) (hp1 : Hp) (nx1 : Pid), Aside ops i fr fr1 → (∀ q, ops[i]? = some q → fr1 ≠ fr → isMoved σ q = false) → Good P C base m0 hp0 nx0 w0 m hp1 nx1 w →
      (∀ j q, ops[j]? = some q → Nat.testBit done j = true → Li listed j = false → isMoved σ q = false → Pend P C K ops σ nx0 q fr1 hp1 nx1 m (Mk' j) (pn' j)) →
      (isMoved σ o = false → Pend P C K ops σ nx0 o fr1 hp1 nx1 m (Mk' i) (pn' i)) → (∀ i j, Mk' i → Mk' j → pn' i = pn' j → i = j) → (∀ j, Mk' j → (pn' j).num < nx1.num) →
      OS P C K base D n ops σ T m0 hp0 nx0 w0 Mk' pn' (ord ++ [i]) (Nat.lor done (2 ^ i)) fr1 hp1 nx1 listed m a w := fun Mk' pn' fr1 hp1 nx1 hA hmv hG hP hPi hdist hmkp => by
    refine ⟨h.sz, fun j hj => (bits j).2 (.inl (h.sub j hj)), h.cl, fun j q hq hd hlq => ?_, hG, fun t ht hc => ?_, fun t ht hb => ?_, h.size, h.defers, hA.top F h.top, fun j q hq hd hlj hmj => ?_, .snoc h.ordI fun j hj => (h.ordB j).1 (hbf j hj), fun j => ?_, fun j hj => ?_, hdist, hmkp⟩
    · rcases (bits j).1 hd with hd | rfl
      · exact h.loud j q hq hd hlq
      · rw [ho] at hq; injection hq with hq; subst hq; rw [hl] at hlq; cases hlq
    · rw [hA.tmp F ht (fun q hq => by rw [ho] at hq; injection hq with hq; subst hq; exact hc i o ho hli)]
      exact h.rel t ht hc
    · by_cases hfe : fr1 = fr
      · rw [hfe]; exact h.drop t ht hb
      · exact hA.drop F (fun q hq => hmv q hq hfe) ht hb (h.drop t ht hb)
    · rcases (bits j).1 hd with hd | rfl
      · exact hP j q hq hd hlj hmj
      · rw [ho] at hq; injection hq with hq; subst hq; exact hPi hmj
    · rw [bits]; simp only [List.mem_append, List.mem_singleton]; rw [h.ordB j]
    · rcases List.mem_append.1 hj with hj | hj
      · exact h.inb j hj
      · rw [List.mem_singleton] at hj; subst hj; exact ⟨o, ho⟩
  -- what waits, over a memory that is not smaller
  have wait : ∀ {fr1 : Fr} {hp1 : Hp} {nx1 : Pid} {Mk' : Nat → Prop} {pn' : Nat → Pid}, Aside ops i fr fr1 → Wider hp hp1 → (∀ p : Pid, p.num < nx.num → get5 p hp1 = get5 p hp) → nx.num ≤ nx1.num → (∀ j, j ≠ i → (Mk j → Mk' j) ∧ pn' j = pn j) →
      ∀ j q, ops[j]? = some q → Nat.testBit done j = true → Li listed j = false → isMoved σ q = false → Pend P C K ops σ nx0 q fr1 hp1 nx1 m (Mk' j) (pn' j) := fun {fr1 hp1 nx1 Mk' pn'} hA hW hold hle hMk j q hq hd hlj hmj => by
    obtain ⟨g1, g2⟩ := hMk j (hne j hd)
    rw [g2]
    exact (h.pend j q hq hd hlj hmj).frame F hA hq (hnb j hd) (hne j hd) (fun v _ _ hr hR => .read hr (hR.mono (fun m a hr => hA.opsR F hq (hnb j hd) hr _) hW))
      (fun hk hm hlt => ⟨g1 hk, hm, by omega, hold _ hlt⟩)
  unfold oneStep at hs
  split at hs
  · rename_i hmv
    injection hs with hs; subst hs
    exact ⟨Mk, pn, fr, la, hp, nx, mk Mk pn fr hp nx (.inl rfl) (fun _ _ h => absurd rfl h) h.good (wait (.inl rfl) (.refl _) (fun _ _ => rfl) (Nat.le_refl _) fun j _ => ⟨id, rfl⟩) (fun q => by rw [hmv] at q; cases q) h.dist h.mkp, hrun⟩
  · rename_i hmv
    have hmv : isMoved σ o = false := by cases q : isMoved σ o with | false => rfl | true => exact absurd q hmv
    have hmv' : ∀ q, ops[i]? = some q → isMoved σ q = false := fun q hq => by rw [ho] at hq; injection hq with hq; subst hq; exact hmv
    rcases open_run F hs hrun with ⟨hg, v, hp1, nx1, h1, h2⟩ | ⟨hg, h2⟩
    · have hA : Aside ops i fr (putF (dstOf D o) v fr) := aside_put F ho hmv v
      have hslot : ∀ d, o.dst = some d → get3 (Slot.of d) (putF (dstOf D o) v fr) = v := fun d hd => by
        obtain ⟨_, _, h3⟩ := F.notMoved ho hmv hd
        rw [h3]; show get3 (Slot.of d) (put3 (Slot.of d) v fr) = v
        rw [get3_put3, if_pos rfl]
      have hg' : gsay ops (putF (dstOf D o) v fr) o = some true := by rw [hA.says F ho hself]; exact hg
      have hR : ∀ (m : Mp) (a : Act), OpsR C o (cO σ none) (putF (dstOf D o) v fr) un0 m a → OpsR C o (cO σ none) fr la m a := fun m a hr => hA.opsR F ho hself hr la
      cases class_ok hih hK h1 with
      | pure hc e1 e2 =>
        subst e1; subst e2
        exact ⟨Mk, pn, _, v, _, _, mk Mk pn _ _ _ hA (fun q hq _ => hmv' q hq) h.good (wait hA (.refl _) (fun _ _ => rfl) (Nat.le_refl _) fun j _ => ⟨id, rfl⟩) (fun _ => ⟨v, hslot, .inl ⟨hg', .pure (hc.mono hR)⟩⟩) h.dist h.mkp, h2⟩
      | read hr hc e1 e2 =>
        subst e1; subst e2
        exact ⟨Mk, pn, _, v, _, _, mk Mk pn _ _ _ hA (fun q hq _ => hmv' q hq) h.good (wait hA (.refl _) (fun _ _ => rfl) (Nat.le_refl _) fun j _ => ⟨id, rfl⟩) (fun _ => ⟨v, hslot, .inl ⟨hg', .read hr (hc.mono hR (.refl _))⟩⟩) h.dist h.mkp, h2⟩
      | make ob hc e1 e2 =>
        subst e1
        have hfresh : m nx = .un := h.good.sr.fresh nx (Nat.le_refl _)
        refine ⟨fun j => j = i ∨ Mk j, fun j => if j = i then nx else pn j, _, v, _, _, mk _ _ _ _ _ hA (fun q hq _ => hmv' q hq) (h.good.reserve e2 ob)
          (wait hA (.put (h.good.sr.clean nx (Nat.le_refl _)) ob) (fun p hp => by rw [get5_put5, if_neg (fun q => by subst q; omega)]) (by omega) fun j hj => ⟨.inr, by rw [if_neg hj]⟩)
          (fun _ => ⟨v, hslot, .inl ⟨hg', ?_⟩⟩) (fun j k hj hk hjk => ?_) (fun j hj => ?_), h2⟩
        · have : (if i = i then nx else pn i) = nx := if_pos rfl
          refine .make ob (by rw [this]; exact hc.mono hR) (.inl rfl) (by rw [this]; exact hfresh) (by rw [this]; exact h.good.le) (by rw [this]; omega) (by rw [this, get5_put5, if_pos rfl])
        · by_cases q1 : j = i <;> by_cases q2 : k = i
          · rw [q1, q2]
          · simp only [q1, q2, if_true, if_false] at hjk
            have := h.mkp k (hk.resolve_left q2); rw [← hjk] at this; omega
          · simp only [q1, q2, if_true, if_false] at hjk
            have := h.mkp j (hj.resolve_left q1); rw [hjk] at this; omega
          · simp only [q1, q2, if_false] at hjk
            exact h.dist j k (hj.resolve_left q1) (hk.resolve_left q2) hjk
        · by_cases q1 : j = i
          · simp only [q1, if_true]; omega
          · simp only [q1, if_false]; have := h.mkp j (hj.resolve_left q1); omega
      | loud hl' _ => rw [hl] at hl'; cases hl'
    · have hA : Aside ops i fr (putF (dstOf D o) undefA fr) := aside_put F ho hmv undefA
      have hslot : ∀ d, o.dst = some d → get3 (Slot.of d) (putF (dstOf D o) undefA fr) = undefA := fun d hd => by
        obtain ⟨_, _, h3⟩ := F.notMoved ho hmv hd
        rw [h3]; show get3 (Slot.of d) (put3 (Slot.of d) undefA fr) = undefA
        rw [get3_put3, if_pos rfl]
      have hg' : gsay ops (putF (dstOf D o) undefA fr) o = some false := by rw [hA.says F ho hself]; exact hg
      exact ⟨Mk, pn, _, undefA, _, _, mk Mk pn _ _ _ hA (fun q hq _ => hmv' q hq) h.good (wait hA (.refl _) (fun _ _ => rfl) (Nat.le_refl _) fun j _ => ⟨id, rfl⟩) (fun _ => ⟨undefA, hslot, .inr ⟨hg', rfl⟩⟩) h.dist h.mkp, h2⟩

/-- .. all that may come. -/
theorem OS.eager (F : RF D n ops σ) (hih : CallOK P C ih) (hK : KnownOK P C K) {last : Option Nat} : ∀ {l : List Nat} {done : Nat} {Mk : Nat → Prop} {pn : Nat → Pid} {ord : List Nat} {fr : Fr} {la : AV} {hp : Hp} {nx : Pid} {d : Nat} {r1 r : List AStep},
    OS P C K base D n ops σ T m0 hp0 nx0 w0 Mk pn ord done fr hp nx listed m a w → cEager P K D ops σ (Region.before ops) last done l = some (d, r1) → runSteps ih (r1 ++ r) fr la hp nx = .ok e frF hpF nxF →
    ∃ Mk' pn' ord' fr1 la1 hp1 nx1, OS P C K base D n ops σ T m0 hp0 nx0 w0 Mk' pn' ord' d fr1 hp1 nx1 listed m a w ∧ runSteps ih r fr1 la1 hp1 nx1 = .ok e frF hpF nxF := by
  intro l
  induction l with
  | nil =>
    intro done Mk pn ord fr la hp nx d r1 r h hE hrun
    injection hE with hE; injection hE with e1 e2
    subst e1; subst e2
    exact ⟨Mk, pn, ord, fr, la, hp, nx, h, hrun⟩
  | cons i l ihl =>
    intro done Mk pn ord fr la hp nx d r1 r h hE hrun
    rcases cEager_cons hE with ⟨hE, -⟩ | ⟨o, s, r', ho, h1, h2, h3, h4, h5, h6, rfl⟩
    · exact ihl h hE hrun
    · rw [List.append_assoc] at hrun
      obtain ⟨Mk', pn', fr1, la1, hp1, nx1, g1, g2⟩ := h.exec F hih hK ho h1 (fun j hj => land_sub h3 hj) h2 h5 hrun
      exact ihl g1 h6 g2
end
end Go.X
end

/-! Regions: whatever their order, they do what the executor does. -/
noncomputable section
namespace Go.X
section
variable {P : Program} {C : Ctx} {K : Known} {ih : CallF} {base : Nat} {D n : Nat} {ops : Array Oper} {σ : Subst} {T : DT} {m0 : Mp} {hp0 : Hp} {nx0 : Pid} {w0 : World}
variable {Mk : Nat → Prop} {pn : Nat → Pid} {ord : List Nat} {done : Nat} {fr : Fr} {hp : Hp} {nx : Pid} {listed : Array Bool} {m : Mp} {a : Act} {w : World}
variable {la : AV} {e : Ex} {frF : Fr} {hpF : Hp} {nxF : Pid}

/-- the model does the next loud one, and the executor with it. -/
theorem OS.next (F : RF D n ops σ) (hih : CallOK P C ih) (hK : KnownOK P C K) (h : OS P C K base D n ops σ T m0 hp0 nx0 w0 Mk pn ord done fr hp nx listed m a w) {k : Nat} {o : Oper} (ho : ops[k]? = some o) (hnd : Nat.testBit done k = false)
    (hl : loudO o.op = true) (hr : ∀ j, Bf ops k j → Li listed j = true) {all : List Nat} (hall : ∀ i, i < ops.size → i ∈ all) {s1 s2 r : List AStep} (h1 : cOpen P K D ops σ o = some s1) (h2 : cChks P K ops σ (Region.before ops) done k all = some s2)
    (hrun : runSteps ih (s1 ++ (s2 ++ r)) fr la hp nx = .ok e frF hpF nxF) {Q : Exit → Act → World → Prop} {K' : Act → World → Prop} :
    ∃ fr1 la1 hp1 nx1, runSteps ih r fr1 la1 hp1 nx1 = .ok e frF hpF nxF ∧
      ((∀ m' a' w', OS P C K base D n ops σ T m0 hp0 nx0 w0 Mk pn (ord ++ [k]) (Nat.lor done (2 ^ k)) fr1 hp1 nx1 (listed.setIfInBounds k true) m' a' w' → K' a' w') → wpOp P ops Q k K' a w) := by
  have hmv : isMoved σ o = false := by
    cases q : isMoved σ o with
    | false => rfl
    | true => obtain ⟨_, _, _, _, _, hop, _⟩ := F.moved ho q; rw [hop] at hl; cases hl
  have hli : Li listed k = false := by
    cases hli : Li listed k with
    | false => rfl
    | true => have := h.sub k hli; rw [hnd] at this; cases this
  have hbf : ∀ j, Bf ops k j → Nat.testBit done j = true := fun j hj => h.sub j (hr j hj)
  have hself : ¬ Bf ops k k := fun hb => by have := hbf k hb; rw [hnd] at this; cases this
  have hnb : ∀ j, Nat.testBit done j = true → ¬ Bf ops j k := fun j hj hb => by
    have := (h.ordB k).2 (h.ordI.closed ((h.ordB j).1 hj) hb)
    rw [hnd] at this; cases this
  have hne : ∀ j, Nat.testBit done j = true → j ≠ k := fun j hj e => by subst e; rw [hnd] at hj; cases hj
  have bits : ∀ j, Nat.testBit (Nat.lor done (2 ^ k)) j = true ↔ (Nat.testBit done j = true ∨ j = k) := fun j => by
    rw [lor_bit]; simp only [Bool.or_eq_true, decide_eq_true_eq]; exact ⟨fun h => h.imp id Eq.symm, fun h => h.imp id Eq.symm⟩
  have hi : k < listed.size := by rw [h.sz]; exact (Array.getElem?_eq_some_iff.1 ho).1
  have hset : ∀ j, Li (listed.setIfInBounds k true) j = (if j = k then true else Li listed j) := fun j => li_set hi
  -- the state behind it
  have mk : ∀ (fr1 : Fr) (hp1 : Hp) (nx1 : Pid) (m' : Mp) (w' : World) (v : AV) (u : Value), Aside ops k fr fr1 → (∀ d, o.dst = some d → get3 (Slot.of d) fr1 = v) → AVR C m' v u → Good P C base m hp nx w m' hp1 nx1 w' →
      (∀ j q, ops[j]? = some q → Nat.testBit done j = true → Li listed j = false → isMoved σ q = false → Pend P C K ops σ nx0 q fr1 hp1 nx1 m' (Mk j) (pn j)) →
      OS P C K base D n ops σ T m0 hp0 nx0 w0 Mk pn (ord ++ [k]) (Nat.lor done (2 ^ k)) fr1 hp1 nx1 (listed.setIfInBounds k true) m' (a.put o.dst u) w' := fun fr1 hp1 nx1 m' w' v u hA hslot hv hG hP => by
    refine ⟨by simp [h.sz], fun j hj => ?_, fun j j' hj hb => ?_, fun j q hq hdj hlq => ?_, h.good.trans hG, fun t ht hc => ?_, fun t ht hb => hA.drop F (fun q hq => by rw [ho] at hq; injection hq with hq; subst hq; exact hmv) ht hb (h.drop t ht hb),
      by rw [put_size]; exact h.size, by rw [put_defers']; exact h.defers, hA.top F h.top, fun j q hq hdj hlj hm => ?_, .snoc h.ordI fun j hj => (h.ordB j).1 (hbf j hj), fun j => ?_, fun j hj => ?_, h.dist, fun j hj => Nat.lt_of_lt_of_le (h.mkp j hj) hG.le⟩
    · rw [hset] at hj; split at hj
      · rename_i e; exact (bits j).2 (.inr e)
      · exact (bits j).2 (.inl (h.sub j hj))
    · rw [hset] at hj ⊢; split
      · rfl
      · split at hj
        · rename_i e; subst e; exact hr j' hb
        · exact h.cl j j' hj hb
    · rw [hset]; split
      · rfl
      · rename_i hjk
        exact h.loud j q hq (((bits j).1 hdj).resolve_right hjk) hlq
    · by_cases e : o.dst = some t
      · rw [e, eval_put_same (Nat.lt_of_lt_of_le ht h.size)]
        obtain ⟨g1, _⟩ := F.notMoved ho hmv e
        rw [(evO_tmp σ t fr1 un0).2.1 g1, hslot t e]; exact hv
      · have g1 : (a.put o.dst u).eval (.tmp t) = a.eval (.tmp t) := by
          cases hd' : o.dst with
          | none => rfl
          | some d => exact eval_put_ne (fun q => e (by rw [hd', q]))
        rw [g1, hA.tmp F ht (fun q hq => by rw [ho] at hq; injection hq with hq; subst hq; exact e)]
        refine (h.rel t ht fun j q hq hlj => ?_).ext hG.ext
        by_cases e2 : j = k
        · subst e2; rw [ho] at hq; injection hq with hq; subst hq; exact e
        · exact hc j q hq (by rw [hset, if_neg e2]; exact hlj)
    · rw [hset] at hlj; split at hlj
      · cases hlj
      · rename_i hjk
        exact hP j q hq (((bits j).1 hdj).resolve_right hjk) hlj hm
    · rw [bits]; simp only [List.mem_append, List.mem_singleton]; rw [h.ordB j]
    · rcases List.mem_append.1 hj with hj | hj
      · exact h.inb j hj
      · rw [List.mem_singleton] at hj; subst hj; exact ⟨o, ho⟩
  have hslots : ∀ v d, o.dst = some d → get3 (Slot.of d) (putF (dstOf D o) v fr) = v := fun v d hd => by
    obtain ⟨_, _, h3⟩ := F.notMoved ho hmv hd
    rw [h3]; show get3 (Slot.of d) (put3 (Slot.of d) v fr) = v
    rw [get3_put3, if_pos rfl]
  rcases open_run F h1 hrun with ⟨hg, v, hp1, nx1, g1, g2⟩ | ⟨hg, g2⟩
  · obtain ⟨g3, g4⟩ := chks_run F h2 g2
    refine ⟨_, _, _, _, g4, fun hK' => wpOp_run ho (h.wanted F ho hr hg) ?_⟩
    refine (class_ok hih hK g1).louds base m a w (opsR_la (h.opsR F ho hr)) h.good.sr _ _ fun m' u w' hv hG => hK' m' _ w' ?_
    have hA : Aside ops k fr (putF (dstOf D o) v fr) := aside_put F ho hmv v
    refine mk _ _ _ m' w' v u hA (hslots v) hv hG fun j q hq hdj hlj hmj => ?_
    have hlq : loudO q.op = false := by
      cases z : loudO q.op with
      | false => rfl
      | true => have := h.loud j q hq hdj z; rw [hlj] at this; cases this
    refine (h.pend j q hq hdj hlj hmj).frame F hA hq (hnb j hdj) (hne j hdj) (fun v' hv' hgs hrd _ => ?_) (fun hk hm hlt => ?_)
    · have hbk : bef (Region.before ops) k j = false := by
        cases z : bef (Region.before ops) k j with
        | false => rfl
        | true => have := hr j z; rw [hlj] at this; cases this
      obtain ⟨x, hx, hrr⟩ := g3 j (hall j (Array.getElem?_eq_some_iff.1 hq).1) q hq hdj hrd hlq hmj hbk
      obtain ⟨hp2, nx2, hrun2⟩ := hrr hgs
      rw [hv' x hx] at hrun2
      have hRla : ∀ (m : Mp) (a : Act), OpsR C q (cO σ none) (putF (dstOf D o) v fr) un0 m a → OpsR C q (cO σ none) (putF (dstOf D o) v fr) v m a := fun m a hr => opsR_la hr
      cases class_ok hih hK hrun2 with
      | pure hc _ _ => exact .pure (hc.mono hRla)
      | read hr' hc _ _ => exact .read hr' (hc.mono hRla (.refl _))
      | make ob hc _ e2 => have := rd_same P C hrd hrun2; subst this; omega
      | loud hl' _ => rw [hlq] at hl'; cases hl'
    · obtain ⟨q1, q2⟩ := hG.kept _ hm hlt
      exact ⟨hk, q1, Nat.lt_of_lt_of_le hlt hG.le, q2⟩
  · obtain ⟨g3, g4⟩ := chks_run F h2 g2
    refine ⟨_, _, _, _, g4, fun hK' => wpOp_not ho (h.wanted F ho hr hg) (hK' m _ w ?_)⟩
    have hA : Aside ops k fr (putF (dstOf D o) undefA fr) := aside_put F ho hmv undefA
    refine mk _ _ _ m w undefA undef hA (hslots undefA) undefA_ok (.refl h.good.sr) fun j q hq hdj hlj hmj => ?_
    exact (h.pend j q hq hdj hlj hmj).frame F hA hq (hnb j hdj) (hne j hdj) (fun v' _ _ hrd hR => .read hrd (hR.mono (fun m a hr => hA.opsR F hq (hnb j hdj) hr _) (.refl _))) (fun hk hm hlt => ⟨hk, hm, hlt, rfl⟩)

/-- what is left of the plan. -/
inductive Rem (P : Program) (K : Known) (D : Drop) (ops : Array Oper) (σ : Subst) (all : List Nat) : List Nat → Nat → List AStep → Prop
  | nil {d : Nat} (h : ∀ i, i < ops.size → Nat.testBit d i = true) : Rem P K D ops σ all [] d []
  | cons {k : Nat} {l : List Nat} {d : Nat} {o : Oper} {s1 s2 s3 : List AStep} (ho : ops[k]? = some o) (hl : loudO o.op = true) (hb : ∀ j, Bf ops k j → Nat.testBit d j = true) (hd : Nat.testBit d k = false)
      (h1 : cOpen P K D ops σ o = some s1) (h2 : cChks P K ops σ (Region.before ops) d k all = some s2) (h3 : cLoud P K D ops σ (Region.before ops) all (Nat.lor d (2 ^ k)) (some k) l = some s3)
      (hw : ∀ i, i < ops.size → Nat.testBit d i = false → i ≠ k → ∃ j ∈ k :: l, Bf ops i j) (hn : ∀ j ∈ k :: l, Nat.testBit d j = false) (hll : ∀ j ∈ l, ∀ q, ops[j]? = some q → loudO q.op = true) :
      Rem P K D ops σ all (k :: l) d (s1 ++ (s2 ++ s3))
theorem notDone {all : List Nat} : ∀ (l : List Nat) {done : Nat} {last : Option Nat} {r : List AStep}, cLoud P K D ops σ (Region.before ops) all done last l = some r →
    ∀ {d : Nat} {r1 : List AStep}, cEager P K D ops σ (Region.before ops) last done all = some (d, r1) → ∀ j ∈ l, Nat.testBit d j = false := by
  intro l
  induction l with
  | nil => intro _ _ _ _ _ _ _ j hj; cases hj
  | cons k l ih =>
    intro done last r h d r1 h1 j hj
    obtain ⟨d', r1', o, s1, s2, s3, h2, ho, h3, h4, h5, h6, h7, h8, -⟩ := cLoud_cons h
    rw [h1] at h2; injection h2 with h2; injection h2 with h2 h9; subst h2
    rcases List.mem_cons.1 hj with e | hj
    · rw [e]; exact h5
    · have : ∃ d2 r2, cEager P K D ops σ (Region.before ops) (some k) (Nat.lor d (2 ^ k)) all = some (d2, r2) := by
        cases l with
        | nil => obtain ⟨d2, h, -⟩ := cLoud_nil h8; exact ⟨d2, _, h⟩
        | cons k' l => obtain ⟨d2, r2, _, _, _, _, h, -⟩ := cLoud_cons h8; exact ⟨d2, r2, h⟩
      obtain ⟨d2, r2, h10⟩ := this
      have h11 := ih h8 h10 j hj
      cases q : Nat.testBit d j with
      | false => rfl
      | true =>
        have := (cEager_grow h10).1 j (by rw [lor_bit, q]; rfl)
        rw [h11] at this; cases this
theorem Rem.of {all : List Nat} (hall : ∀ i, i ∈ all ↔ i < ops.size) {l : List Nat} {done : Nat} {last : Option Nat} {r : List AStep} (h : cLoud P K D ops σ (Region.before ops) all done last l = some r) (hll : ∀ j ∈ l, ∀ q, ops[j]? = some q → loudO q.op = true) :
    ∃ d r1 r2, cEager P K D ops σ (Region.before ops) last done all = some (d, r1) ∧ r = r1 ++ r2 ∧ Rem P K D ops σ all l d r2 := by
  cases l with
  | nil =>
    obtain ⟨d, h1, h2⟩ := cLoud_nil h
    exact ⟨d, r, [], h1, by simp, .nil fun i hi => h2 i ((hall i).2 hi)⟩
  | cons k l =>
    obtain ⟨d, r1, o, s1, s2, s3, h1, ho, h3, h4, h5, h6, h7, h8, rfl⟩ := cLoud_cons h
    exact ⟨d, r1, _, h1, rfl, .cons ho (hll k (by simp) o ho) (fun j hj => land_sub h3 hj) h5 h6 h7 h8
      (fun i hi hd hik => later (fun i hi => (hall i).2 hi) (k :: l) h h1 i hi hd (by simp [Ne.symm hik])) (notDone (k :: l) h h1) (fun j hj => hll j (List.mem_cons_of_mem _ hj))⟩

theorem count_set {l : Array Bool} {i : Nat} (hi : i < l.size) (h : Li l i = false) : (l.setIfInBounds i true).toList.count false + 1 = l.toList.count false := by
  have hi' : i < l.toList.length := by simpa using hi
  have hg : l.toList[i] = false := by simpa [Li, hi] using h
  rw [Array.toList_setIfInBounds, List.count_set hi', hg]
  have : 0 < l.toList.count false := List.count_pos_iff.2 (hg ▸ List.getElem_mem hi')
  rw [show (false == false) = true from rfl, show (true == false) = false from rfl]
  simp only [if_true, Bool.false_eq_true, if_false]
  omega

/-- whatever the order. -/
theorem any_ok (F : RF D n ops σ) (hih : CallOK P C ih) (hK : KnownOK P C K) {all : List Nat} (hall : ∀ i, i ∈ all ↔ i < ops.size) {Q : Exit → Act → World → Prop}
    (hQ : ∀ m' a' w', e = .norm → FR C D n T m' frF a' → Good P C base m0 hp0 nx0 w0 m' hpF nxF w' → Q .normal a' w') :
    ∀ (fuel : Nat) {l : List Nat} {d : Nat} {rest : List AStep} {Mk : Nat → Prop} {pn : Nat → Pid} {ord : List Nat} {fr : Fr} {la : AV} {hp : Hp} {nx : Pid} {listed : Array Bool} {m : Mp} {a : Act} {w : World},
      OS P C K base D n ops σ T m0 hp0 nx0 w0 Mk pn ord d fr hp nx listed m a w → Rem P K D ops σ all l d rest → runSteps ih rest fr la hp nx = .ok e frF hpF nxF → listed.toList.count false ≤ fuel → wpAny P .any ops Q fuel listed a w := by
  -- all are listed: the end
  have fin : ∀ {l : List Nat} {d : Nat} {rest : List AStep} {Mk : Nat → Prop} {pn : Nat → Pid} {ord : List Nat} {fr : Fr} {la : AV} {hp : Hp} {nx : Pid} {listed : Array Bool} {m : Mp} {a : Act} {w : World},
      OS P C K base D n ops σ T m0 hp0 nx0 w0 Mk pn ord d fr hp nx listed m a w → Rem P K D ops σ all l d rest → runSteps ih rest fr la hp nx = .ok e frF hpF nxF → (∀ i, i < ops.size → Li listed i = true) → Q .normal a w := by
    intro l d rest Mk pn ord fr la hp nx listed m a w h hrem hrun hli
    cases hrem with
    | nil hd =>
      have hrun : Cr.ok .norm fr hp nx = .ok e frF hpF nxF := hrun
      injection hrun with h1 h2 h3 h4
      subst h1; subst h2; subst h3; subst h4
      refine hQ m a w rfl ⟨fun t ht => ?_, h.drop, h.size, h.defers, h.top⟩ h.good
      have hr := h.rel t ht (fun i o ho hl => by rw [hli i (Array.getElem?_eq_some_iff.1 ho).1] at hl; cases hl)
      cases hs : substOf σ t with
      | none => rwa [(evO_tmp σ t fr un0).2.1 hs] at hr
      | some x =>
        obtain ⟨_, _, _, _, _, _, hb, _⟩ := F.sub t x hs
        rw [h.drop t ht hb]; trivial
    | cons ho _ _ hd _ _ _ _ _ _ =>
      have := h.sub _ (hli _ (Array.getElem?_eq_some_iff.1 ho).1)
      rw [hd] at this; cases this
  intro fuel
  induction fuel with
  | zero =>
    intro l d rest Mk pn ord fr la hp nx listed m a w h hrem hrun hc
    have hli : ∀ i, i < ops.size → Li listed i = true := fun i hi => by
      have hi' : i < listed.size := by rw [h.sz]; exact hi
      cases q : Li listed i with
      | true => rfl
      | false => have := count_set hi' q; omega
    refine ⟨?_, fin h hrem hrun hli⟩
    cases hr : Region.ready .any ops listed with
    | nil => rfl
    | cons i t =>
      obtain ⟨h1, h2, _⟩ := ready_bf (h.cl) (show i ∈ Region.ready .any ops listed by rw [hr]; simp)
      rw [hli i (by rw [← h.sz]; exact h2)] at h1; cases h1
  | succ fuel ihf =>
    intro l d rest Mk pn ord fr la hp nx listed m a w h hrem hrun hc
    refine ⟨fun hr => fin h hrem hrun fun i hi => ?_, fun i hi => ?_⟩
    · -- nobody may come: all are listed
      cases q : Li listed i with
      | true => rfl
      | false =>
        exfalso
        have no : ∀ j (o : Oper), ops[j]? = some o → Li listed j = false → (∀ x, Bf ops j x → Li listed x = true) → False := fun j o ho hl hb => by
          have := bf_ready ho h.sz hl hb
          rw [hr] at this; cases this
        have inE : ∀ j, Nat.testBit d j = true → Li listed j = true := fun j hj => by
          cases z : Li listed j with
          | true => rfl
          | false =>
            obtain ⟨x, x1, x2, x3⟩ := h.ordI.first ((h.ordB j).1 hj) z
            obtain ⟨o, ho⟩ := h.inb x x1
            exact (no x o ho x2 x3).elim
        cases hrem with
        | nil hd => have := inE i (hd i hi); rw [q] at this; cases this
        | cons ho h1 hb hd h2 h3 h4 h5 h6 h7 =>
          rename_i k l o s1 s2 s3
          have hk : Li listed k = false := by
            cases z : Li listed k with
            | false => rfl
            | true => have := h.sub k z; rw [hd] at this; cases this
          exact no k _ ho hk fun x hx => inE x (hb x hx)
    · obtain ⟨hl, hlt, o, ho, hb⟩ := ready_bf h.cl hi
      have hcnt := count_set hlt hl
      cases hd : Nat.testBit d i with
      | true => exact h.step F ho hd hl hb fun m' a' w' h' => ihf h' hrem hrun (by omega)
      | false =>
        cases hrem with
        | nil hdall => have := hdall i (Array.getElem?_eq_some_iff.1 ho).1; rw [hd] at this; cases this
        | cons hok hlk hbk hdk h1 h2 h3 hw hn hll =>
          rename_i k l o' s1 s2 s3
          by_cases hik : i = k
          · subst hik
            obtain ⟨fr1, la1, hp1, nx1, g1, g2⟩ := h.next F hih hK hok hdk hlk hb (fun j hj => (hall j).2 hj) h1 h2 hrun (Q := Q) (K' := wpAny P .any ops Q fuel (listed.setIfInBounds i true))
            refine g2 fun m' a' w' h' => ?_
            obtain ⟨d2, r1, r2, e1, e2, e3⟩ := Rem.of hall h3 hll
            rw [e2] at g1
            obtain ⟨Mk', pn', ord', fr2, la2, hp2, nx2, q1, q2⟩ := h'.eager F hih hK e1 g1
            exact ihf q1 e3 q2 (by omega)
          · obtain ⟨j, hj, hbj⟩ := hw i (Array.getElem?_eq_some_iff.1 ho).1 hd hik
            have := h.sub j (hb j hbj)
            rw [hn j hj] at this; cases this
end

section
variable {P : Program} {C : Ctx} {K : Known} {ih : CallF} {base : Nat} {D n : Nat} {T : DT} {ops : Array Oper}
theorem rf_of (hn : n ≤ 511) (hf : ∀ o ∈ ops.toList, fitO n o = true) (h : openOk D ops (openSubst D ops) (Region.before ops) = true) : RF D n ops (openSubst D ops) := by
  unfold openOk at h
  simp only [List.all_eq_true] at h
  have at_ : ∀ (i : Nat) (o : Oper), ops[i]? = some o → (o, i) ∈ ops.toList.zipIdx := fun i o ho => by
    rw [List.mem_zipIdx_iff_getElem?]; simpa using ho
  refine ⟨hf, hn, fun d x hs => ?_, fun i o t ho ht j q hq hd => ?_, fun i o d ho hd j q hq hdq => ?_, fun i o d ho hd hb => ?_⟩
  · have hm := substOf_mem hs
    unfold openSubst at hm
    obtain ⟨o, ho, hx⟩ := List.mem_filterMap.1 hm
    have ho : o ∈ ops := by simpa using ho
    obtain ⟨i, hi⟩ := Array.getElem?_of_mem ho
    split at hx
    · rename_i v d' hg hop hd
      split at hx
      · rename_i hb
        injection hx with hx; injection hx with e1 e2
        subst e1; subst e2
        exact ⟨i, o, hi, hg, hop, hd, hb, .inl ⟨v, rfl⟩⟩
      · cases hx
    · rename_i t d' hg hop hd
      split at hx
      · rename_i hb
        simp only [Bool.and_eq_true, List.all_eq_true, bne_iff_ne, ne_eq] at hb
        injection hx with hx; injection hx with e1 e2
        subst e1; subst e2
        exact ⟨i, o, hi, hg, hop, hd, hb.1, .inr ⟨t, rfl, fun j q hq => hb.2 q (by simpa using Array.mem_of_getElem? hq)⟩⟩
      · cases hx
    · cases hx
  · have := h (o, i) (at_ i o ho)
    simp only [Bool.and_eq_true, List.all_eq_true] at this
    have := this.1 t ht (q, j) (at_ j q hq)
    simp only [Bool.or_eq_true, bne_iff_ne, ne_eq] at this
    exact this.resolve_left (fun z => z hd)
  · have := h (o, i) (at_ i o ho)
    simp only [Bool.and_eq_true, hd] at this
    have := (List.all_eq_true.1 this.2.1) (q, j) (at_ j q hq)
    simp only [Bool.or_eq_true, bne_iff_ne, ne_eq, beq_iff_eq] at this
    exact this.resolve_left (fun z => z hdq)
  · have := h (o, i) (at_ i o ho)
    simp only [Bool.and_eq_true, hd] at this
    have := this.2.2
    rw [hb] at this
    simpa using this

theorem World.drew_eq (w : World) : w.drew = { w with drawn := w.drawn + 1 } := rfl

/-- a region, whether it draws or not. -/
theorem region_ok (hih : CallOK P C ih) (hK : KnownOK P C K) (hn : n ≤ 511) (hmd : P.follows .mixedOrders = true) {id : Nat} {draw : Bool} {Q : Exit → Act → World → Prop} {fr frF : Fr} {hp hpF : Hp} {nx nxF : Pid} {m : Mp} {a : Act} {w : World} {e : Ex}
    (hF : FR C D n T m fr a) (hs : SR P C base m hp nx w) (hrun : runSteps ih (cRegion P K D n ops draw) fr un0 hp nx = .ok e frF hpF nxF)
    (hQ : ∀ m' a' w', e = .norm → FR C D n T m' frF a' → Good P C base m hp nx w m' hpF nxF w' → Q .normal a' w') : (Code.region id ops draw).wp P Q a w := by
  have bad : ∀ {X : Prop}, runSteps ih [.st .bad none] fr un0 hp nx = .ok e frF hpF nxF → X := fun h => by
    have h : stSt .bad none ih fr un0 hp nx (runSteps ih []) = .ok e frF hpF nxF := h
    obtain ⟨v, hp1, nx1, h1, -⟩ := stSt_ok h
    exact bad_no h1
  unfold cRegion at hrun
  split at hrun
  · rename_i hfit
    have hfit : ∀ o ∈ ops.toList, fitO n o = true := List.all_eq_true.1 hfit
    cases draw with
    | false =>
      refine wp_region ?_
      rw [List.range_eq_range']
      have := line_ok (base := base) (r2 := []) hih hK hn hfit ops.toList 0 [] none fr un0 hp nx m a w ⟨[], by simp⟩ ⟨hF, fun p hp => (by cases hp), fun t ht => (by cases ht)⟩ hs hrun hQ
      simpa using this
    | true =>
      simp only [if_true] at hrun
      split at hrun
      · rename_i hok
        have F := rf_of hn hfit hok
        refine wp_region_any hmd ?_
        cases hc : cLoud P K D ops (openSubst D ops) (Region.before ops) (List.range ops.size) 0 none ((List.range ops.size).filter fun i => ((ops[i]?).map (loudO ·.op)).getD false) with
        | none => rw [hc] at hrun; exact bad hrun
        | some steps =>
          rw [hc] at hrun
          have hrun : runSteps ih steps fr un0 hp nx = .ok e frF hpF nxF := hrun
          have hall : ∀ i, i ∈ List.range ops.size ↔ i < ops.size := fun i => List.mem_range
          obtain ⟨d, r1, r2, e1, e2, e3⟩ := Rem.of hall hc (fun j hj q hq => by
            obtain ⟨_, hj⟩ := List.mem_filter.1 hj
            rw [hq] at hj; simpa using hj)
          rw [e2] at hrun
          have hz : ∀ i, Nat.testBit 0 i = false := fun i => by simp
          have hli : ∀ i, Li (Array.replicate ops.size false) i = false := fun i => by
            simp only [Li, Array.getD_eq_getD_getElem?, Array.getElem?_replicate]; split <;> rfl
          have hD := hs.drew
          rw [World.drew_eq] at hD
          have h0 : OS P C K base D n ops (openSubst D ops) T m hp nx w (fun _ => False) (fun _ => nx) [] 0 fr hp nx (Array.replicate ops.size false) m a { w with drawn := w.drawn + 1 } := by
            refine ⟨by simp, fun i hi => (by rw [hli] at hi; cases hi), fun i j hi => (by rw [hli] at hi; cases hi), fun i o _ hi => (by rw [hz] at hi; cases hi), hD, fun t ht hc => ?_, hF.drop, hF.size, hF.defers, hF.top,
              fun i o _ hi => (by rw [hz] at hi; cases hi), .nil, fun i => ⟨fun hi => (by rw [hz] at hi; cases hi), fun hi => (by cases hi)⟩, fun i hi => (by cases hi), fun _ _ h => h.elim, fun _ h => h.elim⟩
            cases hs' : substOf (openSubst D ops) t with
            | none => rw [(evO_tmp _ t fr un0).2.1 hs']; exact hF.rel t ht
            | some x => obtain ⟨i, o, ho, hd⟩ := F.key hs'; exact absurd hd (hc i o ho (hli i))
          obtain ⟨Mk', pn', ord', fr2, la2, hp2, nx2, q1, q2⟩ := h0.eager F hih hK e1 hrun
          refine any_ok F hih hK hall hQ ops.size q1 e3 q2 ?_
          simp
      · exact bad hrun
  · exact bad hrun
end
end Go.X
end

/-! Regions that begin with a choice; calls that wait for the function's end. -/
noncomputable section
namespace Go.X
open Go.Conc (rcase scase G solo)

section
variable {P : Program} {C : Ctx} {K : Known} {ih : CallF} {base : Nat} {D n : Nat} {T : DT} {ops : Array Oper}

/-- the first operation by a step of the machine's; the others one behind the other. -/
theorem wp_region_first {id : Nat} {o : Oper} {Q : Exit → Act → World → Prop} {a : Act} {w w' : World} {v : Value} (h0 : ops[0]? = some o)
    (hstep : ∀ (b : Frame) (k : List Item) (cs : List Frame) (rest : List Nat), step P (lone (b.at a (.inRegion ops (0 :: rest) :: k)) cs w) = .next (lone (b.at (a.put o.dst v) (.inRegion ops rest :: k)) cs w'))
    (h : wpOps P ops Q (List.range' 1 (ops.size - 1)) (a.put o.dst v) w') : (Code.region id ops false).wp P Q a w := by
  intro b k cs
  have hs : 0 < ops.size := (Array.getElem?_eq_some_iff.1 h0).1
  have hr : List.range ops.size = 0 :: List.range' 1 (ops.size - 1) := by
    rw [List.range_eq_range', show ops.size = (ops.size - 1) + 1 by omega, List.range'_succ]; simp
  obtain ⟨e, a', w'', hq, har⟩ := wp_ops _ _ _ h b k cs
  refine ⟨e, a', w'', hq, .of_steps (.head step_region ?_) har⟩
  rw [hr]
  exact .one (hstep b k cs _)

/-- the operation's own step, up to the choice. -/
theorem comm_of {o : Oper} {a : Act} {w : World} {cases : Array CommCase} (h0 : ops[0]? = some o) (hg : o.guard = none) (hrun : (execOp a.eval o).run P w = .ok (.comm cases false .select) w) (b : Frame) (k : List Item) (cs : List Frame) (rest : List Nat) :
    ∃ es, stepG P true (G (b.at a (.inRegion ops (0 :: rest) :: k)) cs) w = .comm (G (b.at a (.inRegion ops (0 :: rest) :: k)) cs) cases false .select w es := by
  have hs := stepG_op (P := P) (b := b) (k := k) (cs := cs) (w := w) (rest := rest) h0 (wanted_none (y := yielded ops a.tmps) hg)
  unfold G
  rw [hs]
  refine ⟨(stepG.apply P true (b.at a (.inRegion ops (0 :: rest) :: k)) cs none (execOp a.eval o) w).es, ?_⟩
  simp [stepG.apply, Sem.runT_eq, hrun, GStep.after, GStep.es]

theorem run_select {o : Oper} {a : Act} {w : World} {s : SelectCase} {z : Value} {i : TypeInfo} (ho : o.op = .select #[s] false) (hi : P.info? s.elem = some i) (hz : i.zero = some z) :
    (execOp a.eval o).run P w = .ok (.comm #[{ chan := a.eval s.chan, send := s.send.map a.eval, zero := z }] false .select) w := by
  unfold execOp
  rw [ho]
  have hzv : (zeroValue s.elem).run P w = .ok z w := by simp [zeroValue, typeInfo, hi, hz]
  simp [Array.mapM_eq_mapM_toList, hzv]

theorem arC_ok {d : Option Slot} {fr fr' : Fr} {r : Ar} {e : Ex} {hp' : Hp} {nx' : Pid} (h : arC d fr r = .ok e fr' hp' nx') : ∃ v, r = .ok v hp' nx' ∧ e = .norm ∧ fr' = putF d v fr := by
  cases r with
  | bad => cases h
  | ok v hp nx =>
    have h : putD d v fr (fun fr => Cr.ok .norm fr hp nx) = .ok e fr' hp' nx' := h
    rw [putD_eq] at h
    injection h with h1 h2 h3 h4
    subst h1; subst h2; subst h3; subst h4
    exact ⟨v, rfl, rfl, rfl⟩

theorem plain_op {m : Mp} {fr : Fr} {a : Act} (hF : FR C D n T m fr a) {x : Operand} (hx : fitX n x = true) : AVR C m (evO (plainO x) fr un0) (a.eval x) := by
  cases x with
  | tmp t =>
    show AVR C m (getFr (Slot.of t) fr) _
    rw [getFr_eq]; exact hF.rel t (by simpa [fitX] using hx)
  | const v => exact valA_ok v
  | global g => trivial
  | func f => exact ⟨[], rfl, trivial⟩

/-- a receive that does not wait. -/
theorem selr_step {hp hp' : Hp} {nx nx' : Pid} {z : V1} {x : AV} {v : AV} (h : opSelr z x hp nx = .ok v hp' nx') {m : Mp} {w : World} (hs : SR P C base m hp nx w) {a : Act} {o : Oper} {s : SelectCase} {zv : Value} {i : TypeInfo}
    (h0 : ops[0]? = some o) (hg : o.guard = none) (ho : o.op = .select #[s] false) (hsend : s.send = none) (hi : P.info? s.elem = some i) (hz : i.zero = some zv) (hzr : V1R C m z zv) (hx : AVR C m x (a.eval s.chan)) :
    ∃ u w', (∀ (b : Frame) (k : List Item) (cs : List Frame) (rest : List Nat), step P (lone (b.at a (.inRegion ops (0 :: rest) :: k)) cs w) = .next (lone (b.at (a.put o.dst u) (.inRegion ops rest :: k)) cs w')) ∧
      AVR C m v u ∧ Good P C base m hp nx w m hp' nx' w' := by
  obtain ⟨y, rfl, g⟩ := asS_ok h
  obtain ⟨b, rfl, g1⟩ := svChan_ok g
  rw [getHp_eq] at g1
  obtain ⟨cap, l, hob, g2⟩ := obChan_ok g1
  have hx : RefR m b (fun B => .chan (some B)) (a.eval s.chan) := hx
  obtain ⟨B, δ, N, es', hm, hb1, hb2, hO⟩ := hs.at (b := b) (by rw [hob]; simp) (ref_un hx)
  have hch := ref_live hx hm
  rw [hob] at hO
  obtain ⟨hδ, buf, sent, rcv, hw, hT⟩ := hO
  have hrun := run_select (P := P) (a := a) (w := w) ho hi hz
  rw [hsend, hch] at hrun
  have hfin : ∀ (bf : Frame) (k : List Item) (rest : List Nat) (u : Value), (bf.at a (.inRegion ops (0 :: rest) :: k)).finish u = bf.at (a.put o.dst u) (.inRegion ops rest :: k) := fun bf k rest u => by rw [Frame.finish_at, h0]; rfl
  cases l with
  | nil =>
    obtain ⟨rfl, rfl, rfl⟩ := ok_ok (show Ar.ok _ hp nx = _ from g2)
    have hb : buf = #[] := by
      have := hT.len
      simp only [List.length_nil, Array.length_toList] at this
      exact Array.eq_empty_of_size_eq_zero this.symm
    subst hb
    refine ⟨.tuple #[goInt (-1), .bool false, zv], w, fun bf k cs rest => ?_, ⟨[goInt (-1), .bool false, zv], rfl, rfl, rfl, hzr, trivial⟩, .refl hs⟩
    obtain ⟨es, hcm⟩ := comm_of h0 hg hrun bf k cs rest
    have := Conc.step_lone_select_default hcm hw
    rw [hfin] at this
    exact this
  | cons x l =>
    have g2 : setHp b (.chan cap l) hp (fun hp => Ar.ok (.t [.s (int64 0), .s (.bool true), x]) hp nx) = .ok v hp' nx' := g2
    rw [setHp_eq] at g2
    obtain ⟨rfl, rfl, rfl⟩ := ok_ok g2
    obtain ⟨u0, us, hbl, hx0, hus⟩ : ∃ u0 us, buf.toList = u0 :: us ∧ V1R C m x u0 ∧ TupR C m l us := by
      cases hl : buf.toList with
      | nil => rw [hl] at hT; exact hT.elim
      | cons u0 us => rw [hl] at hT; exact ⟨u0, us, rfl, hT.1, hT.2⟩
    have hbuf : buf = (u0 :: us).toArray := by rw [← hbl]
    have hget : buf.getD 0 undef = u0 := by rw [hbuf]; rfl
    have hext : (buf.extract 1 buf.size).toList = us := by rw [hbuf]; simp
    refine ⟨.tuple #[goInt 0, .bool true, buf.getD 0 undef], w.setChan B cap (buf.extract 1 buf.size) false sent (rcv + 1) false, fun bf k cs rest => ?_, ⟨[goInt 0, .bool true, buf.getD 0 undef], rfl, rfl, rfl, by rw [hget]; exact hx0, trivial⟩, ?_⟩
    · obtain ⟨es, hcm⟩ := comm_of h0 hg hrun bf k cs rest
      have := Conc.step_lone_select_recv_buf hcm hw (by rw [hbuf]; simp)
      rw [hfin] at this
      exact this
    · refine hs.update hm _ (fun j hj => ?_) ?_ rfl rfl rfl ⟨hδ, buf.extract 1 buf.size, sent, rcv + 1, ?_, by rw [hext]; exact hus⟩
      · simp [World.setChan, Ne.symm hj]
      · simp [World.setChan]
      · simp [World.setChan, hb2]

/-- a send that does not wait. -/
theorem sels_step {hp hp' : Hp} {nx nx' : Pid} {x y : AV} {v : AV} (h : opSels x y hp nx = .ok v hp' nx') {m : Mp} {w : World} (hs : SR P C base m hp nx w) {a : Act} {o : Oper} {s : SelectCase} {sx : Operand} {zv : Value} {i : TypeInfo}
    (h0 : ops[0]? = some o) (hg : o.guard = none) (ho : o.op = .select #[s] false) (hsend : s.send = some sx) (hi : P.info? s.elem = some i) (hz : i.zero = some zv) (hx : AVR C m x (a.eval s.chan)) (hy : AVR C m y (a.eval sx)) :
    ∃ u w', (∀ (b : Frame) (k : List Item) (cs : List Frame) (rest : List Nat), step P (lone (b.at a (.inRegion ops (0 :: rest) :: k)) cs w) = .next (lone (b.at (a.put o.dst u) (.inRegion ops rest :: k)) cs w')) ∧
      AVR C m v u ∧ Good P C base m hp nx w m hp' nx' w' := by
  obtain ⟨q, rfl, g⟩ := asS_ok h
  obtain ⟨b, rfl, g1⟩ := svChan_ok g
  obtain ⟨y, rfl, g1'⟩ := avV1_ok g1
  rw [getHp_eq] at g1'
  obtain ⟨cap, l, hob, g2⟩ := obChan_ok g1'
  have hx : RefR m b (fun B => .chan (some B)) (a.eval s.chan) := hx
  obtain ⟨B, δ, N, es', hm, hb1, hb2, hO⟩ := hs.at (b := b) (by rw [hob]; simp) (ref_un hx)
  have hch := ref_live hx hm
  rw [hob] at hO
  obtain ⟨hδ, buf, sent, rcv, hw, hT⟩ := hO
  have hlen : l.length = buf.size := by have := hT.len; simpa using this
  have hrun := run_select (P := P) (a := a) (w := w) ho hi hz
  rw [hsend, hch] at hrun
  have hfin : ∀ (bf : Frame) (k : List Item) (rest : List Nat) (u : Value), (bf.at a (.inRegion ops (0 :: rest) :: k)).finish u = bf.at (a.put o.dst u) (.inRegion ops rest :: k) := fun bf k rest u => by rw [Frame.finish_at, h0]; rfl
  unfold selSL at g2
  rcases ifB_or g2 with ⟨hle, g3⟩ | ⟨hle, g3⟩
  · have hle : l.length + 1 ≤ cap := by have := ble_le hle; rw [lenK_eq] at this; exact this
    rw [appK_eq, setHp_eq] at g3
    obtain ⟨rfl, rfl, rfl⟩ := ok_ok g3
    refine ⟨.tuple #[goInt 0, .bool false], w.setChan B cap (buf.push (a.eval sx)) false (sent + 1) rcv false, fun bf k cs rest => ?_, ⟨[goInt 0, .bool false], rfl, rfl, rfl, trivial⟩, ?_⟩
    · obtain ⟨es, hcm⟩ := comm_of h0 hg hrun bf k cs rest
      have := Conc.step_lone_select_send_room hcm hw (by omega)
      rw [hfin] at this
      exact this
    · refine hs.update hm _ (fun j hj => ?_) ?_ rfl rfl rfl ⟨hδ, buf.push (a.eval sx), sent + 1, rcv, ?_, ?_⟩
      · simp [World.setChan, Ne.symm hj]
      · simp [World.setChan]
      · simp [World.setChan, hb2]
      · have : ∀ (l : List V1) (us : List Value), TupR C m l us → TupR C m (l ++ [y]) (us ++ [a.eval sx]) := by
          intro l
          induction l with
          | nil => intro us h; cases us with | nil => exact ⟨V1R.of_av hy, trivial⟩ | cons _ _ => exact h.elim
          | cons z l ih => intro us h; cases us with | nil => exact h.elim | cons u us => exact ⟨h.1, ih us h.2⟩
        rw [Array.toList_push]
        exact this _ _ hT
  · have hle : ¬ l.length + 1 ≤ cap := fun q => by
      have := Nat.ble_eq_true_of_le q
      rw [lenK_eq] at hle
      rw [show Nat.succ l.length = l.length + 1 from rfl] at hle
      rw [this] at hle; cases hle
    obtain ⟨rfl, rfl, rfl⟩ := ok_ok g3
    refine ⟨.tuple #[goInt (-1), .bool false], w, fun bf k cs rest => ?_, ⟨[goInt (-1), .bool false], rfl, rfl, rfl, trivial⟩, .refl hs⟩
    obtain ⟨es, hcm⟩ := comm_of h0 hg hrun bf k cs rest
    have := Conc.step_lone_select_send_full hcm hw (by omega)
    rw [hfin] at this
    exact this
end
end Go.X
end

/-! Code and calls: what the executor reckons, the model does. -/
noncomputable section
namespace Go.X

/-- a loop whose rounds bring a number down. -/
theorem wp_loop_by {P : Program} {Q : Exit → Act → World → Prop} {c : Code} (J : Nat → Act → World → Prop)
    (round : ∀ k a w, J k a w → c.wp P (Exit.then (fun a' w' => ∃ k', k' < k ∧ J k' a' w') Q) a w) : ∀ {k : Nat} {a : Act} {w : World}, J k a w → (Code.loop c).wp P Q a w := by
  have key : ∀ (N k : Nat) (a : Act) (w : World), k ≤ N → J k a w → ∀ (b : Frame) (t : List Item) (cs : List Frame),
      ∃ e a' w', Q e a' w' ∧ Arrives P (lone (b.at a (.code c :: .inLoop c :: t)) cs w) b t cs e a' w' := by
    intro N
    induction N with
    | zero =>
      intro k a w hk hJ b t cs
      obtain ⟨e, a1, w1, hq, har⟩ := round k a w hJ b (.inLoop c :: t) cs
      cases e with
      | normal => obtain ⟨k', h1, _⟩ := hq; omega
      | _ => exact ⟨_, a1, w1, hq, .pass (x := .inLoop c) rfl (fun _ _ => .inl (by simp)) har⟩
    | succ N ih =>
      intro k a w hk hJ b t cs
      obtain ⟨e, a1, w1, hq, har⟩ := round k a w hJ b (.inLoop c :: t) cs
      cases e with
      | normal =>
        obtain ⟨k', h1, h2⟩ := hq
        obtain ⟨e2, a2, w2, hq2, har2⟩ := ih k' a1 w1 (by omega) h2 b t cs
        exact ⟨e2, a2, w2, hq2, .of_steps (Steps.trans har (.one step_inLoop)) har2⟩
      | _ => exact ⟨_, a1, w1, hq, .pass (x := .inLoop c) rfl (fun _ _ => .inl (by simp)) har⟩
  intro k a w h b t cs
  obtain ⟨e, a', w', hq, har⟩ := key k k a w (Nat.le_refl _) h b t cs
  exact ⟨e, a', w', hq, .of_steps (.one step_loop) har⟩

/-- the call that waits, as the executor and the model have it. -/
def DTR (K : Known) (m : Mp) (T : DT) : Prop :=
  (T.tp = .s .un ∧ T.ds = []) ∨ ∃ f b o u, K f = some .unlock ∧ T.tp = .s (.fn f [(b, o)]) ∧ PtrR m b o u ∧ T.ds = [{ target := .fn (.func f) #[], args := #[u] }]
theorem DTR.ext {K : Known} {m m' : Mp} {T : DT} (h : DTR K m T) (e : Ext m m') : DTR K m' T :=
  h.imp id fun ⟨f, b, o, u, h1, h2, h3, h4⟩ => ⟨f, b, o, u, h1, h2, h3.ext e, h4⟩

/-- how the executor says that code ends. -/
def exOf : Ex → Exit
  | .norm => .normal
  | .exit id => .exit id
  | .ret => .ret

section
variable {P : Program} {C : Ctx} {K : Known} {base : Nat} {D n : Nat} {call : CallF} {self : ACode → CodeF}

/-- code does what its run says. -/
def CodeOK (P : Program) (C : Ctx) (K : Known) (base D n : Nat) (run : CodeF) (c : Code) : Prop :=
  ∀ fr hp nx e fr' hp' nx', run fr hp nx = .ok e fr' hp' nx' → ∀ T m a w, DTR K m T → FR C D n T m fr a → SR P C base m hp nx w → ∀ Q : Exit → Act → World → Prop,
    (∀ T' m' a' w', DTR K m' T' → FR C D n T' m' fr' a' → Good P C base m hp nx w m' hp' nx' w' → Q (exOf e) a' w') → c.wp P Q a w

theorem thenC_ok {r : Cr} {k : CodeF} {e : Ex} {fr : Fr} {hp : Hp} {nx : Pid} (h : thenC r k = .ok e fr hp nx) :
    ∃ e1 fr1 hp1 nx1, r = .ok e1 fr1 hp1 nx1 ∧ ((e1 = .norm ∧ k fr1 hp1 nx1 = .ok e fr hp nx) ∨ (e1 ≠ .norm ∧ e = e1 ∧ fr = fr1 ∧ hp = hp1 ∧ nx = nx1)) := by
  cases r with
  | bad => cases h
  | ok e1 fr1 hp1 nx1 =>
    refine ⟨e1, fr1, hp1, nx1, rfl, ?_⟩
    cases e1 with
    | norm => exact .inl ⟨rfl, h⟩
    | exit id =>
      have h : Cr.ok (.exit id) fr1 hp1 nx1 = .ok e fr hp nx := h
      injection h with h1 h2 h3 h4
      exact .inr ⟨fun q => (by cases q), h1.symm, h2.symm, h3.symm, h4.symm⟩
    | ret =>
      have h : Cr.ok .ret fr1 hp1 nx1 = .ok e fr hp nx := h
      injection h with h1 h2 h3 h4
      exact .inr ⟨fun q => (by cases q), h1.symm, h2.symm, h3.symm, h4.symm⟩
theorem then_of {next : Act → World → Prop} {Q : Exit → Act → World → Prop} {e : Ex} {a : Act} {w : World} (h : e ≠ .norm) (hq : Q (exOf e) a w) : Exit.then next Q (exOf e) a w := by
  cases e with
  | norm => exact absurd rfl h
  | exit id => exact hq
  | ret => exact hq

theorem sel_ok {fnOf : Nat → AFun} {k : Nat} {T : DT} (hih : CallOK P C (callF fnOf (runF fnOf k))) (hK : KnownOK P C K) (hn : n ≤ 511) {id : Nat} {ops : Array Oper} {c : ACode} (hc : cSel P K D n ops = some c) {fr fr' : Fr} {hp hp' : Hp} {nx nx' : Pid} {e : Ex}
    (h : runF fnOf (k + 1) c fr hp nx = .ok e fr' hp' nx') {m : Mp} {a : Act} {w : World} (hD : DTR K m T) (hF : FR C D n T m fr a) (hs : SR P C base m hp nx w) {Q : Exit → Act → World → Prop}
    (hQ : ∀ T' m' a' w', DTR K m' T' → FR C D n T' m' fr' a' → Good P C base m hp nx w m' hp' nx' w' → Q (exOf e) a' w') : (Code.region id ops false).wp P Q a w := by
  unfold cSel at hc
  split at hc
  · rename_i o l hops
    split at hc
    · rename_i cs hop hg
      split at hc
      · rename_i s hcs
        split at hc
        · rename_i i hi
          split at hc
          · rename_i z hz
            split at hc
            · rename_i hcond
              simp only [Bool.and_eq_true] at hcond
              have hfit : ∀ o ∈ ops.toList, fitO n o = true := List.all_eq_true.1 hcond.1
              have h0 : ops[0]? = some o := by
                have := congrArg (·[0]?) hops
                simpa using this
              have hsz : ops.size - 1 = l.length := by
                have := congrArg List.length hops
                simp only [Array.length_toList, List.length_cons] at this
                omega
              have hop : o.op = .select #[s] false := by rw [hop, arr_one hcs]
              have hfo := hfit o (by rw [hops]; simp)
              have rest : ∀ {v : AV} {hp1 : Hp} {nx1 : Pid} {u : Value} {w1 : World}, runF fnOf (k + 1) (.reg (cLine P K D ops [] none l)) (putF (dstOf D o) v fr) hp1 nx1 = .ok e fr' hp' nx' → AVR C m v u → Good P C base m hp nx w m hp1 nx1 w1 →
                  (∀ (b : Frame) (t : List Item) (cs : List Frame) (rest : List Nat), step P (lone (b.at a (.inRegion ops (0 :: rest) :: t)) cs w) = .next (lone (b.at (a.put o.dst u) (.inRegion ops rest :: t)) cs w1)) →
                  (Code.region id ops false).wp P Q a w := fun {v hp1 nx1 u w1} hr hv hG hstep => by
                refine wp_region_first h0 hstep ?_
                have hr : runSteps (callF fnOf (runF fnOf k)) (cLine P K D ops [] none l) (putF (dstOf D o) v fr) un0 hp1 nx1 = .ok e fr' hp' nx' := hr
                have hF1 : FR C D n T m (putF (dstOf D o) v fr) (a.put o.dst u) := hF.put hn (fitO_dst hfo) rfl hv
                have := line_ok (base := base) (r2 := []) (Q := Q) hih hK hn hfit l 1 [] none _ un0 hp1 nx1 m _ w1 ⟨[], by rw [hops]; simp⟩ ⟨hF1, fun p hp => (by cases hp), fun t ht => (by cases ht)⟩ hG.sr hr
                  (fun m' a' w' he hF' hG' => by subst he; exact hQ T m' a' w' ((hD.ext hG'.ext)) hF' (hG.trans hG'))
                rw [hsz]; simpa using this
              have hch := plain_op hF (x := s.chan) (fitO_op hfo _ (by rw [hop]; simp [Op.operands]))
              split at hc
              · rename_i hsend
                injection hc with hc; subst hc
                have h : thenC (arC (dstOf D o) fr (opSelr (val1 z) (evO (plainO s.chan) fr un0) hp nx)) (runF fnOf (k + 1) (.reg (cLine P K D ops [] none l))) = .ok e fr' hp' nx' := h
                obtain ⟨e1, fr1, hp1, nx1, h1, h2⟩ := thenC_ok h
                obtain ⟨v, h3, rfl, rfl⟩ := arC_ok h1
                rcases h2 with ⟨_, h2⟩ | ⟨hne, _⟩
                · obtain ⟨u, w1, hst, hv, hG⟩ := selr_step h3 hs h0 hg hop hsend hi hz (val1_ok hcond.2) hch
                  exact rest h2 hv hG hst
                · exact absurd rfl hne
              · rename_i sx hsend
                injection hc with hc; subst hc
                have h : thenC (arC (dstOf D o) fr (opSels (evO (plainO s.chan) fr un0) (evO (plainO sx) fr un0) hp nx)) (runF fnOf (k + 1) (.reg (cLine P K D ops [] none l))) = .ok e fr' hp' nx' := h
                obtain ⟨e1, fr1, hp1, nx1, h1, h2⟩ := thenC_ok h
                obtain ⟨v, h3, rfl, rfl⟩ := arC_ok h1
                rcases h2 with ⟨_, h2⟩ | ⟨hne, _⟩
                · have hy := plain_op hF (x := sx) (fitO_op hfo _ (by rw [hop]; simp [Op.operands, hsend]))
                  obtain ⟨u, w1, hst, hv, hG⟩ := sels_step h3 hs h0 hg hop hsend hi hz hch hy
                  exact rest h2 hv hG hst
                · exact absurd rfl hne
            · cases hc
          · cases hc
        · cases hc
      · cases hc
    · cases hc
  · cases hc

theorem defK_ok {f : Nat} {x v : AV} {fr fr' : Fr} {hp hp' : Hp} {nx nx' : Pid} {e : Ex} (h : defK f x fr hp nx v = .ok e fr' hp' nx') :
    v = .s .un ∧ ∃ b o, x = .s (.ptr b o) ∧ e = .norm ∧ fr' = put3 topS (.s (.fn f [(b, o)])) fr ∧ hp' = hp ∧ nx' = nx := by
  cases v with
  | a l => cases h
  | t l => cases h
  | s y =>
    cases y <;> first | (cases h; done) | skip
    cases x with
    | a l => cases h
    | t l => cases h
    | s z =>
      cases z <;> first | (cases h; done) | skip
      rename_i b o
      have h : setFr topS (.s (.fn f [(b, o)])) fr (fun fr => Cr.ok .norm fr hp nx) = .ok e fr' hp' nx' := h
      rw [setFr_eq] at h
      injection h with h1 h2 h3 h4
      exact ⟨rfl, b, o, rfl, h1.symm, h2.symm, h3.symm, h4.symm⟩

theorem def_ok {fnOf : Nat → AFun} {k : Nat} {T : DT} (hih : CallOK P C (callF fnOf (runF fnOf k))) (hK : KnownOK P C K) (hn : n ≤ 511) {id : Nat} {ops : Array Oper} {c : ACode} (hc : cDef P K D n ops = some c) {fr fr' : Fr} {hp hp' : Hp} {nx nx' : Pid} {e : Ex}
    (h : runF fnOf (k + 1) c fr hp nx = .ok e fr' hp' nx') {m : Mp} {a : Act} {w : World} (hD : DTR K m T) (hF : FR C D n T m fr a) (hs : SR P C base m hp nx w) {Q : Exit → Act → World → Prop}
    (hQ : ∀ T' m' a' w', DTR K m' T' → FR C D n T' m' fr' a' → Good P C base m hp nx w m' hp' nx' w' → Q (exOf e) a' w') : (Code.region id ops false).wp P Q a w := by
  unfold cDef at hc
  split at hc
  · rename_i o hlast
    split at hc
    · rename_i f args ats hop hg hd
      split at hc
      · rename_i x hargs hKf
        split at hc
        · rename_i hfit
          injection hc with hc; subst hc
          have hfit : ∀ o ∈ ops.toList, fitO n o = true := List.all_eq_true.1 hfit
          have hsplit : ops.toList = ops.toList.dropLast ++ [o] := by
            have hne : ops.toList ≠ [] := fun q => by rw [q] at hlast; cases hlast
            have h1 := List.dropLast_concat_getLast hne
            have h2 : ops.toList.getLast hne = o := by
              have := List.getLast?_eq_some_getLast hne
              rw [hlast] at this
              injection this with this
              exact this.symm
            rw [h2] at h1; exact h1.symm
          have hlen : ops.size = ops.toList.dropLast.length + 1 := by
            have := congrArg List.length hsplit
            simpa using this
          have ho : ops[ops.toList.dropLast.length]? = some o := by
            have : ops.toList[ops.toList.dropLast.length]? = some o := by
              rw [hsplit, List.getElem?_append_right (by simp)]
              simp
            simpa using this
          have hfo := hfit o (by rw [hsplit]; simp)
          have h : thenC (runSteps (callF fnOf (runF fnOf k)) (cLine P K D ops [] none ops.toList.dropLast) fr un0 hp nx) (runF fnOf (k + 1) (.defr f (plainO x))) = .ok e fr' hp' nx' := h
          obtain ⟨e1, fr1, hp1, nx1, h1, h2⟩ := thenC_ok h
          refine wp_region ?_
          have hr : List.range ops.size = List.range' 0 ops.toList.dropLast.length ++ [ops.toList.dropLast.length] := by
            rw [List.range_eq_range', hlen, List.range'_concat]; simp
          rw [hr]
          refine line_ok (base := base) hih hK hn hfit _ 0 [] none fr un0 hp nx m a w ⟨[o], by simpa using hsplit⟩ ⟨hF, fun p hp => (by cases hp), fun t ht => (by cases ht)⟩ hs h1 fun m1 a1 w1 he hF1 hG1 => ?_
          subst he
          rcases h2 with ⟨_, h2⟩ | ⟨hne, _⟩
          · have h2 : defK f (evO (plainO x) fr1 un0) fr1 hp1 nx1 (getFr topS fr1) = .ok e fr' hp' nx' := h2
            obtain ⟨htop, b, off, hx, rfl, rfl, rfl, rfl⟩ := defK_ok h2
            rw [getFr_eq] at htop
            have hv := plain_op hF1 (x := x) (fitO_op hfo x (by rw [hop]; simp only [Op.operands, Call.operands]; exact Array.mem_append.2 (.inr (by rw [arr_one hargs]; simp))))
            rw [hx] at hv
            refine wpOps_some ho (wanted_none hg) ?_
            unfold Oper.wp execOp
            rw [hop]
            have hres : (resolve a1.eval ⟨.value (.func f), args, ats⟩ o.type).run P w1 = .ok { target := .fn (.func f) #[], args := #[a1.eval x] } w1 := by
              rw [arr_one hargs]
              simp [resolve, Deferred.ofValue, Act.eval]
            simp only [Sem.run_bind, hres, Result.andThen_ok, Sem.run_pure]
            show wpOps P ops Q [] ({ a1 with defers := { target := .fn (.func f) #[], args := #[a1.eval x] } :: a1.defers }.put o.dst undef) w1
            rw [hd]
            have hds : T.ds = [] := by
              rcases hD with ⟨_, h⟩ | ⟨f', b', o', u', _, h, _⟩
              · exact h
              · have := hF1.top; rw [htop] at this; rw [← this] at h; cases h
            refine hQ ⟨[{ target := .fn (.func f) #[], args := #[a1.eval x] }], .s (.fn f [(b, off)])⟩ m1 _ w1 (.inr ⟨f, b, off, a1.eval x, hKf, rfl, hv, rfl⟩) ⟨fun t ht => ?_, fun t ht hb => ?_, hF1.size, ?_, ?_⟩ hG1
            · rw [top_of, get3_put3, if_neg (fun q => by have := Slot.of_inj (by omega) (by omega) q; omega)]
              exact hF1.rel t ht
            · rw [top_of, get3_put3, if_neg (fun q => by have := Slot.of_inj (by omega) (by omega) q; omega)]
              exact hF1.drop t ht hb
            · show _ :: a1.defers = _
              rw [hF1.defers, hds]
            · rw [get3_put3, if_pos rfl]
          · exact absurd rfl hne
        · cases hc
      · cases hc
    · cases hc
  · cases hc

theorem code_bad {c : Code} : CodeOK P C K base D n cBad c := fun fr hp nx e fr' hp' nx' h => by cases (show (Cr.bad : Cr) = _ from h)

/-- code, without its loops' later rounds: those go by the number of rounds that are left. -/
theorem code_ok (hn : n ≤ 511) (hmd : P.follows .mixedOrders = true) (hK : KnownOK P C K) (fnOf : Nat → AFun) (N : Nat) (hcall : ∀ k, k < N → CallOK P C (callF fnOf (runF fnOf k))) :
    ∀ (c : Code) (k : Nat), k ≤ N → CodeOK P C K base D n (runF fnOf k (cCode P K D n c)) c := by
  intro c
  -- no rounds at all
  have zero : ∀ (c : Code), CodeOK P C K base D n (runF fnOf 0 (cCode P K D n c)) c := fun c fr hp nx e fr' hp' nx' h => by cases (show (Cr.bad : Cr) = _ from h)
  induction c with
  | skip =>
    intro k hk
    cases k with
    | zero => exact zero _
    | succ k =>
      intro fr hp nx e fr' hp' nx' h T m a w hD hF hs Q hQ
      have h : Cr.ok .norm fr hp nx = .ok e fr' hp' nx' := h
      injection h with h1 h2 h3 h4
      subst h1; subst h2; subst h3; subst h4
      exact wp_skip (hQ T m a w hD hF (.refl hs))
  | label l =>
    intro k hk
    cases k with
    | zero => exact zero _
    | succ k =>
      intro fr hp nx e fr' hp' nx' h T m a w hD hF hs Q hQ
      have h : Cr.ok .norm fr hp nx = .ok e fr' hp' nx' := h
      injection h with h1 h2 h3 h4
      subst h1; subst h2; subst h3; subst h4
      exact wp_label (hQ T m a w hD hF (.refl hs))
  | region id ops draw =>
    intro k hk
    cases k with
    | zero => exact zero _
    | succ k =>
      intro fr hp nx e fr' hp' nx' h T m a w hD hF hs Q hQ
      have plain : runF fnOf (k + 1) (.reg (cRegion P K D n ops draw)) fr hp nx = .ok e fr' hp' nx' → (Code.region id ops draw).wp P Q a w := fun h => by
        have h : runSteps (callF fnOf (runF fnOf k)) (cRegion P K D n ops draw) fr un0 hp nx = .ok e fr' hp' nx' := h
        exact region_ok (hcall k (by omega)) hK hn hmd hF hs h fun m' a' w' he hF' hG => by subst he; exact hQ T m' a' w' (hD.ext hG.ext) hF' hG
      have hc : cCode P K D n (.region id ops draw) = cReg0 P K D n ops draw := rfl
      rw [hc] at h
      unfold cReg0 at h
      split at h
      · rename_i c hsel
        exact sel_ok (hcall k (by omega)) hK hn hsel h hD hF hs hQ
      · rename_i c _ hdef
        exact def_ok (hcall k (by omega)) hK hn hdef h hD hF hs hQ
      · exact plain h
  | seq x y ihx ihy =>
    intro k hk
    cases k with
    | zero => exact zero _
    | succ k =>
      intro fr hp nx e fr' hp' nx' h T m a w hD hF hs Q hQ
      have h : thenC (runF fnOf (k + 1) (cCode P K D n x) fr hp nx) (runF fnOf (k + 1) (cCode P K D n y)) = .ok e fr' hp' nx' := h
      obtain ⟨e1, fr1, hp1, nx1, h1, h2⟩ := thenC_ok h
      refine wp_seq (ihx (k + 1) hk _ _ _ _ _ _ _ h1 T m a w hD hF hs _ fun T1 m1 a1 w1 hD1 hF1 hG1 => ?_)
      rcases h2 with ⟨rfl, h2⟩ | ⟨hne, rfl, rfl, rfl, rfl⟩
      · exact ihy (k + 1) hk _ _ _ _ _ _ _ h2 T1 m1 a1 w1 hD1 hF1 hG1.sr Q fun T2 m2 a2 w2 hD2 hF2 hG2 => hQ T2 m2 a2 w2 hD2 hF2 (hG1.trans hG2)
      · exact then_of hne (hQ T1 m1 a1 w1 hD1 hF1 hG1)
  | cond x t f iht ihf =>
    intro k hk
    cases k with
    | zero => exact zero _
    | succ k =>
      intro fr hp nx e fr' hp' nx' h T m a w hD hF hs Q hQ
      have hc : cCode P K D n (.cond x t f) = if fitX n x then .cond (plainO x) (cCode P K D n t) (cCode P K D n f) else .bad := rfl
      rw [hc] at h
      split at h
      · rename_i hx
        have h : asBool (β := Cr) (evO (plainO x) fr un0) (fun c => Bool.rec (motive := fun _ => Cr) (runF fnOf (k + 1) (cCode P K D n f) fr hp nx) (runF fnOf (k + 1) (cCode P K D n t) fr hp nx) c) .bad = .ok e fr' hp' nx' := h
        have hv : AVR C m (evO (plainO x) fr un0) (a.eval x) := by
          cases x with
          | tmp t' =>
            show AVR C m (getFr (Slot.of t') fr) _
            rw [getFr_eq]; exact hF.rel t' (by simpa [fitX] using hx)
          | const v => exact valA_ok v
          | global g => trivial
          | func f => exact ⟨[], rfl, trivial⟩
        have hb : ∃ b, evO (plainO x) fr un0 = .s (.bool b) ∧ (Bool.rec (runF fnOf (k + 1) (cCode P K D n f) fr hp nx) (runF fnOf (k + 1) (cCode P K D n t) fr hp nx) b : Cr) = .ok e fr' hp' nx' := by
          revert h
          generalize evO (plainO x) fr un0 = v
          intro h
          cases v with
          | s y => cases y <;> first | exact ⟨_, rfl, h⟩ | cases h
          | a l => cases h
          | t l => cases h
        obtain ⟨b, hb, h⟩ := hb
        rw [hb] at hv
        have hv : a.eval x = .bool b := hv
        cases b with
        | true => exact wp_cond_true hv (iht (k + 1) hk _ _ _ _ _ _ _ h T m a w hD hF hs Q hQ)
        | false => exact wp_cond_false hv (ihf (k + 1) hk _ _ _ _ _ _ _ h T m a w hD hF hs Q hQ)
      · cases (show (Cr.bad : Cr) = _ from h)
  | block id b ih =>
    intro k hk
    cases k with
    | zero => exact zero _
    | succ k =>
      intro fr hp nx e fr' hp' nx' h T m a w hD hF hs Q hQ
      have h : blkC id (runF fnOf (k + 1) (cCode P K D n b) fr hp nx) = .ok e fr' hp' nx' := h
      cases hr : runF fnOf (k + 1) (cCode P K D n b) fr hp nx with
      | bad => rw [hr] at h; cases h
      | ok e1 fr1 hp1 nx1 =>
        rw [hr] at h
        have h : blkE id e1 fr1 hp1 nx1 = .ok e fr' hp' nx' := h
        refine wp_block (ih (k + 1) hk _ _ _ _ _ _ _ hr T m a w hD hF hs _ fun T1 m1 a1 w1 hD1 hF1 hG1 => ?_)
        cases e1 with
        | norm =>
          have h : Cr.ok .norm fr1 hp1 nx1 = .ok e fr' hp' nx' := h
          injection h with h1 h2 h3 h4
          subst h1; subst h2; subst h3; subst h4
          exact hQ T1 m1 a1 w1 hD1 hF1 hG1
        | ret =>
          have h : Cr.ok .ret fr1 hp1 nx1 = .ok e fr' hp' nx' := h
          injection h with h1 h2 h3 h4
          subst h1; subst h2; subst h3; subst h4
          exact hQ T1 m1 a1 w1 hD1 hF1 hG1
        | exit id' =>
          have h : (Bool.rec (.ok (.exit id') fr1 hp1 nx1) (.ok .norm fr1 hp1 nx1) (Nat.beq id' id) : Cr) = .ok e fr' hp' nx' := h
          show (if id' = id then Q .normal a1 w1 else Q (.exit id') a1 w1)
          cases hb : Nat.beq id' id with
          | true =>
            rw [hb] at h
            injection h with h1 h2 h3 h4
            subst h1; subst h2; subst h3; subst h4
            rw [if_pos (beq_eq hb)]; exact hQ T1 m1 a1 w1 hD1 hF1 hG1
          | false =>
            rw [hb] at h
            injection h with h1 h2 h3 h4
            subst h1; subst h2; subst h3; subst h4
            rw [if_neg (fun q => by subst q; rw [show Nat.beq id' id' = true from Nat.beq_refl id'] at hb; cases hb)]; exact hQ T1 m1 a1 w1 hD1 hF1 hG1
  | loop b ih =>
    intro k hk fr hp nx e fr' hp' nx' h T m a w hD hF hs Q hQ
    refine wp_loop_by (fun j a1 w1 => j ≤ N ∧ ∃ fr1 hp1 nx1 T1 m1, runF fnOf j (.loop (cCode P K D n b)) fr1 hp1 nx1 = .ok e fr' hp' nx' ∧ DTR K m1 T1 ∧ FR C D n T1 m1 fr1 a1 ∧ Good P C base m hp nx w m1 hp1 nx1 w1) ?_ (k := k) ⟨hk, fr, hp, nx, T, m, h, hD, hF, .refl hs⟩
    intro j a1 w1 ⟨hj, fr1, hp1, nx1, T1, m1, h1, hD1, hF1, hG1⟩
    cases j with
    | zero => cases (show (Cr.bad : Cr) = _ from h1)
    | succ j =>
      have h1 : thenC (runF fnOf (j + 1) (cCode P K D n b) fr1 hp1 nx1) (runF fnOf j (.loop (cCode P K D n b))) = .ok e fr' hp' nx' := h1
      obtain ⟨e2, fr2, hp2, nx2, h2, h3⟩ := thenC_ok h1
      refine ih (j + 1) hj _ _ _ _ _ _ _ h2 T1 m1 a1 w1 hD1 hF1 hG1.sr _ fun T2 m2 a2 w2 hD2 hF2 hG2 => ?_
      rcases h3 with ⟨rfl, h3⟩ | ⟨hne, rfl, rfl, rfl, rfl⟩
      · exact ⟨j, by omega, by omega, fr2, hp2, nx2, T2, m2, h3, hD2, hF2, hG1.trans hG2⟩
      · exact then_of hne (hQ T2 m2 a2 w2 hD2 hF2 (hG1.trans hG2))
  | exit id =>
    intro k hk
    cases k with
    | zero => exact zero _
    | succ k =>
      intro fr hp nx e fr' hp' nx' h T m a w hD hF hs Q hQ
      have h : Cr.ok (.exit id) fr hp nx = .ok e fr' hp' nx' := h
      injection h with h1 h2 h3 h4
      subst h1; subst h2; subst h3; subst h4
      exact wp_exit (hQ T m a w hD hF (.refl hs))
  | ret =>
    intro k hk
    cases k with
    | zero => exact zero _
    | succ k =>
      intro fr hp nx e fr' hp' nx' h T m a w hD hF hs Q hQ
      have h : Cr.ok .ret fr hp nx = .ok e fr' hp' nx' := h
      injection h with h1 h2 h3 h4
      subst h1; subst h2; subst h3; subst h4
      exact wp_ret (hQ T m a w hD hF (.refl hs))
  | rangeFunc _ _ _ _ _ _ => intro k hk; cases k with | zero => exact zero _ | succ k => exact code_bad
  | scope _ _ => intro k hk; cases k with | zero => exact zero _ | succ k => exact code_bad
  | goto l => intro k hk; cases k with | zero => exact zero _ | succ k => exact code_bad
  | refuse s => intro k hk; cases k with | zero => exact zero _ | succ k => exact code_bad
end
end Go.X
end

/-! Functions: what the executor says of a call, the model does. -/
noncomputable section
namespace Go.X
section
variable {P : Program} {C : Ctx} {K : Known} {base : Nat} {D n : Nat} {T : DT}

/-- a result's value. -/
def resM (a : Act) : ResultVar → Sem Value
  | .tmp t => pure (a.tmps.getD t undef)
  | .cell x t => do loadVar t (← asAddr (a.tmps.getD x undef))
theorem results_eq (fn : Func) (a : Act) : results fn a.tmps = (do
    let vs ← fn.results.mapM (resM a)
    pure (if h : vs.size = 1 then vs[0] else .tuple vs)) := by
  unfold results
  congr 1

theorem resOne_ok {r : ResultVar} {fr : Fr} {hp hp' : Hp} {nx nx' : Pid} {v : AV} (h : resOne (cRes P n r) fr hp nx = .ok v hp' nx') : hp' = hp ∧ nx' = nx ∧
    ∀ m a w, FR C D n T m fr a → SR P C base m hp nx w → ∃ u, (resM a r).run P w = .ok u w ∧ AVR C m v u := by
  have load : ∀ {m : Mp} {a : Act} {w : World} {x t : Nat} {b : Pid} {o : Nat} {u : Value}, AVR C m (.s (.ptr b o)) (a.eval (.tmp x)) → (Instr.loadAt t (a.eval (.tmp x))).run P w = .ok u w → (resM a (.cell x t)).run P w = .ok u w := fun {m a w x t b o u} hv hl => by
    obtain ⟨ad, had⟩ := ptr_some hv
    rw [had] at hl
    show (do loadVar t (← asAddr (a.eval (.tmp x))) : Sem Value).run P w = _
    rw [had]
    simpa [Instr.loadAt, Instr.sureAddr, asAddr] using hl
  cases r with
  | tmp t =>
    unfold cRes at h
    simp only at h
    split at h
    · rename_i ht
      have ht : t < n := by simpa using ht
      have h : opMov (getFr (Slot.of t) fr) hp nx = .ok v hp' nx' := h
      obtain ⟨rfl, rfl, rfl⟩ := opMov_ok h
      refine ⟨rfl, rfl, fun m a w hF _ => ⟨_, rfl, ?_⟩⟩
      rw [getFr_eq]; exact hF.rel t ht
    · cases (show (Ar.bad : Ar) = _ from h)
  | cell x t =>
    unfold cRes at h
    simp only at h
    split at h
    · rename_i ht
      have ht : x < n := by simpa using ht
      split at h
      · rename_i k ha hk
        obtain ⟨d, hd, ha⟩ := aggO_ok ha
        have h : opLdn k (getFr (Slot.of x) fr) hp nx = .ok v hp' nx' := h
        obtain ⟨e1, e2, g⟩ := opLdn_ok (P := P) (C := C) h
        obtain ⟨b, o, hx, _⟩ := asPtr_ok h
        subst e1; subst e2
        refine ⟨rfl, rfl, fun m a w hF hs => ?_⟩
        have hv := hF.rel x ht
        rw [getFr_eq] at hx g
        obtain ⟨u, h1, h2⟩ := g base m _ hv t d hd ha hk w hs
        rw [hx] at hv
        exact ⟨u, load hv h1, h2⟩
      · rename_i ha
        obtain ⟨d, hd, ha⟩ := aggO_ok ha
        have h : opLd1 (getFr (Slot.of x) fr) hp nx = .ok v hp' nx' := h
        obtain ⟨e1, e2, g⟩ := opLd1_ok (P := P) (C := C) h
        obtain ⟨b, o, hx, _⟩ := asPtr_ok h
        subst e1; subst e2
        refine ⟨rfl, rfl, fun m a w hF hs => ?_⟩
        have hv := hF.rel x ht
        rw [getFr_eq] at hx g
        obtain ⟨u, h1, h2⟩ := g base m _ hv t d hd ha w hs
        rw [hx] at hv
        exact ⟨u, load hv h1, h2⟩
      · cases (show (Ar.bad : Ar) = _ from h)
    · cases (show (Ar.bad : Ar) = _ from h)

theorem TupR.length {m : Mp} : ∀ {l : List V1} {vs : List Value}, TupR C m l vs → l.length = vs.length
  | [], [], _ => rfl
  | _ :: _, _ :: _, h => by simp [TupR.length h.2]
  | [], _ :: _, h => h.elim
  | _ :: _, [], h => h.elim
theorem resL_ok {fr : Fr} {hp hp' : Hp} {nx nx' : Pid} {v : AV} : ∀ {l : List ResultVar} {k : List V1 → Ar}, resL (l.map (cRes P n)) fr hp nx k = .ok v hp' nx' →
    ∃ vs, k vs = .ok v hp' nx' ∧ vs.length = l.length ∧ ∀ m a w, FR C D n T m fr a → SR P C base m hp nx w → ∃ us, (l.mapM (resM a)).run P w = .ok us w ∧ TupR C m vs us := by
  intro l
  induction l with
  | nil => intro k h; exact ⟨[], h, rfl, fun m a w _ _ => ⟨[], by simp, trivial⟩⟩
  | cons r l ih =>
    intro k h
    have h : resV (resOne (cRes P n r) fr hp nx) (fun v => resL (l.map (cRes P n)) fr hp nx (fun l => k (v :: l))) .bad = .ok v hp' nx' := h
    cases hr : resOne (cRes P n r) fr hp nx with
    | bad => rw [hr] at h; cases h
    | ok x hp1 nx1 =>
      rw [hr] at h
      have h : avV1 x (fun v => resL (l.map (cRes P n)) fr hp nx (fun l => k (v :: l))) .bad = .ok v hp' nx' := h
      obtain ⟨y, rfl, h5⟩ := avV1_ok h
      obtain ⟨_, _, g⟩ := resOne_ok (C := C) (D := D) (T := T) (base := base) hr
      obtain ⟨vs, h1, h3, h2⟩ := ih h5
      refine ⟨y :: vs, h1, by simp [h3], fun m a w hF hs => ?_⟩
      obtain ⟨u, g1, g2⟩ := g m a w hF hs
      obtain ⟨us, g3, g4⟩ := h2 m a w hF hs
      exact ⟨u :: us, by simp [List.mapM_cons, g1, g3], V1R.of_av g2, g4⟩

theorem resK_ok {fn : Func} {fr : Fr} {hp hp' : Hp} {nx nx' : Pid} {v : AV} (h : resK (fn.results.toList.map (cRes P n)) fr hp nx = .ok v hp' nx') : hp' = hp ∧ nx' = nx ∧
    ∀ m a w, FR C D n T m fr a → SR P C base m hp nx w → ∃ u, (results fn a.tmps).run P w = .ok u w ∧ AVR C m v u := by
  have many : ∀ {l : List ResultVar}, fn.results.toList = l → l.length ≠ 1 → resL (l.map (cRes P n)) fr hp nx (fun l => .ok (.t l) hp nx) = .ok v hp' nx' → hp' = hp ∧ nx' = nx ∧
      ∀ m a w, FR C D n T m fr a → SR P C base m hp nx w → ∃ u, (results fn a.tmps).run P w = .ok u w ∧ AVR C m v u := fun {l} hl hne h => by
    obtain ⟨vs, h1, h3, h2⟩ := resL_ok (C := C) (D := D) (T := T) (base := base) h
    obtain ⟨rfl, rfl, rfl⟩ := ok_ok h1
    refine ⟨rfl, rfl, fun m a w hF hs => ?_⟩
    obtain ⟨us, g1, g2⟩ := h2 m a w hF hs
    refine ⟨.tuple us.toArray, ?_, us, rfl, g2⟩
    have hlen : us.length = l.length := by rw [← g2.length]; exact h3
    rw [results_eq]
    simp only [Array.mapM_eq_mapM_toList, hl, Sem.run_bind, Sem.run_map, g1, Result.andThen_ok, Sem.run_pure]
    rw [dif_neg (by simp; omega)]
  cases hl : fn.results.toList with
  | nil =>
    rw [hl] at h
    exact many hl (by simp) h
  | cons r l =>
    rw [hl] at h
    cases l with
    | nil =>
      have h : resOne (cRes P n r) fr hp nx = .ok v hp' nx' := h
      obtain ⟨e1, e2, g⟩ := resOne_ok (C := C) (D := D) (T := T) (base := base) h
      refine ⟨e1, e2, fun m a w hF hs => ?_⟩
      obtain ⟨u, g1, g2⟩ := g m a w hF hs
      refine ⟨u, ?_, g2⟩
      rw [results_eq]
      simp [Array.mapM_eq_mapM_toList, hl, g1]
    | cons r' l => exact many hl (by simp) h
end
end Go.X
end

/-! Calls. -/
noncomputable section
namespace Go.X
section
variable {P : Program} {C : Ctx} {K : Known} {base : Nat} {D n : Nat}

theorem get3_empty (s : Slot) : get3 s emptyFr = .s .un := by
  obtain ⟨a, b, c⟩ := s
  cases a <;> cases b <;> cases c <;> rfl
theorem forceAV_eq {β : Type} (v : AV) (k : AV → β) : forceAV v k = k v := by cases v <;> rfl
theorem argsK_ok : ∀ (l : List AV) (i : Nat) (fr : Fr) (k : Fr → Ar), i + l.length ≤ 512 → ∃ fr', argsK l i fr k = k fr' ∧
    ∀ t, t < 512 → get3 (Slot.of t) fr' = if i ≤ t ∧ t < i + l.length then l.getD (t - i) un0 else get3 (Slot.of t) fr := by
  intro l
  induction l with
  | nil => intro i fr k _; exact ⟨fr, rfl, fun t _ => by rw [if_neg (by simp only [List.length_nil]; omega)]⟩
  | cons x l ih =>
    intro i fr k hl
    simp only [List.length_cons] at hl
    obtain ⟨fr', h1, h2⟩ := ih (i + 1) (put3 (Slot.of i) x fr) k (by omega)
    refine ⟨fr', ?_, fun t ht => ?_⟩
    · show forceAV x (fun x => set3 (Slot.of i) x fr (fun fr => argsK l (Nat.succ i) fr k)) = _
      rw [forceAV_eq, set3_eq]; exact h1
    · rw [h2 t ht, get3_put3]
      simp only [List.length_cons]
      by_cases e : t = i
      · subst e
        rw [if_neg (by omega), if_pos rfl, if_pos (by omega)]; simp
      · rw [if_neg (fun q => e (Slot.of_inj (by omega) (by omega) q))]
        by_cases q : i + 1 ≤ t ∧ t < i + 1 + l.length
        · rw [if_pos q, if_pos (by omega)]
          obtain ⟨j, hj⟩ : ∃ j, t - i = j + 1 := ⟨t - i - 1, by omega⟩
          rw [hj, show t - (i + 1) = j by omega]; simp
        · rw [if_neg q, if_neg (by omega)]

theorem ArgsR.length {m : Mp} : ∀ {l : List AV} {us : List Value}, ArgsR C m l us → l.length = us.length
  | [], [], _ => rfl
  | _ :: _, _ :: _, h => by simp [ArgsR.length h.2]
  | [], _ :: _, h => h.elim
  | _ :: _, [], h => h.elim
theorem ArgsR.get {m : Mp} : ∀ {l : List AV} {us : List Value}, ArgsR C m l us → ∀ i, i < l.length → AVR C m (l.getD i un0) (us.getD i undef)
  | [], [], _, i, hi => by simp at hi
  | _ :: _, _ :: _, h, 0, _ => h.1
  | _ :: l, _ :: us, h, i + 1, hi => by
    have := ArgsR.get h.2 i (by simpa using hi)
    simpa using this
  | [], _ :: _, h, _, _ => h.elim
  | _ :: _, [], h, _, _ => h.elim

theorem dropOk_bit {D k t : Nat} (h : dropOk D k = true) (ht : t < k) : Nat.testBit D t = false := by
  have h0 : D % 2 ^ k = 0 := beq_eq h
  have := Nat.testBit_mod_two_pow D k t
  rw [h0] at this
  simpa [ht] using this.symm

/-- the frame at a function's entry. -/
theorem FR.enter {m : Mp} {fr : Fr} {args : List AV} {us : List Value} (hn : n ≤ 511) (ha : args.length ≤ n) (hd : dropOk D args.length = true) (hA : ArgsR C m args us)
    (hfr : ∀ t, t < 512 → get3 (Slot.of t) fr = if 0 ≤ t ∧ t < 0 + args.length then args.getD (t - 0) un0 else get3 (Slot.of t) emptyFr) :
    FR C D n ⟨[], .s .un⟩ m fr { tmps := us.toArray ++ Array.replicate (n - us.toArray.size) undef, defers := [] } := by
  have hl := hA.length
  refine ⟨fun t ht => ?_, fun t ht hb => ?_, by simp; omega, rfl, ?_⟩
  case refine_3 =>
    rw [top_of, hfr 511 (by omega), if_neg (by omega), get3_empty]
  · rw [hfr t (by omega)]
    by_cases q : t < args.length
    · rw [if_pos (by omega)]
      have := hA.get t q
      have e : (Act.eval { tmps := us.toArray ++ Array.replicate (n - us.toArray.size) undef, defers := [] } (.tmp t)) = us.getD t undef := by
        simp only [Act.eval, Array.getD_eq_getD_getElem?]
        rw [Array.getElem?_append_left (by simp; omega)]
        simp
      rw [e]; simpa using this
    · rw [if_neg (by omega), get3_empty]; trivial
  · rw [hfr t (by omega)]
    have : ¬ t < args.length := fun q => by rw [dropOk_bit hd q] at hb; cases hb
    rw [if_neg (by omega), get3_empty]

/-- the calls that wait for a function's end, as they are known. -/
def DeferOK (P : Program) (C : Ctx) (K : Known) : Prop := ∀ f, K f = some .unlock → ∀ b o hp nx v hp' nx', inUnlock (.s (.ptr b o)) hp nx = .ok v hp' nx' →
  ∀ base m w u, SR P C base m hp nx w → PtrR m b o u → (invoke (.fn (.func f) #[]) #[u]).run P w = .ok (.enter f #[u]) w ∧
    CallsD P f #[u] .returning w fun e u' w' => u' = .returning ∧ ∃ x m', e = .returned x ∧ Good P C base m hp nx w m' hp' nx' w'

theorem endK_ok {res : List ARes} {fr : Fr} {hp hp' : Hp} {nx nx' : Pid} {v : AV} {T : DT} {m : Mp} (hD : DTR K m T) (h : endK res fr hp nx T.tp = .ok v hp' nx') :
    (T.ds = [] ∧ resK res fr hp nx = .ok v hp' nx') ∨ ∃ f b o u x hp1 nx1, K f = some .unlock ∧ PtrR m b o u ∧ T.ds = [{ target := .fn (.func f) #[], args := #[u] }] ∧
      inUnlock (.s (.ptr b o)) hp nx = .ok x hp1 nx1 ∧ resK res fr hp1 nx1 = .ok v hp' nx' := by
  rcases hD with ⟨h1, h2⟩ | ⟨f, b, o, u, h1, h2, h3, h4⟩
  · rw [h1] at h
    exact .inl ⟨h2, h⟩
  · rw [h2] at h
    refine .inr ⟨f, b, o, u, ?_⟩
    have h : Ar.rec (motive := fun _ => Ar) .bad (fun _ hp nx => resK res fr hp nx) (inUnlock (.s (.ptr b o)) hp nx) = .ok v hp' nx' := h
    cases hu : inUnlock (.s (.ptr b o)) hp nx with
    | bad => rw [hu] at h; cases h
    | ok x hp1 nx1 => rw [hu] at h; exact ⟨x, hp1, nx1, h1, h3, h4, rfl, h⟩

/-- a function's call, out of its code. -/
theorem fun_ok {fnOf : Nat → AFun} {k : Nat} {fn : Func} {f : Nat} (hf : P.funcs[f]? = some fn) {args : List AV} {hp hp' : Hp} {nx nx' : Pid} {v : AV} (hmd : P.follows .mixedOrders = true) (hK : KnownOK P C K) (hDf : DeferOK P C K)
    (hcall : ∀ j, j < k → CallOK P C (callF fnOf (runF fnOf j))) (hA : fnOf f = cFun P K D fn) (h : callF fnOf (runF fnOf k) f args hp nx = .ok v hp' nx') : Enters P f ∧
    ∀ base m w us, SR P C base m hp nx w → ArgsR C m args us → Calls P f us.toArray w (Ends P C base m hp nx w hp' nx' v) := by
  unfold callF at h
  rw [hA] at h
  unfold cFun at h
  cases hb : fn.body with
  | none => rw [hb] at h; cases (show (Ar.bad : Ar) = _ from h)
  | some c =>
    rw [hb] at h
    simp only at h
    split at h
    · rename_i hc
      simp only [Bool.and_eq_true, bne_iff_ne, ne_eq] at hc
      obtain ⟨⟨⟨hn, hnp⟩, hd⟩, hname⟩ := hc
      have hn : fn.ntmps ≤ 511 := ble_le hn
      have hnp := ble_le hnp
      have h : ifB (Nat.beq (lenK args) (fn.params.size + fn.nfree)) (argsK args (nat_lit 0) emptyFr (fun fr => leaveC (fn.results.toList.map (cRes P fn.ntmps)) (runF fnOf k (cCode P K D fn.ntmps c) fr hp nx))) .bad = .ok v hp' nx' := h
      obtain ⟨hlen, h⟩ := ifB_ok h
      have hlen := beq_eq hlen
      rw [lenK_eq] at hlen
      obtain ⟨fr, h1, h2⟩ := argsK_ok args 0 emptyFr (fun fr => leaveC (fn.results.toList.map (cRes P fn.ntmps)) (runF fnOf k (cCode P K D fn.ntmps c) fr hp nx)) (by omega)
      rw [h1] at h
      refine ⟨fun args w => ?_, fun base m w us hs hA => ?_⟩
      · simp [callFunc, run_program, hf, hname, hb]
      · cases hr : runF fnOf k (cCode P K D fn.ntmps c) fr hp nx with
        | bad => rw [hr] at h; cases h
        | ok e fr1 hp1 nx1 =>
          rw [hr] at h
          have hF : FR C D fn.ntmps ⟨[], .s .un⟩ m fr { tmps := us.toArray ++ Array.replicate (fn.ntmps - us.toArray.size) undef, defers := [] } := FR.enter hn (by omega) (by rw [hlen]; exact hd) hA h2
          refine calls_of_wp_defers hf hb (code_ok (base := base) hn hmd hK fnOf k hcall c k (Nat.le_refl _) _ _ _ _ _ _ _ hr _ m _ w (.inl ⟨rfl, rfl⟩) hF hs _ fun T m1 a1 w1 hD1 hF1 hG1 => ?_)
          have fin : endK (fn.results.toList.map (cRes P fn.ntmps)) fr1 hp1 nx1 (getFr topS fr1) = .ok v hp' nx' → Leaves P fn a1.tmps (Ends P C base m hp nx w hp' nx' v) a1.defers .returning w1 := fun h => by
            rw [getFr_eq, hF1.top] at h
            rcases endK_ok hD1 h with ⟨h1, h2⟩ | ⟨f, b, o, u, x, hp2, nx2, g1, g2, g3, g4, g5⟩
            · obtain ⟨e1, e2, g⟩ := resK_ok (C := C) (D := D) (T := T) (base := base) h2
              subst e1; subst e2
              obtain ⟨u, g1, g2⟩ := g m1 a1 w1 hF1 hG1.sr
              rw [hF1.defers, h1]
              exact ⟨u, g1, m1, g2, hG1⟩
            · rw [hF1.defers, g3]
              obtain ⟨i1, i2⟩ := hDf f g1 b o _ _ _ _ _ g4 base m1 w1 u hG1.sr g2
              refine leaves_cons (by simp) i1 (i2.mono ?_)
              rintro e u' w' ⟨rfl, y, m2, rfl, hG2⟩
              obtain ⟨e1, e2, g⟩ := resK_ok (C := C) (D := D) (T := T) (base := base) g5
              subst e1; subst e2
              obtain ⟨z, z1, z2⟩ := g m2 a1 w' (hF1.ext hG2.ext) hG2.sr
              exact ⟨z, z1, m2, z2, hG1.trans hG2⟩
          cases e with
          | norm => exact fin h
          | ret => exact fin h
          | exit id => cases (show (Ar.bad : Ar) = _ from h)
    · cases (show (Ar.bad : Ar) = _ from h)

/-- all calls, however much fuel. -/
theorem calls_ok (hmd : P.follows .mixedOrders = true) (hK : KnownOK P C K) (hDf : DeferOK P C K) {fnT : Nat → AFun} {D : Nat → Drop} (hT : ∀ f, fnT f = .bad ∨ ∃ fn, P.funcs[f]? = some fn ∧ fnT f = cFun P K (D f) fn) :
    ∀ k, CallOK P C (callF fnT (runF fnT k)) := by
  intro k
  induction k using Nat.strongRecOn with
  | _ k ih =>
    intro f args hp nx v hp' nx' h
    rcases hT f with hb | ⟨fn, hf, hA⟩
    · unfold callF at h
      rw [hb] at h; cases (show (Ar.bad : Ar) = _ from h)
    · exact fun_ok hf hmd hK hDf ih hA h
end
end Go.X
end

