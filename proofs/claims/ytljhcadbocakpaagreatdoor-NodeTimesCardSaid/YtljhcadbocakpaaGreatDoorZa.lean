/-
  The second run of the code, by what its end does with it; its operations give what the first run gives. Part of the proof of the claim: for every input the law returns true.
-/
import Derived.Test.YtljhcadbocakpaaGreatDoorXa
import Derived.Test.YtljhcadbocakpaaGreatDoorXc
/-! Blocks, lists and operations once more, each told what comes behind it: the kernel keeps nothing of them. -/
noncomputable section
namespace Go.X
abbrev H1 := Oct Obj
abbrev H2 := Oct H1
abbrev H3 := Oct H2
abbrev H4 := Oct H3
abbrev H5 := Oct H4
section
variable {α : Type}
abbrev VT (α : Type) := α → (α → Ar) → Ar
abbrev VF (α : Type) := VT α → Oct α → (Oct α → Ar) → Ar
abbrev WF (α : Type) := Oct α → (α → Ar) → Ar
def vu0 : VF α := fun f o k => Oct.rec (motive := fun _ => VT α → (Oct α → Ar) → Ar) (fun a b c d e f' g h f k => f a (fun x => k ⟨x, b, c, d, e, f', g, h⟩)) o f k
def vu1 : VF α := fun f o k => Oct.rec (motive := fun _ => VT α → (Oct α → Ar) → Ar) (fun a b c d e f' g h f k => f b (fun x => k ⟨a, x, c, d, e, f', g, h⟩)) o f k
def vu2 : VF α := fun f o k => Oct.rec (motive := fun _ => VT α → (Oct α → Ar) → Ar) (fun a b c d e f' g h f k => f c (fun x => k ⟨a, b, x, d, e, f', g, h⟩)) o f k
def vu3 : VF α := fun f o k => Oct.rec (motive := fun _ => VT α → (Oct α → Ar) → Ar) (fun a b c d e f' g h f k => f d (fun x => k ⟨a, b, c, x, e, f', g, h⟩)) o f k
def vu4 : VF α := fun f o k => Oct.rec (motive := fun _ => VT α → (Oct α → Ar) → Ar) (fun a b c d e f' g h f k => f e (fun x => k ⟨a, b, c, d, x, f', g, h⟩)) o f k
def vu5 : VF α := fun f o k => Oct.rec (motive := fun _ => VT α → (Oct α → Ar) → Ar) (fun a b c d e f' g h f k => f f' (fun x => k ⟨a, b, c, d, e, x, g, h⟩)) o f k
def vu6 : VF α := fun f o k => Oct.rec (motive := fun _ => VT α → (Oct α → Ar) → Ar) (fun a b c d e f' g h f k => f g (fun x => k ⟨a, b, c, d, e, f', x, h⟩)) o f k
def vu7 : VF α := fun f o k => Oct.rec (motive := fun _ => VT α → (Oct α → Ar) → Ar) (fun a b c d e f' g h f k => f h (fun x => k ⟨a, b, c, d, e, f', g, x⟩)) o f k
def wg0 : WF α := fun o k => Oct.rec (motive := fun _ => (α → Ar) → Ar) (fun a _ _ _ _ _ _ _ k => k a) o k
def wg1 : WF α := fun o k => Oct.rec (motive := fun _ => (α → Ar) → Ar) (fun _ b _ _ _ _ _ _ k => k b) o k
def wg2 : WF α := fun o k => Oct.rec (motive := fun _ => (α → Ar) → Ar) (fun _ _ c _ _ _ _ _ k => k c) o k
def wg3 : WF α := fun o k => Oct.rec (motive := fun _ => (α → Ar) → Ar) (fun _ _ _ d _ _ _ _ k => k d) o k
def wg4 : WF α := fun o k => Oct.rec (motive := fun _ => (α → Ar) → Ar) (fun _ _ _ _ e _ _ _ k => k e) o k
def wg5 : WF α := fun o k => Oct.rec (motive := fun _ => (α → Ar) → Ar) (fun _ _ _ _ _ f' _ _ k => k f') o k
def wg6 : WF α := fun o k => Oct.rec (motive := fun _ => (α → Ar) → Ar) (fun _ _ _ _ _ _ g _ k => k g) o k
def wg7 : WF α := fun o k => Oct.rec (motive := fun _ => (α → Ar) → Ar) (fun _ _ _ _ _ _ _ h k => k h) o k
def vsel (d : D8) : VF α := D8.rec vu0 vu1 vu2 vu3 vu4 vu5 vu6 vu7 d
def wsel (d : D8) : WF α := D8.rec wg0 wg1 wg2 wg3 wg4 wg5 wg6 wg7 d
theorem vsel_eq (d : D8) (f : VT α) (F : α → α) (hf : ∀ a k, f a k = k (F a)) (o : Oct α) (k : Oct α → Ar) : vsel d f o k = k (oput d (F (osel d o)) o) := by
  cases o; cases d <;> exact hf _ _
theorem wsel_eq (d : D8) (o : Oct α) (k : α → Ar) : wsel d o k = k (osel d o) := by cases o; cases d <;> rfl
end
inductive GPK where
  | mk (a : WF H5) (b : WF H4) (c : WF H3) (d : WF H2) (e : WF H1)
inductive UPK where
  | mk (a : VF H5) (b : VF H4) (c : VF H3) (d : VF H2) (e : VF H1)
inductive GWK where
  | mk (g : Hp → (Obj → Ar) → Ar)
inductive UWK where
  | mk (u : Obj → Hp → (Hp → Ar) → Ar)
def gSK {α : Type} (d : D8) (k : WF α → GPK) : GPK := D8.rec (k wg0) (k wg1) (k wg2) (k wg3) (k wg4) (k wg5) (k wg6) (k wg7) d
def uSK {α : Type} (d : D8) (k : VF α → UPK) : UPK := D8.rec (k vu0) (k vu1) (k vu2) (k vu3) (k vu4) (k vu5) (k vu6) (k vu7) d
theorem gSK_eq {α : Type} (d : D8) (k : WF α → GPK) : gSK d k = k (wsel d) := by cases d <;> rfl
theorem uSK_eq {α : Type} (d : D8) (k : VF α → UPK) : uSK d k = k (vsel d) := by cases d <;> rfl
def gPK (a b c d e : D8) : GPK := gSK a fun a => gSK b fun b => gSK c fun c => gSK d fun d => gSK e fun e => .mk a b c d e
def uPK (a b c d e : D8) : UPK := uSK a fun a => uSK b fun b => uSK c fun c => uSK d fun d => uSK e fun e => .mk a b c d e
def cV (x _ : Obj) (k : Obj → Ar) : Ar := k x
abbrev GTK := WF H5 → WF H4 → WF H3 → WF H2 → WF H1 → GWK
abbrev UTK := VF H5 → VF H4 → VF H3 → VF H2 → VF H1 → UWK
def gLeafK (f : D8) : GTK := D8.rec (motive := fun _ => GTK) (fun a b c d e => .mk fun hp k => a hp fun x => b x fun x => c x fun x => d x fun x => e x fun x => wg0 x k) (fun a b c d e => .mk fun hp k => a hp fun x => b x fun x => c x fun x => d x fun x => e x fun x => wg1 x k) (fun a b c d e => .mk fun hp k => a hp fun x => b x fun x => c x fun x => d x fun x => e x fun x => wg2 x k) (fun a b c d e => .mk fun hp k => a hp fun x => b x fun x => c x fun x => d x fun x => e x fun x => wg3 x k) (fun a b c d e => .mk fun hp k => a hp fun x => b x fun x => c x fun x => d x fun x => e x fun x => wg4 x k) (fun a b c d e => .mk fun hp k => a hp fun x => b x fun x => c x fun x => d x fun x => e x fun x => wg5 x k) (fun a b c d e => .mk fun hp k => a hp fun x => b x fun x => c x fun x => d x fun x => e x fun x => wg6 x k) (fun a b c d e => .mk fun hp k => a hp fun x => b x fun x => c x fun x => d x fun x => e x fun x => wg7 x k) f
def uLeafK (f : D8) : UTK := D8.rec (motive := fun _ => UTK) (fun a b c d e => .mk fun x hp k => a (b (c (d (e (vu0 (cV x)))))) hp k) (fun a b c d e => .mk fun x hp k => a (b (c (d (e (vu1 (cV x)))))) hp k) (fun a b c d e => .mk fun x hp k => a (b (c (d (e (vu2 (cV x)))))) hp k) (fun a b c d e => .mk fun x hp k => a (b (c (d (e (vu3 (cV x)))))) hp k) (fun a b c d e => .mk fun x hp k => a (b (c (d (e (vu4 (cV x)))))) hp k) (fun a b c d e => .mk fun x hp k => a (b (c (d (e (vu5 (cV x)))))) hp k) (fun a b c d e => .mk fun x hp k => a (b (c (d (e (vu6 (cV x)))))) hp k) (fun a b c d e => .mk fun x hp k => a (b (c (d (e (vu7 (cV x)))))) hp k) f
def gWK (p : Pid) : GWK := Pid.rec (motive := fun _ => GWK) (fun a b c d e f => GPK.rec (motive := fun _ => GWK) (gLeafK f) (gPK a b c d e)) p
def uWK (p : Pid) : UWK := Pid.rec (motive := fun _ => UWK) (fun a b c d e f => UPK.rec (motive := fun _ => UWK) (uLeafK f) (uPK a b c d e)) p
def getK (p : Pid) (hp : Hp) (k : Obj → Ar) : Ar := GWK.rec (motive := fun _ => Hp → (Obj → Ar) → Ar) (fun g hp k => g hp k) (gWK p) hp k
def setK (p : Pid) (x : Obj) (hp : Hp) (k : Hp → Ar) : Ar := UWK.rec (motive := fun _ => Obj → Hp → (Hp → Ar) → Ar) (fun u x hp k => u x hp k) (uWK p) x hp k
theorem gLeafK_eq (f : D8) (a : WF H5) (b : WF H4) (c : WF H3) (d : WF H2) (e : WF H1) : gLeafK f a b c d e = .mk fun hp k => a hp fun x => b x fun x => c x fun x => d x fun x => e x fun x => wsel f x k := by cases f <;> rfl
theorem uLeafK_eq (f : D8) (a : VF H5) (b : VF H4) (c : VF H3) (d : VF H2) (e : VF H1) : uLeafK f a b c d e = .mk fun x hp k => a (b (c (d (e (vsel f (cV x)))))) hp k := by cases f <;> rfl
theorem getK_eq (p : Pid) (hp : Hp) (k : Obj → Ar) : getK p hp k = k (getHp p hp) := by
  obtain ⟨a, b, c, d, e, f⟩ := p
  have : gPK a b c d e = .mk (wsel a) (wsel b) (wsel c) (wsel d) (wsel e) := by simp only [gPK, gSK_eq]
  have h : gWK ⟨a, b, c, d, e, f⟩ = .mk fun hp k => wsel a hp fun x => wsel b x fun x => wsel c x fun x => wsel d x fun x => wsel e x fun x => wsel f x k := by
    show GPK.rec (motive := fun _ => GWK) (gLeafK f) (gPK a b c d e) = _
    rw [this]; exact gLeafK_eq _ _ _ _ _ _
  unfold getK
  rw [h, getHp_eq]
  show wsel a hp _ = _
  simp only [wsel_eq]; rfl
theorem setK_eq (p : Pid) (x : Obj) (hp : Hp) (k : Hp → Ar) : setK p x hp k = k (put5 p x hp) := by
  obtain ⟨a, b, c, d, e, f⟩ := p
  have : uPK a b c d e = .mk (vsel a) (vsel b) (vsel c) (vsel d) (vsel e) := by simp only [uPK, uSK_eq]
  have h : uWK ⟨a, b, c, d, e, f⟩ = .mk fun x hp k => vsel a (vsel b (vsel c (vsel d (vsel e (vsel f (cV x)))))) hp k := by
    show UPK.rec (motive := fun _ => UWK) (uLeafK f) (uPK a b c d e) = _
    rw [this]; exact uLeafK_eq _ _ _ _ _ _
  unfold setK
  rw [h]
  exact vsel_eq a _ _ (vsel_eq b _ _ (vsel_eq c _ _ (vsel_eq d _ _ (vsel_eq e _ _ (vsel_eq f _ (fun _ => x) (fun _ _ => rfl)))))) hp k

/-! ### The n-th of a list -/
abbrev SE := List SV → (SV → Ar) → Ar
inductive SelK where
  | mk (s : SE)
def sl0 : SE := fun l k => List.rec (motive := fun _ => (SV → Ar) → Ar) (fun _ => .bad) (fun x _ _ k => k x) l k
def sl1 (s : SE) : SE := fun l k => List.rec (motive := fun _ => (SV → Ar) → SE → Ar) (fun _ _ => .bad) (fun _ t _ k s => s t k) l k s
def selWK (n : Nat) : SelK := Nat.rec (motive := fun _ => SelK) (.mk sl0) (fun _ w => SelK.rec (motive := fun _ => SelK) (fun s => .mk (sl1 s)) w) n
def atK (l : List SV) (i : Nat) (k : SV → Ar) : Ar := SelK.rec (motive := fun _ => List SV → (SV → Ar) → Ar) (fun s l k => s l k) (selWK i) l k
abbrev TE := List SV → SV → (List SV → Ar) → Ar
inductive StK' where
  | mk (s : TE)
def ts0 : TE := fun l y k => List.rec (motive := fun _ => SV → (List SV → Ar) → Ar) (fun _ _ => .bad) (fun _ t _ y k => k (y :: t)) l y k
def ts1 (s : TE) : TE := fun l y k => List.rec (motive := fun _ => SV → (List SV → Ar) → TE → Ar) (fun _ _ _ => .bad) (fun x t _ y k s => s t y fun l => k (x :: l)) l y k s
def stWK (n : Nat) : StK' := Nat.rec (motive := fun _ => StK') (.mk ts0) (fun _ w => StK'.rec (motive := fun _ => StK') (fun s => .mk (ts1 s)) w) n
/-- another one in the i-th's place. -/
def putAtK (l : List SV) (i : Nat) (y : SV) (k : List SV → Ar) : Ar := StK'.rec (motive := fun _ => List SV → SV → (List SV → Ar) → Ar) (fun s l y k => s l y k) (stWK i) l y k
theorem selWK_eq : ∀ i, ∃ s, selWK i = .mk s ∧ ∀ l k, s l k = match l[i]? with | some x => k x | none => .bad
  | 0 => ⟨sl0, rfl, fun l k => by cases l <;> rfl⟩
  | i + 1 => by
    obtain ⟨s, h1, h2⟩ := selWK_eq i
    refine ⟨sl1 s, ?_, fun l k => ?_⟩
    · show SelK.rec (motive := fun _ => SelK) (fun s => .mk (sl1 s)) (selWK i) = _
      rw [h1]
    · cases l with
      | nil => rfl
      | cons x l => exact h2 l k
theorem atK_eq (l : List SV) (i : Nat) (k : SV → Ar) : atK l i k = match l[i]? with | some x => k x | none => .bad := by
  obtain ⟨s, h1, h2⟩ := selWK_eq i
  unfold atK
  rw [h1]
  exact h2 l k
theorem stWK_eq : ∀ i, ∃ s, stWK i = .mk s ∧ ∀ (l : List SV) y k, s l y k = if i < l.length then k (layL l i [y]) else .bad
  | 0 => ⟨ts0, rfl, fun l y k => by
      cases l with
      | nil => rfl
      | cons x l => simp [layL]; rfl⟩
  | i + 1 => by
    obtain ⟨s, h1, h2⟩ := stWK_eq i
    refine ⟨ts1 s, ?_, fun l y k => ?_⟩
    · show StK'.rec (motive := fun _ => StK') (fun s => .mk (ts1 s)) (stWK i) = _
      rw [h1]
    · cases l with
      | nil => rfl
      | cons x l =>
        show s l y (fun l => k (x :: l)) = _
        rw [h2]
        by_cases h : i < l.length
        · rw [if_pos h, if_pos (by simpa using h)]; simp [layL]
        · rw [if_neg h, if_neg (by simpa using h)]
theorem putAtK_eq (l : List SV) (i : Nat) (y : SV) (k : List SV → Ar) : putAtK l i y k = if i < l.length then k (layL l i [y]) else .bad := by
  obtain ⟨s, h1, h2⟩ := stWK_eq i
  unfold putAtK
  rw [h1]
  exact h2 l y k
end Go.X
end

/-! A second run of the code: by what its end does with it (fast in the kernel). Its parts. -/
noncomputable section
namespace Go.X

abbrev VK := AV → Hp → Pid → Ar
abbrev CallK := List AV → Hp → Pid → VK → Ar
abbrev Env := O3 (Option AV)
abbrev ZK := Env → AV → Hp → Pid → Ar
abbrev ZE := Env → AV → Hp → Pid → ZK → Ar

def arK (r : Ar) (k : VK) : Ar := Ar.rec (motive := fun _ => Ar) .bad k r
def srK (r : Sr) (k : SV → Ar) : Ar := Sr.rec (motive := fun _ => Ar) .bad k r
abbrev PK := Pid → Nat → Ar
abbrev IK := IntKind → Int → Ar
abbrev BK := Bool → Ar
abbrev NK := Nat → Ar
abbrev ptrK (v : AV) : PK → Ar := AV.rec (motive := fun _ => PK → Ar)
  (fun x => SV.rec (motive := fun _ => PK → Ar) (fun _ => .bad) (fun _ _ => .bad) (fun _ _ _ => .bad) (fun _ _ _ _ => .bad) (fun _ _ => .bad) (fun _ _ => .bad) (fun _ _ => .bad) (fun b o k => k b o)
    (fun _ => .bad) (fun _ _ _ _ _ => .bad) (fun _ _ _ => .bad) (fun _ => .bad) (fun _ _ => .bad) (fun _ => .bad) (fun _ _ => .bad) (fun _ => .bad) (fun _ _ _ => .bad) (fun _ => .bad) x)
  (fun _ _ => .bad) (fun _ _ => .bad) v
abbrev intK (v : AV) : IK → Ar := AV.rec (motive := fun _ => IK → Ar)
  (fun x => SV.rec (motive := fun _ => IK → Ar) (fun _ => .bad) (fun _ _ => .bad) (fun q n k => k q n) (fun _ _ _ _ => .bad) (fun _ _ => .bad) (fun _ _ => .bad) (fun _ _ => .bad) (fun _ _ _ => .bad)
    (fun _ => .bad) (fun _ _ _ _ _ => .bad) (fun _ _ _ => .bad) (fun _ => .bad) (fun _ _ => .bad) (fun _ => .bad) (fun _ _ => .bad) (fun _ => .bad) (fun _ _ _ => .bad) (fun _ => .bad) x)
  (fun _ _ => .bad) (fun _ _ => .bad) v
abbrev booK (v : AV) : BK → Ar := AV.rec (motive := fun _ => BK → Ar)
  (fun x => SV.rec (motive := fun _ => BK → Ar) (fun _ => .bad) (fun b k => k b) (fun _ _ _ => .bad) (fun _ _ _ _ => .bad) (fun _ _ => .bad) (fun _ _ => .bad) (fun _ _ => .bad) (fun _ _ _ => .bad)
    (fun _ => .bad) (fun _ _ _ _ _ => .bad) (fun _ _ _ => .bad) (fun _ => .bad) (fun _ _ => .bad) (fun _ => .bad) (fun _ _ => .bad) (fun _ => .bad) (fun _ _ _ => .bad) (fun _ => .bad) x)
  (fun _ _ => .bad) (fun _ _ => .bad) v
abbrev LK := Pid → Nat → Nat → Cap → Ar
/-- a slice that is known. -/
abbrev slcK (v : AV) : LK → Ar := AV.rec (motive := fun _ => LK → Ar)
  (fun x => SV.rec (motive := fun _ => LK → Ar) (fun _ => .bad) (fun _ _ => .bad) (fun _ _ _ => .bad) (fun _ _ _ _ => .bad) (fun _ _ => .bad) (fun _ _ => .bad) (fun _ _ => .bad) (fun _ _ _ => .bad)
    (fun _ => .bad) (fun b o n c k => k b o n c) (fun _ _ _ => .bad) (fun _ => .bad) (fun _ _ => .bad) (fun _ => .bad) (fun _ _ => .bad) (fun _ => .bad) (fun _ _ _ => .bad) (fun _ => .bad) x)
  (fun _ _ => .bad) (fun _ _ => .bad) v
/-- how long a slice is. -/
abbrev lenSK (v : AV) : NK → Ar := AV.rec (motive := fun _ => NK → Ar)
  (fun x => SV.rec (motive := fun _ => NK → Ar) (fun _ => .bad) (fun _ _ => .bad) (fun _ _ _ => .bad) (fun _ _ _ _ => .bad) (fun _ _ => .bad) (fun _ _ => .bad) (fun _ _ => .bad) (fun _ _ _ => .bad)
    (fun _ => .bad) (fun _ _ n _ k => k n) (fun _ _ k => k (nat_lit 0)) (fun k => k (nat_lit 0)) (fun _ _ => .bad) (fun _ => .bad) (fun _ _ => .bad) (fun _ => .bad) (fun _ _ _ => .bad) (fun _ => .bad) x)
  (fun _ _ => .bad) (fun _ _ => .bad) v
abbrev fnK (v : AV) : (Nat → List (Pid × Nat) → Ar) → Ar := AV.rec (motive := fun _ => (Nat → List (Pid × Nat) → Ar) → Ar)
  (fun x => SV.rec (motive := fun _ => (Nat → List (Pid × Nat) → Ar) → Ar) (fun _ => .bad) (fun _ _ => .bad) (fun _ _ _ => .bad) (fun _ _ _ _ => .bad) (fun _ _ => .bad) (fun _ _ => .bad) (fun _ _ => .bad) (fun _ _ _ => .bad)
    (fun _ => .bad) (fun _ _ _ _ _ => .bad) (fun _ _ _ => .bad) (fun _ => .bad) (fun _ _ => .bad) (fun _ => .bad) (fun _ _ => .bad) (fun _ => .bad) (fun f c k => k f c) (fun _ => .bad) x)
  (fun _ _ => .bad) (fun _ _ => .bad) v
abbrev ifA (c : Bool) (a b : Ar) : Ar := Bool.rec b a c
/-- a number of a given kind. -/
abbrev iK (q : IntKind) (v : AV) (k : Int → Ar) : Ar := intK v (fun q' n => ifA (kindEq q q') (k n) .bad)
abbrev natK (n : Int) (k : NK) : Ar := Int.rec (motive := fun _ => NK → Ar) (fun m k => k m) (fun _ _ => .bad) n k
def addN (a b : Nat) : Nat := Nat.add a b
def mulN (a b : Nat) : Nat := Nat.mul a b
abbrev pickV (c : Bool) (a b : AV) : AV := Bool.rec b a c
def ltN (i n : Nat) : Bool := Nat.ble (Nat.succ i) n
def cellK (ob : Obj) (o : Nat) (k : AV → Ar) : Ar := Obj.rec (motive := fun _ => Nat → (AV → Ar) → Ar) (fun _ _ => .bad) (fun _ _ _ l o k => atK l o fun x => k (.s x))
  (fun _ _ _ r o k => byteK r o (fun n => k (.s (.int .u8 (Int.ofNat n)))) .bad) (fun _ _ _ => .bad) (fun _ _ _ _ => .bad) ob o k
/-- a cell. -/
def ldK (b : Pid) (o : Nat) (hp : Hp) (k : AV → Ar) : Ar := getK b hp fun ob => cellK ob o k
def stC (b : Pid) (o : Nat) (y : SV) (hp : Hp) (k : Hp → Ar) (ob : Obj) : Ar := Obj.rec (motive := fun _ => Pid → Nat → SV → Hp → (Hp → Ar) → Ar) (fun _ _ _ _ _ => .bad)
  (fun t ex wr l b o y hp k => Bool.rec (motive := fun _ => Ar) .bad (putAtK l o y fun l => setK b (.cells t ex wr l) hp k) wr) (fun _ _ _ _ _ _ _ _ _ => .bad) (fun _ _ _ _ _ _ => .bad) (fun _ _ _ _ _ _ _ => .bad) ob b o y hp k
def knB (y : SV) : Bool := SV.rec (motive := fun _ => Bool) false (fun _ => true) (fun _ _ => true) (fun _ _ _ => true) (fun _ => true) (fun _ => true) (fun _ => true) (fun _ _ => true) true (fun _ _ _ _ => true) (fun _ _ => true) true (fun _ => true) true (fun _ => true) true (fun _ _ => true) true y
def stS (b : Pid) (o : Nat) (hp : Hp) (k : Hp → Ar) (y : SV) : Ar := Bool.rec (motive := fun _ => Ar) .bad (getK b hp fun ob => stC b o y hp k ob) (knB y)
def stK (b : Pid) (o : Nat) (v : AV) (hp : Hp) (k : Hp → Ar) : Ar := AV.rec (motive := fun _ => Pid → Nat → Hp → (Hp → Ar) → Ar) (fun y b o hp k => stS b o hp k y) (fun _ _ _ _ _ => .bad) (fun _ _ _ _ _ => .bad) v b o hp k
def newK (ob : Obj) (hp : Hp) (nx : Pid) (k : Hp → Pid → Ar) : Ar := sucF nx fun nx' => setK nx ob hp fun hp => k hp nx'

/-! ### Operations that tell what comes behind them -/
def boxK (t : Nat) (v : AV) (hp : Hp) (nx : Pid) (k : VK) : Ar := AV.rec (motive := fun _ => Ar) (fun y => Bool.rec (motive := fun _ => Ar) .bad (newK (.cells t true true [y]) hp nx fun hp nx' => k (.s (.ptr nx (nat_lit 0))) hp nx') (knB y))
  (fun l => newK (.cells t true true l) hp nx fun hp nx' => k (.s (.ptr nx (nat_lit 0))) hp nx') (fun _ => .bad) v
def ldnK (n : Nat) (b : Pid) (o : Nat) (hp : Hp) (k : AV → Ar) : Ar := getK b hp fun ob => obCells ob (fun _ _ _ l => dropK l o (fun l => takeK l n (fun l => k (.a l)) .bad) .bad) (fun _ _ _ _ => .bad) .bad
def stnK (n : Nat) (b : Pid) (o : Nat) (v : AV) (hp : Hp) (k : Hp → Ar) : Ar := asA v (fun y => ifB (Nat.beq (lenK y) n) (getK b hp fun ob => obCells ob (fun t ex wr l => ifB wr (layAtK y l o (fun l => setK b (.cells t ex wr l) hp k) .bad) .bad) (fun _ _ _ _ => .bad) .bad) .bad) .bad
def buildK (z : List SV) (ps : List (Nat × Nat × AV)) (k : AV → Ar) : Ar := fillK ps z (fun l => k (.a l)) .bad
def bsliceK (t len : Nat) (z : List SV) (ps : List (Nat × Nat × AV)) (hp : Hp) (nx : Pid) (k : Hp → Pid → Ar) : Ar := timesK z len fun l => fillK ps l (fun l => newK (.cells t true true l) hp nx k) .bad
def extK (i : Nat) (v : AV) (k : AV → Ar) : Ar := asT v (fun l => nthK l i (fun y => k (v1AV y)) .bad) .bad
def lenTK (v : AV) (k : NK) : Ar := asStr v (fun r => forceN (lenR r) k) .bad
def eqPK (neg : Bool) (x y : AV) (hp : Hp) (k : BK) : Ar :=
  asS x (fun x => asS y (fun y => bothPtr (nilP x) (nilP y) (fun b => k (sameB (notB neg) b)) (ptrs x y hp fun b => k (sameB (notB neg) b))) .bad) .bad
def eqNK (q : NilK) (neg : Bool) (x y : AV) (k : BK) : Ar := asS x (fun x => asS y (fun y => bothNil (nilOf q x) (nilOf q y) fun b => k (sameB (notB neg) b)) .bad) .bad
def eqSK (neg : Bool) (x y : AV) (k : BK) : Ar := asStr x (fun a => asStr y (fun b => eqRK a b (fun b => k (sameB (notB neg) b)) .bad) .bad) .bad
def eqBB (neg a b : Bool) : Bool := sameB (notB neg) (sameB a b)
def growK (t n : Nat) (r : Rope) (hp : Hp) (nx : Pid) (k : VK) : Ar := ifB (Nat.ble n (nat_lit 100000)) (newK (.bytes t false true r) hp nx fun hp nx' => k (.s (.slc nx (nat_lit 0) n (.op (nat_lit 1)))) hp nx') .bad
def appBoK (t : Nat) (b : Pid) (ob : Obj) (o len need : Nat) (y : Rope) (hp : Hp) (nx : Pid) (k : VK) : Ar :=
  obCells ob (fun _ _ _ _ => .bad) (fun t' ex wr r => ifB (cand (Nat.beq t t') (cand (notB ex) wr)) (cutK r o len (fun r => appRK r y fun r => setK b .none hp fun hp => growK t need r hp nx k) .bad) .bad) .bad
def appBkK (t : Nat) (ob : Obj) (o len need c : Nat) (y : Rope) (hp : Hp) (nx : Pid) (k : VK) : Ar :=
  ifB (Nat.ble need c) .bad (bytesO ob o len (fun r => appRK r y fun r => growK t need r hp nx k) .bad)
def appBsK (t : Nat) (b : Pid) (o len : Nat) (cap : Cap) (n : Nat) (y : Rope) (hp : Hp) (nx : Pid) (k : VK) : Ar :=
  forceN (Nat.add len n) fun need => getK b hp fun ob => Cap.rec (motive := fun _ => Ar) (fun c => appBkK t ob o len need c y hp nx k) (fun _ => appBoK t b ob o len need y hp nx k) cap
def bytesK (y : AV) (hp : Hp) (k : Nat → Rope → Ar) : Ar :=
  asS y (fun y => SV.rec (motive := fun _ => Ar) .bad (fun _ => .bad) (fun _ _ => .bad) (fun _ _ _ => .bad) (fun _ => .bad) (fun r => forceN (lenR r) fun n => k n r) (fun _ => .bad) (fun _ _ => .bad) .bad
    (fun b o n _ => getK b hp fun ob => bytesO ob o n (k n) .bad) (fun _ _ => k (nat_lit 0) .nil) (k (nat_lit 0) .nil) (fun _ => .bad) .bad (fun _ => .bad) .bad (fun _ _ => .bad) .bad y) .bad
def appBK (t : Nat) (x y : AV) (hp : Hp) (nx : Pid) (k : VK) : Ar :=
  bytesK y hp fun n y => asS x (fun x => svSlc x
    (fun b o len cap => Bool.rec (motive := fun _ => Ar) (appBsK t b o len cap n y hp nx k) (k (.s (.slc b o len cap)) hp nx) (Nat.beq n (nat_lit 0)))
    (fun b o => ifB (Nat.beq n (nat_lit 0)) (k (.s (.slz b o)) hp nx) .bad)
    (Bool.rec (motive := fun _ => Ar) (growK t n y hp nx k) (k (.s .nils) hp nx) (Nat.beq n (nat_lit 0))) .bad) .bad
abbrev gKZ (v : AV) (k : Bool → Ar) (u : Ar) : Ar := AV.rec (motive := fun _ => Ar) (fun x => SV.rec (motive := fun _ => Ar) .bad k (fun _ _ => .bad) (fun _ _ _ => .bad) (fun _ => .bad) (fun _ => .bad) (fun _ => .bad) (fun _ _ => .bad) .bad (fun _ _ _ _ => .bad) (fun _ _ => .bad) .bad (fun _ => .bad) .bad (fun _ => .bad) .bad (fun _ _ => .bad) .bad x) (fun _ => .bad) (fun l => List.rec (motive := fun _ => Ar) u (fun _ _ _ => .bad) l) v
abbrev avZ (v : AV) (k : V1 → Ar) : Ar := AV.rec (motive := fun _ => Ar) (fun x => k (.s x)) (fun l => k (.a l)) (fun _ => .bad) v
abbrev fnZ (x : SV) (k : Nat → List (Pid × Nat) → Ar) (z : Ar) : Ar := SV.rec (motive := fun _ => Ar) z (fun _ => z) (fun _ _ => z) (fun _ _ _ => z) (fun _ => z) (fun _ => z) (fun _ => z) (fun _ _ => z) z (fun _ _ _ _ => z) (fun _ _ => z) z (fun _ => z) z (fun _ => z) z k z x
abbrev appZ {α : Type} (l l' : List α) : (List α → Ar) → Ar := List.rec (motive := fun _ => (List α → Ar) → Ar) (fun k => k l') (fun x _ ih k => ih (fun l => k (x :: l))) l
def jn {T : Type} (b : T → Ar) (j : T) : Ar := b j

/-! ## Reading the temporaries -/
abbrev oget (o : Option AV) (k : AV → Ar) : Ar := Option.rec (motive := fun _ => Ar) .bad k o
abbrev xv (x : AOpd) (σ : Env) (la : AV) (k : AV → Ar) : Ar := AOpd.rec (motive := fun _ => Ar) (fun s => oget (get3 s σ) k) (k la) (fun v => k v) x
abbrev xvL (l : List AOpd) (σ : Env) (la : AV) : (List AV → Ar) → Ar := List.rec (motive := fun _ => (List AV → Ar) → Ar) (fun k => k []) (fun x _ ih k => xv x σ la fun v => ih fun vs => k (v :: vs)) l
abbrev xvM (x : Option AOpd) (σ : Env) (la : AV) (k : Option AV → Ar) : Ar := Option.rec (motive := fun _ => Ar) (k none) (fun x => xv x σ la fun v => k (some v)) x
abbrev xvP (l : List (Nat × Nat × AOpd)) (σ : Env) (la : AV) : (List (Nat × Nat × AV) → Ar) → Ar :=
  List.rec (motive := fun _ => (List (Nat × Nat × AV) → Ar) → Ar) (fun k => k []) (fun p _ ih k => xv p.2.2 σ la fun v => ih fun vs => k ((p.1, p.2.1, v) :: vs)) l
section
variable {α β : Type}
abbrev om0Z : OM α β := fun f a b c d e g h i k => f a (fun x => k ⟨x, b, c, d, e, g, h, i⟩)
abbrev om1Z : OM α β := fun f a b c d e g h i k => f b (fun x => k ⟨a, x, c, d, e, g, h, i⟩)
abbrev om2Z : OM α β := fun f a b c d e g h i k => f c (fun x => k ⟨a, b, x, d, e, g, h, i⟩)
abbrev om3Z : OM α β := fun f a b c d e g h i k => f d (fun x => k ⟨a, b, c, x, e, g, h, i⟩)
abbrev om4Z : OM α β := fun f a b c d e g h i k => f e (fun x => k ⟨a, b, c, d, x, g, h, i⟩)
abbrev om5Z : OM α β := fun f a b c d e g h i k => f g (fun x => k ⟨a, b, c, d, e, x, h, i⟩)
abbrev om6Z : OM α β := fun f a b c d e g h i k => f h (fun x => k ⟨a, b, c, d, e, g, x, i⟩)
abbrev om7Z : OM α β := fun f a b c d e g h i k => f i (fun x => k ⟨a, b, c, d, e, g, h, x⟩)
abbrev omZ (d : D8) : OM α β := D8.rec om0Z om1Z om2Z om3Z om4Z om5Z om6Z om7Z d
abbrev omodZ (d : D8) (f : KF α β) (o : Oct α) (k : Oct α → β) : β :=
  Oct.rec (motive := fun _ => β) (fun a b c d' e f' g h => omZ d f a b c d' e f' g h k) o
abbrev leafZ (x : α) : KF α β := fun _ k => k x
abbrev setZ (s : Slot) (x : α) (o : O3 α) (k : O3 α → β) : β := Slot.rec (motive := fun _ => β) (fun a b c => omodZ a (omodZ b (omodZ c (leafZ x))) o k) s
end
theorem setZ_eq {α β : Type} {s : Slot} {x : α} {o : O3 α} {k : O3 α → β} : setZ s x o k = k (put3 s x o) := set3_eq
abbrev setE (s : Slot) (v : Option AV) (σ : Env) (k : Env → Ar) : Ar := setZ s v σ k
/-- what is now known of an operand. -/
abbrev refK (x : AOpd) (v : AV) (σ : Env) (k : Env → Ar) : Ar := AOpd.rec (motive := fun _ => Ar) (fun s => setE s (some v) σ k) (k σ) (fun _ => k σ) x
abbrev unP (x : AOpd) (σ : Env) (la : AV) (k : Env → PK) : Ar := xv x σ la fun v => ptrK v fun b o => refK x (.s (.ptr b o)) σ fun σ => k σ b o
abbrev unB (x : AOpd) (σ : Env) (la : AV) (k : Env → BK) : Ar := xv x σ la fun v => booK v fun b => refK x (.s (.bool b)) σ fun σ => k σ b
abbrev unI (x : AOpd) (σ : Env) (la : AV) (k : Env → IK) : Ar := xv x σ la fun v => intK v fun q n => refK x (.s (.int q n)) σ fun σ => k σ q n
abbrev unQ (q : IntKind) (x : AOpd) (σ : Env) (la : AV) (k : Env → Int → Ar) : Ar := xv x σ la fun v => iK q v fun n => refK x (.s (.int q n)) σ fun σ => k σ n
abbrev unL (x : AOpd) (σ : Env) (la : AV) (k : Env → LK) : Ar := xv x σ la fun v => slcK v fun b o n c => refK x (.s (.slc b o n c)) σ fun σ => k σ b o n c

/-! ## Operations -/
abbrev z1 (F : AV → Hp → Pid → Ar) (x : AOpd) : ZE := fun σ la hp nx k => xv x σ la fun a => arK (F a hp nx) (k σ)
abbrev z2 (F : AV → AV → Hp → Pid → Ar) (x y : AOpd) : ZE := fun σ la hp nx k => xv x σ la fun a => xv y σ la fun b => arK (F a b hp nx) (k σ)
abbrev z3 (F : AV → AV → AV → Hp → Pid → Ar) (x y z : AOpd) : ZE := fun σ la hp nx k => xv x σ la fun a => xv y σ la fun b => xv z σ la fun c => arK (F a b c hp nx) (k σ)
abbrev zBad : ZE := fun _ _ _ _ _ => .bad
abbrev zMov (x : AOpd) : ZE := fun σ la hp nx k => xv x σ la fun v => k σ v hp nx
abbrev zPick (c a b : AOpd) : ZE := fun σ la hp nx k => unB c σ la fun σ c => xv a σ la fun a => xv b σ la fun b => k σ (pickV c a b) hp nx
abbrev zAlloc (t : Nat) (z : List SV) : ZE := fun σ _ hp nx k => newK (.cells t true true z) hp nx fun hp nx' => k σ (.s (.ptr nx (nat_lit 0))) hp nx'
abbrev zBuild (z : List SV) (ps : List (Nat × Nat × AOpd)) : ZE := fun σ la hp nx k => xvP ps σ la fun ps => buildK z ps fun v => k σ v hp nx
abbrev zBslice (t len : Nat) (z : List SV) (ps : List (Nat × Nat × AOpd)) : ZE := fun σ la hp nx k => xvP ps σ la fun ps => bsliceK t len z ps hp nx fun hp nx' => k σ (.s (.slc nx (nat_lit 0) len (.kn len))) hp nx'
abbrev zLd1 (x : AOpd) : ZE := fun σ la hp nx k => unP x σ la fun σ b o => ldK b o hp fun v => k σ v hp nx
abbrev zSt1 (x v : AOpd) : ZE := fun σ la hp nx k => unP x σ la fun σ b o => xv v σ la fun y => stK b o y hp fun hp => k σ (.s .un) hp nx
abbrev zNilck (x : AOpd) : ZE := fun σ la hp nx k => unP x σ la fun σ b o => k σ (.s (.ptr b o)) hp nx
abbrev zFad (off : Nat) (x : AOpd) : ZE := fun σ la hp nx k => unP x σ la fun σ b o => k σ (.s (.ptr b (addN o off))) hp nx
abbrev zIxs (es : Nat) (x i : AOpd) : ZE := fun σ la hp nx k => unL x σ la fun σ b o n _ => unI i σ la fun σ _ i => natK i fun i => ifA (ltN i n) (k σ (.s (.ptr b (addN o (mulN i es)))) hp nx) .bad
abbrev zIxa (n es : Nat) (x i : AOpd) : ZE := fun σ la hp nx k => unP x σ la fun σ b o => unI i σ la fun σ _ i => natK i fun i => ifA (ltN i n) (k σ (.s (.ptr b (addN o (mulN i es)))) hp nx) .bad
abbrev zSlstr (x : AOpd) (lo hi : Option AOpd) : ZE := fun σ la hp nx k => xv x σ la fun a => xvM lo σ la fun lo => xvM hi σ la fun hi => arK (opSlstr a lo hi hp nx) (k σ)
abbrev zSlslc (es : Nat) (x : AOpd) (lo hi mx : Option AOpd) : ZE := fun σ la hp nx k => xv x σ la fun a => xvM lo σ la fun lo => xvM hi σ la fun hi => xvM mx σ la fun mx => arK (opSlslc es a lo hi mx hp nx) (k σ)
abbrev zSlarr (n es : Nat) (x : AOpd) (lo hi mx : Option AOpd) : ZE := fun σ la hp nx k => xv x σ la fun a => xvM lo σ la fun lo => xvM hi σ la fun hi => xvM mx σ la fun mx => arK (opSlarr n es a lo hi mx hp nx) (k σ)
/-- an operand that is a number at sight: its kind. -/
abbrev kdV (v : AV) (z : Option IntKind) : Option IntKind := AV.rec (motive := fun _ => Option IntKind) (fun x => SV.rec (motive := fun _ => Option IntKind) z (fun _ => z) (fun q _ => some q) (fun _ _ _ => z) (fun _ => z) (fun _ => z) (fun _ => z) (fun _ _ => z) z (fun _ _ _ _ => z) (fun _ _ => z) z (fun _ => z) z (fun _ => z) z (fun _ _ => z) z x) (fun _ => z) (fun _ => z) v
abbrev kdOf (x : AOpd) : Option IntKind := AOpd.rec (motive := fun _ => Option IntKind) (fun _ => none) none (fun v => kdV v none) x
abbrev arO (op : BinOp) (q : IntKind) (a b : Int) (k : AV → Ar) : Ar := srK (binI op q a b) fun x => k (.s x)
def addI (q : IntKind) (a b : Int) (k : Int → Ar) : Ar := Int.rec (motive := fun _ => IntKind → Int → (Int → Ar) → Ar)
  (fun m q b k => Int.rec (motive := fun _ => Nat → IntKind → (Int → Ar) → Ar) (fun n m q k => forceN (Nat.add m n) fun s => Bool.rec (motive := fun _ => Ar) (wrapK q (.ofNat s) k) (k (.ofNat s)) (Nat.ble s (maxN q)))
    (fun n m q k => wrapK q (Int.add (.ofNat m) (.negSucc n)) k) b m q k) (fun m q b k => wrapK q (Int.add (.negSucc m) b) k) a q b k
def subI (q : IntKind) (a b : Int) (k : Int → Ar) : Ar := wrapK q (Int.sub a b) k
def cviI (q : IntKind) (a : Int) (k : Int → Ar) : Ar := Bool.rec (motive := fun _ => Ar) (wrapK q a k) (k a) (inR q a)
abbrev addO (q : IntKind) (a b : Int) (k : AV → Ar) : Ar := addI q a b fun n => k (.s (.int q n))
abbrev subO (q : IntKind) (a b : Int) (k : AV → Ar) : Ar := subI q a b fun n => k (.s (.int q n))
abbrev cmpO (c : Int → Int → Bool) (_q : IntKind) (a b : Int) (k : AV → Ar) : Ar := k (.s (.bool (c a b)))
def neI (a b : Int) : Bool := notB (eqI a b)
def leI (a b : Int) : Bool := notB (ltI b a)
def gtI (a b : Int) : Bool := ltI b a
def geI (a b : Int) : Bool := notB (ltI a b)
abbrev binO (op : BinOp) : IntKind → Int → Int → (AV → Ar) → Ar :=
  BinOp.rec addO subO (arO .mul) (arO .quo) (arO .rem) (arO .and) (arO .or) (arO .xor) (arO .shl) (arO .shr) (arO .andNot) (cmpO eqI) (cmpO neI) (cmpO ltI) (cmpO leI) (cmpO gtI) (cmpO geI) op
abbrev zBin0 (op : BinOp) (x y : AOpd) : ZE := fun σ la hp nx k => unI x σ la fun σ q a => unQ q y σ la fun σ b => binO op q a b fun v => k σ v hp nx
abbrev zBin1 (op : BinOp) (x y : AOpd) (q : IntKind) : ZE := fun σ la hp nx k => unQ q x σ la fun σ a => unQ q y σ la fun σ b => binO op q a b fun v => k σ v hp nx
abbrev zBin (op : BinOp) (x y : AOpd) : ZE := Option.rec (motive := fun _ => ZE) (Option.rec (motive := fun _ => ZE) (zBin0 op x y) (zBin1 op x y) (kdOf x)) (zBin1 op x y) (kdOf y)
abbrev zSh (op : BinOp) (x y : AOpd) : ZE := fun σ la hp nx k => unI x σ la fun σ q a => unI y σ la fun σ _ b => srK (shI op q a b) fun v => k σ (.s v) hp nx
abbrev zNot (x : AOpd) : ZE := fun σ la hp nx k => unB x σ la fun σ b => k σ (.s (.bool (notB b))) hp nx
abbrev zCvi (q : IntKind) (x : AOpd) : ZE := fun σ la hp nx k => unI x σ la fun σ _ a => cviI q a fun n => k σ (.s (.int q n)) hp nx
abbrev zMinmax (mx : Bool) (l : List AOpd) : ZE := fun σ la hp nx k => xvL l σ la fun vs => arK (opMinmax mx vs hp nx) (k σ)
abbrev zLenSlc (x : AOpd) : ZE := fun σ la hp nx k => xv x σ la fun v => lenSK v fun n => k σ (.s (int64 n)) hp nx
abbrev zMkmap : ZE := fun σ _ hp nx k => arK (opMkmap hp nx) (k σ)
abbrev zMkfn (f : Nat) (caps : List AOpd) : ZE := fun σ la hp nx k => xvL caps σ la fun vs => arK (opMkfn f vs hp nx) (k σ)
abbrev zCall (fe : Nat → CallK) (f : Nat) (args : List AOpd) : ZE := fun σ la hp nx k => xvL args σ la fun vs => fe f vs hp nx (k σ)
abbrev callvZ (fe : Nat → CallK) (v : AV) (vs : List AV) (hp : Hp) (nx : Pid) (k : VK) : Ar := fnK v fun f c => appZ vs (capAV c) fun l => fe f l hp nx k
abbrev zCallv (fe : Nat → CallK) (x : AOpd) (args : List AOpd) : ZE := fun σ la hp nx k => xv x σ la fun v => xvL args σ la fun vs => callvZ fe v vs hp nx (k σ)
abbrev zIntr (c : Intr) (args : List AOpd) : ZE := fun σ la hp nx k => xvL args σ la fun vs => arK (runIn c vs hp nx) (k σ)
abbrev zEqB (neg : Bool) (x y : AOpd) : ZE := fun σ la hp nx k => unB x σ la fun σ a => unB y σ la fun σ b => k σ (.s (.bool (eqBB neg a b))) hp nx
abbrev zEqS (neg : Bool) (x y : AOpd) : ZE := fun σ la hp nx k => xv x σ la fun a => xv y σ la fun b => eqSK neg a b fun c => k σ (.s (.bool c)) hp nx
abbrev zEqN (q : NilK) (neg : Bool) (x y : AOpd) : ZE := fun σ la hp nx k => xv x σ la fun a => xv y σ la fun b => eqNK q neg a b fun c => k σ (.s (.bool c)) hp nx
abbrev zEqP (neg : Bool) (x y : AOpd) : ZE := fun σ la hp nx k => xv x σ la fun a => xv y σ la fun b => eqPK neg a b hp fun c => k σ (.s (.bool c)) hp nx
abbrev zEq (k : EqK) (neg : Bool) (x y : AOpd) : ZE := EqK.rec (motive := fun _ => ZE) (zEqB neg x y) (zEqS neg x y) (fun k => zEqN k neg x y) (zEqP neg x y) (fun l => z2 (opEqF l neg) x y) k
abbrev zBox (t : Nat) (x : AOpd) : ZE := fun σ la hp nx k => xv x σ la fun v => boxK t v hp nx (k σ)
abbrev zLdn (n : Nat) (x : AOpd) : ZE := fun σ la hp nx k => unP x σ la fun σ b o => ldnK n b o hp fun v => k σ v hp nx
abbrev zStn (n : Nat) (x v : AOpd) : ZE := fun σ la hp nx k => unP x σ la fun σ b o => xv v σ la fun y => stnK n b o y hp fun hp => k σ (.s .un) hp nx
abbrev zExt (i : Nat) (x : AOpd) : ZE := fun σ la hp nx k => xv x σ la fun v => extK i v fun v => k σ v hp nx
abbrev zLenStr (x : AOpd) : ZE := fun σ la hp nx k => xv x σ la fun v => lenTK v fun n => k σ (.s (int64 n)) hp nx
abbrev zAppB (t : Nat) (x y : AOpd) : ZE := fun σ la hp nx k => xv x σ la fun a => xv y σ la fun b => appBK t a b hp nx (k σ)
abbrev zOp (fe : Nat → CallK) (o : AOp) : ZE := AOp.rec (motive := fun _ => ZE) zBad zMov zPick zAlloc zBox zBuild zBslice zLd1 zLdn zSt1 zStn zNilck zFad
  (fun off n agg x => z1 (opFld off n agg) x) zIxs zIxa (fun x i => z2 opIxstr x i) zSlstr zSlslc zSlarr zEq zBin zSh (fun x y => z2 opCat x y) zNot (fun x => z1 opNeg x) zCvi
  zExt zMinmax zLenStr zLenSlc (fun x => z1 opCap x) (fun x => z1 opLenMap x) (fun t z l c => z2 (opMkslice t z) l c) (fun t l c => z2 (opMkbytes t) l c) zMkmap zMkfn
  (fun t es x y => z2 (opApp t es) x y) zAppB (fun t x => z1 (opS2b t) x) (fun x => z1 opB2s x) (fun z x => z1 (opClear z) x) (fun kk ok z m k => z2 (opLook kk ok z) m k) (fun kk m k v => z3 (opMset kk) m k v) (fun kk m k => z2 (opMdel kk) m k)
  (fun x => z1 opMkchan x) (fun x => z1 opLenChan x) (fun x => z1 opUsd x) (fun e x n => z2 (opUstr e) x n) (zCall fe) (zCallv fe) zIntr o
end Go.X
end

/-! Steps and code, by what their end does. -/
noncomputable section
namespace Go.X

/-! ## Places where ways meet -/
inductive Tg where
  | v | i (q : IntKind) | b | p
abbrev JL := List (Slot × Tg)
abbrev JT1 (t : Tg) (T : Type) : Type := Tg.rec (motive := fun _ => Type) (AV → T) (fun _ => Int → T) (Bool → T) (Pid → Nat → T) t
abbrev JT (M : JL) : Type := List.rec (motive := fun _ => Type) (Hp → Pid → Ar) (fun p _ ih => JT1 p.2 ih) M
abbrev AJ (T : Type) := T → Env → Hp → Pid → Ar
abbrev appJ1 {T : Type} (s : Slot) (t : Tg) (ih : AJ T) : AJ (JT1 t T) :=
  Tg.rec (motive := fun t => AJ (JT1 t T)) (fun j σ hp nx => oget (get3 s σ) fun v => ih (j v) σ hp nx)
    (fun q j σ hp nx => oget (get3 s σ) fun v => iK q v fun n => ih (j n) σ hp nx)
    (fun j σ hp nx => oget (get3 s σ) fun v => booK v fun b => ih (j b) σ hp nx)
    (fun j σ hp nx => oget (get3 s σ) fun v => ptrK v fun b o => ih (j b o) σ hp nx) t
abbrev appJ (M : JL) : AJ (JT M) := List.rec (motive := fun M => AJ (JT M)) (fun j _ hp nx => j hp nx) (fun p _ ih => appJ1 p.1 p.2 ih) M
abbrev EK := Env → Hp → Pid → Ar
abbrev BJ (T : Type) := EK → Env → T
abbrev bindJ1 {T : Type} (s : Slot) (t : Tg) (ih : BJ T) : BJ (JT1 t T) :=
  Tg.rec (motive := fun t => BJ (JT1 t T)) (fun f σ v => ih f (put3 s (some v) σ)) (fun q f σ n => ih f (put3 s (some (.s (.int q n))) σ)) (fun f σ b => ih f (put3 s (some (.s (.bool b))) σ)) (fun f σ b o => ih f (put3 s (some (.s (.ptr b o))) σ)) t
abbrev bindJ (M : JL) : BJ (JT M) := List.rec (motive := fun M => BJ (JT M)) (fun f σ hp nx => f σ hp nx) (fun p _ ih => bindJ1 p.1 p.2 ih) M
abbrev dropE (D : List Slot) : Env → (Env → Ar) → Ar := List.rec (motive := fun _ => Env → (Env → Ar) → Ar) (fun σ k => k σ) (fun s _ ih σ k => setE s none σ fun σ => ih σ k) D
abbrev catL {α : Type} (a b : List α) : List α := List.rec (motive := fun _ => List α) b (fun x _ ih => x :: ih) a
abbrev takeL {α : Type} (n : Nat) : List α → List α := Nat.rec (motive := fun _ => List α → List α) (fun _ => []) (fun _ ih l => List.rec (motive := fun _ => List α) [] (fun x l _ => x :: ih l) l) n
abbrev dropL {α : Type} (n : Nat) : List α → List α := Nat.rec (motive := fun _ => List α → List α) (fun l => l) (fun _ ih l => List.rec (motive := fun _ => List α) [] (fun _ l _ => ih l) l) n

/-! ## What is turned -/
abbrev dOpt (d : Option Slot) : List Slot := Option.rec (motive := fun _ => List Slot) [] (fun s => [s]) d
abbrev dStep (s : AStep) : List Slot := AStep.rec (motive := fun _ => List Slot) (fun _ d => dOpt d) (fun _ _ _ d => dOpt d) (fun _ _ => []) (fun _ _ _ _ => []) s
abbrev dSteps (l : List AStep) : List Slot := List.rec (motive := fun _ => List Slot) [] (fun s _ ih => catL (dStep s) ih) l
abbrev dCode (c : ACode) : List Slot := ACode.rec (motive := fun _ => List Slot) [] dSteps (fun _ _ a b => catL a b) (fun _ _ _ a b => catL a b) (fun _ _ b => b) (fun _ b => b) (fun _ => []) [] [] (fun _ _ d => dOpt d) (fun _ _ d => dOpt d) (fun _ _ => [topS]) c

/-! ## Steps -/
abbrev putE (d : Option Slot) (v : AV) (σ : Env) (k : Env → Ar) : Ar := Option.rec (motive := fun _ => Ar) (k σ) (fun s => setE s (some v) σ k) d
abbrev zSt (fe : Nat → CallK) (o : AOp) (d : Option Slot) : ZE := fun σ la hp nx k => zOp fe o σ la hp nx fun σ v hp nx => putE d v σ fun σ => k σ v hp nx
abbrev zSkip (d : Option Slot) : ZE := fun σ _ hp nx k => putE d undefA σ fun σ => k σ undefA hp nx
abbrev zChk (fe : Nat → CallK) (o : AOp) (s : Slot) : ZE := fun σ la hp nx k => zOp fe o σ la hp nx fun σ v _ _ => oget (get3 s σ) fun old => ifA (sameAV v old) (k σ la hp nx) .bad
abbrev guardZ (g : Slot) (σ : Env) (k : Bool → Ar) (u : Ar) : Ar := oget (get3 g σ) fun v => gKZ v k u
abbrev zGd (fe : Nat → CallK) (g : Slot) (b : Bool) (o : AOp) (d : Option Slot) : ZE := fun σ la hp nx k => guardZ g σ (fun b' => ifA (sameB b b') (zSt fe o d σ la hp nx k) (zSkip d σ la hp nx k)) (zSkip d σ la hp nx k)
abbrev zGchk (fe : Nat → CallK) (g : Slot) (b : Bool) (o : AOp) (s : Slot) : ZE := fun σ la hp nx k => guardZ g σ (fun b' => ifA (sameB b b') (zChk fe o s σ la hp nx k) (k σ la hp nx)) (k σ la hp nx)
abbrev zStep (fe : Nat → CallK) (s : AStep) : ZE := AStep.rec (motive := fun _ => ZE) (zSt fe) (zGd fe) (zChk fe) (zGchk fe) s
abbrev zNone : ZE := fun σ la hp nx k => k σ la hp nx
abbrev zAll (fe : Nat → CallK) (l : List AStep) : ZE := List.rec (motive := fun _ => ZE) zNone (fun s _ ih σ la hp nx k => zStep fe s σ la hp nx fun σ la hp nx => ih σ la hp nx k) l

/-- how a region is run: so many steps; a choice by a truth, with all that hangs on it; what a temporary is. -/
inductive RH where
  | nil
  | go (n : Nat) (r : RH)
  | br (g : Slot) (M : JL) (n : Nat) (pre r : RH)
  | kn (s : Slot) (t : Tg) (r : RH)
  | kg (g : Slot) (b : Bool) (s : Slot) (t : Tg) (r : RH)
  | gn (r : RH)
abbrev RK := List AStep → ZK
abbrev RE := List AStep → Env → AV → Hp → Pid → RK → Ar
abbrev zKn (s : Slot) (t : Tg) (σ : Env) (k : Env → Ar) : Ar :=
  Tg.rec (motive := fun _ => Ar) (k σ) (fun q => oget (get3 s σ) fun v => iK q v fun n => setE s (some (.s (.int q n))) σ k) (oget (get3 s σ) fun v => booK v fun b => setE s (some (.s (.bool b))) σ k)
    (oget (get3 s σ) fun v => ptrK v fun b o => setE s (some (.s (.ptr b o))) σ k) t
abbrev rNil : RE := fun l σ la hp nx k => k l σ la hp nx
abbrev rGo (fe : Nat → CallK) (n : Nat) (r : RE) : RE := fun l σ la hp nx k => zAll fe (takeL n l) σ la hp nx fun σ la hp nx => r (dropL n l) σ la hp nx k
abbrev rPre (fe : Nat → CallK) (n : Nat) (pre : RE) : RE := fun l σ la hp nx k => pre (takeL n l) σ la hp nx fun l' σ la hp nx => zAll fe l' σ la hp nx fun σ la hp nx => k (dropL n l) σ la hp nx
abbrev rBr (fe : Nat → CallK) (g : Slot) (M : JL) (n : Nat) (pre r : RE) : RE := fun l σ la hp nx k =>
  guardZ g σ (fun gb => dropE (dSteps (takeL n l)) σ fun σ0 =>
    jn (T := AV → JT M) (fun J => ifA gb (setE g (some (.s (.bool true))) σ fun σ => rPre fe n pre l σ la hp nx fun _ σ la hp nx => appJ M (J la) σ hp nx)
        (setE g (some (.s (.bool false))) σ fun σ => rPre fe n pre l σ la hp nx fun _ σ la hp nx => appJ M (J la) σ hp nx))
      (fun la => bindJ M (fun σ hp nx => r (dropL n l) σ la hp nx k) σ0))
    (rPre fe n pre l σ la hp nx fun l σ la hp nx => r l σ la hp nx k)
abbrev rKn (s : Slot) (t : Tg) (r : RE) : RE := fun l σ la hp nx k => zKn s t σ fun σ => r l σ la hp nx k
abbrev rKg (g : Slot) (b : Bool) (s : Slot) (t : Tg) (r : RE) : RE := fun l σ la hp nx k => guardZ g σ (fun b' => ifA (sameB b b') (zKn s t σ fun σ => r l σ la hp nx k) (r l σ la hp nx k)) (r l σ la hp nx k)
/-- one step as the first run takes it: of numbers that are known by their bounds alone. -/
abbrev zOpG (o : AOp) : ZE := AOp.rec (motive := fun _ => ZE) zBad (fun _ => zBad) (fun _ _ _ => zBad) (fun _ _ => zBad) (fun _ _ => zBad) (fun _ _ => zBad) (fun _ _ _ _ => zBad) (fun _ => zBad) (fun _ _ => zBad) (fun _ _ => zBad) (fun _ _ _ => zBad) (fun _ => zBad) (fun _ _ => zBad)
  (fun _ _ _ _ => zBad) (fun _ _ _ => zBad) (fun _ _ _ _ => zBad) (fun _ _ => zBad) (fun _ _ _ => zBad) (fun _ _ _ _ _ => zBad) (fun _ _ _ _ _ _ => zBad) (fun _ _ _ _ => zBad) (fun op x y => z2 (opBinI op) x y) (fun _ _ _ => zBad) (fun _ _ => zBad) (fun _ => zBad) (fun _ => zBad) (fun _ _ => zBad)
  (fun _ _ => zBad) (fun _ _ => zBad) (fun _ => zBad) (fun _ => zBad) (fun _ => zBad) (fun _ => zBad) (fun _ _ _ _ => zBad) (fun _ _ _ => zBad) zBad (fun _ _ => zBad)
  (fun _ _ _ _ => zBad) (fun _ _ _ => zBad) (fun _ _ => zBad) (fun _ => zBad) (fun _ _ => zBad) (fun _ _ _ _ _ => zBad) (fun _ _ _ _ => zBad) (fun _ _ _ => zBad)
  (fun _ => zBad) (fun _ => zBad) (fun _ => zBad) (fun _ _ _ => zBad) (fun _ _ => zBad) (fun _ _ => zBad) (fun _ _ => zBad) o
abbrev zStG (o : AOp) (d : Option Slot) : ZE := fun σ la hp nx k => zOpG o σ la hp nx fun σ v hp nx => putE d v σ fun σ => k σ v hp nx
abbrev zGdG (g : Slot) (b : Bool) (o : AOp) (d : Option Slot) : ZE := fun σ la hp nx k => guardZ g σ (fun b' => ifA (sameB b b') (zStG o d σ la hp nx k) (zSkip d σ la hp nx k)) (zSkip d σ la hp nx k)
abbrev zStepG (s : AStep) : ZE := AStep.rec (motive := fun _ => ZE) zStG zGdG (fun _ _ => zBad) (fun _ _ _ _ => zBad) s
abbrev rGn (r : RE) : RE := fun l σ la hp nx k => List.rec (motive := fun _ => Ar) .bad (fun s l _ => zStepG s σ la hp nx fun σ la hp nx => r l σ la hp nx k) l
abbrev zR (fe : Nat → CallK) (h : RH) : RE := RH.rec (motive := fun _ => RE) rNil (fun n _ r => rGo fe n r) (fun g M n _ _ pre r => rBr fe g M n pre r) (fun s t _ r => rKn s t r) (fun g b s t _ r => rKg g b s t r) (fun _ r => rGn r) h

/-! ## Code -/
inductive ZH where
  | nil
  | n (a b : ZH)
  | r (h : RH)
  | c (M : Option JL) (a b : ZH)
  | bl (M : Option JL) (b : ZH)
  | lp (M : JL) (b : ZH)
  | x
abbrev hA (h : ZH) : ZH := ZH.rec (motive := fun _ => ZH) .nil (fun a _ _ _ => a) (fun _ => .nil) (fun _ a _ _ _ => a) (fun _ b _ => b) (fun _ b _ => b) .nil h
abbrev hB (h : ZH) : ZH := ZH.rec (motive := fun _ => ZH) .nil (fun _ b _ _ => b) (fun _ => .nil) (fun _ _ b _ _ => b) (fun _ b _ => b) (fun _ b _ => b) .nil h
abbrev hR (h : ZH) : RH := ZH.rec (motive := fun _ => RH) .nil (fun _ _ _ _ => .nil) (fun h => h) (fun _ _ _ _ _ => .nil) (fun _ _ _ => .nil) (fun _ _ _ => .nil) .nil h
abbrev hM (h : ZH) : Option JL := ZH.rec (motive := fun _ => Option JL) none (fun _ _ _ _ => none) (fun _ => none) (fun M _ _ _ _ => M) (fun M _ _ => M) (fun M _ _ => some M) none h
abbrev hL (h : ZH) : JL := ZH.rec (motive := fun _ => JL) [] (fun _ _ _ _ => []) (fun _ => []) (fun _ _ _ _ _ => []) (fun _ _ _ => []) (fun M _ _ => M) [] h
/-- ways that are not gone. -/
abbrev cutZ (h : ZH) (r : Ar) : Ar := ZH.rec (motive := fun _ => Ar) r (fun _ _ _ _ => r) (fun _ => r) (fun _ _ _ _ _ => r) (fun _ _ _ => r) (fun _ _ _ => r) .bad h
abbrev CK := Ex → EK
abbrev CE := ZH → Env → Hp → Pid → CK → Ar
abbrev exK (K : CK) (n : EK) : CK := fun e σ hp nx => Ex.rec (motive := fun _ => Ar) (n σ hp nx) (fun id => K (.exit id) σ hp nx) (K .ret σ hp nx) e
abbrev blK (id : Nat) (K : CK) (n : EK) : CK := fun e σ hp nx => Ex.rec (motive := fun _ => Ar) (n σ hp nx) (fun id' => ifA (Nat.beq id' id) (n σ hp nx) (K (.exit id') σ hp nx)) (K .ret σ hp nx) e
def lpJ {T : Type} (z : T) (F : T → T) (n : Nat) : T := Nat.rec (motive := fun _ => T) z (fun _ s => F s) n
abbrev un0' : AV := .s .un
abbrev zReg (fe : Nat → CallK) (l : List AStep) : CE := fun h σ hp nx K => zR fe (hR h) l σ un0' hp nx fun l σ la hp nx => zAll fe l σ la hp nx fun σ _ hp nx => K .norm σ hp nx
abbrev zSeq (a b : CE) : CE := fun h σ hp nx K => a (hA h) σ hp nx (exK K fun σ hp nx => b (hB h) σ hp nx K)
abbrev zCond (x : AOpd) (ca cb : ACode) (a b : CE) : CE := fun h σ hp nx K => unB x σ un0' fun σ c =>
  Option.rec (motive := fun _ => Ar) (ifA c (cutZ (hA h) (a (hA h) σ hp nx K)) (cutZ (hB h) (b (hB h) σ hp nx K)))
    (fun M => dropE (catL (dCode ca) (dCode cb)) σ fun σ0 => jn (T := JT M) (fun J => ifA c (cutZ (hA h) (a (hA h) σ hp nx (exK K (appJ M J)))) (cutZ (hB h) (b (hB h) σ hp nx (exK K (appJ M J))))) (bindJ M (K .norm) σ0)) (hM h)
abbrev zBlock (id : Nat) (cb : ACode) (b : CE) : CE := fun h σ hp nx K =>
  Option.rec (motive := fun _ => Ar) (b (hA h) σ hp nx (blK id K (K .norm)))
    (fun M => dropE (dCode cb) σ fun σ0 => jn (T := JT M) (fun J => b (hA h) σ hp nx (blK id K (appJ M J))) (bindJ M (K .norm) σ0)) (hM h)
abbrev emptyE : Env := oct8 (oct8 (oct8 none))
abbrev badJ (M : JL) : JT M := bindJ M (fun _ _ _ => .bad) emptyE
abbrev zLoop (cb : ACode) (b : CE) : CE := fun h σ hp nx K =>
  dropE (dCode cb) σ fun σ0 => appJ (hL h) (lpJ (badJ (hL h)) (fun self => bindJ (hL h) (fun σ hp nx => b (hA h) σ hp nx (exK K (appJ (hL h) self))) σ0) (nat_lit 100000)) σ hp nx
abbrev unnK (t : AV) (r : Ar) : Ar := AV.rec (motive := fun _ => Ar) (fun x => SV.rec (motive := fun _ => Ar) r (fun _ => .bad) (fun _ _ => .bad) (fun _ _ _ => .bad) (fun _ => .bad) (fun _ => .bad) (fun _ => .bad) (fun _ _ => .bad) .bad (fun _ _ _ _ => .bad) (fun _ _ => .bad) .bad (fun _ => .bad) .bad (fun _ => .bad) .bad (fun _ _ => .bad) .bad x) (fun _ => .bad) (fun _ => .bad) t
abbrev zSelr (z : V1) (x : AOpd) (d : Option Slot) : CE := fun _ σ hp nx K => xv x σ un0' fun v => arK (opSelr z v hp nx) fun v hp nx => putE d v σ fun σ => K .norm σ hp nx
abbrev zSels (x v : AOpd) (d : Option Slot) : CE := fun _ σ hp nx K => xv x σ un0' fun a => xv v σ un0' fun b => arK (opSels a b hp nx) fun v hp nx => putE d v σ fun σ => K .norm σ hp nx
abbrev zDefr (f : Nat) (x : AOpd) : CE := fun _ σ hp nx K => oget (get3 topS σ) fun t => unnK t (unP x σ un0' fun σ b o => setE topS (some (.s (.fn f [(b, o)]))) σ fun σ => K .norm σ hp nx)
abbrev zCode (fe : Nat → CallK) (c : ACode) : CE := ACode.rec (motive := fun _ => CE) (fun _ σ hp nx K => K .norm σ hp nx) (zReg fe) (fun _ _ a b => zSeq a b) (fun x ca cb a b => zCond x ca cb a b) (fun id cb b => zBlock id cb b) (fun cb b => zLoop cb b)
  (fun id _ σ hp nx K => K (.exit id) σ hp nx) (fun _ σ hp nx K => K .ret σ hp nx) (fun _ _ _ _ _ => .bad) zSelr zSels zDefr c

/-! ## Functions -/
abbrev rz1 (r : ARes) (σ : Env) (hp : Hp) (nx : Pid) (k : VK) : Ar :=
  ARes.rec (motive := fun _ => Ar) .bad (fun s => oget (get3 s σ) fun v => k v hp nx) (fun s => oget (get3 s σ) fun v => ptrK v fun b o => ldK b o hp fun v => k v hp nx) (fun n s => oget (get3 s σ) fun v => arK (opLdn n v hp nx) k) r
abbrev rzL (l : List ARes) (σ : Env) (hp : Hp) (nx : Pid) : (List V1 → Ar) → Ar :=
  List.rec (motive := fun _ => (List V1 → Ar) → Ar) (fun k => k []) (fun r _ ih k => rz1 r σ hp nx fun v _ _ => avZ v fun y => ih fun l => k (y :: l)) l
abbrev rzK (l : List ARes) (σ : Env) (hp : Hp) (nx : Pid) (k : VK) : Ar :=
  List.rec (motive := fun _ => Ar) (k (.t []) hp nx) (fun r l' _ => List.rec (motive := fun _ => Ar) (rz1 r σ hp nx k) (fun _ _ _ => rzL l σ hp nx fun l => k (.t l) hp nx) l') l
abbrev zEndF (res : List ARes) (σ : Env) (c : List (Pid × Nat)) (hp : Hp) (nx : Pid) (k : VK) : Ar :=
  List.rec (motive := fun _ => Ar) .bad (fun p _ _ => arK (inUnlock (.s (.ptr p.1 p.2)) hp nx) fun _ hp nx => rzK res σ hp nx k) c
abbrev zEnd (res : List ARes) (k : VK) : EK := fun σ hp nx => oget (get3 topS σ) fun t => AV.rec (motive := fun _ => Ar) (fun t => fnZ t (fun _ c => zEndF res σ c hp nx k) (rzK res σ hp nx k)) (fun _ => .bad) (fun _ => .bad) t
abbrev leaveZ (res : List ARes) (k : VK) : CK := fun e σ hp nx => Ex.rec (motive := fun _ => Ar) (zEnd res k σ hp nx) (fun _ => .bad) (zEnd res k σ hp nx) e
abbrev argsE (l : List AV) : Nat → Env → (Env → Ar) → Ar := List.rec (motive := fun _ => Nat → Env → (Env → Ar) → Ar) (fun _ σ k => k σ) (fun x _ ih i σ k => setE (Slot.of i) (some x) σ fun σ => ih (Nat.succ i) σ k) l
abbrev startE : Env := put3 topS (some un0') emptyE
abbrev zEnter (fe : Nat → CallK) (h : ZH) (args : List AV) (hp : Hp) (nx : Pid) (k : VK) (np : Nat) (code : ACode) (res : List ARes) : Ar :=
  ifA (Nat.beq (lenK args) np) (argsE args (nat_lit 0) startE fun σ => zCode fe code h σ hp nx (leaveZ res k)) .bad
abbrev zFun (fe : Nat → CallK) (A : AFun) (h : ZH) : CallK := fun args hp nx k => AFun.rec (motive := fun _ => Ar) .bad (zEnter fe h args hp nx k) A
/-! ## Tables, and functions of so many arguments -/
abbrev nokF : CallK := fun _ _ _ _ => .bad
abbrev nokE : Nat → CallK := fun _ => nokF
abbrev lfE (a : Nat) (c : CallK) (r : Nat → CallK) : Nat → CallK := fun f => Bool.rec (r f) c (Nat.beq f a)
abbrev HK := Hp → Pid → Ar
abbrev F0 := Hp → Pid → VK → Ar
abbrev F1 := AV → F0
abbrev F2 := AV → F1
abbrev F3 := AV → F2
abbrev F4 := AV → F3
abbrev F5 := AV → F4
abbrev F6 := AV → F5
abbrev F7 := AV → F6
abbrev nokA : F0 := fun _ _ _ => .bad
abbrev ar0 (z : F0) : CallK := fun l => List.rec (motive := fun _ => F0) z (fun _ _ _ => nokA) l
abbrev ar1 (z : F1) : CallK := fun l => List.rec (motive := fun _ => F0) nokA (fun x l _ => ar0 (z x) l) l
abbrev ar2 (z : F2) : CallK := fun l => List.rec (motive := fun _ => F0) nokA (fun x l _ => ar1 (z x) l) l
abbrev ar3 (z : F3) : CallK := fun l => List.rec (motive := fun _ => F0) nokA (fun x l _ => ar2 (z x) l) l
abbrev ar4 (z : F4) : CallK := fun l => List.rec (motive := fun _ => F0) nokA (fun x l _ => ar3 (z x) l) l
abbrev ar5 (z : F5) : CallK := fun l => List.rec (motive := fun _ => F0) nokA (fun x l _ => ar4 (z x) l) l
abbrev ar6 (z : F6) : CallK := fun l => List.rec (motive := fun _ => F0) nokA (fun x l _ => ar5 (z x) l) l
abbrev ar7 (z : F7) : CallK := fun l => List.rec (motive := fun _ => F0) nokA (fun x l _ => ar6 (z x) l) l
end Go.X
end

/-! What the second run gives is what the first one gives: operations. -/
noncomputable section
namespace Go.X

def EvR (σ : Env) (fr : Fr) : Prop := ∀ s v, get3 s σ = some v → get3 s fr = v
theorem EvR.put {σ : Env} {fr : Fr} (h : EvR σ fr) (s : Slot) (v : AV) : EvR (put3 s (some v) σ) (put3 s v fr) := by
  intro t u ht
  rw [get3_put3] at ht ⊢
  split at ht
  · rw [if_pos ‹_›]; injection ht
  · rw [if_neg ‹_›]; exact h t u ht
theorem EvR.ref {σ : Env} {fr : Fr} (h : EvR σ fr) {s : Slot} {v : AV} (hv : get3 s fr = v) : EvR (put3 s (some v) σ) fr := by
  intro t u ht
  rw [get3_put3] at ht
  split at ht
  · subst t; injection ht with ht; rw [hv, ht]
  · exact h t u ht
theorem EvR.drop {σ : Env} {fr : Fr} (h : EvR σ fr) (s : Slot) : EvR (put3 s none σ) fr := by
  intro t u ht
  rw [get3_put3] at ht
  split at ht
  · cases ht
  · exact h t u ht

section
variable {σ : Env} {fr : Fr} {la : AV}
theorem arK_inv {r : Ar} {k : VK} (h : arK r k ≠ .bad) : ∃ v hp nx, r = .ok v hp nx := by
  cases r with
  | bad => exact absurd rfl h
  | ok v hp nx => exact ⟨v, hp, nx, rfl⟩
theorem oget_inv {o : Option AV} {k : AV → Ar} (h : oget o k ≠ .bad) : ∃ v, o = some v := by
  cases o with
  | none => exact absurd rfl h
  | some v => exact ⟨v, rfl⟩
theorem xv_inv (hE : EvR σ fr) {x : AOpd} {k : AV → Ar} (h : xv x σ la k ≠ .bad) : ∀ k', xv x σ la k' = k' (evO x fr la) := by
  cases x with
  | la => intro k'; rfl
  | c v => intro k'; rfl
  | t s =>
    obtain ⟨v, hv⟩ := oget_inv (o := get3 s σ) h
    intro k'
    show oget (get3 s σ) k' = k' (getFr s fr)
    rw [hv, getFr_eq, hE s v hv]
theorem xvL_inv (hE : EvR σ fr) : ∀ {l : List AOpd} {k : List AV → Ar}, xvL l σ la k ≠ .bad → ∀ k', xvL l σ la k' = k' (evL l fr la)
  | [], _, _ => fun _ => rfl
  | x :: l, k, h => fun k' => by
    have h : xv x σ la (fun v => xvL l σ la fun vs => k (v :: vs)) ≠ .bad := h
    have hx := xv_inv hE h
    rw [hx] at h
    have hl := xvL_inv hE h
    show xv x σ la (fun v => xvL l σ la fun vs => k' (v :: vs)) = _
    rw [hx, hl] <;> rfl
theorem xvM_inv (hE : EvR σ fr) {x : Option AOpd} {k : Option AV → Ar} (h : xvM x σ la k ≠ .bad) : ∀ k', xvM x σ la k' = k' (evM x fr la) := by
  cases x with
  | none => intro k'; rfl
  | some x => intro k'; exact xv_inv hE (k := fun v => k (some v)) h _
theorem xvP_inv (hE : EvR σ fr) : ∀ {l : List (Nat × Nat × AOpd)} {k : List (Nat × Nat × AV) → Ar}, xvP l σ la k ≠ .bad → ∀ k', xvP l σ la k' = k' (evP l fr la)
  | [], _, _ => fun _ => rfl
  | p :: l, k, h => fun k' => by
    have h : xv p.2.2 σ la (fun v => xvP l σ la fun vs => k ((p.1, p.2.1, v) :: vs)) ≠ .bad := h
    have hx := xv_inv hE h
    rw [hx] at h
    have hl := xvP_inv hE h
    show xv p.2.2 σ la (fun v => xvP l σ la fun vs => k' ((p.1, p.2.1, v) :: vs)) = _
    rw [hx, hl] <;> rfl
theorem refK_inv (hE : EvR σ fr) {x : AOpd} {v : AV} (hv : evO x fr la = v) : ∃ σ1, EvR σ1 fr ∧ ∀ k, refK x v σ k = k σ1 := by
  cases x with
  | la => exact ⟨σ, hE, fun _ => rfl⟩
  | c v => exact ⟨σ, hE, fun _ => rfl⟩
  | t s =>
    have hv : getFr s fr = v := hv
    rw [getFr_eq] at hv
    exact ⟨put3 s (some v) σ, hE.ref hv, fun k => setZ_eq⟩
theorem ptrK_inv {v : AV} {k : PK} (h : ptrK v k ≠ .bad) : ∃ b o, v = .s (.ptr b o) := by
  cases v with
  | s x => cases x <;> first | exact ⟨_, _, rfl⟩ | exact absurd rfl h
  | a l => exact absurd rfl h
  | t l => exact absurd rfl h
theorem booK_inv {v : AV} {k : BK} (h : booK v k ≠ .bad) : ∃ b, v = .s (.bool b) := by
  cases v with
  | s x => cases x <;> first | exact ⟨_, rfl⟩ | exact absurd rfl h
  | a l => exact absurd rfl h
  | t l => exact absurd rfl h
theorem intK_inv {v : AV} {k : IK} (h : intK v k ≠ .bad) : ∃ q n, v = .s (.int q n) := by
  cases v with
  | s x => cases x <;> first | exact ⟨_, _, rfl⟩ | exact absurd rfl h
  | a l => exact absurd rfl h
  | t l => exact absurd rfl h
theorem slcK_inv {v : AV} {k : LK} (h : slcK v k ≠ .bad) : ∃ b o n c, v = .s (.slc b o n c) := by
  cases v with
  | s x => cases x <;> first | exact ⟨_, _, _, _, rfl⟩ | exact absurd rfl h
  | a l => exact absurd rfl h
  | t l => exact absurd rfl h
theorem fnK_inv {v : AV} {k : Nat → List (Pid × Nat) → Ar} (h : fnK v k ≠ .bad) : ∃ f c, v = .s (.fn f c) := by
  cases v with
  | s x => cases x <;> first | exact ⟨_, _, rfl⟩ | exact absurd rfl h
  | a l => exact absurd rfl h
  | t l => exact absurd rfl h
theorem ifA_inv {c : Bool} {a : Ar} (h : ifA c a .bad ≠ .bad) : c = true := by cases c <;> first | rfl | exact absurd rfl h
theorem kindEq_eq {q q' : IntKind} (h : kindEq q q' = true) : q = q' := by cases q <;> cases q' <;> first | rfl | cases h
theorem kindEq_refl (q : IntKind) : kindEq q q = true := by cases q <;> rfl
theorem iK_inv {q : IntKind} {v : AV} {k : Int → Ar} (h : iK q v k ≠ .bad) : ∃ n, v = .s (.int q n) := by
  obtain ⟨q', n, rfl⟩ := intK_inv (v := v) h
  have h : ifA (kindEq q q') (k n) .bad ≠ .bad := h
  cases hq : kindEq q q' with
  | false => rw [hq] at h; exact absurd rfl h
  | true => rw [← kindEq_eq hq]; exact ⟨n, rfl⟩
theorem iK_int (q : IntKind) (n : Int) (k : Int → Ar) : iK q (.s (.int q n)) k = k n := by
  show ifB (kindEq q q) (k n) .bad = k n
  rw [kindEq_refl] <;> rfl
theorem natK_inv {n : Int} {k : NK} (h : natK n k ≠ .bad) : ∃ m : Nat, n = Int.ofNat m := by
  cases n with
  | ofNat m => exact ⟨m, rfl⟩
  | negSucc m => exact absurd rfl h

theorem unP_inv (hE : EvR σ fr) {x : AOpd} {k : Env → PK} (h : unP x σ la k ≠ .bad) : ∃ b o σ1, evO x fr la = .s (.ptr b o) ∧ EvR σ1 fr ∧ ∀ k', unP x σ la k' = k' σ1 b o := by
  have hx := xv_inv hE h
  have h : xv x σ la (fun v => ptrK v fun b o => refK x (.s (.ptr b o)) σ fun σ => k σ b o) ≠ .bad := h
  rw [hx] at h
  obtain ⟨b, o, hv⟩ := ptrK_inv h
  obtain ⟨σ1, h1, h2⟩ := refK_inv hE hv
  refine ⟨b, o, σ1, hv, h1, fun k' => ?_⟩
  show xv x σ la (fun v => ptrK v fun b o => refK x (.s (.ptr b o)) σ fun σ => k' σ b o) = _
  rw [hx, hv]
  exact h2 _
theorem unB_inv (hE : EvR σ fr) {x : AOpd} {k : Env → BK} (h : unB x σ la k ≠ .bad) : ∃ b σ1, evO x fr la = .s (.bool b) ∧ EvR σ1 fr ∧ ∀ k', unB x σ la k' = k' σ1 b := by
  have hx := xv_inv hE h
  have h : xv x σ la (fun v => booK v fun b => refK x (.s (.bool b)) σ fun σ => k σ b) ≠ .bad := h
  rw [hx] at h
  obtain ⟨b, hv⟩ := booK_inv h
  obtain ⟨σ1, h1, h2⟩ := refK_inv hE hv
  refine ⟨b, σ1, hv, h1, fun k' => ?_⟩
  show xv x σ la (fun v => booK v fun b => refK x (.s (.bool b)) σ fun σ => k' σ b) = _
  rw [hx, hv]
  exact h2 _
theorem unI_inv (hE : EvR σ fr) {x : AOpd} {k : Env → IK} (h : unI x σ la k ≠ .bad) : ∃ q n σ1, evO x fr la = .s (.int q n) ∧ EvR σ1 fr ∧ ∀ k', unI x σ la k' = k' σ1 q n := by
  have hx := xv_inv hE h
  have h : xv x σ la (fun v => intK v fun q n => refK x (.s (.int q n)) σ fun σ => k σ q n) ≠ .bad := h
  rw [hx] at h
  obtain ⟨q, n, hv⟩ := intK_inv h
  obtain ⟨σ1, h1, h2⟩ := refK_inv hE hv
  refine ⟨q, n, σ1, hv, h1, fun k' => ?_⟩
  show xv x σ la (fun v => intK v fun q n => refK x (.s (.int q n)) σ fun σ => k' σ q n) = _
  rw [hx, hv]
  exact h2 _
theorem unQ_inv (hE : EvR σ fr) {q : IntKind} {x : AOpd} {k : Env → Int → Ar} (h : unQ q x σ la k ≠ .bad) : ∃ n σ1, evO x fr la = .s (.int q n) ∧ EvR σ1 fr ∧ ∀ k', unQ q x σ la k' = k' σ1 n := by
  have hx := xv_inv hE h
  have h : xv x σ la (fun v => iK q v fun n => refK x (.s (.int q n)) σ fun σ => k σ n) ≠ .bad := h
  rw [hx] at h
  obtain ⟨n, hv⟩ := iK_inv h
  obtain ⟨σ1, h1, h2⟩ := refK_inv hE hv
  refine ⟨n, σ1, hv, h1, fun k' => ?_⟩
  show xv x σ la (fun v => iK q v fun n => refK x (.s (.int q n)) σ fun σ => k' σ n) = _
  rw [hx, hv, iK_int]
  exact h2 _
theorem unL_inv (hE : EvR σ fr) {x : AOpd} {k : Env → LK} (h : unL x σ la k ≠ .bad) : ∃ b o n c σ1, evO x fr la = .s (.slc b o n c) ∧ EvR σ1 fr ∧ ∀ k', unL x σ la k' = k' σ1 b o n c := by
  have hx := xv_inv hE h
  have h : xv x σ la (fun v => slcK v fun b o n c => refK x (.s (.slc b o n c)) σ fun σ => k σ b o n c) ≠ .bad := h
  rw [hx] at h
  obtain ⟨b, o, n, c, hv⟩ := slcK_inv h
  obtain ⟨σ1, h1, h2⟩ := refK_inv hE hv
  refine ⟨b, o, n, c, σ1, hv, h1, fun k' => ?_⟩
  show xv x σ la (fun v => slcK v fun b o n c => refK x (.s (.slc b o n c)) σ fun σ => k' σ b o n c) = _
  rw [hx, hv]
  exact h2 _
end

/-- an operation's end. -/
def OpR (z : ZK → Ar) (fr : Fr) (r : Ar) : Prop := ∃ σ1 v hp' nx', EvR σ1 fr ∧ r = .ok v hp' nx' ∧ ∀ k', z k' = k' σ1 v hp' nx'
section
variable {σ : Env} {fr : Fr} {la : AV} {hp : Hp} {nx : Pid} {k : ZK}
theorem arR {z : ZK → Ar} {r : Ar} {σ1 : Env} (hE : EvR σ1 fr) (hz : ∀ k', z k' = arK r (k' σ1)) (h : z k ≠ .bad) : OpR z fr r := by
  rw [hz] at h
  obtain ⟨v, hp', nx', hr⟩ := arK_inv h
  exact ⟨σ1, v, hp', nx', hE, hr, fun k' => by rw [hz, hr] <;> rfl⟩
theorem z1_ok (hE : EvR σ fr) {F : AV → Hp → Pid → Ar} {x : AOpd} (h : z1 F x σ la hp nx k ≠ .bad) : OpR (z1 F x σ la hp nx) fr (F (evO x fr la) hp nx) :=
  arR hE (fun _ => xv_inv hE (k := fun a => arK (F a hp nx) (k σ)) h _) h
theorem z2_ok (hE : EvR σ fr) {F : AV → AV → Hp → Pid → Ar} {x y : AOpd} (h : z2 F x y σ la hp nx k ≠ .bad) : OpR (z2 F x y σ la hp nx) fr (F (evO x fr la) (evO y fr la) hp nx) := by
  have h' : xv x σ la (fun a => xv y σ la fun b => arK (F a b hp nx) (k σ)) ≠ .bad := h
  have hx := xv_inv hE h'
  rw [hx] at h'
  have hy := xv_inv hE h'
  exact arR hE (fun k' => (hx _).trans (hy _)) h
theorem z3_ok (hE : EvR σ fr) {F : AV → AV → AV → Hp → Pid → Ar} {x y z : AOpd} (h : z3 F x y z σ la hp nx k ≠ .bad) : OpR (z3 F x y z σ la hp nx) fr (F (evO x fr la) (evO y fr la) (evO z fr la) hp nx) := by
  have h' : xv x σ la (fun a => xv y σ la fun b => xv z σ la fun c => arK (F a b c hp nx) (k σ)) ≠ .bad := h
  have hx := xv_inv hE h'
  rw [hx] at h'
  have hy := xv_inv hE h'
  rw [hy] at h'
  have hz := xv_inv hE h'
  exact arR hE (fun k' => (hx _).trans ((hy _).trans (hz _))) h
theorem mov_ok (v : AV) : opMov v hp nx = .ok v hp nx := by cases v <;> rfl
theorem zMov_ok (hE : EvR σ fr) {x : AOpd} (h : zMov x σ la hp nx k ≠ .bad) : OpR (zMov x σ la hp nx) fr (opMov (evO x fr la) hp nx) :=
  ⟨σ, _, hp, nx, hE, mov_ok _, fun _ => xv_inv hE (k := fun v => k σ v hp nx) h _⟩
theorem zPick_ok (hE : EvR σ fr) {c a b : AOpd} (h : zPick c a b σ la hp nx k ≠ .bad) : OpR (zPick c a b σ la hp nx) fr (opPick (evO c fr la) (evO a fr la) (evO b fr la) hp nx) := by
  have h' : unB c σ la (fun σ c => xv a σ la fun a => xv b σ la fun b => k σ (pickV c a b) hp nx) ≠ .bad := h
  obtain ⟨c', σ1, hc, h1, h2⟩ := unB_inv hE h'
  rw [h2] at h'
  have ha := xv_inv h1 h'
  rw [ha] at h'
  have hb := xv_inv h1 h'
  refine ⟨σ1, pickV c' (evO a fr la) (evO b fr la), hp, nx, h1, ?_, fun k' => ((h2 _).trans (ha _)).trans (hb _)⟩
  rw [hc]
  cases c' <;> exact mov_ok _
theorem sucD_nat {β : Type} (d : D8) : (∃ d', ∀ (k : D8 → β) (z : β), sucD d k z = k d') ∨ ∀ (k : D8 → β) (z : β), sucD d k z = z := by
  cases d <;> first | exact .inr fun _ _ => rfl | exact .inl ⟨_, fun _ _ => rfl⟩
theorem sucK_nat {β : Type} (p : Pid) : (∃ q, ∀ (k : Pid → β) (z : β), sucK p k z = k q) ∨ ∀ (k : Pid → β) (z : β), sucK p k z = z := by
  obtain ⟨a, b, c, d, e, f⟩ := p
  have e0 : ∀ (k : Pid → β) (z : β), sucK ⟨a, b, c, d, e, f⟩ k z = suc4 a b c d e f k z := fun _ _ => rfl
  simp only [e0]
  unfold suc4
  rcases sucD_nat (β := β) f with ⟨x, h⟩ | h
  · exact .inl ⟨_, fun k z => h _ _⟩
  rcases sucD_nat (β := β) e with ⟨x, h1⟩ | h1
  · exact .inl ⟨_, fun k z => (h _ _).trans (h1 _ _)⟩
  rcases sucD_nat (β := β) d with ⟨x, h2⟩ | h2
  · exact .inl ⟨_, fun k z => (h _ _).trans ((h1 _ _).trans (h2 _ _))⟩
  rcases sucD_nat (β := β) c with ⟨x, h3⟩ | h3
  · exact .inl ⟨_, fun k z => (h _ _).trans ((h1 _ _).trans ((h2 _ _).trans (h3 _ _)))⟩
  rcases sucD_nat (β := β) b with ⟨x, h4⟩ | h4
  · exact .inl ⟨_, fun k z => (h _ _).trans ((h1 _ _).trans ((h2 _ _).trans ((h3 _ _).trans (h4 _ _))))⟩
  rcases sucD_nat (β := β) a with ⟨x, h5⟩ | h5
  · exact .inl ⟨_, fun k z => (h _ _).trans ((h1 _ _).trans ((h2 _ _).trans ((h3 _ _).trans ((h4 _ _).trans (h5 _ _)))))⟩
  · exact .inr fun k z => (h _ _).trans ((h1 _ _).trans ((h2 _ _).trans ((h3 _ _).trans ((h4 _ _).trans (h5 _ _)))))
theorem newK_inv {ob : Obj} {k : Hp → Pid → Ar} (h : newK ob hp nx k ≠ .bad) : ∃ nx', (∀ k', newK ob hp nx k' = k' (put5 nx ob hp) nx') ∧ ∀ v, newO ob v hp nx = .ok v (put5 nx ob hp) nx' := by
  have e : ∀ k', newK ob hp nx k' = sucK nx (fun nx' => k' (put5 nx ob hp) nx') .bad := fun k' => by
    unfold newK
    rw [sucF_eq]
    simp only [setK_eq]
  rw [e] at h
  simp only [e]
  unfold newO
  simp only [setHp_eq, sucF_eq]
  rcases sucK_nat (β := Ar) nx with ⟨q, hq⟩ | hq
  · exact ⟨q, fun _ => hq _ _, fun _ => hq _ _⟩
  · rw [hq] at h; exact absurd rfl h
theorem zAlloc_ok (hE : EvR σ fr) {t : Nat} {z : List SV} (h : zAlloc t z σ la hp nx k ≠ .bad) : OpR (zAlloc t z σ la hp nx) fr (opAlloc t z hp nx) := by
  obtain ⟨nx', h1, h2⟩ := newK_inv (ob := .cells t true true z) (k := fun hp nx' => k σ (.s (.ptr nx (nat_lit 0))) hp nx') h
  exact ⟨σ, _, _, _, hE, h2 _, fun k' => h1 _⟩
theorem byteK_any (r : Rope) : ∀ (m : Nat), (∀ (k : Nat → Ar) (z : Ar), byteK r m k z = z) ∨ ∃ n, ∀ (k : Nat → Ar) (z : Ar), byteK r m k z = k n := by
  induction r with
  | nil => exact fun m => .inl fun _ _ => rfl
  | lit n v r ih =>
    intro m
    have e : ∀ (k : Nat → Ar) (z : Ar), byteK (.lit n v r) m k z = Bool.rec (byteK r (Nat.sub m n) k z) (forceN (Nat.mod (Nat.div v (Nat.pow (nat_lit 256) m)) (nat_lit 256)) k) (Nat.ble (Nat.succ m) n) := fun _ _ => rfl
    cases hb : Nat.ble (Nat.succ m) n with
    | false => rcases ih (Nat.sub m n) with h | ⟨q, h⟩
               · exact .inl fun k z => by rw [e, hb]; exact h k z
               · exact .inr ⟨q, fun k z => by rw [e, hb]; exact h k z⟩
    | true => exact .inr ⟨_, fun k z => by rw [e, hb]; exact forceN_eq _ _⟩
  | sym i o l r ih =>
    intro m
    have e : ∀ (k : Nat → Ar) (z : Ar), byteK (.sym i o l r) m k z = Bool.rec (byteK r (Nat.sub m l) k z) z (Nat.ble (Nat.succ m) l) := fun _ _ => rfl
    cases hb : Nat.ble (Nat.succ m) l with
    | false => rcases ih (Nat.sub m l) with h | ⟨q, h⟩
               · exact .inl fun k z => by rw [e, hb]; exact h k z
               · exact .inr ⟨q, fun k z => by rw [e, hb]; exact h k z⟩
    | true => exact .inl fun k z => by rw [e, hb]
  | crc c r _ ih =>
    intro m
    have e : ∀ (k : Nat → Ar) (z : Ar), byteK (.crc c r) m k z = Bool.rec (byteK r (Nat.sub m (nat_lit 4)) k z) z (Nat.ble (Nat.succ m) (nat_lit 4)) := fun _ _ => rfl
    cases hb : Nat.ble (Nat.succ m) (nat_lit 4) with
    | false => rcases ih (Nat.sub m (nat_lit 4)) with h | ⟨q, h⟩
               · exact .inl fun k z => by rw [e, hb]; exact h k z
               · exact .inr ⟨q, fun k z => by rw [e, hb]; exact h k z⟩
    | true => exact .inl fun k z => by rw [e, hb]
theorem ldK_eq (b : Pid) (o : Nat) (k : AV → Ar) : ldK b o hp k = cellK (getHp b hp) o k := getK_eq _ _ _
theorem ldK_inv {b : Pid} {o : Nat} {k : AV → Ar} (h : ldK b o hp k ≠ .bad) : ∃ v, (∀ nx, ld1o (getHp b hp) o hp nx = .ok v hp nx) ∧ ∀ k', ldK b o hp k' = k' v := by
  simp only [ldK_eq] at h ⊢
  generalize getHp b hp = ob at h ⊢
  cases ob with
  | cells t ex wr l =>
    have e : ∀ k' : AV → Ar, cellK (.cells t ex wr l) o k' = atK l o fun x => k' (.s x) := fun _ => rfl
    simp only [e, atK_eq] at h ⊢
    cases hx : l[o]? with
    | none => rw [hx] at h; exact absurd rfl h
    | some x => exact ⟨.s x, fun nx => by show nthK l o (fun x => okS x hp nx) .bad = _; rw [nthK_eq, hx]; rfl, fun k' => rfl⟩
  | bytes t ex wr r =>
    have h : byteK r o (fun n => k (.s (.int .u8 (Int.ofNat n)))) .bad ≠ .bad := h
    rcases byteK_any r o with hb | ⟨n, hn⟩
    · rw [hb] at h; exact absurd rfl h
    · exact ⟨.s (.int .u8 (Int.ofNat n)), fun nx => hn _ _, fun k' => hn _ _⟩
  | _ => exact absurd rfl h
theorem zLd1_ok (hE : EvR σ fr) {x : AOpd} (h : zLd1 x σ la hp nx k ≠ .bad) : OpR (zLd1 x σ la hp nx) fr (opLd1 (evO x fr la) hp nx) := by
  obtain ⟨b, o, σ1, hx, h1, h2⟩ := unP_inv hE (k := fun σ b o => ldK b o hp fun v => k σ v hp nx) h
  have h := h
  rw [show zLd1 x σ la hp nx k = _ from h2 _] at h
  obtain ⟨v, g1, g2⟩ := ldK_inv h
  rw [hx]
  exact ⟨σ1, v, hp, nx, h1, g1 nx, fun k' => (h2 _).trans (g2 _)⟩
theorem stK_eq (b : Pid) (o : Nat) (y : SV) (k : Hp → Ar) : stK b o (.s y) hp k = Bool.rec (motive := fun _ => Ar) .bad (stC b o y hp k (getHp b hp)) (knB y) := by
  show stS b o hp k y = _
  unfold stS
  rw [getK_eq]
theorem knB_known {y : SV} (h : knB y = true) (a : Ar) : svKnown y a .bad = a := by cases y <;> first | rfl | cases h
theorem stK_inv {b : Pid} {o : Nat} {v : AV} {k : Hp → Ar} (h : stK b o v hp k ≠ .bad) : ∃ hp', (∀ nx, opSt1 (.s (.ptr b o)) v hp nx = .ok (.s .un) hp' nx) ∧ ∀ k', stK b o v hp k' = k' hp' := by
  cases v with
  | a l => exact absurd rfl h
  | t l => exact absurd rfl h
  | s y =>
    have hy : knB y = true := by
      cases hk : knB y with
      | true => rfl
      | false => rw [stK_eq, hk] at h; exact absurd rfl h
    have e2 : ∀ k', stK b o (.s y) hp k' = stC b o y hp k' (getHp b hp) := fun k' => by rw [stK_eq, hy]
    have e1 : ∀ nx, opSt1 (.s (.ptr b o)) (.s y) hp nx = obCells (getHp b hp) (fun t ex wr l => stLay b t ex wr l o [y] hp nx) (fun _ _ _ _ => .bad) .bad := fun nx => knB_known hy _
    simp only [e1, e2] at h ⊢
    generalize getHp b hp = ob at h ⊢
    cases ob with
    | cells t ex wr l =>
      have e3 : ∀ k', stC b o y hp k' (.cells t ex wr l) = Bool.rec (motive := fun _ => Ar) .bad (putAtK l o y fun l => setK b (.cells t ex wr l) hp k') wr := fun _ => rfl
      simp only [e3] at h ⊢
      cases wr with
      | false => exact absurd rfl h
      | true =>
        simp only [putAtK_eq, setK_eq] at h ⊢
        by_cases hl : o < l.length
        · refine ⟨put5 b (.cells t ex true (layL l o [y])) hp, fun nx => ?_, fun k' => by rw [if_pos hl]⟩
          show layAtK [y] l o (fun l => setHp b (.cells t ex true l) hp (fun hp => Ar.ok (.s .un) hp nx)) .bad = _
          rw [layAtK_eq, if_pos (show o + [y].length ≤ l.length from hl), setHp_eq]
        · rw [if_neg hl] at h; exact absurd rfl h
    | _ => exact absurd rfl h
theorem zSt1_ok (hE : EvR σ fr) {x y : AOpd} (h : zSt1 x y σ la hp nx k ≠ .bad) : OpR (zSt1 x y σ la hp nx) fr (opSt1 (evO x fr la) (evO y fr la) hp nx) := by
  obtain ⟨b, o, σ1, hx, h1, h2⟩ := unP_inv hE (k := fun σ b o => xv y σ la fun y => stK b o y hp fun hp => k σ (.s .un) hp nx) h
  have h := h
  rw [show zSt1 x y σ la hp nx k = _ from h2 _] at h
  have hy := xv_inv h1 h
  rw [hy] at h
  obtain ⟨hp', g1, g2⟩ := stK_inv h
  rw [hx]
  exact ⟨σ1, _, hp', nx, h1, g1 nx, fun k' => (h2 _).trans ((hy _).trans (g2 _))⟩
theorem zNilck_ok (hE : EvR σ fr) {x : AOpd} (h : zNilck x σ la hp nx k ≠ .bad) : OpR (zNilck x σ la hp nx) fr (opNilck (evO x fr la) hp nx) := by
  obtain ⟨b, o, σ1, hx, h1, h2⟩ := unP_inv hE (k := fun σ b o => k σ (.s (.ptr b o)) hp nx) h
  rw [hx]
  exact ⟨σ1, _, hp, nx, h1, rfl, fun k' => h2 _⟩
theorem zFad_ok (hE : EvR σ fr) {off : Nat} {x : AOpd} (h : zFad off x σ la hp nx k ≠ .bad) : OpR (zFad off x σ la hp nx) fr (opFad off (evO x fr la) hp nx) := by
  obtain ⟨b, o, σ1, hx, h1, h2⟩ := unP_inv hE (k := fun σ b o => k σ (.s (.ptr b (addN o off))) hp nx) h
  rw [hx]
  exact ⟨σ1, _, hp, nx, h1, forceN_eq (Nat.add o off) (fun o => okS (.ptr b o) hp nx), fun k' => h2 _⟩
theorem zIx_ok {b : Pid} {o n es i : Nat} (h : ltN i n = true) : ixp es b o n i hp nx = .ok (.s (.ptr b (addN o (mulN i es)))) hp nx := by
  have h : Nat.ble (Nat.succ i) n = true := h
  show ifB (Nat.ble (Nat.succ i) n) (forceN (Nat.add o (Nat.mul i es)) fun o => okS (.ptr b o) hp nx) .bad = _
  rw [h]; exact forceN_eq (Nat.add o (Nat.mul i es)) (fun o => okS (.ptr b o) hp nx)
theorem zIxs_ok (hE : EvR σ fr) {es : Nat} {x i : AOpd} (h : zIxs es x i σ la hp nx k ≠ .bad) : OpR (zIxs es x i σ la hp nx) fr (opIxs es (evO x fr la) (evO i fr la) hp nx) := by
  obtain ⟨b, o, n, c, σ1, hx, h1, h2⟩ := unL_inv hE (k := fun σ b o n _ => unI i σ la fun σ _ i => natK i fun i => ifA (ltN i n) (k σ (.s (.ptr b (addN o (mulN i es)))) hp nx) .bad) h
  have h := h
  rw [show zIxs es x i σ la hp nx k = _ from h2 _] at h
  obtain ⟨q, m, σ2, hi, h3, h4⟩ := unI_inv h1 h
  rw [h4] at h
  obtain ⟨j, rfl⟩ := natK_inv h
  have hl := ifA_inv (c := ltN j n) h
  rw [hx, hi]
  exact ⟨σ2, _, hp, nx, h3, zIx_ok hl, fun k' => ((h2 _).trans (h4 _)).trans (by show ifA (ltN j n) _ _ = _; rw [hl] <;> rfl)⟩
theorem zIxa_ok (hE : EvR σ fr) {n es : Nat} {x i : AOpd} (h : zIxa n es x i σ la hp nx k ≠ .bad) : OpR (zIxa n es x i σ la hp nx) fr (opIxa n es (evO x fr la) (evO i fr la) hp nx) := by
  obtain ⟨b, o, σ1, hx, h1, h2⟩ := unP_inv hE (k := fun σ b o => unI i σ la fun σ _ i => natK i fun i => ifA (ltN i n) (k σ (.s (.ptr b (addN o (mulN i es)))) hp nx) .bad) h
  have h := h
  rw [show zIxa n es x i σ la hp nx k = _ from h2 _] at h
  obtain ⟨q, m, σ2, hi, h3, h4⟩ := unI_inv h1 h
  rw [h4] at h
  obtain ⟨j, rfl⟩ := natK_inv h
  have hl := ifA_inv (c := ltN j n) h
  rw [hx, hi]
  exact ⟨σ2, _, hp, nx, h3, zIx_ok hl, fun k' => ((h2 _).trans (h4 _)).trans (by show ifA (ltN j n) _ _ = _; rw [hl] <;> rfl)⟩
theorem srK_inv {r : Sr} {k : SV → Ar} (h : srK r k ≠ .bad) : ∃ x, r = .ok x := by
  cases r with
  | bad => exact absurd rfl h
  | ok x => exact ⟨x, rfl⟩
theorem arO_inv {op : BinOp} {q : IntKind} {a b : Int} {k : AV → Ar} (h : arO op q a b k ≠ .bad) : ∃ x, binI op q a b = .ok x ∧ ∀ k', arO op q a b k' = k' (.s x) := by
  obtain ⟨x, hx⟩ := srK_inv (r := binI op q a b) (k := fun x => k (.s x)) h
  exact ⟨x, hx, fun k' => by unfold arO; rw [hx] <;> rfl⟩
theorem addI_eq (q : IntKind) (a b : Int) (k : Int → Ar) : addI q a b k = k (q.wrap (Int.add a b)) := by
  cases a with
  | negSucc m => exact wrapK_eq _ _ _
  | ofNat m =>
    cases b with
    | negSucc n => exact wrapK_eq _ _ _
    | ofNat n =>
      show forceN (Nat.add m n) (fun s => Bool.rec (motive := fun _ => Ar) (wrapK q (.ofNat s) k) (k (.ofNat s)) (Nat.ble s (maxN q))) = _
      rw [forceN_eq]
      cases hb : Nat.ble (Nat.add m n) (maxN q) with
      | false => exact wrapK_eq _ _ _
      | true => exact congrArg k (wrap_of_inR (k := q) (n := Int.ofNat (Nat.add m n)) hb).symm
theorem cviI_eq (q : IntKind) (a : Int) (k : Int → Ar) : cviI q a k = k (q.wrap a) := by
  unfold cviI
  cases hb : inR q a with
  | false => exact wrapK_eq _ _ _
  | true => exact congrArg k (wrap_of_inR hb).symm
theorem binO_inv {op : BinOp} {q : IntKind} {a b : Int} {k : AV → Ar} (h : binO op q a b k ≠ .bad) : ∃ x, binI op q a b = .ok x ∧ ∀ k', binO op q a b k' = k' (.s x) := by
  have hc : ∀ c : Bool, boolK c (fun r => Sr.ok (.bool r)) = .ok (.bool c) := fun c => by cases c <;> rfl
  cases op with
  | add => exact ⟨_, wrapK_eq _ _ _, fun k' => addI_eq _ _ _ _⟩
  | sub => exact ⟨_, wrapK_eq _ _ _, fun k' => wrapK_eq _ _ _⟩
  | eql => exact ⟨_, hc _, fun _ => rfl⟩
  | neq => exact ⟨_, hc _, fun _ => rfl⟩
  | lss => exact ⟨_, hc _, fun _ => rfl⟩
  | leq => exact ⟨_, hc _, fun _ => rfl⟩
  | gtr => exact ⟨_, hc _, fun _ => rfl⟩
  | geq => exact ⟨_, hc _, fun _ => rfl⟩
  | mul => exact arO_inv h
  | quo => exact arO_inv h
  | rem => exact arO_inv h
  | and => exact arO_inv h
  | or => exact arO_inv h
  | xor => exact arO_inv h
  | shl => exact arO_inv h
  | shr => exact arO_inv h
  | andNot => exact arO_inv h
theorem opBinI_int {op : BinOp} {q : IntKind} {a b : Int} {x : SV} (h : binI op q a b = .ok x) : opBinI op (.s (.int q a)) (.s (.int q b)) hp nx = .ok (.s x) hp nx := by
  show ifB (kindEq q q) (srAr (binI op q a b) hp nx) .bad = _
  rw [kindEq_refl, h] <;> rfl
theorem zBin0_ok (hE : EvR σ fr) {op : BinOp} {x y : AOpd} (h : zBin0 op x y σ la hp nx k ≠ .bad) : OpR (zBin0 op x y σ la hp nx) fr (opBinI op (evO x fr la) (evO y fr la) hp nx) := by
  obtain ⟨q, a, σ1, hx, h1, h2⟩ := unI_inv hE (k := fun σ q a => unQ q y σ la fun σ b => binO op q a b fun v => k σ v hp nx) h
  have h := h
  rw [show zBin0 op x y σ la hp nx k = _ from h2 _] at h
  obtain ⟨b, σ2, hy, h3, h4⟩ := unQ_inv h1 h
  rw [h4] at h
  obtain ⟨v, h5, h6⟩ := binO_inv h
  rw [hx, hy]
  exact ⟨σ2, _, hp, nx, h3, opBinI_int h5, fun k' => ((h2 _).trans (h4 _)).trans (h6 _)⟩
theorem zBin1_ok (hE : EvR σ fr) {op : BinOp} {x y : AOpd} {q : IntKind} (h : zBin1 op x y q σ la hp nx k ≠ .bad) : OpR (zBin1 op x y q σ la hp nx) fr (opBinI op (evO x fr la) (evO y fr la) hp nx) := by
  obtain ⟨a, σ1, hx, h1, h2⟩ := unQ_inv hE (k := fun σ a => unQ q y σ la fun σ b => binO op q a b fun v => k σ v hp nx) h
  have h := h
  rw [show zBin1 op x y q σ la hp nx k = _ from h2 _] at h
  obtain ⟨b, σ2, hy, h3, h4⟩ := unQ_inv h1 h
  rw [h4] at h
  obtain ⟨v, h5, h6⟩ := binO_inv h
  rw [hx, hy]
  exact ⟨σ2, _, hp, nx, h3, opBinI_int h5, fun k' => ((h2 _).trans (h4 _)).trans (h6 _)⟩
theorem zBin_ok (hE : EvR σ fr) {op : BinOp} {x y : AOpd} (h : zBin op x y σ la hp nx k ≠ .bad) : OpR (zBin op x y σ la hp nx) fr (opBinI op (evO x fr la) (evO y fr la) hp nx) := by
  unfold zBin at *
  cases hy : kdOf y with
  | some q => rw [hy] at h; exact zBin1_ok hE h
  | none =>
    rw [hy] at h
    cases hx : kdOf x with
    | some q => rw [hx] at h; exact zBin1_ok hE h
    | none => rw [hx] at h; exact zBin0_ok hE h
theorem zSh_ok (hE : EvR σ fr) {op : BinOp} {x y : AOpd} (h : zSh op x y σ la hp nx k ≠ .bad) : OpR (zSh op x y σ la hp nx) fr (opSh op (evO x fr la) (evO y fr la) hp nx) := by
  obtain ⟨q, a, σ1, hx, h1, h2⟩ := unI_inv hE (k := fun σ q a => unI y σ la fun σ _ b => srK (shI op q a b) fun v => k σ (.s v) hp nx) h
  have h := h
  rw [show zSh op x y σ la hp nx k = _ from h2 _] at h
  obtain ⟨q', b, σ2, hy, h3, h4⟩ := unI_inv h1 h
  rw [h4] at h
  obtain ⟨v, hv⟩ := srK_inv h
  rw [hx, hy]
  exact ⟨σ2, .s v, hp, nx, h3, by show srAr (shI op q a b) hp nx = _; rw [hv] <;> rfl, fun k' => ((h2 _).trans (h4 _)).trans (by show srK (shI op q a b) _ = _; rw [hv] <;> rfl)⟩
theorem zNot_ok (hE : EvR σ fr) {x : AOpd} (h : zNot x σ la hp nx k ≠ .bad) : OpR (zNot x σ la hp nx) fr (opNot (evO x fr la) hp nx) := by
  obtain ⟨b, σ1, hx, h1, h2⟩ := unB_inv hE (k := fun σ b => k σ (.s (.bool (notB b))) hp nx) h
  rw [hx]
  exact ⟨σ1, _, hp, nx, h1, boolK_eq (notB b) (fun b => okS (.bool b) hp nx), fun k' => h2 _⟩
theorem zCvi_ok (hE : EvR σ fr) {q : IntKind} {x : AOpd} (h : zCvi q x σ la hp nx k ≠ .bad) : OpR (zCvi q x σ la hp nx) fr (opCvi q (evO x fr la) hp nx) := by
  obtain ⟨q', a, σ1, hx, h1, h2⟩ := unI_inv hE (k := fun σ _ a => cviI q a fun n => k σ (.s (.int q n)) hp nx) h
  rw [hx]
  exact ⟨σ1, .s (.int q (q.wrap a)), hp, nx, h1, wrapK_eq _ _ _, fun k' => (h2 _).trans (cviI_eq _ _ _)⟩
theorem zLenSlc_ok (hE : EvR σ fr) {x : AOpd} (h : zLenSlc x σ la hp nx k ≠ .bad) : OpR (zLenSlc x σ la hp nx) fr (opLenSlc (evO x fr la) hp nx) := by
  have hx := xv_inv hE (k := fun v => lenSK v fun n => k σ (.s (int64 n)) hp nx) h
  have h := h
  rw [show zLenSlc x σ la hp nx k = _ from hx _] at h
  have key : ∀ v, lenSK v (fun n => k σ (.s (int64 n)) hp nx) ≠ .bad → ∃ n, (∀ k', lenSK v k' = k' n) ∧ opLenSlc v hp nx = .ok (.s (int64 n)) hp nx := by
    intro v hv
    cases v with
    | s y => cases y <;> first | exact ⟨_, fun _ => rfl, rfl⟩ | exact absurd rfl hv
    | a l => exact absurd rfl hv
    | t l => exact absurd rfl hv
  obtain ⟨n, h1, h2⟩ := key _ h
  exact ⟨σ, _, hp, nx, hE, h2, fun k' => (hx _).trans (h1 _)⟩
theorem zIntr_ok (hE : EvR σ fr) {c : Intr} {args : List AOpd} (h : zIntr c args σ la hp nx k ≠ .bad) : OpR (zIntr c args σ la hp nx) fr (runIn c (evL args fr la) hp nx) :=
  arR hE (fun _ => xvL_inv hE (k := fun vs => arK (runIn c vs hp nx) (k σ)) h _) h
theorem fillK_eq (ps : List (Nat × Nat × AV)) : ∀ (l : List SV), (∀ {β : Type} (k : List SV → β) (z : β), fillK ps l k z = z) ∨ ∃ r, ∀ {β : Type} (k : List SV → β) (z : β), fillK ps l k z = k r := by
  induction ps with
  | nil => exact fun l => .inr ⟨l, fun _ _ => rfl⟩
  | cons p ps ih =>
    intro l
    have e : ∀ {β : Type} (k : List SV → β) (z : β), fillK (p :: ps) l k z = fill1 l p.1 p.2.1 p.2.2 (fun c => fillK ps c k z) z := fun _ _ => rfl
    have f : (∀ {β : Type} (k : List SV → β) (z : β), fill1 l p.1 p.2.1 p.2.2 k z = z) ∨ ∃ r, ∀ {β : Type} (k : List SV → β) (z : β), fill1 l p.1 p.2.1 p.2.2 k z = k r := by
      have lay : ∀ (y : List SV), (∀ {β : Type} (k : List SV → β) (z : β), layAtK y l p.1 k z = z) ∨ ∃ r, ∀ {β : Type} (k : List SV → β) (z : β), layAtK y l p.1 k z = k r := fun y => by
        by_cases h : p.1 + y.length ≤ l.length
        · exact .inr ⟨_, fun k z => by rw [layAtK_eq, if_pos h]⟩
        · exact .inl fun k z => by rw [layAtK_eq, if_neg h]
      have iff' : ∀ (c : Bool) {g : {β : Type} → (List SV → β) → β → β}, ((∀ {β : Type} (k : List SV → β) (z : β), g k z = z) ∨ ∃ r, ∀ {β : Type} (k : List SV → β) (z : β), g k z = k r) →
          (∀ {β : Type} (k : List SV → β) (z : β), ifB c (g k z) z = z) ∨ ∃ r, ∀ {β : Type} (k : List SV → β) (z : β), ifB c (g k z) z = k r := fun c g h => by
        cases c with
        | false => exact .inl fun _ _ => rfl
        | true => exact h
      unfold fill1
      cases p.2.2 with
      | s x =>
        cases hx : knB x with
        | false =>
          refine .inl fun k z => ?_
          cases x <;> first | (cases hx; done) | (show ifB _ z z = z; cases Nat.beq p.2.1 (nat_lit 1) <;> rfl)
        | true =>
          have hk : ∀ {β : Type} (a z : β), svKnown x a z = a := fun a z => by cases x <;> first | rfl | cases hx
          have := iff' (Nat.beq p.2.1 (nat_lit 1)) (g := fun k z => layAtK [x] l p.1 k z) (lay [x])
          simpa only [hk] using this
      | a y => exact iff' (Nat.beq (lenK y) p.2.1) (g := fun k z => layAtK y l p.1 k z) (lay y)
      | t _ => exact .inl fun _ _ => rfl
    rcases f with f | ⟨r, f⟩
    · exact .inl fun k z => by rw [e, f]
    · rcases ih r with g | ⟨r2, g⟩
      · exact .inl fun k z => by rw [e, f, g]
      · exact .inr ⟨r2, fun k z => by rw [e, f, g]⟩
theorem zBuild_ok (hE : EvR σ fr) {z : List SV} {ps : List (Nat × Nat × AOpd)} (h : zBuild z ps σ la hp nx k ≠ .bad) : OpR (zBuild z ps σ la hp nx) fr (opBuild z (evP ps fr la) hp nx) := by
  have h' : xvP ps σ la (fun ps => buildK z ps fun v => k σ v hp nx) ≠ .bad := h
  have hx := xvP_inv hE h'
  rw [hx] at h'
  rcases fillK_eq (evP ps fr la) z with f | ⟨r, f⟩
  · exact absurd (f _ _) h'
  · exact ⟨σ, .a r, hp, nx, hE, f _ _, fun k' => (hx _).trans (f _ _)⟩
theorem zBslice_ok (hE : EvR σ fr) {t n : Nat} {z : List SV} {ps : List (Nat × Nat × AOpd)} (h : zBslice t n z ps σ la hp nx k ≠ .bad) : OpR (zBslice t n z ps σ la hp nx) fr (opBslice t n z (evP ps fr la) hp nx) := by
  have h' : xvP ps σ la (fun ps => bsliceK t n z ps hp nx fun hp nx' => k σ (.s (.slc nx (nat_lit 0) n (.kn n))) hp nx') ≠ .bad := h
  have hx := xvP_inv hE h'
  rw [hx] at h'
  have e1 : ∀ k', bsliceK t n z (evP ps fr la) hp nx k' = fillK (evP ps fr la) (List.replicate n z).flatten (fun l => newK (.cells t true true l) hp nx k') .bad := fun k' => timesK_eq _ _ _
  have e2 : opBslice t n z (evP ps fr la) hp nx = fillK (evP ps fr la) (List.replicate n z).flatten (fun l => newO (.cells t true true l) (.s (.slc nx (nat_lit 0) n (.kn n))) hp nx) .bad := timesK_eq _ _ _
  rw [e1] at h'
  rcases fillK_eq (evP ps fr la) (List.replicate n z).flatten with f | ⟨r, f⟩
  · exact absurd (f _ _) h'
  · rw [f] at h'
    obtain ⟨nx', g1, g2⟩ := newK_inv h'
    exact ⟨σ, _, _, nx', hE, e2.trans ((f _ _).trans (g2 _)), fun k' => (hx _).trans ((e1 _).trans ((f _ _).trans (g1 _)))⟩
theorem zBox_ok (hE : EvR σ fr) {t : Nat} {x : AOpd} (h : zBox t x σ la hp nx k ≠ .bad) : OpR (zBox t x σ la hp nx) fr (opBox t (evO x fr la) hp nx) := by
  have h' : xv x σ la (fun v => boxK t v hp nx (k σ)) ≠ .bad := h
  have hx := xv_inv hE h'
  rw [hx] at h'
  have key : ∀ v, boxK t v hp nx (k σ) ≠ .bad → ∃ u hp' nx', opBox t v hp nx = .ok u hp' nx' ∧ ∀ k', boxK t v hp nx k' = k' u hp' nx' := fun v hv => by
    cases v with
    | t l => exact absurd rfl hv
    | a l =>
      obtain ⟨nx', g1, g2⟩ := newK_inv (ob := .cells t true true l) (k := fun hp nx' => k σ (.s (.ptr nx (nat_lit 0))) hp nx') hv
      exact ⟨_, _, nx', g2 _, fun k' => g1 fun hp nx' => k' (.s (.ptr nx (nat_lit 0))) hp nx'⟩
    | s y =>
      cases hy : knB y with
      | false =>
        have : boxK t (.s y) hp nx (k σ) = Bool.rec (motive := fun _ => Ar) .bad (newK (.cells t true true [y]) hp nx fun hp nx' => k σ (.s (.ptr nx (nat_lit 0))) hp nx') (knB y) := rfl
        rw [this, hy] at hv; exact absurd rfl hv
      | true =>
        have e : ∀ k', boxK t (.s y) hp nx k' = newK (.cells t true true [y]) hp nx fun hp nx' => k' (.s (.ptr nx (nat_lit 0))) hp nx' := fun k' => by
          show Bool.rec (motive := fun _ => Ar) .bad _ (knB y) = _
          rw [hy]
        rw [e] at hv
        obtain ⟨nx', g1, g2⟩ := newK_inv hv
        exact ⟨_, _, nx', (knB_known hy _).trans (g2 _), fun k' => (e k').trans (g1 fun hp nx' => k' (.s (.ptr nx (nat_lit 0))) hp nx')⟩
  obtain ⟨u, hp', nx', g1, g2⟩ := key _ h'
  exact ⟨σ, u, hp', nx', hE, g1, fun k' => (hx _).trans (g2 _)⟩
theorem zLdn_ok (hE : EvR σ fr) {n : Nat} {x : AOpd} (h : zLdn n x σ la hp nx k ≠ .bad) : OpR (zLdn n x σ la hp nx) fr (opLdn n (evO x fr la) hp nx) := by
  obtain ⟨b, o, σ1, hx, h1, h2⟩ := unP_inv hE (k := fun σ b o => ldnK n b o hp fun v => k σ v hp nx) h
  have h := h
  rw [show zLdn n x σ la hp nx k = _ from h2 _] at h
  rw [hx]
  have e : ∀ k', ldnK n b o hp k' = obCells (getHp b hp) (fun _ _ _ l => dropK l o (fun l => takeK l n (fun l => k' (.a l)) .bad) .bad) (fun _ _ _ _ => .bad) .bad := fun k' => getK_eq _ _ _
  rw [e] at h
  have key : ∃ v, (obCells (getHp b hp) (fun _ _ _ l => dropK l o (fun l => takeK l n (fun l => Ar.ok (.a l) hp nx) .bad) .bad) (fun _ _ _ _ => .bad) .bad) = .ok v hp nx ∧
      ∀ k' : AV → Ar, obCells (getHp b hp) (fun _ _ _ l => dropK l o (fun l => takeK l n (fun l => k' (.a l)) .bad) .bad) (fun _ _ _ _ => .bad) .bad = k' v := by
    generalize getHp b hp = ob at h ⊢
    cases ob with
    | cells t ex wr l =>
      have h : dropK l o (fun l => takeK l n (fun l => k σ1 (.a l) hp nx) .bad) .bad ≠ .bad := h
      rw [dropK_eq] at h
      split at h
      · rename_i ho
        rw [takeK_eq] at h
        split at h
        · rename_i hn
          refine ⟨.a ((l.drop o).take n), ?_, fun k' => ?_⟩
          · show dropK l o _ _ = _
            rw [dropK_eq, if_pos ho, takeK_eq, if_pos hn]
          · show dropK l o _ _ = _
            rw [dropK_eq, if_pos ho, takeK_eq, if_pos hn]
        · exact absurd rfl h
      · exact absurd rfl h
    | _ => exact absurd rfl h
  obtain ⟨v, g1, g2⟩ := key
  exact ⟨σ1, v, hp, nx, h1, g1, fun k' => (h2 _).trans ((e _).trans (g2 fun v => k' σ1 v hp nx))⟩
theorem zStn_ok (hE : EvR σ fr) {n : Nat} {x y : AOpd} (h : zStn n x y σ la hp nx k ≠ .bad) : OpR (zStn n x y σ la hp nx) fr (opStn n (evO x fr la) (evO y fr la) hp nx) := by
  obtain ⟨b, o, σ1, hx, h1, h2⟩ := unP_inv hE (k := fun σ b o => xv y σ la fun y => stnK n b o y hp fun hp => k σ (.s .un) hp nx) h
  have h := h
  rw [show zStn n x y σ la hp nx k = _ from h2 _] at h
  have hy := xv_inv h1 h
  rw [hy] at h
  rw [hx]
  have key : ∀ v, stnK n b o v hp (fun hp => k σ1 (.s .un) hp nx) ≠ .bad → ∃ hp', opStn n (.s (.ptr b o)) v hp nx = .ok (.s .un) hp' nx ∧ ∀ k', stnK n b o v hp k' = k' hp' := fun v hv => by
    cases v with
    | s _ => exact absurd rfl hv
    | t _ => exact absurd rfl hv
    | a l' =>
      cases hb : Nat.beq (lenK l') n with
      | false =>
        have : stnK n b o (.a l') hp (fun hp => k σ1 (.s .un) hp nx) = ifB (Nat.beq (lenK l') n) _ .bad := rfl
        rw [this, hb] at hv; exact absurd rfl hv
      | true =>
        have e : ∀ k', stnK n b o (.a l') hp k' = obCells (getHp b hp) (fun t ex wr l => ifB wr (layAtK l' l o (fun l => k' (put5 b (.cells t ex wr l) hp)) .bad) .bad) (fun _ _ _ _ => .bad) .bad := fun k' => by
          show ifB (Nat.beq (lenK l') n) (getK b hp _) .bad = _
          rw [hb, getK_eq]
          simp only [setK_eq]; rfl
        have e' : opStn n (.s (.ptr b o)) (.a l') hp nx = obCells (getHp b hp) (fun t ex wr l => ifB wr (layAtK l' l o (fun l => Ar.ok (.s .un) (put5 b (.cells t ex wr l) hp) nx) .bad) .bad) (fun _ _ _ _ => .bad) .bad := by
          show ifB (Nat.beq (lenK l') n) (stObj b (getHp b hp) o l' hp nx) .bad = _
          rw [hb]
          show obCells (getHp b hp) (fun t ex wr l => stLay b t ex wr l o l' hp nx) _ _ = _
          unfold stLay
          simp only [setHp_eq]
        rw [e] at hv
        rw [e']
        simp only [e]
        generalize getHp b hp = ob at hv ⊢
        cases ob with
        | cells t ex wr l =>
          have hv : ifB wr (layAtK l' l o (fun l => k σ1 (.s .un) (put5 b (.cells t ex wr l) hp) nx) .bad) .bad ≠ .bad := hv
          cases wr with
          | false => exact absurd rfl hv
          | true =>
            have hv : layAtK l' l o (fun l => k σ1 (.s .un) (put5 b (.cells t ex true l) hp) nx) .bad ≠ .bad := hv
            rw [layAtK_eq] at hv
            split at hv
            · rename_i hl
              refine ⟨put5 b (.cells t ex true (layL l o l')) hp, ?_, fun k' => ?_⟩
              · show layAtK (β := Ar) l' l o _ .bad = _
                rw [layAtK_eq, if_pos hl]
              · show layAtK (β := Ar) l' l o _ .bad = _
                rw [layAtK_eq, if_pos hl]
            · exact absurd rfl hv
        | _ => exact absurd rfl hv
  obtain ⟨hp', g1, g2⟩ := key _ h
  exact ⟨σ1, _, hp', nx, h1, g1, fun k' => (h2 _).trans ((hy _).trans (g2 _))⟩
theorem zExt_ok (hE : EvR σ fr) {i : Nat} {x : AOpd} (h : zExt i x σ la hp nx k ≠ .bad) : OpR (zExt i x σ la hp nx) fr (opExt i (evO x fr la) hp nx) := by
  have h' : xv x σ la (fun v => extK i v fun v => k σ v hp nx) ≠ .bad := h
  have hx := xv_inv hE h'
  rw [hx] at h'
  have key : ∀ v, extK i v (fun v => k σ v hp nx) ≠ .bad → ∃ u, opExt i v hp nx = .ok u hp nx ∧ ∀ k', extK i v k' = k' u := fun v hv => by
    cases v with
    | s _ => exact absurd rfl hv
    | a _ => exact absurd rfl hv
    | t l =>
      have e : ∀ k', extK i (.t l) k' = nthK l i (fun y => k' (v1AV y)) .bad := fun _ => rfl
      rw [e, nthK_eq] at hv
      cases hl : l[i]? with
      | none => rw [hl] at hv; exact absurd rfl hv
      | some y => exact ⟨v1AV y, by show nthK (β := Ar) l i _ .bad = _; rw [nthK_eq, hl], fun k' => by rw [e, nthK_eq, hl]⟩
  obtain ⟨u, g1, g2⟩ := key _ h'
  exact ⟨σ, u, hp, nx, hE, g1, fun k' => (hx _).trans (g2 _)⟩
theorem zLenStr_ok (hE : EvR σ fr) {x : AOpd} (h : zLenStr x σ la hp nx k ≠ .bad) : OpR (zLenStr x σ la hp nx) fr (opLenStr (evO x fr la) hp nx) := by
  have h' : xv x σ la (fun v => lenTK v fun n => k σ (.s (int64 n)) hp nx) ≠ .bad := h
  have hx := xv_inv hE h'
  rw [hx] at h'
  have key : ∀ v, lenTK v (fun n => k σ (.s (int64 n)) hp nx) ≠ .bad → ∃ n, opLenStr v hp nx = .ok (.s (int64 n)) hp nx ∧ ∀ k', lenTK v k' = k' n := fun v hv => by
    cases v with
    | a _ => exact absurd rfl hv
    | t _ => exact absurd rfl hv
    | s y => cases y <;> first | exact ⟨_, forceN_eq _ (fun n => okS (int64 n) hp nx), fun k' => forceN_eq _ k'⟩ | exact absurd rfl hv
  obtain ⟨n, g1, g2⟩ := key _ h'
  exact ⟨σ, _, hp, nx, hE, g1, fun k' => (hx _).trans (g2 _)⟩
theorem zEqB_ok (hE : EvR σ fr) {neg : Bool} {x y : AOpd} (h : zEqB neg x y σ la hp nx k ≠ .bad) : OpR (zEqB neg x y σ la hp nx) fr (opEqB neg (evO x fr la) (evO y fr la) hp nx) := by
  obtain ⟨a, σ1, hx, h1, h2⟩ := unB_inv hE (k := fun σ a => unB y σ la fun σ b => k σ (.s (.bool (eqBB neg a b))) hp nx) h
  have h := h
  rw [show zEqB neg x y σ la hp nx k = _ from h2 _] at h
  obtain ⟨b, σ2, hy, h3, h4⟩ := unB_inv h1 h
  rw [hx, hy]
  exact ⟨σ2, _, hp, nx, h3, boolK_eq (sameB (notB neg) (sameB a b)) (fun b => okS (.bool b) hp nx), fun k' => (h2 _).trans (h4 _)⟩
theorem eqRK_any (a b : Rope) : (∀ {β : Type} (k : Bool → β) (z : β), eqRK a b k z = z) ∨ ∃ c, ∀ {β : Type} (k : Bool → β) (z : β), eqRK a b k z = k c := by
  unfold eqRK
  cases Nat.beq (lenR a) (lenR b) with
  | false => exact .inr ⟨false, fun _ _ => rfl⟩
  | true => cases eqF (nat_lit 60) a b false with
    | yes => exact .inr ⟨true, fun _ _ => rfl⟩
    | no => exact .inr ⟨false, fun _ _ => rfl⟩
    | unk => exact .inl fun _ _ => rfl
theorem eqR {K : BK → Ar} {r : Ar} {σ1 : Env} {z : ZK → Ar} (hE : EvR σ1 fr) (hz : ∀ k', z k' = K fun c => k' σ1 (.s (.bool c)) hp nx) (h : z k ≠ .bad)
    (hk : (∀ kb, K kb = .bad) ∨ ∃ c, (∀ kb, K kb = kb c) ∧ r = .ok (.s (.bool c)) hp nx) : OpR z fr r := by
  rcases hk with hk | ⟨c, h1, h2⟩
  · exact absurd ((hz k).trans (hk _)) h
  · exact ⟨σ1, _, hp, nx, hE, h2, fun k' => (hz k').trans (h1 _)⟩
theorem zEqS_ok (hE : EvR σ fr) {neg : Bool} {x y : AOpd} (h : zEqS neg x y σ la hp nx k ≠ .bad) : OpR (zEqS neg x y σ la hp nx) fr (opEqS neg (evO x fr la) (evO y fr la) hp nx) := by
  have h' : xv x σ la (fun a => xv y σ la fun b => eqSK neg a b fun c => k σ (.s (.bool c)) hp nx) ≠ .bad := h
  have hx := xv_inv hE h'
  rw [hx] at h'
  have hy := xv_inv hE h'
  refine eqR (K := eqSK neg (evO x fr la) (evO y fr la)) hE (fun k' => (hx _).trans (hy _)) h ?_
  have key : ∀ a b : AV, (∀ kb, eqSK neg a b kb = .bad) ∨ ∃ c, (∀ kb, eqSK neg a b kb = kb c) ∧ opEqS neg a b hp nx = .ok (.s (.bool c)) hp nx := fun a b => by
    cases a with
    | a _ => exact .inl fun _ => rfl
    | t _ => exact .inl fun _ => rfl
    | s u =>
      cases u with
      | str r =>
        cases b with
        | a _ => exact .inl fun _ => rfl
        | t _ => exact .inl fun _ => rfl
        | s w =>
          cases w with
          | str r' =>
            rcases eqRK_any r r' with f | ⟨c, f⟩
            · exact .inl fun kb => f (fun b => kb (sameB (notB neg) b)) .bad
            · exact .inr ⟨sameB (notB neg) c, fun kb => f (fun b => kb (sameB (notB neg) b)) .bad, (f (fun b => boolK (sameB (notB neg) b) fun b => okS (.bool b) hp nx) .bad).trans (boolK_eq _ (fun b => okS (.bool b) hp nx))⟩
          | _ => exact .inl fun _ => rfl
      | _ => exact .inl fun _ => rfl
  exact key _ _
theorem zEqN_ok (hE : EvR σ fr) {q : NilK} {neg : Bool} {x y : AOpd} (h : zEqN q neg x y σ la hp nx k ≠ .bad) : OpR (zEqN q neg x y σ la hp nx) fr (opEqN q neg (evO x fr la) (evO y fr la) hp nx) := by
  have h' : xv x σ la (fun a => xv y σ la fun b => eqNK q neg a b fun c => k σ (.s (.bool c)) hp nx) ≠ .bad := h
  have hx := xv_inv hE h'
  rw [hx] at h'
  have hy := xv_inv hE h'
  refine eqR (K := eqNK q neg (evO x fr la) (evO y fr la)) hE (fun k' => (hx _).trans (hy _)) h ?_
  have key : ∀ a b : AV, (∀ kb, eqNK q neg a b kb = .bad) ∨ ∃ c, (∀ kb, eqNK q neg a b kb = kb c) ∧ opEqN q neg a b hp nx = .ok (.s (.bool c)) hp nx := fun a b => by
    cases a with
    | a _ => exact .inl fun _ => rfl
    | t _ => exact .inl fun _ => rfl
    | s u =>
      cases b with
      | a _ => exact .inl fun _ => rfl
      | t _ => exact .inl fun _ => rfl
      | s w =>
        have e1 : ∀ kb, eqNK q neg (.s u) (.s w) kb = bothNil (nilOf q u) (nilOf q w) fun b => kb (sameB (notB neg) b) := fun _ => rfl
        have e2 : opEqN q neg (.s u) (.s w) hp nx = bothNil (nilOf q u) (nilOf q w) fun b => boolK (sameB (notB neg) b) fun b => okS (.bool b) hp nx := rfl
        rw [e2]
        simp only [e1]
        cases nilOf q u <;> cases nilOf q w <;> first | exact .inl fun _ => rfl | exact .inr ⟨_, fun _ => rfl, boolK_eq _ (fun b => okS (.bool b) hp nx)⟩
  exact key _ _
theorem zEqP_ok (hE : EvR σ fr) {neg : Bool} {x y : AOpd} (h : zEqP neg x y σ la hp nx k ≠ .bad) : OpR (zEqP neg x y σ la hp nx) fr (opEqP neg (evO x fr la) (evO y fr la) hp nx) := by
  have h' : xv x σ la (fun a => xv y σ la fun b => eqPK neg a b hp fun c => k σ (.s (.bool c)) hp nx) ≠ .bad := h
  have hx := xv_inv hE h'
  rw [hx] at h'
  have hy := xv_inv hE h'
  refine eqR (K := eqPK neg (evO x fr la) (evO y fr la) hp) hE (fun k' => (hx _).trans (hy _)) h ?_
  have sp : ∀ b o b' o', (∀ kb : Bool → Ar, samePtr b o b' o' hp kb = .bad) ∨ ∃ c, ∀ kb : Bool → Ar, samePtr b o b' o' hp kb = kb c := fun b o b' o' => by
    unfold samePtr
    cases wrO (getHp b hp) with
    | false => exact .inl fun _ => rfl
    | true =>
      cases pidEq b b' with
      | true => exact .inr ⟨_, fun _ => rfl⟩
      | false => cases wrO (getHp b' hp) with
        | true => exact .inr ⟨_, fun _ => rfl⟩
        | false => exact .inl fun _ => rfl
  have pt : ∀ u w, (∀ kb : Bool → Ar, ptrs u w hp kb = .bad) ∨ ∃ c, ∀ kb : Bool → Ar, ptrs u w hp kb = kb c := fun u w => by
    cases u with
    | ptr b o => cases w with
      | ptr b' o' => exact sp b o b' o'
      | _ => exact .inl fun _ => rfl
    | _ => exact .inl fun _ => rfl
  have key : ∀ a b : AV, (∀ kb, eqPK neg a b hp kb = .bad) ∨ ∃ c, (∀ kb, eqPK neg a b hp kb = kb c) ∧ opEqP neg a b hp nx = .ok (.s (.bool c)) hp nx := fun a b => by
    cases a with
    | a _ => exact .inl fun _ => rfl
    | t _ => exact .inl fun _ => rfl
    | s u =>
      cases b with
      | a _ => exact .inl fun _ => rfl
      | t _ => exact .inl fun _ => rfl
      | s w =>
        have e1 : ∀ kb, eqPK neg (.s u) (.s w) hp kb = bothPtr (nilP u) (nilP w) (fun b => kb (sameB (notB neg) b)) (ptrs u w hp fun b => kb (sameB (notB neg) b)) := fun _ => rfl
        have e2 : opEqP neg (.s u) (.s w) hp nx = bothPtr (nilP u) (nilP w) (fun b => boolK (sameB (notB neg) b) fun b => okS (.bool b) hp nx) (ptrs u w hp fun b => boolK (sameB (notB neg) b) fun b => okS (.bool b) hp nx) := rfl
        rw [e2]
        simp only [e1]
        cases nilP u <;> cases nilP w <;> first | exact .inl fun _ => rfl | exact .inr ⟨_, fun _ => rfl, boolK_eq _ (fun b => okS (.bool b) hp nx)⟩ |
          (rcases pt u w with f | ⟨c, f⟩
           · exact .inl fun kb => f _
           · exact .inr ⟨_, fun kb => f _, (f _).trans (boolK_eq _ (fun b => okS (.bool b) hp nx))⟩)
  exact key _ _
theorem appRK_any (r1 r2 : Rope) : ∃ r, ∀ {β : Type} (k : Rope → β), appRK r1 r2 k = k r := by
  induction r1 with
  | nil => exact ⟨r2, fun _ => rfl⟩
  | lit n v r ih =>
    obtain ⟨q, hq⟩ := ih
    exact ⟨litK n v q id, fun k => (hq fun r => litK n v r k).trans (litK_nat n v q k)⟩
  | sym i o l r ih =>
    obtain ⟨q, hq⟩ := ih
    exact ⟨symK i o l q id, fun k => (hq fun r => symK i o l r k).trans (symK_nat i o l q k)⟩
  | crc c r _ ih =>
    obtain ⟨q, hq⟩ := ih
    exact ⟨.crc c q, fun k => hq fun r => k (.crc c r)⟩
theorem newO_ar {ob : Obj} {hp : Hp} {nx : Pid} {v : AV} {kv : VK} (h : newK ob hp nx (fun hp nx' => kv v hp nx') ≠ .bad) : ∃ u hp' nx', newO ob v hp nx = .ok u hp' nx' ∧ ∀ k' : VK, newK ob hp nx (fun hp nx' => k' v hp nx') = k' u hp' nx' := by
  obtain ⟨nx', g1, g2⟩ := newK_inv h
  exact ⟨v, _, nx', g2 v, fun k' => g1 fun hp nx' => k' v hp nx'⟩
/-- an end that is told, and the same one handed back. -/
def Told (z : VK → Ar) (r : Ar) : Prop := ∀ k, z k ≠ .bad → ∃ u hp' nx', r = .ok u hp' nx' ∧ ∀ k', z k' = k' u hp' nx'
theorem Told.no {z : VK → Ar} {r : Ar} (h : ∀ k, z k = .bad) : Told z r := fun k hk => absurd (h k) hk
theorem Told.if {c : Bool} {z : VK → Ar} {r : Ar} (h : Told z r) : Told (fun k => ifB c (z k) .bad) (ifB c r .bad) := by
  cases c with
  | false => exact .no fun _ => rfl
  | true => exact h
theorem growK_told (t n : Nat) (r : Rope) (hp : Hp) (nx : Pid) : Told (growK t n r hp nx) (growB t n r hp nx) := by
  refine Told.if (z := fun k => newK (.bytes t false true r) hp nx fun hp nx' => k (.s (.slc nx (nat_lit 0) n (.op (nat_lit 1)))) hp nx') fun k hk => ?_
  exact newO_ar (kv := k) hk
theorem cutK_any (r : Rope) (o n : Nat) : (∀ {β : Type} (k : Rope → β) (z : β), cutK r o n k z = z) ∨ ∃ q, ∀ {β : Type} (k : Rope → β) (z : β), cutK r o n k z = k q := by
  cases hc : cutK r o n some none with
  | none => exact .inl fun k z => by rw [cutK_nat, hc]; rfl
  | some q => exact .inr ⟨q, fun k z => by rw [cutK_nat, hc]; rfl⟩
theorem bytesO_any (ob : Obj) (o n : Nat) : (∀ {β : Type} (k : Rope → β) (z : β), bytesO ob o n k z = z) ∨ ∃ q, ∀ {β : Type} (k : Rope → β) (z : β), bytesO ob o n k z = k q := by
  cases ob with
  | cells t ex wr l =>
    have e : ∀ {β : Type} (k : Rope → β) (z : β), bytesO (.cells t ex wr l) o n k z = dropK l o (fun l => takeK l n (fun l => cellsR l k z) z) z := fun _ _ => rfl
    by_cases h1 : o ≤ l.length
    · by_cases h2 : n ≤ (l.drop o).length
      · cases hc : cellsR ((l.drop o).take n) some none with
        | none => exact .inl fun k z => by rw [e, dropK_eq, if_pos h1, takeK_eq, if_pos h2, cellsR_nat, hc]; rfl
        | some q => exact .inr ⟨q, fun k z => by rw [e, dropK_eq, if_pos h1, takeK_eq, if_pos h2, cellsR_nat, hc]; rfl⟩
      · exact .inl fun k z => by rw [e, dropK_eq, if_pos h1, takeK_eq, if_neg h2]
    · exact .inl fun k z => by rw [e, dropK_eq, if_neg h1]
  | bytes t ex wr r => exact cutK_any r o n
  | _ => exact .inl fun _ _ => rfl
theorem appBsK_told (t : Nat) (b : Pid) (o len : Nat) (cap : Cap) (n : Nat) (y : Rope) (hp : Hp) (nx : Pid) : Told (appBsK t b o len cap n y hp nx) (appBs t b o len cap n y hp nx) := by
  have e1 : ∀ k, appBsK t b o len cap n y hp nx k = Cap.rec (motive := fun _ => Ar) (fun c => appBkK t (getHp b hp) o len (Nat.add len n) c y hp nx k) (fun _ => appBoK t b (getHp b hp) o len (Nat.add len n) y hp nx k) cap := fun k => by
    unfold appBsK; rw [forceN_eq, getK_eq]
  have e2 : appBs t b o len cap n y hp nx = Cap.rec (motive := fun _ => Ar) (fun c => appBk t (getHp b hp) o len (Nat.add len n) c y hp nx) (fun _ => appBo t b (getHp b hp) o len (Nat.add len n) y hp nx) cap := by
    unfold appBs; rw [forceN_eq]
  intro k hk
  rw [e1] at hk
  rw [e2]
  simp only [e1]
  generalize getHp b hp = ob at hk ⊢
  cases cap with
  | kn c =>
    have hk : ifB (Nat.ble (Nat.add len n) c) .bad (bytesO ob o len (fun r => appRK r y fun r => growK t (Nat.add len n) r hp nx k) .bad) ≠ .bad := hk
    cases hb : Nat.ble (Nat.add len n) c with
    | true => rw [hb] at hk; exact absurd rfl hk
    | false =>
      rw [hb] at hk
      have hk : bytesO ob o len (fun r => appRK r y fun r => growK t (Nat.add len n) r hp nx k) .bad ≠ .bad := hk
      rcases bytesO_any ob o len with f | ⟨q, f⟩
      · rw [f] at hk; exact absurd rfl hk
      · obtain ⟨q2, g⟩ := appRK_any q y
        rw [f, g] at hk
        obtain ⟨u, hp', nx', g1, g2⟩ := growK_told _ _ _ _ _ k hk
        refine ⟨u, hp', nx', ?_, fun k' => ?_⟩
        · show ifB (Nat.ble (Nat.add len n) c) .bad (bytesO ob o len (fun r => appRK r y fun r => growB t (Nat.add len n) r hp nx) .bad) = _
          rw [hb]
          show bytesO ob o len _ _ = _
          rw [f, g]; exact g1
        · show ifB (Nat.ble (Nat.add len n) c) .bad (bytesO ob o len (fun r => appRK r y fun r => growK t (Nat.add len n) r hp nx k') .bad) = _
          rw [hb]
          show bytesO ob o len _ _ = _
          rw [f, g]; exact g2 k'
  | op e =>
    cases ob with
    | bytes t' ex wr r =>
      have hk : ifB (cand (Nat.beq t t') (cand (notB ex) wr)) (cutK r o len (fun r => appRK r y fun r => setK b .none hp fun hp => growK t (Nat.add len n) r hp nx k) .bad) .bad ≠ .bad := hk
      cases hb : cand (Nat.beq t t') (cand (notB ex) wr) with
      | false => rw [hb] at hk; exact absurd rfl hk
      | true =>
        rw [hb] at hk
        have hk : cutK r o len (fun r => appRK r y fun r => setK b .none hp fun hp => growK t (Nat.add len n) r hp nx k) .bad ≠ .bad := hk
        rcases cutK_any r o len with f | ⟨q, f⟩
        · rw [f] at hk; exact absurd rfl hk
        · obtain ⟨q2, g⟩ := appRK_any q y
          rw [f, g, setK_eq] at hk
          obtain ⟨u, hp', nx', g1, g2⟩ := growK_told _ _ _ _ _ k hk
          refine ⟨u, hp', nx', ?_, fun k' => ?_⟩
          · show ifB (cand (Nat.beq t t') (cand (notB ex) wr)) (cutK r o len (fun r => appRK r y fun r => setHp b .none hp fun hp => growB t (Nat.add len n) r hp nx) .bad) .bad = _
            rw [hb]
            show cutK r o len _ _ = _
            rw [f, g, setHp_eq]; exact g1
          · show ifB (cand (Nat.beq t t') (cand (notB ex) wr)) (cutK r o len (fun r => appRK r y fun r => setK b .none hp fun hp => growK t (Nat.add len n) r hp nx k') .bad) .bad = _
            rw [hb]
            show cutK r o len _ _ = _
            rw [f, g, setK_eq]; exact g2 k'
    | _ => exact absurd rfl hk
theorem bytesK_any (y : AV) (hp : Hp) : (∀ k : Nat → Rope → Ar, bytesK y hp k = .bad) ∨ ∃ n r, (∀ k, bytesK y hp k = k n r) ∧ ∀ k : Nat → Rope → Ar, bytesOf y hp k .bad = k n r := by
  cases y with
  | a _ => exact .inl fun _ => rfl
  | t _ => exact .inl fun _ => rfl
  | s x =>
    cases x with
    | str r => exact .inr ⟨lenR r, r, fun k => forceN_eq (lenR r) (fun n => k n r), fun k => forceN_eq (lenR r) (fun n => k n r)⟩
    | slc b o n c =>
      have e : ∀ k, bytesK (.s (.slc b o n c)) hp k = bytesO (getHp b hp) o n (k n) .bad := fun k => getK_eq _ _ _
      simp only [e]
      rcases bytesO_any (getHp b hp) o n with f | ⟨q, f⟩
      · exact .inl fun k => f _ _
      · exact .inr ⟨n, q, fun k => f _ _, fun k => f _ _⟩
    | slz b o => exact .inr ⟨_, _, fun _ => rfl, fun _ => rfl⟩
    | nils => exact .inr ⟨_, _, fun _ => rfl, fun _ => rfl⟩
    | _ => exact .inl fun _ => rfl
theorem appBK_told (t : Nat) (x y : AV) (hp : Hp) (nx : Pid) : Told (appBK t x y hp nx) (opAppB t x y hp nx) := by
  intro k hk
  rcases bytesK_any y hp with f | ⟨n, r, f, f'⟩
  · exact absurd (f _) hk
  · have e2 : opAppB t x y hp nx = asS x (fun x => svSlc x
        (fun b o len cap => ifB (Nat.beq n (nat_lit 0)) (okS (.slc b o len cap) hp nx) (appBs t b o len cap n r hp nx))
        (fun b o => ifB (Nat.beq n (nat_lit 0)) (okS (.slz b o) hp nx) .bad)
        (ifB (Nat.beq n (nat_lit 0)) (okS .nils hp nx) (growB t n r hp nx)) .bad) .bad := f' _
    unfold appBK at hk
    unfold appBK
    rw [e2]
    simp only [f] at hk ⊢
    cases x with
    | a _ => exact absurd rfl hk
    | t _ => exact absurd rfl hk
    | s u =>
      cases u with
      | slc b o len cap =>
        cases hn : Nat.beq n (nat_lit 0) with
        | true => exact ⟨_, _, _, rfl, fun _ => rfl⟩
        | false =>
          rw [hn] at hk
          exact appBsK_told t b o len cap n r hp nx k hk
      | slz b o =>
        cases hn : Nat.beq n (nat_lit 0) with
        | true => exact ⟨_, _, _, rfl, fun _ => rfl⟩
        | false => rw [hn] at hk; exact absurd rfl hk
      | nils =>
        cases hn : Nat.beq n (nat_lit 0) with
        | true => exact ⟨_, _, _, rfl, fun _ => rfl⟩
        | false =>
          rw [hn] at hk
          exact growK_told t n r hp nx k hk
      | _ => exact absurd rfl hk
theorem zAppB_ok (hE : EvR σ fr) {t : Nat} {x y : AOpd} (h : zAppB t x y σ la hp nx k ≠ .bad) : OpR (zAppB t x y σ la hp nx) fr (opAppB t (evO x fr la) (evO y fr la) hp nx) := by
  have h' : xv x σ la (fun a => xv y σ la fun b => appBK t a b hp nx (k σ)) ≠ .bad := h
  have hx := xv_inv hE h'
  rw [hx] at h'
  have hy := xv_inv hE h'
  rw [hy] at h'
  obtain ⟨u, hp', nx', g1, g2⟩ := appBK_told t _ _ hp nx (k σ) h'
  exact ⟨σ, u, hp', nx', hE, g1, fun k' => (hx _).trans ((hy _).trans (g2 _))⟩
theorem zMinmax_ok (hE : EvR σ fr) {mx : Bool} {l : List AOpd} (h : zMinmax mx l σ la hp nx k ≠ .bad) : OpR (zMinmax mx l σ la hp nx) fr (opMinmax mx (evL l fr la) hp nx) :=
  arR hE (fun _ => xvL_inv hE (k := fun vs => arK (opMinmax mx vs hp nx) (k σ)) h _) h
theorem zMkfn_ok (hE : EvR σ fr) {f : Nat} {l : List AOpd} (h : zMkfn f l σ la hp nx k ≠ .bad) : OpR (zMkfn f l σ la hp nx) fr (opMkfn f (evL l fr la) hp nx) :=
  arR hE (fun _ => xvL_inv hE (k := fun vs => arK (opMkfn f vs hp nx) (k σ)) h _) h
theorem zSlstr_ok (hE : EvR σ fr) {x : AOpd} {lo hi : Option AOpd} (h : zSlstr x lo hi σ la hp nx k ≠ .bad) : OpR (zSlstr x lo hi σ la hp nx) fr (opSlstr (evO x fr la) (evM lo fr la) (evM hi fr la) hp nx) := by
  have h' : xv x σ la (fun a => xvM lo σ la fun lo => xvM hi σ la fun hi => arK (opSlstr a lo hi hp nx) (k σ)) ≠ .bad := h
  have hx := xv_inv hE h'
  rw [hx] at h'
  have hl := xvM_inv hE h'
  rw [hl] at h'
  have hh := xvM_inv hE h'
  exact arR hE (fun k' => (hx _).trans ((hl _).trans (hh _))) h
theorem zSlslc_ok (hE : EvR σ fr) {es : Nat} {x : AOpd} {lo hi mx : Option AOpd} (h : zSlslc es x lo hi mx σ la hp nx k ≠ .bad) : OpR (zSlslc es x lo hi mx σ la hp nx) fr (opSlslc es (evO x fr la) (evM lo fr la) (evM hi fr la) (evM mx fr la) hp nx) := by
  have h' : xv x σ la (fun a => xvM lo σ la fun lo => xvM hi σ la fun hi => xvM mx σ la fun mx => arK (opSlslc es a lo hi mx hp nx) (k σ)) ≠ .bad := h
  have hx := xv_inv hE h'
  rw [hx] at h'
  have hl := xvM_inv hE h'
  rw [hl] at h'
  have hh := xvM_inv hE h'
  rw [hh] at h'
  have hm := xvM_inv hE h'
  exact arR hE (fun k' => (hx _).trans ((hl _).trans ((hh _).trans (hm _)))) h
theorem zSlarr_ok (hE : EvR σ fr) {n es : Nat} {x : AOpd} {lo hi mx : Option AOpd} (h : zSlarr n es x lo hi mx σ la hp nx k ≠ .bad) : OpR (zSlarr n es x lo hi mx σ la hp nx) fr (opSlarr n es (evO x fr la) (evM lo fr la) (evM hi fr la) (evM mx fr la) hp nx) := by
  have h' : xv x σ la (fun a => xvM lo σ la fun lo => xvM hi σ la fun hi => xvM mx σ la fun mx => arK (opSlarr n es a lo hi mx hp nx) (k σ)) ≠ .bad := h
  have hx := xv_inv hE h'
  rw [hx] at h'
  have hl := xvM_inv hE h'
  rw [hl] at h'
  have hh := xvM_inv hE h'
  rw [hh] at h'
  have hm := xvM_inv hE h'
  exact arR hE (fun k' => (hx _).trans ((hl _).trans ((hh _).trans (hm _)))) h

/-- functions by their ends and functions at once. -/
def FeI (fe : Nat → CallK) (ih : CallF) : Prop := ∀ f args hp nx k, fe f args hp nx k ≠ .bad → ∃ v hp' nx', ih f args hp nx = .ok v hp' nx' ∧ ∀ k', fe f args hp nx k' = k' v hp' nx'
variable {fe : Nat → CallK} {ih : CallF}
theorem zCall_ok (hf : FeI fe ih) (hE : EvR σ fr) {f : Nat} {args : List AOpd} (h : zCall fe f args σ la hp nx k ≠ .bad) : OpR (zCall fe f args σ la hp nx) fr (ih f (evL args fr la) hp nx) := by
  have hx := xvL_inv hE (k := fun vs => fe f vs hp nx (k σ)) h
  have h := h
  rw [show zCall fe f args σ la hp nx k = _ from hx _] at h
  obtain ⟨v, hp', nx', h1, h2⟩ := hf _ _ _ _ _ h
  exact ⟨σ, v, hp', nx', hE, h1, fun k' => (hx _).trans (h2 _)⟩
theorem zCallv_ok (hf : FeI fe ih) (hE : EvR σ fr) {x : AOpd} {args : List AOpd} (h : zCallv fe x args σ la hp nx k ≠ .bad) : OpR (zCallv fe x args σ la hp nx) fr (callvK (evO x fr la) (evL args fr la) ih hp nx) := by
  have h' : xv x σ la (fun v => xvL args σ la fun vs => callvZ fe v vs hp nx (k σ)) ≠ .bad := h
  have hx := xv_inv hE h'
  rw [hx] at h'
  have hl := xvL_inv hE h'
  rw [hl] at h'
  obtain ⟨f, c, hv⟩ := fnK_inv (v := evO x fr la) h'
  have e : ∀ k' : ZK, zCallv fe x args σ la hp nx k' = fe f (evL args fr la ++ capAV c) hp nx (k' σ) := fun k' => by
    show xv x σ la (fun v => xvL args σ la fun vs => callvZ fe v vs hp nx (k' σ)) = _
    rw [hx, hl, hv]
    exact appK_eq (evL args fr la) (capAV c) (fun l => fe f l hp nx (k' σ))
  have h := h
  rw [e] at h
  obtain ⟨v, hp', nx', h1, h2⟩ := hf _ _ _ _ _ h
  refine ⟨σ, v, hp', nx', hE, ?_, fun k' => (e k').trans (h2 _)⟩
  rw [hv]
  show appK (evL args fr la) (capAV c) (fun l => ih f l hp nx) = _
  rw [appK_eq]; exact h1

theorem zOp_ok (hf : FeI fe ih) (hE : EvR σ fr) {o : AOp} (h : zOp fe o σ la hp nx k ≠ .bad) : OpR (zOp fe o σ la hp nx) fr (runOp o ih fr la hp nx) := by
  cases o with
  | bad => exact absurd rfl h
  | mov x => exact zMov_ok hE h
  | pick c a b => exact zPick_ok hE h
  | alloc t z => exact zAlloc_ok (la := la) hE h
  | build z ps => exact zBuild_ok hE h
  | bslice t n z ps => exact zBslice_ok hE h
  | ld1 x => exact zLd1_ok hE h
  | st1 x v => exact zSt1_ok hE h
  | nilck x => exact zNilck_ok hE h
  | fad off x => exact zFad_ok hE h
  | ixs es x i => exact zIxs_ok hE h
  | ixa n es x i => exact zIxa_ok hE h
  | slstr x lo hi => exact zSlstr_ok hE h
  | slslc es x lo hi mx => exact zSlslc_ok hE h
  | slarr n es x lo hi mx => exact zSlarr_ok hE h
  | binI op x y => exact zBin_ok hE h
  | sh op x y => exact zSh_ok hE h
  | not x => exact zNot_ok hE h
  | cvi q x => exact zCvi_ok hE h
  | minmax mx l => exact zMinmax_ok hE h
  | lenSlc x => exact zLenSlc_ok hE h
  | mkmap => exact arR hE (fun k' => rfl) h
  | mkfn f caps => exact zMkfn_ok hE h
  | call f args => exact zCall_ok hf hE h
  | callv x args => exact zCallv_ok hf hE h
  | intr c args => exact zIntr_ok hE h
  | mset kk m q v => exact z3_ok hE h
  | box t x => exact zBox_ok hE h
  | ldn n x => exact zLdn_ok hE h
  | stn n x v => exact zStn_ok hE h
  | fld off n agg x => exact z1_ok hE h
  | ixstr x i => exact z2_ok hE h
  | eq q neg x y =>
    cases q with
    | b => exact zEqB_ok hE h
    | s => exact zEqS_ok hE h
    | n q => exact zEqN_ok hE h
    | p => exact zEqP_ok hE h
    | flat l => exact z2_ok hE h
  | cat x y => exact z2_ok hE h
  | neg x => exact z1_ok hE h
  | ext i x => exact zExt_ok hE h
  | lenStr x => exact zLenStr_ok hE h
  | cap x => exact z1_ok hE h
  | lenMap x => exact z1_ok hE h
  | mkslice t z l c => exact z2_ok hE h
  | mkbytes t l c => exact z2_ok hE h
  | app t es x y => exact z2_ok hE h
  | appB t x y => exact zAppB_ok hE h
  | s2b t x => exact z1_ok hE h
  | b2s x => exact z1_ok hE h
  | clear z x => exact z1_ok hE h
  | look kk ok z m q => exact z2_ok hE h
  | mdel kk m q => exact z2_ok hE h
  | mkchan x => exact z1_ok hE h
  | lenChan x => exact z1_ok hE h
  | usd x => exact z1_ok hE h
  | ustr e x n => exact z2_ok hE h
end
end Go.X
end

