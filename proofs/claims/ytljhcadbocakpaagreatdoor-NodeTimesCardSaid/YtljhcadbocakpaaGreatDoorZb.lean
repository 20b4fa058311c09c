/-
  The second run of steps, code and functions gives what the first run gives, and so what the model does. Part of the proof of the claim: for every input the law returns true.
-/
import Derived.Test.YtljhcadbocakpaaGreatDoorZa
import Derived.Test.YtljhcadbocakpaaGreatDoorXc
/-! What the second run gives is what the first one gives: steps and code. -/
noncomputable section
namespace Go.X

/-- a step's end. -/
def StR (z : ZK → Ar) (run : StK → Cr) (D : List Slot) (fr : Fr) : Prop := ∃ σ' fr' la' hp' nx', EvR σ' fr' ∧ (∀ k', z k' = k' σ' la' hp' nx') ∧ (∀ kk : StK, run kk = kk fr' la' hp' nx') ∧ ∀ s, s ∉ D → get3 s fr' = get3 s fr
section
variable {σ : Env} {fr : Fr} {la : AV} {hp : Hp} {nx : Pid} {k : ZK} {fe : Nat → CallK} {ih : CallF}

theorem putE_ok (hE : EvR σ fr) (d : Option Slot) (v : AV) : ∃ σ' fr', (∀ k, putE d v σ k = k σ') ∧ (∀ kk, putD d v fr kk = kk fr') ∧ EvR σ' fr' ∧ ∀ s, s ∉ dOpt d → get3 s fr' = get3 s fr := by
  cases d with
  | none => exact ⟨σ, fr, fun _ => rfl, fun _ => rfl, hE, fun _ _ => rfl⟩
  | some t =>
    refine ⟨put3 t (some v) σ, put3 t v fr, fun k => setZ_eq, fun kk => setFr_eq _ _ _ _, hE.put t v, fun s hs => ?_⟩
    rw [get3_put3, if_neg]
    intro e; subst e; exact hs (List.mem_cons_self ..)
theorem zSt_ok (hf : FeI fe ih) (hE : EvR σ fr) {o : AOp} {d : Option Slot} (h : zSt fe o d σ la hp nx k ≠ .bad) : StR (zSt fe o d σ la hp nx) (stSt o d ih fr la hp nx) (dOpt d) fr := by
  obtain ⟨σ1, v, hp', nx', h1, h2, h3⟩ := zOp_ok hf hE (k := fun σ v hp nx => putE d v σ fun σ => k σ v hp nx) h
  obtain ⟨σ', fr', g1, g2, g3, g4⟩ := putE_ok h1 d v
  refine ⟨σ', fr', v, hp', nx', g3, fun k' => ?_, fun kk => ?_, g4⟩
  · show zOp fe o σ la hp nx (fun σ v hp nx => putE d v σ fun σ => k' σ v hp nx) = _
    rw [h3, g1]
  · unfold stSt; rw [h2]; exact g2 _
theorem zSkip_ok (hE : EvR σ fr) (d : Option Slot) : StR (zSkip d σ la hp nx) (skipD d fr hp nx) (dOpt d) fr := by
  obtain ⟨σ', fr', g1, g2, g3, g4⟩ := putE_ok hE d undefA
  exact ⟨σ', fr', undefA, hp, nx, g3, fun k' => g1 _, fun kk => g2 _, g4⟩
theorem zChk_ok (hf : FeI fe ih) (hE : EvR σ fr) {o : AOp} {s : Slot} (h : zChk fe o s σ la hp nx k ≠ .bad) : StR (zChk fe o s σ la hp nx) (stChk o s ih fr la hp nx) [] fr := by
  obtain ⟨σ1, v, hp', nx', h1, h2, h3⟩ := zOp_ok hf hE (k := fun σ v _ _ => oget (get3 s σ) fun old => ifA (sameAV v old) (k σ la hp nx) .bad) h
  have h := h
  rw [show zChk fe o s σ la hp nx k = _ from h3 _] at h
  obtain ⟨old, ho⟩ := oget_inv h
  rw [ho] at h
  have hs := ifA_inv (c := sameAV v old) h
  refine ⟨σ1, fr, la, hp, nx, h1, fun k' => ?_, fun kk => ?_, fun _ _ => rfl⟩
  · rw [show zChk fe o s σ la hp nx k' = _ from h3 _, ho]
    show ifA (sameAV v old) _ _ = _
    rw [hs] <;> rfl
  · unfold stChk
    rw [h2, getFr_eq, h1 s old ho]
    show Bool.rec (motive := fun _ => Cr) .bad (kk fr la hp nx) (sameAV v old) = _
    rw [hs]
theorem guardZ_inv {g : Slot} {a : Bool → Ar} {u : Ar} (h : guardZ g σ a u ≠ .bad) : (∃ b, get3 g σ = some (.s (.bool b))) ∨ get3 g σ = some (.t []) := by
  obtain ⟨v, hv⟩ := oget_inv (o := get3 g σ) h
  unfold guardZ at h
  rw [hv] at h
  rw [hv]
  cases v with
  | s x => cases x <;> first | exact .inl ⟨_, rfl⟩ | exact absurd rfl h
  | a l => exact absurd rfl h
  | t l => cases l with
    | nil => exact .inr rfl
    | cons _ _ => exact absurd rfl h
theorem guardZ_bool {g : Slot} {b : Bool} (hg : get3 g σ = some (.s (.bool b))) (a : Bool → Ar) (u : Ar) : guardZ g σ a u = a b := by unfold guardZ; rw [hg] <;> rfl
theorem guardZ_un {g : Slot} (hg : get3 g σ = some (.t [])) (a : Bool → Ar) (u : Ar) : guardZ g σ a u = u := by unfold guardZ; rw [hg] <;> rfl
theorem zGd_ok (hf : FeI fe ih) (hE : EvR σ fr) {g : Slot} {b : Bool} {o : AOp} {d : Option Slot} (h : zGd fe g b o d σ la hp nx k ≠ .bad) : StR (zGd fe g b o d σ la hp nx) (stGd g b o d ih fr la hp nx) (dOpt d) fr := by
  rcases guardZ_inv h with ⟨b', hg⟩ | hg
  · have e : ∀ k', zGd fe g b o d σ la hp nx k' = ifA (sameB b b') (zSt fe o d σ la hp nx k') (zSkip d σ la hp nx k') := fun k' => guardZ_bool hg _ _
    have h := h
    rw [e] at h
    have e2 : ∀ kk, stGd g b o d ih fr la hp nx kk = Bool.rec (skipD d fr hp nx kk) (stSt o d ih fr la hp nx kk) (sameB b b') := fun kk => by unfold stGd; rw [getFr_eq, hE g _ hg] <;> rfl
    cases hs : sameB b b' with
    | true =>
      rw [hs] at h
      obtain ⟨σ', fr', la', hp', nx', h1, h2, h3, h4⟩ := zSt_ok hf hE h
      exact ⟨σ', fr', la', hp', nx', h1, fun k' => by rw [e, hs]; exact h2 k', fun kk => by rw [e2, hs]; exact h3 kk, h4⟩
    | false =>
      obtain ⟨σ', fr', la', hp', nx', h1, h2, h3, h4⟩ := zSkip_ok (la := la) (hp := hp) (nx := nx) hE d
      exact ⟨σ', fr', la', hp', nx', h1, fun k' => by rw [e, hs]; exact h2 k', fun kk => by rw [e2, hs]; exact h3 kk, h4⟩
  · obtain ⟨σ', fr', la', hp', nx', h1, h2, h3, h4⟩ := zSkip_ok (la := la) (hp := hp) (nx := nx) hE d
    exact ⟨σ', fr', la', hp', nx', h1, fun k' => (guardZ_un hg _ _).trans (h2 k'), fun kk => by unfold stGd; rw [getFr_eq, hE g _ hg]; exact h3 kk, h4⟩
theorem zGchk_ok (hf : FeI fe ih) (hE : EvR σ fr) {g : Slot} {b : Bool} {o : AOp} {s : Slot} (h : zGchk fe g b o s σ la hp nx k ≠ .bad) : StR (zGchk fe g b o s σ la hp nx) (stGchk g b o s ih fr la hp nx) [] fr := by
  rcases guardZ_inv h with ⟨b', hg⟩ | hg
  · have e : ∀ k', zGchk fe g b o s σ la hp nx k' = ifA (sameB b b') (zChk fe o s σ la hp nx k') (k' σ la hp nx) := fun k' => guardZ_bool hg _ _
    have h := h
    rw [e] at h
    have e2 : ∀ kk, stGchk g b o s ih fr la hp nx kk = Bool.rec (kk fr la hp nx) (stChk o s ih fr la hp nx kk) (sameB b b') := fun kk => by unfold stGchk; rw [getFr_eq, hE g _ hg] <;> rfl
    cases hs : sameB b b' with
    | true =>
      rw [hs] at h
      obtain ⟨σ', fr', la', hp', nx', h1, h2, h3, h4⟩ := zChk_ok hf hE h
      exact ⟨σ', fr', la', hp', nx', h1, fun k' => by rw [e, hs]; exact h2 k', fun kk => by rw [e2, hs]; exact h3 kk, h4⟩
    | false => exact ⟨σ, fr, la, hp, nx, hE, fun k' => by rw [e, hs] <;> rfl, fun kk => by rw [e2, hs], fun _ _ => rfl⟩
  · exact ⟨σ, fr, la, hp, nx, hE, fun k' => guardZ_un hg _ _, fun kk => by unfold stGchk; rw [getFr_eq, hE g _ hg] <;> rfl, fun _ _ => rfl⟩
theorem zStep_ok (hf : FeI fe ih) (hE : EvR σ fr) {s : AStep} (h : zStep fe s σ la hp nx k ≠ .bad) : StR (zStep fe s σ la hp nx) (runStep s ih fr la hp nx) (dStep s) fr := by
  cases s with
  | st o d => exact zSt_ok hf hE h
  | gd g b o d => exact zGd_ok hf hE h
  | chk o s => exact zChk_ok hf hE h
  | gchk g b o s => exact zGchk_ok hf hE h

theorem catL_eq {α : Type} (a b : List α) : catL a b = a ++ b := by
  induction a with
  | nil => rfl
  | cons x a ih => show x :: catL a b = _; rw [ih] <;> rfl
theorem takeL_eq {α : Type} (n : Nat) : ∀ l : List α, takeL n l = l.take n := by
  induction n with
  | zero => intro l; show [] = _; simp
  | succ n ih => intro l; cases l with
    | nil => rfl
    | cons x l => show x :: takeL n l = _; rw [ih] <;> rfl
theorem dropL_eq {α : Type} (n : Nat) : ∀ l : List α, dropL n l = l.drop n := by
  induction n with
  | zero => intro l; rfl
  | succ n ih => intro l; cases l with
    | nil => rfl
    | cons x l => show dropL n l = _; rw [ih] <;> rfl
theorem dSteps_app (a b : List AStep) : dSteps (a ++ b) = dSteps a ++ dSteps b := by
  induction a with
  | nil => rfl
  | cons x a ih => show catL (dStep x) (dSteps (a ++ b)) = catL (dStep x) (dSteps a) ++ _; rw [ih, catL_eq, catL_eq, List.append_assoc]

/-- steps' end, with others behind them. -/
def AllR (z : ZK → Ar) (ih : CallF) (l : List AStep) (fr : Fr) (la : AV) (hp : Hp) (nx : Pid) : Prop := ∃ σ' fr' la' hp' nx', EvR σ' fr' ∧ (∀ k', z k' = k' σ' la' hp' nx') ∧ (∀ l', runSteps ih (l ++ l') fr la hp nx = runSteps ih l' fr' la' hp' nx') ∧ ∀ s, s ∉ dSteps l → get3 s fr' = get3 s fr
theorem zAll_ok (hf : FeI fe ih) : ∀ (l : List AStep) {σ : Env} {fr : Fr} {la : AV} {hp : Hp} {nx : Pid} {k : ZK}, EvR σ fr → zAll fe l σ la hp nx k ≠ .bad → AllR (zAll fe l σ la hp nx) ih l fr la hp nx
  | [], σ, fr, la, hp, nx, _, hE, _ => ⟨σ, fr, la, hp, nx, hE, fun _ => rfl, fun _ => rfl, fun _ _ => rfl⟩
  | s :: l, σ, fr, la, hp, nx, k, hE, h => by
    have h' : zStep fe s σ la hp nx (fun σ la hp nx => zAll fe l σ la hp nx k) ≠ .bad := h
    obtain ⟨σ1, fr1, la1, hp1, nx1, h1, h2, h3, h4⟩ := zStep_ok hf hE h'
    rw [h2] at h'
    obtain ⟨σ2, fr2, la2, hp2, nx2, g1, g2, g3, g4⟩ := zAll_ok hf l h1 h'
    refine ⟨σ2, fr2, la2, hp2, nx2, g1, fun k' => (h2 _).trans (g2 k'), fun l' => (h3 _).trans (g3 l'), fun t ht => ?_⟩
    have ht : t ∉ catL (dStep s) (dSteps l) := ht
    rw [catL_eq, List.mem_append, not_or] at ht
    rw [g4 t ht.2, h4 t ht.1]

/-- a plan's end: some of the list is done. -/
def RR (z : RK → Ar) (ih : CallF) (l : List AStep) (fr : Fr) (la : AV) (hp : Hp) (nx : Pid) : Prop := ∃ l1 l2 σ' fr' la' hp' nx', l = l1 ++ l2 ∧ EvR σ' fr' ∧ (∀ k', z k' = k' l2 σ' la' hp' nx') ∧ (∀ l', runSteps ih (l1 ++ l') fr la hp nx = runSteps ih l' fr' la' hp' nx') ∧ ∀ s, s ∉ dSteps l1 → get3 s fr' = get3 s fr
def RE_OK (z : RE) (ih : CallF) : Prop := ∀ (l : List AStep) (σ : Env) (fr : Fr) (la : AV) (hp : Hp) (nx : Pid) (k : RK), EvR σ fr → z l σ la hp nx k ≠ .bad → RR (z l σ la hp nx) ih l fr la hp nx

theorem rNil_ok : RE_OK rNil ih := fun l σ fr la hp nx _ hE _ => ⟨[], l, σ, fr, la, hp, nx, rfl, hE, fun _ => rfl, fun _ => rfl, fun _ _ => rfl⟩
/-- what is behind some that are done. -/
theorem RR.then {z : RK → Ar} {l1 l2 : List AStep} {fr fr1 : Fr} {la la1 : AV} {hp hp1 : Hp} {nx nx1 : Pid} (h3 : ∀ l', runSteps ih (l1 ++ l') fr la hp nx = runSteps ih l' fr1 la1 hp1 nx1) (h4 : ∀ s, s ∉ dSteps l1 → get3 s fr1 = get3 s fr) (h : RR z ih l2 fr1 la1 hp1 nx1) : RR z ih (l1 ++ l2) fr la hp nx := by
  obtain ⟨m1, m2, σ2, fr2, la2, hp2, nx2, g0, g1, g2, g3, g4⟩ := h
  refine ⟨l1 ++ m1, m2, σ2, fr2, la2, hp2, nx2, by rw [g0, List.append_assoc], g1, g2, fun l' => by rw [List.append_assoc, h3, g3], fun t ht => ?_⟩
  rw [dSteps_app, List.mem_append, not_or] at ht
  rw [g4 t ht.2, h4 t ht.1]
theorem RR.eq {z z' : RK → Ar} {l : List AStep} {fr : Fr} {la : AV} {hp : Hp} {nx : Pid} (h : RR z ih l fr la hp nx) (e : ∀ k, z' k = z k) : RR z' ih l fr la hp nx := by
  obtain ⟨m1, m2, σ2, fr2, la2, hp2, nx2, g0, g1, g2, g3, g4⟩ := h
  exact ⟨m1, m2, σ2, fr2, la2, hp2, nx2, g0, g1, fun k => (e k).trans (g2 k), g3, g4⟩
theorem rGo_ok (hf : FeI fe ih) (n : Nat) {r : RE} (hr : RE_OK r ih) : RE_OK (rGo fe n r) ih := fun l σ fr la hp nx k hE h => by
  have h' : zAll fe (takeL n l) σ la hp nx (fun σ la hp nx => r (dropL n l) σ la hp nx k) ≠ .bad := h
  obtain ⟨σ1, fr1, la1, hp1, nx1, h1, h2, h3, h4⟩ := zAll_ok hf _ hE h'
  rw [h2] at h'
  have g := hr _ _ _ _ _ _ _ h1 h'
  have := (RR.then h3 h4 g).eq (z' := rGo fe n r l σ la hp nx) fun k => h2 _
  rwa [takeL_eq, dropL_eq, List.take_append_drop] at this
theorem rPre_ok (hf : FeI fe ih) {n : Nat} {pre : RE} (hp' : RE_OK pre ih) {l : List AStep} {k : RK} (hE : EvR σ fr) (h : rPre fe n pre l σ la hp nx k ≠ .bad) : ∃ σ' fr' la' hp' nx', EvR σ' fr' ∧ (∀ k', rPre fe n pre l σ la hp nx k' = k' (dropL n l) σ' la' hp' nx') ∧ (∀ l', runSteps ih (takeL n l ++ l') fr la hp nx = runSteps ih l' fr' la' hp' nx') ∧ ∀ s, s ∉ dSteps (takeL n l) → get3 s fr' = get3 s fr := by
  have h' : pre (takeL n l) σ la hp nx (fun l' σ la hp nx => zAll fe l' σ la hp nx fun σ la hp nx => k (dropL n l) σ la hp nx) ≠ .bad := h
  obtain ⟨m1, m2, σ2, fr2, la2, hp2, nx2, g0, g1, g2, g3, g4⟩ := hp' _ _ _ _ _ _ _ hE h'
  rw [g2] at h'
  obtain ⟨σ3, fr3, la3, hp3, nx3, f1, f2, f3, f4⟩ := zAll_ok hf _ g1 h'
  refine ⟨σ3, fr3, la3, hp3, nx3, f1, fun k' => (g2 _).trans (f2 _), fun l' => by rw [g0, List.append_assoc, g3, f3], fun t ht => ?_⟩
  rw [g0, dSteps_app, List.mem_append, not_or] at ht
  rw [f4 t ht.2, g4 t ht.1]
theorem dropE_ok (D : List Slot) : ∀ (σ : Env), ∃ σ0, (∀ k, dropE D σ k = k σ0) ∧ (∀ s, s ∈ D → get3 s σ0 = none) ∧ ∀ s v, get3 s σ0 = some v → get3 s σ = some v := by
  induction D with
  | nil => exact fun σ => ⟨σ, fun _ => rfl, fun s hs => by simp at hs, fun _ _ h => h⟩
  | cons d D ih =>
    intro σ
    obtain ⟨σ0, h1, h2, h3⟩ := ih (put3 d none σ)
    refine ⟨σ0, fun k => ?_, fun s hs => ?_, fun s v hv => ?_⟩
    · show setE d none σ (fun σ => dropE D σ k) = _
      unfold setE; rw [setZ_eq, h1]
    · rcases List.mem_cons.1 hs with e | e
      · cases hc : get3 s σ0 with
        | none => rfl
        | some v => have := h3 s v hc; rw [get3_put3, if_pos e] at this; cases this
      · exact h2 s e
    · have := h3 s v hv
      rw [get3_put3] at this
      split at this
      · cases this
      · exact this
/-- what is kept through a piece of code. -/
theorem EvR.keep {σ σ0 : Env} {fr fr' : Fr} {D : List Slot} (hE : EvR σ fr) (h2 : ∀ s, s ∈ D → get3 s σ0 = none) (h3 : ∀ s v, get3 s σ0 = some v → get3 s σ = some v) (hk : ∀ s, s ∉ D → get3 s fr' = get3 s fr) : EvR σ0 fr' := fun s v hv => by
  have hd : s ∉ D := fun hd => by rw [h2 s hd] at hv; cases hv
  rw [hk s hd]; exact hE s v (h3 s v hv)

/-- a place where ways meet. -/
theorem join_ok (M : JL) : ∀ {σ σ0 : Env} {fr : Fr} {hp : Hp} {nx : Pid} {f : EK}, EvR σ fr → EvR σ0 fr → appJ M (bindJ M f σ0) σ hp nx ≠ .bad → ∃ σ2, EvR σ2 fr ∧ ∀ f', appJ M (bindJ M f' σ0) σ hp nx = f' σ2 hp nx := by
  induction M with
  | nil => exact fun {σ σ0 fr hp nx f} hE h0 h => ⟨σ0, h0, fun _ => rfl⟩
  | cons p M ih =>
    intro σ σ0 fr hp nx f hE h0 h
    obtain ⟨s, t⟩ := p
    cases t with
    | v =>
      obtain ⟨v, hv⟩ := oget_inv (o := get3 s σ) h
      have e : ∀ f', appJ ((s, Tg.v) :: M) (bindJ ((s, Tg.v) :: M) f' σ0) σ hp nx = appJ M (bindJ M f' (put3 s (some v) σ0)) σ hp nx := fun f' => by
        show oget (get3 s σ) _ = _
        rw [hv] <;> rfl
      rw [e] at h
      obtain ⟨σ2, h1, h2⟩ := ih hE (h0.ref (hE s v hv)) h
      exact ⟨σ2, h1, fun f' => (e f').trans (h2 f')⟩
    | i q =>
      obtain ⟨v, hv⟩ := oget_inv (o := get3 s σ) h
      have e : ∀ f', appJ ((s, Tg.i q) :: M) (bindJ ((s, Tg.i q) :: M) f' σ0) σ hp nx = iK q v fun n => appJ M (bindJ M f' (put3 s (some (.s (.int q n))) σ0)) σ hp nx := fun f' => by
        show oget (get3 s σ) _ = _
        rw [hv] <;> rfl
      rw [e] at h
      obtain ⟨n, rfl⟩ := iK_inv h
      rw [iK_int] at h
      obtain ⟨σ2, h1, h2⟩ := ih hE (h0.ref (hE s _ hv)) h
      exact ⟨σ2, h1, fun f' => (e f').trans ((iK_int _ _ _).trans (h2 f'))⟩
    | b =>
      obtain ⟨v, hv⟩ := oget_inv (o := get3 s σ) h
      have e : ∀ f', appJ ((s, Tg.b) :: M) (bindJ ((s, Tg.b) :: M) f' σ0) σ hp nx = booK v fun n => appJ M (bindJ M f' (put3 s (some (.s (.bool n))) σ0)) σ hp nx := fun f' => by
        show oget (get3 s σ) _ = _
        rw [hv] <;> rfl
      rw [e] at h
      obtain ⟨n, rfl⟩ := booK_inv h
      obtain ⟨σ2, h1, h2⟩ := ih hE (h0.ref (hE s _ hv)) (h : appJ M (bindJ M f (put3 s (some (.s (.bool n))) σ0)) σ hp nx ≠ .bad)
      exact ⟨σ2, h1, fun f' => (e f').trans (h2 f')⟩
    | p =>
      obtain ⟨v, hv⟩ := oget_inv (o := get3 s σ) h
      have e : ∀ f', appJ ((s, Tg.p) :: M) (bindJ ((s, Tg.p) :: M) f' σ0) σ hp nx = ptrK v fun b o => appJ M (bindJ M f' (put3 s (some (.s (.ptr b o))) σ0)) σ hp nx := fun f' => by
        show oget (get3 s σ) _ = _
        rw [hv] <;> rfl
      rw [e] at h
      obtain ⟨b, o, rfl⟩ := ptrK_inv h
      obtain ⟨σ2, h1, h2⟩ := ih hE (h0.ref (hE s _ hv)) (h : appJ M (bindJ M f (put3 s (some (.s (.ptr b o))) σ0)) σ hp nx ≠ .bad)
      exact ⟨σ2, h1, fun f' => (e f').trans (h2 f')⟩
theorem zKn_ok (hE : EvR σ fr) {s : Slot} {t : Tg} {k : Env → Ar} (h : zKn s t σ k ≠ .bad) : ∃ σ', EvR σ' fr ∧ ∀ k', zKn s t σ k' = k' σ' := by
  cases t with
  | v => exact ⟨σ, hE, fun _ => rfl⟩
  | i q =>
    obtain ⟨v, hv⟩ := oget_inv (o := get3 s σ) h
    have e : ∀ k', zKn s (.i q) σ k' = iK q v fun n => setE s (some (.s (.int q n))) σ k' := fun k' => by show oget (get3 s σ) _ = _; rw [hv] <;> rfl
    rw [e] at h
    obtain ⟨n, rfl⟩ := iK_inv h
    exact ⟨_, hE.ref (hE s _ hv), fun k' => (e k').trans ((iK_int _ _ _).trans setZ_eq)⟩
  | b =>
    obtain ⟨v, hv⟩ := oget_inv (o := get3 s σ) h
    have e : ∀ k', zKn s .b σ k' = booK v fun n => setE s (some (.s (.bool n))) σ k' := fun k' => by show oget (get3 s σ) _ = _; rw [hv] <;> rfl
    rw [e] at h
    obtain ⟨n, rfl⟩ := booK_inv h
    exact ⟨_, hE.ref (hE s _ hv), fun k' => (e k').trans setZ_eq⟩
  | p =>
    obtain ⟨v, hv⟩ := oget_inv (o := get3 s σ) h
    have e : ∀ k', zKn s .p σ k' = ptrK v fun b o => setE s (some (.s (.ptr b o))) σ k' := fun k' => by show oget (get3 s σ) _ = _; rw [hv] <;> rfl
    rw [e] at h
    obtain ⟨b, o, rfl⟩ := ptrK_inv h
    exact ⟨_, hE.ref (hE s _ hv), fun k' => (e k').trans setZ_eq⟩
theorem rKn_ok {s : Slot} {t : Tg} {r : RE} (hr : RE_OK r ih) : RE_OK (rKn s t r) ih := fun l σ fr la hp nx k hE h => by
  obtain ⟨σ', h1, h2⟩ := zKn_ok hE (k := fun σ => r l σ la hp nx k) h
  have h := h
  rw [show rKn s t r l σ la hp nx k = _ from h2 _] at h
  exact (hr _ _ _ _ _ _ _ h1 h).eq fun k => h2 _
theorem rKg_ok {g : Slot} {b : Bool} {s : Slot} {t : Tg} {r : RE} (hr : RE_OK r ih) : RE_OK (rKg g b s t r) ih := fun l σ fr la hp nx k hE h => by
  rcases guardZ_inv h with ⟨b', hg⟩ | hg
  · have e : ∀ k', rKg g b s t r l σ la hp nx k' = ifA (sameB b b') (rKn s t r l σ la hp nx k') (r l σ la hp nx k') := fun k' => guardZ_bool hg _ _
    rw [e] at h
    cases hs : sameB b b' with
    | true => rw [hs] at h; exact (rKn_ok hr _ _ _ _ _ _ _ hE h).eq fun k => by rw [e, hs] <;> rfl
    | false => rw [hs] at h; exact (hr _ _ _ _ _ _ _ hE h).eq fun k => by rw [e, hs] <;> rfl
  · have e : ∀ k', rKg g b s t r l σ la hp nx k' = r l σ la hp nx k' := fun k' => guardZ_un hg _ _
    rw [e] at h
    exact (hr _ _ _ _ _ _ _ hE h).eq e
theorem rBr_ok (hf : FeI fe ih) {g : Slot} {M : JL} {n : Nat} {pre r : RE} (hpre : RE_OK pre ih) (hr : RE_OK r ih) : RE_OK (rBr fe g M n pre r) ih := fun l σ fr la hp nx k hE h => by
  have fin : ∀ {z : RK → Ar} {fr' : Fr} {la' : AV} {hp' : Hp} {nx' : Pid}, (∀ l', runSteps ih (takeL n l ++ l') fr la hp nx = runSteps ih l' fr' la' hp' nx') → (∀ s, s ∉ dSteps (takeL n l) → get3 s fr' = get3 s fr) → RR z ih (dropL n l) fr' la' hp' nx' → RR z ih l fr la hp nx := fun h3 h4 g => by
    have := RR.then h3 h4 g
    rwa [takeL_eq, dropL_eq, List.take_append_drop] at this
  rcases guardZ_inv h with ⟨b, hg⟩ | hg
  · obtain ⟨σ0, d1, d2, d3⟩ := dropE_ok (dSteps (takeL n l)) σ
    have e : ∀ k', rBr fe g M n pre r l σ la hp nx k' = rPre fe n pre l (put3 g (some (.s (.bool b))) σ) la hp nx (fun _ σ la hp nx => appJ M (bindJ M (fun σ hp nx => r (dropL n l) σ la hp nx k') σ0) σ hp nx) := fun k' => by
      unfold rBr
      rw [guardZ_bool hg, d1]
      unfold jn
      cases b
      · exact setZ_eq
      · exact setZ_eq
    have h := h
    rw [e] at h
    obtain ⟨σ1, fr1, la1, hp1, nx1, h1, h2, h3, h4⟩ := rPre_ok hf hpre (hE.ref (hE g _ hg)) h
    rw [h2] at h
    obtain ⟨σ2, j1, j2⟩ := join_ok M h1 (hE.keep d2 d3 h4) h
    rw [j2] at h
    exact (fin h3 h4 (hr _ _ _ _ _ _ _ j1 h)).eq fun k' => (e k').trans ((h2 _).trans (j2 _))
  · have e : ∀ k', rBr fe g M n pre r l σ la hp nx k' = rPre fe n pre l σ la hp nx (fun l σ la hp nx => r l σ la hp nx k') := fun k' => guardZ_un hg _ _
    have h := h
    rw [e] at h
    obtain ⟨σ1, fr1, la1, hp1, nx1, h1, h2, h3, h4⟩ := rPre_ok hf hpre hE h
    rw [h2] at h
    exact (fin h3 h4 (hr _ _ _ _ _ _ _ h1 h)).eq fun k' => (e k').trans (h2 _)
theorem zOpG_ok (hE : EvR σ fr) {o : AOp} (h : zOpG o σ la hp nx k ≠ .bad) : OpR (zOpG o σ la hp nx) fr (runOp o ih fr la hp nx) := by
  cases o with
  | binI op x y => exact z2_ok hE h
  | _ => exact absurd rfl h
theorem zStG_ok (hE : EvR σ fr) {o : AOp} {d : Option Slot} (h : zStG o d σ la hp nx k ≠ .bad) : StR (zStG o d σ la hp nx) (stSt o d ih fr la hp nx) (dOpt d) fr := by
  obtain ⟨σ1, v, hp', nx', h1, h2, h3⟩ := zOpG_ok (ih := ih) hE (k := fun σ v hp nx => putE d v σ fun σ => k σ v hp nx) h
  obtain ⟨σ', fr', g1, g2, g3, g4⟩ := putE_ok h1 d v
  refine ⟨σ', fr', v, hp', nx', g3, fun k' => ?_, fun kk => ?_, g4⟩
  · show zOpG o σ la hp nx (fun σ v hp nx => putE d v σ fun σ => k' σ v hp nx) = _
    rw [h3, g1]
  · unfold stSt; rw [h2]; exact g2 _
theorem zGdG_ok (hE : EvR σ fr) {g : Slot} {b : Bool} {o : AOp} {d : Option Slot} (h : zGdG g b o d σ la hp nx k ≠ .bad) : StR (zGdG g b o d σ la hp nx) (stGd g b o d ih fr la hp nx) (dOpt d) fr := by
  rcases guardZ_inv h with ⟨b', hg⟩ | hg
  · have e : ∀ k', zGdG g b o d σ la hp nx k' = ifA (sameB b b') (zStG o d σ la hp nx k') (zSkip d σ la hp nx k') := fun k' => guardZ_bool hg _ _
    have h := h
    rw [e] at h
    have e2 : ∀ kk, stGd g b o d ih fr la hp nx kk = Bool.rec (skipD d fr hp nx kk) (stSt o d ih fr la hp nx kk) (sameB b b') := fun kk => by unfold stGd; rw [getFr_eq, hE g _ hg]; rfl
    cases hs : sameB b b' with
    | true =>
      rw [hs] at h
      obtain ⟨σ', fr', la', hp', nx', h1, h2, h3, h4⟩ := zStG_ok (ih := ih) hE h
      exact ⟨σ', fr', la', hp', nx', h1, fun k' => by rw [e, hs]; exact h2 k', fun kk => by rw [e2, hs]; exact h3 kk, h4⟩
    | false =>
      obtain ⟨σ', fr', la', hp', nx', h1, h2, h3, h4⟩ := zSkip_ok (la := la) (hp := hp) (nx := nx) hE d
      exact ⟨σ', fr', la', hp', nx', h1, fun k' => by rw [e, hs]; exact h2 k', fun kk => by rw [e2, hs]; exact h3 kk, h4⟩
  · obtain ⟨σ', fr', la', hp', nx', h1, h2, h3, h4⟩ := zSkip_ok (la := la) (hp := hp) (nx := nx) hE d
    exact ⟨σ', fr', la', hp', nx', h1, fun k' => (guardZ_un hg _ _).trans (h2 k'), fun kk => by unfold stGd; rw [getFr_eq, hE g _ hg]; exact h3 kk, h4⟩
theorem zStepG_ok (hE : EvR σ fr) {s : AStep} (h : zStepG s σ la hp nx k ≠ .bad) : StR (zStepG s σ la hp nx) (runStep s ih fr la hp nx) (dStep s) fr := by
  cases s with
  | st o d => exact zStG_ok hE h
  | gd g b o d => exact zGdG_ok hE h
  | chk o s => exact absurd rfl h
  | gchk g b o s => exact absurd rfl h
theorem rGn_ok {r : RE} (hr : RE_OK r ih) : RE_OK (rGn r) ih := fun l σ fr la hp nx k hE h => by
  cases l with
  | nil => exact absurd rfl h
  | cons s l =>
    have h' : zStepG s σ la hp nx (fun σ la hp nx => r l σ la hp nx k) ≠ .bad := h
    obtain ⟨σ1, fr1, la1, hp1, nx1, h1, h2, h3, h4⟩ := zStepG_ok (ih := ih) hE h'
    rw [h2] at h'
    have g := hr _ _ _ _ _ _ _ h1 h'
    have h3' : ∀ l', runSteps ih ([s] ++ l') fr la hp nx = runSteps ih l' fr1 la1 hp1 nx1 := fun l' => h3 _
    have h4' : ∀ t, t ∉ dSteps [s] → get3 t fr1 = get3 t fr := fun t ht => h4 t (by
      have ht : t ∉ catL (dStep s) [] := ht
      rwa [catL_eq, List.append_nil] at ht)
    exact (RR.then h3' h4' g).eq (z' := rGn r (s :: l) σ la hp nx) fun k => h2 _
theorem zR_ok (hf : FeI fe ih) (h : RH) : RE_OK (zR fe h) ih := by
  induction h with
  | nil => exact rNil_ok
  | go n r ih => exact rGo_ok hf n ih
  | br g M n pre r ih1 ih2 => exact rBr_ok hf ih1 ih2
  | kn s t r ih => exact rKn_ok ih
  | kg g b s t r ih => exact rKg_ok ih
  | gn r ih => exact rGn_ok ih
end
end Go.X
end

/-! What the second run gives is what the first one gives: code and functions. -/
noncomputable section
namespace Go.X

def runL (ih : CallF) (n : Nat) : ACode → CodeF := Nat.rec (motive := fun _ => ACode → CodeF) (fun _ _ _ _ => .bad) (fun _ rec => runC ih rec) n
def CodeR (z : CK → Ar) (run : Nat → Cr) (D : List Slot) (fr : Fr) : Prop :=
  ∃ e σ' fr' hp' nx', EvR σ' fr' ∧ (∀ K', z K' = K' e σ' hp' nx') ∧ (∃ n0, ∀ n, n0 ≤ n → run n = .ok e fr' hp' nx') ∧ ∀ s, s ∉ D → get3 s fr' = get3 s fr
def CE_OK (z : CE) (ih : CallF) (c : ACode) : Prop := ∀ (h : ZH) (σ : Env) (fr : Fr) (hp : Hp) (nx : Pid) (K : CK), EvR σ fr → z h σ hp nx K ≠ .bad → CodeR (z h σ hp nx) (fun n => runL ih (n + 1) c fr hp nx) (dCode c) fr

section
variable {fe : Nat → CallK} {ih : CallF}
theorem CodeR.at {z : CK → Ar} {run : Nat → Cr} {D : List Slot} {fr fr' : Fr} {e : Ex} {σ' : Env} {hp' : Hp} {nx' : Pid} (h1 : EvR σ' fr') (h2 : ∀ K', z K' = K' e σ' hp' nx') (h3 : ∀ n, run n = .ok e fr' hp' nx') (h4 : ∀ s, s ∉ D → get3 s fr' = get3 s fr) : CodeR z run D fr :=
  ⟨e, σ', fr', hp', nx', h1, h2, ⟨0, fun n _ => h3 n⟩, h4⟩
theorem zReg_ok (hf : FeI fe ih) (l : List AStep) : CE_OK (zReg fe l) ih (.reg l) := fun h σ fr hp nx K hE hz => by
  have h' : zR fe (hR h) l σ un0' hp nx (fun l σ la hp nx => zAll fe l σ la hp nx fun σ _ hp nx => K .norm σ hp nx) ≠ .bad := hz
  obtain ⟨l1, l2, σ1, fr1, la1, hp1, nx1, g0, g1, g2, g3, g4⟩ := zR_ok hf (hR h) _ _ _ _ _ _ _ hE h'
  rw [g2] at h'
  obtain ⟨σ2, fr2, la2, hp2, nx2, f1, f2, f3, f4⟩ := zAll_ok hf l2 g1 h'
  refine .at (e := .norm) f1 (fun K' => (g2 _).trans (f2 _)) (fun n => ?_) (fun s hs => ?_)
  · show runSteps ih l fr (.s .un) hp nx = _
    have := f3 []
    rw [List.append_nil] at this
    rw [g0]
    exact (g3 l2).trans this
  · have hs : s ∉ dSteps l := hs
    rw [g0, dSteps_app, List.mem_append, not_or] at hs
    rw [f4 s hs.2, g4 s hs.1]
theorem zSeq_ok {a b : CE} {ca cb : ACode} (ha : CE_OK a ih ca) (hb : CE_OK b ih cb) : CE_OK (zSeq a b) ih (.seq ca cb) := fun h σ fr hp nx K hE hz => by
  have h' : a (hA h) σ hp nx (exK K fun σ hp nx => b (hB h) σ hp nx K) ≠ .bad := hz
  obtain ⟨e, σ1, fr1, hp1, nx1, g1, g2, ⟨n0, g3⟩, g4⟩ := ha _ _ _ _ _ _ hE h'
  have sub : ∀ s, s ∉ dCode (.seq ca cb) → s ∉ dCode ca ∧ s ∉ dCode cb := fun s hs => by
    have hs : s ∉ catL (dCode ca) (dCode cb) := hs
    rwa [catL_eq, List.mem_append, not_or] at hs
  cases e with
  | norm =>
    rw [g2] at h'
    obtain ⟨e2, σ2, fr2, hp2, nx2, f1, f2, ⟨n1, f3⟩, f4⟩ := hb _ _ _ _ _ _ g1 (h' : b (hB h) σ1 hp1 nx1 K ≠ .bad)
    refine ⟨e2, σ2, fr2, hp2, nx2, f1, fun K' => (g2 _).trans (f2 K'), ⟨n0 + n1, fun n hn => ?_⟩, fun s hs => by rw [f4 s (sub s hs).2, g4 s (sub s hs).1]⟩
    show thenC (runL ih (n + 1) ca fr hp nx) (runL ih (n + 1) cb) = _
    have e1 : runL ih (n + 1) ca fr hp nx = _ := g3 n (by omega)
    rw [e1]
    exact f3 n (by omega)
  | exit id =>
    refine ⟨.exit id, σ1, fr1, hp1, nx1, g1, fun K' => g2 _, ⟨n0, fun n hn => ?_⟩, fun s hs => g4 s (sub s hs).1⟩
    show thenC (runL ih (n + 1) ca fr hp nx) (runL ih (n + 1) cb) = _
    have e1 : runL ih (n + 1) ca fr hp nx = _ := g3 n hn
    rw [e1] <;> rfl
  | ret =>
    refine ⟨.ret, σ1, fr1, hp1, nx1, g1, fun K' => g2 _, ⟨n0, fun n hn => ?_⟩, fun s hs => g4 s (sub s hs).1⟩
    show thenC (runL ih (n + 1) ca fr hp nx) (runL ih (n + 1) cb) = _
    have e1 : runL ih (n + 1) ca fr hp nx = _ := g3 n hn
    rw [e1] <;> rfl
/-- a piece, with a place where ways meet behind it. -/
theorem meet {z : CK → Ar} {run : Nat → Cr} {D : List Slot} {σ σ0 : Env} {fr : Fr} (hE : EvR σ fr) (h2 : ∀ s, s ∈ D → get3 s σ0 = none) (h3 : ∀ s v, get3 s σ0 = some v → get3 s σ = some v) {K : CK} (M : JL)
    (hz : z (exK K (appJ M (bindJ M (K .norm) σ0))) ≠ .bad) (h : z (exK K (appJ M (bindJ M (K .norm) σ0))) ≠ .bad → CodeR z run D fr) : CodeR (fun K => z (exK K (appJ M (bindJ M (K .norm) σ0)))) run D fr := by
  obtain ⟨e, σ1, fr1, hp1, nx1, g1, g2, g3, g4⟩ := h hz
  cases e with
  | norm =>
    rw [g2] at hz
    obtain ⟨σ2, j1, j2⟩ := join_ok M g1 (hE.keep h2 h3 g4) (f := K .norm) hz
    exact ⟨.norm, σ2, fr1, hp1, nx1, j1, fun K' => (g2 _).trans (j2 _), g3, g4⟩
  | exit id => exact ⟨.exit id, σ1, fr1, hp1, nx1, g1, fun K' => g2 _, g3, g4⟩
  | ret => exact ⟨.ret, σ1, fr1, hp1, nx1, g1, fun K' => g2 _, g3, g4⟩
theorem CodeR.mono {z : CK → Ar} {run : Nat → Cr} {D D' : List Slot} {fr : Fr} (h : CodeR z run D fr) (hd : ∀ s, s ∉ D' → s ∉ D) : CodeR z run D' fr := by
  obtain ⟨e, σ1, fr1, hp1, nx1, g1, g2, g3, g4⟩ := h
  exact ⟨e, σ1, fr1, hp1, nx1, g1, g2, g3, fun s hs => g4 s (hd s hs)⟩
theorem CodeR.eq {z z' : CK → Ar} {run run' : Nat → Cr} {D : List Slot} {fr : Fr} (h : CodeR z run D fr) (hz : ∀ K, z' K = z K) (hr : ∀ n, run' n = run n) : CodeR z' run' D fr := by
  obtain ⟨e, σ1, fr1, hp1, nx1, g1, g2, ⟨n0, g3⟩, g4⟩ := h
  exact ⟨e, σ1, fr1, hp1, nx1, g1, fun K => (hz K).trans (g2 K), ⟨n0, fun n hn => (hr n).trans (g3 n hn)⟩, g4⟩
theorem cutZ_inv {h : ZH} {r : Ar} (hz : cutZ h r ≠ .bad) : ∀ r', cutZ h r' = r' := by
  cases h with
  | x => exact absurd rfl hz
  | _ => exact fun _ => rfl
theorem zCond_ok {x : AOpd} {a b : CE} {ca cb : ACode} (ha : CE_OK a ih ca) (hb : CE_OK b ih cb) : CE_OK (zCond x ca cb a b) ih (.cond x ca cb) := fun h σ fr hp nx K hE hz => by
  obtain ⟨c, σ1, hx, h1, h2⟩ := unB_inv hE (k := fun σ c => Option.rec (motive := fun _ => Ar) (ifA c (cutZ (hA h) (a (hA h) σ hp nx K)) (cutZ (hB h) (b (hB h) σ hp nx K)))
    (fun M => dropE (catL (dCode ca) (dCode cb)) σ fun σ0 => jn (T := JT M) (fun J => ifA c (cutZ (hA h) (a (hA h) σ hp nx (exK K (appJ M J)))) (cutZ (hB h) (b (hB h) σ hp nx (exK K (appJ M J))))) (bindJ M (K .norm) σ0)) (hM h)) hz
  have run : ∀ n, runL ih (n + 1) (.cond x ca cb) fr hp nx = Bool.rec (runL ih (n + 1) cb fr hp nx) (runL ih (n + 1) ca fr hp nx) c := fun n => by
    show asBool (evO x fr (.s .un)) (fun c => Bool.rec (motive := fun _ => Cr) (runL ih (n + 1) cb fr hp nx) (runL ih (n + 1) ca fr hp nx) c) .bad = _
    rw [show evO x fr (.s .un) = _ from hx] <;> rfl
  have sub : ∀ s, s ∉ dCode (.cond x ca cb) → s ∉ dCode ca ∧ s ∉ dCode cb := fun s hs => by
    have hs : s ∉ catL (dCode ca) (dCode cb) := hs
    rwa [catL_eq, List.mem_append, not_or] at hs
  have hz := hz
  rw [show zCond x ca cb a b h σ hp nx K = _ from h2 _] at hz
  cases hm : hM h with
  | none =>
    rw [hm] at hz
    have e : ∀ K, zCond x ca cb a b h σ hp nx K = ifA c (cutZ (hA h) (a (hA h) σ1 hp nx K)) (cutZ (hB h) (b (hB h) σ1 hp nx K)) := fun K => (h2 _).trans (by rw [hm])
    cases c with
    | true =>
      have q := cutZ_inv (h := hA h) (r := a (hA h) σ1 hp nx K) hz
      have hz : a (hA h) σ1 hp nx K ≠ .bad := by rw [← q (a (hA h) σ1 hp nx K)]; exact hz
      exact ((ha _ _ _ _ _ _ h1 hz).eq (fun K => (e K).trans (q _)) run).mono fun s hs => (sub s hs).1
    | false =>
      have q := cutZ_inv (h := hB h) (r := b (hB h) σ1 hp nx K) hz
      have hz : b (hB h) σ1 hp nx K ≠ .bad := by rw [← q (b (hB h) σ1 hp nx K)]; exact hz
      exact ((hb _ _ _ _ _ _ h1 hz).eq (fun K => (e K).trans (q _)) run).mono fun s hs => (sub s hs).2
  | some M =>
    rw [hm] at hz
    obtain ⟨σ0, d1, d2, d3⟩ := dropE_ok (catL (dCode ca) (dCode cb)) σ1
    have hz : dropE (catL (dCode ca) (dCode cb)) σ1 (fun σ0 => jn (T := JT M) (fun J => ifA c (cutZ (hA h) (a (hA h) σ1 hp nx (exK K (appJ M J)))) (cutZ (hB h) (b (hB h) σ1 hp nx (exK K (appJ M J))))) (bindJ M (K .norm) σ0)) ≠ .bad := hz
    rw [d1] at hz
    have e : ∀ K, zCond x ca cb a b h σ hp nx K = ifA c (cutZ (hA h) (a (hA h) σ1 hp nx (exK K (appJ M (bindJ M (K .norm) σ0))))) (cutZ (hB h) (b (hB h) σ1 hp nx (exK K (appJ M (bindJ M (K .norm) σ0))))) := fun K =>
      (h2 _).trans (by rw [hm]; exact d1 _)
    cases c with
    | true =>
      have d2' : ∀ s, s ∈ dCode ca → get3 s σ0 = none := fun s hs => d2 s (by rw [catL_eq]; exact List.mem_append_left _ hs)
      have q := cutZ_inv (h := hA h) (r := a (hA h) σ1 hp nx (exK K (appJ M (bindJ M (K .norm) σ0)))) hz
      have hz : a (hA h) σ1 hp nx (exK K (appJ M (bindJ M (K .norm) σ0))) ≠ .bad := by rw [← q (a (hA h) σ1 hp nx (exK K (appJ M (bindJ M (K .norm) σ0))))]; exact hz
      exact ((meet (z := a (hA h) σ1 hp nx) h1 d2' d3 M hz fun hz => ha _ _ _ _ _ _ h1 hz).eq (fun K => (e K).trans (q _)) run).mono fun s hs => (sub s hs).1
    | false =>
      have d2' : ∀ s, s ∈ dCode cb → get3 s σ0 = none := fun s hs => d2 s (by rw [catL_eq]; exact List.mem_append_right _ hs)
      have q := cutZ_inv (h := hB h) (r := b (hB h) σ1 hp nx (exK K (appJ M (bindJ M (K .norm) σ0)))) hz
      have hz : b (hB h) σ1 hp nx (exK K (appJ M (bindJ M (K .norm) σ0))) ≠ .bad := by rw [← q (b (hB h) σ1 hp nx (exK K (appJ M (bindJ M (K .norm) σ0))))]; exact hz
      exact ((meet (z := b (hB h) σ1 hp nx) h1 d2' d3 M hz fun hz => hb _ _ _ _ _ _ h1 hz).eq (fun K => (e K).trans (q _)) run).mono fun s hs => (sub s hs).2
theorem zBlock_ok {id : Nat} {b : CE} {cb : ACode} (hb : CE_OK b ih cb) : CE_OK (zBlock id cb b) ih (.block id cb) := fun h σ fr hp nx K hE hz => by
  have run : ∀ n, runL ih (n + 1) (.block id cb) fr hp nx = blkC id (runL ih (n + 1) cb fr hp nx) := fun n => rfl
  -- what comes behind the block's own ends
  have core : ∀ (N : CK → EK) (σ0 : Env), (∀ s, s ∈ dCode cb → get3 s σ0 = none) → (∀ s v, get3 s σ0 = some v → get3 s σ = some v) →
      (∀ {σ1 : Env} {fr1 : Fr} {hp1 : Hp} {nx1 : Pid}, EvR σ1 fr1 → EvR σ0 fr1 → N K σ1 hp1 nx1 ≠ .bad → ∃ σ2, EvR σ2 fr1 ∧ ∀ K', N K' σ1 hp1 nx1 = K' .norm σ2 hp1 nx1) →
      b (hA h) σ hp nx (blK id K (N K)) ≠ .bad → (∀ K', zBlock id cb b h σ hp nx K' = b (hA h) σ hp nx (blK id K' (N K'))) → CodeR (zBlock id cb b h σ hp nx) (fun n => runL ih (n + 1) (.block id cb) fr hp nx) (dCode cb) fr := by
    intro N σ0 d2 d3 hN hz e
    obtain ⟨ex, σ1, fr1, hp1, nx1, g1, g2, ⟨n0, g3⟩, g4⟩ := hb _ _ _ _ _ _ hE hz
    rw [g2] at hz
    have h0 := hE.keep d2 d3 g4
    have r1 : ∀ n, n0 ≤ n → runL ih (n + 1) (.block id cb) fr hp nx = blkC id (.ok ex fr1 hp1 nx1) := fun n hn => by rw [run]; exact congrArg _ (g3 n hn)
    cases ex with
    | norm =>
      obtain ⟨σ2, j1, j2⟩ := hN g1 h0 (hz : N K σ1 hp1 nx1 ≠ .bad)
      exact ⟨.norm, σ2, fr1, hp1, nx1, j1, fun K' => (e K').trans ((g2 _).trans (j2 K')), ⟨n0, fun n hn => r1 n hn⟩, g4⟩
    | ret => exact ⟨.ret, σ1, fr1, hp1, nx1, g1, fun K' => (e K').trans (g2 _), ⟨n0, fun n hn => r1 n hn⟩, g4⟩
    | exit id' =>
      cases hi : Nat.beq id' id with
      | true =>
        have f : ∀ K', blK id K' (N K') (.exit id') σ1 hp1 nx1 = N K' σ1 hp1 nx1 := fun K' => by show ifA (Nat.beq id' id) _ _ = _; rw [hi] <;> rfl
        rw [f] at hz
        obtain ⟨σ2, j1, j2⟩ := hN g1 h0 hz
        exact ⟨.norm, σ2, fr1, hp1, nx1, j1, fun K' => (e K').trans ((g2 _).trans ((f K').trans (j2 K'))), ⟨n0, fun n hn => (r1 n hn).trans (by show Bool.rec (motive := fun _ => Cr) (.ok (.exit id') fr1 hp1 nx1) (.ok .norm fr1 hp1 nx1) (Nat.beq id' id) = _; rw [hi])⟩, g4⟩
      | false =>
        have f : ∀ K', blK id K' (N K') (.exit id') σ1 hp1 nx1 = K' (.exit id') σ1 hp1 nx1 := fun K' => by show ifA (Nat.beq id' id) _ _ = _; rw [hi] <;> rfl
        exact ⟨.exit id', σ1, fr1, hp1, nx1, g1, fun K' => (e K').trans ((g2 _).trans (f K')), ⟨n0, fun n hn => (r1 n hn).trans (by show Bool.rec (motive := fun _ => Cr) (.ok (.exit id') fr1 hp1 nx1) (.ok .norm fr1 hp1 nx1) (Nat.beq id' id) = _; rw [hi])⟩, g4⟩
  have e0 : ∀ K', zBlock id cb b h σ hp nx K' = Option.rec (motive := fun _ => Ar) (b (hA h) σ hp nx (blK id K' (K' .norm)))
    (fun M => dropE (dCode cb) σ fun σ0 => jn (T := JT M) (fun J => b (hA h) σ hp nx (blK id K' (appJ M J))) (bindJ M (K' .norm) σ0)) (hM h) := fun _ => rfl
  obtain ⟨σ0, d1, d2, d3⟩ := dropE_ok (dCode cb) σ
  cases hm : hM h with
  | none =>
    have e : ∀ K', zBlock id cb b h σ hp nx K' = b (hA h) σ hp nx (blK id K' (K' .norm)) := fun K' => (e0 K').trans (by rw [hm])
    rw [e] at hz
    exact core (fun K => K .norm) σ0 d2 d3 (fun {σ1 _ _ _} h1 _ _ => ⟨σ1, h1, fun _ => rfl⟩) hz e
  | some M =>
    have e : ∀ K', zBlock id cb b h σ hp nx K' = b (hA h) σ hp nx (blK id K' (appJ M (bindJ M (K' .norm) σ0))) := fun K' => (e0 K').trans (by rw [hm]; exact d1 _)
    rw [e] at hz
    exact core (fun K => appJ M (bindJ M (K .norm) σ0)) σ0 d2 d3 (fun {σ1 _ _ _} h1 h2 hz => (join_ok M h1 h2 hz).imp fun _ q => ⟨q.1, fun K' => q.2 _⟩) hz e
theorem appJ_bad (M : JL) : ∀ {σ : Env} {hp : Hp} {nx : Pid} (σ0 : Env), appJ M (bindJ M (fun _ _ _ => .bad) σ0) σ hp nx = .bad := by
  induction M with
  | nil => exact fun _ => rfl
  | cons p M ih =>
    intro σ hp nx σ0
    obtain ⟨s, t⟩ := p
    cases t with
    | v =>
      show oget (get3 s σ) _ = _
      cases get3 s σ with
      | none => rfl
      | some v => exact ih _
    | i q =>
      show oget (get3 s σ) _ = _
      cases get3 s σ with
      | none => rfl
      | some v =>
        show iK q v _ = _
        unfold iK
        cases v with
        | s x => cases x <;> first | rfl | (show ifB _ _ _ = _; cases kindEq q _ <;> first | rfl | exact ih _)
        | a l => rfl
        | t l => rfl
    | b =>
      show oget (get3 s σ) _ = _
      cases get3 s σ with
      | none => rfl
      | some v => cases v with
        | s x => cases x <;> first | rfl | exact ih _
        | a l => rfl
        | t l => rfl
    | p =>
      show oget (get3 s σ) _ = _
      cases get3 s σ with
      | none => rfl
      | some v => cases v with
        | s x => cases x <;> first | rfl | exact ih _
        | a l => rfl
        | t l => rfl
theorem loop_ok {b : CE} {cb : ACode} (hb : CE_OK b ih cb) (M : JL) (hB : ZH) {σ0 : Env} (K : CK) (d2 : ∀ s, s ∈ dCode cb → get3 s σ0 = none) : ∀ (f : Nat) {σ : Env} {fr : Fr} {hp : Hp} {nx : Pid}, EvR σ fr → EvR σ0 fr →
    appJ M (lpJ (badJ M) (fun self => bindJ M (fun σ hp nx => b hB σ hp nx (exK K (appJ M self))) σ0) f) σ hp nx ≠ .bad →
    CodeR (fun K => appJ M (lpJ (badJ M) (fun self => bindJ M (fun σ hp nx => b hB σ hp nx (exK K (appJ M self))) σ0) f) σ hp nx) (fun n => runL ih (n + 1) (.loop cb) fr hp nx) (dCode cb) fr := by
  intro f
  induction f with
  | zero => exact fun {σ fr hp nx} _ _ h => absurd (appJ_bad M emptyE) h
  | succ f ihf =>
    intro σ fr hp nx hE h0 hz
    have hz : appJ M (bindJ M (fun σ hp nx => b hB σ hp nx (exK K (appJ M (lpJ (badJ M) (fun self => bindJ M (fun σ hp nx => b hB σ hp nx (exK K (appJ M self))) σ0) f)))) σ0) σ hp nx ≠ .bad := hz
    obtain ⟨σ2, j1, j2⟩ := join_ok M hE h0 hz
    have e : ∀ K, appJ M (lpJ (badJ M) (fun self => bindJ M (fun σ hp nx => b hB σ hp nx (exK K (appJ M self))) σ0) (f + 1)) σ hp nx = b hB σ2 hp nx (exK K (appJ M (lpJ (badJ M) (fun self => bindJ M (fun σ hp nx => b hB σ hp nx (exK K (appJ M self))) σ0) f))) := fun K => j2 _
    rw [j2] at hz
    obtain ⟨ex, σ1, fr1, hp1, nx1, g1, g2, ⟨n0, g3⟩, g4⟩ := hb _ _ _ _ _ _ j1 hz
    rw [g2] at hz
    have run : ∀ n, runL ih (n + 1) (.loop cb) fr hp nx = thenC (runL ih (n + 1) cb fr hp nx) (runL ih n (.loop cb)) := fun n => rfl
    cases ex with
    | norm =>
      have hk : EvR σ0 fr1 := fun s v hv => by
        have hd : s ∉ dCode cb := fun hd => by rw [d2 s hd] at hv; cases hv
        rw [g4 s hd]; exact h0 s v hv
      obtain ⟨e2, σ3, fr3, hp3, nx3, f1, f2, ⟨n1, f3⟩, f4⟩ := ihf g1 hk hz
      refine ⟨e2, σ3, fr3, hp3, nx3, f1, fun K' => (e K').trans ((g2 _).trans (f2 K')), ⟨n0 + n1 + 1, fun n hn => ?_⟩, fun s hs => by rw [f4 s hs, g4 s hs]⟩
      show runL ih (n + 1) (.loop cb) fr hp nx = _
      rw [run, show runL ih (n + 1) cb fr hp nx = _ from g3 n (by omega)]
      obtain ⟨m, rfl⟩ : ∃ m, n = m + 1 := ⟨n - 1, by omega⟩
      exact f3 m (by omega)
    | exit id =>
      refine ⟨.exit id, σ1, fr1, hp1, nx1, g1, fun K' => (e K').trans (g2 _), ⟨n0, fun n hn => ?_⟩, g4⟩
      show runL ih (n + 1) (.loop cb) fr hp nx = _
      rw [run, show runL ih (n + 1) cb fr hp nx = _ from g3 n hn] <;> rfl
    | ret =>
      refine ⟨.ret, σ1, fr1, hp1, nx1, g1, fun K' => (e K').trans (g2 _), ⟨n0, fun n hn => ?_⟩, g4⟩
      show runL ih (n + 1) (.loop cb) fr hp nx = _
      rw [run, show runL ih (n + 1) cb fr hp nx = _ from g3 n hn] <;> rfl
theorem zLoop_ok {b : CE} {cb : ACode} (hb : CE_OK b ih cb) : CE_OK (zLoop cb b) ih (.loop cb) := fun h σ fr hp nx K hE hz => by
  obtain ⟨σ0, d1, d2, d3⟩ := dropE_ok (dCode cb) σ
  have e : ∀ K, zLoop cb b h σ hp nx K = appJ (hL h) (lpJ (badJ (hL h)) (fun self => bindJ (hL h) (fun σ hp nx => b (hA h) σ hp nx (exK K (appJ (hL h) self))) σ0) (nat_lit 100000)) σ hp nx := fun K => d1 _
  have hz := hz
  rw [e] at hz
  exact (loop_ok hb (hL h) (hA h) K d2 (nat_lit 100000) hE (fun s v hv => hE s v (d3 s v hv)) hz).eq e fun _ => rfl
theorem unnK_inv {t : AV} {r : Ar} (h : unnK t r ≠ .bad) : t = .s .un := by
  cases t with
  | s x => cases x <;> first | rfl | exact absurd rfl h
  | a l => exact absurd rfl h
  | t l => exact absurd rfl h
theorem arC_of {d : Option Slot} {fr fr' : Fr} {v : AV} {hp : Hp} {nx : Pid} (h : ∀ kk : Fr → Cr, putD d v fr kk = kk fr') : arC d fr (.ok v hp nx) = .ok .norm fr' hp nx := h fun fr => .ok .norm fr hp nx
theorem zCode_ok (hf : FeI fe ih) (c : ACode) : CE_OK (zCode fe c) ih c := by
  induction c with
  | skip => exact fun h σ fr hp nx K hE hz => .at (e := .norm) hE (fun _ => rfl) (fun _ => rfl) fun _ _ => rfl
  | reg l => exact zReg_ok hf l
  | seq a b ha hb => exact zSeq_ok ha hb
  | cond x a b ha hb => exact zCond_ok ha hb
  | block id b hb => exact zBlock_ok hb
  | loop b hb => exact zLoop_ok hb
  | exit id => exact fun h σ fr hp nx K hE hz => .at (e := .exit id) hE (fun _ => rfl) (fun _ => rfl) fun _ _ => rfl
  | ret => exact fun h σ fr hp nx K hE hz => .at (e := .ret) hE (fun _ => rfl) (fun _ => rfl) fun _ _ => rfl
  | bad => exact fun h σ fr hp nx K hE hz => absurd rfl hz
  | selr z x d =>
    intro h σ fr hp nx K hE hz
    have h' : xv x σ un0' (fun v => arK (opSelr z v hp nx) fun v hp nx => putE d v σ fun σ => K .norm σ hp nx) ≠ .bad := hz
    have hx := xv_inv hE h'
    rw [hx] at h'
    obtain ⟨v, hp', nx', hr⟩ := arK_inv h'
    obtain ⟨σ', fr', g1, g2, g3, g4⟩ := putE_ok hE d v
    refine .at (e := .norm) g3 (fun K' => (hx _).trans (by rw [hr]; exact g1 fun σ => K' .norm σ hp' nx')) (fun n => ?_) g4
    show arC d fr (opSelr z (evO x fr (.s .un)) hp nx) = _
    rw [show opSelr z (evO x fr (.s .un)) hp nx = _ from hr]
    exact arC_of g2
  | sels x y d =>
    intro h σ fr hp nx K hE hz
    have h' : xv x σ un0' (fun a => xv y σ un0' fun b => arK (opSels a b hp nx) fun v hp nx => putE d v σ fun σ => K .norm σ hp nx) ≠ .bad := hz
    have hx := xv_inv hE h'
    rw [hx] at h'
    have hy := xv_inv hE h'
    rw [hy] at h'
    obtain ⟨v, hp', nx', hr⟩ := arK_inv h'
    obtain ⟨σ', fr', g1, g2, g3, g4⟩ := putE_ok hE d v
    refine .at (e := .norm) g3 (fun K' => (hx _).trans ((hy _).trans (by rw [hr]; exact g1 fun σ => K' .norm σ hp' nx'))) (fun n => ?_) g4
    show arC d fr (opSels (evO x fr (.s .un)) (evO y fr (.s .un)) hp nx) = _
    rw [show opSels (evO x fr (.s .un)) (evO y fr (.s .un)) hp nx = _ from hr]
    exact arC_of g2
  | defr f x =>
    intro h σ fr hp nx K hE hz
    obtain ⟨t, ht⟩ := oget_inv (o := get3 topS σ) hz
    have e0 : ∀ K, zCode fe (.defr f x) h σ hp nx K = unnK t (unP x σ un0' fun σ b o => setE topS (some (.s (.fn f [(b, o)]))) σ fun σ => K .norm σ hp nx) := fun K => by
      show oget (get3 topS σ) _ = _
      rw [ht] <;> rfl
    rw [e0] at hz
    obtain rfl := unnK_inv hz
    obtain ⟨b, o, σ1, hx, h1, h2⟩ := unP_inv hE (k := fun σ b o => setE topS (some (.s (.fn f [(b, o)]))) σ fun σ => K .norm σ hp nx) hz
    refine .at (e := .norm) (h1.put topS (.s (.fn f [(b, o)]))) (fun K' => (e0 K').trans ((h2 _).trans setZ_eq)) (fun n => ?_) (fun s hs => ?_)
    · show defK f (evO x fr (.s .un)) fr hp nx (getFr topS fr) = _
      rw [getFr_eq, hE topS _ ht, show evO x fr (.s .un) = _ from hx]
      exact setFr_eq _ _ _ _
    · rw [get3_put3, if_neg]
      intro e; subst e; exact hs (List.mem_cons_self ..)

/-! ## Functions -/
theorem rz1_ok {r : ARes} {σ : Env} {fr : Fr} {hp : Hp} {nx : Pid} {k : VK} (hE : EvR σ fr) (h : rz1 r σ hp nx k ≠ .bad) : ∃ v hp' nx', resOne r fr hp nx = .ok v hp' nx' ∧ ∀ k', rz1 r σ hp nx k' = k' v hp' nx' := by
  cases r with
  | bad => exact absurd rfl h
  | tmp s =>
    obtain ⟨v, hv⟩ := oget_inv (o := get3 s σ) h
    refine ⟨v, hp, nx, ?_, fun k' => by show oget (get3 s σ) _ = _; rw [hv] <;> rfl⟩
    show opMov (getFr s fr) hp nx = _
    rw [getFr_eq, hE s v hv]; exact mov_ok v
  | ld1 s =>
    obtain ⟨v, hv⟩ := oget_inv (o := get3 s σ) h
    have e : ∀ k', rz1 (.ld1 s) σ hp nx k' = ptrK v fun b o => ldK b o hp fun v => k' v hp nx := fun k' => by show oget (get3 s σ) _ = _; rw [hv] <;> rfl
    rw [e] at h
    obtain ⟨b, o, rfl⟩ := ptrK_inv h
    obtain ⟨u, g1, g2⟩ := ldK_inv (b := b) (o := o) (hp := hp) (k := fun v => k v hp nx) h
    refine ⟨u, hp, nx, ?_, fun k' => (e k').trans (g2 fun v => k' v hp nx)⟩
    show opLd1 (getFr s fr) hp nx = _
    rw [getFr_eq, hE s _ hv]; exact g1 nx
  | ldn n s =>
    obtain ⟨v, hv⟩ := oget_inv (o := get3 s σ) h
    have e : ∀ k', rz1 (.ldn n s) σ hp nx k' = arK (opLdn n v hp nx) k' := fun k' => by show oget (get3 s σ) _ = _; rw [hv] <;> rfl
    rw [e] at h
    obtain ⟨u, hp', nx', hr⟩ := arK_inv h
    refine ⟨u, hp', nx', ?_, fun k' => (e k').trans (by rw [hr] <;> rfl)⟩
    show opLdn n (getFr s fr) hp nx = _
    rw [getFr_eq, hE s _ hv]; exact hr
theorem avV1_inv {v : AV} {k : V1 → Ar} (h : avZ v k ≠ .bad) : ∃ y, (∀ k' : V1 → Ar, avZ v k' = k' y) := by
  cases v with
  | s x => exact ⟨.s x, fun _ => rfl⟩
  | a l => exact ⟨.a l, fun _ => rfl⟩
  | t l => exact absurd rfl h
theorem rzL_ok {σ : Env} {fr : Fr} {hp : Hp} {nx : Pid} (hE : EvR σ fr) : ∀ (l : List ARes) {k : List V1 → Ar}, rzL l σ hp nx k ≠ .bad → ∃ vs, (∀ k', rzL l σ hp nx k' = k' vs) ∧ ∀ k', resL l fr hp nx k' = k' vs
  | [], _, _ => ⟨[], fun _ => rfl, fun _ => rfl⟩
  | r :: l, k, h => by
    have h' : rz1 r σ hp nx (fun v _ _ => avZ v fun y => rzL l σ hp nx fun l => k (y :: l)) ≠ .bad := h
    obtain ⟨v, hp', nx', h1, h2⟩ := rz1_ok hE h'
    rw [h2] at h'
    obtain ⟨y, hy⟩ := avV1_inv h'
    rw [hy] at h'
    obtain ⟨vs, g1, g2⟩ := rzL_ok hE l h'
    refine ⟨y :: vs, fun k' => (h2 fun v _ _ => avZ v fun y => rzL l σ hp nx fun l => k' (y :: l)).trans ((hy fun y => rzL l σ hp nx fun l => k' (y :: l)).trans (g1 fun l => k' (y :: l))), fun k' => ?_⟩
    show resV (resOne r fr hp nx) (fun v => resL l fr hp nx fun l => k' (v :: l)) .bad = _
    rw [h1]
    exact (hy fun v => resL l fr hp nx fun l => k' (v :: l)).trans (g2 fun l => k' (y :: l))
theorem rzK_ok {σ : Env} {fr : Fr} {hp : Hp} {nx : Pid} {k : VK} (hE : EvR σ fr) {l : List ARes} (h : rzK l σ hp nx k ≠ .bad) : ∃ v hp' nx', resK l fr hp nx = .ok v hp' nx' ∧ ∀ k', rzK l σ hp nx k' = k' v hp' nx' := by
  match l, h with
  | [], h => exact ⟨.t [], hp, nx, rfl, fun _ => rfl⟩
  | [r], h => exact rz1_ok hE h
  | r :: r2 :: l, h =>
    obtain ⟨vs, g1, g2⟩ := rzL_ok hE (r :: r2 :: l) (k := fun l => k (.t l) hp nx) h
    exact ⟨.t vs, hp, nx, g2 fun l => .ok (.t l) hp nx, fun k' => g1 fun l => k' (.t l) hp nx⟩
theorem zEnd_ok {res : List ARes} {σ : Env} {fr : Fr} {hp : Hp} {nx : Pid} {k : VK} (hE : EvR σ fr) (h : zEnd res k σ hp nx ≠ .bad) : ∃ v hp' nx', endK res fr hp nx (getFr topS fr) = .ok v hp' nx' ∧ ∀ k', zEnd res k' σ hp nx = k' v hp' nx' := by
  obtain ⟨t, ht⟩ := oget_inv (o := get3 topS σ) h
  have e : ∀ k', zEnd res k' σ hp nx = AV.rec (motive := fun _ => Ar) (fun t => fnZ t (fun _ c => zEndF res σ c hp nx k') (rzK res σ hp nx k')) (fun _ => .bad) (fun _ => .bad) t := fun k' => by
    show oget (get3 topS σ) _ = _
    rw [ht] <;> rfl
  rw [e] at h
  rw [getFr_eq, hE topS t ht]
  simp only [e]
  cases t with
  | a l => exact absurd rfl h
  | t l => exact absurd rfl h
  | s x =>
    cases x with
    | fn f c =>
      cases c with
      | nil => exact absurd rfl h
      | cons p c =>
        have h : arK (inUnlock (.s (.ptr p.1 p.2)) hp nx) (fun _ hp nx => rzK res σ hp nx k) ≠ .bad := h
        obtain ⟨v, hp', nx', hr⟩ := arK_inv h
        rw [hr] at h
        obtain ⟨u, hp2, nx2, g1, g2⟩ := rzK_ok hE (h : rzK res σ hp' nx' k ≠ .bad)
        refine ⟨u, hp2, nx2, ?_, fun k' => ?_⟩
        · show Ar.rec (motive := fun _ => Ar) .bad (fun _ hp nx => resK res fr hp nx) (inUnlock (.s (.ptr p.1 p.2)) hp nx) = _
          rw [hr]; exact g1
        · show arK (inUnlock (.s (.ptr p.1 p.2)) hp nx) (fun _ hp nx => rzK res σ hp nx k') = _
          rw [hr]; exact g2 _
    | _ => exact rzK_ok hE h
theorem argsE_ok : ∀ (l : List AV) (i : Nat) {σ : Env} {fr : Fr}, EvR σ fr → ∃ σ' fr', EvR σ' fr' ∧ (∀ k, argsE l i σ k = k σ') ∧ ∀ k, argsK l i fr k = k fr'
  | [], _, σ, fr, hE => ⟨σ, fr, hE, fun _ => rfl, fun _ => rfl⟩
  | x :: l, i, σ, fr, hE => by
    obtain ⟨σ', fr', h1, h2, h3⟩ := argsE_ok l (Nat.succ i) (hE.put (Slot.of i) x)
    refine ⟨σ', fr', h1, fun k => ?_, fun k => ?_⟩
    · show setE (Slot.of i) (some x) σ (fun σ => argsE l (Nat.succ i) σ k) = _
      unfold setE; rw [setZ_eq]; exact h2 k
    · show forceAV x (fun x => set3 (Slot.of i) x fr (fun fr => argsK l (Nat.succ i) fr k)) = _
      have : ∀ g : AV → Ar, forceAV x g = g x := fun g => by cases x <;> rfl
      rw [this, set3_eq]; exact h3 k
theorem start_ok : EvR startE emptyFr := by
  intro s v hv
  unfold startE at hv
  rw [get3_put3] at hv
  have e0 : ∀ {α : Type} (x : α), get3 s (oct8 (oct8 (oct8 x))) = x := fun x => by
    obtain ⟨a, b, c⟩ := s
    cases a <;> cases b <;> cases c <;> rfl
  split at hv
  · injection hv with hv; subst hv; exact e0 _
  · have : get3 s emptyE = none := e0 _
    rw [this] at hv; cases hv
/-- a function's end. -/
theorem zEnter_ok (hf : FeI fe ih) {h : ZH} {args : List AV} {hp : Hp} {nx : Pid} {k : VK} {np : Nat} {code : ACode} {res : List ARes} (hz : zEnter fe h args hp nx k np code res ≠ .bad) :
    ∃ n v hp' nx', enterF (runL ih n) args hp nx np code res = .ok v hp' nx' ∧ ∀ k', zEnter fe h args hp nx k' np code res = k' v hp' nx' := by
  have hb := ifA_inv (c := Nat.beq (lenK args) np) hz
  have e : ∀ k', zEnter fe h args hp nx k' np code res = argsE args (nat_lit 0) startE fun σ => zCode fe code h σ hp nx (leaveZ res k') := fun k' => by
    show ifA (Nat.beq (lenK args) np) _ _ = _
    rw [hb] <;> rfl
  obtain ⟨σ, fr, h1, h2, h3⟩ := argsE_ok args (nat_lit 0) start_ok
  rw [e, h2] at hz
  obtain ⟨ex, σ1, fr1, hp1, nx1, g1, g2, ⟨n0, g3⟩, g4⟩ := zCode_ok hf code _ _ _ _ _ _ h1 hz
  rw [g2] at hz
  have en : enterF (runL ih (n0 + 1)) args hp nx np code res = leaveE res ex fr1 hp1 nx1 := by
    show ifB (Nat.beq (lenK args) np) (argsK args (nat_lit 0) emptyFr (fun fr => leaveC res (runL ih (n0 + 1) code fr hp nx))) .bad = _
    rw [hb]
    show argsK args (nat_lit 0) emptyFr _ = _
    rw [h3, show runL ih (n0 + 1) code fr hp nx = _ from g3 n0 (Nat.le_refl _)] <;> rfl
  have ez : ∀ k', zEnter fe h args hp nx k' np code res = leaveZ res k' ex σ1 hp1 nx1 := fun k' => by rw [e, h2, g2]
  cases ex with
  | norm =>
    obtain ⟨v, hp', nx', f1, f2⟩ := zEnd_ok g1 hz
    exact ⟨n0 + 1, v, hp', nx', en.trans f1, fun k' => (ez k').trans (f2 k')⟩
  | ret =>
    obtain ⟨v, hp', nx', f1, f2⟩ := zEnd_ok g1 hz
    exact ⟨n0 + 1, v, hp', nx', en.trans f1, fun k' => (ez k').trans (f2 k')⟩
  | exit id => exact absurd rfl hz
end
end Go.X
end

/-! The soundness of code, with calls that are known at once; functions, by their ends. -/
noncomputable section
namespace Go.X
section
variable {P : Program} {C : Ctx} {K : Known} {base : Nat} {D n : Nat} {call : CallF} {self : ACode → CodeF}
theorem sel_okL {cl : CallF} {k : Nat} {T : DT} (hih : CallOK P C (cl)) (hK : KnownOK P C K) (hn : n ≤ 511) {id : Nat} {ops : Array Oper} {c : ACode} (hc : cSel P K D n ops = some c) {fr fr' : Fr} {hp hp' : Hp} {nx nx' : Pid} {e : Ex}
    (h : runL cl (k + 1) c fr hp nx = .ok e fr' hp' nx') {m : Mp} {a : Act} {w : World} (hD : DTR K m T) (hF : FR C D n T m fr a) (hs : SR P C base m hp nx w) {Q : Exit → Act → World → Prop}
    (hQ : ∀ T' m' a' w', DTR K m' T' → FR C D n T' m' fr' a' → Good P C base m hp nx w m' hp' nx' w' → Q (exOf e) a' w') : (Code.region id ops false).wp P Q a w := by
  unfold cSel at hc
  split at hc
  · rename_i o l hops
    split at hc
    · rename_i cs hop hg
      split at hc
      · rename_i s hcs
        split at hc
        · rename_i i hi
          split at hc
          · rename_i z hz
            split at hc
            · rename_i hcond
              simp only [Bool.and_eq_true] at hcond
              have hfit : ∀ o ∈ ops.toList, fitO n o = true := List.all_eq_true.1 hcond.1
              have h0 : ops[0]? = some o := by
                have := congrArg (·[0]?) hops
                simpa using this
              have hsz : ops.size - 1 = l.length := by
                have := congrArg List.length hops
                simp only [Array.length_toList, List.length_cons] at this
                omega
              have hop : o.op = .select #[s] false := by rw [hop, arr_one hcs]
              have hfo := hfit o (by rw [hops]; simp)
              have rest : ∀ {v : AV} {hp1 : Hp} {nx1 : Pid} {u : Value} {w1 : World}, runL cl (k + 1) (.reg (cLine P K D ops [] none l)) (putF (dstOf D o) v fr) hp1 nx1 = .ok e fr' hp' nx' → AVR C m v u → Good P C base m hp nx w m hp1 nx1 w1 →
                  (∀ (b : Frame) (t : List Item) (cs : List Frame) (rest : List Nat), step P (lone (b.at a (.inRegion ops (0 :: rest) :: t)) cs w) = .next (lone (b.at (a.put o.dst u) (.inRegion ops rest :: t)) cs w1)) →
                  (Code.region id ops false).wp P Q a w := fun {v hp1 nx1 u w1} hr hv hG hstep => by
                refine wp_region_first h0 hstep ?_
                have hr : runSteps (cl) (cLine P K D ops [] none l) (putF (dstOf D o) v fr) un0 hp1 nx1 = .ok e fr' hp' nx' := hr
                have hF1 : FR C D n T m (putF (dstOf D o) v fr) (a.put o.dst u) := hF.put hn (fitO_dst hfo) rfl hv
                have := line_ok (base := base) (r2 := []) (Q := Q) hih hK hn hfit l 1 [] none _ un0 hp1 nx1 m _ w1 ⟨[], by rw [hops]; simp⟩ ⟨hF1, fun p hp => (by cases hp), fun t ht => (by cases ht)⟩ hG.sr hr
                  (fun m' a' w' he hF' hG' => by subst he; exact hQ T m' a' w' ((hD.ext hG'.ext)) hF' (hG.trans hG'))
                rw [hsz]; simpa using this
              have hch := plain_op hF (x := s.chan) (fitO_op hfo _ (by rw [hop]; simp [Op.operands]))
              split at hc
              · rename_i hsend
                injection hc with hc; subst hc
                have h : thenC (arC (dstOf D o) fr (opSelr (val1 z) (evO (plainO s.chan) fr un0) hp nx)) (runL cl (k + 1) (.reg (cLine P K D ops [] none l))) = .ok e fr' hp' nx' := h
                obtain ⟨e1, fr1, hp1, nx1, h1, h2⟩ := thenC_ok h
                obtain ⟨v, h3, rfl, rfl⟩ := arC_ok h1
                rcases h2 with ⟨_, h2⟩ | ⟨hne, _⟩
                · obtain ⟨u, w1, hst, hv, hG⟩ := selr_step h3 hs h0 hg hop hsend hi hz (val1_ok hcond.2) hch
                  exact rest h2 hv hG hst
                · exact absurd rfl hne
              · rename_i sx hsend
                injection hc with hc; subst hc
                have h : thenC (arC (dstOf D o) fr (opSels (evO (plainO s.chan) fr un0) (evO (plainO sx) fr un0) hp nx)) (runL cl (k + 1) (.reg (cLine P K D ops [] none l))) = .ok e fr' hp' nx' := h
                obtain ⟨e1, fr1, hp1, nx1, h1, h2⟩ := thenC_ok h
                obtain ⟨v, h3, rfl, rfl⟩ := arC_ok h1
                rcases h2 with ⟨_, h2⟩ | ⟨hne, _⟩
                · have hy := plain_op hF (x := sx) (fitO_op hfo _ (by rw [hop]; simp [Op.operands, hsend]))
                  obtain ⟨u, w1, hst, hv, hG⟩ := sels_step h3 hs h0 hg hop hsend hi hz hch hy
                  exact rest h2 hv hG hst
                · exact absurd rfl hne
            · cases hc
          · cases hc
        · cases hc
      · cases hc
    · cases hc
  · cases hc

theorem def_okL {cl : CallF} {k : Nat} {T : DT} (hih : CallOK P C (cl)) (hK : KnownOK P C K) (hn : n ≤ 511) {id : Nat} {ops : Array Oper} {c : ACode} (hc : cDef P K D n ops = some c) {fr fr' : Fr} {hp hp' : Hp} {nx nx' : Pid} {e : Ex}
    (h : runL cl (k + 1) c fr hp nx = .ok e fr' hp' nx') {m : Mp} {a : Act} {w : World} (hD : DTR K m T) (hF : FR C D n T m fr a) (hs : SR P C base m hp nx w) {Q : Exit → Act → World → Prop}
    (hQ : ∀ T' m' a' w', DTR K m' T' → FR C D n T' m' fr' a' → Good P C base m hp nx w m' hp' nx' w' → Q (exOf e) a' w') : (Code.region id ops false).wp P Q a w := by
  unfold cDef at hc
  split at hc
  · rename_i o hlast
    split at hc
    · rename_i f args ats hop hg hd
      split at hc
      · rename_i x hargs hKf
        split at hc
        · rename_i hfit
          injection hc with hc; subst hc
          have hfit : ∀ o ∈ ops.toList, fitO n o = true := List.all_eq_true.1 hfit
          have hsplit : ops.toList = ops.toList.dropLast ++ [o] := by
            have hne : ops.toList ≠ [] := fun q => by rw [q] at hlast; cases hlast
            have h1 := List.dropLast_concat_getLast hne
            have h2 : ops.toList.getLast hne = o := by
              have := List.getLast?_eq_some_getLast hne
              rw [hlast] at this
              injection this with this
              exact this.symm
            rw [h2] at h1; exact h1.symm
          have hlen : ops.size = ops.toList.dropLast.length + 1 := by
            have := congrArg List.length hsplit
            simpa using this
          have ho : ops[ops.toList.dropLast.length]? = some o := by
            have : ops.toList[ops.toList.dropLast.length]? = some o := by
              rw [hsplit, List.getElem?_append_right (by simp)]
              simp
            simpa using this
          have hfo := hfit o (by rw [hsplit]; simp)
          have h : thenC (runSteps (cl) (cLine P K D ops [] none ops.toList.dropLast) fr un0 hp nx) (runL cl (k + 1) (.defr f (plainO x))) = .ok e fr' hp' nx' := h
          obtain ⟨e1, fr1, hp1, nx1, h1, h2⟩ := thenC_ok h
          refine wp_region ?_
          have hr : List.range ops.size = List.range' 0 ops.toList.dropLast.length ++ [ops.toList.dropLast.length] := by
            rw [List.range_eq_range', hlen, List.range'_concat]; simp
          rw [hr]
          refine line_ok (base := base) hih hK hn hfit _ 0 [] none fr un0 hp nx m a w ⟨[o], by simpa using hsplit⟩ ⟨hF, fun p hp => (by cases hp), fun t ht => (by cases ht)⟩ hs h1 fun m1 a1 w1 he hF1 hG1 => ?_
          subst he
          rcases h2 with ⟨_, h2⟩ | ⟨hne, _⟩
          · have h2 : defK f (evO (plainO x) fr1 un0) fr1 hp1 nx1 (getFr topS fr1) = .ok e fr' hp' nx' := h2
            obtain ⟨htop, b, off, hx, rfl, rfl, rfl, rfl⟩ := defK_ok h2
            rw [getFr_eq] at htop
            have hv := plain_op hF1 (x := x) (fitO_op hfo x (by rw [hop]; simp only [Op.operands, Call.operands]; exact Array.mem_append.2 (.inr (by rw [arr_one hargs]; simp))))
            rw [hx] at hv
            refine wpOps_some ho (wanted_none hg) ?_
            unfold Oper.wp execOp
            rw [hop]
            have hres : (resolve a1.eval ⟨.value (.func f), args, ats⟩ o.type).run P w1 = .ok { target := .fn (.func f) #[], args := #[a1.eval x] } w1 := by
              rw [arr_one hargs]
              simp [resolve, Deferred.ofValue, Act.eval]
            simp only [Sem.run_bind, hres, Result.andThen_ok, Sem.run_pure]
            show wpOps P ops Q [] ({ a1 with defers := { target := .fn (.func f) #[], args := #[a1.eval x] } :: a1.defers }.put o.dst undef) w1
            rw [hd]
            have hds : T.ds = [] := by
              rcases hD with ⟨_, h⟩ | ⟨f', b', o', u', _, h, _⟩
              · exact h
              · have := hF1.top; rw [htop] at this; rw [← this] at h; cases h
            refine hQ ⟨[{ target := .fn (.func f) #[], args := #[a1.eval x] }], .s (.fn f [(b, off)])⟩ m1 _ w1 (.inr ⟨f, b, off, a1.eval x, hKf, rfl, hv, rfl⟩) ⟨fun t ht => ?_, fun t ht hb => ?_, hF1.size, ?_, ?_⟩ hG1
            · rw [top_of, get3_put3, if_neg (fun q => by have := Slot.of_inj (by omega) (by omega) q; omega)]
              exact hF1.rel t ht
            · rw [top_of, get3_put3, if_neg (fun q => by have := Slot.of_inj (by omega) (by omega) q; omega)]
              exact hF1.drop t ht hb
            · show _ :: a1.defers = _
              rw [hF1.defers, hds]
            · rw [get3_put3, if_pos rfl]
          · exact absurd rfl hne
        · cases hc
      · cases hc
    · cases hc
  · cases hc

/-- code, without its loops' later rounds: those go by the number of rounds that are left. -/
theorem code_okL (hn : n ≤ 511) (hmd : P.follows .mixedOrders = true) (hK : KnownOK P C K) {cl : CallF} (N : Nat) (hcall : CallOK P C cl) :
    ∀ (c : Code) (k : Nat), k ≤ N → CodeOK P C K base D n (runL cl k (cCode P K D n c)) c := by
  intro c
  -- no rounds at all
  have zero : ∀ (c : Code), CodeOK P C K base D n (runL cl 0 (cCode P K D n c)) c := fun c fr hp nx e fr' hp' nx' h => by cases (show (Cr.bad : Cr) = _ from h)
  induction c with
  | skip =>
    intro k hk
    cases k with
    | zero => exact zero _
    | succ k =>
      intro fr hp nx e fr' hp' nx' h T m a w hD hF hs Q hQ
      have h : Cr.ok .norm fr hp nx = .ok e fr' hp' nx' := h
      injection h with h1 h2 h3 h4
      subst h1; subst h2; subst h3; subst h4
      exact wp_skip (hQ T m a w hD hF (.refl hs))
  | label l =>
    intro k hk
    cases k with
    | zero => exact zero _
    | succ k =>
      intro fr hp nx e fr' hp' nx' h T m a w hD hF hs Q hQ
      have h : Cr.ok .norm fr hp nx = .ok e fr' hp' nx' := h
      injection h with h1 h2 h3 h4
      subst h1; subst h2; subst h3; subst h4
      exact wp_label (hQ T m a w hD hF (.refl hs))
  | region id ops draw =>
    intro k hk
    cases k with
    | zero => exact zero _
    | succ k =>
      intro fr hp nx e fr' hp' nx' h T m a w hD hF hs Q hQ
      have plain : runL cl (k + 1) (.reg (cRegion P K D n ops draw)) fr hp nx = .ok e fr' hp' nx' → (Code.region id ops draw).wp P Q a w := fun h => by
        have h : runSteps (cl) (cRegion P K D n ops draw) fr un0 hp nx = .ok e fr' hp' nx' := h
        exact region_ok hcall hK hn hmd hF hs h fun m' a' w' he hF' hG => by subst he; exact hQ T m' a' w' (hD.ext hG.ext) hF' hG
      have hc : cCode P K D n (.region id ops draw) = cReg0 P K D n ops draw := rfl
      rw [hc] at h
      unfold cReg0 at h
      split at h
      · rename_i c hsel
        exact sel_okL hcall hK hn hsel h hD hF hs hQ
      · rename_i c _ hdef
        exact def_okL hcall hK hn hdef h hD hF hs hQ
      · exact plain h
  | seq x y ihx ihy =>
    intro k hk
    cases k with
    | zero => exact zero _
    | succ k =>
      intro fr hp nx e fr' hp' nx' h T m a w hD hF hs Q hQ
      have h : thenC (runL cl (k + 1) (cCode P K D n x) fr hp nx) (runL cl (k + 1) (cCode P K D n y)) = .ok e fr' hp' nx' := h
      obtain ⟨e1, fr1, hp1, nx1, h1, h2⟩ := thenC_ok h
      refine wp_seq (ihx (k + 1) hk _ _ _ _ _ _ _ h1 T m a w hD hF hs _ fun T1 m1 a1 w1 hD1 hF1 hG1 => ?_)
      rcases h2 with ⟨rfl, h2⟩ | ⟨hne, rfl, rfl, rfl, rfl⟩
      · exact ihy (k + 1) hk _ _ _ _ _ _ _ h2 T1 m1 a1 w1 hD1 hF1 hG1.sr Q fun T2 m2 a2 w2 hD2 hF2 hG2 => hQ T2 m2 a2 w2 hD2 hF2 (hG1.trans hG2)
      · exact then_of hne (hQ T1 m1 a1 w1 hD1 hF1 hG1)
  | cond x t f iht ihf =>
    intro k hk
    cases k with
    | zero => exact zero _
    | succ k =>
      intro fr hp nx e fr' hp' nx' h T m a w hD hF hs Q hQ
      have hc : cCode P K D n (.cond x t f) = if fitX n x then .cond (plainO x) (cCode P K D n t) (cCode P K D n f) else .bad := rfl
      rw [hc] at h
      split at h
      · rename_i hx
        have h : asBool (β := Cr) (evO (plainO x) fr un0) (fun c => Bool.rec (motive := fun _ => Cr) (runL cl (k + 1) (cCode P K D n f) fr hp nx) (runL cl (k + 1) (cCode P K D n t) fr hp nx) c) .bad = .ok e fr' hp' nx' := h
        have hv : AVR C m (evO (plainO x) fr un0) (a.eval x) := by
          cases x with
          | tmp t' =>
            show AVR C m (getFr (Slot.of t') fr) _
            rw [getFr_eq]; exact hF.rel t' (by simpa [fitX] using hx)
          | const v => exact valA_ok v
          | global g => trivial
          | func f => exact ⟨[], rfl, trivial⟩
        have hb : ∃ b, evO (plainO x) fr un0 = .s (.bool b) ∧ (Bool.rec (runL cl (k + 1) (cCode P K D n f) fr hp nx) (runL cl (k + 1) (cCode P K D n t) fr hp nx) b : Cr) = .ok e fr' hp' nx' := by
          revert h
          generalize evO (plainO x) fr un0 = v
          intro h
          cases v with
          | s y => cases y <;> first | exact ⟨_, rfl, h⟩ | cases h
          | a l => cases h
          | t l => cases h
        obtain ⟨b, hb, h⟩ := hb
        rw [hb] at hv
        have hv : a.eval x = .bool b := hv
        cases b with
        | true => exact wp_cond_true hv (iht (k + 1) hk _ _ _ _ _ _ _ h T m a w hD hF hs Q hQ)
        | false => exact wp_cond_false hv (ihf (k + 1) hk _ _ _ _ _ _ _ h T m a w hD hF hs Q hQ)
      · cases (show (Cr.bad : Cr) = _ from h)
  | block id b ih =>
    intro k hk
    cases k with
    | zero => exact zero _
    | succ k =>
      intro fr hp nx e fr' hp' nx' h T m a w hD hF hs Q hQ
      have h : blkC id (runL cl (k + 1) (cCode P K D n b) fr hp nx) = .ok e fr' hp' nx' := h
      cases hr : runL cl (k + 1) (cCode P K D n b) fr hp nx with
      | bad => rw [hr] at h; cases h
      | ok e1 fr1 hp1 nx1 =>
        rw [hr] at h
        have h : blkE id e1 fr1 hp1 nx1 = .ok e fr' hp' nx' := h
        refine wp_block (ih (k + 1) hk _ _ _ _ _ _ _ hr T m a w hD hF hs _ fun T1 m1 a1 w1 hD1 hF1 hG1 => ?_)
        cases e1 with
        | norm =>
          have h : Cr.ok .norm fr1 hp1 nx1 = .ok e fr' hp' nx' := h
          injection h with h1 h2 h3 h4
          subst h1; subst h2; subst h3; subst h4
          exact hQ T1 m1 a1 w1 hD1 hF1 hG1
        | ret =>
          have h : Cr.ok .ret fr1 hp1 nx1 = .ok e fr' hp' nx' := h
          injection h with h1 h2 h3 h4
          subst h1; subst h2; subst h3; subst h4
          exact hQ T1 m1 a1 w1 hD1 hF1 hG1
        | exit id' =>
          have h : (Bool.rec (.ok (.exit id') fr1 hp1 nx1) (.ok .norm fr1 hp1 nx1) (Nat.beq id' id) : Cr) = .ok e fr' hp' nx' := h
          show (if id' = id then Q .normal a1 w1 else Q (.exit id') a1 w1)
          cases hb : Nat.beq id' id with
          | true =>
            rw [hb] at h
            injection h with h1 h2 h3 h4
            subst h1; subst h2; subst h3; subst h4
            rw [if_pos (beq_eq hb)]; exact hQ T1 m1 a1 w1 hD1 hF1 hG1
          | false =>
            rw [hb] at h
            injection h with h1 h2 h3 h4
            subst h1; subst h2; subst h3; subst h4
            rw [if_neg (fun q => by subst q; rw [show Nat.beq id' id' = true from Nat.beq_refl id'] at hb; cases hb)]; exact hQ T1 m1 a1 w1 hD1 hF1 hG1
  | loop b ih =>
    intro k hk fr hp nx e fr' hp' nx' h T m a w hD hF hs Q hQ
    refine wp_loop_by (fun j a1 w1 => j ≤ N ∧ ∃ fr1 hp1 nx1 T1 m1, runL cl j (.loop (cCode P K D n b)) fr1 hp1 nx1 = .ok e fr' hp' nx' ∧ DTR K m1 T1 ∧ FR C D n T1 m1 fr1 a1 ∧ Good P C base m hp nx w m1 hp1 nx1 w1) ?_ (k := k) ⟨hk, fr, hp, nx, T, m, h, hD, hF, .refl hs⟩
    intro j a1 w1 ⟨hj, fr1, hp1, nx1, T1, m1, h1, hD1, hF1, hG1⟩
    cases j with
    | zero => cases (show (Cr.bad : Cr) = _ from h1)
    | succ j =>
      have h1 : thenC (runL cl (j + 1) (cCode P K D n b) fr1 hp1 nx1) (runL cl j (.loop (cCode P K D n b))) = .ok e fr' hp' nx' := h1
      obtain ⟨e2, fr2, hp2, nx2, h2, h3⟩ := thenC_ok h1
      refine ih (j + 1) hj _ _ _ _ _ _ _ h2 T1 m1 a1 w1 hD1 hF1 hG1.sr _ fun T2 m2 a2 w2 hD2 hF2 hG2 => ?_
      rcases h3 with ⟨rfl, h3⟩ | ⟨hne, rfl, rfl, rfl, rfl⟩
      · exact ⟨j, by omega, by omega, fr2, hp2, nx2, T2, m2, h3, hD2, hF2, hG1.trans hG2⟩
      · exact then_of hne (hQ T2 m2 a2 w2 hD2 hF2 (hG1.trans hG2))
  | exit id =>
    intro k hk
    cases k with
    | zero => exact zero _
    | succ k =>
      intro fr hp nx e fr' hp' nx' h T m a w hD hF hs Q hQ
      have h : Cr.ok (.exit id) fr hp nx = .ok e fr' hp' nx' := h
      injection h with h1 h2 h3 h4
      subst h1; subst h2; subst h3; subst h4
      exact wp_exit (hQ T m a w hD hF (.refl hs))
  | ret =>
    intro k hk
    cases k with
    | zero => exact zero _
    | succ k =>
      intro fr hp nx e fr' hp' nx' h T m a w hD hF hs Q hQ
      have h : Cr.ok .ret fr hp nx = .ok e fr' hp' nx' := h
      injection h with h1 h2 h3 h4
      subst h1; subst h2; subst h3; subst h4
      exact wp_ret (hQ T m a w hD hF (.refl hs))
  | rangeFunc _ _ _ _ _ _ => intro k hk; cases k with | zero => exact zero _ | succ k => exact code_bad
  | scope _ _ => intro k hk; cases k with | zero => exact zero _ | succ k => exact code_bad
  | goto l => intro k hk; cases k with | zero => exact zero _ | succ k => exact code_bad
  | refuse s => intro k hk; cases k with | zero => exact zero _ | succ k => exact code_bad
theorem fun_okL {cl : CallF} {k : Nat} {fn : Func} {f : Nat} (hf : P.funcs[f]? = some fn) {args : List AV} {hp hp' : Hp} {nx nx' : Pid} {v : AV} (hmd : P.follows .mixedOrders = true) (hK : KnownOK P C K) (hDf : DeferOK P C K)
    (hcall : CallOK P C cl) (h : AFun.rec (motive := fun _ => Ar) .bad (enterF (runL cl k) args hp nx) (cFun P K D fn) = .ok v hp' nx') : Enters P f ∧
    ∀ base m w us, SR P C base m hp nx w → ArgsR C m args us → Calls P f us.toArray w (Ends P C base m hp nx w hp' nx' v) := by
  unfold cFun at h
  cases hb : fn.body with
  | none => rw [hb] at h; cases (show (Ar.bad : Ar) = _ from h)
  | some c =>
    rw [hb] at h
    simp only at h
    split at h
    · rename_i hc
      simp only [Bool.and_eq_true, bne_iff_ne, ne_eq] at hc
      obtain ⟨⟨⟨hn, hnp⟩, hd⟩, hname⟩ := hc
      have hn : fn.ntmps ≤ 511 := ble_le hn
      have hnp := ble_le hnp
      have h : ifB (Nat.beq (lenK args) (fn.params.size + fn.nfree)) (argsK args (nat_lit 0) emptyFr (fun fr => leaveC (fn.results.toList.map (cRes P fn.ntmps)) (runL cl k (cCode P K D fn.ntmps c) fr hp nx))) .bad = .ok v hp' nx' := h
      obtain ⟨hlen, h⟩ := ifB_ok h
      have hlen := beq_eq hlen
      rw [lenK_eq] at hlen
      obtain ⟨fr, h1, h2⟩ := argsK_ok args 0 emptyFr (fun fr => leaveC (fn.results.toList.map (cRes P fn.ntmps)) (runL cl k (cCode P K D fn.ntmps c) fr hp nx)) (by omega)
      rw [h1] at h
      refine ⟨fun args w => ?_, fun base m w us hs hA => ?_⟩
      · simp [callFunc, run_program, hf, hname, hb]
      · cases hr : runL cl k (cCode P K D fn.ntmps c) fr hp nx with
        | bad => rw [hr] at h; cases h
        | ok e fr1 hp1 nx1 =>
          rw [hr] at h
          have hF : FR C D fn.ntmps ⟨[], .s .un⟩ m fr { tmps := us.toArray ++ Array.replicate (fn.ntmps - us.toArray.size) undef, defers := [] } := FR.enter hn (by omega) (by rw [hlen]; exact hd) hA h2
          refine calls_of_wp_defers hf hb (code_okL (base := base) hn hmd hK k hcall c k (Nat.le_refl _) _ _ _ _ _ _ _ hr _ m _ w (.inl ⟨rfl, rfl⟩) hF hs _ fun T m1 a1 w1 hD1 hF1 hG1 => ?_)
          have fin : endK (fn.results.toList.map (cRes P fn.ntmps)) fr1 hp1 nx1 (getFr topS fr1) = .ok v hp' nx' → Leaves P fn a1.tmps (Ends P C base m hp nx w hp' nx' v) a1.defers .returning w1 := fun h => by
            rw [getFr_eq, hF1.top] at h
            rcases endK_ok hD1 h with ⟨h1, h2⟩ | ⟨f, b, o, u, x, hp2, nx2, g1, g2, g3, g4, g5⟩
            · obtain ⟨e1, e2, g⟩ := resK_ok (C := C) (D := D) (T := T) (base := base) h2
              subst e1; subst e2
              obtain ⟨u, g1, g2⟩ := g m1 a1 w1 hF1 hG1.sr
              rw [hF1.defers, h1]
              exact ⟨u, g1, m1, g2, hG1⟩
            · rw [hF1.defers, g3]
              obtain ⟨i1, i2⟩ := hDf f g1 b o _ _ _ _ _ g4 base m1 w1 u hG1.sr g2
              refine leaves_cons (by simp) i1 (i2.mono ?_)
              rintro e u' w' ⟨rfl, y, m2, rfl, hG2⟩
              obtain ⟨e1, e2, g⟩ := resK_ok (C := C) (D := D) (T := T) (base := base) g5
              subst e1; subst e2
              obtain ⟨z, z1, z2⟩ := g m2 a1 w' (hF1.ext hG2.ext) hG2.sr
              exact ⟨z, z1, m2, z2, hG1.trans hG2⟩
          cases e with
          | norm => exact fin h
          | ret => exact fin h
          | exit id => cases (show (Ar.bad : Ar) = _ from h)
    · cases (show (Ar.bad : Ar) = _ from h)


/-- what a function, by its end, gives. -/
def FOK (P : Program) (C : Ctx) (f : Nat) (z : CallK) : Prop := ∀ args hp nx k, z args hp nx k ≠ .bad → ∃ v hp' nx', (∀ k', z args hp nx k' = k' v hp' nx') ∧ Enters P f ∧
  ∀ base m w us, SR P C base m hp nx w → ArgsR C m args us → Calls P f us.toArray w (Ends P C base m hp nx w hp' nx' v)
def FeOK (P : Program) (C : Ctx) (fe : Nat → CallK) : Prop := ∀ f, FOK P C f (fe f)
/-- functions by their ends, as functions. -/
def callOf (fe : Nat → CallK) : CallF := fun f args hp nx => fe f args hp nx fun v hp nx => .ok v hp nx
theorem FeOK.feI {fe : Nat → CallK} (h : FeOK P C fe) : FeI fe (callOf fe) := fun f args hp nx k hz => by
  obtain ⟨v, hp', nx', h1, _⟩ := h f args hp nx k hz
  exact ⟨v, hp', nx', h1 _, h1⟩
theorem FeOK.calls {fe : Nat → CallK} (h : FeOK P C fe) : CallOK P C (callOf fe) := fun f args hp nx v hp' nx' hz => by
  have hz : fe f args hp nx (fun v hp nx => .ok v hp nx) = .ok v hp' nx' := hz
  obtain ⟨v1, hp1, nx1, h1, h2, h3⟩ := h f args hp nx (fun v hp nx => .ok v hp nx) (by rw [hz]; exact fun q => by cases q)
  rw [h1] at hz
  injection hz with a b c
  subst a; subst b; subst c
  exact ⟨h2, h3⟩
theorem fok_of (hmd : P.follows .mixedOrders = true) (hK : KnownOK P C K) (hDf : DeferOK P C K) {fe : Nat → CallK} (hfe : FeOK P C fe) {f : Nat} {fn : Func} (hf : P.funcs[f]? = some fn) (h : ZH) : FOK P C f (zFun fe (cFun P K D fn) h) := fun args hp nx k hz => by
  have hA : ∀ A : AFun, A = cFun P K D fn → zFun fe A h args hp nx k ≠ .bad → ∃ j v hp' nx', AFun.rec (motive := fun _ => Ar) .bad (enterF (runL (callOf fe) j) args hp nx) A = .ok v hp' nx' ∧ ∀ k', zFun fe A h args hp nx k' = k' v hp' nx' := by
    intro A _ hz
    cases A with
    | bad => exact absurd rfl hz
    | mk np code res => exact zEnter_ok hfe.feI hz
  obtain ⟨j, v, hp', nx', h1, h2⟩ := hA _ rfl hz
  exact ⟨v, hp', nx', h2, fun_okL hf hmd hK hDf hfe.calls h1⟩

/-! ## Tables -/
theorem nok_ok : FeOK P C nokE := fun _ _ _ _ _ h => absurd rfl h
theorem lfE_ok {a : Nat} {c : CallK} {r : Nat → CallK} (h : FOK P C a c) (hr : FeOK P C r) : FeOK P C (lfE a c r) := fun f => by
  show FOK P C f (Bool.rec (r f) c (Nat.beq f a))
  cases hb : Nat.beq f a with
  | false => exact hr f
  | true => rw [beq_eq hb]; exact h
end

/-! ## Functions of so many arguments -/
section
variable {P : Program} {C : Ctx} {f : Nat} {z : CallK}
theorem fok_args {z' : CallK} (hz : FOK P C f z) (h : ∀ args, z' args = nokA ∨ z' args = z args) : FOK P C f z' := fun args hp nx k hk => by
  rcases h args with e | e
  · rw [e] at hk; exact absurd rfl hk
  · rw [e] at hk; rw [e]; exact hz args hp nx k hk
theorem fok0 {g : F0} (hz : FOK P C f z) (h : z [] = g) : FOK P C f (ar0 g) := fok_args hz fun args => by
  match args with
  | [] => exact .inr (h).symm
  | _ :: _ => exact .inl rfl
theorem fok1 {g : F1} (hz : FOK P C f z) (h : ∀ a, z [a] = g a) : FOK P C f (ar1 g) := fok_args hz fun args => by
  match args with
  | [] => exact .inl rfl
  | [a] => exact .inr (h a).symm
  | _ :: _ :: _ => exact .inl rfl
theorem fok2 {g : F2} (hz : FOK P C f z) (h : ∀ a b, z [a, b] = g a b) : FOK P C f (ar2 g) := fok_args hz fun args => by
  match args with
  | [] => exact .inl rfl
  | [_] => exact .inl rfl
  | [a, b] => exact .inr (h a b).symm
  | _ :: _ :: _ :: _ => exact .inl rfl
theorem fok3 {g : F3} (hz : FOK P C f z) (h : ∀ a b c, z [a, b, c] = g a b c) : FOK P C f (ar3 g) := fok_args hz fun args => by
  match args with
  | [] => exact .inl rfl
  | [_] => exact .inl rfl
  | [_, _] => exact .inl rfl
  | [a, b, c] => exact .inr (h a b c).symm
  | _ :: _ :: _ :: _ :: _ => exact .inl rfl
theorem fok4 {g : F4} (hz : FOK P C f z) (h : ∀ a b c d, z [a, b, c, d] = g a b c d) : FOK P C f (ar4 g) := fok_args hz fun args => by
  match args with
  | [] => exact .inl rfl
  | [_] => exact .inl rfl
  | [_, _] => exact .inl rfl
  | [_, _, _] => exact .inl rfl
  | [a, b, c, d] => exact .inr (h a b c d).symm
  | _ :: _ :: _ :: _ :: _ :: _ => exact .inl rfl
theorem fok5 {g : F5} (hz : FOK P C f z) (h : ∀ a b c d e, z [a, b, c, d, e] = g a b c d e) : FOK P C f (ar5 g) := fok_args hz fun args => by
  match args with
  | [] => exact .inl rfl
  | [_] => exact .inl rfl
  | [_, _] => exact .inl rfl
  | [_, _, _] => exact .inl rfl
  | [_, _, _, _] => exact .inl rfl
  | [a, b, c, d, e] => exact .inr (h a b c d e).symm
  | _ :: _ :: _ :: _ :: _ :: _ :: _ => exact .inl rfl
theorem fok6 {g : F6} (hz : FOK P C f z) (h : ∀ a b c d e y, z [a, b, c, d, e, y] = g a b c d e y) : FOK P C f (ar6 g) := fok_args hz fun args => by
  match args with
  | [] => exact .inl rfl
  | [_] => exact .inl rfl
  | [_, _] => exact .inl rfl
  | [_, _, _] => exact .inl rfl
  | [_, _, _, _] => exact .inl rfl
  | [_, _, _, _, _] => exact .inl rfl
  | [a, b, c, d, e, y] => exact .inr (h a b c d e y).symm
  | _ :: _ :: _ :: _ :: _ :: _ :: _ :: _ => exact .inl rfl
theorem fok7 {g : F7} (hz : FOK P C f z) (h : ∀ a b c d e y x, z [a, b, c, d, e, y, x] = g a b c d e y x) : FOK P C f (ar7 g) := fok_args hz fun args => by
  match args with
  | [] => exact .inl rfl
  | [_] => exact .inl rfl
  | [_, _] => exact .inl rfl
  | [_, _, _] => exact .inl rfl
  | [_, _, _, _] => exact .inl rfl
  | [_, _, _, _, _] => exact .inl rfl
  | [_, _, _, _, _, _] => exact .inl rfl
  | [a, b, c, d, e, y, x] => exact .inr (h a b c d e y x).symm
  | _ :: _ :: _ :: _ :: _ :: _ :: _ :: _ :: _ => exact .inl rfl
end
end Go.X
end

