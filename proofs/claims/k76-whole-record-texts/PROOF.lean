import PyProof.Rows.All
import Wide.All
import OpenK.AllK
import Wide.FinOn
import HandS.ForMost
import HandS.GenList
import HandS.IsInst
import HandS.OwnEq
import HandS.MakeKwOnly
import HandS.Style
import HandS.Exc
import HandS.Codes
import PySem.Challenge.RW_throughline_k76_whole_record_texts
set_option Elab.async false
set_option maxRecDepth 100000
set_option maxHeartbeats 4000000
/-! A sleeping generator that cannot be woken stays as it is (own). -/
namespace K76
open PySem

/-- the continuation that nothing can go on with -/
def dullK : Resume → Sem PySem.Fin := fun _ => .unsupported ""
def dulled : GenState → GenState
  | .suspended _ l c p fs cl => .suspended dullK l c p fs cl
  | x => x
/-- x: the entry in the dulled run; y: the entry as it is -/
inductive Twin : GenState → GenState → Prop where
  | same (x : GenState) : Twin x x
  | dull (k : Resume → Sem PySem.Fin) (l : List Value) (c : Code) (p : Pos) (fs : List Frame) (cl : Bool) : Twin (.suspended dullK l c p fs cl) (.suspended k l c p fs cl)
theorem Twin.seen {x y : GenState} (h : Twin x y) : x.seen = y.seen := by cases h <;> rfl
structure Sim (a b : Array GenState) : Prop where
  size : a.size = b.size
  pair : ∀ (i : Nat) (x : GenState), a[i]? = some x → ∃ y, b[i]? = some y ∧ Twin x y
  tab : ∀ (i : Nat) (k : Resume → Sem PySem.Fin) (l : List Value) (c : Code) (p : Pos) (fs : List Frame) (cl : Bool), a[i]? = some (.suspended k l c p fs cl) → k = dullK ∨ splitAtGen fs = none
/-- the dull entries of a stay in a', and the entries of b at their places stay in b' -/
def Held (a a' b b' : Array GenState) : Prop :=
  ∀ (i : Nat) (l : List Value) (c : Code) (p : Pos) (fs : List Frame) (cl : Bool), a[i]? = some (.suspended dullK l c p fs cl) → a'[i]? = some (.suspended dullK l c p fs cl) ∧ b'[i]? = b[i]?
theorem Held.refl {a b : Array GenState} : Held a a b b := fun _ _ _ _ _ _ h => ⟨h, rfl⟩
theorem Held.trans {a a1 a2 b b1 b2 : Array GenState} (x : Held a a1 b b1) (y : Held a1 a2 b1 b2) : Held a a2 b b2 := fun i l c p fs cl h => by
  obtain ⟨h1, e1⟩ := x i l c p fs cl h
  obtain ⟨h2, e2⟩ := y i l c p fs cl h1
  exact ⟨h2, e2.trans e1⟩
def Plain (x : GenState) : Prop := ∀ l c p fs cl, x ≠ .suspended dullK l c p fs cl
def FrOk (x : GenState) : Prop := ∀ k l c p fs cl, x = .suspended k l c p fs cl → splitAtGen fs = none
theorem Held.put {a a1 b b1 : Array GenState} {i : Nat} {x z : GenState} (h : Held a a1 b b1) (e : a[i]? = some z) (hz : Plain z) : Held a (a1.setIfInBounds i x) b (b1.setIfInBounds i x) := fun j l c p fs cl q => by
  obtain ⟨h1, e1⟩ := h j l c p fs cl q
  have ne : i ≠ j := fun w => by
    subst w
    rw [e] at q
    exact hz _ _ _ _ _ (Option.some.inj q)
  rw [Array.getElem?_setIfInBounds_ne ne, Array.getElem?_setIfInBounds_ne ne]
  exact ⟨h1, e1⟩
theorem Sim.put {a b : Array GenState} {i : Nat} {x : GenState} (h : Sim a b) (hx : FrOk x) : Sim (a.setIfInBounds i x) (b.setIfInBounds i x) := by
  refine ⟨by simp [h.size], fun j y hy => ?_, fun j k l c p fs cl hy => ?_⟩
  · by_cases e : i = j
    · subst e
      rw [Array.getElem?_setIfInBounds_self] at hy ⊢
      rw [← h.size]
      split at hy
      · rename_i hlt
        cases hy
        exact ⟨x, by rw [if_pos hlt], .same x⟩
      · cases hy
    · rw [Array.getElem?_setIfInBounds_ne e] at hy ⊢
      exact h.pair j y hy
  · by_cases e : i = j
    · subst e
      rw [Array.getElem?_setIfInBounds_self] at hy
      split at hy
      · exact .inr (hx _ _ _ _ _ _ (Option.some.inj hy))
      · cases hy
    · rw [Array.getElem?_setIfInBounds_ne e] at hy
      exact h.tab j k l c p fs cl hy
theorem Sim.more {a b : Array GenState} {x : GenState} (h : Sim a b) (hx : FrOk x) : Sim (a.push x) (b.push x) := by
  refine ⟨by simp [h.size], fun j y hy => ?_, fun j k l c p fs cl hy => ?_⟩
  · rw [Array.getElem?_push] at hy ⊢
    rw [← h.size]
    split at hy
    · rename_i e
      cases hy
      exact ⟨x, by rw [if_pos e], .same x⟩
    · rename_i e
      rw [if_neg e]
      exact h.pair j y hy
  · rw [Array.getElem?_push] at hy
    split at hy
    · exact .inr (hx _ _ _ _ _ _ (Option.some.inj hy))
    · exact h.tab j k l c p fs cl hy
theorem Held.more {a b : Array GenState} {x : GenState} (h : Sim a b) : Held a (a.push x) b (b.push x) := fun i l c p fs cl q => by
  have hi : i < a.size := by
    rcases Nat.lt_or_ge i a.size with z | z
    · exact z
    · rw [Array.getElem?_eq_none z] at q
      cases q
  have hn : ¬ i = a.size := by omega
  have hn' : ¬ i = b.size := by rw [← h.size]; exact hn
  rw [Array.getElem?_push, Array.getElem?_push, if_neg hn, if_neg hn']
  exact ⟨q, rfl⟩
theorem frOk_fresh {c : Code} : FrOk (.fresh c) := fun _ _ _ _ _ _ h => by cases h
theorem frOk_running : FrOk .running := fun _ _ _ _ _ _ h => by cases h
theorem frOk_finished : FrOk .finished := fun _ _ _ _ _ _ h => by cases h
theorem plain_fresh {c : Code} : Plain (.fresh c) := fun _ _ _ _ _ h => by cases h
/-- the frames of an end hold no generator -/
def EndOk (e : End) : Prop := ∀ v g l k c p fs, e = .susp v g l k c p fs → splitAtGen fs = none
theorem EndOk.ret {r : Result} : EndOk (.ret r) := fun _ _ _ _ _ _ _ h => by cases h
theorem EndOk.fr {e : End} (h : EndOk e) : FrOk e.genState := fun k l c p fs cl q => by
  cases e with
  | ret r => cases q
  | susp v g0 l0 k0 c0 p0 fs0 =>
    have q' : GenState.suspended k0 l0 c0 p0 fs0 (g0 || fs0.any Frame.guarded) = .suspended k l c p fs cl := q
    injection q' with _ _ _ _ e5 _
    subst e5
    exact h _ _ _ _ _ _ _ rfl
theorem split_app : ∀ {a b : List Frame}, splitAtGen a = none → splitAtGen b = none → splitAtGen (a ++ b) = none
  | [], _, _, h => h
  | .gen .. :: _, _, h, _ => by simp [splitAtGen] at h
  | .ret k h0 g l c p kp :: r, b, h, hb => by
    have h1 : splitAtGen r = none := by
      have h' : (splitAtGen r).map (fun (fs, b, r) => (Frame.ret k h0 g l c p kp :: fs, b, r)) = none := h
      cases e : splitAtGen r with
      | none => rfl
      | some z => rw [e] at h'; cases h'
    show (splitAtGen (r ++ b)).map _ = none
    rw [split_app h1 hb]
    rfl
theorem split_tail {k h0 g l c p kp} {r : List Frame} (h : splitAtGen (.ret k h0 g l c p kp :: r) = none) : splitAtGen r = none := by
  have h' : (splitAtGen r).map (fun (fs, b, r) => (Frame.ret k h0 g l c p kp :: fs, b, r)) = none := h
  cases e : splitAtGen r with
  | none => rfl
  | some z => rw [e] at h'; cases h'
/-- nothing runs on from the dull continuation -/
theorem no_run {M : Model} {Γ : Ctx} {p : Pos} {t : Sem PySem.Fin} {fs : List Frame} {s s' : Shared} {e : End} (h : Runs M Γ p t fs s e s') : ∀ w, t ≠ .unsupported w := by
  induction h <;> intro w q <;> first | (cases q; done) | (rename_i ih _; exact ih w q) | (rename_i ih; exact ih w q) | (rename_i ih _ _; exact ih w q) | (rename_i ih _ _ _; exact ih w q)

theorem runs_sim {M : Model} {Γ : Ctx} {p : Pos} {t : Sem PySem.Fin} {fs : List Frame} {a a' : Shared} {e : End} (h : Runs M Γ p t fs a e a') :
    splitAtGen fs = none → ∀ G, Sim a.gens G → ∃ G', Runs M Γ p t fs { a with gens := G } e { a' with gens := G' } ∧ Sim a'.gens G' ∧ Held a.gens a'.gens G G' ∧ EndOk e := by
  induction h with
  | done => exact fun _ G hs => ⟨G, .done, hs, .refl, .ret⟩
  | raise => exact fun _ G hs => ⟨G, .raise, hs, .refl, .ret⟩
  | again hq _ ih => exact fun hf G hs => let ⟨G', h1, h2⟩ := ih hf G hs; ⟨G', .again hq h1, h2⟩
  | rule _ ih => exact fun hf G hs => let ⟨G', h1, h2⟩ := ih hf G hs; ⟨G', .rule h1, h2⟩
  | «at» _ ih => exact fun hf G hs => let ⟨G', h1, h2⟩ := ih hf G hs; ⟨G', .at h1, h2⟩
  | load ho _ ih => exact fun hf G hs => let ⟨G', h1, h2⟩ := ih hf G hs; ⟨G', .load ho h1, h2⟩
  | update ho _ ih => exact fun hf G hs => let ⟨G', h1, h2⟩ := ih hf G hs; ⟨G', .update ho h1, h2⟩
  | loadIfAlive _ ih => exact fun hf G hs => let ⟨G', h1, h2⟩ := ih hf G hs; ⟨G', .loadIfAlive h1, h2⟩
  | point _ ih => exact fun hf G hs => let ⟨G', h1, h2⟩ := ih hf G hs; ⟨G', .point h1, h2⟩
  | alloc _ ih => exact fun hf G hs => let ⟨G', h1, h2⟩ := ih hf G hs; ⟨G', .alloc h1, h2⟩
  | fresh _ ih => exact fun hf G hs => let ⟨G', h1, h2⟩ := ih hf G hs; ⟨G', .fresh h1, h2⟩
  | ask _ ih => exact fun hf G hs => let ⟨G', h1, h2⟩ := ih hf G hs; ⟨G', .ask h1, h2⟩
  | choose hn _ ih => exact fun hf G hs => let ⟨G', h1, h2⟩ := ih hf G hs; ⟨G', .choose hn h1, h2⟩
  | os _ ih => exact fun hf G hs => let ⟨G', h1, h2⟩ := ih hf G hs; ⟨G', .os h1, h2⟩
  | handled _ ih => exact fun hf G hs => let ⟨G', h1, h2⟩ := ih hf G hs; ⟨G', .handled h1, h2⟩
  | genState hg _ ih =>
    intro hf G hs
    obtain ⟨G', h1, h2⟩ := ih hf G hs
    obtain ⟨y, hy, tw⟩ := hs.pair _ _ hg
    rw [tw.seen] at h1
    exact ⟨G', .genState hy h1, h2⟩
  | stack _ ih => exact fun hf G hs => let ⟨G', h1, h2⟩ := ih hf G hs; ⟨G', .stack h1, h2⟩
  | thread _ ih => exact fun hf G hs => let ⟨G', h1, h2⟩ := ih hf G hs; ⟨G', .thread h1, h2⟩
  | newGen _ ih =>
    intro hf G hs
    obtain ⟨G', h1, h2, h3, h4⟩ := ih hf _ (hs.more frOk_fresh)
    rw [hs.size] at h1
    exact ⟨G', .newGen h1, h2, (Held.more hs).trans h3, h4⟩
  | call _ _ ih1 ih2 =>
    intro hf G hs
    obtain ⟨G1, h1, h2, h3, _⟩ := ih1 rfl G hs
    obtain ⟨G2, k1, k2, k3, k4⟩ := ih2 rfl G1 h2
    exact ⟨G2, .call h1 k1, k2, h3.trans k3, k4⟩
  | callSusp _ ih1 =>
    intro hf G hs
    obtain ⟨G1, h1, h2, h3, h4⟩ := ih1 rfl G hs
    refine ⟨G1, .callSusp h1, h2, h3, fun v g l k c p fs q => ?_⟩
    cases q
    exact split_app (h4 _ _ _ _ _ _ _ rfl) rfl
  | yield =>
    intro hf G hs
    refine ⟨G, .yield, hs, .refl, fun v g l k c p fs q => ?_⟩
    cases q
    rfl
  | resumeFresh hg _ hq _ ih1 ih2 =>
    intro hf G hs
    obtain ⟨y, hy, tw⟩ := hs.pair _ _ hg
    cases tw
    obtain ⟨G1, h1, h2, h3, h4⟩ := ih1 rfl _ (hs.put frOk_running)
    obtain ⟨G2, k1, k2, k3, k4⟩ := ih2 rfl _ (h2.put h4.fr)
    refine ⟨G2, .resumeFresh hy h1 hq k1, k2, Held.trans (Held.put (Held.trans (Held.put .refl hg plain_fresh) h3) hg plain_fresh) k3, k4⟩
  | @resumeSuspended Γ p g r l k s k₀ l₀ c₀ p₀ fs₀ cl₀ e₁ s₁ e₂ s₂ hg hr hq _ ih1 ih2 =>
    intro hf G hs
    have hk0 : k₀ ≠ dullK := fun q => by
      rw [q] at hr
      exact no_run hr _ rfl
    have hk : Plain (.suspended k₀ l₀ c₀ p₀ fs₀ cl₀) := fun l c p fs cl q => by
      injection q with e1
      exact hk0 e1
    obtain ⟨y, hy, tw⟩ := hs.pair _ _ hg
    have hfs := (hs.tab _ _ _ _ _ _ _ hg).resolve_left hk0
    cases tw with
    | dull => exact absurd rfl hk0
    | same =>
      obtain ⟨G1, h1, h2, h3, h4⟩ := ih1 hfs _ (hs.put frOk_running)
      obtain ⟨G2, k1, k2, k3, k4⟩ := ih2 rfl _ (h2.put h4.fr)
      exact ⟨G2, .resumeSuspended hy h1 hq k1, k2, Held.trans (Held.put (Held.trans (Held.put .refl hg hk) h3) hg hk) k3, k4⟩
  | resumeJustStarted hg hv _ ih =>
    intro hf G hs
    obtain ⟨y, hy, tw⟩ := hs.pair _ _ hg
    cases tw
    exact let ⟨G', h1, h2⟩ := ih hf G hs; ⟨G', .resumeJustStarted hy hv h1, h2⟩
  | resumeThrowFresh hg _ ih =>
    intro hf G hs
    obtain ⟨y, hy, tw⟩ := hs.pair _ _ hg
    cases tw
    obtain ⟨G', h1, h2, h3, h4⟩ := ih hf _ (hs.put frOk_finished)
    exact ⟨G', .resumeThrowFresh hy h1, h2, Held.trans (Held.put .refl hg plain_fresh) h3, h4⟩
  | resumeRunning hg _ ih =>
    intro hf G hs
    obtain ⟨y, hy, tw⟩ := hs.pair _ _ hg
    cases tw
    exact let ⟨G', h1, h2⟩ := ih hf G hs; ⟨G', .resumeRunning hy h1, h2⟩
  | resumeFinished hg _ ih =>
    intro hf G hs
    obtain ⟨y, hy, tw⟩ := hs.pair _ _ hg
    cases tw
    exact let ⟨G', h1, h2⟩ := ih hf G hs; ⟨G', .resumeFinished hy h1, h2⟩
  | segRet _ _ ih1 ih2 =>
    intro hf G hs
    obtain ⟨G1, h1, h2, h3, _⟩ := ih1 rfl G hs
    obtain ⟨G2, k1, k2, k3, k4⟩ := ih2 (split_tail hf) G1 h2
    exact ⟨G2, .segRet h1 k1, k2, h3.trans k3, k4⟩
  | segGen => exact fun hf => by simp [splitAtGen] at hf
  | segSuspOut hf' _ ih1 =>
    intro hf G hs
    obtain ⟨G1, h1, h2, h3, h4⟩ := ih1 rfl G hs
    refine ⟨G1, .segSuspOut hf' h1, h2, h3, fun v g l k c p fs q => ?_⟩
    cases q
    exact split_app (h4 _ _ _ _ _ _ _ rfl) hf'
  | segSuspGen hf' => exact fun hf => by rw [hf'] at hf; cases hf
theorem wakes_sim {M : Model} {Γ : Ctx} {p : Pos} {g : Nat} {r : Resume} {a a' : Shared} {res : GenResult} {G : Array GenState} (h : Wakes M Γ p g r a res a') (hs : Sim a.gens G) :
    ∃ G', Wakes M Γ p g r { a with gens := G } res { a' with gens := G' } ∧ Sim a'.gens G' ∧ Held a.gens a'.gens G G' := by
  unfold Wakes at h
  split at h
  · exact h.elim
  · rename_i c hg
    obtain ⟨y, hy, tw⟩ := hs.pair _ _ hg
    cases tw
    split at h
    · obtain ⟨e₁, s₁, hr, hq, hres, rfl⟩ := h
      obtain ⟨G1, h1, h2, h3, h4⟩ := runs_sim hr rfl _ (hs.put frOk_running)
      refine ⟨_, ?_, h2.put h4.fr, Held.put (Held.trans (Held.put .refl hg plain_fresh) h3) hg plain_fresh⟩
      unfold Wakes
      dsimp only
      rw [hy]
      exact ⟨e₁, _, h1, hq, hres, rfl⟩
    · rename_i hn
      obtain ⟨rfl, rfl⟩ := h
      refine ⟨G, ?_, hs, .refl⟩
      unfold Wakes
      dsimp only
      rw [hy]
      dsimp only
      split
      · rename_i e
        exact absurd e (by rintro ⟨⟩; exact hn rfl)
      · exact ⟨rfl, rfl⟩
      · rename_i e
        cases e
    · obtain ⟨rfl, rfl⟩ := h
      refine ⟨_, ?_, hs.put frOk_finished, Held.put .refl hg plain_fresh⟩
      unfold Wakes
      dsimp only
      rw [hy]
      exact ⟨rfl, rfl⟩
  · rename_i k₀ l₀ c₀ p₀ fs₀ cl₀ hg
    obtain ⟨e₁, s₁, hr, hq, hres, rfl⟩ := h
    have hk0 : k₀ ≠ dullK := fun q => by
      rw [q] at hr
      exact no_run hr _ rfl
    have hk : Plain (.suspended k₀ l₀ c₀ p₀ fs₀ cl₀) := fun l c p fs cl q => by
      injection q with e1
      exact hk0 e1
    obtain ⟨y, hy, tw⟩ := hs.pair _ _ hg
    have hfs := (hs.tab _ _ _ _ _ _ _ hg).resolve_left hk0
    cases tw with
    | dull => exact absurd rfl hk0
    | same =>
      obtain ⟨G1, h1, h2, h3, h4⟩ := runs_sim hr hfs _ (hs.put frOk_running)
      refine ⟨_, ?_, h2.put h4.fr, Held.put (Held.trans (Held.put .refl hg hk) h3) hg hk⟩
      unfold Wakes
      dsimp only
      rw [hy]
      exact ⟨e₁, _, h1, hq, hres, rfl⟩
  · rename_i hg
    obtain ⟨y, hy, tw⟩ := hs.pair _ _ hg
    cases tw
    obtain ⟨rfl, rfl⟩ := h
    refine ⟨G, ?_, hs, .refl⟩
    unfold Wakes
    dsimp only
    rw [hy]
    exact ⟨rfl, rfl⟩
  · rename_i hg
    obtain ⟨y, hy, tw⟩ := hs.pair _ _ hg
    cases tw
    obtain ⟨rfl, rfl⟩ := h
    refine ⟨G, ?_, hs, .refl⟩
    unfold Wakes
    dsimp only
    rw [hy]
    exact ⟨rfl, rfl⟩

/-- behind a run from a, at the table G -/
abbrev After (A0 G0 : Array GenState) (Q : Shared → Prop) (s : Shared) : Prop :=
  ∃ a' G', s = { a' with gens := G' } ∧ Sim a'.gens G' ∧ Held A0 a'.gens G0 G' ∧ Q a'
theorem After.before {A0 A1 G0 G1 : Array GenState} {Q : Shared → Prop} {s : Shared} (h : Held A0 A1 G0 G1) (x : After A1 G1 Q s) : After A0 G0 Q s := by
  obtain ⟨a', G', e, h1, h2, q⟩ := x
  exact ⟨a', G', e, h1, h.trans h2, q⟩
theorem wp_sim {α : Type} {M : Model} {Γ : Ctx} (t : Sem α) : ∀ {Q : α → Pos → Shared → Prop} {E : Value → Pos → Shared → Prop} {p : Pos} {a : Shared} {G : Array GenState}, Sim a.gens G → Sem.wp M Γ t Q E p a →
    Sem.wp M Γ t (fun x p' => After a.gens G (Q x p')) (fun e p' => After a.gens G (E e p')) p { a with gens := G } := by
  have mono : ∀ {t : Sem α} {Q : α → Pos → Shared → Prop} {E : Value → Pos → Shared → Prop} {p : Pos} {s : Shared} {A0 A1 G0 G1 : Array GenState}, Held A0 A1 G0 G1 →
      Sem.wp M Γ t (fun x p' => After A1 G1 (Q x p')) (fun e p' => After A1 G1 (E e p')) p s → Sem.wp M Γ t (fun x p' => After A0 G0 (Q x p')) (fun e p' => After A0 G0 (E e p')) p s := fun h z =>
    Sem.wp_mono M Γ _ (fun _ _ _ w => After.before h w) (fun _ _ _ w => After.before h w) _ _ z
  induction t with
  | pure x => exact fun {Q E p a G} hs h => ⟨a, G, rfl, hs, .refl, h⟩
  | raise x => exact fun {Q E p a G} hs h => ⟨a, G, rfl, hs, .refl, h⟩
  | unsupported _ => exact fun _ h => h
  | finish _ => exact fun _ h => h
  | rule _ k ih => exact fun hs h => ih () hs h
  | «at» p' k ih => exact fun hs h => ih () hs h
  | load a _ k ih => exact fun hs ⟨o, ho, h⟩ => ⟨o, ho, ih o hs h⟩
  | update a _ f k ih => exact fun {Q E p s G} hs h => ⟨h.1, ih () (a := { s with heap := s.heap.update a f }) hs h.2⟩
  | loadIfAlive a k ih => exact fun hs h => ih _ hs h
  | point _ k ih => exact fun hs h => ih () hs h
  | register _ _ => exact fun _ h => h
  | alloc o k ih => exact fun {Q E p s G} hs h => ih _ (a := { s with heap := s.heap.push o }) hs h
  | fresh k ih => exact fun {Q E p s G} hs h => ih _ (a := { s with toks := s.toks + 1 }) hs h
  | ask k ih => exact fun hs h => ih _ hs h
  | choose src m k ih => exact fun {Q E p s G} hs h => ⟨h.1, ih _ (a := { s with drawn := s.drawn.bump src }) hs h.2⟩
  | os q _ k ih => exact fun {Q E p s G} hs h => ih _ (a := { s with os := (Os.step s.os q).1 }) hs h
  | call c hd _ _ k ih =>
    intro Q E p s G hs h
    obtain ⟨r, s', hr, h⟩ := h
    obtain ⟨G1, h1, h2, h3, _⟩ := runs_sim hr rfl G hs
    exact ⟨r, _, h1, mono h3 (ih r h2 h)⟩
  | handled own k ih => exact fun hs h => ih _ hs h
  | genState g k ih =>
    intro Q E p s G hs h
    obtain ⟨st, hg, h⟩ := h
    obtain ⟨y, hy, tw⟩ := hs.pair _ _ hg
    refine ⟨y, hy, ?_⟩
    rw [← tw.seen]
    exact ih _ hs h
  | newGen c k ih =>
    intro Q E p s G hs h
    have q := ih _ (a := { s with gens := s.gens.push (.fresh c) }) (hs.more frOk_fresh) h
    rw [hs.size] at q
    exact mono (Held.more hs) q
  | resume g r _ k ih =>
    intro Q E p s G hs h
    obtain ⟨res, s', hw, h⟩ := h
    obtain ⟨G1, h1, h2, h3⟩ := wakes_sim hw hs
    exact ⟨res, _, h1, mono h3 (ih res h2 h)⟩
  | yield _ _ _ _ => exact fun _ h => h
  | stack k ih => exact fun hs h => ih _ hs h
  | fork _ _ => exact fun _ h => h
  | thread k ih => exact fun hs h => ih _ hs h
  | await _ _ _ _ _ => exact fun _ h => h

/-- THE FRAME RULE: what runs where the sleeping generators cannot be woken runs alike where they can, and leaves them asleep -/
theorem wpAny_sim {α : Type} {M : Model} {A : Around} {t : Sem α} {Q : α → Shared → Prop} {E : Value → Shared → Prop} {a : Shared} {G : Array GenState} (hs : Sim a.gens G) (h : wpAny M A t Q E a) :
    wpAny M A t (fun x => After a.gens G (Q x)) (fun e => After a.gens G (E e)) { a with gens := G } :=
  fun Γ p hΓ => wp_sim t hs (h Γ p hΓ)
theorem sim_dulled (G : Array GenState) : Sim (G.map dulled) G := by
  refine ⟨by simp, fun i x h => ?_, fun i k l c p fs cl h => ?_⟩
  · rw [Array.getElem?_map] at h
    cases e : G[i]? with
    | none => rw [e] at h; cases h
    | some y =>
      rw [e] at h
      cases h
      refine ⟨y, rfl, ?_⟩
      cases y with
      | suspended k l c p fs cl => exact .dull k l c p fs cl
      | fresh c => exact .same _
      | running => exact .same _
      | finished => exact .same _
  · rw [Array.getElem?_map] at h
    cases e : G[i]? with
    | none => rw [e] at h; cases h
    | some y =>
      rw [e] at h
      cases y with
      | suspended k' l' c' p' fs' cl' =>
        cases h
        exact .inl rfl
      | fresh c => cases h
      | running => cases h
      | finished => cases h
theorem bare_dulled {G : Array GenState} (h : PyProof.Rows.AllBare G) : PyProof.Rows.AllBare (G.map dulled) := fun y hy => by
  obtain ⟨x, hx, rfl⟩ := Array.mem_map.mp hy
  have hb := h x hx
  cases x <;> exact hb
theorem bare_back {A G : Array GenState} (h : PyProof.Rows.AllBare A) (hs : Sim A G) : PyProof.Rows.AllBare G := fun y hy => by
  obtain ⟨i, hi, e⟩ := Array.mem_iff_getElem.mp hy
  have hi' : i < A.size := by rw [hs.size]; exact hi
  obtain ⟨z, hz, tw⟩ := hs.pair i _ (Array.getElem?_eq_getElem hi')
  rw [Array.getElem?_eq_getElem hi, e] at hz
  cases hz
  have hb := h _ (Array.getElem_mem hi')
  generalize A[i] = x at tw hb
  cases tw <;> exact hb
/-- .. one generator of the table, told -/
theorem wpAny_asleep {α : Type} {M : Model} {A : Around} {t : Sem α} {Q : α → Shared → Prop} {E : Value → Shared → Prop} {s : Shared} {g : Nat} {k : Resume → Sem PySem.Fin} {l : List Value} {c : Code} {p : Pos} {fs : List Frame} {cl : Bool}
    (hg : s.gens[g]? = some (.suspended k l c p fs cl)) (h : wpAny M A t Q E { s with gens := s.gens.map dulled }) :
    wpAny M A t (fun x s' => ∃ A', Sim A' s'.gens ∧ s'.gens[g]? = some (.suspended k l c p fs cl) ∧ Q x { s' with gens := A' }) (fun e s' => ∃ A', Sim A' s'.gens ∧ s'.gens[g]? = some (.suspended k l c p fs cl) ∧ E e { s' with gens := A' }) s := by
  have q := wpAny_sim (a := { s with gens := s.gens.map dulled }) (sim_dulled s.gens) h
  have hd : (s.gens.map dulled)[g]? = some (.suspended dullK l c p fs cl) := by
    rw [Array.getElem?_map, hg]
    rfl
  refine wpAny_mono q (fun x s' z => ?_) fun x s' z => ?_
  · obtain ⟨a', G', rfl, h1, h2, h3⟩ := z
    exact ⟨a'.gens, h1, (h2 _ _ _ _ _ _ hd).2.trans hg, h3⟩
  · obtain ⟨a', G', rfl, h1, h2, h3⟩ := z
    exact ⟨a'.gens, h1, (h2 _ _ _ _ _ _ hd).2.trans hg, h3⟩
end K76
/-! A for and an if inside a generator's run (own). -/
namespace K76
open PySem PyProof.Rows L2

section
variable {P : Program} {w : World} {A : Around} {R : GenEnd} {Y : Protocol} {n : Nat} {s₀ : Shared} {c : Code} {fs : List Frame} {s : Shared} {env : Env}
  {K : Flow → Sem PySem.Fin} {J : Value → Sem PySem.Fin} {gd : Bool → Bool} {lv : List Value → List Value}

theorem gseg_if {test : Expr} {body orelse : List Stmt} {pos : Pos}
    (h : wpAny (model P w) (A.over c fs) (isTrue test env (eval test env)) (fun b s' => if b = true then Seg (model P w) A R Y n s₀ c ((execs body env).wrap K J gd lv) fs s' else Seg (model P w) A R Y n s₀ c ((execs orelse env).wrap K J gd lv) fs s')
      (fun _ _ => False) s) : Seg (model P w) A R Y n s₀ c ((exec (.If test body orelse pos) env).wrap K J gd lv) fs s := by
  rw [exec_If]
  refine seg_bind_wrap (wpAny_standAt ?_)
  refine seg_bind_wrap (wpAny_mono h (fun b s' hb => ?_) fun _ _ z => z.elim)
  cases b with
  | true => exact hb
  | false => exact hb

theorem gseg_for {tg iter : Expr} {body orelse : List Stmt} {pos : Pos} (hs : ∀ x, foldedSetIterable iter env x = pure x)
    (h : wpAny (model P w) (A.over c fs) (eval iter env) (fun x s1 => wpAny (model P w) (A.over c fs) (pyIter x) (fun it s2 => ∀ p,
      Seg (model P w) A R Y n s₀ (.forLoop tg it body orelse env) ((model P w).den (.forLoop tg it body orelse env))
        (.ret (fun r => ((match r with | .ok f => (.pure f : Sem Flow) | .error e => .raise e).onRaise (cameBack env)).wrap K J gd lv) none (gd false) (lv []) c p [] :: fs) s2) (fun _ _ => False) s1) (fun _ _ => False) s) :
    Seg (model P w) A R Y n s₀ c ((exec (.For tg iter body orelse pos) env).wrap K J gd lv) fs s := by
  rw [exec_For]
  refine seg_bind_wrap (wpAny_standAt ?_)
  refine seg_bind_wrap (wpAny_mono h (fun x s1 h1 => ?_) fun _ _ z => z.elim)
  refine seg_bind_wrap (wpAny_of_eq (hs x) ?_)
  refine seg_bind_wrap (wpAny_standAt ?_)
  refine seg_bind_wrap (wpAny_holding (wpAny_mono h1 (fun it s2 h2 => ?_) fun _ _ z => z.elim))
  exact seg_call h2

/-- what a turn of the loop does with an exception -/
abbrev turnLost (env : Env) : Value → Sem PySem.Fin := fun e => (do noteFrame e env; theTreesLotGoes e : Sem Unit).bind fun _ => .raise e
abbrev turnNext (tg : Expr) (it : Value) (body orelse : List Stmt) (env : Env) : Flow → Sem PySem.Fin := fun f => match f with
  | .next | .cont => .pure (.again (.forLoop tg it body orelse env))
  | .brk => .pure (.done .next)
  | .ret v => .pure (.done (.ret v))
theorem gseg_turn {tg : Expr} {it : Value} {body orelse : List Stmt} (hl : ∀ v, letOwnedTupleGo tg it v = pure ())
    (h : wpAny (model P w) (A.over (.forLoop tg it body orelse env) fs) (pyNext it) (fun r s1 => match r with
      | none => Seg (model P w) A R Y n s₀ (.forLoop tg it body orelse env) (.pure (.again (.block orelse env))) fs s1
      | some v => wpAny (model P w) (A.over (.forLoop tg it body orelse env) fs) (assign tg env v) (fun _ s2 =>
          Seg (model P w) A R Y n s₀ (.forLoop tg it body orelse env) ((execs body env).wrap (turnNext tg it body orelse env) (turnLost env) id id) fs s2) (fun _ _ => False) s1)
      (fun _ _ => False) s) :
    Seg (model P w) A R Y n s₀ (.forLoop tg it body orelse env) ((model P w).den (.forLoop tg it body orelse env)) fs s := by
  show Seg _ A R Y n s₀ _ ((forTurn tg it body orelse env).onRaise (fun x => do noteFrame x env; theTreesLotGoes x)) fs s
  rw [Sem.onRaise_eq_wrap]
  unfold forTurn
  refine seg_bind_wrap (wpAny_standAt ?_)
  refine seg_bind_wrap (wpAny_onRaise (wpAny_mono h (fun r s1 h1 => ?_) fun _ _ z => z.elim))
  cases r with
  | none => exact h1
  | some v =>
    refine seg_bind_wrap (wpAny_of_eq (hl v) ?_)
    refine seg_bind_wrap (wpAny_mono h1 (fun _ s2 h2 => ?_) fun _ _ z => z.elim)
    rw [Sem.bind_eq_wrap', Sem.wrap_wrap]
    refine Eq.subst (motive := fun t => Seg (model P w) A R Y n s₀ _ t fs s2) (Sem.wrap_congr (execs body env) id id (fun f => ?_) (fun x => ?_)) h2
    · cases f <;> rfl
    · rfl
end
end K76
/-! The lines of a text, handed out one by one (own). -/
namespace K76
open PySem PyProof.Rows L2

/-- a line that is not left out -/
def keepL (x : Str) : Bool := match x.cps.toList with
  | [] => false
  | c :: _ => c != 35
/-- the numbers and lines that are handed out; i lines stand before -/
def keptOf : Nat → List Str → List (Int × Str)
  | _, [] => []
  | i, x :: r => if keepL x = true then ((i : Int) + 1, x) :: keptOf (i + 1) r else keptOf (i + 1) r

structure LineEnv (env : Env) : Prop where
  kind : env.scope.kind = .function
  co : env.scope.isCoroutine = false
  kN : env.kindOf "number" = some .local
  kL : env.kindOf "line" = some .local
  kT : env.kindOf "text" = some .local
theorem LineEnv.quiet {env : Env} (h : LineEnv env) : interactive env = false := by simp [interactive, h.kind]

structure Went (L Z : Addr) (s₀ s : Shared) : Prop where
  os : s.os = s₀.os
  gens : s.gens = s₀.gens
  keep : ∀ b o, b ≠ L → b ≠ Z + 1 → s₀.heap.get? b = some o → s.heap.get? b = some o
theorem Went.refl {L Z : Addr} {s : Shared} : Went L Z s s := ⟨rfl, rfl, fun _ _ _ _ e => e⟩
theorem Went.step {L Z : Addr} {s₀ s : Shared} {h' : Heap} {tk : Nat} (x : Went L Z s₀ s) (hk : ∀ b o, b ≠ L → b ≠ Z + 1 → s.heap.get? b = some o → h'.get? b = some o) : Went L Z s₀ { s with heap := h', toks := tk } :=
  ⟨x.os, x.gens, fun b o h1 h2 e => hk b o h1 h2 (x.keep b o h1 h2 e)⟩
theorem Went.tok {L Z : Addr} {s₀ s : Shared} (x : Went L Z s₀ s) (tk : Nat) : Went L Z s₀ { s with toks := tk } := ⟨x.os, x.gens, x.keep⟩

/-- at the loop's head: i lines are gone through -/
structure HeadAt (L Z : Addr) (its : Array Value) (i : Nat) (s : Shared) : Prop where
  loc : ∃ m tk, s.heap.Ns L m ∧ m "number" = some (.int (i : Int) tk)
  iter : s.heap.IsListIter (Z + 1) Z i
  lst : s.heap.IsList Z its
theorem HeadAt.stay {L Z : Addr} {its : Array Value} {i : Nat} {s s' : Shared} (h : HeadAt L Z its i s) (k : ∀ b o, (b = L ∨ b = Z ∨ b = Z + 1) → s.heap.get? b = some o → s'.heap.get? b = some o) : HeadAt L Z its i s' := by
  obtain ⟨⟨m, tk, hn, hm⟩, hi, hl⟩ := h
  exact ⟨⟨m, tk, hn.at fun o e => k _ o (.inl rfl) e, hm⟩, hi.at fun o e => k _ o (.inr (.inr rfl)) e, hl.at fun o e => k _ o (.inr (.inl rfl)) e⟩

/-- the protocol: what is handed out, and what it waits for -/
def YL (L Z : Addr) (kept : List (Int × Str)) : Protocol := fun n s₀ v s kap =>
  ∃ (k : Nat) (num : Int) (x : Str) (t : Addr) (tk tk2 : Tok), n + 1 + k = kept.length ∧ kept[k]? = some (num, x) ∧ v = .ref t ∧ s₀.heap.objs.size ≤ t ∧ IsTup s.heap t #[.int num tk, .str x tk2] ∧ Went L Z s₀ s ∧
    (∀ b, (b = L ∨ b = Z ∨ b = Z + 1) → b ≠ t ∧ ∃ o, s.heap.get? b = some o ∧ ∀ v, o.data ≠ .cell v) ∧
    ∀ s', (∀ b o, (b = L ∨ b = Z ∨ b = Z + 1) → s.heap.get? b = some o → s'.heap.get? b = some o) → ∀ v, (v = .none ∨ v = .bool true) → kap (.send v) s'
def RL (L Z : Addr) : GenEnd := fun n s₀ r s => ((r = .ok (.ret .none) ∨ r = .ok .next) ∧ (fun (n : Nat) (s₀ s : Shared) => n = 0 ∧ Went L Z s₀ s) n s₀ s) ∨ ∃ e, r = .error e ∧ (fun (_ : Value) (_ : Shared) => False) e s

section
variable {P : Program} {w : World} {A : Around} {env : Env} {s : Shared} {E : Value → Shared → Prop}
/-- number = number + 1 -/
theorem step_number {p1 p2 p3 p4 p5 : Pos} {k : Nat} {m : Str → Option Value} {i : Int} {tk : Tok} {Q : Flow → Shared → Prop} (le : LineEnv env) (hn : s.heap.Ns env.locals m) (hm : m "number" = some (.int i tk))
    (h : ∀ h' tk' tk2, h'.Ns env.locals (fun x => if x = ("number" : Str) then some (.int (i + 1) tk2) else m x) → Heap.SameBut env.locals s.heap h' → Q .next { s with heap := h', toks := tk' }) :
    wpAny (model P w) A (exec (.Assign [.Name "number" p1] (.BinOp (.Name "number" p2) .Add (.Constant (.int 1) k p3) p4) p5) env) Q E s := by
  refine wpAny_Assign_Name (wpAny_BinOp (wpAny_Name (wpAny_loadName_local le.kind le.kN hn hm (wpAny_Constant_int (PyProof.Rows.add_int ?_)))))
  refine wpAny_storeName_local le.kN hn (fun h' hn' hs' => ?_) (by rw [le.kind]; rfl)
  exact h h' _ _ hn' hs'
/-- line != "" and line[0] != "#" -/
theorem step_test {p1 p2 p3 p4 p5 p6 p7 p8 p9 : Pos} {k1 k2 k3 : Nat} {m : Str → Option Value} {x : Str} {tk : Tok} {whole : Sem Value} {Q : Bool → Shared → Prop} (le : LineEnv env) (hn : s.heap.Ns env.locals m) (hm : m "line" = some (.str x tk))
    (h : ∀ tk', Q (keepL x) { s with toks := tk' }) :
    wpAny (model P w) A (isTrue (.BoolOp .And [.Compare (.Name "line" p1) [.NotEq] [.Constant (.str "") k1 p2] p3, .Compare (.Subscript (.Name "line" p4) (.Constant (.int 0) k2 p5) p6) [.NotEq] [.Constant (.str "#") k3 p7] p8] p9) env whole) Q E s := by
  refine isTrue_and (wpAny_isTrue_Compare1 (wpAny_Name (wpAny_loadName_local le.kind le.kL hn hm (Calls.Constant_str (PyProof.Rows.ne_str (wpAny_truthy_bool ?_))))))
  have hk0 : (x != (Str.ofString "")) = !(x.cps.toList.isEmpty) := by
    have e0 : Str.ofString "" = ⟨#[]⟩ := by decide +kernel
    rw [e0]
    obtain ⟨⟨l⟩⟩ := x
    cases l with
    | nil => rfl
    | cons c r => rfl
  rw [hk0]
  obtain ⟨⟨l⟩⟩ := x
  cases l with
  | nil => exact h _
  | cons c r =>
    show if true = true then _ else _
    rw [if_pos rfl]
    refine isTrue_and (wpAny_isTrue_Compare1 (Subscript_ (wpAny_Name (wpAny_loadName_local le.kind le.kL hn hm (wpAny_Constant_int ?_)))))
    refine tail_any (typeIs_str _ _ _) slot_str_getitem.lookup (PyProof.Rows.getItem_str (c := c) rfl ?_ ?_) rfl
    · show (seqIndex? 0 (c :: r).length).bind _ = _
      have e1 : seqIndex? 0 (c :: r).length = some 0 := PySem.StrLaws.seqIndex_nonneg (by omega) (by simp)
      rw [e1]
      rfl
    refine Calls.Constant_str (PyProof.Rows.ne_str (wpAny_truthy_bool ?_))
    have hk1 : ((⟨#[c]⟩ : Str) != Str.ofString "#") = (c != 35) := by
      have e0 : Str.ofString "#" = ⟨#[35]⟩ := by decide +kernel
      rw [e0]
      by_cases e : c = 35
      · subst e; rfl
      · have e2 : (c != 35) = true := by simpa using e
        rw [e2]
        refine bne_iff_ne.mpr fun q => e ?_
        have q1 := congrArg (fun z : Str => z.cps.toList) q
        simpa using q1
    rw [hk1]
    cases e : (c != 35) with
    | true =>
      rw [if_pos rfl]
      refine isTrue_and_nil ?_
      have q := h (s.toks + 1 + 1 + 1 + 1)
      have ek : keepL ⟨⟨c :: r⟩⟩ = true := e
      rw [ek] at q
      exact q
    | false =>
      rw [if_neg Bool.false_ne_true]
      have q := h (s.toks + 1 + 1 + 1 + 1)
      have ek : keepL ⟨⟨c :: r⟩⟩ = false := e
      rw [ek] at q
      exact q
end
section
variable {P : Program} {w : World} {A : Around} {env : Env} {s : Shared} {E : Value → Shared → Prop}
/-- (number, line) -/
theorem step_pair {p1 p2 p3 : Pos} {k : Nat} {m : Str → Option Value} {i : Int} {x : Str} {tk tk2 : Tok} {Q : Value → Shared → Prop} (le : LineEnv env) (hn : s.heap.Ns env.locals m) (hm : m "number" = some (.int i tk)) (hm2 : m "line" = some (.str x tk2))
    (h : Q (.ref s.heap.objs.size) { s with heap := s.heap.push { cls := .type "tuple", data := .seq #[.int i tk, .str x tk2] } }) :
    wpAny (model P w) A (eval (.Tuple [.Name "number" p1, .Name "line" p2] k p3) env) Q E s := by
  refine wpAny_Tuple_spliced ?_
  show wpAny _ _ (spliced [(false, eval (.Name "number" p1) env), (false, eval (.Name "line" p2) env)]) _ _ s
  refine Calls.spliced_cons (wpAny_Name (wpAny_loadName_local le.kind le.kN hn hm ?_))
  refine Calls.spliced_cons (wpAny_Name (wpAny_loadName_local le.kind le.kL hn hm2 ?_))
  exact Calls.spliced_nil ⟨by show 2 ≤ sizeLine; decide, h⟩
end

/-- the loop's body, as it is written -/
abbrev bodyL (p1 p2 p3 p4 p5 q1 q2 q3 q4 q5 q6 q7 q8 q9 q10 r1 r2 r3 r4 r5 : Pos) (k0 k1 k2 k3 k4 : Nat) : List Stmt :=
  [.Assign [.Name "number" p1] (.BinOp (.Name "number" p2) .Add (.Constant (.int 1) k0 p3) p4) p5,
   .If (.BoolOp .And [.Compare (.Name "line" q1) [.NotEq] [.Constant (.str "") k1 q2] q3, .Compare (.Subscript (.Name "line" q4) (.Constant (.int 0) k2 q5) q6) [.NotEq] [.Constant (.str "#") k3 q7] q8] q9)
     [.Expr (.Yield (some (.Tuple [.Name "number" r1, .Name "line" r2] k4 r3)) r4) r5] [] q10]

theorem gen_loop {P : Program} {w : World} {A Ag : Around} {env : Env} {L Z : Addr} {its : Array Value} {lines : List Str} {kept : List (Int × Str)} {fs : List Frame} {c0 : Code} {pt : Pos} {kk : Result → Sem PySem.Fin} {g0 : Bool} {l0 : List Value} {p0 : Pos}
    {p1 p2 p3 p4 p5 q1 q2 q3 q4 q5 q6 q7 q8 q9 q10 r1 r2 r3 r4 r5 : Pos} {k0 k1 k2 k3 k4 : Nat} (le : LineEnv env) (hL : env.locals = L)
    (hA : A.over (.forLoop (.Name "line" pt) (.ref (Z + 1)) (bodyL p1 p2 p3 p4 p5 q1 q2 q3 q4 q5 q6 q7 q8 q9 q10 r1 r2 r3 r4 r5 k0 k1 k2 k3 k4) [] env) (.ret kk none g0 l0 c0 p0 [] :: fs) = Ag) (hh : Ag.handled = none)
    (hsp : splitAtGen fs = none) (hg0 : g0 = false) (hfg : fs.any Frame.guarded = false) (hLZ : L < Z) (hv : Vals (lines.map V.str) its.toList)
    (hend : ∀ (s₀ s : Shared), Went L Z s₀ s → Seg (model P w) A (RL L Z) (YL L Z kept) 0 s₀ c0 (kk (.ok .next)) fs s) :
    ∀ (rem : List Str) (i n : Nat) (dn : List (Int × Str)) (s₀ s : Shared), lines.drop i = rem → kept = dn ++ keptOf i rem → n + dn.length = kept.length → HeadAt L Z its i s → Went L Z s₀ s → s₀.heap.objs.size ≤ s.heap.objs.size →
      Seg (model P w) A (RL L Z) (YL L Z kept) n s₀ (.forLoop (.Name "line" pt) (.ref (Z + 1)) (bodyL p1 p2 p3 p4 p5 q1 q2 q3 q4 q5 q6 q7 q8 q9 q10 r1 r2 r3 r4 r5 k0 k1 k2 k3 k4) [] env)
        ((model P w).den (.forLoop (.Name "line" pt) (.ref (Z + 1)) (bodyL p1 p2 p3 p4 p5 q1 q2 q3 q4 q5 q6 q7 q8 q9 q10 r1 r2 r3 r4 r5 k0 k1 k2 k3 k4) [] env)) (.ret kk none g0 l0 c0 p0 [] :: fs) s := by
  have hL1 : L ≠ Z := Nat.ne_of_lt hLZ
  have hL2 : L ≠ Z + 1 := Nat.ne_of_lt (Nat.lt_succ_of_lt hLZ)
  have hZ2 : Z ≠ Z + 1 := Nat.ne_of_lt (Nat.lt_succ_self Z)
  intro rem
  induction rem with
  | nil =>
    intro i n dn s₀ s hd hk hn hH hW hsz0
    have hi : lines.length ≤ i := List.drop_eq_nil_iff.mp hd
    have hn0 : n = 0 := by
      rw [hk] at hn
      simp [keptOf] at hn
      exact hn
    subst hn0
    refine gseg_turn (fun v => rfl) ?_
    rw [hA]
    refine wpAny_pyNext_list_end hh hH.iter hH.lst ?_ fun h' hx => ?_
    · have e1 := hv.length
      have e2 : its.toList.length = its.size := Array.length_toList
      rw [List.length_map] at e1
      exact Array.getElem?_eq_none (by omega)
    show Seg _ _ _ _ 0 s₀ _ (.pure (.again (.block [] env))) _ _
    refine seg_again rfl ?_
    have hW' : Went L Z s₀ { s with heap := h' } := ⟨hW.os, hW.gens, fun b o h1 h2 e => hx b o h2 (hW.keep b o h1 h2 e)⟩
    show Seg _ _ _ _ 0 s₀ _ (do return PySem.Fin.done (← (execs [] env).onRaise (fun x => do noteFrame x env; theTreesLotGoes x))) _ _
    refine seg_bind (wpAny_onRaise (wpAny_execs_nil ?_))
    exact seg_leaf (.ok .next) (hend s₀ _ hW')
  | cons x rem ih =>
    intro i n dn s₀ s hd hk hn hH hW hsz0
    have hx0 : lines[i]? = some x := by
      have q := congrArg (fun z : List Str => z[0]?) hd
      simpa using q
    have hd' : lines.drop (i + 1) = rem := by
      rw [← List.drop_drop, hd]
      rfl
    obtain ⟨u, hu, ru⟩ := hv.get (i := i) (x := V.str x) (by rw [List.getElem?_map, hx0]; rfl)
    obtain ⟨tx, rfl⟩ := ru
    have hu' : its[i]? = some (.str x tx) := by simpa using hu
    obtain ⟨⟨m, tk, hns, hm⟩, hit, hls⟩ := hH
    refine gseg_turn (fun v => rfl) ?_
    rw [hA]
    refine wpAny_pyNext_list_item hit hls hu' fun h1 hit1 hs1 => ?_
    have hns1 : h1.Ns env.locals m := by rw [hL]; exact hns.sameBut hs1 hL2
    refine wpAny_assign_Name (wpAny_storeName_local le.kL hns1 (fun h2 hn2 hs2 => ?_) (by rw [le.kind]; rfl))
    rw [hL] at hs2
    -- number = number + 1
    refine seg_execs_cons (seg_wrap ?_)
    rw [hA]
    refine step_number (i := (i : Int)) (tk := tk) le hn2 ?_ fun h3 tk3 tk4 hn3 hs3 => ?_
    · show (if ("number" : Str) = ("line" : Str) then _ else m "number") = _
      rw [if_neg (by decide +kernel)]
      exact hm
    rw [hL] at hs3
    show Seg _ _ _ _ n s₀ _ ((execs _ env).wrap _ _ _ _) _ _
    -- the test
    refine seg_execs_cons (gseg_if ?_)
    rw [hA]
    refine step_test (x := x) (tk := tx) le hn3 ?_ fun tk5 => ?_
    · show (if ("line" : Str) = ("number" : Str) then _ else if ("line" : Str) = ("line" : Str) then _ else _) = _
      rw [if_neg (by decide +kernel), if_pos rfl]
    have kp : ∀ b o, b ≠ L → b ≠ Z + 1 → s.heap.get? b = some o → h3.get? b = some o := fun b o b1 b2 e =>
      (hs3.2 b b1).trans ((hs2.2 b b1).trans ((hs1.2 b b2).trans e))
    have hsz : s.heap.objs.size = h3.objs.size := by rw [hs3.1, hs2.1, hs1.1]
    have hls3 : h3.IsList Z its := hls.at fun o e => kp Z o hL1.symm hZ2 e
    have hit3 : h3.IsListIter (Z + 1) Z (i + 1) := hit1.at fun o e => (hs3.2 _ hL2.symm).trans ((hs2.2 _ hL2.symm).trans e)
    have hH3 : HeadAt L Z its (i + 1) { s with heap := h3, toks := tk5 } := ⟨⟨_, tk4, by rw [hL] at hn3; exact hn3, by
      show (if ("number" : Str) = ("number" : Str) then _ else _) = _
      rw [if_pos rfl]
      rfl⟩, hit3, hls3⟩
    have hW3 : Went L Z s₀ { s with heap := h3, toks := tk5 } := hW.step kp
    cases ek : keepL x with
    | false =>
      rw [if_neg Bool.false_ne_true]
      refine seg_execs_nil ?_
      show Seg _ _ _ _ n s₀ _ (.pure (.again _)) _ _
      refine seg_again rfl ?_
      refine ih (i + 1) n dn s₀ _ hd' ?_ hn hH3 hW3 (by show _ ≤ h3.objs.size; rw [← hsz]; exact hsz0)
      rw [hk, keptOf, if_neg (by rw [ek]; exact Bool.false_ne_true)]
    | true =>
      rw [if_pos rfl]
      have hk' : kept = dn ++ (((i : Int) + 1, x) :: keptOf (i + 1) rem) := by
        rw [hk, keptOf, if_pos ek]
      obtain ⟨n, rfl⟩ : ∃ j, n = j + 1 := ⟨n - 1, by
        rw [hk', List.length_append, List.length_cons] at hn
        omega⟩
      refine seg_execs_cons (seg_Expr_Yield ?_ rfl ?_ ?_ le.co le.quiet)
      · show (splitAtGen fs).map _ = none
        rw [hsp]
        rfl
      · show (g0 || fs.any Frame.guarded) = false
        rw [hg0, hfg]
        rfl
      rw [hA]
      refine step_pair (i := (i : Int) + 1) (x := x) (tk := tk4) (tk2 := tx) le hn3 ?_ ?_ ?_
      · show (if ("number" : Str) = ("number" : Str) then _ else _) = _
        rw [if_pos rfl]
      · show (if ("line" : Str) = ("number" : Str) then _ else if ("line" : Str) = ("line" : Str) then _ else _) = _
        rw [if_neg (by decide +kernel), if_pos rfl]
      intro kap hkap
      have hH4 : HeadAt L Z its (i + 1) { s with heap := h3.push { cls := .type "tuple", data := .seq #[.int ((i : Int) + 1) tk4, .str x tx] }, toks := tk5 } := hH3.stay fun b o _ e => Heap.get?_push_of_some _ e
      have hW4 : Went L Z s₀ { s with heap := h3.push { cls := .type "tuple", data := .seq #[.int ((i : Int) + 1) tk4, .str x tx] }, toks := tk5 } :=
        hW.step fun b o b1 b2 e => Heap.get?_push_of_some _ (kp b o b1 b2 e)
      refine ⟨dn.length, (i : Int) + 1, x, h3.objs.size, tk4, tx, by omega, ?_, rfl, ?_, ⟨_, Heap.get?_push_size _ rfl, rfl, _, rfl⟩, hW4, ?_, fun s' hs' v hv2 => ?_⟩
      · rw [hk', List.getElem?_append_right (Nat.le_refl _), Nat.sub_self]
        rfl
      · rw [← hsz]
        exact hsz0
      · obtain ⟨⟨m4, tk6, ⟨o1, es, ep, e1, d1, _⟩, _⟩, ⟨o2, e2, _, d2⟩, ⟨o3, e3, _, n3, d3⟩⟩ := hH3
        rintro b (rfl | rfl | rfl)
        · exact ⟨Nat.ne_of_lt (Heap.lt_size e1), o1, Heap.get?_push_of_some _ e1, fun v q => by rw [d1] at q; cases q⟩
        · exact ⟨Nat.ne_of_lt (Heap.lt_size e3), o3, Heap.get?_push_of_some _ e3, fun v q => by rw [d3] at q; cases q⟩
        · exact ⟨Nat.ne_of_lt (Heap.lt_size e2), o2, Heap.get?_push_of_some _ e2, fun v q => by rw [d2] at q; cases q⟩
      · have go : Seg (model P w) A (RL L Z) (YL L Z kept) n s' (.forLoop (.Name "line" pt) (.ref (Z + 1)) (bodyL p1 p2 p3 p4 p5 q1 q2 q3 q4 q5 q6 q7 q8 q9 q10 r1 r2 r3 r4 r5 k0 k1 k2 k3 k4) [] env)
            (.pure (.again (.forLoop (.Name "line" pt) (.ref (Z + 1)) (bodyL p1 p2 p3 p4 p5 q1 q2 q3 q4 q5 q6 q7 q8 q9 q10 r1 r2 r3 r4 r5 k0 k1 k2 k3 k4) [] env))) (.ret kk none g0 l0 c0 p0 [] :: fs) s' := by
          refine seg_again rfl ?_
          refine ih (i + 1) n (dn ++ [((i : Int) + 1, x)]) s' s' hd' ?_ ?_ (hH4.stay hs') .refl (Nat.le_refl _)
          · rw [hk', List.append_assoc]
            rfl
          · rw [List.length_append, List.length_singleton]
            omega
        rcases hv2 with rfl | rfl
        · exact hkap .none s' (seg_execs_nil go)
        · exact hkap (.bool true) s' (seg_execs_nil go)
end K76
/-! The generator from its start (own). -/
namespace K76
open PySem PyProof.Rows L2

section
variable {P : Program} {w : World} {A : Around} {env : Env} {s : Shared} {E : Value → Shared → Prop}
theorem raw_split {a b : Str} {t u : Tok} {Q : Value → Shared → Prop} (hb : (b.length == 0) = false) (hz : a.length + 2 ≤ sizeLine)
    (h : ∀ its tk, Vals ((Txt.split a b).map V.str) its → its.length ≤ sizeLine → Q (.ref s.heap.objs.size) { s with toks := tk, heap := s.heap.push { cls := .type "list", data := .seq its.toArray } }) :
    wpAny (model P w) A (call (.builtin "str.split") [.str a t, .str b u]) Q E s := by
  have hl : (Txt.split a b).length ≤ sizeLine := Nat.le_trans (PyProof.Rows.split_le a b) hz
  have hn : (Builtin.Str.partsBetween a (Builtin.Str.occurrences a b 0 a.length (a.length + 1)) b.length).length ≤ sizeLine := by
    have e1 := StrLaws.occ_length_le a b 0 a.length (a.length + 1)
    rw [length_partsBetween]; omega
  have fin : ∀ (l : List (Str × Tok)) (k : Nat), l.map (·.1) = Txt.split a b → Q (.ref s.heap.objs.size) { s with toks := k, heap := s.heap.push { cls := .type "list", data := .seq (strValues l).toArray } } := fun l k e => by
    have r := vals_strs l
    rw [e] at r
    refine h (strValues l) k r ?_
    rw [← r.length, List.length_map]
    exact hl
  cases h1 : (decide (a.length < b.length) || decide (Builtin.Str.strKind a < Builtin.Str.strKind b)) with
  | true => exact call_meets F.slot_str_split (typeIs_str _ _ _) F.entry_str_split (F.args_str_split_2 _ _) (meets_str_split_cannot_occur a b t u h1) (fin [(a, t)] s.toks (if_pos h1).symm)
  | false =>
    cases hf : (Builtin.Str.occurrences a b 0 a.length (a.length + 1)).isEmpty with
    | true => exact call_meets F.slot_str_split (typeIs_str _ _ _) F.entry_str_split (F.args_str_split_2 _ _) (meets_str_split_not_found a b t u h1 hb hf) (fin [(a, t)] s.toks ((if_neg (ne_true_of_eq_false h1)).trans (if_pos hf)).symm)
    | false =>
      refine call_meets F.slot_str_split (typeIs_str _ _ _) F.entry_str_split (F.args_str_split_2 _ _) (meets_str_split_sep a b t u h1 hb hf (by omega) hn) ?_
      show Q (.ref s.heap.objs.size) { s with toks := _, heap := s.heap.push { cls := .type "list", data := .seq (strsFrom s.toks (Builtin.Str.partsBetween a (Builtin.Str.occurrences a b 0 a.length (a.length + 1)) b.length)).toArray } }
      rw [strsFrom_eq]
      exact fin _ _ ((numbered_texts _ _).trans ((if_neg (ne_true_of_eq_false h1)).trans (if_neg (ne_true_of_eq_false hf))).symm)
/-- text.split("\n") -/
theorem eval_split {p1 p2 p3 p4 : Pos} {k : Nat} {m : Str → Option Value} {a b : Str} {tk : Tok} {Q : Value → Shared → Prop} (le : LineEnv env) (hn : s.heap.Ns env.locals m) (hm : m "text" = some (.str a tk)) (hb : (b.length == 0) = false) (hz : a.length + 2 ≤ sizeLine)
    (hline : (p2.endLine == p4.line) = true)
    (h : ∀ its tk, Vals ((Txt.split a b).map V.str) its → its.length ≤ sizeLine → Q (.ref s.heap.objs.size) { s with toks := tk, heap := s.heap.push { cls := .type "list", data := .seq its.toArray } }) :
    wpAny (model P w) A (eval (.Call (.Attribute (.Name "text" p1) "split" p2) [.Constant (.str b) k p3] [] p4) env) Q E s := by
  refine PySem.Call_method1 rfl rfl hline (wpAny_Name (wpAny_loadName_local le.kind le.kT hn hm ?_))
  refine ⟨"str", _, F.plainAttrs_str, F.slot_str_split, F.type_str_split, typeIs_str _ _ _, (fun _ e => nomatch e), Calls.callWith_builtin rfl (Calls.evalArgs_plain (Calls.spliced_cons ?_))⟩
  refine Calls.Constant_str (Calls.spliced_nil ?_)
  exact raw_split hb hz h
end

/-- the def's body, as it is written -/
abbrev bodyG (a1 a2 a3 pt c1 c2 c3 c4 pf p1 p2 p3 p4 p5 q1 q2 q3 q4 q5 q6 q7 q8 q9 q10 r1 r2 r3 r4 r5 : Pos) (ka kc k0 k1 k2 k3 k4 : Nat) : List Stmt :=
  [.Assign [.Name "number" a1] (.Constant (.int 0) ka a2) a3,
   .For (.Name "line" pt) (.Call (.Attribute (.Name "text" c1) "split" c2) [.Constant (.str "\n") kc c3] [] c4) (bodyL p1 p2 p3 p4 p5 q1 q2 q3 q4 q5 q6 q7 q8 q9 q10 r1 r2 r3 r4 r5 k0 k1 k2 k3 k4) [] pf]

theorem gen_start {P : Program} {w : World} {A : Around} {env : Env} {s : Shared} {m : Str → Option Value} {x : Str} {tk : Tok}
    {a1 a2 a3 pt c1 c2 c3 c4 pf p1 p2 p3 p4 p5 q1 q2 q3 q4 q5 q6 q7 q8 q9 q10 r1 r2 r3 r4 r5 : Pos} {ka kc k0 k1 k2 k3 k4 : Nat} (le : LineEnv env) (hh : (A.deeper env).handled = none)
    (hn : s.heap.Ns env.locals m) (hm : m "text" = some (.str x tk)) (hz : x.length + 2 ≤ sizeLine) (hline : (c2.endLine == c4.line) = true) :
    Seg (model P w) A (RL env.locals s.heap.objs.size) (YL env.locals s.heap.objs.size (keptOf 0 (Txt.split x "\n"))) (keptOf 0 (Txt.split x "\n")).length s
      (.func (bodyG a1 a2 a3 pt c1 c2 c3 c4 pf p1 p2 p3 p4 p5 q1 q2 q3 q4 q5 q6 q7 q8 q9 q10 r1 r2 r3 r4 r5 ka kc k0 k1 k2 k3 k4) env) ((model P w).den (.func (bodyG a1 a2 a3 pt c1 c2 c3 c4 pf p1 p2 p3 p4 p5 q1 q2 q3 q4 q5 q6 q7 q8 q9 q10 r1 r2 r3 r4 r5 ka kc k0 k1 k2 k3 k4) env)) [] s := by
  have hlt : env.locals < s.heap.objs.size := hn.lt
  have hL1 : env.locals ≠ s.heap.objs.size := Nat.ne_of_lt hlt
  refine seg_func ?_
  refine seg_execs_cons (seg_wrap ?_)
  rw [GenW.over_func]
  refine wpAny_Assign_Name (wpAny_Constant_int ?_)
  refine wpAny_storeName_local le.kN hn (fun h1 hn1 hs1 => ?_) (by rw [le.kind]; rfl)
  show Seg _ _ _ _ _ _ _ ((execs _ env).wrap _ _ _ _) _ _
  refine seg_execs_cons (gseg_for (fun _ => rfl) ?_)
  rw [GenW.over_func]
  refine eval_split (a := x) (tk := tk) le hn1 ?_ (by decide +kernel) hz hline fun its tk2 hv hle => ?_
  · show (if ("text" : Str) = ("number" : Str) then _ else m "text") = _
    rw [if_neg (by decide +kernel)]
    exact hm
  have e1 : h1.objs.size = s.heap.objs.size := hs1.1
  refine wpAny_pyIter_list (l := h1.objs.size) (items := its.toArray) ⟨_, Heap.get?_push_size _ rfl, rfl, _, rfl⟩ ?_
  intro p
  rw [e1]
  have hsz : (h1.push { cls := .type "list", data := .seq its.toArray }).objs.size = s.heap.objs.size + 1 := by rw [Heap.size_push, e1]
  show Seg _ _ _ _ _ _ (.forLoop _ (.ref (h1.push { cls := .type "list", data := .seq its.toArray }).objs.size) _ _ _) ((model P w).den (.forLoop _ (.ref (h1.push { cls := .type "list", data := .seq its.toArray }).objs.size) _ _ _)) _ _
  rw [hsz]
  refine gen_loop (Ag := A.deeper env) (its := its.toArray) (lines := Txt.split x "\n") le rfl ?_ hh rfl rfl rfl hlt (by simpa using hv) (fun s₀ s' hW => ?_) (Txt.split x "\n") 0 _ [] s _ rfl rfl rfl ?_ ?_ ?_
  · exact (GenW.over_loop rfl rfl).trans GenW.over_func
  · show Seg _ _ _ _ _ _ _ ((execs [] env).wrap _ _ _ _) _ _
    refine seg_execs_nil ?_
    exact seg_end (.ok (.ret .none)) (.inl ⟨.inl rfl, rfl, hW⟩)
  · have kp : ∀ b o, h1.get? b = some o → ((h1.push { cls := .type "list", data := .seq its.toArray }).push { cls := .type "list_iterator", data := .fields #[.ref s.heap.objs.size, .int 0 0] }).get? b = some o := fun b o e => Heap.get?_push_of_some _ (Heap.get?_push_of_some _ e)
    refine ⟨⟨_, s.toks, hn1.at fun o e => kp _ o e, ?_⟩, ?_, ?_⟩
    · show (if ("number" : Str) = ("number" : Str) then _ else _) = _
      rw [if_pos rfl]
      rfl
    · rw [← hsz]
      exact ⟨_, Heap.get?_push_size _ rfl, rfl, rfl⟩
    · refine ⟨{ cls := .type "list", data := .seq its.toArray }, Heap.get?_push_of_some _ ?_, rfl, _, rfl⟩
      rw [← e1]
      exact Heap.get?_push_size _ rfl
  · refine ⟨rfl, rfl, fun b o b1 b2 e => Heap.get?_push_of_some _ (Heap.get?_push_of_some _ ?_)⟩
    exact (hs1.2 b b1).trans e
  · show s.heap.objs.size ≤ ((h1.push _).push _).objs.size
    rw [Heap.size_push, Heap.size_push, e1]
    omega
end K76
/-! A for over the lines that the generator hands out, with any body (own). -/
namespace K76
open PySem PyProof.Rows L2

def IsBodyG (b : List Stmt) : Prop := ∃ (a1 a2 a3 pt c1 c2 c3 c4 pf p1 p2 p3 p4 p5 q1 q2 q3 q4 q5 q6 q7 q8 q9 q10 r1 r2 r3 r4 r5 : Pos) (ka kc k0 k1 k2 k3 k4 : Nat),
  (c2.endLine == c4.line) = true ∧ b = bodyG a1 a2 a3 pt c1 c2 c3 c4 pf p1 p2 p3 p4 p5 q1 q2 q3 q4 q5 q6 q7 q8 q9 q10 r1 r2 r3 r4 r5 ka kc k0 k1 k2 k3 k4
def namesL : List (Str × NameKind) := [(("text" : Str), NameKind.local), (("number" : Str), NameKind.local), (("line" : Str), NameKind.local)]
structure GL (st : Stmt) : Prop where
  kind : (defScope st).kind = .function
  co : (defScope st).isCoroutine = false
  gen : (defScope st).isGenerator = true
  names : (defScope st).names = namesL
  body : IsBodyG (defBody st)

section
variable {X : Cx} {pins : List (Addr × Obj)} {σ : L2.St} {H : Hp} {s : Shared}
theorem regen {A : Array GenState} (I : Inv X pins σ H s) (hb : AllBare A) : Inv X pins σ H { s with gens := A } :=
  ⟨I.ok, I.os, hb, I.base, I.loc, I.cell, I.free, I.freeC, I.pin, I.hok, I.len⟩
theorem regen' {A : Array GenState} (I : Inv X pins σ H { s with gens := A }) (hb : AllBare s.gens) : Inv X pins σ H s :=
  ⟨I.ok, I.os, hb, I.base, I.loc, I.cell, I.free, I.freeC, I.pin, I.hok, I.len⟩

/-- what a call of the generator def gives -/
theorem call_lines {E : Value → Shared → Prop} {Q : Value → Shared → Prop} {f : Addr} {fd : FuncData} {st : Stmt} {x : Str} {t : Tok} (F : Fun X.K "record_lines" "record_lines" st f fd) (S : GL st) (hb : Binds X.K fd ["text"] []) (I : Inv X pins σ H s) (hr : X.A.depth < recursionLimit)
    (h : ∀ (s' : Shared) (env : Env) (m : Str → Option Value) (body : List Stmt) (a : Addr) (g : Nat), IsBodyG body → LineEnv env → env.locals = s.heap.objs.size → s'.heap.Ns env.locals m → m "text" = some (.str x t) → s.heap.objs.size < a →
      s'.heap.IsGen a g → s'.gens[g]? = some (.fresh (.func body env)) → s'.os = s.os → AllBare s'.gens → (∀ b o, s.heap.get? b = some o → s'.heap.get? b = some o) → Q (.ref a) s') :
    wpAny (model X.prog X.w) X.A (call (.ref f) [.str x t]) Q E s := by
  obtain ⟨oc, od, kV, doc, pm, an, cdv, ct, osl, rfl, lk, hcd⟩ := F.ex
  have KX : X.K.In s.heap := I.kIn
  have nm : (defScope st).names = namesL := S.names
  have lt : ("text" : Str) = ("text" : Str) := rfl
  refine wpAny_call (codeAny_call_generator hr (KX _ _ lk) rfl S.co S.gen rfl (PySem.W.codeRec_of KX hcd) (hb s [.str x t] KX rfl _ _ _ _ ?_))
  refine wpAny_newFunctionEnv_cells S.kind (fun y hy => ?_) fun env he s1 x1 => ?_
  · have hy' : y ∈ [(("text" : Str), Value.str x t)] := hy
    rw [List.mem_singleton.mp hy']
    refine .inl ?_
    show (defScope st).names.lookup ("text" : Str) = _
    rw [nm]
    decide +kernel
  subst he
  have lim1 : s1.heap.NoLimit := I.nolimit.keeps x1.toInCall.keep
  refine ⟨lim1, ?_⟩
  obtain ⟨h1, tk, es1, hk1⟩ := x1.done
  have gen1 : s1.gens = s.gens := by rw [es1]
  have os1 : s1.os = s.os := by rw [es1]
  have lt1 : s.heap.objs.size < s1.heap.objs.size := x1.toInCall.ns.lt
  have kd : ∀ n : Str, (n = "text" ∨ n = "number" ∨ n = "line") → (defScope st).names.lookup n = some .local := fun n hn => by
    rw [nm]
    rcases hn with rfl | rfl | rfl <;> decide +kernel
  have le : LineEnv (newEnv (defScope st) s.heap.objs.size mainGlobals (cellsFrom (s.heap.objs.size + 1) (defScope st).names []) ("record_lines" ++ ".<locals>.") (some f) cdv none builtinsNs) :=
    ⟨S.kind, S.co, kd _ (.inr (.inl rfl)), kd _ (.inr (.inr rfl)), kd _ (.inl rfl)⟩
  refine h _ _ _ (defBody st) _ s1.gens.size S.body le rfl (x1.toInCall.ns.push _) ?_ lt1 ⟨_, _, _, Heap.get?_push_size _ rfl, rfl, rfl, rfl⟩ (Array.getElem?_push_size ..) os1 (AllBare.push (by rw [gen1]; exact I.bare) rfl) fun b o e => Heap.get?_push_of_some _ (x1.toInCall.keep b o e)
  show bindL _ [(("text" : Str), Value.str x t)] _ ("text" : Str) = _
  unfold bindL
  rw [if_pos le.kT]
  unfold bindL
  dsimp only
  rw [if_pos rfl]
end
end K76
/-! A for over the lines that the generator hands out, with any body (own). -/
namespace K76
open PySem PyProof.Rows L2

/-- what is to be read of such a loop: W by the number of lines that have come -/
def tLines (ta : TA) (g : TG) (tb : TS) : TS := fun D σ H => ta σ H fun vs H1 => ∃ x : Str, vs = [.str x] ∧ x.length + 2 ≤ sizeLine ∧ ∃ W : Nat → L2.St → Hp → Prop, W 0 σ H1 ∧
  (∀ k num ln σ H, (keptOf 0 (Txt.split x "\n"))[k]? = some (num, ln) → W k σ H → ∀ t, H t = none → g (.ref t) σ (upd H t (.tup [.int num, .str ln])) fun σ2 H2 => tb { D with nx := W (k + 1), ct := W (k + 1), bk := D.nx } σ2 H2) ∧
  ∀ σ H, W (keptOf 0 (Txt.split x "\n")).length σ H → D.nx σ H

section
variable {X : Cx} {pins : List (Addr × Obj)} {σ : L2.St} {H : Hp} {s : Shared}
theorem isGen_obj {h : Heap} {a : Addr} {g : Nat} (x : h.IsGen a g) : ∃ o, h.get? a = some o ∧ ∀ v, o.data ≠ .cell v := by
  obtain ⟨o, nm, qn, ho, _, hd, _⟩ := x
  exact ⟨o, ho, fun v q => by rw [hd] at q; cases q⟩
/-- the consumer's state behind a turn of the generator -/
theorem behind {H' : Hp} {L Z : Addr} {s' : Shared} (I : Inv X pins σ H s) (ho : s'.os = s.os) (hb : AllBare s'.gens) (hL : FpOk X pins H L) (hZ : FpOk X pins H (Z + 1)) (keep : ∀ b o, b ≠ L → b ≠ Z + 1 → s.heap.get? b = some o → s'.heap.get? b = some o)
    (hH : H' = H ∨ ∃ t xs, H' = upd H t (.tup xs) ∧ s.heap.objs.size ≤ t ∧ ObjOk X.prog X.w H' s'.heap t (.tup xs)) : Inv X pins σ H' s' := by
  have hn : ∀ b u, H b = some u → b ≠ L ∧ b ≠ Z + 1 := fun b u e => ⟨fun q => (by rw [q, hL.1] at e; cases e), fun q => (by rw [q, hZ.1] at e; cases e)⟩
  have old : HOk X.prog X.w H s'.heap := fun b u e => (I.hok b u e).stay (fun c v hc q => by
    have hc' : c ≠ L ∧ c ≠ Z + 1 := by
      rcases hc with rfl | hc
      · exact hn _ _ e
      · exact hn _ _ hc
    exact keep c v hc'.1 hc'.2 q) (fun _ q => q) fun _ _ q => q
  have hch : ∀ b ∈ [L, Z + 1], (b ∈ X.ex ∨ X.s_0.heap.objs.size ≤ b) ∧ b ≠ X.env.locals ∧ (∀ x c, X.env.cells.lookup x = some c → c ≠ b) ∧ ∀ p ∈ X.pn ++ pins, p.1 ≠ b := fun b hm => by
    rcases List.mem_cons.mp hm with rfl | hm
    · exact ⟨hL.2.2.2.1, hL.2.1, hL.2.2.2.2.1, hL.2.2.2.2.2⟩
    · rw [List.mem_singleton.mp hm]
      exact ⟨hZ.2.2.2.1, hZ.2.1, hZ.2.2.2.2.1, hZ.2.2.2.2.2⟩
  have nch : ∀ b, b ∉ [L, Z + 1] → b ≠ L ∧ b ≠ Z + 1 := fun b hm => ⟨fun q => hm (by rw [q]; exact List.mem_cons_self), fun q => hm (by rw [q]; simp)⟩
  have u0 : Un (frs X.stack) [L, Z + 1] H H s.heap s'.heap := ⟨fun b o e _ _ hx => keep b o (nch b hx).1 (nch b hx).2 e, fun b o e _ _ hx => ⟨o.slots, keep b o (nch b hx).1 (nch b hx).2 e⟩, fun _ _ _ n _ => n,
    fun b o e hx => ⟨o, keep b o (nch b hx).1 (nch b hx).2 e⟩, fun _ _ q => q, fun _ _ _ q => q, fun b ps q => ⟨#[], by rw [q]; simp⟩⟩
  rcases hH with rfl | ⟨t, xs, rfl, ht, ob⟩
  · exact I.call' ho u0 old hb hch
  · have hf : H t = none := I.hok.fresh ht
    refine I.call' ho ⟨u0.keep, u0.slot, fun b o e n _ => ?_, u0.there, fun b ys q => ?_, fun b o v q => ?_, fun b ps q => ?_⟩ (fun b v e => ?_) hb hch
    · rw [upd_ne (Nat.ne_of_lt (Nat.lt_of_lt_of_le (Heap.lt_size e) ht))]
      exact n
    · rw [upd_ne (ne_of_none q hf)]
      exact q
    · rw [upd_ne (ne_of_none q hf)]
      exact q
    · refine ⟨#[], ?_⟩
      rw [upd_ne (ne_of_none q hf), q]
      simp
    · by_cases hbt : b = t
      · subst hbt
        rw [upd_same] at e
        cases e
        exact ob
      · rw [upd_ne hbt] at e
        exact (old b v e).stay (fun _ _ _ z => z) (fun c z => by rw [upd_ne (ne_of_none z hf)]; exact z) fun c ys z => by rw [upd_ne (ne_of_none z hf)]; exact z

theorem ps_forLines {tg e : Expr} {body : List Stmt} {ta : TA} {g : TG} {tb : TS} {p pos pos' : Pos} {f : Addr} {fd : FuncData} {st : Stmt} (hx : ∀ e s, X.xe e s → False) (hc : X.calm = true) (F : Fun X.K "record_lines" "record_lines" st f fd) (S : GL st) (hb : Binds X.K fd ["text"] [])
    (hr : X.A.depth < recursionLimit) (hgl : Gl X "record_lines") (hmg : X.mg "record_lines" = some (.ref f)) (ha : PA X [e] ta) (hg : PG X tg g) (hbody : PSs X body tb)
    (he : starEach [e] X.env = (false, eval e X.env) :: starEach [] X.env := by rfl) :
    PS X (.For tg (.Call (.Name "record_lines" p) [e] [] pos) body [] pos') (tLines ta g tb) := by
  refine ⟨fun pins s σ H D I h => ?_⟩
  have noE : ∀ {E : Value → Shared → Prop} {α : Type} {t : Sem α} {Q : α → Shared → Prop} {s : Shared}, wpAny (model X.prog X.w) X.A t Q X.xe s → wpAny (model X.prog X.w) X.A t Q E s := fun w => wpAny_mono w (fun _ _ z => z) fun e s z => (hx e s z).elim
  refine wpAny_For (wpAny_Call_Name_kw (ld_glob I hgl hmg ?_ (by decide +kernel))) (by intro _; rfl)
  refine PySem.W.callWith_K (h₀ := X.base) I.ok.mod.kin F.kp (thn (ha.run pos pins s σ H _ I h) fun us s1 ⟨vs, H1, I1, r, q⟩ => ⟨I1.kIn, ?_⟩) he rfl
  obtain ⟨x, rfl, hz, W, w0, turn, fin⟩ := q
  cases r with
  | cons r rr =>
  cases rr
  obtain ⟨tx, rfl⟩ := r
  refine call_lines F S hb I1 hr fun s2 env m gbody a gi hB le eL hns hm haL hgen hgs hos hba kp => ?_
  refine wpAny_pyIter_gen hgen ?_
  obtain ⟨a1, a2, a3, pt, c1, c2, c3, c4, pf, p1, p2, p3, p4, p5, q1, q2, q3, q4, q5, q6, q7, q8, q9, q10, r1, r2, r3, r4, r5, ka, kc, k0, k1, k2, k3, k4, hline, rfl⟩ := hB
  have hh : X.A.handled = none := I.ok.hd hc
  have I2 : Inv X pins σ H1 s2 := I1.call' (ch := []) hos (Un.kept kp) (I1.hok.kept kp) hba fun b z => by simp at z
  have haZ : a < s2.heap.objs.size := (isGen_obj hgen).elim fun o ho => Heap.lt_size ho.1
  -- the four places
  have fL : FpOk X pins H1 env.locals := by
    rw [eL]
    exact I1.fpOk (Nat.le_refl _) (I1.hok.fresh (Nat.le_refl _))
  have fa : FpOk X pins H1 a := I1.fpOk (Nat.le_of_lt haL) (I1.hok.fresh (Nat.le_of_lt haL))
  have fZ : FpOk X pins H1 s2.heap.objs.size := I2.fpOk (Nat.le_refl _) (I2.hok.fresh (Nat.le_refl _))
  have fZ1 : FpOk X pins H1 (s2.heap.objs.size + 1) := I2.fpOk (Nat.le_succ _) (I2.hok.fresh (Nat.le_succ _))
  have hLlt : env.locals < s2.heap.objs.size := hns.lt
  generalize hZ : s2.heap.objs.size = Z at *
  have haL' : a ≠ env.locals := by
    rw [eL]
    exact Nat.ne_of_gt haL
  have haZ1 : a ≠ Z + 1 := Nat.ne_of_lt (Nat.lt_succ_of_lt haZ)
  have four : ∀ {H' : Hp}, (∀ b ∈ [env.locals, a, Z, Z + 1], H' b = none) → ∀ b ∈ [env.locals, a, Z, Z + 1], FpOk X pins H' b := fun hn b hm => by
    refine ⟨hn b hm, ?_⟩
    rcases List.mem_cons.mp hm with rfl | hm
    · exact fL.2
    rcases List.mem_cons.mp hm with rfl | hm
    · exact fa.2
    rcases List.mem_cons.mp hm with rfl | hm
    · exact fZ.2
    · rw [List.mem_singleton.mp hm]
      exact fZ1.2
  have mL : env.locals ∈ [env.locals, a, Z, Z + 1] := List.mem_cons_self
  have ma : a ∈ [env.locals, a, Z, Z + 1] := List.mem_cons_of_mem _ List.mem_cons_self
  have mZ : Z ∈ [env.locals, a, Z, Z + 1] := List.mem_cons_of_mem _ (List.mem_cons_of_mem _ List.mem_cons_self)
  have mZ1 : Z + 1 ∈ [env.locals, a, Z, Z + 1] := List.mem_cons_of_mem _ (List.mem_cons_of_mem _ (List.mem_cons_of_mem _ List.mem_cons_self))
  refine codeAny_forLoop_any (fun n s' => ∃ k σ' H', n + k = (keptOf 0 (Txt.split x "\n")).length ∧ Inv X pins σ' H' s' ∧ (∀ b ∈ [env.locals, a, Z, Z + 1], H' b = none) ∧ s'.heap.IsGen a gi ∧
    (∃ gs, s'.gens[gi]? = some gs ∧ gs.Goes (model X.prog X.w) X.A.in1 (RL env.locals Z) (YL env.locals Z (keptOf 0 (Txt.split x "\n"))) n (.send .none) (s'.setGen gi .running)) ∧ W k σ' H') ?_ (keptOf 0 (Txt.split x "\n")).length
    ⟨0, σ, H1, rfl, I2, fun b hm => ?_, hgen, ⟨_, hgs, rfl, ?_⟩, w0⟩
  · rintro n s3 ⟨k, σ3, H3, hn, I3, fr3, hg3, ⟨gs, hgs3, hgo⟩, w3⟩
    have F3 := four fr3
    have gb : gi < s3.gens.size := (Array.getElem?_eq_some_iff.mp hgs3).1
    refine next_genG hh I3.nolimit hr hg3 hgs3 hgo (fun v s4 gs' hbare hY => ?_) (fun s4 hF h' hk' => ?_) (fun e s4 hE => hE.elim)
    · -- a line has come
      obtain ⟨k', num, ln, t, tk, tk2, hn2, hkk, rfl, ht, htup, hW, hobj, hkap⟩ := hY
      cases n with
      | zero => exact (hkap s4 (fun _ _ _ e => e) .none (.inl rfl)).elim
      | succ n =>
      have ek : k' = k := by
        have hn2' : n + 1 + k' = (keptOf 0 (Txt.split x "\n")).length := hn2
        omega
      subst ek
      cases gs' with
      | running => exact (hkap s4 (fun _ _ _ e => e) .none (.inl rfl)).elim
      | finished => exact (hkap s4 (fun _ _ _ e => e) .none (.inl rfl)).elim
      | fresh c =>
        have q := (hkap s4 (fun _ _ _ e => e) (.bool true) (.inr rfl)).1
        cases q
      | suspended kc' lc' cc' pc' fc' clc' =>
      have g4 : s4.gens = s3.gens.setIfInBounds gi .running := hW.gens
      have g4l : gi < s4.gens.size := by
        rw [g4]
        simpa using gb
      have hb4 : AllBare s4.gens := by
        rw [g4]
        exact allBare_setGen (s := s3) (g := gi) (x := .running) I3.bare rfl
      have hb5 : AllBare (s4.setGen gi (.suspended kc' lc' cc' pc' fc' clc')).gens := allBare_setGen hb4 hbare
      have ht' : s3.heap.objs.size ≤ t := ht
      have I5 : Inv X pins σ3 (upd H3 t (.tup [.int num, .str ln])) (s4.setGen gi (.suspended kc' lc' cc' pc' fc' clc')) :=
        behind I3 hW.os hb5 (F3 _ mL) (F3 _ mZ1) hW.keep (.inr ⟨t, _, rfl, ht', ⟨by show 2 ≤ sizeLine; decide, [.int num tk, .str ln tk2], .cons ⟨tk, rfl⟩ (.cons ⟨tk2, rfl⟩ .nil), htup⟩⟩)
      have tf : H3 t = none := I3.hok.fresh ht'
      have gn5 : ∀ b ∈ [env.locals, a, Z, Z + 1], upd H3 t (.tup [.int num, .str ln]) b = none := fun b hm => by
        have hbt : b ≠ t := by
          rcases List.mem_cons.mp hm with rfl | hm
          · exact (hobj _ (.inl rfl)).1
          rcases List.mem_cons.mp hm with rfl | hm
          · obtain ⟨o, ho, _⟩ := isGen_obj hg3
            exact Nat.ne_of_lt (Nat.lt_of_lt_of_le (Heap.lt_size ho) ht')
          rcases List.mem_cons.mp hm with rfl | hm
          · exact (hobj _ (.inr (.inl rfl))).1
          · rw [List.mem_singleton.mp hm]
            exact (hobj _ (.inr (.inr rfl))).1
        rw [upd_ne hbt]
        exact fr3 b hm
      have hg5 : s4.heap.IsGen a gi := by
        obtain ⟨o, nm, qn, ho, hr4⟩ := hg3
        exact ⟨o, nm, qn, hW.keep a o haL' haZ1 ho, hr4⟩
      have obj5 : ∀ b ∈ [env.locals, a, Z, Z + 1], ∃ o, s4.heap.get? b = some o ∧ ∀ v, o.data ≠ .cell v := fun b hm => by
        rcases List.mem_cons.mp hm with rfl | hm
        · exact (hobj _ (.inl rfl)).2
        rcases List.mem_cons.mp hm with rfl | hm
        · exact isGen_obj hg5
        rcases List.mem_cons.mp hm with rfl | hm
        · exact (hobj _ (.inr (.inl rfl))).2
        · rw [List.mem_singleton.mp hm]
          exact (hobj _ (.inr (.inr rfl))).2
      have I5' := I5.pinned (four gn5) obj5
      generalize hpl : pinsAt [env.locals, a, Z, Z + 1] (s4.setGen gi (.suspended kc' lc' cc' pc' fc' clc')).heap = pl at I5'
      have inPl : ∀ b ∈ [env.locals, a, Z, Z + 1], ∀ o, s4.heap.get? b = some o → (b, o) ∈ pl := fun b hm o ho => by
        rw [← hpl]
        exact mem_pinsAt hm ho
      have hs5 : (s4.setGen gi (.suspended kc' lc' cc' pc' fc' clc')).gens[gi]? = some (.suspended kc' lc' cc' pc' fc' clc') := setGen_at g4l
      -- the target's tuple is nobody's
      show wpAny _ _ (letOwnedTupleGo tg (.ref a) (.ref t)) _ _ _
      obtain ⟨og, ong, oqn, hog, hogc, hogd, _⟩ := id hg5
      refine go_of (s := s4.setGen gi (.suspended kc' lc' cc' pc' fc' clc')) hog hogc hogd (by decide) ?_
      -- the target
      have rt := wpAny_asleep hs5 (hg.run _ { s4.setGen gi (.suspended kc' lc' cc' pc' fc' clc') with gens := (s4.setGen gi (.suspended kc' lc' cc' pc' fc' clc')).gens.map dulled } σ3 _ (.ref t) (.ref t) _ (regen I5' (bare_dulled hb5)) rfl (turn k' num ln σ3 H3 hkk w3 t tf))
      refine wpAny_mono rt (fun _ s6 h6 => ?_) fun e s6 ⟨_, _, _, z⟩ => (hx _ _ z).elim
      obtain ⟨A6, sim6, hs6, σ6, H6, I6, q6⟩ := h6
      have hb6 : AllBare s6.gens := bare_back I6.bare sim6
      -- the body
      have rb := wpAny_asleep hs6 (hbody.run _ { s6 with gens := s6.gens.map dulled } σ6 H6 _ (regen (regen' I6 hb6) (bare_dulled hb6)) q6)
      refine wpAny_mono rb (fun fl s7 h7 => ?_) fun e s7 ⟨_, _, _, z⟩ => (hx _ _ z).elim
      obtain ⟨A7, sim7, hs7, q7⟩ := h7
      have again : ∀ {σ7 : L2.St} {H7 : Hp}, Inv X (pins ++ pl) σ7 H7 { s7 with gens := A7 } → W (k' + 1) σ7 H7 → ∃ m, m < n + 1 ∧ ∃ k σ' H', m + k = (keptOf 0 (Txt.split x "\n")).length ∧ Inv X pins σ' H' s7 ∧ (∀ b ∈ [env.locals, a, Z, Z + 1], H' b = none) ∧ s7.heap.IsGen a gi ∧
          (∃ gs, s7.gens[gi]? = some gs ∧ gs.Goes (model X.prog X.w) X.A.in1 (RL env.locals Z) (YL env.locals Z (keptOf 0 (Txt.split x "\n"))) m (.send .none) (s7.setGen gi .running)) ∧ W k σ' H' := fun {σ7 H7} I7 w7 => by
        have J7 := regen' I7 (bare_back I7.bare sim7)
        have pin7 : ∀ b ∈ [env.locals, a, Z, Z + 1], ∀ o, s4.heap.get? b = some o → s7.heap.get? b = some o ∧ H7 b = none := fun b hm o ho => by
          have z := J7.pin (b, o) (List.mem_append_right _ (List.mem_append_right _ (inPl b hm o ho)))
          exact ⟨z.1, z.2.1⟩
        refine ⟨n, Nat.lt_succ_self n, k' + 1, σ7, H7, by omega, J7.unpinned, fun b hm => ?_, ?_, ⟨_, hs7, ?_⟩, w7⟩
        · obtain ⟨o, ho, _⟩ := obj5 b hm
          exact (pin7 b hm o ho).2
        · obtain ⟨o, nm, qn, ho, hr4⟩ := hg5
          exact ⟨o, nm, qn, (pin7 a ma o ho).1, hr4⟩
        · refine hkap (s7.setGen gi .running) (fun b o hb ho => ?_) .none (.inl rfl)
          rcases hb with rfl | rfl | rfl
          · exact (pin7 _ mL o ho).1
          · exact (pin7 _ mZ o ho).1
          · exact (pin7 _ mZ1 o ho).1
      cases fl with
      | next => obtain ⟨σ7, H7, I7, n7⟩ := q7; exact again I7 n7
      | cont => obtain ⟨σ7, H7, I7, n7⟩ := q7; exact again I7 n7
      | brk => obtain ⟨σ7, H7, I7, d7⟩ := q7; exact ⟨σ7, H7, (regen' I7 (bare_back I7.bare sim7)).unpinned, d7⟩
      | ret v => obtain ⟨x7, σ7, H7, I7, r7, d7⟩ := q7; exact ⟨x7, σ7, H7, (regen' I7 (bare_back I7.bare sim7)).unpinned, r7, d7⟩
    · -- no more lines
      obtain ⟨rfl, hW⟩ := hF
      have g4 : s4.gens = s3.gens.setIfInBounds gi .running := hW.gens
      have hb4 : AllBare s4.gens := by
        rw [g4]
        exact allBare_setGen (s := s3) (g := gi) (x := .running) I3.bare rfl
      have I5 : Inv X pins σ3 H3 ({ s4.setGen gi .finished with heap := h' } : Shared) :=
        behind I3 hW.os (allBare_setGen hb4 rfl) (F3 _ mL) (F3 _ mZ1) (fun b o h1 h2 e => hk' b o (hW.keep b o h1 h2 e)) (.inl rfl)
      have ek : k = (keptOf 0 (Txt.split x "\n")).length := by omega
      subst ek
      exact wpAny_execs_nil ⟨σ3, H3, I5, fin σ3 H3 w3⟩
  · rcases List.mem_cons.mp hm with rfl | hm
    · exact fL.1
    rcases List.mem_cons.mp hm with rfl | hm
    · exact fa.1
    rcases List.mem_cons.mp hm with rfl | hm
    · exact fZ.1
    · rw [List.mem_singleton.mp hm]
      exact fZ1.1
  · have q := gen_start (P := X.prog) (w := X.w) (A := X.A.in1) (s := s2.setGen gi .running) (a1 := a1) (a2 := a2) (a3 := a3) (pt := pt) (c1 := c1) (c3 := c3) (pf := pf) (p1 := p1) (p2 := p2) (p3 := p3) (p4 := p4) (p5 := p5) (q1 := q1) (q2 := q2) (q3 := q3) (q4 := q4) (q5 := q5) (q6 := q6) (q7 := q7) (q8 := q8) (q9 := q9) (q10 := q10)
      (r1 := r1) (r2 := r2) (r3 := r3) (r4 := r4) (r5 := r5) (ka := ka) (kc := kc) (k0 := k0) (k1 := k1) (k2 := k2) (k3 := k3) (k4 := k4) le hh hns hm hz hline
    have ez : (s2.setGen gi .running).heap.objs.size = Z := hZ
    rw [ez] at q
    exact q
end
end K76
/-! The mathematics of the texts (own). -/
namespace K76
open PySem PyProof.Rows L2 TL

/-- one sign -/
abbrev sg (c : Nat) : Str := ⟨#[c]⟩
/-- a hexadecimal digit's sign -/
def hexD (d : Nat) : Nat := if d < 10 then 48 + d else 87 + d
def hexL : List Nat → List Nat
  | [] => []
  | o :: r => hexD (o / 16) :: hexD (o % 16) :: hexL r
def hexS (os : List Nat) : Str := ⟨(hexL os).toArray⟩
abbrev octVs (os : List Nat) : List V := os.map fun (o : Nat) => V.int (o : Int)
abbrev digs : Str := Str.ofString "0123456789abcdef"
theorem digs_at : ∀ d : Nat, d < 16 → digs.cps[d]? = some (hexD d) := by decide +kernel
theorem digs_len : digs.length = 16 := by decide +kernel
theorem digs_find : ∀ d : Nat, d < 16 → Txt.find digs (sg (hexD d)) = (d : Int) := by decide +kernel
theorem hexD_ne : ∀ d : Nat, d < 16 → hexD d ≠ 32 ∧ hexD d ≠ 10 ∧ hexD d ≠ 45 ∧ hexD d ≠ 35 := by decide +kernel
theorem hexL_len (os : List Nat) : (hexL os).length = 2 * os.length := by
  induction os with
  | nil => rfl
  | cons o r ih => show (hexL r).length + 1 + 1 = 2 * (r.length + 1); omega
theorem hexS_len (os : List Nat) : (hexS os).length = 2 * os.length := by
  rw [len_tl]
  exact hexL_len os
theorem hexL_app (a b : List Nat) : hexL (a ++ b) = hexL a ++ hexL b := by
  induction a with
  | nil => rfl
  | cons o r ih => show _ :: _ :: hexL (r ++ b) = _; rw [ih]; rfl
theorem hexL_at (os : List Nat) : ∀ (i : Nat) (o : Nat), os[i]? = some o → (hexL os)[2 * i]? = some (hexD (o / 16)) ∧ (hexL os)[2 * i + 1]? = some (hexD (o % 16)) := by
  induction os with
  | nil => intro i o h; simp at h
  | cons x r ih =>
    intro i o h
    cases i with
    | zero =>
      have e : x = o := Option.some.inj h
      subst e
      exact ⟨rfl, rfl⟩
    | succ i =>
      have e2 : 2 * (i + 1) = 2 * i + 1 + 1 := by omega
      rw [e2]
      exact ih i o h
theorem hexL_free {os : List Nat} (h : ∀ o ∈ os, o < 256) : ∀ c ∈ hexL os, c ≠ 32 ∧ c ≠ 10 ∧ c ≠ 45 ∧ c ≠ 35 := by
  induction os with
  | nil => intro c hc; cases hc
  | cons o r ih =>
    intro c hc
    have ho := h o List.mem_cons_self
    rcases List.mem_cons.mp hc with rfl | hc
    · exact hexD_ne _ (by omega)
    rcases List.mem_cons.mp hc with rfl | hc
    · exact hexD_ne _ (by omega)
    · exact ih (fun x hx => h x (List.mem_cons_of_mem _ hx)) c hc
/-- the two signs of an octet, as they are put together -/
def pairS (o : Nat) : Str := sg (hexD (o / 16)) ++ sg (hexD (o % 16))
theorem tl_pairS (o : Nat) : tl (pairS o) = [hexD (o / 16), hexD (o % 16)] := by
  unfold pairS
  rw [tl_append]
  rfl
theorem pairS_len (o : Nat) : (pairS o).length = 2 := by rw [len_tl, tl_pairS]; rfl
theorem joinL_nil : ∀ ps : List (List Nat), joinL [] ps = ps.flatten
  | [] => rfl
  | [p] => by show p = p ++ []; rw [List.append_nil]
  | p :: q :: r => by
    show p ++ ([] ++ joinL [] (q :: r)) = p ++ (q :: r).flatten
    rw [joinL_nil (q :: r)]
    rfl
theorem tl_empty : tl (Str.ofString "") = [] := by decide +kernel
theorem tl_join_nil (ys : List Str) : tl (Txt.join (Str.ofString "") ys) = (ys.map tl).flatten := by
  rw [join_eq, tl_join, tl_empty, joinL_nil]
theorem join_hex (os : List Nat) : Txt.join (Str.ofString "") (os.map pairS) = hexS os := by
  refine ext_tl ?_
  rw [tl_join_nil]
  show _ = hexL os
  induction os with
  | nil => rfl
  | cons o r ih =>
    rw [List.map_cons, List.map_cons, List.flatten_cons, ih, tl_pairS]
    rfl
theorem fitL {i : Int} (h0 : 0 ≤ i) (h1 : i ≤ 100000) : Builtin.Range.rangeFitsLong i = true := by
  have a : -(2 ^ 63) ≤ i := by omega
  have b : i < 2 ^ 63 := by omega
  unfold Builtin.Range.rangeFitsLong
  rw [decide_eq_true a, decide_eq_true b]
  rfl
theorem rg2 {n : Nat} (h : n ≤ 1000) : RgC 0 ((2 * n : Nat) : Int) 2 n := by
  have e : Builtin.Range.rangeSize 0 ((2 * n : Nat) : Int) 2 = n := by
    unfold Builtin.Range.rangeSize
    rw [if_pos (by decide)]
    split <;> omega
  refine ⟨by decide, by decide, ?_, e⟩
  unfold Builtin.Range.small
  rw [e, fitL (i := 0) (by decide) (by decide), fitL (i := ((2 * n : Nat) : Int)) (by omega) (by omega), fitL (i := 2) (by decide) (by decide), fitL (i := (n : Int)) (by omega) (by omega), if_pos (by decide), fitL (i := ((2 * n : Nat) : Int) + (2 - 1)) (by omega) (by omega)]
  simp
/-! numbers -/
def numS (n : Nat) : Str := Str.ofString (toString ((n : Nat) : Int))
theorem tl_numS (n : Nat) : tl (numS n) = numL n := tl_num n
theorem numS_len {n : Nat} (h : n < 10 ^ 15) : (numS n).length ≤ 15 := by
  rw [len_tl, tl_numS]
  exact numL_len (by decide) h
theorem numL_cons (n : Nat) : ∃ c r, numL n = c :: r ∧ (c = 48 → r = []) := by
  induction n using Nat.strongRecOn with
  | _ n ih =>
    by_cases h : n < 10
    · exact ⟨48 + n, [], numL_lt h, fun _ => rfl⟩
    · obtain ⟨c, r, e, hc⟩ := ih (n / 10) (by omega)
      refine ⟨c, r ++ [48 + n % 10], by rw [numL_step (by omega), e]; rfl, fun h48 => ?_⟩
      exfalso
      have hr := hc h48
      subst hr
      subst h48
      have e1 := numL_val (n / 10)
      rw [e] at e1
      have e2 : NumText.digitsVal [48] = 0 := by decide
      omega
theorem numS_ne (n : Nat) : numS n ≠ Str.ofString "" := fun h => by
  have e := congrArg tl h
  rw [tl_numS, tl_empty] at e
  exact numL_ne n e
abbrev decs : Str := Str.ofString "0123456789"
theorem decs_mem {c : Nat} (h : 48 ≤ c ∧ c ≤ 57) : c ∈ decs.cps.toList := by
  have e : decs.cps.toList = [48, 49, 50, 51, 52, 53, 54, 55, 56, 57] := by decide +kernel
  rw [e]
  simp
  omega
/-- over the signs of a text -/
theorem for_signs {x : Str} {g : TG} {tb : TS} {D : Ends} {σ : L2.St} {H : Hp} (Pv : Nat → L2.St → Hp → Prop) (h0 : Pv 0 σ H)
    (hs : ∀ i c σ H, (tl x)[i]? = some c → Pv i σ H → g (.str (sg c)) σ H fun σ2 H2 => tb { D with nx := Pv (i + 1), ct := Pv (i + 1), bk := D.nx } σ2 H2) (hd : ∀ σ H, Pv (tl x).length σ H → D.nx σ H) :
    ∃ W : Nat → Nat → L2.St → Hp → Prop, (∃ m, W 0 m σ H) ∧ ∀ i m σ H, W i m σ H →
      ((Its x).stop i H ∧ D.nx σ H) ∨ ((Its x).go i H ∧ ∃ N : L2.St → Hp → Prop, (∀ σ' H', N σ' H' → ∃ m', m' < m ∧ W (i + 1) m' σ' H') ∧ ∀ v H', (Its x).yld i H v H' → g v σ H' fun σ2 H2 => tb { D with nx := N, ct := N, bk := D.nx } σ2 H2) := by
  have hz : x.cps.size = (tl x).length := by simp [tl]
  refine ⟨fun i m σ H => m = (tl x).length - i ∧ i ≤ (tl x).length ∧ Pv i σ H, ⟨_, rfl, Nat.zero_le _, h0⟩, ?_⟩
  rintro i m σ H ⟨rfl, hi, p⟩
  by_cases hlt : i < (tl x).length
  · refine .inr ⟨(by show i < x.cps.size; omega), Pv (i + 1), fun σ' H' p' => ⟨(tl x).length - (i + 1), by omega, rfl, hlt, p'⟩, fun v H' y => ?_⟩
    obtain ⟨e, c, hc, rfl⟩ := y
    subst e
    exact hs i c σ _ (by simpa [tl] using hc) p
  · have e : i = (tl x).length := by omega
    subst e
    exact .inl ⟨(by show x.cps.size ≤ _; omega), hd σ H p⟩
/-! records as lines -/
/-- a record's parts -/
structure Rc where
  tick : Nat
  num : Nat
  word : Str
  snd : Nat
  tgt : Nat
  mkd : Bool
  oct : List Nat
abbrev W6 : List Str := ["sent", "delivered", "lost", "copied", "marked", "expired"]
structure OkRc (r : Rc) : Prop where
  tick : r.tick < 10 ^ 15
  num : r.num < 10 ^ 15
  word : r.word ∈ W6
  snd : r.snd < 10 ^ 15
  tgt : r.tgt < 10 ^ 15
  oct : ∀ o ∈ r.oct, o < 256
  len : r.oct.length ≤ 12
abbrev dashS : Str := Str.ofString "-"
def markS (m : Bool) : Str := if m = true then Str.ofString "m" else dashS
def octS (os : List Nat) : Str := if os = [] then dashS else hexS os
def wordsOf (r : Rc) : List Str := [numS r.tick, numS r.num, r.word, numS r.snd, numS r.tgt, markS r.mkd, octS r.oct]
abbrev spS : Str := Str.ofString " "
abbrev nlS : Str := Str.ofString "\n"
def lineS (r : Rc) : Str := Txt.join spS (wordsOf r)
theorem tl_sp : tl spS = [32] := by decide +kernel
theorem tl_nl : tl nlS = [10] := by decide +kernel
theorem tl_dash : tl dashS = [45] := by decide +kernel
theorem word_free : ∀ x ∈ W6, 32 ∉ tl x ∧ 10 ∉ tl x ∧ x.length ≤ 9 ∧ tl x ≠ [] := by decide +kernel
theorem mark_free (m : Bool) : 32 ∉ tl (markS m) ∧ 10 ∉ tl (markS m) ∧ (markS m).length = 1 := by cases m <;> decide +kernel
theorem oct_free {os : List Nat} (h : ∀ o ∈ os, o < 256) : 32 ∉ tl (octS os) ∧ 10 ∉ tl (octS os) := by
  unfold octS
  split
  · decide +kernel
  · exact ⟨fun q => (hexL_free h 32 q).1 rfl, fun q => (hexL_free h 10 q).2.1 rfl⟩
theorem octS_len {os : List Nat} (h : os.length ≤ 12) : (octS os).length ≤ 24 := by
  unfold octS
  split
  · decide +kernel
  · rw [hexS_len]
    omega
theorem num_free (n : Nat) : 32 ∉ tl (numS n) ∧ 10 ∉ tl (numS n) := by
  rw [tl_numS]
  exact ⟨numL_free (.inl (by decide)), numL_free (.inl (by decide))⟩
theorem words_free {r : Rc} (h : OkRc r) : ∀ p ∈ wordsOf r, 32 ∉ tl p ∧ 10 ∉ tl p := by
  intro p hp
  have a := word_free _ h.word
  have b := mark_free r.mkd
  rcases List.mem_cons.mp hp with rfl | hp
  · exact num_free _
  rcases List.mem_cons.mp hp with rfl | hp
  · exact num_free _
  rcases List.mem_cons.mp hp with rfl | hp
  · exact ⟨a.1, a.2.1⟩
  rcases List.mem_cons.mp hp with rfl | hp
  · exact num_free _
  rcases List.mem_cons.mp hp with rfl | hp
  · exact num_free _
  rcases List.mem_cons.mp hp with rfl | hp
  · exact ⟨b.1, b.2.1⟩
  · rw [List.mem_singleton.mp hp]
    exact oct_free h.oct
theorem split_line {r : Rc} (h : OkRc r) : Txt.split (lineS r) spS = wordsOf r :=
  split_join (s := 32) (S := []) tl_sp (by decide +kernel) (by unfold wordsOf; exact List.cons_ne_nil _ _) fun p hp => (words_free h p hp).1
theorem tl_line (r : Rc) : tl (lineS r) = tl (numS r.tick) ++ ([32] ++ (tl (numS r.num) ++ ([32] ++ (tl r.word ++ ([32] ++ (tl (numS r.snd) ++ ([32] ++ (tl (numS r.tgt) ++ ([32] ++ (tl (markS r.mkd) ++ ([32] ++ tl (octS r.oct)))))))))))) := by
  unfold lineS
  rw [join_eq, tl_join, tl_sp]
  rfl
theorem line_len {r : Rc} (h : OkRc r) : (lineS r).length ≤ 100 := by
  have h1 := numS_len h.tick
  have h2 := numS_len h.num
  have h3 := (word_free _ h.word).2.2.1
  have h4 := numS_len h.snd
  have h5 := numS_len h.tgt
  have h6 := (mark_free r.mkd).2.2
  have h7 := octS_len h.len
  rw [len_tl] at h1 h2 h3 h4 h5 h6 h7
  rw [len_tl, tl_line]
  simp only [List.length_append, List.length_cons, List.length_nil]
  omega
theorem line_free {r : Rc} (h : OkRc r) : 10 ∉ tl (lineS r) := by
  have k := fun p hp => (words_free h p hp).2
  rw [tl_line]
  have k1 := k (numS r.tick) (by simp [wordsOf])
  have k2 := k (numS r.num) (by simp [wordsOf])
  have k3 := k r.word (by simp [wordsOf])
  have k4 := k (numS r.snd) (by simp [wordsOf])
  have k5 := k (numS r.tgt) (by simp [wordsOf])
  have k6 := k (markS r.mkd) (by simp [wordsOf])
  have k7 := k (octS r.oct) (by simp [wordsOf])
  simp only [List.mem_append, List.mem_singleton, not_or]
  exact ⟨k1, by decide, k2, by decide, k3, by decide, k4, by decide, k5, by decide, k6, by decide, k7⟩
/-- a line begins with a digit -/
theorem line_head (r : Rc) : ∃ c l, tl (lineS r) = c :: l ∧ 48 ≤ c ∧ c ≤ 57 := by
  obtain ⟨c, l, e, _⟩ := numL_cons r.tick
  refine ⟨c, l ++ ([32] ++ (tl (numS r.num) ++ ([32] ++ (tl r.word ++ ([32] ++ (tl (numS r.snd) ++ ([32] ++ (tl (numS r.tgt) ++ ([32] ++ (tl (markS r.mkd) ++ ([32] ++ tl (octS r.oct)))))))))))), ?_, ?_⟩
  · rw [tl_line, tl_numS, e]
    rfl
  · have hd := numL_digits r.tick c (by rw [e]; exact List.mem_cons_self)
    omega
def textS (rs : List Rc) : Str := Txt.join (Str.ofString "") (rs.map fun r => lineS r ++ nlS)
end K76
/-! The text of the records, with lines between, cut into lines (own). -/
namespace K76
open PySem PyProof.Rows L2 TL

theorem kept_snd : ∀ (L : List Str) (i : Nat), (keptOf i L).map (·.2) = L.filter keepL
  | [], _ => rfl
  | x :: r, i => by
    unfold keptOf
    cases e : keepL x with
    | true =>
      rw [if_pos rfl, List.map_cons, kept_snd r, List.filter_cons_of_pos e]
    | false =>
      rw [if_neg Bool.false_ne_true, kept_snd r, List.filter_cons_of_neg (by rw [e]; exact Bool.false_ne_true)]
abbrev sep4 : List Str := ["", "\n", "# 1 2 sent\n", "#\n\n"]
def sepL : Nat → List Str
  | 0 => []
  | 1 => [""]
  | 2 => ["# 1 2 sent"]
  | _ => ["#", ""]
def sepT (j : Nat) : List Nat := ((sepL j).map fun x => tl x ++ [10]).flatten
theorem sep_at : ∀ j : Nat, j < 4 → ∃ x, sep4[j]? = some x ∧ tl x = sepT j ∧ x.length ≤ 11 := by
  intro j h
  match j, h with
  | 0, _ => exact ⟨_, rfl, by decide +kernel, by decide +kernel⟩
  | 1, _ => exact ⟨_, rfl, by decide +kernel, by decide +kernel⟩
  | 2, _ => exact ⟨_, rfl, by decide +kernel, by decide +kernel⟩
  | 3, _ => exact ⟨_, rfl, by decide +kernel, by decide +kernel⟩
theorem sepL_ok : ∀ j : Nat, (∀ x ∈ sepL j, 10 ∉ tl x) ∧ (sepL j).filter keepL = [] := by
  intro j
  match j with
  | 0 => exact ⟨by decide +kernel, rfl⟩
  | 1 => exact ⟨by decide +kernel, by decide +kernel⟩
  | 2 => exact ⟨by decide +kernel, by decide +kernel⟩
  | _ + 3 => exact ⟨by show ∀ x ∈ [Str.ofString "#", Str.ofString ""], 10 ∉ tl x; decide +kernel, by show List.filter keepL [Str.ofString "#", Str.ofString ""] = []; decide +kernel⟩
/-- the codes of the text: what stands between, the record's line -/
def btL : List Nat → List Rc → List Nat
  | j :: js, r :: rs => sepT j ++ (tl (lineS r) ++ [10]) ++ btL js rs
  | _, _ => []
def allL : List Nat → List Rc → List Str
  | j :: js, r :: rs => sepL j ++ lineS r :: allL js rs
  | _, _ => [Str.ofString ""]
theorem btL_app : ∀ (js : List Nat) (rs : List Rc) (j : Nat) (r : Rc), js.length = rs.length → btL (js ++ [j]) (rs ++ [r]) = btL js rs ++ (sepT j ++ (tl (lineS r) ++ [10]))
  | [], [], j, r, _ => by
    show sepT j ++ (tl (lineS r) ++ [10]) ++ [] = [] ++ _
    rw [List.append_nil, List.nil_append]
  | a :: js, b :: rs, j, r, h => by
    have h' : js.length = rs.length := by simpa using h
    show sepT a ++ (tl (lineS b) ++ [10]) ++ btL (js ++ [j]) (rs ++ [r]) = sepT a ++ (tl (lineS b) ++ [10]) ++ btL js rs ++ _
    rw [btL_app js rs j r h']
    simp only [List.append_assoc]
  | [], _ :: _, _, _, h => by simp at h
  | _ :: _, [], _, _, h => by simp at h
theorem allL_ne (js : List Nat) (rs : List Rc) : allL js rs ≠ [] := by
  unfold allL
  split
  · simp
  · simp
theorem joinL_cons {x : List Nat} : ∀ {L : List (List Nat)}, L ≠ [] → joinL [10] (x :: L) = x ++ [10] ++ joinL [10] L
  | [], h => absurd rfl h
  | q :: r, _ => by
    show x ++ ([10] ++ joinL [10] (q :: r)) = _
    rw [List.append_assoc]
theorem joinL_front : ∀ (A : List (List Nat)) {L : List (List Nat)}, L ≠ [] → joinL [10] (A ++ L) = (A.map (· ++ [10])).flatten ++ joinL [10] L
  | [], L, _ => rfl
  | a :: A, L, h => by
    have hne : A ++ L ≠ [] := fun q => h (List.append_eq_nil_iff.mp q).2
    rw [List.cons_append, joinL_cons hne, joinL_front A h, List.map_cons, List.flatten_cons]
    simp only [List.append_assoc]
theorem tl_all : ∀ (js : List Nat) (rs : List Rc), js.length = rs.length → joinL [10] ((allL js rs).map tl) = btL js rs
  | [], [], _ => by
    show joinL [10] [tl (Str.ofString "")] = []
    rw [tl_empty]
    rfl
  | j :: js, r :: rs, h => by
    have h' : js.length = rs.length := by simpa using h
    show joinL [10] ((sepL j ++ lineS r :: allL js rs).map tl) = sepT j ++ (tl (lineS r) ++ [10]) ++ btL js rs
    have hne : (allL js rs).map tl ≠ [] := fun q => allL_ne js rs (List.map_eq_nil_iff.mp q)
    rw [List.map_append, joinL_front _ (by rw [List.map_cons]; exact List.cons_ne_nil _ _), List.map_cons, joinL_cons hne, tl_all js rs h']
    have e : (((sepL j).map tl).map (· ++ [10])).flatten = sepT j := by
      unfold sepT
      rw [List.map_map]
      rfl
    rw [e]
    simp only [List.append_assoc]
  | [], _ :: _, h => by simp at h
  | _ :: _, [], h => by simp at h
theorem all_free : ∀ (js : List Nat) (rs : List Rc), (∀ r ∈ rs, OkRc r) → ∀ x ∈ allL js rs, 10 ∉ tl x
  | j :: js, r :: rs, ok, x, hx => by
    have hx' : x ∈ sepL j ++ lineS r :: allL js rs := hx
    rcases List.mem_append.mp hx' with hx' | hx'
    · exact (sepL_ok j).1 x hx'
    rcases List.mem_cons.mp hx' with rfl | hx'
    · exact line_free (ok r List.mem_cons_self)
    · exact all_free js rs (fun z hz => ok z (List.mem_cons_of_mem _ hz)) x hx'
  | [], rs, _, x, hx => by
    have hx' : x ∈ [Str.ofString ""] := by
      unfold allL at hx
      exact hx
    rw [List.mem_singleton.mp hx', tl_empty]
    simp
  | _ :: _, [], _, x, hx => by
    have hx' : x ∈ [Str.ofString ""] := hx
    rw [List.mem_singleton.mp hx', tl_empty]
    simp
theorem keep_line (r : Rc) : keepL (lineS r) = true := by
  obtain ⟨c, l, e, h1, h2⟩ := line_head r
  have e' : (lineS r).cps.toList = c :: l := e
  unfold keepL
  rw [e']
  show (c != 35) = true
  have : c ≠ 35 := by omega
  simpa using this
theorem all_kept : ∀ (js : List Nat) (rs : List Rc), js.length = rs.length → (allL js rs).filter keepL = rs.map lineS
  | [], [], _ => by decide +kernel
  | j :: js, r :: rs, h => by
    have h' : js.length = rs.length := by simpa using h
    show (sepL j ++ lineS r :: allL js rs).filter keepL = _
    rw [List.filter_append, (sepL_ok j).2, List.nil_append, List.filter_cons_of_pos (keep_line r), all_kept js rs h']
    rfl
  | [], _ :: _, h => by simp at h
  | _ :: _, [], h => by simp at h
/-- THE LAW OF THE TEXT: the lines that are not left out are the records' -/
theorem kept_text {x : Str} {js : List Nat} {rs : List Rc} (h : tl x = btL js rs) (hl : js.length = rs.length) (ok : ∀ r ∈ rs, OkRc r) : (keptOf 0 (Txt.split x nlS)).map (·.2) = rs.map lineS := by
  have e : x = Txt.join nlS (allL js rs) := by
    refine ext_tl ?_
    rw [join_eq, tl_join, tl_nl, tl_all js rs hl]
    exact h
  rw [kept_snd, e, split_join (s := 10) (S := []) tl_nl (by decide +kernel) (allL_ne js rs) (all_free js rs ok)]
  exact all_kept js rs hl
theorem text_codes (rs : List Rc) : tl (textS rs) = btL (rs.map fun _ => 0) rs := by
  unfold textS
  rw [tl_join_nil]
  induction rs with
  | nil => rfl
  | cons r rs ih =>
    rw [List.map_cons, List.map_cons, List.flatten_cons, ih, tl_append, tl_nl]
    rfl
theorem btL_len : ∀ (js : List Nat) (rs : List Rc), (∀ j ∈ js, j < 4) → (∀ r ∈ rs, OkRc r) → (btL js rs).length ≤ 112 * rs.length
  | j :: js, r :: rs, hj, ok => by
    have a := btL_len js rs (fun z hz => hj z (List.mem_cons_of_mem _ hz)) fun z hz => ok z (List.mem_cons_of_mem _ hz)
    obtain ⟨x, _, e, l⟩ := sep_at j (hj j List.mem_cons_self)
    rw [len_tl, e] at l
    have b := line_len (ok r List.mem_cons_self)
    rw [len_tl] at b
    show (sepT j ++ (tl (lineS r) ++ [10]) ++ btL js rs).length ≤ _
    rw [List.length_append, List.length_append, List.length_append, List.length_cons, List.length_nil, List.length_cons]
    omega
  | [], rs, _, _ => by
    show ([] : List Nat).length ≤ _
    exact Nat.zero_le _
  | _ :: _, [], _, _ => by
    show ([] : List Nat).length ≤ _
    exact Nat.zero_le _
end K76
/-! The statements of the text (own). -/
namespace K76
open PySem PyProof.Rows L2 TL
def topS (i : Nat) : Stmt := PySem.Challenge.pw_throughline_k76_whole_record_texts.main.body.getD i (.Pass ⟨0, 0, 0, 0⟩)
def clsBody : Stmt → List Stmt
  | .ClassDef _ _ _ b _ _ _ _ _ _ _ => b
  | _ => []
abbrev methS (c m : Nat) : Stmt := (clsBody (topS c)).getD m (.Pass ⟨0, 0, 0, 0⟩)
abbrev sPInit : Stmt := methS 6 0
abbrev sPEq : Stmt := methS 6 2
abbrev sRInit : Stmt := methS 8 0
abbrev sREq : Stmt := methS 8 1
abbrev sHex : Stmt := topS 11
abbrev sDig : Stmt := topS 12
abbrev sFHex : Stmt := topS 13
abbrev sLns : Stmt := topS 18
abbrev sDec : Stmt := topS 19
abbrev sROct : Stmt := topS 20
abbrev sRRec : Stmt := topS 21
abbrev sRRecs : Stmt := topS 22
abbrev sWRec : Stmt := topS 24
abbrev sWRecs : Stmt := topS 25
abbrev sIsInt : Stmt := topS 27
abbrev sRow : Stmt := topS 28
abbrev sOcts : Stmt := topS 29
abbrev sNum : Stmt := topS 30
abbrev sParts : Stmt := topS 31
abbrev sMade : Stmt := topS 32
abbrev sLine : Stmt := topS 33
abbrev sSame : Stmt := topS 34
abbrev sLaw : Stmt := topS 35
theorem same_upd {H : Hp} {p : Addr} {o : HO} (h : H p = none) : Same H (upd H p o) := fun b x e => by
  rw [upd_ne (ne_of_none e h)]
  exact e
/-- two steps of a heap that only grows -/
theorem Same.upd2 {H H1 : Hp} {p : Addr} {o : HO} (s : Same H H1) (h : H1 p = none) : Same H (upd H1 p o) := s.trans (same_upd h)
theorem le_line {n : Nat} (h : n ≤ 16777216) : n ≤ sizeLine := by rw [sizeLine_eq]; exact h
theorem lt_line {n : Nat} (h : n < 16777216) : n < sizeLine := by rw [sizeLine_eq]; exact h
end K76
namespace K76
open PySem PyProof.Rows L2 TL
section
variable {P : Program} {w : World} {K : PySem.W.Frag} {mg : Str → Option Value} {base : Heap}
/-! to_hex -/
def spHex (K : PySem.W.Frag) : Sp := fun vs H Q _ => ∃ (a : Addr) (os : List Nat), vs = [.ref a] ∧ SqL K H a (octVs os) ∧ (∀ o ∈ os, o < 256) ∧ os.length ≤ 1000 ∧ ∀ H', Same H H' → Q (.str (hexS os)) H'
theorem scHex : FnScope ["octets", "octet"] ["octets"] (defScope sHex) := ⟨rfl, rfl, rfl, by decide +kernel, rfl, by decide +kernel, by decide +kernel⟩
theorem ok_hex {f : Addr} {fd : FuncData} {t : Tok} (F : Fun K "to_hex" "to_hex" sHex f fd) (mD : mg "DIGITS_octets" = some (.str digs t)) : FnOk P w K mg base CX0 1 f fd ["octets"] (spHex K) := by
  refine F.ok scHex (fun vs H Q E h => ?_) (fun cdv A outer s H vs Q E hr h => ?_)
  · obtain ⟨a, os, rfl, _⟩ := h
    rfl
  · obtain ⟨a, os, rfl, hS, h256, hlen, q⟩ := h
    refine ⟨_, pss_one (ps_ret (pe_join pe_str (pe_lc (own := [("octet", 1)]) (g := gName 1) (tt := tYes) rfl scHex.nd (pi_list (pv 0)) (blkOk_by (own := [("octet", 1)]) (N := ["octets", "octet"]) (sc := defScope sHex) (by decide +kernel))
      (fun _ _ _ _ _ => pg_name (i := 1) scHex.nd rfl (Or.inl rfl)) (fun _ _ _ _ _ => pts_nil)
      (fun _ _ _ _ _ => pe_op op_add_str (pe_item_str (pe_glob (v := V.str digs) rfl mD ⟨_, rfl⟩) (pe_op op_fdiv (pv 1) pe_int) (fun _ _ => rfl)) (pe_item_str (pe_glob (v := V.str digs) rfl mD ⟨_, rfl⟩) (pe_op op_mod (pv 1) pe_int) (fun _ _ => rfl)))))), ?_⟩
    refine ⟨⟨_, rfl⟩, .ref a, rfl, a, rfl, ⟨_, hS⟩, fun D hD => ?_⟩
    refine lc_list (K := K) (a := a) (xs := octVs os) (fun i H' => Same H H' ∧ H' D = some (.lst ((os.take i).map fun o => V.str (pairS o)))) ⟨same_upd hD, upd_same⟩ (fun i H' _ h => h.1.seq hS) (fun i x H' hx hP => ?_) (fun H' hP => ?_)
    · obtain ⟨sm, eD⟩ := hP
      obtain ⟨o, ho, rfl⟩ : ∃ o, os[i]? = some o ∧ x = V.int ((o : Nat) : Int) := by
        rw [List.getElem?_map] at hx
        cases e : os[i]? with
        | none => rw [e] at hx; cases hx
        | some o => rw [e] at hx; exact ⟨o, rfl, (Option.some.inj hx).symm⟩
      have ho256 := h256 o (List.mem_of_getElem? ho)
      have hi : i < os.length := (List.getElem?_eq_some_iff.mp ho).1
      refine ⟨rfl, ?_⟩
      rw [tYes, if_pos rfl]
      have d1 : (((o : Nat) : Int) / 16).toNat = o / 16 := by omega
      have d2 : (((o : Nat) : Int) % 16).toNat = o % 16 := by omega
      refine ⟨.int o, rfl, _, _, rfl, rfl, ⟨by decide, by decide⟩, digs, _, hexD (o / 16), rfl, rfl, by omega, by omega, ?_, ?_, ?_⟩
      · rw [digs_len]
        omega
      · rw [d1]
        exact digs_at _ (by omega)
      refine ⟨.int o, rfl, _, _, rfl, rfl, (by show (0 : Int) < 16; decide), digs, _, hexD (o % 16), rfl, rfl, by omega, by omega, ?_, ?_, ?_⟩
      · rw [digs_len]
        omega
      · rw [d2]
        exact digs_at _ (by omega)
      refine ⟨_, _, rfl, rfl, le_line (by show 1 + 1 ≤ 16777216; decide), _, eD, ?_, fun b u e => ?_, ?_⟩
      · rw [List.length_map, List.length_take]
        exact lt_line (by omega)
      · rw [upd_ne (ne_of_none e hD)]
        exact sm b u e
      · rw [upd_same, List.take_add_one, ho, List.map_append]
        rfl
    · obtain ⟨sm, eD⟩ := hP
      have eD' : H' D = some (.lst ((os.map pairS).map V.str)) := by
        rw [eD]
        simp
      refine ⟨_, D, os.map pairS, rfl, rfl, .inl (SqL.of eD'), ?_, ?_⟩
      · have e0 : (Str.ofString "").length = 0 := by decide +kernel
        have e1 : ((os.map pairS).map (·.length)).sum = 2 * os.length := by
          have q : ∀ l : List Nat, ((l.map pairS).map (·.length)).sum = 2 * l.length := fun l => by
            induction l with
            | nil => rfl
            | cons o r ih =>
              rw [List.map_cons, List.map_cons, List.sum_cons, ih, pairS_len, List.length_cons]
              omega
          exact q os
        rw [e1, e0]
        omega
      · have q2 := q H' sm
        rw [← join_hex] at q2
        exact q2
/-! digit_value -/
def spDig : Sp := fun vs H Q _ => ∃ d : Nat, vs = [.str (sg (hexD d))] ∧ d < 16 ∧ Q (.int (d : Int)) H
theorem scDig : FnScope ["char", "value"] ["char"] (defScope sDig) := ⟨rfl, rfl, rfl, by decide +kernel, rfl, by decide +kernel, by decide +kernel⟩
theorem ok_dig {f : Addr} {fd : FuncData} {t : Tok} (F : Fun K "digit_value" "digit_value" sDig f fd) (mD : mg "DIGITS_octets" = some (.str digs t)) : FnOk P w K mg base CX0 1 f fd ["char"] spDig := by
  refine F.ok scDig (fun vs H Q E h => ?_) (fun cdv A outer s H vs Q E hr h => ?_)
  · obtain ⟨d, rfl, _⟩ := h
    rfl
  · obtain ⟨d, rfl, hd, q⟩ := h
    refine ⟨_, pss_cons (ps_set (i := 1) scDig.nd rfl (.inl rfl) (pe_m1 PySem.F.slot_str_find PySem.F.type_str_find mt_find (pe_glob (v := V.str digs) rfl mD ⟨_, rfl⟩) (pv 0)))
      (pss_cons (ps_if (pt_cmpR op_lt (pv 1) pe_int (nomark _)) (pss_one ps_never) pss_nil) (pss_one (ps_ret (pv 1)))), ?_⟩
    refine ⟨⟨_, rfl⟩, _, rfl, digs, sg (hexD d), rfl, rfl, ?_⟩
    rw [digs_find d hd]
    refine ⟨.int (d : Int), rfl, _, _, rfl, rfl, _, rfl, ite2 (fun e => ?_) (fun _ => ?_)⟩
    · have e' := of_decide_eq_true e
      omega
    · exact ⟨.int (d : Int), rfl, q⟩
/-! from_hex -/
def spFHex : Sp := fun vs H Q _ => ∃ os : List Nat, vs = [.str (hexS os)] ∧ (∀ o ∈ os, o < 256) ∧ os.length ≤ 1000 ∧ ∀ H' p, Same H H' → H p = none → H' p = some (.lst (octVs os)) → Q (.ref p) H'
theorem scFHex : FnScope ["text", "octets", "at"] ["text"] (defScope sFHex) := ⟨rfl, rfl, rfl, by decide +kernel, rfl, by decide +kernel, by decide +kernel⟩
theorem ok_fhex {f fD : Addr} {fd fdD : FuncData} (F : Fun K "from_hex" "from_hex" sFHex f fd) (GD : FnOk P w K mg base CX0 1 fD fdD ["char"] spDig) (kD : PySem.W.keepIn K (.ref fD) = true) (bD : Binds K fdD ["char"] []) (gD : mg "digit_value" = some (.ref fD))
    (ml : mg "len" = none) (mr : mg "range" = none) : FnOk P w K mg base CX0 2 f fd ["text"] spFHex := by
  refine F.ok scFHex (fun vs H Q E h => ?_) (fun cdv A outer s H vs Q E hr h => ?_)
  · obtain ⟨os, rfl, _⟩ := h
    rfl
  · obtain ⟨os, rfl, h256, hlen, q⟩ := h
    have hz : (hexS os).length ≤ sizeLine := le_line (by rw [hexS_len]; omega)
    refine ⟨_, pss_cons (ps_if (pt_cmpR op_eq (pe_op op_mod (pe_callB call_len_str (by rfl) ml PySem.boot_len (pa_cons (pv 0) pa_nil)) pe_int) pe_int (nomark _)) (pss_one ps_never) pss_nil)
      (pss_cons (ps_set (i := 1) scFHex.nd rfl (.inl rfl) (pe_lst pa_nil))
      (pss_cons (ps_for PassesOwn.never rfl (pi_range3 rfl mr (pa_cons pe_int (pa_cons (pe_callB call_len_str (by rfl) ml PySem.boot_len (pa_cons (pv 0) pa_nil)) (pa_cons pe_int pa_nil)))) (pg_name (i := 2) scFHex.nd rfl (.inl rfl))
        (pss_one (ps_expr (pe_bm PySem.F.plainAttrs_list PySem.F.slot_list_append PySem.F.type_list_append mt_append (pv 1) (pa_cons
          (pe_op op_add (pe_op op_mul pe_int (pe_call GD hr rfl gD kD bD .nil pass0 (pa_cons (pe_item_str (pv 0) (pv 2) (fun _ _ => rfl)) pa_nil)))
            (pe_call GD hr rfl gD kD bD .nil pass0 (pa_cons (pe_item_str (pv 0) (pe_op op_add (pv 2) pe_int) (fun _ _ => rfl)) pa_nil))) pa_nil)))))
      (pss_one (ps_ret (pv 1))))), ?_⟩
    refine ⟨_, rfl, hexS os, rfl, hz, _, _, rfl, rfl, (by show (0 : Int) < 2; decide), rfl, _, rfl, ite2 (fun e => ?_) (fun _ => ?_)⟩
    · have e' := V.int.inj (of_decide_eq_true e)
      rw [hexS_len] at e'
      omega
    refine ⟨Nat.zero_le _, fun o no => ?_⟩
    refine ⟨_, rfl, hexS os, rfl, hz, 0, _, 2, os.length, rfl, (by rw [hexS_len]; exact rg2 hlen), for_rangeC (lo := 0) (c := 2) (n := os.length) (fun i σ H' => ∃ v, σ = [some (.str (hexS os)), some (.ref o), v] ∧ Same H H' ∧ H' o = some (.lst (octVs (os.take i))))
      ⟨none, rfl, same_upd no, upd_same⟩ ?_ ?_⟩
    · rintro i σ H' hi ⟨v, rfl, sm, eo⟩
      obtain ⟨x, hx⟩ : ∃ x, os[i]? = some x := ⟨os[i], List.getElem?_eq_getElem hi⟩
      have hx256 := h256 x (List.mem_of_getElem? hx)
      obtain ⟨a1, a2⟩ := hexL_at os i x hx
      have t1 : ((0 : Int) + (i : Nat) * 2).toNat = 2 * i := by omega
      have t2 : ((0 : Int) + (i : Nat) * 2 + 1).toNat = 2 * i + 1 := by omega
      have hl := hexS_len os
      refine ⟨_, rfl, .inl ⟨rfl, _, SqL.of eo⟩, ?_⟩
      refine ⟨_, rfl, _, rfl, hexS os, _, hexD (x / 16), rfl, rfl, by omega, by omega, by omega, ?_, x / 16, rfl, by omega, _, _, rfl, rfl, .inl ⟨by decide, by decide⟩, ?_⟩
      · rw [t1]
        show (hexL os).toArray[2 * i]? = _
        rw [List.getElem?_toArray]
        exact a1
      refine ⟨_, rfl, _, rfl, _, _, rfl, rfl, hexS os, _, hexD (x % 16), rfl, rfl, by omega, by omega, by omega, ?_, x % 16, rfl, by omega, _, _, rfl, rfl, o, _, _, rfl, rfl, eo, ?_, ?_⟩
      · rw [t2]
        show (hexL os).toArray[2 * i + 1]? = _
        rw [List.getElem?_toArray]
        exact a2
      · rw [List.length_map, List.length_take]
        exact lt_line (by omega)
      · refine ⟨_, rfl, fun b u e => ?_, ?_⟩
        · rw [upd_ne (ne_of_none e no)]
          exact sm b u e
        · rw [upd_same, List.take_add_one, hx]
          have e3 : (16 : Int) * ((x / 16 : Nat) : Int) + ((x % 16 : Nat) : Int) = ((x : Nat) : Int) := by omega
          show some (HO.lst (octVs (os.take i) ++ [V.int ((16 : Int) * ((x / 16 : Nat) : Int) + ((x % 16 : Nat) : Int))])) = _
          rw [e3]
          show some (HO.lst (octVs (os.take i) ++ [V.int (x : Int)])) = some (HO.lst (octVs (os.take i ++ [x])))
          rw [octVs, octVs, List.map_append]
          rfl
    · rintro σ H' ⟨v, rfl, sm, eo⟩
      rw [List.take_length] at eo
      exact ⟨_, rfl, q H' o sm no eo⟩
end
end K76
namespace K76
open PySem PyProof.Rows L2 TL
section
variable {P : Program} {w : World} {K : PySem.W.Frag} {mg : Str → Option Value} {base : Heap}
/-! is_decimal -/
def spDec : Sp := fun vs H Q _ => ∃ n : Nat, vs = [.str (numS n)] ∧ n < 10 ^ 15 ∧ Q (.bl true) H
theorem scDec : FnScope ["word", "char"] ["word"] (defScope sDec) := ⟨rfl, rfl, rfl, by decide +kernel, rfl, by decide +kernel, by decide +kernel⟩
theorem ok_dec {f : Addr} {fd : FuncData} {t t2 : Tok} (F : Fun K "is_decimal" "is_decimal" sDec f fd) (ml : mg "len" = none) (mM : mg "MOST_DIGITS" = some (.int 15 t)) (mD : mg "DIGITS_reading" = some (.str decs t2)) : FnOk P w K mg base CX0 1 f fd ["word"] spDec := by
  refine F.ok scDec (fun vs H Q E h => ?_) (fun cdv A outer s H vs Q E hr h => ?_)
  · obtain ⟨n, rfl, _⟩ := h
    rfl
  · obtain ⟨n, rfl, hn, q⟩ := h
    have h15 := numS_len hn
    have hz : (numS n).length ≤ sizeLine := le_line (by omega)
    obtain ⟨c, r, en, h48⟩ := numL_cons n
    have hl : (numS n).length = r.length + 1 := by
      rw [len_tl, tl_numS, en]
      rfl
    refine ⟨_, pss_cons (ps_if (PW.pt (pw_or (pt_cmpR op_eq (pv 0) pe_str (nomark _)) (pw_or (pt_cmpR op_gt (pe_callB call_len_str (by rfl) ml PySem.boot_len (pa_cons (pv 0) pa_nil)) (pe_glob (v := V.int 15) rfl mM ⟨_, rfl⟩) (nomark _))
        (pw_or1 (PW.pt (pw_and (pt_cmpR op_eq (pe_item_str (pv 0) pe_int (fun _ _ => rfl)) pe_str (nomark _)) (pw_and1 (pt_cmpR op_gt (pe_callB call_len_str (by rfl) ml PySem.boot_len (pa_cons (pv 0) pa_nil)) pe_int (nomark _))))))))) (pss_one (ps_ret pe_bl)) pss_nil)
      (pss_cons (ps_for PassesOwn.never rfl (pi_str (pv 0)) (pg_name (i := 1) scDec.nd rfl (.inl rfl)) (pss_one (ps_if (pt_cmpR op_notIn_sign (pv 1) (pe_glob (v := V.str decs) rfl mD ⟨_, rfl⟩) rfl) (pss_one (ps_ret pe_bl)) pss_nil)))
      (pss_one (ps_ret pe_bl))), ?_⟩
    -- word == ""
    refine ⟨_, rfl, rfl, _, rfl, ite2 (fun e => ?_) (fun _ => ?_)⟩
    · exact absurd (V.str.inj (of_decide_eq_true e)) (numS_ne n)
    -- len(word) > 15
    refine ⟨_, rfl, numS n, rfl, hz, _, _, rfl, rfl, _, rfl, ite2 (fun e => ?_) (fun _ => ?_)⟩
    · have e' := of_decide_eq_true e
      omega
    -- word[0] == "0" and len(word) > 1
    refine ⟨_, rfl, numS n, 0, c, rfl, rfl, by decide, by decide, by omega, ?_, rfl, _, rfl, ite2 (fun e => ?_) (fun _ => ?_)⟩
    · have e0 : (tl (numS n))[0]? = some c := by
        rw [tl_numS, en]
        rfl
      simpa [tl] using e0
    · have e' := V.str.inj (of_decide_eq_true e)
      have ec : c = 48 := by
        have z := congrArg tl e'
        have z2 : tl (Str.ofString "0") = [48] := by decide +kernel
        rw [z2] at z
        exact (List.cons.inj z).1
      have er := h48 ec
      subst er
      refine ⟨_, rfl, numS n, rfl, hz, _, _, rfl, rfl, _, rfl, ?_⟩
      rw [decide_eq_false (by
        intro z
        rw [List.length_nil] at hl
        omega)]
      refine iteF ?_
      refine ⟨_, rfl, _, rfl, for_signs (fun i σ H' => ∃ v, σ = [some (.str (numS n)), v] ∧ H' = H) ⟨none, rfl, rfl⟩ ?_ ?_⟩
      · rintro i k σ H' hk ⟨v, rfl, rfl⟩
        rw [tl_numS] at hk
        have hd := numL_digits n k (List.mem_of_getElem? hk)
        refine ⟨_, rfl, k, decs, rfl, rfl, _, rfl, ?_⟩
        rw [decide_eq_true (decs_mem (by omega))]
        exact iteF ⟨_, rfl, rfl⟩
      · rintro σ H' ⟨v, rfl, rfl⟩
        exact q
    · refine iteF ?_
      refine ⟨_, rfl, _, rfl, for_signs (fun i σ H' => ∃ v, σ = [some (.str (numS n)), v] ∧ H' = H) ⟨none, rfl, rfl⟩ ?_ ?_⟩
      · rintro i k σ H' hk ⟨v, rfl, rfl⟩
        rw [tl_numS] at hk
        have hd := numL_digits n k (List.mem_of_getElem? hk)
        refine ⟨_, rfl, k, decs, rfl, rfl, _, rfl, ?_⟩
        rw [decide_eq_true (decs_mem (by omega))]
        exact iteF ⟨_, rfl, rfl⟩
      · rintro σ H' ⟨v, rfl, rfl⟩
        exact q
end
end K76
namespace K76
open PySem PyProof.Rows L2 TL
/-! the two classes' instances -/
def pF (s t : Nat) (o : Addr) (m : Bool) : List (Str × V) := putF "marked" (.bl m) (putF "octets" (.ref o) (putF "target" (.int (t : Int)) (putF "sender" (.int (s : Int)) [])))
def rF (k n : Nat) (x : Str) (q : Addr) : List (Str × V) := putF "packet" (.ref q) (putF "word" (.str x) (putF "number" (.int (n : Int)) (putF "tick" (.int (k : Int)) [])))
theorem pF_sender (s t : Nat) (o : Addr) (m : Bool) : (pF s t o m).lookup ("sender" : Str) = some (.int (s : Int)) := by
  unfold pF
  rw [lookup_putF, if_neg (by decide +kernel), lookup_putF, if_neg (by decide +kernel), lookup_putF, if_neg (by decide +kernel), lookup_putF, if_pos rfl]
theorem pF_target (s t : Nat) (o : Addr) (m : Bool) : (pF s t o m).lookup ("target" : Str) = some (.int (t : Int)) := by
  unfold pF
  rw [lookup_putF, if_neg (by decide +kernel), lookup_putF, if_neg (by decide +kernel), lookup_putF, if_pos rfl]
theorem pF_octets (s t : Nat) (o : Addr) (m : Bool) : (pF s t o m).lookup ("octets" : Str) = some (.ref o) := by
  unfold pF
  rw [lookup_putF, if_neg (by decide +kernel), lookup_putF, if_pos rfl]
theorem pF_marked (s t : Nat) (o : Addr) (m : Bool) : (pF s t o m).lookup ("marked" : Str) = some (.bl m) := by
  unfold pF
  rw [lookup_putF, if_pos rfl]
theorem rF_tick (k n : Nat) (x : Str) (q : Addr) : (rF k n x q).lookup ("tick" : Str) = some (.int (k : Int)) := by
  unfold rF
  rw [lookup_putF, if_neg (by decide +kernel), lookup_putF, if_neg (by decide +kernel), lookup_putF, if_neg (by decide +kernel), lookup_putF, if_pos rfl]
theorem rF_number (k n : Nat) (x : Str) (q : Addr) : (rF k n x q).lookup ("number" : Str) = some (.int (n : Int)) := by
  unfold rF
  rw [lookup_putF, if_neg (by decide +kernel), lookup_putF, if_neg (by decide +kernel), lookup_putF, if_pos rfl]
theorem rF_word (k n : Nat) (x : Str) (q : Addr) : (rF k n x q).lookup ("word" : Str) = some (.str x) := by
  unfold rF
  rw [lookup_putF, if_neg (by decide +kernel), lookup_putF, if_pos rfl]
theorem rF_packet (k n : Nat) (x : Str) (q : Addr) : (rF k n x q).lookup ("packet" : Str) = some (.ref q) := by
  unfold rF
  rw [lookup_putF, if_pos rfl]
theorem putF_len (f : Str) (v : V) : ∀ fs : List (Str × V), (putF f v fs).length ≤ fs.length + 1
  | [] => Nat.le_refl _
  | (g, x) :: r => by
    unfold putF
    split
    · show r.length + 1 ≤ r.length + 1 + 1
      omega
    · show (putF f v r).length + 1 ≤ r.length + 1 + 1
      have := putF_len f v r
      omega
/-- a packet, a record stands in the heap -/
def PkAt (CP : Addr) (H : Hp) (p : Addr) (r : Rc) : Prop := ∃ dx o, H p = some (.ins CP dx (pF r.snd r.tgt o r.mkd)) ∧ H o = some (.lst (octVs r.oct))
def RcAt (CR CP : Addr) (H : Hp) (p : Addr) (r : Rc) : Prop := ∃ dx q, H p = some (.ins CR dx (rF r.tick r.num r.word q)) ∧ PkAt CP H q r
theorem PkAt.same {CP : Addr} {H H' : Hp} {p : Addr} {r : Rc} (h : PkAt CP H p r) (s : Same H H') : PkAt CP H' p r := by
  obtain ⟨dx, o, h1, h2⟩ := h
  exact ⟨dx, o, s _ _ h1, s _ _ h2⟩
theorem RcAt.same {CR CP : Addr} {H H' : Hp} {p : Addr} {r : Rc} (h : RcAt CR CP H p r) (s : Same H H') : RcAt CR CP H' p r := by
  obtain ⟨dx, q, h1, h2⟩ := h
  exact ⟨dx, q, s _ _ h1, h2.same s⟩
/-- a record whose objects lie in F -/
def RcOn (F : Addr → Prop) (CR CP : Addr) (H : Hp) (p : Addr) (r : Rc) : Prop := ∃ dx q dy o, H p = some (.ins CR dx (rF r.tick r.num r.word q)) ∧ H q = some (.ins CP dy (pF r.snd r.tgt o r.mkd)) ∧ H o = some (.lst (octVs r.oct)) ∧ F p ∧ F q ∧ F o
theorem RcOn.at {F : Addr → Prop} {CR CP : Addr} {H : Hp} {p : Addr} {r : Rc} (h : RcOn F CR CP H p r) : RcAt CR CP H p r := by
  obtain ⟨dx, q, dy, o, h1, h2, h3, _⟩ := h
  exact ⟨dx, q, h1, dy, o, h2, h3⟩
theorem RcOn.same {F : Addr → Prop} {CR CP : Addr} {H H' : Hp} {p : Addr} {r : Rc} (h : RcOn F CR CP H p r) (s : Same H H') : RcOn F CR CP H' p r := by
  obtain ⟨dx, q, dy, o, h1, h2, h3, f⟩ := h
  exact ⟨dx, q, dy, o, s _ _ h1, s _ _ h2, s _ _ h3, f⟩
theorem RcOn.upd {F : Addr → Prop} {CR CP : Addr} {H : Hp} {p a : Addr} {r : Rc} {u : HO} (h : RcOn F CR CP H p r) (n : ∀ b, F b → b ≠ a) : RcOn F CR CP (L2.upd H a u) p r := by
  obtain ⟨dx, q, dy, o, h1, h2, h3, f1, f2, f3⟩ := h
  exact ⟨dx, q, dy, o, (upd_ne (n _ f1)).trans h1, (upd_ne (n _ f2)).trans h2, (upd_ne (n _ f3)).trans h3, f1, f2, f3⟩
theorem RcOn.imp {F G : Addr → Prop} {CR CP : Addr} {H : Hp} {p : Addr} {r : Rc} (h : RcOn F CR CP H p r) (n : ∀ b, F b → G b) : RcOn G CR CP H p r := by
  obtain ⟨dx, q, dy, o, h1, h2, h3, f1, f2, f3⟩ := h
  exact ⟨dx, q, dy, o, h1, h2, h3, n _ f1, n _ f2, n _ f3⟩
/-- what the top has written of a class -/
structure CT (K : PySem.W.Frag) (C : Addr) : Prop where
  cl : Cls K C
  ha : PySem.W.findIn K (.ref C) "__class__" = some (some (.builtin "object.__class__"))
  hn : PySem.W.specialIn K (.builtin "object.__class__") "__get__" = some (some (.builtin "getset_descriptor.__get__"))
  ht : PySem.W.takesIn K (.builtin "object.__class__") = some true
  hm : PySem.W.mroIn K C (.type "object") = some true
  one : PySem.W.kitOne K (.ref C) (.ref C) = some true
structure PT1 (K : PySem.W.Frag) (C : Addr) : Prop extends CT K C where
  n1 : NoAttr K C "sender"
  n2 : NoAttr K C "target"
  n3 : NoAttr K C "octets"
  n4 : NoAttr K C "marked"
structure RT1 (K : PySem.W.Frag) (C : Addr) : Prop extends CT K C where
  n1 : NoAttr K C "tick"
  n2 : NoAttr K C "number"
  n3 : NoAttr K C "word"
  n4 : NoAttr K C "packet"
section
variable {P : Program} {w : World} {K : PySem.W.Frag} {mg : Str → Option Value} {base : Heap}
/-! Packet.__init__ -/
/-- all but p is as it was -/
def SameBut (p : Addr) (H H' : Hp) : Prop := ∀ b u, b ≠ p → H b = some u → H' b = some u
def spPInit (C : Addr) : Sp := fun vs H Q _ => ∃ (p dx o : Addr) (s t : Nat) (m : Bool) (os : List Nat), vs = [.ref p, .int (s : Int), .int (t : Int), .ref o, .bl m] ∧ H p = some (.ins C dx []) ∧ H o = some (.lst (octVs os)) ∧
  ∀ H' o', SameBut p H H' → H o' = none → H' p = some (.ins C dx (pF s t o' m)) → H' o' = some (.lst (octVs os)) → Q .non H'
theorem scPI : FnScope ["self", "sender", "target", "octets", "marked"] ["self", "sender", "target", "octets", "marked"] (defScope sPInit) := ⟨rfl, rfl, rfl, by decide +kernel, rfl, by decide +kernel, by decide +kernel⟩
abbrev kwP : List (Str × V) := [("marked", .bl false)]
theorem ok_pinit {f C : Addr} {fd : FuncData} (F : FunD K "__init__" "Packet.__init__" (defArgs sPInit) (defBody sPInit) (defScope sPInit) [] kwP f fd) (T : PT1 K C) (ml : mg "list" = none) : FnOk P w K mg base CX0 1 f fd ["self", "sender", "target", "octets", "marked"] (spPInit C) := by
  refine F.ok scPI (fun vs H Q E h => ?_) (fun cdv A outer s H vs Q E hr h => ?_)
  · obtain ⟨p, dx, o, a, b, m, os, rfl, _⟩ := h
    rfl
  · obtain ⟨p, dx, o, a, b, m, os, rfl, hp, hS, q⟩ := h
    refine ⟨_, PSs.nox (pss_cons (ps_fld (pv 0) (pv 1) rfl) (pss_cons (ps_fld (pv 0) (pv 2) rfl) (pss_cons (ps_fld (pv 0) (pe_callTy call_list_of (by rfl) ml (by decide +kernel) (pa_cons (pv 3) pa_nil)) rfl) (pss_one (ps_fld (pv 0) (pv 4) rfl))))), ?_⟩
    refine ⟨_, rfl, _, rfl, p, C, dx, [], rfl, hp, T.cl, T.n1, (by show 0 < 1000; decide), ?_⟩
    refine ⟨_, rfl, _, rfl, p, C, dx, _, rfl, upd_same, T.cl, T.n2, (by have := putF_len "sender" (.int (a : Int)) []; rw [List.length_nil] at this; omega), ?_⟩
    have nop : o ≠ p := ne_of hS hp (by intro z; cases z)
    have hlen2 : (putF "target" (.int (b : Int)) (putF "sender" (.int (a : Int)) [])).length < 999 := by
      have h1 := putF_len "sender" (.int (a : Int)) []
      have h2 := putF_len "target" (.int (b : Int)) (putF "sender" (.int (a : Int)) [])
      rw [List.length_nil] at h1
      omega
    have eo : upd (upd H p (.ins C dx (putF "sender" (.int (a : Int)) []))) p (.ins C dx (putF "target" (.int (b : Int)) (putF "sender" (.int (a : Int)) []))) o = some (.lst (octVs os)) := by
      rw [upd_ne nop, upd_ne nop]
      exact hS
    refine ⟨_, rfl, o, octVs os, rfl, .inl (SqL.of eo), fun l nl => ?_⟩
    have npl : p ≠ l := by
      rintro rfl
      rw [upd_same] at nl
      cases nl
    have nl0 : H l = none := by
      rw [upd_ne npl.symm, upd_ne npl.symm] at nl
      exact nl
    refine ⟨_, rfl, p, C, dx, _, rfl, (by rw [upd_ne npl, upd_same]), T.cl, T.n3, by omega, ?_⟩
    refine ⟨_, rfl, _, rfl, p, C, dx, _, rfl, upd_same, T.cl, T.n4, (by have := putF_len "octets" (.ref l) (putF "target" (.int (b : Int)) (putF "sender" (.int (a : Int)) [])); omega), ?_⟩
    refine q _ l (fun c u hc e => ?_) nl0 upd_same (by rw [upd_ne npl.symm, upd_ne npl.symm, upd_same])
    have ncl : c ≠ l := ne_of_none e nl0
    rw [upd_ne hc, upd_ne hc, upd_ne ncl, upd_ne hc, upd_ne hc]
    exact e
/-! Record.__init__ -/
def spRInit (C : Addr) : Sp := fun vs H Q _ => ∃ (p dx q : Addr) (k n : Nat) (x : Str), vs = [.ref p, .int (k : Int), .int (n : Int), .str x, .ref q] ∧ H p = some (.ins C dx []) ∧
  ∀ H', SameBut p H H' → H' p = some (.ins C dx (rF k n x q)) → Q .non H'
theorem scRI : FnScope ["self", "tick", "number", "word", "packet"] ["self", "tick", "number", "word", "packet"] (defScope sRInit) := ⟨rfl, rfl, rfl, by decide +kernel, rfl, by decide +kernel, by decide +kernel⟩
theorem ok_rinit {f C : Addr} {fd : FuncData} (F : Fun K "__init__" "Record.__init__" sRInit f fd) (T : RT1 K C) : FnOk P w K mg base CX0 1 f fd ["self", "tick", "number", "word", "packet"] (spRInit C) := by
  refine F.ok scRI (fun vs H Q E h => ?_) (fun cdv A outer s H vs Q E hr h => ?_)
  · obtain ⟨p, dx, o, a, b, x, rfl, _⟩ := h
    rfl
  · obtain ⟨p, dx, o, a, b, x, rfl, hp, q⟩ := h
    refine ⟨_, pss_cons (ps_fld (pv 0) (pv 1) rfl) (pss_cons (ps_fld (pv 0) (pv 2) rfl) (pss_cons (ps_fld (pv 0) (pv 3) rfl) (pss_one (ps_fld (pv 0) (pv 4) rfl)))), ?_⟩
    have h1 := putF_len "tick" (.int (a : Int)) []
    have h2 := putF_len "number" (.int (b : Int)) (putF "tick" (.int (a : Int)) [])
    have h3 := putF_len "word" (.str x) (putF "number" (.int (b : Int)) (putF "tick" (.int (a : Int)) []))
    rw [List.length_nil] at h1
    refine ⟨_, rfl, _, rfl, p, C, dx, [], rfl, hp, T.cl, T.n1, (by show 0 < 1000; decide), ?_⟩
    refine ⟨_, rfl, _, rfl, p, C, dx, _, rfl, upd_same, T.cl, T.n2, by omega, ?_⟩
    refine ⟨_, rfl, _, rfl, p, C, dx, _, rfl, upd_same, T.cl, T.n3, by omega, ?_⟩
    refine ⟨_, rfl, _, rfl, p, C, dx, _, rfl, upd_same, T.cl, T.n4, by omega, ?_⟩
    refine q _ (fun c u hc e => ?_) upd_same
    rw [upd_ne hc, upd_ne hc, upd_ne hc, upd_ne hc]
    exact e
end
end K76
namespace K76
open PySem PyProof.Rows L2 TL
theorem prs_ints (os : List Nat) (H : Hp) : Prs DFlat (octVs os) (octVs os) H := by
  refine ⟨rfl, fun i x y h1 h2 => ?_⟩
  rw [h1] at h2
  cases h2
  obtain ⟨o, _, rfl⟩ : ∃ o, o ∈ os ∧ x = V.int ((o : Nat) : Int) := by
    have hm := List.mem_of_getElem? h1
    obtain ⟨o, ho, e⟩ := List.mem_map.mp hm
    exact ⟨o, ho, e.symm⟩
  refine ⟨rfl, rfl, ?_⟩
  show ((o : Int) == (o : Int)) = true
  simp
section
variable {P : Program} {w : World} {K : PySem.W.Frag} {mg : Str → Option Value} {base : Heap}
/-! Packet.__eq__ -/
def PEqR (CP : Addr) : Addr → Addr → Hp → Prop := fun a b H => ∃ r, PkAt CP H a r ∧ PkAt CP H b r
theorem scPE : FnScope ["self", "other"] ["self", "other"] (defScope sPEq) := ⟨rfl, rfl, rfl, by decide +kernel, rfl, by decide +kernel, by decide +kernel⟩
theorem ok_peq {f C : Addr} {fd : FuncData} (F : Fun K "__eq__" "Packet.__eq__" sPEq f fd) (T : PT1 K C) (mC : mg "Packet" = some (.ref C)) (mi : mg "isinstance" = none) : FnOk P w K mg base CX0 2 f fd ["self", "other"] (spEq (PEqR C)) := by
  refine F.ok scPE (fun vs H Q E h => ?_) (fun cdv A outer s H vs Q E hr h => ?_)
  · obtain ⟨a, b, rfl, _⟩ := h
    rfl
  · obtain ⟨a, b, rfl, ⟨r, ⟨dx, o, h1, h2⟩, ⟨dy, o', h3, h4⟩⟩, q⟩ := h
    refine ⟨_, pss_one (ps_ret (pe_and (pe_callB call_isi (by rfl) mi (by decide +kernel) (pa_cons (pv 1) (pa_cons (pe_glob (v := V.ref C) rfl mC rfl) pa_nil)))
      (pe_and (pe_cmpR op_eq (pe_fld (pv 0) rfl) (pe_fld (pv 1) rfl) (nomark _)) (pe_and (pe_cmpR op_eq (pe_fld (pv 0) rfl) (pe_fld (pv 1) rfl) (nomark _))
      (pe_and (pe_cmpR (op_eqG (rcG_list mon_flat eqG_flat) hr) (pe_fld (pv 0) rfl) (pe_fld (pv 1) rfl) (nomark _)) (pe_one (pe_cmpR op_eq (pe_fld (pv 0) rfl) (pe_fld (pv 1) rfl) (nomark _)))))))), ?_⟩
    refine ⟨_, rfl, _, _, _, _, true, rfl, ClsV.own C, TyX.base (TyOf.ins h3 T.cl T.ha T.hn T.ht T.hm), T.one, true, rfl, iteT ?_⟩
    refine ⟨_, rfl, a, C, dx, _, _, rfl, h1, T.cl, T.n1, pF_sender _ _ _ _, _, rfl, b, C, dy, _, _, rfl, h3, T.cl, T.n1, pF_sender _ _ _ _, rfl, _, rfl, ?_⟩
    rw [decide_eq_true rfl]
    refine iteT ⟨_, rfl, a, C, dx, _, _, rfl, h1, T.cl, T.n2, pF_target _ _ _ _, _, rfl, b, C, dy, _, _, rfl, h3, T.cl, T.n2, pF_target _ _ _ _, rfl, _, rfl, ?_⟩
    rw [decide_eq_true rfl]
    refine iteT ⟨_, rfl, a, C, dx, _, _, rfl, h1, T.cl, T.n3, pF_octets _ _ _ _, _, rfl, b, C, dy, _, _, rfl, h3, T.cl, T.n3, pF_octets _ _ _ _, ⟨o, o', _, _, rfl, rfl, h2, h4, prs_ints _ _⟩, fun H' ex => ?_⟩
    refine ⟨_, rfl, iteT ⟨_, rfl, a, C, dx, _, _, rfl, ex _ _ h1, T.cl, T.n4, pF_marked _ _ _ _, _, rfl, b, C, dy, _, _, rfl, ex _ _ h3, T.cl, T.n4, pF_marked _ _ _ _, rfl, ?_⟩⟩
    rw [decide_eq_true rfl]
    exact q _ ex
/-! Record.__eq__ -/
def REqR (CR CP : Addr) : Addr → Addr → Hp → Prop := fun a b H => ∃ r, RcAt CR CP H a r ∧ RcAt CR CP H b r
theorem scRE : FnScope ["self", "other"] ["self", "other"] (defScope sREq) := ⟨rfl, rfl, rfl, by decide +kernel, rfl, by decide +kernel, by decide +kernel⟩
theorem ok_req {f fP C CP : Addr} {fd fdP : FuncData} (F : Fun K "__eq__" "Record.__eq__" sREq f fd) (T : RT1 K C) (mC : mg "Record" = some (.ref C)) (mi : mg "isinstance" = none)
    (GP : FnOk P w K mg base CX0 2 fP fdP ["self", "other"] (spEq (PEqR CP))) (hs : PySem.W.findIn K (.ref CP) "__eq__" = some (some (.ref fP))) (hf : PySem.W.isFn K (.ref fP) = true) (hb : Binds K fdP ["self", "other"] []) :
    FnOk P w K mg base CX0 3 f fd ["self", "other"] (spEq (REqR C CP)) := by
  refine F.ok scRE (fun vs H Q E h => ?_) (fun cdv A outer s H vs Q E hr h => ?_)
  · obtain ⟨a, b, rfl, _⟩ := h
    rfl
  · obtain ⟨a, b, rfl, ⟨r, ⟨dx, p, h1, h2⟩, ⟨dy, p', h3, h4⟩⟩, q⟩ := h
    refine ⟨_, pss_one (ps_ret (pe_and (pe_callB call_isi (by rfl) mi (by decide +kernel) (pa_cons (pv 1) (pa_cons (pe_glob (v := V.ref C) rfl mC rfl) pa_nil)))
      (pe_and (pe_cmpR op_eq (pe_fld (pv 0) rfl) (pe_fld (pv 1) rfl) (nomark _)) (pe_and (pe_cmpR op_eq (pe_fld (pv 0) rfl) (pe_fld (pv 1) rfl) (nomark _))
      (pe_and (pe_cmpR op_eq (pe_fld (pv 0) rfl) (pe_fld (pv 1) rfl) (nomark _)) (pe_one (pe_cmpR (op_eqG (rcG_ins GP hs hf hb pass0) hr) (pe_fld (pv 0) rfl) (pe_fld (pv 1) rfl) (nomark _)))))))), ?_⟩
    refine ⟨_, rfl, _, _, _, _, true, rfl, ClsV.own C, TyX.base (TyOf.ins h3 T.cl T.ha T.hn T.ht T.hm), T.one, true, rfl, iteT ?_⟩
    refine ⟨_, rfl, a, C, dx, _, _, rfl, h1, T.cl, T.n1, rF_tick _ _ _ _, _, rfl, b, C, dy, _, _, rfl, h3, T.cl, T.n1, rF_tick _ _ _ _, rfl, _, rfl, ?_⟩
    rw [decide_eq_true rfl]
    refine iteT ⟨_, rfl, a, C, dx, _, _, rfl, h1, T.cl, T.n2, rF_number _ _ _ _, _, rfl, b, C, dy, _, _, rfl, h3, T.cl, T.n2, rF_number _ _ _ _, rfl, _, rfl, ?_⟩
    rw [decide_eq_true rfl]
    refine iteT ⟨_, rfl, a, C, dx, _, _, rfl, h1, T.cl, T.n3, rF_word _ _ _ _, _, rfl, b, C, dy, _, _, rfl, h3, T.cl, T.n3, rF_word _ _ _ _, rfl, _, rfl, ?_⟩
    rw [decide_eq_true rfl]
    obtain ⟨e1, g1⟩ : ∃ dx', ∃ fs, H p = some (.ins CP dx' fs) := let ⟨dz, _, z, _⟩ := h2; ⟨dz, _, z⟩
    obtain ⟨e2, g2⟩ : ∃ dx', ∃ fs, H p' = some (.ins CP dx' fs) := let ⟨dz, _, z, _⟩ := h4; ⟨dz, _, z⟩
    obtain ⟨fs1, g1⟩ := g1
    obtain ⟨fs2, g2⟩ := g2
    exact iteT ⟨_, rfl, a, C, dx, _, _, rfl, h1, T.cl, T.n4, rF_packet _ _ _ _, _, rfl, b, C, dy, _, _, rfl, h3, T.cl, T.n4, rF_packet _ _ _ _, ⟨p, p', e1, e2, fs1, fs2, rfl, rfl, g1, g2, r, h2, h4⟩, q⟩
end
end K76
namespace K76
open PySem PyProof.Rows L2 TL
section
variable {P : Program} {w : World} {K : PySem.W.Frag} {mg : Str → Option Value} {base : Heap}
/-! read_octets -/
def spROct : Sp := fun vs H Q _ => ∃ (os : List Nat) (n : Int), vs = [.str (octS os), .int n] ∧ (∀ o ∈ os, o < 256) ∧ os.length ≤ 1000 ∧ ∀ H' p, Same H H' → H p = none → H' p = some (.lst (octVs os)) → Q (.ref p) H'
theorem scROct : FnScope ["word", "number"] ["word", "number"] (defScope sROct) := ⟨rfl, rfl, rfl, by decide +kernel, rfl, by decide +kernel, by decide +kernel⟩
theorem octS_dash {os : List Nat} (h : os ≠ []) : octS os ≠ dashS ∧ octS os ≠ Str.ofString "" ∧ octS os = hexS os := by
  have e : octS os = hexS os := if_neg h
  have hl := hexS_len os
  have h1 : 1 ≤ os.length := by
    cases os with
    | nil => exact absurd rfl h
    | cons o r => rw [List.length_cons]; omega
  refine ⟨fun q => ?_, fun q => ?_, e⟩
  · rw [← e, q] at hl
    have z : dashS.length = 1 := by decide +kernel
    omega
  · rw [← e, q] at hl
    have z : (Str.ofString "").length = 0 := by decide +kernel
    omega
theorem ok_roct {f fH : Addr} {fd fdH : FuncData} (F : Fun K "read_octets" "read_octets" sROct f fd) (GH : FnOk P w K mg base CX0 2 fH fdH ["text"] spFHex) (kH : PySem.W.keepIn K (.ref fH) = true) (bH : Binds K fdH ["text"] []) (gH : mg "from_hex" = some (.ref fH)) :
    FnOk P w K mg base CX0 3 f fd ["word", "number"] spROct := by
  refine F.ok scROct (fun vs H Q E h => ?_) (fun cdv A outer s H vs Q E hr h => ?_)
  · obtain ⟨os, n, rfl, _⟩ := h
    rfl
  · obtain ⟨os, n, rfl, h256, hlen, q⟩ := h
    refine ⟨_, pss_cons (ps_if (pt_cmpR op_eq (pv 0) pe_str (nomark _)) (pss_one (ps_ret (pe_lst pa_nil))) pss_nil)
      (pss_cons (ps_if (pt_cmpR op_eq (pv 0) pe_str (nomark _)) (pss_one ps_never) pss_nil)
      (pss_one (ps_try_thru (pss_one (ps_ret (pe_call GH hr rfl gH kH bH .nil pass0 (pa_cons (pv 0) pa_nil)))) pss_nil))), ?_⟩
    refine ⟨_, rfl, rfl, _, rfl, ite2 (fun e => ?_) (fun ne => ?_)⟩
    · have e' := V.str.inj (of_decide_eq_true e)
      have eo : os = [] := by
        by_cases h : os = []
        · exact h
        · exact absurd e' (octS_dash h).1
      subst eo
      exact ⟨Nat.zero_le _, fun p np => q _ p (same_upd np) np upd_same⟩
    · have hne : os ≠ [] := fun z => by
        subst z
        exact ne (decide_eq_true rfl)
      obtain ⟨_, h2, h3⟩ := octS_dash hne
      refine ⟨_, rfl, rfl, _, rfl, ite2 (fun e => ?_) (fun _ => ?_)⟩
      · exact absurd (V.str.inj (of_decide_eq_true e)) h2
      · exact ⟨_, rfl, os, (by rw [h3]; rfl), h256, hlen, q⟩
/-! read_record -/
theorem same_made {H H' : Hp} {x dx : Addr} {C : Addr} (h1 : H x = none) (h2 : H dx = none) (s : SameBut x (upd (upd H dx (.own x)) x (.ins C dx [])) H') : Same H H' := fun b u e => by
  have n1 : b ≠ x := ne_of_none e h1
  have n2 : b ≠ dx := ne_of_none e h2
  refine s b u n1 ?_
  rw [upd_ne n1, upd_ne n2]
  exact e
def spRRec (CR CP : Addr) : Sp := fun vs H Q _ => ∃ (r : Rc) (n : Int), vs = [.str (lineS r), .int n] ∧ OkRc r ∧ ∀ H' p, Same H H' → RcOn (fun a => H a = none) CR CP H' p r → Q (.ref p) H'
theorem scRRec : FnScope ["line", "number", "words", "word", "octets", "packet"] ["line", "number"] (defScope sRRec) := ⟨rfl, rfl, rfl, by decide +kernel, rfl, by decide +kernel, by decide +kernel⟩
abbrev kwR : List (Str × V) := [("number", .int 1)]
theorem at7 {r : Rc} {H : Hp} {wd : Addr} (h : H wd = some (.lst ((wordsOf r).map V.str))) (i : Nat) (x : Str) (e : (wordsOf r)[i]? = some x) : SqL K H wd ((wordsOf r).map V.str) ∧ atI ((wordsOf r).map V.str) (i : Int) = some (.str x) := by
  refine ⟨SqL.of h, atI_nat ?_⟩
  rw [List.getElem?_map, e]
  rfl
/-- what read_record calls -/
structure RCalls (P : Program) (w : World) (K : PySem.W.Frag) (mg : Str → Option Value) (base : Heap) (CR CP : Addr) : Prop where
  ml : mg "len" = none
  mint : mg "int" = none
  mW : ∃ W, mg "WORDS" = some (.ref W) ∧ ∀ H : Hp, SqT K H W (W6.map V.str)
  mP : mg "Packet" = some (.ref CP)
  mR : mg "Record" = some (.ref CR)
  TP : PT1 K CP
  TR : RT1 K CR
  dec : ∃ f fd, FnOk P w K mg base CX0 1 f fd ["word"] spDec ∧ PySem.W.keepIn K (.ref f) = true ∧ Binds K fd ["word"] [] ∧ mg "is_decimal" = some (.ref f)
  roct : ∃ f fd, FnOk P w K mg base CX0 3 f fd ["word", "number"] spROct ∧ PySem.W.keepIn K (.ref f) = true ∧ Binds K fd ["word", "number"] [] ∧ mg "read_octets" = some (.ref f)
  pin : ∃ f fd, FnOk P w K mg base CX0 1 f fd ["self", "sender", "target", "octets", "marked"] (spPInit CP) ∧ Mk K CP f ∧ KBn K fd ["self", "sender", "target", "octets", "marked"] 4 ["marked"] (fun us ws => us ++ ws) (fun vs zs => vs ++ zs)
  rin : ∃ f fd, FnOk P w K mg base CX0 1 f fd ["self", "tick", "number", "word", "packet"] (spRInit CR) ∧ Mk K CR f ∧ Binds K fd ["self", "tick", "number", "word", "packet"] []
theorem ok_rrec {f CR CP : Addr} {fd : FuncData} (F : FunD K "read_record" "read_record" (defArgs sRRec) (defBody sRRec) (defScope sRRec) [] kwR f fd) (Z : RCalls P w K mg base CR CP) : FnOk P w K mg base CX0 4 f fd ["line", "number"] (spRRec CR CP) := by
  obtain ⟨ml, mint, ⟨W, mW, hW⟩, mP, mR, TP, TR, ⟨fD, fdD, GD, kD, bD, gD⟩, ⟨fO, fdO, GO, kO, bO, gO⟩, ⟨fP, fdP, GP, MP, bP⟩, ⟨fR, fdR, GR, MR, bR⟩⟩ := Z
  refine F.ok scRRec (fun vs H Q E h => ?_) (fun cdv A outer s H vs Q E hr h => ?_)
  · obtain ⟨r, n, rfl, _⟩ := h
    rfl
  · obtain ⟨r, n, rfl, ok, q⟩ := h
    have hr1 : Room 1 _ := hr.mono (by decide)
    have hr2 : Room 2 _ := hr.mono (by decide)
    refine ⟨_, PSs.nox (pss_cons (ps_set (i := 2) scRRec.nd rfl (.inl rfl) (pe_split (pv 0) pe_str))
      (pss_cons (ps_if (PW.pt (pw_or (pt_cmpR op_ne (pe_callB call_len_seq (by rfl) ml PySem.boot_len (pa_cons (pv 2) pa_nil)) pe_int (nomark _))
          (pw_or (pt_cmpR op_notIn_seq (pe_ix ix_list (pv 2) pe_int (fun _ _ => rfl)) (pe_glob (v := V.ref W) rfl mW rfl) rfl)
          (pw_or1 (pt_cmpR op_notIn_seq (pe_ix ix_list (pv 2) pe_int (fun _ _ => rfl)) (pe_tup (pa_cons pe_str (pa_cons pe_str pa_nil))) rfl))))) (pss_one ps_never) pss_nil)
      (pss_cons (ps_for PassesOwn.never rfl (pi_list (pe_lst (pa_cons (pe_ix ix_list (pv 2) pe_int (fun _ _ => rfl)) (pa_cons (pe_ix ix_list (pv 2) pe_int (fun _ _ => rfl)) (pa_cons (pe_ix ix_list (pv 2) pe_int (fun _ _ => rfl)) (pa_cons (pe_ix ix_list (pv 2) pe_int (fun _ _ => rfl)) pa_nil)))))) (pg_name (i := 3) scRRec.nd rfl (.inl rfl))
        (pss_one (ps_if (pt_not (pt_val (pe_call GD hr1 rfl gD kD bD .nil pass0 (pa_cons (pv 3) pa_nil)))) (pss_one ps_never) pss_nil)))
      (pss_cons (ps_set (i := 4) scRRec.nd rfl (.inl rfl) (pe_call GO hr rfl gO kO bO .nil pass0 (pa_cons (pe_ix ix_list (pv 2) pe_int (fun _ _ => rfl)) (pa_cons (pv 1) pa_nil))))
      (pss_cons (ps_set (i := 5) scRRec.nd rfl (.inl rfl) (pe_makeK (n := 3) MP GP hr2 rfl mP bP pass0 (pa_cons (pe_callTy call_int_str (by rfl) mint (by decide +kernel) (pa_cons (pe_ix ix_list (pv 2) pe_int (fun _ _ => rfl)) pa_nil)) (pa_cons (pe_callTy call_int_str (by rfl) mint (by decide +kernel) (pa_cons (pe_ix ix_list (pv 2) pe_int (fun _ _ => rfl)) pa_nil)) (pa_cons (pv 4) pa_nil)))
          (pk_cons (pe_cmpR op_eq (pe_ix ix_list (pv 2) pe_int (fun _ _ => rfl)) pe_str (nomark _)) pk_nil)))
      (pss_one (ps_ret (pe_make MR GR hr2 rfl mR bR .nil pass0 (pa_cons (pe_callTy call_int_str (by rfl) mint (by decide +kernel) (pa_cons (pe_ix ix_list (pv 2) pe_int (fun _ _ => rfl)) pa_nil)) (pa_cons (pe_callTy call_int_str (by rfl) mint (by decide +kernel) (pa_cons (pe_ix ix_list (pv 2) pe_int (fun _ _ => rfl)) pa_nil))
          (pa_cons (pe_ix ix_list (pv 2) pe_int (fun _ _ => rfl)) (pa_cons (pv 5) pa_nil)))))))))))), ?_⟩
    -- words = line.split(" ")
    refine ⟨_, rfl, ⟨_, rfl⟩, lineS r, spS, rfl, rfl, by decide +kernel, le_line (by have := line_len ok; omega), ?_⟩
    rw [split_line ok]
    intro wd nwd
    have s1 : Same H (upd H wd (.lst ((wordsOf r).map V.str))) := same_upd nwd
    generalize eH1 : upd H wd (.lst ((wordsOf r).map V.str)) = H1 at s1
    have w1 : H1 wd = some (.lst ((wordsOf r).map V.str)) := by
      rw [← eH1]
      exact upd_same
    -- len(words) != 7
    refine ⟨_, rfl, wd, _, rfl, .inl (SqL.of w1), rfl, _, rfl, iteNS rfl ?_⟩
    -- words[2] not in WORDS
    have i2 := at7 (K := K) w1 2 r.word rfl
    have hin : inV (.str r.word) (W6.map V.str) = true := List.any_eq_true.mpr ⟨.str r.word, List.mem_map.mpr ⟨_, ok.word, rfl⟩, by
      show (r.word == r.word) = true
      simp⟩
    refine ⟨_, rfl, wd, _, 2, _, rfl, rfl, i2.1, i2.2, W, _, rfl, .inr (hW _), rfl, by decide +kernel, _, rfl, ?_⟩
    rw [hin]
    refine iteF ?_
    -- words[5] not in ("m", "-")
    have i5 := at7 (K := K) w1 5 (markS r.mkd) rfl
    refine ⟨_, rfl, wd, _, 5, _, rfl, rfl, i5.1, i5.2, (by show 2 ≤ sizeLine; decide), fun tm ntm => ?_⟩
    have s2 : Same H1 (upd H1 tm (.tup [.str (Str.ofString "m"), .str dashS])) := same_upd ntm
    refine ⟨tm, _, rfl, .inr (SqT.of upd_same), rfl, by decide +kernel, _, rfl, ?_⟩
    have hm : inV (.str (markS r.mkd)) [.str (Str.ofString "m"), .str dashS] = true := by
      cases r.mkd <;> decide +kernel
    rw [hm]
    refine iteF ?_
    generalize upd H1 tm (.tup [.str (Str.ofString "m"), .str dashS]) = H2 at s2
    have w2 := s2 _ _ w1
    -- for word in [..]
    have j0 := at7 (K := K) w2 0 (numS r.tick) rfl
    have j1 := at7 (K := K) w2 1 (numS r.num) rfl
    have j3 := at7 (K := K) w2 3 (numS r.snd) rfl
    have j4 := at7 (K := K) w2 4 (numS r.tgt) rfl
    refine ⟨_, rfl, wd, _, 0, _, rfl, rfl, j0.1, j0.2, _, rfl, wd, _, 1, _, rfl, rfl, j1.1, j1.2, _, rfl, wd, _, 3, _, rfl, rfl, j3.1, j3.2, _, rfl, wd, _, 4, _, rfl, rfl, j4.1, j4.2, (by show 4 ≤ sizeLine; decide), fun l nl => ?_⟩
    have s3 : Same H2 (upd H2 l (.lst [.str (numS r.tick), .str (numS r.num), .str (numS r.snd), .str (numS r.tgt)])) := same_upd nl
    have l3 : upd H2 l (.lst [.str (numS r.tick), .str (numS r.num), .str (numS r.snd), .str (numS r.tgt)]) l = some (.lst [.str (numS r.tick), .str (numS r.num), .str (numS r.snd), .str (numS r.tgt)]) := upd_same
    generalize upd H2 l (.lst [.str (numS r.tick), .str (numS r.num), .str (numS r.snd), .str (numS r.tgt)]) = H3 at s3 l3
    have w3 := s3 _ _ w2
    refine ⟨l, rfl, ⟨_, SqL.of l3⟩, for_list (K := K) (a := l) (xs := [.str (numS r.tick), .str (numS r.num), .str (numS r.snd), .str (numS r.tgt)])
      (fun i σ H' => ∃ v, σ = [some (.str (lineS r)), some (.int n), some (.ref wd), v, none, none] ∧ H' = H3) ⟨none, rfl, rfl⟩ (fun i σ H' _ ⟨v, _, e⟩ => e ▸ SqL.of l3) ?_ ?_⟩
    · rintro i x σ H' hx ⟨v, rfl, rfl⟩
      obtain ⟨m, rfl, hm15⟩ : ∃ m : Nat, x = V.str (numS m) ∧ m < 10 ^ 15 := by
        have hmem := List.mem_of_getElem? hx
        rcases List.mem_cons.mp hmem with rfl | hmem
        · exact ⟨_, rfl, ok.tick⟩
        rcases List.mem_cons.mp hmem with rfl | hmem
        · exact ⟨_, rfl, ok.num⟩
        rcases List.mem_cons.mp hmem with rfl | hmem
        · exact ⟨_, rfl, ok.snd⟩
        · rw [List.mem_singleton.mp hmem]
          exact ⟨_, rfl, ok.tgt⟩
      exact ⟨_, rfl, m, rfl, hm15, true, rfl, iteF ⟨_, rfl, rfl⟩⟩
    · rintro σ H' ⟨v, rfl, rfl⟩
      -- octets = read_octets(words[6], number)
      have k6 := at7 (K := K) w3 6 (octS r.oct) rfl
      refine ⟨_, rfl, wd, _, 6, _, rfl, rfl, k6.1, k6.2, _, rfl, r.oct, n, rfl, ok.oct, by have := ok.len; omega, fun H4 o s4 no eo => ?_⟩
      have w4 := s4 _ _ w3
      -- packet = Packet(..)
      have m3 := at7 (K := K) w4 3 (numS r.snd) rfl
      have m4 := at7 (K := K) w4 4 (numS r.tgt) rfl
      have m5 := at7 (K := K) w4 5 (markS r.mkd) rfl
      have hmk : decide (V.str (markS r.mkd) = V.str (Str.ofString "m")) = r.mkd := by cases r.mkd <;> decide +kernel
      have n15 : ∀ m : Nat, m < 10 ^ 15 → (numL m).length ≤ 4300 ∧ (numS m).length ≤ 640 := fun m h => by
        have a := numS_len h
        have b := a
        rw [len_tl, tl_numS] at b
        exact ⟨by omega, by omega⟩
      refine ⟨_, rfl, wd, _, 3, _, rfl, rfl, m3.1, m3.2, _, (r.snd : Int), rfl, int_num (n15 _ ok.snd).1, (n15 _ ok.snd).2, ?_⟩
      refine ⟨_, rfl, wd, _, 4, _, rfl, rfl, m4.1, m4.2, _, (r.tgt : Int), rfl, int_num (n15 _ ok.tgt).1, (n15 _ ok.tgt).2, ?_⟩
      refine ⟨_, rfl, _, rfl, wd, _, 5, _, rfl, rfl, m5.1, m5.2, rfl, ?_⟩
      refine ⟨rfl, rfl, fun x dx nx ndx ne => ⟨x, dx, o, r.snd, r.tgt, r.mkd, r.oct, by rw [hmk]; rfl, upd_same, ?_, fun H5 o' sb no' hp' ho' => ⟨rfl, ?_⟩⟩⟩
      · rw [upd_ne (ne_of_none eo nx), upd_ne (ne_of_none eo ndx)]
        exact eo
      have s5 : Same H4 H5 := same_made nx ndx sb
      have w5 := s5 _ _ w4
      -- return Record(..)
      have p0 := at7 (K := K) w5 0 (numS r.tick) rfl
      have p1 := at7 (K := K) w5 1 (numS r.num) rfl
      have p2 := at7 (K := K) w5 2 r.word rfl
      refine ⟨_, rfl, wd, _, 0, _, rfl, rfl, p0.1, p0.2, _, (r.tick : Int), rfl, int_num (n15 _ ok.tick).1, (n15 _ ok.tick).2, ?_⟩
      refine ⟨_, rfl, wd, _, 1, _, rfl, rfl, p1.1, p1.2, _, (r.num : Int), rfl, int_num (n15 _ ok.num).1, (n15 _ ok.num).2, ?_⟩
      refine ⟨_, rfl, wd, _, 2, _, rfl, rfl, p2.1, p2.2, _, rfl, fun y dy ny ndy ne2 => ⟨y, dy, x, r.tick, r.num, r.word, rfl, upd_same, fun H6 sb6 hp6 => ⟨rfl, ?_⟩⟩⟩
      have s6 : Same H5 H6 := same_made ny ndy sb6
      have sAll : Same H H5 := s1.trans (s2.trans (s3.trans (s4.trans s5)))
      have s45 : Same H4 (upd (upd H4 dx (.own x)) x (.ins CP dx [])) := (same_upd ndx).trans (same_upd (by rw [upd_ne ne.symm]; exact nx))
      exact q H6 y (sAll.trans s6) ⟨dy, x, dx, o', hp6, s6 _ _ hp', s6 _ _ ho', sAll.free ny, (s1.trans (s2.trans (s3.trans s4))).free nx, (s1.trans (s2.trans (s3.trans (s4.trans s45)))).free no'⟩
end
end K76
namespace K76
open PySem PyProof.Rows L2 TL
/-- the records stand at the places ps, their objects in F -/
def RcsOn (F : Addr → Prop) (CR CP : Addr) (H : Hp) (ps : List Addr) (rs : List Rc) : Prop := ps.length = rs.length ∧ ∀ (i : Nat) (p : Addr) (r : Rc), ps[i]? = some p → rs[i]? = some r → RcOn F CR CP H p r
theorem RcsOn.same {F : Addr → Prop} {CR CP : Addr} {H H' : Hp} {ps : List Addr} {rs : List Rc} (h : RcsOn F CR CP H ps rs) (s : Same H H') : RcsOn F CR CP H' ps rs := ⟨h.1, fun i p r h1 h2 => (h.2 i p r h1 h2).same s⟩
theorem RcsOn.upd {F : Addr → Prop} {CR CP : Addr} {H : Hp} {a : Addr} {u : HO} {ps : List Addr} {rs : List Rc} (h : RcsOn F CR CP H ps rs) (n : ∀ b, F b → b ≠ a) : RcsOn F CR CP (L2.upd H a u) ps rs := ⟨h.1, fun i p r h1 h2 => (h.2 i p r h1 h2).upd n⟩
theorem RcsOn.imp {F G : Addr → Prop} {CR CP : Addr} {H : Hp} {ps : List Addr} {rs : List Rc} (h : RcsOn F CR CP H ps rs) (n : ∀ b, F b → G b) : RcsOn G CR CP H ps rs := ⟨h.1, fun i p r h1 h2 => (h.2 i p r h1 h2).imp n⟩
theorem RcsOn.nil {F : Addr → Prop} {CR CP : Addr} {H : Hp} : RcsOn F CR CP H [] [] := ⟨rfl, fun i p r h _ => by simp at h⟩
theorem RcsOn.snoc {F : Addr → Prop} {CR CP : Addr} {H : Hp} {ps : List Addr} {rs : List Rc} {p : Addr} {r : Rc} (h : RcsOn F CR CP H ps rs) (x : RcOn F CR CP H p r) : RcsOn F CR CP H (ps ++ [p]) (rs ++ [r]) := by
  refine ⟨by rw [List.length_append, List.length_append, h.1]; rfl, fun i q z h1 h2 => ?_⟩
  rcases Nat.lt_or_ge i ps.length with hi | hi
  · rw [List.getElem?_append_left hi] at h1
    rw [List.getElem?_append_left (by rw [← h.1]; exact hi)] at h2
    exact h.2 i q z h1 h2
  · rw [List.getElem?_append_right hi] at h1
    rw [List.getElem?_append_right (by rw [← h.1]; exact hi), ← h.1] at h2
    generalize i - ps.length = j at h1 h2
    cases j with
    | zero =>
      cases h1
      cases h2
      exact x
    | succ j => simp at h1
section
variable {P : Program} {w : World} {K : PySem.W.Frag} {mg : Str → Option Value} {base : Heap}
/-! read_records -/
def spRRecs (CR CP : Addr) : Sp := fun vs H Q _ => ∃ (x : Str) (rs : List Rc), vs = [.str x] ∧ x.length + 2 ≤ sizeLine ∧ (∀ r ∈ rs, OkRc r) ∧ rs.length ≤ 1000 ∧ (keptOf 0 (Txt.split x nlS)).map (·.2) = rs.map lineS ∧
  ∀ H' p ps, Same H H' → H p = none → H' p = some (.lst (ps.map V.ref)) → RcsOn (fun a => H a = none) CR CP H' ps rs → Q (.ref p) H'
theorem scRRecs : FnScope ["text", "records", "number", "line"] ["text"] (defScope sRRecs) := ⟨rfl, rfl, rfl, by decide +kernel, rfl, by decide +kernel, by decide +kernel⟩
theorem glLns : GL sLns := ⟨rfl, rfl, rfl, rfl, ⟨_, _, _, _, _, _, _, _, _, _, _, _, _, _, _, _, _, _, _, _, _, _, _, _, _, _, _, _, _, _, _, _, _, _, _, _, rfl, rfl⟩⟩
theorem ok_rrecs {f fL fR CR CP : Addr} {fd fdL fdR : FuncData} (F : Fun K "read_records" "read_records" sRRecs f fd) (FL : Fun K "record_lines" "record_lines" sLns fL fdL) (bL : Binds K fdL ["text"] []) (gL : mg "record_lines" = some (.ref fL))
    (GR : FnOk P w K mg base CX0 4 fR fdR ["line", "number"] (spRRec CR CP)) (kR : PySem.W.keepIn K (.ref fR) = true) (bR : KBn K fdR ["line", "number"] 1 ["number"] (fun us ws => us ++ ws) (fun vs zs => vs ++ zs)) (gR : mg "read_record" = some (.ref fR)) :
    FnOk P w K mg base CX0 5 f fd ["text"] (spRRecs CR CP) := by
  refine F.ok scRRecs (fun vs H Q E h => ?_) (fun cdv A outer s H vs Q E hr h => ?_)
  · obtain ⟨x, rs, rfl, _⟩ := h
    rfl
  · obtain ⟨x, rs, rfl, hx, ok, hlen, hk, q⟩ := h
    refine ⟨_, pss_cons (ps_set (i := 1) scRRecs.nd rfl (.inl rfl) (pe_lst pa_nil))
      (pss_cons (ps_forLines (fun _ _ z => z) rfl FL glLns bL hr.depth rfl gL (pa_cons (pv 0) pa_nil) (pg_tup rfl (pgs_cons (pg_name (i := 2) scRRecs.nd rfl (.inl rfl)) (pgs_cons (pg_name (i := 3) scRRecs.nd rfl (.inl rfl)) pgs_nil)))
        (pss_one (ps_expr (pe_bm PySem.F.plainAttrs_list PySem.F.slot_list_append PySem.F.type_list_append mt_append (pv 1) (pa_cons (pe_callN (n := 1) GR hr rfl gR kR bR pass0 (pa_cons (pv 3) pa_nil) (pk_cons (pv 2) pk_nil)) pa_nil)))))
      (pss_one (ps_ret (pv 1)))), ?_⟩
    refine ⟨Nat.zero_le _, fun o no => ?_⟩
    refine ⟨_, rfl, x, rfl, hx, fun k σ H' => ∃ v2 v3 ps, σ = [some (.str x), some (.ref o), v2, v3] ∧ Same H H' ∧ H' o = some (.lst (ps.map V.ref)) ∧ RcsOn (fun a => H a = none ∧ a ≠ o) CR CP H' ps (rs.take k),
      ⟨none, none, [], rfl, same_upd no, upd_same, .nil⟩, fun k num ln σ H' hkk hW t ht => ?_, fun σ H' hW => ?_⟩
    · obtain ⟨v2, v3, ps, rfl, sm, eo, hps⟩ := hW
      obtain ⟨r, hr2, rfl⟩ : ∃ r, rs[k]? = some r ∧ ln = lineS r := by
        have e1 : ((keptOf 0 (Txt.split x nlS)).map (·.2))[k]? = some ln := by
          rw [List.getElem?_map, hkk]
          rfl
        rw [hk, List.getElem?_map] at e1
        cases e2 : rs[k]? with
        | none => rw [e2] at e1; cases e1
        | some r => rw [e2] at e1; exact ⟨r, rfl, (Option.some.inj e1).symm⟩
      have okr := ok r (List.mem_of_getElem? hr2)
      have s2 : Same H' (upd H' t (.tup [.int num, .str (lineS r)])) := same_upd ht
      refine ⟨t, [.int num, .str (lineS r)], rfl, .inl (.inl upd_same), rfl, _, _, rfl, _, [], rfl, rfl, ?_⟩
      refine ⟨_, rfl, .inl ⟨rfl, _, SqL.of (s2 _ _ eo)⟩, ?_⟩
      refine ⟨_, rfl, _, rfl, rfl, rfl, r, num, rfl, okr, fun H2 p s3 hp => ?_⟩
      have s4 : Same H' H2 := s2.trans s3
      refine ⟨o, _, _, rfl, rfl, s4 _ _ eo, ?_, ?_⟩
      · rw [List.length_map, hps.1, List.length_take]
        exact lt_line (by omega)
      · refine ⟨_, _, ps ++ [p], rfl, fun b u e => ?_, ?_, ?_⟩
        · rw [upd_ne (ne_of_none e no)]
          exact s4 _ _ (sm _ _ e)
        · rw [upd_same, List.map_append]
          rfl
        · have hp2 : RcOn (fun a => H a = none ∧ a ≠ o) CR CP H2 p r := hp.imp fun a ha => ⟨(sm.trans s2).free ha, fun e => by
            rw [e, s2 _ _ eo] at ha
            cases ha⟩
          rw [List.take_add_one, hr2]
          exact ((hps.same s4).snoc hp2).upd fun b hb => hb.2
    · obtain ⟨v2, v3, ps, rfl, sm, eo, hps⟩ := hW
      have el : (keptOf 0 (Txt.split x nlS)).length = rs.length := by
        have := congrArg List.length hk
        simpa using this
      have ek : (keptOf 0 (Txt.split x "\n")).length = rs.length := el
      rw [ek, List.take_length] at hps
      exact ⟨_, rfl, q H' o ps sm no eo (hps.imp fun a ha => ha.1)⟩
end
end K76
namespace K76
open PySem PyProof.Rows L2 TL
set_option exponentiation.threshold 4000 in
theorem small_log {n : Nat} (h : n < 10 ^ 15) : ((n : Nat) : Int).natAbs.log2 < 1920 := by
  rw [Int.natAbs_natCast]
  by_cases h0 : n = 0
  · subst h0
    decide
  · rw [Nat.log2_lt h0]
    refine Nat.lt_of_lt_of_le (Nat.lt_trans h (by decide : 10 ^ 15 < 2 ^ 50)) (Nat.pow_le_pow_right (by decide) (by decide))
section
variable {P : Program} {w : World} {K : PySem.W.Frag} {mg : Str → Option Value} {base : Heap}
/-! write_record -/
def spWRec (CR CP : Addr) : Sp := fun vs H Q _ => ∃ (p : Addr) (r : Rc), vs = [.ref p] ∧ RcAt CR CP H p r ∧ OkRc r ∧ ∀ H', Same H H' → Q (.str (lineS r)) H'
theorem scWRec : FnScope ["record", "packet", "mark", "octets", "words"] ["record"] (defScope sWRec) := ⟨rfl, rfl, rfl, by decide +kernel, rfl, by decide +kernel, by decide +kernel⟩
theorem ok_wrec {f fH CR CP : Addr} {fd fdH : FuncData} (F : Fun K "write_record" "write_record" sWRec f fd) (GH : FnOk P w K mg base CX0 1 fH fdH ["octets"] (spHex K)) (kH : PySem.W.keepIn K (.ref fH) = true) (bH : Binds K fdH ["octets"] []) (gH : mg "to_hex" = some (.ref fH))
    (TR : RT1 K CR) (TP : PT1 K CP) (ml : mg "len" = none) (ms : mg "str" = none) : FnOk P w K mg base CX0 2 f fd ["record"] (spWRec CR CP) := by
  refine F.ok scWRec (fun vs H Q E h => ?_) (fun cdv A outer s H vs Q E hr h => ?_)
  · obtain ⟨p, r, rfl, _⟩ := h
    rfl
  · obtain ⟨p, r, rfl, ⟨dx, y, h1, dy, o, h2, h3⟩, ok, q⟩ := h
    refine ⟨_, pss_cons (ps_set (i := 1) scWRec.nd rfl (.inl rfl) (pe_fld (pv 0) rfl)) (pss_cons (ps_set (i := 2) scWRec.nd rfl (.inl rfl) pe_str)
      (C8.pss_cut (ps_if (pt_val (pe_fld (pv 1) rfl)) (pss_one (ps_set (i := 2) scWRec.nd rfl (.inl rfl) pe_str)) pss_nil)
      (pss_cons (ps_set (i := 3) scWRec.nd rfl (.inl rfl) pe_str)
      (C8.pss_cut (ps_if (pt_cmpR op_gt (pe_callB call_len_seq (by rfl) ml PySem.boot_len (pa_cons (pe_fld (pv 1) rfl) pa_nil)) pe_int (nomark _)) (pss_one (ps_set (i := 3) scWRec.nd rfl (.inl rfl) (pe_call GH hr rfl gH kH bH .nil pass0 (pa_cons (pe_fld (pv 1) rfl) pa_nil)))) pss_nil)
      (pss_cons (ps_set (i := 4) scWRec.nd rfl (.inl rfl) (pe_lst (pa_cons (pe_callTy call_str_int (by rfl) ms (by decide +kernel) (pa_cons (pe_fld (pv 0) rfl) pa_nil)) (pa_cons (pe_callTy call_str_int (by rfl) ms (by decide +kernel) (pa_cons (pe_fld (pv 0) rfl) pa_nil))
          (pa_cons (pe_fld (pv 0) rfl) (pa_cons (pe_callTy call_str_int (by rfl) ms (by decide +kernel) (pa_cons (pe_fld (pv 1) rfl) pa_nil)) (pa_cons (pe_callTy call_str_int (by rfl) ms (by decide +kernel) (pa_cons (pe_fld (pv 1) rfl) pa_nil)) (pa_cons (pv 2) (pa_cons (pv 3) pa_nil)))))))))
      (pss_one (ps_ret (pe_join pe_str (pv 4))))))))), ?_⟩
    refine ⟨_, rfl, p, CR, dx, _, _, rfl, h1, TR.cl, TR.n4, rF_packet _ _ _ _, ?_⟩
    refine ⟨fun σ H' => σ = [some (.ref p), some (.ref y), some (.str (markS r.mkd)), none, none] ∧ H' = H, ?_, ?_⟩
    · refine ⟨_, rfl, y, CP, dy, _, _, rfl, h2, TP.cl, TP.n4, pF_marked _ _ _ _, r.mkd, rfl, ?_⟩
      cases r.mkd with
      | true => exact iteT ⟨rfl, rfl⟩
      | false => exact iteF ⟨rfl, rfl⟩
    rintro σ H' ⟨rfl, rfl⟩
    refine ⟨fun σ H2 => σ = [some (.ref p), some (.ref y), some (.str (markS r.mkd)), some (.str (octS r.oct)), none] ∧ Same H' H2, ?_, ?_⟩
    · refine ⟨_, rfl, y, CP, dy, _, _, rfl, h2, TP.cl, TP.n3, pF_octets _ _ _ _, o, _, rfl, .inl (SqL.of h3), _, _, rfl, rfl, _, rfl, ite2 (fun e => ?_) (fun e => ?_)⟩
      · have e' := of_decide_eq_true e
        rw [List.length_map] at e'
        have hne : r.oct ≠ [] := fun z => by
          rw [z] at e'
          exact absurd e' (by decide)
        refine ⟨_, rfl, y, CP, dy, _, _, rfl, h2, TP.cl, TP.n3, pF_octets _ _ _ _, o, r.oct, rfl, SqL.of h3, ok.oct, by have := ok.len; omega, fun H2 sm => ⟨?_, sm⟩⟩
        rw [show octS r.oct = hexS r.oct from if_neg hne]
        rfl
      · have e0 : r.oct = [] := by
          cases hz : r.oct with
          | nil => rfl
          | cons a b =>
            rw [hz] at e
            exact absurd (decide_eq_true (by rw [List.length_map, List.length_cons]; omega)) e
        refine ⟨?_, Same.refl _⟩
        rw [e0]
        rfl
    rintro σ H2 ⟨rfl, sm⟩
    have g1 := sm _ _ h1
    have g2 := sm _ _ h2
    refine ⟨_, rfl, p, CR, dx, _, _, rfl, g1, TR.cl, TR.n1, rF_tick _ _ _ _, _, rfl, small_log ok.tick, ?_⟩
    refine ⟨_, rfl, p, CR, dx, _, _, rfl, g1, TR.cl, TR.n2, rF_number _ _ _ _, _, rfl, small_log ok.num, ?_⟩
    refine ⟨_, rfl, p, CR, dx, _, _, rfl, g1, TR.cl, TR.n3, rF_word _ _ _ _, ?_⟩
    refine ⟨_, rfl, y, CP, dy, _, _, rfl, g2, TP.cl, TP.n1, pF_sender _ _ _ _, _, rfl, small_log ok.snd, ?_⟩
    refine ⟨_, rfl, y, CP, dy, _, _, rfl, g2, TP.cl, TP.n2, pF_target _ _ _ _, _, rfl, small_log ok.tgt, ?_⟩
    refine ⟨_, rfl, _, rfl, (by show 7 ≤ sizeLine; decide), fun l nl => ?_⟩
    refine ⟨⟨_, rfl⟩, _, rfl, spS, l, wordsOf r, rfl, rfl, .inl (SqL.of upd_same), ?_, q _ (sm.trans (same_upd nl))⟩
    have a1 := numS_len ok.tick
    have a2 := numS_len ok.num
    have a3 := (word_free _ ok.word).2.2.1
    have a4 := numS_len ok.snd
    have a5 := numS_len ok.tgt
    have a6 := (mark_free r.mkd).2.2
    have a7 := octS_len ok.len
    have a8 : spS.length = 1 := by decide +kernel
    show (numS r.tick).length + ((numS r.num).length + (r.word.length + ((numS r.snd).length + ((numS r.tgt).length + ((markS r.mkd).length + ((octS r.oct).length + 0)))))) + 7 * spS.length ≤ 16777216
    omega
/-! write_records -/
def spWRecs (K : PySem.W.Frag) (CR CP : Addr) : Sp := fun vs H Q _ => ∃ (a : Addr) (ps : List Addr) (rs : List Rc), vs = [.ref a] ∧ SqL K H a (ps.map V.ref) ∧ RcsOn (fun _ => True) CR CP H ps rs ∧ (∀ r ∈ rs, OkRc r) ∧ rs.length ≤ 1000 ∧ ∀ H', Same H H' → Q (.str (textS rs)) H'
theorem scWRecs : FnScope ["records", "record"] ["records"] (defScope sWRecs) := ⟨rfl, rfl, rfl, by decide +kernel, rfl, by decide +kernel, by decide +kernel⟩
theorem ok_wrecs {f fW CR CP : Addr} {fd fdW : FuncData} (F : Fun K "write_records" "write_records" sWRecs f fd) (GW : FnOk P w K mg base CX0 2 fW fdW ["record"] (spWRec CR CP)) (kW : PySem.W.keepIn K (.ref fW) = true) (bW : Binds K fdW ["record"] []) (gW : mg "write_record" = some (.ref fW)) :
    FnOk P w K mg base CX0 3 f fd ["records"] (spWRecs K CR CP) := by
  refine F.ok scWRecs (fun vs H Q E h => ?_) (fun cdv A outer s H vs Q E hr h => ?_)
  · obtain ⟨a, ps, rs, rfl, _⟩ := h
    rfl
  · obtain ⟨a, ps, rs, rfl, hS, hR, ok, hlen, q⟩ := h
    refine ⟨_, pss_one (ps_ret (pe_join pe_str (pe_lc (own := [("record", 1)]) (g := gName 1) (tt := tYes) rfl scWRecs.nd (pi_list (pv 0)) (blkOk_by (own := [("record", 1)]) (N := ["records", "record"]) (sc := defScope sWRecs) (by decide +kernel))
      (fun _ _ _ _ _ => pg_name (i := 1) scWRecs.nd rfl (Or.inl rfl)) (fun _ _ _ _ _ => pts_nil)
      (fun _ _ _ _ _ => pe_op op_add_str (pe_call GW hr rfl gW kW bW .nil pass0 (pa_cons (pv 1) pa_nil)) pe_str)))), ?_⟩
    refine ⟨⟨_, rfl⟩, .ref a, rfl, a, rfl, ⟨_, hS⟩, fun D hD => ?_⟩
    have hnl : nlS.length = 1 := by decide +kernel
    refine lc_list (K := K) (a := a) (xs := ps.map V.ref) (fun i H' => Same H H' ∧ H' D = some (.lst ((rs.take i).map fun r => V.str (lineS r ++ nlS)))) ⟨same_upd hD, upd_same⟩ (fun i H' _ h => h.1.seq hS) (fun i x H' hx hP => ?_) (fun H' hP => ?_)
    · obtain ⟨sm, eD⟩ := hP
      obtain ⟨p, hp, rfl⟩ : ∃ p, ps[i]? = some p ∧ x = V.ref p := by
        rw [List.getElem?_map] at hx
        cases e : ps[i]? with
        | none => rw [e] at hx; cases hx
        | some o => rw [e] at hx; exact ⟨o, rfl, (Option.some.inj hx).symm⟩
      have hi : i < rs.length := by
        rw [← hR.1]
        exact (List.getElem?_eq_some_iff.mp hp).1
      obtain ⟨r, hr2⟩ : ∃ r, rs[i]? = some r := ⟨rs[i], List.getElem?_eq_getElem hi⟩
      have okr := ok r (List.mem_of_getElem? hr2)
      refine ⟨rfl, ?_⟩
      rw [tYes, if_pos rfl]
      refine ⟨_, rfl, p, r, rfl, ((hR.2 i p r hp hr2).same sm).at, okr, fun H2 s2 => ?_⟩
      have hl := line_len okr
      refine ⟨_, _, rfl, rfl, le_line (by show (lineS r).length + nlS.length ≤ _; omega), _, s2 _ _ eD, ?_, fun b u e => ?_, ?_⟩
      · rw [List.length_map, List.length_take]
        exact lt_line (by omega)
      · rw [upd_ne (ne_of_none e hD)]
        exact s2 _ _ (sm b u e)
      · rw [upd_same, List.take_add_one, hr2, List.map_append]
        rfl
    · obtain ⟨sm, eD⟩ := hP
      have el : (ps.map V.ref).length = rs.length := by rw [List.length_map, hR.1]
      rw [el, List.take_length] at eD
      have eD' : H' D = some (.lst ((rs.map fun r => lineS r ++ nlS).map V.str)) := by
        rw [eD]
        simp
      refine ⟨_, D, rs.map fun r => lineS r ++ nlS, rfl, rfl, .inl (SqL.of eD'), ?_, q H' sm⟩
      have e0 : (Str.ofString "").length = 0 := by decide +kernel
      have e1 : ((rs.map fun r => lineS r ++ nlS).map (·.length)).sum ≤ 101 * rs.length := by
        have z : ∀ l : List Rc, (∀ r ∈ l, OkRc r) → ((l.map fun r => lineS r ++ nlS).map (·.length)).sum ≤ 101 * l.length := fun l hl => by
          induction l with
          | nil => exact Nat.le_refl _
          | cons o r ih =>
            have a1 := line_len (hl o List.mem_cons_self)
            have a2 := ih fun x hx => hl x (List.mem_cons_of_mem _ hx)
            have a3 : (lineS o ++ nlS).length = (lineS o).length + nlS.length := by
              rw [len_tl, tl_append, List.length_append, ← len_tl, ← len_tl]
            rw [List.map_cons, List.map_cons, List.sum_cons, a3, List.length_cons]
            omega
        exact z rs ok
      rw [e0]
      omega
end
end K76
namespace K76
open PySem PyProof.Rows L2 TL
section
variable {P : Program} {w : World} {K : PySem.W.Frag} {mg : Str → Option Value} {base : Heap}
/-! _law_is_integer -/
def spIsInt : Sp := fun vs H Q _ => ∃ n : Int, vs = [.int n] ∧ Q (.bl true) H
theorem scIsInt : FnScope ["_law_actual"] ["_law_actual"] (defScope sIsInt) := ⟨rfl, rfl, rfl, by decide +kernel, rfl, by decide +kernel, by decide +kernel⟩
theorem ok_isint {f : Addr} {fd : FuncData} (F : Fun K "_law_is_integer" "_law_is_integer" sIsInt f fd) (mi : mg "isinstance" = none) (mI : mg "int" = none) (mB : mg "bool" = none) : FnOk P w K mg base CX0 1 f fd ["_law_actual"] spIsInt := by
  refine F.ok scIsInt (fun vs H Q E h => ?_) (fun cdv A outer s H vs Q E hr h => ?_)
  · obtain ⟨n, rfl, _⟩ := h
    rfl
  · obtain ⟨n, rfl, q⟩ := h
    refine ⟨_, pss_one (ps_ret (pe_and (pe_callB call_isi (by rfl) mi (by decide +kernel) (pa_cons (pv 0) (pa_cons (pe_bltn (v := V.ty "int") (u := .type "int") (by rfl) mI (by decide +kernel) rfl) pa_nil)))
      (pe_one (pe_not (pe_callB call_isi (by rfl) mi (by decide +kernel) (pa_cons (pv 0) (pa_cons (pe_bltn (v := V.ty "bool") (u := .type "bool") (by rfl) mB (by decide +kernel) rfl) pa_nil))))))), ?_⟩
    refine ⟨_, rfl, _, _, _, _, true, rfl, ClsV.ty "int", TyX.base (TyOf.int n), kit_ty (by decide +kernel), true, rfl, iteT ?_⟩
    exact ⟨_, rfl, _, _, _, _, false, rfl, ClsV.ty "bool", TyX.base (TyOf.int n), kit_ty (by decide +kernel), false, rfl, q⟩
/-! _law_number -/
def spNum : Sp := fun vs H Q _ => ∃ c : Int, vs = [.int c] ∧ ∀ n : Nat, n < 10 ^ 15 → Q (.int (n : Int)) H
theorem scNum : FnScope ["_law_cell"] ["_law_cell"] (defScope sNum) := ⟨rfl, rfl, rfl, by decide +kernel, rfl, by decide +kernel, by decide +kernel⟩
theorem ok_num {f : Addr} {fd : FuncData} (F : Fun K "_law_number" "_law_number" sNum f fd) (mI : mg "int" = none) : FnOk P w K mg base CX0 1 f fd ["_law_cell"] spNum := by
  refine F.ok scNum (fun vs H Q E h => ?_) (fun cdv A outer s H vs Q E hr h => ?_)
  · obtain ⟨n, rfl, _⟩ := h
    rfl
  · obtain ⟨c, rfl, q⟩ := h
    have q' : ∀ z : Int, 0 ≤ z → z < 10 ^ 15 → Q (.int z) H := fun z h0 h1 => by
      have e := q z.toNat (by omega)
      rw [Int.toNat_of_nonneg h0] at e
      exact e
    refine ⟨_, pss_cons (ps_if (pt_cmpR op_eq (pe_op op_mod (pe_callTy call_int1 (by rfl) mI (by decide +kernel) (pa_cons (pv 0) pa_nil)) pe_int) pe_int (nomark _)) (pss_one (ps_ret (pe_op op_mod (pe_op op_fdiv (pe_callTy call_int1 (by rfl) mI (by decide +kernel) (pa_cons (pv 0) pa_nil)) pe_int) pe_int))) pss_nil)
      (pss_cons (ps_if (pt_cmpR op_eq (pe_op op_mod (pe_callTy call_int1 (by rfl) mI (by decide +kernel) (pa_cons (pv 0) pa_nil)) pe_int) pe_int (nomark _)) (pss_one (ps_ret (pe_op op_sub (pe_op op_sub (pe_op op_pow pe_int pe_int) pe_int) (pe_op op_mod (pe_op op_fdiv (pe_callTy call_int1 (by rfl) mI (by decide +kernel) (pa_cons (pv 0) pa_nil)) pe_int) pe_int)))) pss_nil)
      (pss_one (ps_ret (pe_op op_mod (pe_op op_fdiv (pe_callTy call_int1 (by rfl) mI (by decide +kernel) (pa_cons (pv 0) pa_nil)) pe_int) (pe_op op_pow pe_int pe_int))))), ?_⟩
    refine ⟨_, rfl, .inl ⟨c, rfl, _, _, rfl, rfl, (by show (0 : Int) < 3; decide), rfl, _, rfl, ite2 (fun _ => ?_) (fun _ => ?_)⟩⟩
    · refine ⟨_, rfl, .inl ⟨c, rfl, _, _, rfl, rfl, ⟨by decide, by decide⟩, _, _, rfl, rfl, (by show (0 : Int) < 12; decide), ?_⟩⟩
      exact q' _ (by omega) (by omega)
    refine ⟨_, rfl, .inl ⟨c, rfl, _, _, rfl, rfl, (by show (0 : Int) < 3; decide), rfl, _, rfl, ite2 (fun _ => ?_) (fun _ => ?_)⟩⟩
    · refine ⟨_, _, rfl, rfl, ⟨by decide, by decide, by decide⟩, _, _, rfl, rfl, _, rfl, .inl ⟨c, rfl, _, _, rfl, rfl, ⟨by decide, by decide⟩, _, _, rfl, rfl, (by show (0 : Int) < 12; decide), _, _, rfl, rfl, ?_⟩⟩
      have e15 : (10 : Int) ^ (15 : Int).toNat = 1000000000000000 := by decide
      refine q' _ ?_ ?_
      · rw [e15]
        omega
      · rw [e15]
        omega
    · have e15 : (10 : Int) ^ (15 : Int).toNat = 1000000000000000 := by decide
      refine ⟨_, rfl, .inl ⟨c, rfl, _, _, rfl, rfl, ⟨by decide, by decide⟩, _, _, rfl, rfl, ⟨by decide, by decide, by decide⟩, _, _, rfl, rfl, (by show (0 : Int) < (10 : Int) ^ (15 : Int).toNat; rw [e15]; decide), ?_⟩⟩
      refine q' _ ?_ ?_
      · rw [e15]
        omega
      · rw [e15]
        omega
end
end K76
namespace K76
open PySem PyProof.Rows L2 TL
section
variable {P : Program} {w : World} {K : PySem.W.Frag} {mg : Str → Option Value} {base : Heap}
/-! _law_row -/
def spRow : Sp := fun vs H Q _ => ∃ (c : Int) (m : Nat), vs = [.int c, .int (m : Int), .int 256] ∧ m ≤ 1000 ∧ ∀ H' p os, Same H H' → H p = none → H' p = some (.lst (octVs os)) → (∀ o ∈ os, o < 256) → os.length = m → Q (.ref p) H'
theorem scRow : FnScope ["_law_cell", "_law_size", "_law_base", "_law_row_here", "_law_number_here", "_law_k", "_law_mixed"] ["_law_cell", "_law_size", "_law_base"] (defScope sRow) := ⟨rfl, rfl, rfl, by decide +kernel, rfl, by decide +kernel, by decide +kernel⟩
theorem octVs_snoc (os : List Nat) (z : Int) (h0 : 0 ≤ z) : octVs os ++ [V.int z] = octVs (os ++ [z.toNat]) := by
  rw [octVs, octVs, List.map_append, List.map_singleton, Int.toNat_of_nonneg h0]
theorem snoc_lt {os : List Nat} {z : Int} (h : ∀ o ∈ os, o < 256) (h0 : 0 ≤ z) (h1 : z < 256) : ∀ o ∈ os ++ [z.toNat], o < 256 := fun o ho => by
  rcases List.mem_append.mp ho with ho | ho
  · exact h o ho
  · rw [List.mem_singleton.mp ho]
    omega
theorem ok_row {f : Addr} {fd : FuncData} (F : Fun K "_law_row" "_law_row" sRow f fd) (mI : mg "int" = none) (mr : mg "range" = none) : FnOk P w K mg base CX0 1 f fd ["_law_cell", "_law_size", "_law_base"] spRow := by
  refine F.ok scRow (fun vs H Q E h => ?_) (fun cdv A outer s H vs Q E hr h => ?_)
  · obtain ⟨c, m, rfl, _⟩ := h
    rfl
  · obtain ⟨c, m, rfl, hm, q⟩ := h
    refine ⟨_, pss_cons (ps_set (i := 3) scRow.nd rfl (.inl rfl) (pe_lst pa_nil)) (pss_cons (ps_set (i := 4) scRow.nd rfl (.inl rfl) (pv 0))
      (pss_cons (ps_for PassesOwn.never rfl (pi_range1 rfl mr (pa_cons (pv 1) pa_nil)) (pg_name (i := 5) scRow.nd rfl (.inl rfl))
        (pss_one (ps_if (pt_cmpR op_ge (pv 0) (pe_op op_pow pe_int pe_int) (nomark _))
          (pss_cons (ps_expr (pe_bm PySem.F.plainAttrs_list PySem.F.slot_list_append PySem.F.type_list_append mt_append (pv 3) (pa_cons (pe_op op_mod (pe_callTy call_int1 (by rfl) mI (by decide +kernel) (pa_cons (pv 4) pa_nil)) (pv 2)) pa_nil)))
            (pss_one (ps_set (i := 4) scRow.nd rfl (.inl rfl) (pe_op op_fdiv (pv 4) (pv 2)))))
          (pss_cons (ps_set (i := 6) scRow.nd rfl (.inl rfl) (pe_op op_mod (pe_op op_add (pe_op op_mul (pe_op op_mod (pe_callTy call_int1 (by rfl) mI (by decide +kernel) (pa_cons (pv 0) pa_nil)) pe_int) pe_int) (pe_op op_mul (pv 5) pe_int)) pe_int))
          (pss_cons (ps_set (i := 6) scRow.nd rfl (.inl rfl) (pe_op op_mod (pe_op op_add (pe_op op_add (pe_op op_mul (pv 6) pe_int) (pe_op op_mul (pv 5) pe_int)) pe_int) pe_int))
          (pss_one (ps_expr (pe_bm PySem.F.plainAttrs_list PySem.F.slot_list_append PySem.F.type_list_append mt_append (pv 3) (pa_cons (pe_op op_mod (pe_op op_fdiv (pv 6) pe_int) (pv 2)) pa_nil)))))))))
      (pss_one (ps_ret (pv 3))))), ?_⟩
    refine ⟨Nat.zero_le _, fun l nl => ?_⟩
    refine ⟨_, rfl, _, rfl, (m : Int), rfl, by omega, by omega, for_range (lo := 0) (n := m) (fun i σ H' => ∃ (os : List Nat) (z : Int) (v5 v6 : Option V), σ = [some (.int c), some (.int (m : Int)), some (.int 256), some (.ref l), some (.int z), v5, v6] ∧ Same H H' ∧ H' l = some (.lst (octVs os)) ∧ (∀ o ∈ os, o < 256) ∧ os.length = i)
      ⟨[], c, none, none, rfl, same_upd nl, upd_same, (fun o ho => by cases ho), rfl⟩ ?_ ?_⟩
    · rintro i σ H' hi ⟨os, z, v5, v6, rfl, sm, el, h256, hl⟩
      have fin : ∀ y : Int, 0 ≤ y → y < 256 → Same H (upd H' l (.lst (octVs os ++ [V.int y]))) ∧ upd H' l (.lst (octVs os ++ [V.int y])) l = some (.lst (octVs (os ++ [y.toNat]))) ∧ (∀ o ∈ os ++ [y.toNat], o < 256) ∧ (os ++ [y.toNat]).length = i + 1 := fun y h0 h1 => by
        refine ⟨fun b u e => ?_, ?_, snoc_lt h256 h0 h1, ?_⟩
        · rw [upd_ne (ne_of_none e nl)]
          exact sm b u e
        · rw [upd_same, octVs_snoc os y h0]
        · rw [List.length_append, hl]
          rfl
      have hlen : (octVs os).length < sizeLine := by
        rw [List.length_map, hl]
        exact lt_line (by omega)
      refine ⟨_, rfl, _, _, rfl, rfl, ⟨by decide, by decide, by decide⟩, _, _, rfl, rfl, _, rfl, ite2 (fun _ => ?_) (fun _ => ?_)⟩
      · refine ⟨_, rfl, .inl ⟨rfl, _, SqL.of el⟩, _, rfl, .inl ⟨z, rfl, _, rfl, _, _, rfl, rfl, (by show (0 : Int) < 256; decide), l, _, _, rfl, rfl, el, hlen, ?_⟩⟩
        refine ⟨_, rfl, _, rfl, _, _, rfl, rfl, ⟨by decide, by decide⟩, ?_⟩
        obtain ⟨f1, f2, f3, f4⟩ := fin (z % 256) (by omega) (by omega)
        exact ⟨os ++ [(z % 256).toNat], z / 256, _, _, rfl, f1, f2, f3, f4⟩
      · have m1 : ∀ y : Int, 0 ≤ y % 1000003 ∧ y % 1000003 < 1000003 := fun y => by omega
        refine ⟨_, rfl, .inl ⟨c, rfl, _, _, rfl, rfl, (by show (0 : Int) < 1000003; decide), _, _, rfl, rfl, .inl ?_, _, rfl, _, _, rfl, rfl, .inl ?_, _, _, rfl, rfl, _, _, rfl, rfl, (by show (0 : Int) < 2147483647; decide), ?_⟩⟩
        · have := m1 c
          omega
        · omega
        refine ⟨_, rfl, _, _, rfl, rfl, .inl ?_, _, rfl, _, _, rfl, rfl, .inl ?_, _, _, rfl, rfl, _, _, rfl, rfl, _, _, rfl, rfl, (by show (0 : Int) < 2147483629; decide), ?_⟩
        · omega
        · omega
        refine ⟨_, rfl, .inl ⟨rfl, _, SqL.of el⟩, _, rfl, _, _, rfl, rfl, ⟨by decide, by decide⟩, _, rfl, _, _, rfl, rfl, (by show (0 : Int) < 256; decide), l, _, _, rfl, rfl, el, hlen, ?_⟩
        have b1 := Int.emod_nonneg ((((c % 1000003 * 48271 + (0 + (i : Nat)) * 69621) % 2147483647 * 16807 + (0 + (i : Nat)) * 12345 + 99991) % 2147483629) / 7) (show (256 : Int) ≠ 0 by decide)
        have b2 := Int.emod_lt_of_pos ((((c % 1000003 * 48271 + (0 + (i : Nat)) * 69621) % 2147483647 * 16807 + (0 + (i : Nat)) * 12345 + 99991) % 2147483629) / 7) (show (0 : Int) < 256 by decide)
        obtain ⟨f1, f2, f3, f4⟩ := fin _ b1 b2
        exact ⟨_, z, _, _, rfl, f1, f2, f3, f4⟩
    · rintro σ H' ⟨os, z, v5, v6, rfl, sm, el, h256, hl⟩
      exact ⟨_, rfl, q H' l os sm nl el h256 hl⟩
/-! _law_octets -/
def spOcts : Sp := fun vs H Q _ => ∃ (a b : Addr) (os : List Nat), vs = [.ref a, .ref b] ∧ H a = some (.lst (octVs os)) ∧ H b = some (.lst (octVs os)) ∧ os.length ≤ 1000 ∧ Q (.bl true) H
theorem scOcts : FnScope ["_law_actual", "_law_expected", "_law_k"] ["_law_actual", "_law_expected"] (defScope sOcts) := ⟨rfl, rfl, rfl, by decide +kernel, rfl, by decide +kernel, by decide +kernel⟩
theorem ok_octs {f fI : Addr} {fd fdI : FuncData} (F : Fun K "_law_octets" "_law_octets" sOcts f fd) (GI : FnOk P w K mg base CX0 1 fI fdI ["_law_actual"] spIsInt) (kI : PySem.W.keepIn K (.ref fI) = true) (bI : Binds K fdI ["_law_actual"] []) (gI : mg "_law_is_integer" = some (.ref fI))
    (mi : mg "isinstance" = none) (mL : mg "list" = none) (ml : mg "len" = none) (mr : mg "range" = none) : FnOk P w K mg base CX0 2 f fd ["_law_actual", "_law_expected"] spOcts := by
  refine F.ok scOcts (fun vs H Q E h => ?_) (fun cdv A outer s H vs Q E hr h => ?_)
  · obtain ⟨a, b, os, rfl, _⟩ := h
    rfl
  · obtain ⟨a, b, os, rfl, ha, hb, hlen, q⟩ := h
    refine ⟨_, pss_cons (ps_if (PW.pt (pw_or (pt_not (pt_val (pe_callB call_isi (by rfl) mi (by decide +kernel) (pa_cons (pv 0) (pa_cons (pe_bltn (v := V.ty "list") (u := .type "list") (by rfl) mL (by decide +kernel) rfl) pa_nil)))))
        (pw_or1 (pt_cmpR op_ne (pe_callB call_len_seq (by rfl) ml PySem.boot_len (pa_cons (pv 0) pa_nil)) (pe_callB call_len_seq (by rfl) ml PySem.boot_len (pa_cons (pv 1) pa_nil)) (nomark _))))) (pss_one (ps_ret pe_bl)) pss_nil)
      (pss_cons (ps_for PassesOwn.never rfl (pi_range1 rfl mr (pa_cons (pe_callB call_len_seq (by rfl) ml PySem.boot_len (pa_cons (pv 1) pa_nil)) pa_nil)) (pg_name (i := 2) scOcts.nd rfl (.inl rfl))
        (pss_one (ps_if (PW.pt (pw_or (pt_not (pt_val (pe_call GI hr rfl gI kI bI .nil pass0 (pa_cons (pe_ix ix_list (pv 0) (pv 2) (fun _ _ => rfl)) pa_nil))))
          (pw_or1 (pt_cmpR op_ne (pe_ix ix_list (pv 0) (pv 2) (fun _ _ => rfl)) (pe_ix ix_list (pv 1) (pv 2) (fun _ _ => rfl)) (nomark _))))) (pss_one (ps_ret pe_bl)) pss_nil)))
      (pss_one (ps_ret pe_bl))), ?_⟩
    have el : (octVs os).length = os.length := List.length_map _
    refine ⟨_, rfl, _, _, _, _, true, rfl, ClsV.ty "list", TyX.base (TyOf.lst ha), kit_ty (by decide +kernel), true, rfl, iteF ?_⟩
    refine ⟨_, rfl, a, _, rfl, .inl (SqL.of ha), _, rfl, b, _, rfl, .inl (SqL.of hb), rfl, _, rfl, iteNS rfl ?_⟩
    refine ⟨_, rfl, b, _, rfl, .inl (SqL.of hb), _, rfl, by omega, by omega, for_range (lo := 0) (n := (octVs os).length) (fun i σ H' => ∃ v, σ = [some (.ref a), some (.ref b), v] ∧ H' = H) ⟨none, rfl, rfl⟩ ?_ ?_⟩
    · rintro i σ H' hi ⟨v, rfl, rfl⟩
      rw [el] at hi
      have hx : (octVs os)[i]? = some (V.int ((os[i] : Nat) : Int)) := by
        rw [List.getElem?_map, List.getElem?_eq_getElem hi]
        rfl
      have hat : atI (octVs os) (0 + (i : Nat)) = some (V.int ((os[i] : Nat) : Int)) := by
        rw [Int.zero_add]
        exact atI_nat hx
      refine ⟨_, rfl, _, rfl, a, _, _, _, rfl, rfl, SqL.of ha, hat, _, rfl, true, rfl, iteF ?_⟩
      exact ⟨_, rfl, _, rfl, a, _, _, _, rfl, rfl, SqL.of ha, hat, _, rfl, _, rfl, b, _, _, _, rfl, rfl, SqL.of hb, hat, rfl, _, rfl, iteNS rfl ⟨_, rfl, rfl⟩⟩
    · rintro σ H' ⟨v, rfl, rfl⟩
      exact q
end
end K76
namespace K76
open PySem PyProof.Rows L2 TL
/-- the parts of a record, as the law keeps them -/
def partV (r : Rc) (o : Addr) : List V := [.int (r.tick : Int), .int (r.num : Int), .str r.word, .int (r.snd : Int), .int (r.tgt : Int), .bl r.mkd, .ref o]
def PtOn (F : Addr → Prop) (H : Hp) (p : Addr) (r : Rc) : Prop := ∃ o, H p = some (.tup (partV r o)) ∧ H o = some (.lst (octVs r.oct)) ∧ F p ∧ F o
theorem PtOn.same {F : Addr → Prop} {H H' : Hp} {p : Addr} {r : Rc} (h : PtOn F H p r) (s : Same H H') : PtOn F H' p r := by
  obtain ⟨o, h1, h2, f⟩ := h
  exact ⟨o, s _ _ h1, s _ _ h2, f⟩
theorem PtOn.upd {F : Addr → Prop} {H : Hp} {p a : Addr} {r : Rc} {u : HO} (h : PtOn F H p r) (n : ∀ b, F b → b ≠ a) : PtOn F (L2.upd H a u) p r := by
  obtain ⟨o, h1, h2, f1, f2⟩ := h
  exact ⟨o, (upd_ne (n _ f1)).trans h1, (upd_ne (n _ f2)).trans h2, f1, f2⟩
theorem PtOn.imp {F G : Addr → Prop} {H : Hp} {p : Addr} {r : Rc} (h : PtOn F H p r) (n : ∀ b, F b → G b) : PtOn G H p r := by
  obtain ⟨o, h1, h2, f1, f2⟩ := h
  exact ⟨o, h1, h2, n _ f1, n _ f2⟩
section
variable {P : Program} {w : World} {K : PySem.W.Frag} {mg : Str → Option Value} {base : Heap}
/-! _law_parts -/
def spParts : Sp := fun vs H Q _ => ∃ c m : Int, vs = [.int c, .int m] ∧ ∀ H' p r, Same H H' → OkRc r → PtOn (fun a => H a = none) H' p r → Q (.ref p) H'
theorem scParts : FnScope ["_law_cell", "_law_more", "_law_word", "_law_octets_here", "_law_marked", "_law_numbers"] ["_law_cell", "_law_more"] (defScope sParts) := ⟨rfl, rfl, rfl, by decide +kernel, rfl, by decide +kernel, by decide +kernel⟩
theorem ok_parts {f fR fN : Addr} {fd fdR fdN : FuncData} (F : Fun K "_law_parts" "_law_parts" sParts f fd) (GR : FnOk P w K mg base CX0 1 fR fdR ["_law_cell", "_law_size", "_law_base"] spRow) (kR : PySem.W.keepIn K (.ref fR) = true) (bR : Binds K fdR ["_law_cell", "_law_size", "_law_base"] []) (gR : mg "_law_row" = some (.ref fR))
    (GN : FnOk P w K mg base CX0 1 fN fdN ["_law_cell"] spNum) (kN : PySem.W.keepIn K (.ref fN) = true) (bN : Binds K fdN ["_law_cell"] []) (gN : mg "_law_number" = some (.ref fN)) (mI : mg "int" = none) : FnOk P w K mg base CX0 2 f fd ["_law_cell", "_law_more"] spParts := by
  refine F.ok scParts (fun vs H Q E h => ?_) (fun cdv A outer s H vs Q E hr h => ?_)
  · obtain ⟨c, m, rfl, _⟩ := h
    rfl
  · obtain ⟨c, m, rfl, q⟩ := h
    refine ⟨_, pss_cons (ps_set (i := 2) scParts.nd rfl (.inl rfl) (pe_ix ix_list (pe_lst (pa_cons pe_str (pa_cons pe_str (pa_cons pe_str (pa_cons pe_str (pa_cons pe_str (pa_cons pe_str pa_nil))))))) (pe_op op_mod (pe_callTy call_int1 (by rfl) mI (by decide +kernel) (pa_cons (pv 0) pa_nil)) pe_int) (fun _ _ => rfl)))
      (pss_cons (ps_set (i := 3) scParts.nd rfl (.inl rfl) (pe_call GR hr rfl gR kR bR .nil pass0 (pa_cons (pv 1) (pa_cons (pe_op op_mod (pe_op op_fdiv (pe_callTy call_int1 (by rfl) mI (by decide +kernel) (pa_cons (pv 0) pa_nil)) pe_int) pe_int) (pa_cons pe_int pa_nil)))))
      (pss_cons (ps_set (i := 4) scParts.nd rfl (.inl rfl) (pe_cmpR op_eq (pe_op op_mod (pe_op op_fdiv (pe_callTy call_int1 (by rfl) mI (by decide +kernel) (pa_cons (pv 0) pa_nil)) pe_int) pe_int) pe_int (nomark _)))
      (pss_cons (ps_set (i := 5) scParts.nd rfl (.inl rfl) (pe_lst (pa_cons (pe_call GN hr rfl gN kN bN .nil pass0 (pa_cons (pe_op op_fdiv (pv 0) pe_int) pa_nil)) (pa_cons (pe_call GN hr rfl gN kN bN .nil pass0 (pa_cons (pe_op op_fdiv (pv 0) pe_int) pa_nil))
        (pa_cons (pe_call GN hr rfl gN kN bN .nil pass0 (pa_cons (pv 1) pa_nil)) (pa_cons (pe_call GN hr rfl gN kN bN .nil pass0 (pa_cons (pe_op op_fdiv (pv 1) pe_int) pa_nil)) pa_nil))))))
      (pss_one (ps_ret (pe_tup (pa_cons (pe_ix ix_list (pv 5) pe_int (fun _ _ => rfl)) (pa_cons (pe_ix ix_list (pv 5) pe_int (fun _ _ => rfl)) (pa_cons (pv 2) (pa_cons (pe_ix ix_list (pv 5) pe_int (fun _ _ => rfl)) (pa_cons (pe_ix ix_list (pv 5) pe_int (fun _ _ => rfl)) (pa_cons (pv 4) (pa_cons (pv 3) pa_nil))))))))))))), ?_⟩
    -- the word
    obtain ⟨j, hj, ej⟩ : ∃ j : Nat, j < 6 ∧ c % 6 = (j : Int) := ⟨(c % 6).toNat, by omega, by omega⟩
    obtain ⟨x, hx⟩ : ∃ x, W6[j]? = some x := ⟨W6[j], List.getElem?_eq_getElem hj⟩
    refine ⟨by show 6 ≤ sizeLine; decide, fun l nl => ?_⟩
    have s1 : Same H (upd H l (.lst (W6.map V.str))) := same_upd nl
    refine ⟨_, rfl, .inl ⟨c, rfl, _, _, rfl, rfl, (by show (0 : Int) < 6; decide), l, W6.map V.str, _, .str x, rfl, rfl, SqL.of upd_same, ?_, ?_⟩⟩
    · rw [ej]
      refine atI_nat ?_
      rw [List.getElem?_map, hx]
      rfl
    have e1 : upd H l (.lst [V.str "sent", V.str "delivered", V.str "lost", V.str "copied", V.str "marked", V.str "expired"]) = upd H l (.lst (W6.map V.str)) := rfl
    rw [e1]
    generalize upd H l (.lst (W6.map V.str)) = H1 at s1
    -- the octets
    obtain ⟨k, hk, ek⟩ : ∃ k : Nat, k ≤ 12 ∧ c / 6 % 13 = (k : Int) := ⟨(c / 6 % 13).toNat, by omega, by omega⟩
    refine ⟨_, rfl, _, rfl, .inl ⟨c, rfl, _, _, rfl, rfl, ⟨by decide, by decide⟩, _, _, rfl, rfl, (by show (0 : Int) < 13; decide), m, k, (by show [V.int m, V.int (c / 6 % 13), V.int 256] = _; rw [ek]), by omega, fun H2 o os s2 no eo h256 hlen => ?_⟩⟩
    -- marked
    refine ⟨_, rfl, .inl ⟨c, rfl, _, _, rfl, rfl, ⟨by decide, by decide⟩, _, _, rfl, rfl, (by show (0 : Int) < 2; decide), rfl, ?_⟩⟩
    -- the numbers
    refine ⟨_, rfl, _, _, rfl, rfl, ⟨by decide, by decide⟩, _, rfl, fun n1 b1 => ?_⟩
    refine ⟨_, rfl, _, _, rfl, rfl, ⟨by decide, by decide⟩, _, rfl, fun n2 b2 => ?_⟩
    refine ⟨_, rfl, _, rfl, fun n3 b3 => ?_⟩
    refine ⟨_, rfl, _, _, rfl, rfl, ⟨by decide, by decide⟩, _, rfl, fun n4 b4 => ?_⟩
    refine ⟨by show 4 ≤ sizeLine; decide, fun g ng => ?_⟩
    have s3 : Same H2 (upd H2 g (.lst [.int (n1 : Int), .int (n2 : Int), .int (n3 : Int), .int (n4 : Int)])) := same_upd ng
    have eg : upd H2 g (.lst [.int (n1 : Int), .int (n2 : Int), .int (n3 : Int), .int (n4 : Int)]) g = some (.lst [.int (n1 : Int), .int (n2 : Int), .int (n3 : Int), .int (n4 : Int)]) := upd_same
    generalize upd H2 g (.lst [.int (n1 : Int), .int (n2 : Int), .int (n3 : Int), .int (n4 : Int)]) = H3 at s3 eg
    have at4 : ∀ (i : Nat) (z : Int), [V.int (n1 : Int), .int (n2 : Int), .int (n3 : Int), .int (n4 : Int)][i]? = some (.int z) → atI [V.int (n1 : Int), .int (n2 : Int), .int (n3 : Int), .int (n4 : Int)] (i : Int) = some (.int z) := fun i z h => atI_nat h
    refine ⟨_, rfl, g, _, 0, _, rfl, rfl, SqL.of eg, at4 0 _ rfl, _, rfl, g, _, 1, _, rfl, rfl, SqL.of eg, at4 1 _ rfl, _, rfl, _, rfl, g, _, 2, _, rfl, rfl, SqL.of eg, at4 2 _ rfl, _, rfl, g, _, 3, _, rfl, rfl, SqL.of eg, at4 3 _ rfl, _, rfl, _, rfl, ?_⟩
    refine ⟨by show 7 ≤ sizeLine; decide, fun p np => ?_⟩
    have s23 : Same H H3 := s1.trans (s2.trans s3)
    refine q _ p ⟨n1, n2, x, n3, n4, decide (V.int (c / 78 % 2) = V.int 1), os⟩ (s23.trans (same_upd np)) ⟨b1, b2, List.mem_of_getElem? hx, b3, b4, h256, (by show os.length ≤ 12; omega)⟩ ⟨o, upd_same, ?_, s23.free np, s1.free no⟩
    rw [upd_ne (ne_of_none (s3 _ _ eo) np)]
    exact s3 _ _ eo
/-! _law_made -/
def spMade (CR CP : Addr) : Sp := fun vs H Q _ => ∃ (p : Addr) (r : Rc), vs = [.ref p] ∧ PtOn (fun _ => True) H p r ∧ ∀ H' x, Same H H' → RcOn (fun a => H a = none) CR CP H' x r → Q (.ref x) H'
theorem scMade : FnScope ["_law_parts_here"] ["_law_parts_here"] (defScope sMade) := ⟨rfl, rfl, rfl, by decide +kernel, rfl, by decide +kernel, by decide +kernel⟩
theorem part_at {H : Hp} {p o : Addr} {r : Rc} (h : H p = some (.tup (partV r o))) (i : Nat) (x : V) (e : (partV r o)[i]? = some x) : SqT K H p (partV r o) ∧ atI (partV r o) (i : Int) = some x := ⟨SqT.of h, atI_nat e⟩
theorem ok_made {f fP fR CR CP : Addr} {fd fdP fdR : FuncData} (F : Fun K "_law_made" "_law_made" sMade f fd) (mR : mg "Record" = some (.ref CR)) (mP : mg "Packet" = some (.ref CP)) (mL : mg "list" = none)
    (GP : FnOk P w K mg base CX0 1 fP fdP ["self", "sender", "target", "octets", "marked"] (spPInit CP)) (MP : Mk K CP fP) (bP : KBn K fdP ["self", "sender", "target", "octets", "marked"] 4 ["marked"] (fun us ws => us ++ ws) (fun vs zs => vs ++ zs))
    (GR : FnOk P w K mg base CX0 1 fR fdR ["self", "tick", "number", "word", "packet"] (spRInit CR)) (MR : Mk K CR fR) (bR : Binds K fdR ["self", "tick", "number", "word", "packet"] []) : FnOk P w K mg base CX0 3 f fd ["_law_parts_here"] (spMade CR CP) := by
  refine F.ok scMade (fun vs H Q E h => ?_) (fun cdv A outer s H vs Q E hr h => ?_)
  · obtain ⟨p, r, rfl, _⟩ := h
    rfl
  · obtain ⟨p, r, rfl, ⟨o, h1, h2, _⟩, q⟩ := h
    refine ⟨_, pss_one (ps_ret (pe_make MR GR hr rfl mR bR .nil pass0 (pa_cons (pe_ix ix_tup (pv 0) pe_int (fun _ _ => rfl)) (pa_cons (pe_ix ix_tup (pv 0) pe_int (fun _ _ => rfl)) (pa_cons (pe_ix ix_tup (pv 0) pe_int (fun _ _ => rfl))
      (pa_cons (pe_makeK (n := 3) MP GP hr rfl mP bP pass0 (pa_cons (pe_ix ix_tup (pv 0) pe_int (fun _ _ => rfl)) (pa_cons (pe_ix ix_tup (pv 0) pe_int (fun _ _ => rfl)) (pa_cons (pe_callTy call_list_of (by rfl) mL (by decide +kernel) (pa_cons (pe_ix ix_tup (pv 0) pe_int (fun _ _ => rfl)) pa_nil)) pa_nil)))
        (pk_cons (pe_ix ix_tup (pv 0) pe_int (fun _ _ => rfl)) pk_nil)) pa_nil)))))), ?_⟩
    have a0 := part_at (K := K) h1 0 _ rfl
    have a1 := part_at (K := K) h1 1 _ rfl
    have a2 := part_at (K := K) h1 2 _ rfl
    have a3 := part_at (K := K) h1 3 _ rfl
    have a4 := part_at (K := K) h1 4 _ rfl
    have a6 := part_at (K := K) h1 6 _ rfl
    refine ⟨_, rfl, p, _, 0, _, rfl, rfl, a0.1, a0.2, _, rfl, p, _, 1, _, rfl, rfl, a1.1, a1.2, _, rfl, p, _, 2, _, rfl, rfl, a2.1, a2.2, ?_⟩
    refine ⟨_, rfl, p, _, 3, _, rfl, rfl, a3.1, a3.2, _, rfl, p, _, 4, _, rfl, rfl, a4.1, a4.2, _, rfl, p, _, 6, _, rfl, rfl, a6.1, a6.2, o, octVs r.oct, rfl, .inl (SqL.of h2), fun l nl => ?_⟩
    have s1 : Same H (upd H l (.lst (octVs r.oct))) := same_upd nl
    have el : upd H l (.lst (octVs r.oct)) l = some (.lst (octVs r.oct)) := upd_same
    generalize upd H l (.lst (octVs r.oct)) = H1 at s1 el
    have a5 := part_at (K := K) (s1 _ _ h1) 5 _ rfl
    refine ⟨_, rfl, p, _, 5, _, rfl, rfl, a5.1, a5.2, rfl, rfl, fun x dx nx ndx ne => ⟨x, dx, l, r.snd, r.tgt, r.mkd, r.oct, rfl, upd_same, ?_, fun H2 o' sb no' hp' ho' => ⟨rfl, ?_⟩⟩⟩
    · rw [upd_ne (ne_of_none el nx), upd_ne (ne_of_none el ndx)]
      exact el
    have s2 : Same H1 H2 := same_made nx ndx sb
    refine fun y dy ny ndy ne2 => ⟨y, dy, x, r.tick, r.num, r.word, rfl, upd_same, fun H3 sb3 hp3 => ⟨rfl, ?_⟩⟩
    have s3 : Same H2 H3 := same_made ny ndy sb3
    have s45 : Same H1 (upd (upd H1 dx (.own x)) x (.ins CP dx [])) := (same_upd ndx).trans (same_upd (by rw [upd_ne ne.symm]; exact nx))
    exact q H3 y (s1.trans (s2.trans s3)) ⟨dy, x, dx, o', hp3, s3 _ _ hp', s3 _ _ ho', (s1.trans s2).free ny, s1.free nx, (s1.trans s45).free no'⟩
end
end K76
namespace K76
open PySem PyProof.Rows L2 TL
section
variable {P : Program} {w : World} {K : PySem.W.Frag} {mg : Str → Option Value} {base : Heap}
/-! _law_line -/
def spLine : Sp := fun vs H Q _ => ∃ (p : Addr) (r : Rc), vs = [.ref p] ∧ PtOn (fun _ => True) H p r ∧ OkRc r ∧ ∀ H', Same H H' → Q (.str (lineS r)) H'
theorem scLine : FnScope ["_law_parts_here", "_law_digits", "_law_octets_here", "_law_words", "_law_octet"] ["_law_parts_here"] (defScope sLine) := ⟨rfl, rfl, rfl, by decide +kernel, rfl, by decide +kernel, by decide +kernel⟩
theorem ok_line {f : Addr} {fd : FuncData} (F : Fun K "_law_line" "_law_line" sLine f fd) (mI : mg "int" = none) (ms : mg "str" = none) : FnOk P w K mg base CX0 1 f fd ["_law_parts_here"] spLine := by
  refine F.ok scLine (fun vs H Q E h => ?_) (fun cdv A outer s H vs Q E hr h => ?_)
  · obtain ⟨p, r, rfl, _⟩ := h
    rfl
  · obtain ⟨p, r, rfl, ⟨o, h1, h2, _⟩, ok, q⟩ := h
    refine ⟨_, pss_cons (ps_set (i := 1) scLine.nd rfl (.inr rfl) pe_str)
      (pss_cons (ps_set (i := 2) scLine.nd rfl (.inl rfl) (pe_join pe_str (pe_lc (own := [("_law_octet", 4)]) (g := gName 4) (tt := tYes) rfl scLine.nd (pi_list (pe_ix ix_tup (pv 0) pe_int (fun _ _ => rfl))) (blkOk_by (own := [("_law_octet", 4)]) (N := ["_law_parts_here", "_law_digits", "_law_octets_here", "_law_words", "_law_octet"]) (sc := defScope sLine) (by decide +kernel))
        (fun _ _ _ _ _ => pg_name (i := 4) scLine.nd rfl (Or.inl rfl)) (fun _ _ _ _ _ => pts_nil)
        (fun _ _ _ _ _ => pe_op op_add_str (pe_item_str (pv 1) (pe_op op_fdiv (pv 4) pe_int) (fun _ _ => rfl)) (pe_item_str (pv 1) (pe_op op_sub (pv 4) (pe_op op_mul (pe_op op_fdiv (pv 4) pe_int) pe_int)) (fun _ _ => rfl))))))
      (C8.pss_cut (ps_if (pt_cmpR op_eq (pv 2) pe_str (nomark _)) (pss_one (ps_set (i := 2) scLine.nd rfl (.inl rfl) pe_str)) pss_nil)
      (pss_cons (ps_set (i := 3) scLine.nd rfl (.inl rfl) (pe_lst (pa_cons (pe_callTy call_str_int (by rfl) ms (by decide +kernel) (pa_cons (pe_ix ix_tup (pv 0) pe_int (fun _ _ => rfl)) pa_nil)) (pa_cons (pe_callTy call_str_int (by rfl) ms (by decide +kernel) (pa_cons (pe_ix ix_tup (pv 0) pe_int (fun _ _ => rfl)) pa_nil))
          (pa_cons (pe_ix ix_tup (pv 0) pe_int (fun _ _ => rfl)) (pa_cons (pe_callTy call_str_int (by rfl) ms (by decide +kernel) (pa_cons (pe_ix ix_tup (pv 0) pe_int (fun _ _ => rfl)) pa_nil)) (pa_cons (pe_callTy call_str_int (by rfl) ms (by decide +kernel) (pa_cons (pe_ix ix_tup (pv 0) pe_int (fun _ _ => rfl)) pa_nil))
          (pa_cons (pe_ix ix_str pe_str (pe_callTy call_int1 (by rfl) mI (by decide +kernel) (pa_cons (pe_ix ix_tup (pv 0) pe_int (fun _ _ => rfl)) pa_nil)) (fun _ _ => rfl)) (pa_cons (pv 2) pa_nil)))))))))
      (pss_one (ps_ret (pe_join pe_str (pv 3))))))), ?_⟩
    have a6 := part_at (K := K) h1 6 _ rfl
    refine ⟨⟨_, rfl⟩, _, rfl, p, _, 6, _, rfl, rfl, a6.1, a6.2, o, rfl, ⟨_, SqL.of h2⟩, fun D hD => ?_⟩
    refine lc_list (K := K) (a := o) (xs := octVs r.oct) (fun i H' => Same H H' ∧ H' D = some (.lst ((r.oct.take i).map fun x => V.str (pairS x)))) ⟨same_upd hD, upd_same⟩ (fun i H' _ h => SqL.of (h.1 _ _ h2)) (fun i x H' hx hP => ?_) (fun H' hP => ?_)
    · obtain ⟨sm, eD⟩ := hP
      obtain ⟨y, hy, rfl⟩ : ∃ y, r.oct[i]? = some y ∧ x = V.int ((y : Nat) : Int) := by
        rw [List.getElem?_map] at hx
        cases e : r.oct[i]? with
        | none => rw [e] at hx; cases hx
        | some z => rw [e] at hx; exact ⟨z, rfl, (Option.some.inj hx).symm⟩
      have h256 := ok.oct y (List.mem_of_getElem? hy)
      have hi : i < r.oct.length := (List.getElem?_eq_some_iff.mp hy).1
      refine ⟨rfl, ?_⟩
      rw [tYes, if_pos rfl]
      have d1 : (((y : Nat) : Int) / 16).toNat = y / 16 := by omega
      have d2 : (((y : Nat) : Int) - ((y : Nat) : Int) / 16 * 16).toNat = y % 16 := by omega
      refine ⟨_, rfl, .int y, rfl, _, _, rfl, rfl, ⟨by decide, by decide⟩, digs, _, hexD (y / 16), rfl, rfl, by omega, by omega, ?_, ?_, ?_⟩
      · rw [digs_len]
        omega
      · rw [d1]
        exact digs_at _ (by omega)
      refine ⟨_, rfl, .int y, rfl, .int y, rfl, _, _, rfl, rfl, ⟨by decide, by decide⟩, _, _, rfl, rfl, .inl ⟨by omega, by omega⟩, _, _, rfl, rfl, digs, _, hexD (y % 16), rfl, rfl, by omega, by omega, ?_, ?_, ?_⟩
      · rw [digs_len]
        omega
      · rw [d2]
        exact digs_at _ (by omega)
      refine ⟨_, _, rfl, rfl, le_line (by show 1 + 1 ≤ 16777216; decide), _, eD, ?_, fun b u e => ?_, ?_⟩
      · rw [List.length_map, List.length_take]
        have := ok.len
        exact lt_line (by omega)
      · rw [upd_ne (ne_of_none e hD)]
        exact sm b u e
      · rw [upd_same, List.take_add_one, hy, List.map_append]
        rfl
    · obtain ⟨sm, eD⟩ := hP
      have el : (octVs r.oct).length = r.oct.length := List.length_map _
      rw [el, List.take_length] at eD
      have eD' : H' D = some (.lst ((r.oct.map pairS).map V.str)) := by
        rw [eD]
        simp
      have e0 : (Str.ofString "").length = 0 := by decide +kernel
      have e1 : ((r.oct.map pairS).map (·.length)).sum = 2 * r.oct.length := by
        have z : ∀ l : List Nat, ((l.map pairS).map (·.length)).sum = 2 * l.length := fun l => by
          induction l with
          | nil => rfl
          | cons o r ih =>
            rw [List.map_cons, List.map_cons, List.sum_cons, ih, pairS_len, List.length_cons]
            omega
        exact z r.oct
      have hl12 := ok.len
      refine ⟨_, D, r.oct.map pairS, rfl, rfl, .inl (SqL.of eD'), (by rw [e1, e0]; omega), ?_⟩
      rw [join_hex]
      -- if octets == ""
      refine ⟨fun σ H2 => σ = [some (.ref p), some (.str digs), some (.str (octS r.oct)), none, none] ∧ H2 = H', ?_, ?_⟩
      · refine ⟨_, rfl, rfl, _, rfl, ite2 (fun e => ?_) (fun e => ?_)⟩
        · have e' := V.str.inj (of_decide_eq_true e)
          have ez : r.oct = [] := by
            have z := congrArg Str.length e'
            rw [hexS_len, e0] at z
            exact List.length_eq_zero_iff.mp (by omega)
          refine ⟨?_, rfl⟩
          rw [ez]
          rfl
        · have hne : r.oct ≠ [] := fun z => by
            rw [z] at e
            exact e (by decide +kernel)
          refine ⟨?_, rfl⟩
          rw [show octS r.oct = hexS r.oct from if_neg hne]
          rfl
      rintro σ H2 ⟨rfl, rfl⟩
      -- the words
      have g1 := sm _ _ h1
      have a0 := part_at (K := K) g1 0 _ rfl
      have a1 := part_at (K := K) g1 1 _ rfl
      have a2 := part_at (K := K) g1 2 _ rfl
      have a3 := part_at (K := K) g1 3 _ rfl
      have a4 := part_at (K := K) g1 4 _ rfl
      have a5 := part_at (K := K) g1 5 _ rfl
      obtain ⟨c, hc, ec⟩ : ∃ c, atI (Str.ofString "-m").cps.toList (if r.mkd then 1 else 0) = some c ∧ sg c = markS r.mkd := by
        cases r.mkd with
        | true => exact ⟨109, by decide +kernel, by decide +kernel⟩
        | false => exact ⟨45, by decide +kernel, by decide +kernel⟩
      refine ⟨_, rfl, p, _, 0, _, rfl, rfl, a0.1, a0.2, _, rfl, small_log ok.tick, ?_⟩
      refine ⟨_, rfl, p, _, 1, _, rfl, rfl, a1.1, a1.2, _, rfl, small_log ok.num, ?_⟩
      refine ⟨_, rfl, p, _, 2, _, rfl, rfl, a2.1, a2.2, ?_⟩
      refine ⟨_, rfl, p, _, 3, _, rfl, rfl, a3.1, a3.2, _, rfl, small_log ok.snd, ?_⟩
      refine ⟨_, rfl, p, _, 4, _, rfl, rfl, a4.1, a4.2, _, rfl, small_log ok.tgt, ?_⟩
      refine ⟨_, rfl, p, _, 5, _, rfl, rfl, a5.1, a5.2, .inr ⟨r.mkd, rfl, Str.ofString "-m", _, c, rfl, rfl, le_line (by decide +kernel), hc, ?_⟩⟩
      refine ⟨_, rfl, (by show 7 ≤ sizeLine; decide), fun l nl => ?_⟩
      rw [show (V.str ⟨#[c]⟩ : V) = V.str (markS r.mkd) from congrArg V.str ec]
      refine ⟨⟨_, rfl⟩, _, rfl, spS, l, wordsOf r, rfl, rfl, .inl (SqL.of upd_same), ?_, q _ (sm.trans (same_upd nl))⟩
      have b1 := numS_len ok.tick
      have b2 := numS_len ok.num
      have b3 := (word_free _ ok.word).2.2.1
      have b4 := numS_len ok.snd
      have b5 := numS_len ok.tgt
      have b6 := (mark_free r.mkd).2.2
      have b7 := octS_len ok.len
      have b8 : spS.length = 1 := by decide +kernel
      show (numS r.tick).length + ((numS r.num).length + (r.word.length + ((numS r.snd).length + ((numS r.tgt).length + ((markS r.mkd).length + ((octS r.oct).length + 0)))))) + 7 * spS.length ≤ 16777216
      omega
/-! _law_same -/
def spSame (CR CP : Addr) : Sp := fun vs H Q _ => ∃ (a p : Addr) (r : Rc), vs = [.ref a, .ref p] ∧ RcAt CR CP H a r ∧ PtOn (fun _ => True) H p r ∧ OkRc r ∧ ∀ H', Same H H' → Q (.bl true) H'
theorem scSame : FnScope ["_law_actual", "_law_parts_here", "_law_numbers", "_law_expected", "_law_k"] ["_law_actual", "_law_parts_here"] (defScope sSame) := ⟨rfl, rfl, rfl, by decide +kernel, rfl, by decide +kernel, by decide +kernel⟩
theorem ok_same {f fI fO CR CP : Addr} {fd fdI fdO : FuncData} (F : Fun K "_law_same" "_law_same" sSame f fd) (GI : FnOk P w K mg base CX0 1 fI fdI ["_law_actual"] spIsInt) (kI : PySem.W.keepIn K (.ref fI) = true) (bI : Binds K fdI ["_law_actual"] []) (gI : mg "_law_is_integer" = some (.ref fI))
    (GO : FnOk P w K mg base CX0 2 fO fdO ["_law_actual", "_law_expected"] spOcts) (kO : PySem.W.keepIn K (.ref fO) = true) (bO : Binds K fdO ["_law_actual", "_law_expected"] []) (gO : mg "_law_octets" = some (.ref fO))
    (TR : RT1 K CR) (TP : PT1 K CP) (mR : mg "Record" = some (.ref CR)) (mP : mg "Packet" = some (.ref CP)) (mi : mg "isinstance" = none) (mS : mg "str" = none) (mr : mg "range" = none) : FnOk P w K mg base CX0 3 f fd ["_law_actual", "_law_parts_here"] (spSame CR CP) := by
  refine F.ok scSame (fun vs H Q E h => ?_) (fun cdv A outer s H vs Q E hr h => ?_)
  · obtain ⟨a, p, r, rfl, _⟩ := h
    rfl
  · obtain ⟨a, p, r, rfl, ⟨dx, y, h1, dy, o, h2, h3⟩, ⟨o2, g1, g2, _⟩, ok, q⟩ := h
    have hr1 : Room 1 _ := hr.mono (by decide)
    refine ⟨_, pss_cons (ps_if (PW.pt (pw_or (pt_not (pt_val (pe_callB call_isi (by rfl) mi (by decide +kernel) (pa_cons (pv 0) (pa_cons (pe_glob (v := V.ref CR) rfl mR rfl) pa_nil)))))
        (pw_or (pt_not (pt_val (pe_callB call_isi (by rfl) mi (by decide +kernel) (pa_cons (pe_fld (pv 0) rfl) (pa_cons (pe_glob (v := V.ref CP) rfl mP rfl) pa_nil)))))
        (pw_or1 (pt_not (pt_val (pe_callB call_isi (by rfl) mi (by decide +kernel) (pa_cons (pe_fld (pv 0) rfl) (pa_cons (pe_bltn (v := V.ty "str") (u := .type "str") (by rfl) mS (by decide +kernel) rfl) pa_nil))))))))) (pss_one (ps_ret pe_bl)) pss_nil)
      (pss_cons (ps_set (i := 2) scSame.nd rfl (.inl rfl) (pe_lst (pa_cons (pe_fld (pv 0) rfl) (pa_cons (pe_fld (pv 0) rfl) (pa_cons (pe_fld (pe_fld (pv 0) rfl) rfl) (pa_cons (pe_fld (pe_fld (pv 0) rfl) rfl) pa_nil))))))
      (pss_cons (ps_set (i := 3) scSame.nd rfl (.inl rfl) (pe_lst (pa_cons (pe_ix ix_tup (pv 1) pe_int (fun _ _ => rfl)) (pa_cons (pe_ix ix_tup (pv 1) pe_int (fun _ _ => rfl)) (pa_cons (pe_ix ix_tup (pv 1) pe_int (fun _ _ => rfl)) (pa_cons (pe_ix ix_tup (pv 1) pe_int (fun _ _ => rfl)) pa_nil))))))
      (pss_cons (ps_for PassesOwn.never rfl (pi_range1 rfl mr (pa_cons pe_int pa_nil)) (pg_name (i := 4) scSame.nd rfl (.inl rfl))
        (pss_one (ps_if (PW.pt (pw_or (pt_not (pt_val (pe_call GI hr1 rfl gI kI bI .nil pass0 (pa_cons (pe_ix ix_list (pv 2) (pv 4) (fun _ _ => rfl)) pa_nil))))
          (pw_or1 (pt_cmpR op_ne (pe_ix ix_list (pv 2) (pv 4) (fun _ _ => rfl)) (pe_ix ix_list (pv 3) (pv 4) (fun _ _ => rfl)) (nomark _))))) (pss_one (ps_ret pe_bl)) pss_nil)))
      (pss_cons (ps_if (PW.pt (pw_or (pt_cmpR op_ne (pe_fld (pv 0) rfl) (pe_ix ix_tup (pv 1) pe_int (fun _ _ => rfl)) (nomark _))
        (pw_or1 (pt_not (pt_val (pe_call GO hr rfl gO kO bO .nil pass0 (pa_cons (pe_fld (pe_fld (pv 0) rfl) rfl) (pa_cons (pe_ix ix_tup (pv 1) pe_int (fun _ _ => rfl)) pa_nil)))))))) (pss_one (ps_ret pe_bl)) pss_nil)
      (pss_cons (ps_if (pt_val (pe_ix ix_tup (pv 1) pe_int (fun _ _ => rfl))) (pss_one (ps_ret (pe_cmpR op_isBl (pe_fld (pe_fld (pv 0) rfl) rfl) pe_bl (nomark _)))) pss_nil)
      (pss_one (ps_ret (pe_cmpR op_isBl (pe_fld (pe_fld (pv 0) rfl) rfl) pe_bl (nomark _))))))))), ?_⟩
    -- the kinds
    refine ⟨_, rfl, _, _, _, _, true, rfl, ClsV.own CR, TyX.base (TyOf.ins h1 TR.cl TR.ha TR.hn TR.ht TR.hm), TR.one, true, rfl, iteF ?_⟩
    refine ⟨_, rfl, a, CR, dx, _, _, rfl, h1, TR.cl, TR.n4, rF_packet _ _ _ _, _, _, _, _, true, rfl, ClsV.own CP, TyX.base (TyOf.ins h2 TP.cl TP.ha TP.hn TP.ht TP.hm), TP.one, true, rfl, iteF ?_⟩
    refine ⟨_, rfl, a, CR, dx, _, _, rfl, h1, TR.cl, TR.n3, rF_word _ _ _ _, _, _, _, _, true, rfl, ClsV.ty "str", TyX.base (TyOf.str _), kit_ty (by decide +kernel), true, rfl, iteF ?_⟩
    -- numbers
    refine ⟨_, rfl, a, CR, dx, _, _, rfl, h1, TR.cl, TR.n1, rF_tick _ _ _ _, _, rfl, a, CR, dx, _, _, rfl, h1, TR.cl, TR.n2, rF_number _ _ _ _, ?_⟩
    refine ⟨_, rfl, a, CR, dx, _, _, rfl, h1, TR.cl, TR.n4, rF_packet _ _ _ _, y, CP, dy, _, _, rfl, h2, TP.cl, TP.n1, pF_sender _ _ _ _, ?_⟩
    refine ⟨_, rfl, a, CR, dx, _, _, rfl, h1, TR.cl, TR.n4, rF_packet _ _ _ _, y, CP, dy, _, _, rfl, h2, TP.cl, TP.n2, pF_target _ _ _ _, (by show 4 ≤ sizeLine; decide), fun l nl => ?_⟩
    have s1 : Same H (upd H l (.lst [.int (r.tick : Int), .int (r.num : Int), .int (r.snd : Int), .int (r.tgt : Int)])) := same_upd nl
    have el : upd H l (.lst [.int (r.tick : Int), .int (r.num : Int), .int (r.snd : Int), .int (r.tgt : Int)]) l = some (.lst [.int (r.tick : Int), .int (r.num : Int), .int (r.snd : Int), .int (r.tgt : Int)]) := upd_same
    generalize upd H l (.lst [.int (r.tick : Int), .int (r.num : Int), .int (r.snd : Int), .int (r.tgt : Int)]) = H1 at s1 el
    -- expected
    have a0 := part_at (K := K) (s1 _ _ g1) 0 _ rfl
    have a1 := part_at (K := K) (s1 _ _ g1) 1 _ rfl
    have a3 := part_at (K := K) (s1 _ _ g1) 3 _ rfl
    have a4 := part_at (K := K) (s1 _ _ g1) 4 _ rfl
    refine ⟨_, rfl, p, _, 0, _, rfl, rfl, a0.1, a0.2, _, rfl, p, _, 1, _, rfl, rfl, a1.1, a1.2, _, rfl, p, _, 3, _, rfl, rfl, a3.1, a3.2, _, rfl, p, _, 4, _, rfl, rfl, a4.1, a4.2, (by show 4 ≤ sizeLine; decide), fun l2 nl2 => ?_⟩
    have s2 : Same H1 (upd H1 l2 (.lst [.int (r.tick : Int), .int (r.num : Int), .int (r.snd : Int), .int (r.tgt : Int)])) := same_upd nl2
    have el2 : upd H1 l2 (.lst [.int (r.tick : Int), .int (r.num : Int), .int (r.snd : Int), .int (r.tgt : Int)]) l2 = some (.lst [.int (r.tick : Int), .int (r.num : Int), .int (r.snd : Int), .int (r.tgt : Int)]) := upd_same
    generalize upd H1 l2 (.lst [.int (r.tick : Int), .int (r.num : Int), .int (r.snd : Int), .int (r.tgt : Int)]) = H2 at s2 el2
    have el1 := s2 _ _ el
    have sm := s1.trans s2
    refine ⟨4, rfl, by decide, by decide, for_range (lo := 0) (n := 4) (fun i σ H' => ∃ v, σ = [some (.ref a), some (.ref p), some (.ref l), some (.ref l2), v] ∧ H' = H2) ⟨none, rfl, rfl⟩ ?_ ?_⟩
    · rintro i σ H' hi ⟨v, rfl, rfl⟩
      obtain ⟨z, hz⟩ : ∃ z : Int, [V.int (r.tick : Int), .int (r.num : Int), .int (r.snd : Int), .int (r.tgt : Int)][i]? = some (.int z) := by
        match i, hi with
        | 0, _ => exact ⟨_, rfl⟩
        | 1, _ => exact ⟨_, rfl⟩
        | 2, _ => exact ⟨_, rfl⟩
        | 3, _ => exact ⟨_, rfl⟩
      have hat : atI [V.int (r.tick : Int), .int (r.num : Int), .int (r.snd : Int), .int (r.tgt : Int)] (0 + (i : Nat)) = some (.int z) := by
        rw [Int.zero_add]
        exact atI_nat hz
      refine ⟨_, rfl, _, rfl, l, _, _, _, rfl, rfl, SqL.of el1, hat, z, rfl, true, rfl, iteF ?_⟩
      exact ⟨_, rfl, _, rfl, l, _, _, _, rfl, rfl, SqL.of el1, hat, _, rfl, _, rfl, l2, _, _, _, rfl, rfl, SqL.of el2, hat, rfl, _, rfl, iteNS rfl ⟨_, rfl, rfl⟩⟩
    · rintro σ H' ⟨v, rfl, rfl⟩
      have k1 := sm _ _ h1
      have k2 := sm _ _ h2
      have k3 := sm _ _ h3
      have k4 := sm _ _ g1
      have k5 := sm _ _ g2
      have b2 := part_at (K := K) k4 2 _ rfl
      have b5 := part_at (K := K) k4 5 _ rfl
      have b6 := part_at (K := K) k4 6 _ rfl
      refine ⟨_, rfl, a, CR, dx, _, _, rfl, k1, TR.cl, TR.n3, rF_word _ _ _ _, _, rfl, p, _, 2, _, rfl, rfl, b2.1, b2.2, rfl, _, rfl, iteNS rfl ?_⟩
      refine ⟨_, rfl, a, CR, dx, _, _, rfl, k1, TR.cl, TR.n4, rF_packet _ _ _ _, y, CP, dy, _, _, rfl, k2, TP.cl, TP.n3, pF_octets _ _ _ _, _, rfl, p, _, 6, _, rfl, rfl, b6.1, b6.2, o, o2, r.oct, rfl, k3, k5, (by have := ok.len; omega), true, rfl, iteF ?_⟩
      refine ⟨_, rfl, p, _, 5, _, rfl, rfl, b5.1, b5.2, r.mkd, rfl, ?_⟩
      have mk := pF_marked r.snd r.tgt o r.mkd
      cases em : r.mkd with
      | true =>
        rw [em] at mk k2
        refine iteT ⟨_, rfl, a, CR, dx, _, _, rfl, k1, TR.cl, TR.n4, rF_packet _ _ _ _, y, CP, dy, _, _, rfl, k2, TP.cl, TP.n4, mk, true, true, rfl, rfl, ?_⟩
        exact q _ sm
      | false =>
        rw [em] at mk k2
        refine iteF ⟨_, rfl, a, CR, dx, _, _, rfl, k1, TR.cl, TR.n4, rF_packet _ _ _ _, y, CP, dy, _, _, rfl, k2, TP.cl, TP.n4, mk, false, false, rfl, rfl, ?_⟩
        exact q _ sm
end
end K76
namespace K76
open PySem PyProof.Rows L2 TL
/-- the parts of the records stand at the places ps -/
def PtsOn (F : Addr → Prop) (H : Hp) (ps : List Addr) (rs : List Rc) : Prop := ps.length = rs.length ∧ ∀ (i : Nat) (p : Addr) (r : Rc), ps[i]? = some p → rs[i]? = some r → PtOn F H p r
theorem PtsOn.same {F : Addr → Prop} {H H' : Hp} {ps : List Addr} {rs : List Rc} (h : PtsOn F H ps rs) (s : Same H H') : PtsOn F H' ps rs := ⟨h.1, fun i p r h1 h2 => (h.2 i p r h1 h2).same s⟩
theorem PtsOn.upd {F : Addr → Prop} {H : Hp} {a : Addr} {u : HO} {ps : List Addr} {rs : List Rc} (h : PtsOn F H ps rs) (n : ∀ b, F b → b ≠ a) : PtsOn F (L2.upd H a u) ps rs := ⟨h.1, fun i p r h1 h2 => (h.2 i p r h1 h2).upd n⟩
theorem PtsOn.imp {F G : Addr → Prop} {H : Hp} {ps : List Addr} {rs : List Rc} (h : PtsOn F H ps rs) (n : ∀ b, F b → G b) : PtsOn G H ps rs := ⟨h.1, fun i p r h1 h2 => (h.2 i p r h1 h2).imp n⟩
theorem PtsOn.nil {F : Addr → Prop} {H : Hp} : PtsOn F H [] [] := ⟨rfl, fun i p r h _ => by simp at h⟩
theorem PtsOn.snoc {F : Addr → Prop} {H : Hp} {ps : List Addr} {rs : List Rc} {p : Addr} {r : Rc} (h : PtsOn F H ps rs) (x : PtOn F H p r) : PtsOn F H (ps ++ [p]) (rs ++ [r]) := by
  refine ⟨by rw [List.length_append, List.length_append, h.1]; rfl, fun i q z h1 h2 => ?_⟩
  rcases Nat.lt_or_ge i ps.length with hi | hi
  · rw [List.getElem?_append_left hi] at h1
    rw [List.getElem?_append_left (by rw [← h.1]; exact hi)] at h2
    exact h.2 i q z h1 h2
  · rw [List.getElem?_append_right hi] at h1
    rw [List.getElem?_append_right (by rw [← h.1]; exact hi), ← h.1] at h2
    generalize i - ps.length = j at h1 h2
    cases j with
    | zero =>
      cases h1
      cases h2
      exact x
    | succ j => simp at h1
/-- the place and the record at a turn -/
theorem PtsOn.turn {F : Addr → Prop} {H : Hp} {ps : List Addr} {rs : List Rc} (h : PtsOn F H ps rs) {i : Nat} (hi : i < rs.length) : ∃ p r, rs[i]? = some r ∧ (ps.map V.ref)[i]? = some (.ref p) ∧ PtOn F H p r := by
  have hp : i < ps.length := by rw [h.1]; exact hi
  refine ⟨ps[i], rs[i], List.getElem?_eq_getElem hi, ?_, h.2 i _ _ (List.getElem?_eq_getElem hp) (List.getElem?_eq_getElem hi)⟩
  rw [List.getElem?_map, List.getElem?_eq_getElem hp]
  rfl
theorem RcsOn.turn {F : Addr → Prop} {CR CP : Addr} {H : Hp} {ps : List Addr} {rs : List Rc} (h : RcsOn F CR CP H ps rs) {i : Nat} (hi : i < rs.length) : ∃ p r, rs[i]? = some r ∧ (ps.map V.ref)[i]? = some (.ref p) ∧ RcOn F CR CP H p r := by
  have hp : i < ps.length := by rw [h.1]; exact hi
  refine ⟨ps[i], rs[i], List.getElem?_eq_getElem hi, ?_, h.2 i _ _ (List.getElem?_eq_getElem hp) (List.getElem?_eq_getElem hi)⟩
  rw [List.getElem?_map, List.getElem?_eq_getElem hp]
  rfl
theorem at0 {xs : List V} {i : Nat} {x : V} (h : xs[i]? = some x) : atI xs (0 + (i : Int)) = some x := by
  rw [Int.zero_add]
  exact atI_nat h
theorem two_at {ns : List Int} {j : Nat} {z : Int} (h : ns[j]? = some z) {k : Int} (e : k = (j : Int)) : atI (ns.map V.int) k = some (.int z) := by
  rw [e]
  refine atI_nat ?_
  rw [List.getElem?_map, h]
  rfl
section
variable {P : Program} {w : World} {K : PySem.W.Frag} {mg : Str → Option Value} {base : Heap}
def spLaw (K : PySem.W.Frag) : Sp := fun vs H Q _ => ∃ (a : Addr) (ns : List Int), vs = [.ref a] ∧ SqL K H a (ns.map V.int) ∧ ns.length ≤ 63 ∧ ∀ H', Q (.bl true) H'
theorem scLaw : FnScope ["_law_script", "_law_k", "_law_parts_here", "_law_records", "_law_text", "_law_back", "_law_between", "_law_more", "_law_part"] ["_law_script"] (defScope sLaw) := ⟨rfl, rfl, rfl, by decide +kernel, rfl, by decide +kernel, by decide +kernel⟩
theorem ok_law {f fPt fM fWR fRR fS fL fE CR CP : Addr} {fd fdPt fdM fdWR fdRR fdS fdL fdE : FuncData} (F : Fun K "law" "law" sLaw f fd)
    (GPt : FnOk P w K mg base CX0 2 fPt fdPt ["_law_cell", "_law_more"] spParts) (kPt : PySem.W.keepIn K (.ref fPt) = true) (bPt : Binds K fdPt ["_law_cell", "_law_more"] []) (gPt : mg "_law_parts" = some (.ref fPt))
    (GM : FnOk P w K mg base CX0 3 fM fdM ["_law_parts_here"] (spMade CR CP)) (kM : PySem.W.keepIn K (.ref fM) = true) (bM : Binds K fdM ["_law_parts_here"] []) (gM : mg "_law_made" = some (.ref fM))
    (GWR : FnOk P w K mg base CX0 3 fWR fdWR ["records"] (spWRecs K CR CP)) (kWR : PySem.W.keepIn K (.ref fWR) = true) (bWR : Binds K fdWR ["records"] []) (gWR : mg "write_records" = some (.ref fWR))
    (GRR : FnOk P w K mg base CX0 5 fRR fdRR ["text"] (spRRecs CR CP)) (kRR : PySem.W.keepIn K (.ref fRR) = true) (bRR : Binds K fdRR ["text"] []) (gRR : mg "read_records" = some (.ref fRR))
    (GS : FnOk P w K mg base CX0 3 fS fdS ["_law_actual", "_law_parts_here"] (spSame CR CP)) (kS : PySem.W.keepIn K (.ref fS) = true) (bS : Binds K fdS ["_law_actual", "_law_parts_here"] []) (gS : mg "_law_same" = some (.ref fS))
    (GL : FnOk P w K mg base CX0 1 fL fdL ["_law_parts_here"] spLine) (kL : PySem.W.keepIn K (.ref fL) = true) (bL : Binds K fdL ["_law_parts_here"] []) (gL : mg "_law_line" = some (.ref fL))
    (GE : FnOk P w K mg base CX0 3 fE fdE ["self", "other"] (spEq (REqR CR CP))) (hs : PySem.W.findIn K (.ref CR) "__eq__" = some (some (.ref fE))) (hf : PySem.W.isFn K (.ref fE) = true) (hb : Binds K fdE ["self", "other"] [])
    (ml : mg "len" = none) (mm : mg "min" = none) (mr : mg "range" = none) (mi : mg "isinstance" = none) (mS : mg "str" = none) (mL : mg "list" = none) (mI : mg "int" = none) : FnOk P w K mg base CX0 6 f fd ["_law_script"] (spLaw K) := by
  refine F.ok scLaw (fun vs H Q E h => ?_) (fun cdv A outer s H vs Q E hr h => ?_)
  · obtain ⟨a, ns, rfl, _⟩ := h
    rfl
  · obtain ⟨a, ns, rfl, ha, hlen, q⟩ := h
    have hr1 : Room 1 _ := hr.mono (by decide)
    have hr2 : Room 2 _ := hr.mono (by decide)
    have hr3 : Room 3 _ := hr.mono (by decide)
    refine ⟨_, pss_cons (ps_setLc (i := 2) (own := [("_law_k", 1)]) (g := gName 1) (tt := tYes) rfl scLaw.nd rfl rfl (sw_true rfl rfl rfl (by decide +kernel))
        (pi_range1 rfl mr (pa_cons (pe_callB (call_min2 rfl) (by rfl) mm (by decide +kernel) (pa_cons pe_int (pa_cons (pe_op op_fdiv (pe_callB call_len_seq (by rfl) ml PySem.boot_len (pa_cons (pv 0) pa_nil)) pe_int) pa_nil))) pa_nil))
        (blkOk_by (own := [("_law_k", 1)]) (N := ["_law_script", "_law_k", "_law_parts_here", "_law_records", "_law_text", "_law_back", "_law_between", "_law_more", "_law_part"]) (sc := defScope sLaw) (by decide +kernel))
        (fun _ _ _ _ _ => pg_name (i := 1) scLaw.nd rfl (Or.inl rfl)) (fun _ _ _ _ _ => pts_nil)
        (fun _ _ _ _ _ => pe_call GPt hr2 rfl gPt kPt bPt .nil pass0 (pa_cons (pe_ix (show IxR _ (rIxL K) from ix_list) (pv 0) (pe_op op_mul pe_int (pv 1)) (fun _ _ => rfl)) (pa_cons (pe_ix (show IxR _ (rIxL K) from ix_list) (pv 0) (pe_op op_add (pe_op op_mul pe_int (pv 1)) pe_int) (fun _ _ => rfl)) pa_nil))))
      (pss_cons (ps_setLc (i := 3) (own := [("_law_part", 8)]) (g := gName 8) (tt := tYes) rfl scLaw.nd rfl rfl (sw_true rfl rfl rfl (by decide +kernel)) (pi_list (pv 2))
        (blkOk_by (own := [("_law_part", 8)]) (N := ["_law_script", "_law_k", "_law_parts_here", "_law_records", "_law_text", "_law_back", "_law_between", "_law_more", "_law_part"]) (sc := defScope sLaw) (by decide +kernel))
        (fun _ _ _ _ _ => pg_name (i := 8) scLaw.nd rfl (Or.inl rfl)) (fun _ _ _ _ _ => pts_nil)
        (fun _ _ _ _ _ => pe_call GM hr3 rfl gM kM bM .nil pass0 (pa_cons (pv 8) pa_nil)))
      (pss_cons (ps_set (i := 4) scLaw.nd rfl (.inl rfl) (pe_call GWR hr3 rfl gWR kWR bWR .nil pass0 (pa_cons (pv 3) pa_nil)))
      (pss_cons (ps_if (pt_not (pt_val (pe_callB call_isi (by rfl) mi (by decide +kernel) (pa_cons (pv 4) (pa_cons (pe_bltn (v := V.ty "str") (u := .type "str") (by rfl) mS (by decide +kernel) rfl) pa_nil))))) (pss_one (ps_ret pe_bl)) pss_nil)
      (pss_cons (ps_set (i := 5) scLaw.nd rfl (.inl rfl) (pe_call GRR hr rfl gRR kRR bRR .nil pass0 (pa_cons (pv 4) pa_nil)))
      (pss_cons (ps_if (PW.pt (pw_or (pt_not (pt_val (pe_callB call_isi (by rfl) mi (by decide +kernel) (pa_cons (pv 5) (pa_cons (pe_bltn (v := V.ty "list") (u := .type "list") (by rfl) mL (by decide +kernel) rfl) pa_nil)))))
        (pw_or1 (pt_cmpR op_ne (pe_callB call_len_seq (by rfl) ml PySem.boot_len (pa_cons (pv 5) pa_nil)) (pe_callB call_len_seq (by rfl) ml PySem.boot_len (pa_cons (pv 2) pa_nil)) (nomark _))))) (pss_one (ps_ret pe_bl)) pss_nil)
      (pss_cons (ps_for PassesOwn.never rfl (pi_range1 rfl mr (pa_cons (pe_callB call_len_seq (by rfl) ml PySem.boot_len (pa_cons (pv 2) pa_nil)) pa_nil)) (pg_name (i := 1) scLaw.nd rfl (.inl rfl))
        (pss_one (ps_if (PW.pt (pw_or (pt_not (pt_val (pe_call GS hr3 rfl gS kS bS .nil pass0 (pa_cons (pe_ix ix_list (pv 5) (pv 1) (fun _ _ => rfl)) (pa_cons (pe_ix ix_list (pv 2) (pv 1) (fun _ _ => rfl)) pa_nil)))))
          (pw_or1 (pt_cmpR op_notBl (pe_cmpR (op_eqG (rcG_ins GE hs hf hb pass0) hr3) (pe_ix ix_list (pv 5) (pv 1) (fun _ _ => rfl)) (pe_ix ix_list (pv 3) (pv 1) (fun _ _ => rfl)) (nomark _)) pe_bl (nomark _))))) (pss_one (ps_ret pe_bl)) pss_nil)))
      (pss_cons (ps_if (pt_cmpR op_ne (pe_call GWR hr3 rfl gWR kWR bWR .nil pass0 (pa_cons (pv 5) pa_nil)) (pv 4) (nomark _)) (pss_one (ps_ret pe_bl)) pss_nil)
      (pss_cons (ps_set (i := 6) scLaw.nd rfl (.inl rfl) pe_str)
      (pss_cons (ps_for PassesOwn.never rfl (pi_range1 rfl mr (pa_cons (pe_callB call_len_seq (by rfl) ml PySem.boot_len (pa_cons (pv 2) pa_nil)) pa_nil)) (pg_name (i := 1) scLaw.nd rfl (.inl rfl))
        (pss_cons (ps_set (i := 6) scLaw.nd rfl (.inl rfl) (pe_op op_add_str (pv 6) (pe_ix ix_list (pe_lst (pa_cons pe_str (pa_cons pe_str (pa_cons pe_str (pa_cons pe_str pa_nil))))) (pe_op op_mod (pe_op op_fdiv (pe_callTy call_int1 (by rfl) mI (by decide +kernel) (pa_cons (pe_ix ix_list (pv 0) (pe_op op_mul pe_int (pv 1)) (fun _ _ => rfl)) pa_nil)) pe_int) pe_int) (fun _ _ => rfl))))
        (pss_one (ps_set (i := 6) scLaw.nd rfl (.inl rfl) (pe_op op_add_str (pe_op op_add_str (pv 6) (pe_call GL hr1 rfl gL kL bL .nil pass0 (pa_cons (pe_ix ix_list (pv 2) (pv 1) (fun _ _ => rfl)) pa_nil))) pe_str)))))
      (pss_cons (ps_set (i := 7) scLaw.nd rfl (.inl rfl) (pe_call GRR hr rfl gRR kRR bRR .nil pass0 (pa_cons (pv 6) pa_nil)))
      (pss_cons (ps_if (PW.pt (pw_or (pt_not (pt_val (pe_callB call_isi (by rfl) mi (by decide +kernel) (pa_cons (pv 7) (pa_cons (pe_bltn (v := V.ty "list") (u := .type "list") (by rfl) mL (by decide +kernel) rfl) pa_nil)))))
        (pw_or1 (pt_cmpR op_ne (pe_callB call_len_seq (by rfl) ml PySem.boot_len (pa_cons (pv 7) pa_nil)) (pe_callB call_len_seq (by rfl) ml PySem.boot_len (pa_cons (pv 2) pa_nil)) (nomark _))))) (pss_one (ps_ret pe_bl)) pss_nil)
      (pss_cons (ps_for PassesOwn.never rfl (pi_range1 rfl mr (pa_cons (pe_callB call_len_seq (by rfl) ml PySem.boot_len (pa_cons (pv 2) pa_nil)) pa_nil)) (pg_name (i := 1) scLaw.nd rfl (.inl rfl))
        (pss_one (ps_if (pt_not (pt_val (pe_call GS hr3 rfl gS kS bS .nil pass0 (pa_cons (pe_ix ix_list (pv 7) (pv 1) (fun _ _ => rfl)) (pa_cons (pe_ix ix_list (pv 2) (pv 1) (fun _ _ => rfl)) pa_nil))))) (pss_one (ps_ret pe_bl)) pss_nil)))
      (pss_one (ps_ret pe_bl)))))))))))))), ?_⟩
    -- the parts
    obtain ⟨n, hn, hn20, hn2⟩ : ∃ n : Nat, (if (((ns.map V.int).length : Nat) : Int) / 2 < 20 then (((ns.map V.int).length : Nat) : Int) / 2 else 20) = (n : Int) ∧ n ≤ 20 ∧ 2 * n ≤ ns.length := by
      rw [List.length_map]
      by_cases z : ((ns.length : Nat) : Int) / 2 < 20
      · exact ⟨ns.length / 2, by rw [if_pos z]; omega, by omega, by omega⟩
      · exact ⟨20, by rw [if_neg z]; rfl, Nat.le_refl _, by omega⟩
    refine ⟨_, rfl, a, _, rfl, .inl ha, _, _, rfl, rfl, ⟨by decide, by decide⟩, _, _, rfl, (n : Int), congrArg (fun z => [V.int z]) hn, by omega, by omega, fun D hD => ?_⟩
    refine lc_range (lo := 0) (n := n) (fun i H' => ∃ ps rs, Same H H' ∧ H' D = some (.lst (ps.map V.ref)) ∧ PtsOn (fun b => H b = none ∧ b ≠ D) H' ps rs ∧ (∀ r ∈ rs, OkRc r) ∧ rs.length = i) ⟨[], [], same_upd hD, upd_same, .nil, (fun r hr => by cases hr), rfl⟩ (fun i H' hi hP => ?_) (fun H' hP => ?_)
    · obtain ⟨ps, rs, sm, eD, hps, ok, hl⟩ := hP
      refine ⟨rfl, ?_⟩
      rw [tYes, if_pos rfl]
      obtain ⟨z0, hz0⟩ : ∃ z, ns[2 * i]? = some z := ⟨ns[2 * i], List.getElem?_eq_getElem (by omega)⟩
      obtain ⟨z1, hz1⟩ : ∃ z, ns[2 * i + 1]? = some z := ⟨ns[2 * i + 1], List.getElem?_eq_getElem (by omega)⟩
      refine ⟨_, rfl, _, rfl, _, _, rfl, rfl, .inl ⟨by omega, by omega⟩, a, _, _, .int z0, rfl, rfl, sm.seq ha, two_at hz0 (by omega), ?_⟩
      refine ⟨_, rfl, _, rfl, _, _, rfl, rfl, .inl ⟨by omega, by omega⟩, _, _, rfl, rfl, a, _, _, .int z1, rfl, rfl, sm.seq ha, two_at hz1 (by omega), ?_⟩
      refine ⟨z0, z1, rfl, fun H2 p r s2 okr hp => ?_⟩
      refine ⟨_, s2 _ _ eD, ?_, ps ++ [p], rs ++ [r], fun b u e => ?_, ?_, ?_, ?_, ?_⟩
      · rw [List.length_map, hps.1, hl]
        exact lt_line (by omega)
      · rw [upd_ne (ne_of_none e hD)]
        exact s2 _ _ (sm _ _ e)
      · rw [upd_same, List.map_append]
        rfl
      · have hp2 : PtOn (fun b => H b = none ∧ b ≠ D) H2 p r := hp.imp fun b hb => ⟨sm.free hb, fun e => by
          rw [e, eD] at hb
          cases hb⟩
        exact ((hps.same s2).snoc hp2).upd fun b hb => hb.2
      · intro x hx
        rcases List.mem_append.mp hx with hx | hx
        · exact ok x hx
        · rw [List.mem_singleton.mp hx]
          exact okr
      · rw [List.length_append, hl]
        rfl
    obtain ⟨ps, rs, s1, e1, hps, ok, hl⟩ := hP
    -- the records
    refine ⟨_, rfl, D, rfl, ⟨_, SqL.of e1⟩, fun D2 hD2 => ?_⟩
    have ne2 : ∀ {H2 : Hp} {qs : List V} {b : Addr}, H2 D2 = some (.lst qs) → H2 b = none → b ≠ D2 := fun e h1 h2 => by
      rw [h2, e] at h1
      cases h1
    refine lc_list (K := K) (a := D) (xs := ps.map V.ref) (fun i H2 => ∃ qs, Same H' H2 ∧ H2 D2 = some (.lst (qs.map V.ref)) ∧ RcsOn (fun b => H' b = none ∧ b ≠ D2) CR CP H2 qs (rs.take i)) ⟨[], same_upd hD2, upd_same, .nil⟩ (fun i H2 _ h => SqL.of (h.choose_spec.1 _ _ e1)) (fun i x H2 hx hP => ?_) (fun H2 hP => ?_)
    · obtain ⟨qs, sm, eD, hqs⟩ := hP
      have hi : i < rs.length := by
        have := (List.getElem?_eq_some_iff.mp hx).1
        rw [List.length_map, hps.1] at this
        exact this
      obtain ⟨p, r, hr2, hp2, hpt⟩ := hps.turn hi
      rw [hp2] at hx
      cases hx
      refine ⟨rfl, ?_⟩
      rw [tYes, if_pos rfl]
      refine ⟨_, rfl, p, r, rfl, (hpt.same sm).imp fun _ _ => trivial, fun H3 x s3 hx => ?_⟩
      refine ⟨_, s3 _ _ eD, ?_, qs ++ [x], fun b u e => ?_, ?_, ?_⟩
      · rw [List.length_map, hqs.1, List.length_take]
        exact lt_line (by omega)
      · rw [upd_ne (ne_of_none e hD2)]
        exact s3 _ _ (sm _ _ e)
      · rw [upd_same, List.map_append]
        rfl
      · rw [List.take_add_one, hr2]
        exact ((hqs.same s3).snoc (hx.imp fun b h1 => ⟨sm.free h1, ne2 eD h1⟩)).upd fun b h1 => h1.2
    obtain ⟨qs, s2, e2, hqs⟩ := hP
    have el : (ps.map V.ref).length = rs.length := by rw [List.length_map, hps.1]
    rw [el, List.take_length] at hqs
    have hR2 := hqs.imp (G := fun _ => True) fun _ _ => trivial
    have hrs : rs.length ≤ 20 := by omega
    -- the text
    refine ⟨_, rfl, D2, qs, rs, rfl, SqL.of e2, hR2, ok, by omega, fun H3 s3 => ?_⟩
    refine ⟨_, rfl, _, _, _, _, true, rfl, ClsV.ty "str", TyX.base (TyOf.str _), kit_ty (by decide +kernel), true, rfl, iteF ?_⟩
    -- read back
    have blen : ∀ (x : Str) (js : List Nat), tl x = btL js rs → (∀ j ∈ js, j < 4) → x.length ≤ 2240 := fun x js e hj => by
      rw [len_tl, e]
      have := btL_len js rs hj ok
      omega
    have ez : ∀ j ∈ rs.map fun _ => 0, j < 4 := fun j hj => by
      obtain ⟨_, _, rfl⟩ := List.mem_map.mp hj
      decide
    have hx1 := blen _ _ (text_codes rs) ez
    refine ⟨_, rfl, textS rs, rs, rfl, le_line (by omega), ok, by omega, kept_text (text_codes rs) (List.length_map _) ok, fun H4 B bs s4 nB eB hB => ?_⟩
    have s14 := s2.trans (s3.trans s4)
    have g1 := s14 _ _ e1
    have g2 := s4 _ _ (s3 _ _ e2)
    have hps4 := (hps.same s14).imp (G := fun _ => True) fun _ _ => trivial
    have hqs4 := (hR2.same s3).same s4
    have hbs4 := hB.imp (G := fun _ => True) fun _ _ => trivial
    have lps : (ps.map V.ref).length = rs.length := by rw [List.length_map, hps.1]
    have lbs : (bs.map V.ref).length = rs.length := by rw [List.length_map, hB.1]
    have same_len : ∀ {l : List Addr}, l.length = rs.length → ((l.map V.ref).length : Int) = ((ps.map V.ref).length : Int) := fun h => by rw [List.length_map, lps, h]
    refine ⟨_, rfl, _, _, _, _, true, rfl, ClsV.ty "list", TyX.base (TyOf.lst eB), kit_ty (by decide +kernel), true, rfl, iteF ?_⟩
    refine ⟨_, rfl, B, _, rfl, .inl (SqL.of eB), _, rfl, D, _, rfl, .inl (SqL.of g1), ?_⟩
    rw [lbs, lps]
    refine ⟨rfl, _, rfl, iteNS rfl ?_⟩
    -- the records read are those written
    refine ⟨_, rfl, D, _, rfl, .inl (SqL.of g1), ?_⟩
    rw [lps]
    refine ⟨_, rfl, by omega, by omega, for_range (lo := 0) (n := rs.length) (fun i σ H' => ∃ v, σ = [some (.ref a), v, some (.ref D), some (.ref D2), some (.str (textS rs)), some (.ref B), none, none, none] ∧ Same H4 H') ⟨none, rfl, Same.refl _⟩ ?_ ?_⟩
    · rintro i σ H5 hi ⟨v, rfl, sm⟩
      obtain ⟨p1, r, hr1', hp1, hpt⟩ := hps4.turn hi
      obtain ⟨p2, r2, hr2', hp2, hq2⟩ := hqs4.turn hi
      obtain ⟨p3, r3, hr3', hp3, hb3⟩ := hbs4.turn hi
      rw [hr1'] at hr2' hr3'
      cases hr2'
      cases hr3'
      have okr := ok r (List.mem_of_getElem? hr1')
      refine ⟨_, rfl, _, rfl, B, _, _, _, rfl, rfl, SqL.of (sm _ _ eB), at0 hp3, _, rfl, _, rfl, D, _, _, _, rfl, rfl, SqL.of (sm _ _ g1), at0 hp1, ?_⟩
      refine ⟨p3, p1, r, rfl, (hb3.same sm).at, hpt.same sm, okr, fun H6 s6 => ⟨true, rfl, iteF ?_⟩⟩
      have sm6 := sm.trans s6
      refine ⟨_, rfl, _, rfl, B, _, _, _, rfl, rfl, SqL.of (sm6 _ _ eB), at0 hp3, _, rfl, _, rfl, D2, _, _, _, rfl, rfl, SqL.of (sm6 _ _ g2), at0 hp2, ?_⟩
      obtain ⟨d3, q3, k3, _⟩ := id (hb3.same sm6).at
      obtain ⟨d2, q2, k2, _⟩ := id (hq2.same sm6).at
      refine ⟨⟨p3, p2, d3, d2, _, _, rfl, rfl, k3, k2, r, (hb3.same sm6).at, (hq2.same sm6).at⟩, fun H7 s7 => ?_⟩
      exact ⟨true, true, rfl, rfl, _, rfl, iteNS rfl ⟨_, rfl, sm6.trans s7⟩⟩
    · rintro σ H5 ⟨v, rfl, sm⟩
      -- written anew
      refine ⟨_, rfl, B, bs, rs, rfl, SqL.of (sm _ _ eB), hbs4.same sm, ok, by omega, fun H6 s6 => ?_⟩
      refine ⟨_, rfl, rfl, _, rfl, iteNS rfl ?_⟩
      have sm6 := sm.trans s6
      -- with lines between
      refine ⟨_, rfl, D, _, rfl, .inl (SqL.of (sm6 _ _ g1)), ?_⟩
      rw [lps]
      refine ⟨_, rfl, by omega, by omega, for_range (lo := 0) (n := rs.length) (fun i σ H' => ∃ (v : Option V) (x : Str) (js : List Nat), σ = [some (.ref a), v, some (.ref D), some (.ref D2), some (.str (textS rs)), some (.ref B), some (.str x), none, none] ∧ Same H6 H' ∧ tl x = btL js (rs.take i) ∧ js.length = i ∧ ∀ j ∈ js, j < 4)
        ⟨_, _, [], rfl, Same.refl _, (by rw [tl_empty]; rfl), rfl, (fun j hj => by cases hj)⟩ ?_ ?_⟩
      · rintro i σ H7 hi ⟨v, x, js, rfl, sm7, ex, hjl, hj4⟩
        obtain ⟨p1, r, hr1', hp1, hpt⟩ := hps4.turn hi
        have okr := ok r (List.mem_of_getElem? hr1')
        obtain ⟨z0, hz0⟩ : ∃ z, ns[2 * i]? = some z := ⟨ns[2 * i], List.getElem?_eq_getElem (by omega)⟩
        obtain ⟨j, hj, ej⟩ : ∃ j : Nat, j < 4 ∧ z0 / 3 % 4 = (j : Int) := ⟨(z0 / 3 % 4).toNat, by omega, by omega⟩
        obtain ⟨sp, hsp, esp, lsp⟩ := sep_at j hj
        have s07 := s1.trans (s14.trans (sm6.trans sm7))
        have s47 := sm6.trans sm7
        have lx : x.length ≤ 2240 := by
          rw [len_tl, ex]
          have := btL_len js (rs.take i) hj4 fun z hz => ok z (List.mem_of_mem_take hz)
          rw [List.length_take] at this
          omega
        have lapp : ∀ y z : Str, (y ++ z).length = y.length + z.length := fun y z => by rw [len_tl, tl_append, List.length_append, ← len_tl, ← len_tl]
        have lln := line_len okr
        have lnl : nlS.length = 1 := by decide +kernel
        refine ⟨_, rfl, (by show 4 ≤ sizeLine; decide), fun l nl => ?_⟩
        have s8 : Same H7 (upd H7 l (.lst (sep4.map V.str))) := same_upd nl
        refine ⟨_, rfl, _, rfl, _, _, rfl, rfl, .inl ⟨by omega, by omega⟩, a, _, _, .int z0, rfl, rfl, (s07.trans s8).seq ha, two_at hz0 (by omega), ?_⟩
        refine .inl ⟨z0, rfl, _, _, rfl, rfl, ⟨by decide, by decide⟩, _, _, rfl, rfl, (by show (0 : Int) < 4; decide), l, sep4.map V.str, _, .str sp, rfl, rfl, SqL.of upd_same, ?_, ?_⟩
        · rw [ej]
          refine atI_nat ?_
          rw [List.getElem?_map, hsp]
          rfl
        refine ⟨_, _, rfl, rfl, le_line (by omega), ?_⟩
        refine ⟨_, rfl, _, rfl, _, rfl, D, _, _, _, rfl, rfl, SqL.of (s8 _ _ (s47 _ _ g1)), at0 hp1, ?_⟩
        refine ⟨p1, r, rfl, (hpt.same s47).same s8, okr, fun H9 s9 => ?_⟩
        refine ⟨_, _, rfl, rfl, le_line (by rw [lapp]; omega), _, _, rfl, rfl, le_line (by show (x ++ sp ++ lineS r).length + nlS.length ≤ _; rw [lapp, lapp]; omega), ?_⟩
        refine ⟨_, _, js ++ [j], rfl, sm7.trans (s8.trans s9), ?_, ?_, fun k hk => ?_⟩
        · rw [List.take_add_one, hr1']
          show tl (x ++ sp ++ lineS r ++ nlS) = btL (js ++ [j]) (rs.take i ++ [r])
          rw [btL_app js (rs.take i) j r (by rw [List.length_take]; omega), tl_append, tl_append, tl_append, tl_nl, ex, esp]
          simp only [List.append_assoc]
        · rw [List.length_append, hjl]
          rfl
        · rcases List.mem_append.mp hk with hk | hk
          · exact hj4 k hk
          · rw [List.mem_singleton.mp hk]
            exact hj
      · rintro σ H7 ⟨v, x, js, rfl, sm7, ex, hjl, hj4⟩
        rw [List.take_length] at ex
        have sm47 := sm6.trans sm7
        have hx2 := blen x js ex hj4
        refine ⟨_, rfl, x, rs, rfl, le_line (by omega), ok, by omega, kept_text ex hjl ok, fun H8 M ms s8 nM eM hM => ?_⟩
        have hms8 := hM.imp (G := fun _ => True) fun _ _ => trivial
        have sm48 := sm47.trans s8
        have lms : (ms.map V.ref).length = rs.length := by rw [List.length_map, hM.1]
        refine ⟨_, rfl, _, _, _, _, true, rfl, ClsV.ty "list", TyX.base (TyOf.lst eM), kit_ty (by decide +kernel), true, rfl, iteF ?_⟩
        refine ⟨_, rfl, M, _, rfl, .inl (SqL.of eM), _, rfl, D, _, rfl, .inl (SqL.of (sm48 _ _ g1)), ?_⟩
        rw [lms, lps]
        refine ⟨rfl, _, rfl, iteNS rfl ?_⟩
        refine ⟨_, rfl, D, _, rfl, .inl (SqL.of (sm48 _ _ g1)), ?_⟩
        rw [lps]
        refine ⟨_, rfl, by omega, by omega, for_range (lo := 0) (n := rs.length) (fun i σ H' => ∃ v, σ = [some (.ref a), v, some (.ref D), some (.ref D2), some (.str (textS rs)), some (.ref B), some (.str x), some (.ref M), none] ∧ Same H8 H') ⟨_, rfl, Same.refl _⟩ ?_ ?_⟩
        · rintro i σ H9 hi ⟨v, rfl, sm9⟩
          obtain ⟨p1, r, hr1', hp1, hpt⟩ := hps4.turn hi
          obtain ⟨p3, r3, hr3', hp3, hb3⟩ := hms8.turn hi
          rw [hr1'] at hr3'
          cases hr3'
          have okr := ok r (List.mem_of_getElem? hr1')
          refine ⟨_, rfl, _, rfl, M, _, _, _, rfl, rfl, SqL.of (sm9 _ _ eM), at0 hp3, _, rfl, _, rfl, D, _, _, _, rfl, rfl, SqL.of (sm9 _ _ (sm48 _ _ g1)), at0 hp1, ?_⟩
          exact ⟨p3, p1, r, rfl, (hb3.same sm9).at, (hpt.same sm48).same sm9, okr, fun H6 s6 => ⟨true, rfl, iteF ⟨_, rfl, sm9.trans s6⟩⟩⟩
        · rintro σ H9 ⟨v, rfl, sm9⟩
          exact q _
end
end K76
/-! What the top has written; all promises together (own). Printed by gen_end.py. -/
namespace K76
open PySem PyProof.Rows L2 TL
theorem kbn_pin {K : PySem.W.Frag} {f : Addr} {fd : FuncData} (F : FunD K "__init__" "Packet.__init__" (defArgs sPInit) (defBody sPInit) (defScope sPInit) [] kwP f fd) : KBn K fd ["self", "sender", "target", "octets", "marked"] 4 ["marked"] (fun us ws => us ++ ws) (fun vs zs => vs ++ zs) := by
  obtain ⟨mv, h⟩ := F.kbinds0 (ps := ["self", "sender", "target", "octets", "marked"]) 4 ["marked"] [] (fun us _ ws => us ++ ws) (by simp) (fun q hq => by cases hq) (fun r1 _ r3 => r1.append r3)
    (fun D doc pm an cdv ct us mv ws l1 l2 l3 => match us, l1, mv, l2, ws, l3 with | [_, _, _, _], _, [], _, [_], _ => rfl)
  exact h
theorem kbn_rre {K : PySem.W.Frag} {f : Addr} {fd : FuncData} (F : FunD K "read_record" "read_record" (defArgs sRRec) (defBody sRRec) (defScope sRRec) [] kwR f fd) : KBn K fd ["line", "number"] 1 ["number"] (fun us ws => us ++ ws) (fun vs zs => vs ++ zs) := by
  obtain ⟨mv, h⟩ := F.kbinds0 (ps := ["line", "number"]) 1 ["number"] [] (fun us _ ws => us ++ ws) (by simp) (fun q hq => by cases hq) (fun r1 _ r3 => r1.append r3)
    (fun D doc pm an cdv ct us mv ws l1 l2 l3 => match us, l1, mv, l2, ws, l3 with | [_], _, [], _, [_], _ => rfl)
  exact h
set_option maxHeartbeats 0 in
theorem all_mk {l : PySem.W.OpenLaw} {w : World} {K : PySem.W.Frag} {h : Heap} {mg : Str → Option Value} {fa CP CR : Addr} (X : K.In h) (G : h.Ns mainGlobals mg) (hfa : mg "law" = some (.ref fa))
    {f_hex : Addr} {od_hex an_hex : Option Addr} {sl_hex : Array (Option Value)} {oc_hex kV_hex dc_hex pm_hex cd_hex ct_hex : Value}
    {f_dig : Addr} {od_dig an_dig : Option Addr} {sl_dig : Array (Option Value)} {oc_dig kV_dig dc_dig pm_dig cd_dig ct_dig : Value}
    {f_fhx : Addr} {od_fhx an_fhx : Option Addr} {sl_fhx : Array (Option Value)} {oc_fhx kV_fhx dc_fhx pm_fhx cd_fhx ct_fhx : Value}
    {f_lns : Addr} {od_lns an_lns : Option Addr} {sl_lns : Array (Option Value)} {oc_lns kV_lns dc_lns pm_lns cd_lns ct_lns : Value}
    {f_dec : Addr} {od_dec an_dec : Option Addr} {sl_dec : Array (Option Value)} {oc_dec kV_dec dc_dec pm_dec cd_dec ct_dec : Value}
    {f_roc : Addr} {od_roc an_roc : Option Addr} {sl_roc : Array (Option Value)} {oc_roc kV_roc dc_roc pm_roc cd_roc ct_roc : Value}
    {f_rrs : Addr} {od_rrs an_rrs : Option Addr} {sl_rrs : Array (Option Value)} {oc_rrs kV_rrs dc_rrs pm_rrs cd_rrs ct_rrs : Value}
    {f_wre : Addr} {od_wre an_wre : Option Addr} {sl_wre : Array (Option Value)} {oc_wre kV_wre dc_wre pm_wre cd_wre ct_wre : Value}
    {f_wrs : Addr} {od_wrs an_wrs : Option Addr} {sl_wrs : Array (Option Value)} {oc_wrs kV_wrs dc_wrs pm_wrs cd_wrs ct_wrs : Value}
    {f_isi : Addr} {od_isi an_isi : Option Addr} {sl_isi : Array (Option Value)} {oc_isi kV_isi dc_isi pm_isi cd_isi ct_isi : Value}
    {f_row : Addr} {od_row an_row : Option Addr} {sl_row : Array (Option Value)} {oc_row kV_row dc_row pm_row cd_row ct_row : Value}
    {f_oct : Addr} {od_oct an_oct : Option Addr} {sl_oct : Array (Option Value)} {oc_oct kV_oct dc_oct pm_oct cd_oct ct_oct : Value}
    {f_num : Addr} {od_num an_num : Option Addr} {sl_num : Array (Option Value)} {oc_num kV_num dc_num pm_num cd_num ct_num : Value}
    {f_par : Addr} {od_par an_par : Option Addr} {sl_par : Array (Option Value)} {oc_par kV_par dc_par pm_par cd_par ct_par : Value}
    {f_mad : Addr} {od_mad an_mad : Option Addr} {sl_mad : Array (Option Value)} {oc_mad kV_mad dc_mad pm_mad cd_mad ct_mad : Value}
    {f_lin : Addr} {od_lin an_lin : Option Addr} {sl_lin : Array (Option Value)} {oc_lin kV_lin dc_lin pm_lin cd_lin ct_lin : Value}
    {f_sam : Addr} {od_sam an_sam : Option Addr} {sl_sam : Array (Option Value)} {oc_sam kV_sam dc_sam pm_sam cd_sam ct_sam : Value}
    {f_law : Addr} {od_law an_law : Option Addr} {sl_law : Array (Option Value)} {oc_law kV_law dc_law pm_law cd_law ct_law : Value}
    {f_peq : Addr} {od_peq an_peq : Option Addr} {sl_peq : Array (Option Value)} {oc_peq kV_peq dc_peq pm_peq cd_peq ct_peq : Value}
    {f_req : Addr} {od_req an_req : Option Addr} {sl_req : Array (Option Value)} {oc_req kV_req dc_req pm_req cd_req ct_req : Value}
    {f_rin : Addr} {od_rin an_rin : Option Addr} {sl_rin : Array (Option Value)} {oc_rin kV_rin dc_rin pm_rin cd_rin ct_rin : Value}
    {f_pin : Addr} {od_pin an_pin : Option Addr} {sl_pin : Array (Option Value)} {oc_pin dc_pin pm_pin cd_pin ct_pin : Value}
    {f_rre : Addr} {od_rre an_rre : Option Addr} {sl_rre : Array (Option Value)} {oc_rre dc_rre pm_rre cd_rre ct_rre : Value}
    {D_pin D_rre : Addr} {t_rre : Tok}
    {t_do t_dr t_md t_w1 t_w2 t_w3 t_w4 t_w5 t_w6 : Tok} {W : Addr} {odW : Option Addr} {slW : Array (Option Value)} {nW : Nat}
    (aCP : PySem.W.nsIn K mainGlobals "Packet" = some (some (.ref CP)))
    (aCR : PySem.W.nsIn K mainGlobals "Record" = some (some (.ref CR)))
    (a_hex : PySem.W.nsIn K mainGlobals "to_hex" = some (some (.ref f_hex)))
    (l_hex : K.lookup f_hex = some ⟨oc_hex, od_hex, .func (PySem.W.fnOf "to_hex" "to_hex" (defArgs sHex) (defBody sHex) (defScope sHex) .none kV_hex dc_hex pm_hex an_hex cd_hex ct_hex), sl_hex⟩)
    (c_hex : PySem.W.codeIn K cd_hex "to_hex" = true)
    (k_hex : PySem.W.keepIn K (.ref f_hex) = true)
    (a_dig : PySem.W.nsIn K mainGlobals "digit_value" = some (some (.ref f_dig)))
    (l_dig : K.lookup f_dig = some ⟨oc_dig, od_dig, .func (PySem.W.fnOf "digit_value" "digit_value" (defArgs sDig) (defBody sDig) (defScope sDig) .none kV_dig dc_dig pm_dig an_dig cd_dig ct_dig), sl_dig⟩)
    (c_dig : PySem.W.codeIn K cd_dig "digit_value" = true)
    (k_dig : PySem.W.keepIn K (.ref f_dig) = true)
    (a_fhx : PySem.W.nsIn K mainGlobals "from_hex" = some (some (.ref f_fhx)))
    (l_fhx : K.lookup f_fhx = some ⟨oc_fhx, od_fhx, .func (PySem.W.fnOf "from_hex" "from_hex" (defArgs sFHex) (defBody sFHex) (defScope sFHex) .none kV_fhx dc_fhx pm_fhx an_fhx cd_fhx ct_fhx), sl_fhx⟩)
    (c_fhx : PySem.W.codeIn K cd_fhx "from_hex" = true)
    (k_fhx : PySem.W.keepIn K (.ref f_fhx) = true)
    (a_lns : PySem.W.nsIn K mainGlobals "record_lines" = some (some (.ref f_lns)))
    (l_lns : K.lookup f_lns = some ⟨oc_lns, od_lns, .func (PySem.W.fnOf "record_lines" "record_lines" (defArgs sLns) (defBody sLns) (defScope sLns) .none kV_lns dc_lns pm_lns an_lns cd_lns ct_lns), sl_lns⟩)
    (c_lns : PySem.W.codeIn K cd_lns "record_lines" = true)
    (k_lns : PySem.W.keepIn K (.ref f_lns) = true)
    (a_dec : PySem.W.nsIn K mainGlobals "is_decimal" = some (some (.ref f_dec)))
    (l_dec : K.lookup f_dec = some ⟨oc_dec, od_dec, .func (PySem.W.fnOf "is_decimal" "is_decimal" (defArgs sDec) (defBody sDec) (defScope sDec) .none kV_dec dc_dec pm_dec an_dec cd_dec ct_dec), sl_dec⟩)
    (c_dec : PySem.W.codeIn K cd_dec "is_decimal" = true)
    (k_dec : PySem.W.keepIn K (.ref f_dec) = true)
    (a_roc : PySem.W.nsIn K mainGlobals "read_octets" = some (some (.ref f_roc)))
    (l_roc : K.lookup f_roc = some ⟨oc_roc, od_roc, .func (PySem.W.fnOf "read_octets" "read_octets" (defArgs sROct) (defBody sROct) (defScope sROct) .none kV_roc dc_roc pm_roc an_roc cd_roc ct_roc), sl_roc⟩)
    (c_roc : PySem.W.codeIn K cd_roc "read_octets" = true)
    (k_roc : PySem.W.keepIn K (.ref f_roc) = true)
    (a_rrs : PySem.W.nsIn K mainGlobals "read_records" = some (some (.ref f_rrs)))
    (l_rrs : K.lookup f_rrs = some ⟨oc_rrs, od_rrs, .func (PySem.W.fnOf "read_records" "read_records" (defArgs sRRecs) (defBody sRRecs) (defScope sRRecs) .none kV_rrs dc_rrs pm_rrs an_rrs cd_rrs ct_rrs), sl_rrs⟩)
    (c_rrs : PySem.W.codeIn K cd_rrs "read_records" = true)
    (k_rrs : PySem.W.keepIn K (.ref f_rrs) = true)
    (a_wre : PySem.W.nsIn K mainGlobals "write_record" = some (some (.ref f_wre)))
    (l_wre : K.lookup f_wre = some ⟨oc_wre, od_wre, .func (PySem.W.fnOf "write_record" "write_record" (defArgs sWRec) (defBody sWRec) (defScope sWRec) .none kV_wre dc_wre pm_wre an_wre cd_wre ct_wre), sl_wre⟩)
    (c_wre : PySem.W.codeIn K cd_wre "write_record" = true)
    (k_wre : PySem.W.keepIn K (.ref f_wre) = true)
    (a_wrs : PySem.W.nsIn K mainGlobals "write_records" = some (some (.ref f_wrs)))
    (l_wrs : K.lookup f_wrs = some ⟨oc_wrs, od_wrs, .func (PySem.W.fnOf "write_records" "write_records" (defArgs sWRecs) (defBody sWRecs) (defScope sWRecs) .none kV_wrs dc_wrs pm_wrs an_wrs cd_wrs ct_wrs), sl_wrs⟩)
    (c_wrs : PySem.W.codeIn K cd_wrs "write_records" = true)
    (k_wrs : PySem.W.keepIn K (.ref f_wrs) = true)
    (a_isi : PySem.W.nsIn K mainGlobals "_law_is_integer" = some (some (.ref f_isi)))
    (l_isi : K.lookup f_isi = some ⟨oc_isi, od_isi, .func (PySem.W.fnOf "_law_is_integer" "_law_is_integer" (defArgs sIsInt) (defBody sIsInt) (defScope sIsInt) .none kV_isi dc_isi pm_isi an_isi cd_isi ct_isi), sl_isi⟩)
    (c_isi : PySem.W.codeIn K cd_isi "_law_is_integer" = true)
    (k_isi : PySem.W.keepIn K (.ref f_isi) = true)
    (a_row : PySem.W.nsIn K mainGlobals "_law_row" = some (some (.ref f_row)))
    (l_row : K.lookup f_row = some ⟨oc_row, od_row, .func (PySem.W.fnOf "_law_row" "_law_row" (defArgs sRow) (defBody sRow) (defScope sRow) .none kV_row dc_row pm_row an_row cd_row ct_row), sl_row⟩)
    (c_row : PySem.W.codeIn K cd_row "_law_row" = true)
    (k_row : PySem.W.keepIn K (.ref f_row) = true)
    (a_oct : PySem.W.nsIn K mainGlobals "_law_octets" = some (some (.ref f_oct)))
    (l_oct : K.lookup f_oct = some ⟨oc_oct, od_oct, .func (PySem.W.fnOf "_law_octets" "_law_octets" (defArgs sOcts) (defBody sOcts) (defScope sOcts) .none kV_oct dc_oct pm_oct an_oct cd_oct ct_oct), sl_oct⟩)
    (c_oct : PySem.W.codeIn K cd_oct "_law_octets" = true)
    (k_oct : PySem.W.keepIn K (.ref f_oct) = true)
    (a_num : PySem.W.nsIn K mainGlobals "_law_number" = some (some (.ref f_num)))
    (l_num : K.lookup f_num = some ⟨oc_num, od_num, .func (PySem.W.fnOf "_law_number" "_law_number" (defArgs sNum) (defBody sNum) (defScope sNum) .none kV_num dc_num pm_num an_num cd_num ct_num), sl_num⟩)
    (c_num : PySem.W.codeIn K cd_num "_law_number" = true)
    (k_num : PySem.W.keepIn K (.ref f_num) = true)
    (a_par : PySem.W.nsIn K mainGlobals "_law_parts" = some (some (.ref f_par)))
    (l_par : K.lookup f_par = some ⟨oc_par, od_par, .func (PySem.W.fnOf "_law_parts" "_law_parts" (defArgs sParts) (defBody sParts) (defScope sParts) .none kV_par dc_par pm_par an_par cd_par ct_par), sl_par⟩)
    (c_par : PySem.W.codeIn K cd_par "_law_parts" = true)
    (k_par : PySem.W.keepIn K (.ref f_par) = true)
    (a_mad : PySem.W.nsIn K mainGlobals "_law_made" = some (some (.ref f_mad)))
    (l_mad : K.lookup f_mad = some ⟨oc_mad, od_mad, .func (PySem.W.fnOf "_law_made" "_law_made" (defArgs sMade) (defBody sMade) (defScope sMade) .none kV_mad dc_mad pm_mad an_mad cd_mad ct_mad), sl_mad⟩)
    (c_mad : PySem.W.codeIn K cd_mad "_law_made" = true)
    (k_mad : PySem.W.keepIn K (.ref f_mad) = true)
    (a_lin : PySem.W.nsIn K mainGlobals "_law_line" = some (some (.ref f_lin)))
    (l_lin : K.lookup f_lin = some ⟨oc_lin, od_lin, .func (PySem.W.fnOf "_law_line" "_law_line" (defArgs sLine) (defBody sLine) (defScope sLine) .none kV_lin dc_lin pm_lin an_lin cd_lin ct_lin), sl_lin⟩)
    (c_lin : PySem.W.codeIn K cd_lin "_law_line" = true)
    (k_lin : PySem.W.keepIn K (.ref f_lin) = true)
    (a_sam : PySem.W.nsIn K mainGlobals "_law_same" = some (some (.ref f_sam)))
    (l_sam : K.lookup f_sam = some ⟨oc_sam, od_sam, .func (PySem.W.fnOf "_law_same" "_law_same" (defArgs sSame) (defBody sSame) (defScope sSame) .none kV_sam dc_sam pm_sam an_sam cd_sam ct_sam), sl_sam⟩)
    (c_sam : PySem.W.codeIn K cd_sam "_law_same" = true)
    (k_sam : PySem.W.keepIn K (.ref f_sam) = true)
    (a_law : PySem.W.nsIn K mainGlobals "law" = some (some (.ref f_law)))
    (l_law : K.lookup f_law = some ⟨oc_law, od_law, .func (PySem.W.fnOf "law" "law" (defArgs sLaw) (defBody sLaw) (defScope sLaw) .none kV_law dc_law pm_law an_law cd_law ct_law), sl_law⟩)
    (c_law : PySem.W.codeIn K cd_law "law" = true)
    (k_law : PySem.W.keepIn K (.ref f_law) = true)
    (a_peq : PySem.W.findIn K (.ref CP) "__eq__" = some (some (.ref f_peq)))
    (i_peq : PySem.W.isFn K (.ref f_peq) = true)
    (l_peq : K.lookup f_peq = some ⟨oc_peq, od_peq, .func (PySem.W.fnOf "__eq__" "Packet.__eq__" (defArgs sPEq) (defBody sPEq) (defScope sPEq) .none kV_peq dc_peq pm_peq an_peq cd_peq ct_peq), sl_peq⟩)
    (c_peq : PySem.W.codeIn K cd_peq "Packet.__eq__" = true)
    (k_peq : PySem.W.keepIn K (.ref f_peq) = true)
    (a_req : PySem.W.findIn K (.ref CR) "__eq__" = some (some (.ref f_req)))
    (i_req : PySem.W.isFn K (.ref f_req) = true)
    (l_req : K.lookup f_req = some ⟨oc_req, od_req, .func (PySem.W.fnOf "__eq__" "Record.__eq__" (defArgs sREq) (defBody sREq) (defScope sREq) .none kV_req dc_req pm_req an_req cd_req ct_req), sl_req⟩)
    (c_req : PySem.W.codeIn K cd_req "Record.__eq__" = true)
    (k_req : PySem.W.keepIn K (.ref f_req) = true)
    (a_rin : PySem.W.findIn K (.ref CR) "__init__" = some (some (.ref f_rin)))
    (i_rin : PySem.W.isFn K (.ref f_rin) = true)
    (l_rin : K.lookup f_rin = some ⟨oc_rin, od_rin, .func (PySem.W.fnOf "__init__" "Record.__init__" (defArgs sRInit) (defBody sRInit) (defScope sRInit) .none kV_rin dc_rin pm_rin an_rin cd_rin ct_rin), sl_rin⟩)
    (c_rin : PySem.W.codeIn K cd_rin "Record.__init__" = true)
    (k_rin : PySem.W.keepIn K (.ref f_rin) = true)
    (a_pin : PySem.W.findIn K (.ref CP) "__init__" = some (some (.ref f_pin)))
    (i_pin : PySem.W.isFn K (.ref f_pin) = true)
    (l_pin : K.lookup f_pin = some ⟨oc_pin, od_pin, .func (PySem.W.fnOf "__init__" "Packet.__init__" (defArgs sPInit) (defBody sPInit) (defScope sPInit) .none (.ref D_pin) dc_pin pm_pin an_pin cd_pin ct_pin), sl_pin⟩)
    (d_pin : PySem.W.nsIn K D_pin "marked" = some (some (.bool false)))
    (c_pin : PySem.W.codeIn K cd_pin "Packet.__init__" = true)
    (k_pin : PySem.W.keepIn K (.ref f_pin) = true)
    (a_rre : PySem.W.nsIn K mainGlobals "read_record" = some (some (.ref f_rre)))
    (l_rre : K.lookup f_rre = some ⟨oc_rre, od_rre, .func (PySem.W.fnOf "read_record" "read_record" (defArgs sRRec) (defBody sRRec) (defScope sRRec) .none (.ref D_rre) dc_rre pm_rre an_rre cd_rre ct_rre), sl_rre⟩)
    (d_rre : PySem.W.nsIn K D_rre "number" = some (some (.int 1 t_rre)))
    (c_rre : PySem.W.codeIn K cd_rre "read_record" = true)
    (k_rre : PySem.W.keepIn K (.ref f_rre) = true)
    (pgCP : PySem.W.plainGet K CP Str.empty = true)
    (hdCP : PySem.W.hasDictIn K CP = true)
    (poCP : PySem.W.plainOver K CP = true)
    (saCP : PySem.W.findIn K (.ref CP) "__setattr__" = some (some (.builtin "object.__setattr__")))
    (haCP : PySem.W.findIn K (.ref CP) "__class__" = some (some (.builtin "object.__class__")))
    (hmCP : PySem.W.mroIn K CP (.type "object") = some true)
    (mkCP : PySem.W.makesIn K CP = true)
    (kpCP : PySem.W.keepIn K (.ref CP) = true)
    (nCP_sender : PySem.W.findIn K (.ref CP) "sender" = some none)
    (nCP_target : PySem.W.findIn K (.ref CP) "target" = some none)
    (nCP_octets : PySem.W.findIn K (.ref CP) "octets" = some none)
    (nCP_marked : PySem.W.findIn K (.ref CP) "marked" = some none)
    (pgCR : PySem.W.plainGet K CR Str.empty = true)
    (hdCR : PySem.W.hasDictIn K CR = true)
    (poCR : PySem.W.plainOver K CR = true)
    (saCR : PySem.W.findIn K (.ref CR) "__setattr__" = some (some (.builtin "object.__setattr__")))
    (haCR : PySem.W.findIn K (.ref CR) "__class__" = some (some (.builtin "object.__class__")))
    (hmCR : PySem.W.mroIn K CR (.type "object") = some true)
    (mkCR : PySem.W.makesIn K CR = true)
    (kpCR : PySem.W.keepIn K (.ref CR) = true)
    (nCR_tick : PySem.W.findIn K (.ref CR) "tick" = some none)
    (nCR_number : PySem.W.findIn K (.ref CR) "number" = some none)
    (nCR_word : PySem.W.findIn K (.ref CR) "word" = some none)
    (nCR_packet : PySem.W.findIn K (.ref CR) "packet" = some none)
    (hn : PySem.W.specialIn K (.builtin "object.__class__") "__get__" = some (some (.builtin "getset_descriptor.__get__")))
    (ht : PySem.W.takesIn K (.builtin "object.__class__") = some true)
    (v_do : PySem.W.nsIn K mainGlobals "DIGITS_octets" = some (some (.str "0123456789abcdef" t_do)))
    (v_dr : PySem.W.nsIn K mainGlobals "DIGITS_reading" = some (some (.str "0123456789" t_dr)))
    (v_md : PySem.W.nsIn K mainGlobals "MOST_DIGITS" = some (some (.int 15 t_md)))
    (v_w : PySem.W.nsIn K mainGlobals "WORDS" = some (some (.ref W)))
    (l_w : K.lookup W = some ⟨.type "tuple", odW, .seq #[.str "sent" t_w1, .str "delivered" t_w2, .str "lost" t_w3, .str "copied" t_w4, .str "marked" t_w5, .str "expired" t_w6] nW, slW⟩)
    (z_len : PySem.W.nsIn K mainGlobals "len" = some none)
    (z_int : PySem.W.nsIn K mainGlobals "int" = some none)
    (z_str : PySem.W.nsIn K mainGlobals "str" = some none)
    (z_list : PySem.W.nsIn K mainGlobals "list" = some none)
    (z_range : PySem.W.nsIn K mainGlobals "range" = some none)
    (z_isinstance : PySem.W.nsIn K mainGlobals "isinstance" = some none)
    (z_bool : PySem.W.nsIn K mainGlobals "bool" = some none)
    (z_min : PySem.W.nsIn K mainGlobals "min" = some none) :
    ∃ fd : FuncData, (∀ (s : Shared) (v : Value), BindsTo s fd ⟨[v], []⟩ [("_law_script", v)]) ∧ ∀ base : Heap, K.In base → base.Ns mainGlobals mg → FnOk l.prog w K mg base CX0 6 fa fd ["_law_script"] (spLaw K) := by
  have e := hfa.symm.trans (PySem.W.mg_of X G a_law)
  cases e
  have m_len := PySem.W.mg_none_of X G z_len
  have m_int := PySem.W.mg_none_of X G z_int
  have m_str := PySem.W.mg_none_of X G z_str
  have m_list := PySem.W.mg_none_of X G z_list
  have m_range := PySem.W.mg_none_of X G z_range
  have m_isinstance := PySem.W.mg_none_of X G z_isinstance
  have m_bool := PySem.W.mg_none_of X G z_bool
  have m_min := PySem.W.mg_none_of X G z_min
  have F_hex := fun_mk (st := sHex) l_hex c_hex k_hex
  have g_hex := PySem.W.mg_of X G a_hex
  have b_hex := F_hex.binds (ps := ["octets"]) fun _ _ _ _ _ _ us hl => match us, hl with | [_], _ => rfl
  have F_dig := fun_mk (st := sDig) l_dig c_dig k_dig
  have g_dig := PySem.W.mg_of X G a_dig
  have b_dig := F_dig.binds (ps := ["char"]) fun _ _ _ _ _ _ us hl => match us, hl with | [_], _ => rfl
  have F_fhx := fun_mk (st := sFHex) l_fhx c_fhx k_fhx
  have g_fhx := PySem.W.mg_of X G a_fhx
  have b_fhx := F_fhx.binds (ps := ["text"]) fun _ _ _ _ _ _ us hl => match us, hl with | [_], _ => rfl
  have F_lns := fun_mk (st := sLns) l_lns c_lns k_lns
  have g_lns := PySem.W.mg_of X G a_lns
  have b_lns := F_lns.binds (ps := ["text"]) fun _ _ _ _ _ _ us hl => match us, hl with | [_], _ => rfl
  have F_dec := fun_mk (st := sDec) l_dec c_dec k_dec
  have g_dec := PySem.W.mg_of X G a_dec
  have b_dec := F_dec.binds (ps := ["word"]) fun _ _ _ _ _ _ us hl => match us, hl with | [_], _ => rfl
  have F_roc := fun_mk (st := sROct) l_roc c_roc k_roc
  have g_roc := PySem.W.mg_of X G a_roc
  have b_roc := F_roc.binds (ps := ["word", "number"]) fun _ _ _ _ _ _ us hl => match us, hl with | [_, _], _ => rfl
  have F_rrs := fun_mk (st := sRRecs) l_rrs c_rrs k_rrs
  have g_rrs := PySem.W.mg_of X G a_rrs
  have b_rrs := F_rrs.binds (ps := ["text"]) fun _ _ _ _ _ _ us hl => match us, hl with | [_], _ => rfl
  have F_wre := fun_mk (st := sWRec) l_wre c_wre k_wre
  have g_wre := PySem.W.mg_of X G a_wre
  have b_wre := F_wre.binds (ps := ["record"]) fun _ _ _ _ _ _ us hl => match us, hl with | [_], _ => rfl
  have F_wrs := fun_mk (st := sWRecs) l_wrs c_wrs k_wrs
  have g_wrs := PySem.W.mg_of X G a_wrs
  have b_wrs := F_wrs.binds (ps := ["records"]) fun _ _ _ _ _ _ us hl => match us, hl with | [_], _ => rfl
  have F_isi := fun_mk (st := sIsInt) l_isi c_isi k_isi
  have g_isi := PySem.W.mg_of X G a_isi
  have b_isi := F_isi.binds (ps := ["_law_actual"]) fun _ _ _ _ _ _ us hl => match us, hl with | [_], _ => rfl
  have F_row := fun_mk (st := sRow) l_row c_row k_row
  have g_row := PySem.W.mg_of X G a_row
  have b_row := F_row.binds (ps := ["_law_cell", "_law_size", "_law_base"]) fun _ _ _ _ _ _ us hl => match us, hl with | [_, _, _], _ => rfl
  have F_oct := fun_mk (st := sOcts) l_oct c_oct k_oct
  have g_oct := PySem.W.mg_of X G a_oct
  have b_oct := F_oct.binds (ps := ["_law_actual", "_law_expected"]) fun _ _ _ _ _ _ us hl => match us, hl with | [_, _], _ => rfl
  have F_num := fun_mk (st := sNum) l_num c_num k_num
  have g_num := PySem.W.mg_of X G a_num
  have b_num := F_num.binds (ps := ["_law_cell"]) fun _ _ _ _ _ _ us hl => match us, hl with | [_], _ => rfl
  have F_par := fun_mk (st := sParts) l_par c_par k_par
  have g_par := PySem.W.mg_of X G a_par
  have b_par := F_par.binds (ps := ["_law_cell", "_law_more"]) fun _ _ _ _ _ _ us hl => match us, hl with | [_, _], _ => rfl
  have F_mad := fun_mk (st := sMade) l_mad c_mad k_mad
  have g_mad := PySem.W.mg_of X G a_mad
  have b_mad := F_mad.binds (ps := ["_law_parts_here"]) fun _ _ _ _ _ _ us hl => match us, hl with | [_], _ => rfl
  have F_lin := fun_mk (st := sLine) l_lin c_lin k_lin
  have g_lin := PySem.W.mg_of X G a_lin
  have b_lin := F_lin.binds (ps := ["_law_parts_here"]) fun _ _ _ _ _ _ us hl => match us, hl with | [_], _ => rfl
  have F_sam := fun_mk (st := sSame) l_sam c_sam k_sam
  have g_sam := PySem.W.mg_of X G a_sam
  have b_sam := F_sam.binds (ps := ["_law_actual", "_law_parts_here"]) fun _ _ _ _ _ _ us hl => match us, hl with | [_, _], _ => rfl
  have F_law := fun_mk (st := sLaw) l_law c_law k_law
  have g_law := PySem.W.mg_of X G a_law
  have F_peq := fun_mk (st := sPEq) l_peq c_peq k_peq
  have b_peq := F_peq.binds (ps := ["self", "other"]) fun _ _ _ _ _ _ us hl => match us, hl with | [_, _], _ => rfl
  have F_req := fun_mk (st := sREq) l_req c_req k_req
  have b_req := F_req.binds (ps := ["self", "other"]) fun _ _ _ _ _ _ us hl => match us, hl with | [_, _], _ => rfl
  have F_rin := fun_mk (st := sRInit) l_rin c_rin k_rin
  have b_rin := F_rin.binds (ps := ["self", "tick", "number", "word", "packet"]) fun _ _ _ _ _ _ us hl => match us, hl with | [_, _, _, _, _], _ => rfl
  have F_pin : FunD K "__init__" "Packet.__init__" (defArgs sPInit) (defBody sPInit) (defScope sPInit) [] kwP f_pin _ := ⟨⟨oc_pin, od_pin, .none, .ref D_pin, dc_pin, pm_pin, an_pin, cd_pin, ct_pin, sl_pin, rfl, l_pin, c_pin, .inl ⟨rfl, rfl⟩, .inr ⟨D_pin, rfl, fun q hq => by
    rw [List.mem_singleton.mp hq]
    exact ⟨_, d_pin, rfl⟩⟩⟩, k_pin⟩
  have F_rre : FunD K "read_record" "read_record" (defArgs sRRec) (defBody sRRec) (defScope sRRec) [] kwR f_rre _ := ⟨⟨oc_rre, od_rre, .none, .ref D_rre, dc_rre, pm_rre, an_rre, cd_rre, ct_rre, sl_rre, rfl, l_rre, c_rre, .inl ⟨rfl, rfl⟩, .inr ⟨D_rre, rfl, fun q hq => by
    rw [List.mem_singleton.mp hq]
    exact ⟨_, d_rre, _, rfl⟩⟩⟩, k_rre⟩
  have g_rre := PySem.W.mg_of X G a_rre
  have B_pin := kbn_pin F_pin
  have B_rre := kbn_rre F_rre
  have mP := PySem.W.mg_of X G aCP
  have mR := PySem.W.mg_of X G aCR
  have TP : PT1 K CP := ⟨⟨⟨pgCP, hdCP, poCP, saCP⟩, haCP, hn, ht, hmCP, if_pos (beq_self_eq_true _)⟩, nCP_sender, nCP_target, nCP_octets, nCP_marked⟩
  have TR : RT1 K CR := ⟨⟨⟨pgCR, hdCR, poCR, saCR⟩, haCR, hn, ht, hmCR, if_pos (beq_self_eq_true _)⟩, nCR_tick, nCR_number, nCR_word, nCR_packet⟩
  have MP : Mk K CP f_pin := ⟨mkCP, a_pin, i_pin, kpCP⟩
  have MR : Mk K CR f_rin := ⟨mkCR, a_rin, i_rin, kpCR⟩
  have mdo := PySem.W.mg_of X G v_do
  have mdr := PySem.W.mg_of X G v_dr
  have mmd := PySem.W.mg_of X G v_md
  have mw := PySem.W.mg_of X G v_w
  have hW : ∀ H : Hp, SqT K H W (W6.map V.str) := fun H => .inr ⟨_, _, nW, l_w, rfl, rfl, (by show 6 ≤ sizeLine; decide), .cons ⟨_, rfl⟩ (.cons ⟨_, rfl⟩ (.cons ⟨_, rfl⟩ (.cons ⟨_, rfl⟩ (.cons ⟨_, rfl⟩ (.cons ⟨_, rfl⟩ .nil)))))⟩
  refine ⟨PySem.W.fnOf "law" "law" (defArgs sLaw) (defBody sLaw) (defScope sLaw) .none kV_law dc_law pm_law an_law cd_law ct_law, fun s v => .of_eq rfl, fun base _ _ => ?_⟩
  have G_hex := ok_hex (P := l.prog) (w := w) (base := base) F_hex mdo
  have G_dig := ok_dig (P := l.prog) (w := w) (base := base) F_dig mdo
  have G_fhx := ok_fhex F_fhx G_dig k_dig b_dig g_dig m_len m_range
  have G_dec := ok_dec (P := l.prog) (w := w) (base := base) F_dec m_len mmd mdr
  have G_pin := ok_pinit (P := l.prog) (w := w) (base := base) F_pin TP m_list
  have G_rin := ok_rinit (P := l.prog) (w := w) (base := base) (mg := mg) F_rin TR
  have G_peq := ok_peq (P := l.prog) (w := w) (base := base) F_peq TP mP m_isinstance
  have G_req := ok_req F_req TR mR m_isinstance G_peq a_peq i_peq b_peq
  have G_roc := ok_roct F_roc G_fhx k_fhx b_fhx g_fhx
  have Z : RCalls l.prog w K mg base CR CP := ⟨m_len, m_int, ⟨W, mw, hW⟩, mP, mR, TP, TR, ⟨_, _, G_dec, k_dec, b_dec, g_dec⟩, ⟨_, _, G_roc, k_roc, b_roc, g_roc⟩, ⟨_, _, G_pin, MP, B_pin⟩, ⟨_, _, G_rin, MR, b_rin⟩⟩
  have G_rre := ok_rrec F_rre Z
  have G_rrs := ok_rrecs F_rrs F_lns b_lns g_lns G_rre k_rre B_rre g_rre
  have G_wre := ok_wrec F_wre G_hex k_hex b_hex g_hex TR TP m_len m_str
  have G_wrs := ok_wrecs F_wrs G_wre k_wre b_wre g_wre
  have G_isi := ok_isint (P := l.prog) (w := w) (base := base) F_isi m_isinstance m_int m_bool
  have G_num := ok_num (P := l.prog) (w := w) (base := base) F_num m_int
  have G_row := ok_row (P := l.prog) (w := w) (base := base) F_row m_int m_range
  have G_oct := ok_octs F_oct G_isi k_isi b_isi g_isi m_isinstance m_list m_len m_range
  have G_par := ok_parts F_par G_row k_row b_row g_row G_num k_num b_num g_num m_int
  have G_mad := ok_made F_mad mR mP m_list G_pin MP B_pin G_rin MR b_rin
  have G_lin := ok_line (P := l.prog) (w := w) (base := base) F_lin m_int m_str
  have G_sam := ok_same F_sam G_isi k_isi b_isi g_isi G_oct k_oct b_oct g_oct TR TP mR mP m_isinstance m_str m_range
  exact ok_law F_law G_par k_par b_par g_par G_mad k_mad b_mad g_mad G_wrs k_wrs b_wrs g_wrs G_rrs k_rrs b_rrs g_rrs G_sam k_sam b_sam g_sam G_lin k_lin b_lin g_lin G_req a_req i_req b_req m_len m_min m_range m_isinstance m_str m_list m_int
end K76
open PySem PySem.W PyProof.Rows in
set_option maxRecDepth 100000 in
set_option maxHeartbeats 0 in
theorem PySem.Challenge.cw_throughline_k76_whole_record_texts_holds : PySem.Challenge.rw_throughline_k76_whole_record_texts.Holds := by
  w_on; o_law; k_head; (case hw => w_witness2)
  k_fill
  refine L2.walk_of (l := PySem.Challenge.rw_throughline_k76_whole_record_texts) (n := 63) (k := 6) (x := "_law_script") (CX := fun _ => L2.CX0) (sp := fun w => K76.spLaw _) rfl (by decide) rfl ⟨rfl, by decide, by decide⟩ (fun w h Y => PySem.W.kIn_of Y) ?F (fun _ _ a ns hl _ hS => ⟨a, ns, rfl, hS, hl, fun _ => rfl⟩) (fun _ _ _ _ _ h => h)
  case F =>
    intro w mg fa h KX G hmg
    refine' K76.all_mk KX G hmg ?aCP ?aCR ?a_hex ?l_hex ?c_hex ?k_hex ?a_dig ?l_dig ?c_dig ?k_dig ?a_fhx ?l_fhx ?c_fhx ?k_fhx ?a_lns ?l_lns ?c_lns ?k_lns ?a_dec ?l_dec ?c_dec ?k_dec ?a_roc ?l_roc ?c_roc ?k_roc ?a_rrs ?l_rrs ?c_rrs ?k_rrs ?a_wre ?l_wre ?c_wre ?k_wre ?a_wrs ?l_wrs ?c_wrs ?k_wrs ?a_isi ?l_isi ?c_isi ?k_isi ?a_row ?l_row ?c_row ?k_row ?a_oct ?l_oct ?c_oct ?k_oct ?a_num ?l_num ?c_num ?k_num ?a_par ?l_par ?c_par ?k_par ?a_mad ?l_mad ?c_mad ?k_mad ?a_lin ?l_lin ?c_lin ?k_lin ?a_sam ?l_sam ?c_sam ?k_sam ?a_law ?l_law ?c_law ?k_law ?a_peq ?i_peq ?l_peq ?c_peq ?k_peq ?a_req ?i_req ?l_req ?c_req ?k_req ?a_rin ?i_rin ?l_rin ?c_rin ?k_rin ?a_pin ?i_pin ?l_pin ?d_pin ?c_pin ?k_pin ?a_rre ?l_rre ?d_rre ?c_rre ?k_rre ?pgCP ?hdCP ?poCP ?saCP ?haCP ?hmCP ?mkCP ?kpCP ?nCP_sender ?nCP_target ?nCP_octets ?nCP_marked ?pgCR ?hdCR ?poCR ?saCR ?haCR ?hmCR ?mkCR ?kpCR ?nCR_tick ?nCR_number ?nCR_word ?nCR_packet ?hn ?ht ?v_do ?v_dr ?v_md ?v_w ?l_w ?z_len ?z_int ?z_str ?z_list ?z_range ?z_isinstance ?z_bool ?z_min
    (case aCP => k_is)
    (case aCR => k_is)
    (case a_hex => k_is)
    (case l_hex => k_is)
    (case c_hex => k_is)
    (case k_hex => k_is)
    (case a_dig => k_is)
    (case l_dig => k_is)
    (case c_dig => k_is)
    (case k_dig => k_is)
    (case a_fhx => k_is)
    (case l_fhx => k_is)
    (case c_fhx => k_is)
    (case k_fhx => k_is)
    (case a_lns => k_is)
    (case l_lns => k_is)
    (case c_lns => k_is)
    (case k_lns => k_is)
    (case a_dec => k_is)
    (case l_dec => k_is)
    (case c_dec => k_is)
    (case k_dec => k_is)
    (case a_roc => k_is)
    (case l_roc => k_is)
    (case c_roc => k_is)
    (case k_roc => k_is)
    (case a_rrs => k_is)
    (case l_rrs => k_is)
    (case c_rrs => k_is)
    (case k_rrs => k_is)
    (case a_wre => k_is)
    (case l_wre => k_is)
    (case c_wre => k_is)
    (case k_wre => k_is)
    (case a_wrs => k_is)
    (case l_wrs => k_is)
    (case c_wrs => k_is)
    (case k_wrs => k_is)
    (case a_isi => k_is)
    (case l_isi => k_is)
    (case c_isi => k_is)
    (case k_isi => k_is)
    (case a_row => k_is)
    (case l_row => k_is)
    (case c_row => k_is)
    (case k_row => k_is)
    (case a_oct => k_is)
    (case l_oct => k_is)
    (case c_oct => k_is)
    (case k_oct => k_is)
    (case a_num => k_is)
    (case l_num => k_is)
    (case c_num => k_is)
    (case k_num => k_is)
    (case a_par => k_is)
    (case l_par => k_is)
    (case c_par => k_is)
    (case k_par => k_is)
    (case a_mad => k_is)
    (case l_mad => k_is)
    (case c_mad => k_is)
    (case k_mad => k_is)
    (case a_lin => k_is)
    (case l_lin => k_is)
    (case c_lin => k_is)
    (case k_lin => k_is)
    (case a_sam => k_is)
    (case l_sam => k_is)
    (case c_sam => k_is)
    (case k_sam => k_is)
    (case a_law => k_is)
    (case l_law => k_is)
    (case c_law => k_is)
    (case k_law => k_is)
    (case a_peq => k_is)
    (case i_peq => k_is)
    (case l_peq => k_is)
    (case c_peq => k_is)
    (case k_peq => k_is)
    (case a_req => k_is)
    (case i_req => k_is)
    (case l_req => k_is)
    (case c_req => k_is)
    (case k_req => k_is)
    (case a_rin => k_is)
    (case i_rin => k_is)
    (case l_rin => k_is)
    (case c_rin => k_is)
    (case k_rin => k_is)
    (case a_pin => k_is)
    (case i_pin => k_is)
    (case l_pin => k_is)
    (case d_pin => k_is)
    (case c_pin => k_is)
    (case k_pin => k_is)
    (case a_rre => k_is)
    (case l_rre => k_is)
    (case d_rre => k_is)
    (case c_rre => k_is)
    (case k_rre => k_is)
    (case pgCP => k_is)
    (case hdCP => k_is)
    (case poCP => k_is)
    (case saCP => k_is)
    (case haCP => k_is)
    (case hmCP => k_is)
    (case mkCP => k_is)
    (case kpCP => k_is)
    (case nCP_sender => k_is)
    (case nCP_target => k_is)
    (case nCP_octets => k_is)
    (case nCP_marked => k_is)
    (case pgCR => k_is)
    (case hdCR => k_is)
    (case poCR => k_is)
    (case saCR => k_is)
    (case haCR => k_is)
    (case hmCR => k_is)
    (case mkCR => k_is)
    (case kpCR => k_is)
    (case nCR_tick => k_is)
    (case nCR_number => k_is)
    (case nCR_word => k_is)
    (case nCR_packet => k_is)
    (case hn => k_is)
    (case ht => k_is)
    (case v_do => k_is)
    (case v_dr => k_is)
    (case v_md => k_is)
    (case v_w => k_is)
    (case l_w => k_is)
    (case z_len => k_is)
    (case z_int => k_is)
    (case z_str => k_is)
    (case z_list => k_is)
    (case z_range => k_is)
    (case z_isinstance => k_is)
    (case z_bool => k_is)
    (case z_min => k_is)
#print axioms PySem.Challenge.cw_throughline_k76_whole_record_texts_holds
