/- Texts of this seat, merged in build order. No statement of its own. -/
import Derived.Test.YtjcabmhnekcbgaaC5
set_option linter.unusedVariables false
set_option linter.unusedSimpArgs false
section
/- Rounds as_ a function; answers of which some rows are handed on. No statement of its own. -/

namespace Go.Ab
open Go.RowKit

/-! ### rounds -/
section
variable {S R : Type}

def iterN (f : S → Option (S ⊕ R)) : Nat → S → Option R
  | 0, _ => none
  | n + 1, s => match f s with
    | none => none
    | some (.inl s') => iterN f n s'
    | some (.inr r) => some r

theorem iterN_more {f : S → Option (S ⊕ R)} {r : R} : ∀ {n m : Nat} {s : S}, iterN f n s = some r → n ≤ m → iterN f m s = some r
  | 0, _, _, h, _ => by cases h
  | n + 1, 0, _, _, hm => by omega
  | n + 1, m + 1, s, h, hm => by
    simp only [iterN] at h ⊢
    split at h
    · cases h
    · exact iterN_more h (by omega)
    · exact h

open Classical in
noncomputable def iter (f : S → Option (S ⊕ R)) (s : S) : Option R := if h : ∃ r, ∃ n, iterN f n s = some r then some h.choose else none

theorem iter_iff {f : S → Option (S ⊕ R)} {s : S} {r : R} : iter f s = some r ↔ ∃ n, iterN f n s = some r := by
  unfold iter
  constructor
  · intro h
    split at h
    · rename_i hx
      injection h with h
      rw [← h]
      exact hx.choose_spec
    · cases h
  · rintro ⟨n, hn⟩
    have hx : ∃ r, ∃ n, iterN f n s = some r := ⟨r, n, hn⟩
    rw [dif_pos hx]
    obtain ⟨m, hm⟩ := hx.choose_spec
    have h1 := iterN_more hn (Nat.le_max_left n m)
    have h2 := iterN_more hm (Nat.le_max_right n m)
    rw [h1] at h2
    exact h2.symm

theorem iter_inl {f : S → Option (S ⊕ R)} {s s' : S} (h : f s = some (.inl s')) : iter f s = iter f s' := by
  cases hx : iter f s' with
  | some r =>
    obtain ⟨n, hn⟩ := iter_iff.1 hx
    exact iter_iff.2 ⟨n + 1, by simp only [iterN, h]; exact hn⟩
  | none =>
    cases hy : iter f s with
    | none => rfl
    | some r =>
      obtain ⟨n, hn⟩ := iter_iff.1 hy
      cases n with
      | zero => cases hn
      | succ n =>
        simp only [iterN, h] at hn
        rw [iter_iff.2 ⟨n, hn⟩] at hx
        cases hx

theorem iter_inr {f : S → Option (S ⊕ R)} {s : S} {r : R} (h : f s = some (.inr r)) : iter f s = some r := iter_iff.2 ⟨1, by simp only [iterN, h]⟩

theorem iter_fun {f : S → Option (S ⊕ R)} (I : S → Prop) (μ : S → Nat) (g : S → R) (h : ∀ s, I s → (∃ s', f s = some (.inl s') ∧ I s' ∧ μ s' < μ s ∧ g s' = g s) ∨ f s = some (.inr (g s))) (s : S) (h0 : I s) : iter f s = some (g s) := by
  have key : ∀ n s, μ s < n → I s → iter f s = some (g s) := by
    intro n
    induction n with
    | zero => intro s hs; omega
    | succ n ih =>
      intro s hs hi
      rcases h s hi with ⟨s', h1, h2, h3, h4⟩ | h1
      · rw [iter_inl h1, ih s' (by omega) h2, h4]
      · exact iter_inr h1
  exact key _ s (Nat.lt_succ_self _) h0

theorem iter_of {f : S → Option (S ⊕ R)} (I : S → Prop) (μ : S → Nat) (Q : R → Prop) (h : ∀ s, I s → (∃ s', f s = some (.inl s') ∧ I s' ∧ μ s' < μ s) ∨ ∃ r, f s = some (.inr r) ∧ Q r) (s : S) (h0 : I s) : ∃ r, iter f s = some r ∧ Q r := by
  have key : ∀ n s, μ s < n → I s → ∃ r, iter f s = some r ∧ Q r := by
    intro n
    induction n with
    | zero => intro s hs; omega
    | succ n ih =>
      intro s hs hi
      rcases h s hi with ⟨s', h1, h2, h3⟩ | ⟨r, h1, h2⟩
      · rw [iter_inl h1]; exact ih s' (by omega) h2
      · exact ⟨r, iter_inr h1, h2⟩
  exact key _ s (Nat.lt_succ_self _) h0

theorem iterN_succ {f : S → Option (S ⊕ R)} {n : Nat} {s : S} {r : R} (h : iterN f n s = some r) : ∃ m, n = m + 1 ∧ ∃ y, f s = some y ∧ (match y with | .inl s' => iterN f m s' = some r | .inr q => q = r) := by
  cases n with
  | zero => cases h
  | succ m =>
    simp only [iterN] at h
    refine ⟨m, rfl, ?_⟩
    split at h
    · cases h
    · rename_i s' e; exact ⟨_, e, h⟩
    · rename_i q e; injection h with h; exact ⟨_, e, h⟩
end

theorem need_some {α : Type} {p : Prop} [Decidable p] {x : Option α} {r : α} (h : (if p then x else none) = some r) : p ∧ x = some r := by
  by_cases hp : p
  · rw [if_pos hp] at h; exact ⟨hp, h⟩
  · rw [if_neg hp] at h; cases h

theorem bind_some' {α β : Type} {x : Option α} {f : α → Option β} {r : β} (h : x.bind f = some r) : ∃ a, x = some a ∧ f a = some r := Option.bind_eq_some_iff.1 h

/-! ### answers of which some rows are handed on -/
def ownS (v v' : V) : List (Nat × Nat) := match v' with
  | .row j => match v with
    | .row n => [(j, n)]
    | _ => []
  | _ => []

def ownL : List V → List V → List (Nat × Nat)
  | v :: r, v' :: r' => ownS v v' ++ ownL r r'
  | _, _ => []

def own1 (v v' : V) : List (Nat × Nat) := match v' with
  | .agg ds => match v with
    | .agg cs => ownL cs ds
    | _ => []
  | v' => ownS v v'

def own1L : List V → List V → List (Nat × Nat)
  | v :: r, v' :: r' => own1 v v' ++ own1L r r'
  | _, _ => []

def ownV (v v' : V) : List (Nat × Nat) := match v' with
  | .tup ds => match v with
    | .tup cs => own1L cs ds
    | _ => []
  | v' => own1 v v'

def shwS (v v' : V) : List Nat := match v' with
  | .sl _ _ => match v with
    | .row n => [n]
    | _ => []
  | _ => []

def shwL : List V → List V → List Nat
  | v :: r, v' :: r' => shwS v v' ++ shwL r r'
  | _, _ => []

def shw1 (v v' : V) : List Nat := match v' with
  | .agg ds => match v with
    | .agg cs => shwL cs ds
    | _ => []
  | v' => shwS v v'

def shw1L : List V → List V → List Nat
  | v :: r, v' :: r' => shw1 v v' ++ shw1L r r'
  | _, _ => []

def shwV (v v' : V) : List Nat := match v' with
  | .tup ds => match v with
    | .tup cs => shw1L cs ds
    | _ => []
  | v' => shw1 v v'

def oleS (ρ : List (Nat × Nat)) (h post : Hp) (v v' : V) : Prop := match v' with
  | .row j => match v with
    | .row n => nameR ρ j = n ∧ hasN post j = true
    | _ => False
  | v' => pleS h v v'

def oleL (ρ : List (Nat × Nat)) (h post : Hp) : List V → List V → Prop
  | [], [] => True
  | v :: r, v' :: r' => oleS ρ h post v v' ∧ oleL ρ h post r r'
  | _, _ => False

def ole1 (ρ : List (Nat × Nat)) (h post : Hp) (v v' : V) : Prop := match v' with
  | .agg ds => match v with
    | .agg cs => oleL ρ h post cs ds
    | _ => False
  | v' => oleS ρ h post v v'

def ole1L (ρ : List (Nat × Nat)) (h post : Hp) : List V → List V → Prop
  | [], [] => True
  | v :: r, v' :: r' => ole1 ρ h post v v' ∧ ole1L ρ h post r r'
  | _, _ => False

def ole (ρ : List (Nat × Nat)) (h post : Hp) (v v' : V) : Prop := match v' with
  | .tup ds => match v with
    | .tup cs => ole1L ρ h post cs ds
    | _ => False
  | v' => ole1 ρ h post v v'

def bnS (post : Hp) (v v' : V) : V := match v' with
  | .row j => match v with
    | .nil => match look post j with
      | some (.row _ _) => .row (1000000 + j)
      | _ => v
    | v => v
  | _ => v

def bnL (post : Hp) : List V → List V → List V
  | v :: r, v' :: r' => bnS post v v' :: bnL post r r'
  | vs, _ => vs

def bn1 (post : Hp) (v v' : V) : V := match v' with
  | .agg ds => match v with
    | .agg cs => .agg (bnL post cs ds)
    | v => v
  | v' => bnS post v v'

def bn1L (post : Hp) : List V → List V → List V
  | v :: r, v' :: r' => bn1 post v v' :: bn1L post r r'
  | vs, _ => vs

def bnV (post : Hp) (v v' : V) : V := match v' with
  | .tup ds => match v with
    | .tup cs => .tup (bn1L post cs ds)
    | v => v
  | v' => bn1 post v v'

def bhS (post : Hp) (v v' : V) : Hp := match v' with
  | .row j => match v with
    | .nil => match look post j with
      | some (.row u _) => [(1000000 + j, .row u [])]
      | _ => []
    | _ => []
  | _ => []

def bhL (post : Hp) : List V → List V → Hp
  | v :: r, v' :: r' => bhS post v v' ++ bhL post r r'
  | _, _ => []

def bh1 (post : Hp) (v v' : V) : Hp := match v' with
  | .agg ds => match v with
    | .agg cs => bhL post cs ds
    | _ => []
  | v' => bhS post v v'

def bh1L (post : Hp) : List V → List V → Hp
  | v :: r, v' :: r' => bh1 post v v' ++ bh1L post r r'
  | _, _ => []

def bhV (post : Hp) (v v' : V) : Hp := match v' with
  | .tup ds => match v with
    | .tup cs => bh1L post cs ds
    | _ => []
  | v' => bh1 post v v'

def bhOk (T : Tr) (h : Hp) : Hp → Bool
  | [] => true
  | (n, b) :: r => match bhOk T h r with
    | false => false
    | true => match look (r ++ h) n with
      | some _ => false
      | none => match b with
        | .row u es => match es with
          | [] => match T.look u with
            | some e => Nat.blt 0 e.size
            | none => false
          | _ :: _ => false
        | _ => false

structure OwnOk0 (post : Hp) (v' : V) (v : V) (h : Hp) : Prop where
  rows : fitsH (ownV v v') (frzN h (shwV v v') ++ h) post
  blks : okBlks post post = true
  once : once (ownV v v') post [] [] = true
  live : liveN h (shwV v v') = true
  le : ole (ownV v v') h post v v'

structure OwnOk (T : Tr) (post : Hp) (v' : V) (v : V) (h : Hp) : Prop where
  born : bhOk T h (bhV post v v') = true
  own : OwnOk0 post v' (bnV post v v') (bhV post v v' ++ h)

section
variable {P : Program} {T : Tr} {w0 : Base} {φ : Nat → Option Loc} {w w' : World} {S S' : Nat → Prop} {v v' : V} {hp h post : Hp} {b0 : Nat → Prop} {x : Value}

theorem HOk.fit {ρ : List (Nat × Nat)} {hp' : Hp} (h : HOk T φ b0 w S hp) (f2 : fitsH ρ hp hp') (n2 : okBlks hp' hp' = true) (f3 : Ab.once ρ hp' [] [] = true) : HOk T (fitφ φ ρ hp') b0 w S hp' := by
  have inj := (once_inj f3).2
  have at' : ∀ {n b}, look hp' n = some b → fitφ φ ρ hp' n = φ (nameR ρ n) := fun hb => by
    simp only [fitφ, if_pos (hasN_iff.2 ⟨_, hb⟩)]
  refine ⟨fun n => ?_, fun n b hb => ?_, fun n b l B hb ho hl hB => ?_, fun n m b c l k B hb hc ho ho' hl hk hB hB' => ?_, h.old⟩
  · constructor
    · intro hn
      cases hb : look hp' n with
      | none => rfl
      | some b =>
        rw [at' hb] at hn
        have := (h.dom _).1 hn
        obtain ⟨c, hc, _⟩ := sameB_some (T := T) (φ := φ) (w := w) (S := S) (fitsH_look f2 n b hb)
        rw [hc] at this
        cases this
    · intro hn
      simp only [fitφ]
      rw [if_neg (fun e => by obtain ⟨b, hb⟩ := hasN_iff.1 e; rw [hn] at hb; cases hb)]
  · obtain ⟨c, hl, _, hc⟩ := sameB_some (T := T) (φ := φ) (w := w) (S := S) (fitsH_look f2 n b hb)
    have hB := hc _ (h.blk _ _ hl)
    cases b with
    | cells t cs =>
      obtain ⟨B, arr, h1, h2, h3, h4⟩ := hB
      exact ⟨B, arr, by rw [at' hb]; exact h1, h2, fit_relL cs _ (okBlks_look n2 n _ hb) h3, h4⟩
    | row et es =>
      obtain ⟨hw, e, he, hz, hh⟩ := hB
      refine ⟨hw, e, he, hz, ?_⟩
      rcases hh with ⟨B, off, room, arr, h1, h2, h3, h4, h5, h6⟩ | ⟨h1, h2⟩
      · refine .inl ⟨B, off, room, arr, by rw [at' hb]; exact h1, h2, h3, h4, h5, fun j c hj => ?_⟩
        obtain ⟨y, y1, y2⟩ := h6 j c hj
        exact ⟨y, wt_free c et y (wtL_iff.1 hw c (List.mem_of_getElem? hj)) y1, y2⟩
      · exact .inr ⟨by rw [at' hb]; exact h1, h2⟩
    | ro et es =>
      obtain ⟨hw, e, he, hz, hh⟩ := hB
      refine ⟨hw, e, he, hz, ?_⟩
      rcases hh with ⟨B, off, room, arr, fz, h1, h2, h3, h4, h5, h6⟩ | ⟨h1, h2⟩
      · refine .inl ⟨B, off, room, arr, fz, by rw [at' hb]; exact h1, h2, h3, h4, h5, fun j c hj => ?_⟩
        obtain ⟨y, y1, y2⟩ := h6 j c hj
        exact ⟨y, wt_free c et y (wtL_iff.1 hw c (List.mem_of_getElem? hj)) y1, y2⟩
      · exact .inr ⟨by rw [at' hb]; exact h1, h2⟩
    | gone => trivial
  · rw [at' hb] at hl
    obtain ⟨c, hc, hco, _⟩ := sameB_some (T := T) (φ := φ) (w := w) (S := S) (fitsH_look f2 n b hb)
    exact h.own _ _ l B hc (by rw [hco, renRB_own]; exact ho) hl hB
  · rw [at' hb] at hl
    rw [at' hc] at hk
    obtain ⟨b1, hb1, hbo, _⟩ := sameB_some (T := T) (φ := φ) (w := w) (S := S) (fitsH_look f2 n b hb)
    obtain ⟨c1, hc1, hco, _⟩ := sameB_some (T := T) (φ := φ) (w := w) (S := S) (fitsH_look f2 m c hc)
    exact inj n m b c hb hc (h.inj _ _ _ _ l k B hb1 hc1 (by rw [hbo, renRB_own]; exact ho) (by rw [hco, renRB_own]; exact ho') hl hk hB hB')

theorem oleS_rel (P : Program) (w0 : Base) {ρ : List (Nat × Nat)} (hh : HOk T φ b0 w S h) (hS : ∀ k, S k → S' k) (hO : ∀ k, OB φ (shwS v v') k → S' k) (hr : rel T φ w S v x) (hp : oleS ρ h post v v') : rel T (fitφ φ ρ post) w S' v' x := by
  have free : ∀ {S1 : Nat → Prop} {et es}, (∀ k, S1 k → S' k) → rel T φ w S1 (.sl et es) x → rel T (fitφ φ ρ post) w S' (.sl et es) x := by
    intro S1 et es hS hr
    have hr := rel_mono (LocLe.refl φ) (w' := w) (fun _ _ => rfl) hS _ _ hr
    simp only [rel] at hr ⊢
    obtain ⟨A, cap, h1, h2, h3, h5, h6⟩ := hr
    refine ⟨A, cap, h1, h2, h3, h5, fun hne => ?_⟩
    obtain ⟨ad, e, ha, hl, hz, hs, he⟩ := h6 hne
    exact ⟨ad, e, ha, hl, hz, hs, wtL_free es et 0 ad e.size h5 he⟩
  cases v' with
  | row j =>
    simp only [oleS] at hp
    split at hp
    · rename_i n
      obtain ⟨h1, h2⟩ := hp
      have hj : fitφ φ ρ post j = φ n := by simp only [fitφ, if_pos h2, h1]
      simp only [rel] at hr ⊢
      rw [hj]
      exact hr
    · exact hp.elim
  | sl u es =>
    simp only [oleS, pleS] at hp
    split at hp
    · subst hp
      simp only [rel] at hr ⊢
      subst hr
      exact ⟨none, 0, rfl, Nat.le_refl _, Nat.zero_le _, by simp [wtL], fun hne => absurd rfl hne⟩
    · rename_i n
      have hx := expS_ok (P := P) (w0 := w0) hh hr
      have hO' : ∀ k, (S k ∨ OB φ (rowsS (.row n)) k) → S' k := fun k hk => hk.elim (hS k) (fun hk => hO k (by simpa [shwS, rowsS] using hk))
      split at hp
      · rename_i u' es' hl
        obtain ⟨rfl, rfl⟩ := hp
        simp only [expS, hl] at hx
        exact free hO' hx
      · rename_i u' es' hl
        obtain ⟨rfl, rfl⟩ := hp
        simp only [expS, hl] at hx
        exact free hO' hx
      · exact hp.elim
    · obtain ⟨rfl, rfl⟩ := hp
      exact free hS hr
    · exact hp.elim
  | i k n =>
    simp only [oleS, pleS] at hp
    split at hp
    · obtain ⟨rfl, rfl⟩ := hp; simpa only [rel] using hr
    · exact hp.elim
  | b c =>
    simp only [oleS, pleS] at hp
    split at hp
    · subst hp; simpa only [rel] using hr
    · exact hp.elim
  | str s =>
    simp only [oleS, pleS] at hp
    split at hp
    · subst hp; simpa only [rel] using hr
    · exact hp.elim
  | nil =>
    simp only [oleS, pleS] at hp
    split at hp
    · simpa only [rel] using hr
    · exact hp.elim
  | _ => exact hp.elim

theorem OB_left {a b : List Nat} {k : Nat} (h : OB φ a k) : OB φ (a ++ b) k := by
  obtain ⟨n, hn, h⟩ := h
  exact ⟨n, List.mem_append_left _ hn, h⟩
theorem OB_right {a b : List Nat} {k : Nat} (h : OB φ b k) : OB φ (a ++ b) k := by
  obtain ⟨n, hn, h⟩ := h
  exact ⟨n, List.mem_append_right _ hn, h⟩

theorem oleL_rel (P : Program) (w0 : Base) {ρ : List (Nat × Nat)} (hh : HOk T φ b0 w S h) (hS : ∀ k, S k → S' k) : ∀ {cs ds : List V} {xs : List Value}, (∀ k, OB φ (shwL cs ds) k → S' k) → relL T φ w S cs xs → oleL ρ h post cs ds → relL T (fitφ φ ρ post) w S' ds xs
  | [], [], xs, _, hr, _ => by simpa only [relL] using hr
  | v :: r, v' :: r', xs, hO, hr, hp => by
    simp only [relL, oleL] at hr hp ⊢
    obtain ⟨x, xs', h1, h2, h3⟩ := hr
    exact ⟨x, xs', h1, oleS_rel P w0 hh hS (fun k hk => hO k (by simp only [shwL]; exact OB_left hk)) h2 hp.1, oleL_rel P w0 hh hS (fun k hk => hO k (by simp only [shwL]; exact OB_right hk)) h3 hp.2⟩
  | [], _ :: _, _, _, _, hp => hp.elim
  | _ :: _, [], _, _, _, hp => hp.elim

theorem ole1_rel (P : Program) (w0 : Base) {ρ : List (Nat × Nat)} (hh : HOk T φ b0 w S h) (hS : ∀ k, S k → S' k) (hO : ∀ k, OB φ (shw1 v v') k → S' k) (hr : rel T φ w S v x) (hp : ole1 ρ h post v v') : rel T (fitφ φ ρ post) w S' v' x := by
  cases v' with
  | agg ds =>
    simp only [ole1] at hp
    split at hp
    · simp only [rel] at hr ⊢
      obtain ⟨a, h1, h2, h3⟩ := hr
      exact ⟨a, h1, oleL_rel P w0 hh hS (by simpa only [shw1] using hO) h2 hp, h3⟩
    · exact hp.elim
  | _ => exact oleS_rel P w0 hh hS (by simpa only [shw1] using hO) hr (by simpa only [ole1] using hp)

theorem ole1L_rel (P : Program) (w0 : Base) {ρ : List (Nat × Nat)} (hh : HOk T φ b0 w S h) (hS : ∀ k, S k → S' k) : ∀ {cs ds : List V} {xs : List Value}, (∀ k, OB φ (shw1L cs ds) k → S' k) → relL T φ w S cs xs → ole1L ρ h post cs ds → relL T (fitφ φ ρ post) w S' ds xs
  | [], [], xs, _, hr, _ => by simpa only [relL] using hr
  | v :: r, v' :: r', xs, hO, hr, hp => by
    simp only [relL, ole1L] at hr hp ⊢
    obtain ⟨x, xs', h1, h2, h3⟩ := hr
    exact ⟨x, xs', h1, ole1_rel P w0 hh hS (fun k hk => hO k (by simp only [shw1L]; exact OB_left hk)) h2 hp.1, ole1L_rel P w0 hh hS (fun k hk => hO k (by simp only [shw1L]; exact OB_right hk)) h3 hp.2⟩
  | [], _ :: _, _, _, _, hp => hp.elim
  | _ :: _, [], _, _, _, hp => hp.elim

theorem ole_rel (P : Program) (w0 : Base) {ρ : List (Nat × Nat)} (hh : HOk T φ b0 w S h) (hS : ∀ k, S k → S' k) (hO : ∀ k, OB φ (shwV v v') k → S' k) (hr : rel T φ w S v x) (hp : ole ρ h post v v') : rel T (fitφ φ ρ post) w S' v' x := by
  cases v' with
  | tup ds =>
    simp only [ole] at hp
    split at hp
    · simp only [rel] at hr ⊢
      obtain ⟨a, h1, h2⟩ := hr
      exact ⟨a, h1, ole1L_rel P w0 hh hS (by simpa only [shwV] using hO) h2 hp⟩
    · exact hp.elim
  | _ => exact ole1_rel P w0 hh hS (by simpa only [shwV] using hO) hr (by simpa only [ole] using hp)

theorem HOk.nilrows {h : Hp} (hh : HOk T φ b0 w S h) : ∀ {r : Hp}, bhOk T h r = true → ∃ φ', LocLe φ φ' ∧ HOk T φ' b0 w S (r ++ h) ∧ ∀ n b, (n, b) ∈ r → φ' n = some .nilrow
  | [], _ => ⟨φ, LocLe.refl _, hh, fun n b hb => by cases hb⟩
  | (n, b) :: r, hok => by
    simp only [bhOk] at hok
    split at hok
    · cases hok
    · rename_i hr
      obtain ⟨φ1, l1, h1, m1⟩ := hh.nilrows hr
      split at hok
      · cases hok
      · rename_i hn
        split at hok
        · split at hok
          · split at hok
            · rename_i e he
              have hz : 0 < e.size := by simp [Nat.blt] at hok; omega
              have hφ : φ1 n = none := (h1.dom n).2 hn
              refine ⟨upd φ1 n .nilrow, l1.trans (upd_le hφ), ?_, fun m b hm => ?_⟩
              · refine h1.cons (upd_le hφ) (fun k hk => upd_ne hk) (by rw [upd_self]; simp) (fun _ _ => rfl) (fun _ h => h) (fun k c l B hk hc hc2 hl hB => ⟨rfl, (h1.own k c l B hc hc2 hl hB).2.2⟩) (Nat.le_refl _) ?_ (fun _ l B hl hB => ?_) h1.old
                · exact ⟨by simp [wtL], e, he, hz, .inr ⟨upd_self, rfl⟩⟩
                · rw [upd_self] at hl; injection hl with hl; subst hl; cases hB
              · rcases List.mem_cons.1 hm with hm | hm
                · injection hm with e1 e2; subst e1; exact upd_self
                · by_cases e : m = n
                  · subst e; exact upd_self
                  · rw [upd_ne e]; exact m1 m b hm
            · cases hok
          · cases hok
        · cases hok

theorem bnS_rel {φ' : Nat → Option Loc} (hle : LocLe φ φ') (hn : ∀ n b, (n, b) ∈ bhS post v v' → φ' n = some .nilrow) (hr : rel T φ w S v x) : rel T φ' w S (bnS post v v') x := by
  have up := rel_mono hle (w' := w) (fun _ _ => rfl) (fun _ h => h) _ _ hr
  unfold bnS
  split
  · split
    · split
      · rename_i hl
        simp only [rel] at hr ⊢
        rename_i u _
        refine .inr ⟨hn _ (.row u []) ?_, none, hr⟩
        simp only [bhS, hl]
        exact List.mem_singleton.2 rfl
      · exact up
    · exact up
  · exact up
theorem bnL_rel {φ' : Nat → Option Loc} (hle : LocLe φ φ') : ∀ {cs ds : List V} {xs : List Value}, (∀ n b, (n, b) ∈ bhL post cs ds → φ' n = some .nilrow) → relL T φ w S cs xs → relL T φ' w S (bnL post cs ds) xs
  | [], ds, xs, _, hr => by cases ds <;> simpa only [bnL, relL] using hr
  | v :: r, [], xs, _, hr => by simpa only [bnL] using relL_mono hle (w' := w) (fun _ _ => rfl) (fun _ h => h) _ _ hr
  | v :: r, v' :: r', xs, hn, hr => by
    simp only [bnL, relL] at hr ⊢
    obtain ⟨x, xs', h1, h2, h3⟩ := hr
    exact ⟨x, xs', h1, bnS_rel hle (fun n b hb => hn n b (List.mem_append_left _ hb)) h2, bnL_rel hle (fun n b hb => hn n b (List.mem_append_right _ hb)) h3⟩
theorem bn1_rel {φ' : Nat → Option Loc} (hle : LocLe φ φ') (hn : ∀ n b, (n, b) ∈ bh1 post v v' → φ' n = some .nilrow) (hr : rel T φ w S v x) : rel T φ' w S (bn1 post v v') x := by
  have up := rel_mono hle (w' := w) (fun _ _ => rfl) (fun _ h => h) _ _ hr
  unfold bn1
  split
  · split
    · simp only [rel] at hr ⊢
      obtain ⟨a, h1, h2, h3⟩ := hr
      exact ⟨a, h1, bnL_rel hle (by simpa only [bh1] using hn) h2, h3⟩
    · exact up
  · rename_i h
    refine bnS_rel hle (fun n b hb => hn n b ?_) hr
    unfold bh1
    split
    · exact absurd rfl (h _)
    · exact hb
theorem bn1L_rel {φ' : Nat → Option Loc} (hle : LocLe φ φ') : ∀ {cs ds : List V} {xs : List Value}, (∀ n b, (n, b) ∈ bh1L post cs ds → φ' n = some .nilrow) → relL T φ w S cs xs → relL T φ' w S (bn1L post cs ds) xs
  | [], ds, xs, _, hr => by cases ds <;> simpa only [bn1L, relL] using hr
  | v :: r, [], xs, _, hr => by simpa only [bn1L] using relL_mono hle (w' := w) (fun _ _ => rfl) (fun _ h => h) _ _ hr
  | v :: r, v' :: r', xs, hn, hr => by
    simp only [bn1L, relL] at hr ⊢
    obtain ⟨x, xs', h1, h2, h3⟩ := hr
    exact ⟨x, xs', h1, bn1_rel hle (fun n b hb => hn n b (List.mem_append_left _ hb)) h2, bn1L_rel hle (fun n b hb => hn n b (List.mem_append_right _ hb)) h3⟩
theorem bnV_rel {φ' : Nat → Option Loc} (hle : LocLe φ φ') (hn : ∀ n b, (n, b) ∈ bhV post v v' → φ' n = some .nilrow) (hr : rel T φ w S v x) : rel T φ' w S (bnV post v v') x := by
  have up := rel_mono hle (w' := w) (fun _ _ => rfl) (fun _ h => h) _ _ hr
  unfold bnV
  split
  · split
    · simp only [rel] at hr ⊢
      obtain ⟨a, h1, h2⟩ := hr
      exact ⟨a, h1, bn1L_rel hle (by simpa only [bhV] using hn) h2⟩
    · exact up
  · rename_i h
    refine bn1_rel hle (fun n b hb => hn n b ?_) hr
    unfold bhV
    split
    · exact absurd rfl (h _)
    · exact hb

theorem FnR.own {f : Nat} {args : List V} {res : V} {post : Hp} (hf : FnR P T f args fun v h => OwnOk T post res v h) : Fn P T f args res post := by
  refine fun w S vals hold hr => Goes.weaken (hf w S vals hold hr) (fun e w' hq => ?_)
  obtain ⟨x, φ0, S1, v0, h0, he, h1, g2, g3, h4, g5⟩ := hq
  obtain ⟨φ', l1, h2, l3⟩ := g2.nilrows g5.born
  have h3 := bnV_rel l1 l3 g3
  have ho := g5.own
  generalize bnV post v0 res = v at h3 ho
  generalize bhV post v0 res ++ h0 = h at h2 ho
  obtain ⟨S2, s1, s2, s3, s4⟩ := frzN_ok (shwV v res) h2
  have hx := ole_rel P (.of w) h2 s1 (s3 ho.live) h3 ho.le
  refine ⟨x, _, S2, he, h1, s2.fit ho.rows ho.blks ho.once, hx, fun k hk => ?_⟩
  rcases s4 k hk with hk | ⟨n, et, es, l, g1, g2, g3⟩
  · exact h4 k hk
  · exact .inr (Nat.not_lt.1 (h2.own n _ l k g1 rfl g2 g3).1)

theorem fn_own (htok : TyOk P T) {f : Nat} {fn : Func} {c : Code} (W : Nat → List (List Nat)) {args : List V} {res : V} {post : Hp} (hf : P.funcs[f]? = some fn) (hname : (fn.name == "runtime.NumGoroutine") = false) (hb : fn.body = some c) (hok : codeOk W c = true)
    (h : ∀ ar un cv mn mx pl mi cmp nt beq an scmp cat slen sbyte ssub ofB toB len gi gb gs gl sub put app ovl rep ne0 ge0 inb bnd room sroom need br call loop cut nl, Eqs ar un cv mn mx pl mi cmp nt beq an scmp cat slen sbyte ssub ofB toB len gi gb gs gl sub put app ovl rep ne0 ge0 inb bnd room sroom → Rules P T W [] ar un cv mn mx pl mi cmp nt beq an scmp cat slen sbyte ssub ofB toB len gi gb gs gl sub put app ovl rep ne0 ge0 inb bnd room sroom need br call loop cut nl → ∀ K : V → Hp → Prop, (∀ v h, OwnOk T post res v h → K v h) → vc ⟨ar, un, cv, mn, mx, pl, mi, cmp, nt, beq, an, scmp, cat, slen, sbyte, ssub, ofB, toB, len, gi, gb, gs, gl, sub, put, app, ovl, rep, ne0, ge0, inb, bnd, room, sroom, need, br, call, loop, cut, nl⟩ T W c (retK ⟨ar, un, cv, mn, mx, pl, mi, cmp, nt, beq, an, scmp, cat, slen, sbyte, ssub, ofB, toB, len, gi, gb, gs, gl, sub, put, app, ovl, rep, ne0, ge0, inb, bnd, room, sroom, need, br, call, loop, cut, nl⟩ T fn.results.toList K) (args ++ List.replicate (fn.ntmps - args.length) .dead) []) : Ab.Fn P T f args res post := by
  refine FnR.own (fnr_of_vc htok hf hname hb hok (fun w => ?_))
  generalize ho : real P T (.of w) = o
  have ho := ho.symm
  obtain ⟨ar, un, cv, mn, mx, pl, mi, cmp, nt, beq, an, scmp, cat, slen, sbyte, ssub, ofB, toB, len, gi, gb, gs, gl, sub, put, app, ovl, rep, ne0, ge0, inb, bnd, room, sroom, need, br, call, loop, cut, nl⟩ := o
  refine h _ _ _ _ _ _ _ _ _ _ _ _ _ _ _ _ _ _ _ _ _ _ _ _ _ _ _ _ _ _ _ _ _ _ _ _ _ _ _ _ ?_ ?_ _ (fun v h hp => hp)
  · have e := ho.symm
    unfold real at e
    injection e with e_ar e_un e_cv e_mn e_mx e_pl e_mi e_cmp e_nt e_beq e_an e_scmp e_cat e_slen e_sbyte e_ssub e_ofB e_toB e_len e_gi e_gb e_gs e_gl e_sub e_put e_app e_ovl e_rep e_ne0 e_ge0 e_inb e_bnd e_room e_sroom e_need e_br e_call e_loop e_cut e_nl
    subst e_ar e_un e_cv e_mn e_mx e_pl e_mi e_cmp e_nt e_beq e_an e_scmp e_cat e_slen e_sbyte e_ssub e_ofB e_toB e_len e_gi e_gb e_gs e_gl e_sub e_put e_app e_ovl e_rep e_ne0 e_ge0 e_inb e_bnd e_room e_sroom e_need e_br e_call e_loop e_cut e_nl
    constructor <;> intros <;> rfl
  · exact ⟨fun h1 h2 => real_need ho h1 h2, fun h1 h2 => real_br ho h1 h2, fun h1 h2 h3 => by subst h2; exact real_call ho h1 h3, fun t n et _ h1 h2 h3 h4 h5 => real_born ho h1 h2 h3 h4 h5, fun n0 j n et _ _ _ h0 h1 h2 h3 h4 h5 => real_bornC ho h0 h1 h2 h3 h4 h5, fun h1 h2 => real_nl ho h1 h2, fun ha hb h => real_cut ho htok ha hb h, fun n sl hs ha hb h hk => real_cutF ho htok (fun p hp => by cases hp) n sl hs ha hb h hk, fun n sl hs I μ a0 ρ0 h0 h1 h2 h3 => real_loop_ok ho htok (fun p hp => by cases hp) n sl hs I μ a0 ρ0 h0 h1 h2 h3⟩
end
end Go.Ab
end
section
/- What the printed walks use: the folded operations under their real names, the rules along a function told in Lean. No statement of its own. -/

namespace Go.Ab
open Go.RowKit

def wrapK (k : IntKind) (a : Int) : Int := k.wrap a
def mnI (a b : Int) : Int := if b < a then b else a
def mxI (a b : Int) : Int := if b > a then b else a
def plI (a b : Int) : Int := a + b
def miI (a b : Int) : Int := a - b
def notB' (b : Bool) : Bool := !b
def beqB (a b : Bool) : Bool := a == b
def andB' (a b : Bool) : Bool := a && b
def catS (a b : ByteArray) : ByteArray := a ++ b
def subS (s : ByteArray) (l h : Int) : ByteArray := s.extract l.toNat h.toNat
def toBy (es : List V) : ByteArray := ⟨(es.map fun e => UInt8.ofNat (Ab.asInt e).toNat).toArray⟩
def gI (es : List V) (i : Int) (j : Nat) : Int := Ab.asInt (elAt es i j)
def gB (es : List V) (i : Int) (j : Nat) : Bool := boolOf (elAt es i j)
def gS (es : List V) (i : Int) (j : Nat) : ByteArray := strOf (elAt es i j)
def gL (es : List V) (i : Int) (j : Nat) : List V := listOf (elAt es i j)
def subL (es : List V) (l h : Int) : List V := (es.take h.toNat).drop l.toNat
def putL (es : List V) (i : Int) (j : Nat) (cs : List V) : List V := es.set i.toNat (putCells (es.getD i.toNat .dead) j cs)
def appL (es xs : List V) : List V := es ++ xs
def repL (n : Int) (v : V) : List V := List.replicate n.toNat v
def Ne0 (n : Int) : Prop := n ≠ 0
def Ge0 (n : Int) : Prop := 0 ≤ n
def Inb (i n : Int) : Prop := 0 ≤ i ∧ i < n
def Bnd (l h n : Int) : Prop := 0 ≤ l ∧ l ≤ h ∧ h ≤ n
def Room (n : Int) (b : Nat) : Prop := n ≤ 140737488355328 ∧ n.toNat * b ≤ 140737488355328
def Sroom (a b : ByteArray) : Prop := a.size + b.size ≤ 9223372036854775807
instance (n : Int) : Decidable (Ne0 n) := by unfold Ne0; infer_instance
instance (n : Int) : Decidable (Ge0 n) := by unfold Ge0; infer_instance
instance (i n : Int) : Decidable (Inb i n) := by unfold Inb; infer_instance
instance (l h n : Int) : Decidable (Bnd l h n) := by unfold Bnd; infer_instance
instance (n : Int) (b : Nat) : Decidable (Room n b) := by unfold Room; infer_instance
instance (a b : ByteArray) : Decidable (Sroom a b) := by unfold Sroom; infer_instance

structure Real (ar : BinOp → IntKind → Int → Int → Int) (un : UnOp → IntKind → Int → Int) (cv : IntKind → Int → Int) (mn : Int → Int → Int) (mx : Int → Int → Int) (pl : Int → Int → Int) (mi : Int → Int → Int) (cmp : BinOp → Int → Int → Bool) (nt : Bool → Bool) (beq : Bool → Bool → Bool) (an : Bool → Bool → Bool) (scmp : BinOp → ByteArray → ByteArray → Bool) (cat : ByteArray → ByteArray → ByteArray) (slen : ByteArray → Int) (sbyte : ByteArray → Int → Int) (ssub : ByteArray → Int → Int → ByteArray) (ofB : ByteArray → List V) (toB : List V → ByteArray) (len : List V → Int) (gi : List V → Int → Nat → Int) (gb : List V → Int → Nat → Bool) (gs : List V → Int → Nat → ByteArray) (gl : List V → Int → Nat → List V) (sub : List V → Int → Int → List V) (put : List V → Int → Nat → List V → List V) (app : List V → List V → List V) (ovl : List V → Int → List V → List V) (rep : Int → V → List V) (ne0 : Int → Prop) (ge0 : Int → Prop) (inb : Int → Int → Prop) (bnd : Int → Int → Int → Prop) (room : Int → Nat → Prop) (sroom : ByteArray → ByteArray → Prop) : Prop where
  har : ar = arReal
  hun : un = unReal
  hcv : cv = wrapK
  hmn : mn = mnI
  hmx : mx = mxI
  hpl : pl = plI
  hmi : mi = miI
  hcmp : cmp = cmpLit
  hnt : nt = notB'
  hbeq : beq = beqB
  han : an = andB'
  hscmp : scmp = strCmp
  hcat : cat = catS
  hslen : slen = slenI
  hsbyte : sbyte = sbyteI
  hssub : ssub = subS
  hofB : ofB = strBytes
  htoB : toB = toBy
  hlen : len = lenI
  hgi : gi = gI
  hgb : gb = gB
  hgs : gs = gS
  hgl : gl = gL
  hsub : sub = subL
  hput : put = putL
  happ : app = appL
  hovl : ovl = ovlReal
  hrep : rep = repL
  hne0 : ne0 = Ne0
  hge0 : ge0 = Ge0
  hinb : inb = Inb
  hbnd : bnd = Bnd
  hroom : room = Room
  hsroom : sroom = Sroom

section
variable {P : Program} {T : Tr} {W : Nat → List (List Nat)} {ns : List Nat} {ar : BinOp → IntKind → Int → Int → Int} {un : UnOp → IntKind → Int → Int} {cv : IntKind → Int → Int} {mn : Int → Int → Int} {mx : Int → Int → Int} {pl : Int → Int → Int} {mi : Int → Int → Int} {cmp : BinOp → Int → Int → Bool} {nt : Bool → Bool} {beq : Bool → Bool → Bool} {an : Bool → Bool → Bool} {scmp : BinOp → ByteArray → ByteArray → Bool} {cat : ByteArray → ByteArray → ByteArray} {slen : ByteArray → Int} {sbyte : ByteArray → Int → Int} {ssub : ByteArray → Int → Int → ByteArray} {ofB : ByteArray → List V} {toB : List V → ByteArray} {len : List V → Int} {gi : List V → Int → Nat → Int} {gb : List V → Int → Nat → Bool} {gs : List V → Int → Nat → ByteArray} {gl : List V → Int → Nat → List V} {sub : List V → Int → Int → List V} {put : List V → Int → Nat → List V → List V} {app : List V → List V → List V} {ovl : List V → Int → List V → List V} {rep : Int → V → List V} {ne0 : Int → Prop} {ge0 : Int → Prop} {inb : Int → Int → Prop} {bnd : Int → Int → Int → Prop} {room : Int → Nat → Prop} {sroom : ByteArray → ByteArray → Prop} {need : Prop → Prop → Prop} {br : Bool → (Unit → Prop) → (Unit → Prop) → Prop} {call : Nat → List V → (V → Hp → Prop) → Prop} {loop : Code → (Exit → List V → Hp → Prop) → List V → Hp → Prop} {cut : Code → Code → (Exit → List V → Hp → Prop) → List V → Hp → Prop} {nl : List V → (Unit → Prop) → (Unit → Prop) → Prop}

theorem Eqs.D (E : Eqs ar un cv mn mx pl mi cmp nt beq an scmp cat slen sbyte ssub ofB toB len gi gb gs gl sub put app ovl rep ne0 ge0 inb bnd room sroom) : Real ar un cv mn mx pl mi cmp nt beq an scmp cat slen sbyte ssub ofB toB len gi gb gs gl sub put app ovl rep ne0 ge0 inb bnd room sroom := by
  constructor
  · exact E.har
  · exact E.hun
  · funext a b; exact E.hcv a b
  · funext a b; exact E.hmn a b
  · funext a b; exact E.hmx a b
  · funext a b; exact E.hpl a b
  · funext a b; exact E.hmi a b
  · exact E.hcmp
  · funext a; exact E.hnt a
  · funext a b; exact E.hbeq a b
  · funext a b; exact E.han a b
  · exact E.hscmp
  · funext a b; exact E.hcat a b
  · funext a; exact E.hslen a
  · funext a b; exact E.hsbyte a b
  · funext a b c; exact E.hssub a b c
  · exact E.hofB
  · funext a; exact E.htoB a
  · funext a; exact E.hlen a
  · funext a b c; exact E.hgi a b c
  · funext a b c; exact E.hgb a b c
  · funext a b c; exact E.hgs a b c
  · funext a b c; exact E.hgl a b c
  · funext a b c; exact E.hsub a b c
  · funext a b c d; exact E.hput a b c d
  · funext a b; exact E.happ a b
  · exact E.hovl
  · funext a b; exact E.hrep a b
  · funext a; exact E.hne0 a
  · funext a; exact E.hge0 a
  · funext a b; exact E.hinb a b
  · funext a b c; exact E.hbnd a b c
  · funext a b; exact E.hroom a b
  · funext a b; exact E.hsroom a b

theorem Rules.brD (R : Rules P T W ns ar un cv mn mx pl mi cmp nt beq an scmp cat slen sbyte ssub ofB toB len gi gb gs gl sub put app ovl rep ne0 ge0 inb bnd room sroom need br call loop cut nl) {α : Type} {c c' : Bool} {A B : Unit → Prop} {X Y : Option α} {r : α} (h : (if c' = true then X else Y) = some r) (e : c = c') (h1 : X = some r → A ()) (h2 : Y = some r → B ()) : br c A B := by
  subst e
  refine R.br' (fun hc => h1 ?_) (fun hc => h2 ?_)
  · rw [if_pos hc] at h; exact h
  · rw [if_neg (by rw [hc]; exact Bool.false_ne_true)] at h; exact h
theorem Rules.needD (R : Rules P T W ns ar un cv mn mx pl mi cmp nt beq an scmp cat slen sbyte ssub ofB toB len gi gb gs gl sub put app ovl rep ne0 ge0 inb bnd room sroom need br call loop cut nl) {α : Type} {p p' q : Prop} [Decidable p'] {X : Option α} {r : α} (h : (if p' then X else none) = some r) (e : p = p') (h1 : X = some r → q) : need p q := by
  subst e
  obtain ⟨h2, h3⟩ := need_some h
  exact R.need' h2 (h1 h3)
theorem Rules.callD (R : Rules P T W ns ar un cv mn mx pl mi cmp nt beq an scmp cat slen sbyte ssub ofB toB len gi gb gs gl sub put app ovl rep ne0 ge0 inb bnd room sroom need br call loop cut nl) {α β : Type} {f : Nat} {args : List V} {K : V → Hp → Prop} {x : Option α} {F : α → Option β} {r : β} (h : x.bind F = some r) (k : ∀ a, x = some a → F a = some r → call f args K) : call f args K := by
  obtain ⟨a, h1, h2⟩ := bind_some' h
  exact k a h1 h2
theorem Rules.loopD (R : Rules P T W ns ar un cv mn mx pl mi cmp nt beq an scmp cat slen sbyte ssub ofB toB len gi gb gs gl sub put app ovl rep ne0 ge0 inb bnd room sroom need br call loop cut nl) {b : Code} {K : Exit → List V → Hp → Prop} {tm : List V} {hp : Hp} {S A β : Type} {f : S → Option (S ⊕ A)} {s0 : S} {F : A → Option β} {r : β} (h : (iter f s0).bind F = some r) (k : ∀ s x, s = s0 → iter f s = some x → F x = some r → loop b K tm hp) : loop b K tm hp := by
  obtain ⟨a, h1, h2⟩ := bind_some' h
  exact k s0 a rfl h1 h2
theorem Rules.loopI (R : Rules P T W ns ar un cv mn mx pl mi cmp nt beq an scmp cat slen sbyte ssub ofB toB len gi gb gs gl sub put app ovl rep ne0 ge0 inb bnd room sroom need br call loop cut nl) {b : Code} {K : Exit → List V → Hp → Prop} {tm : List V} {hp : Hp} {S A : Type} {f : S → Option (S ⊕ A)} {s0 : S} {x : A} (hx : iter f s0 = some x) (dr : List Nat) (up : S → List (Nat × V)) (uh : S → Hp) (hf : FitsU ns b dr tm hp (up s0) (uh s0) tm hp) (hok : codeOk W b = true)
    (hs : ∀ s m y, f s = some y → (∀ s', y = .inl s' → iterN f m s' = some x) → (∀ q, y = .inr q → q = x) → ∀ L : List V → Hp → Prop, (∀ s' tm' hp', iterN f m s' = some x → FitsU ns b dr tm hp (up s') (uh s') tm' hp' → L tm' hp') → vc ⟨ar, un, cv, mn, mx, pl, mi, cmp, nt, beq, an, scmp, cat, slen, sbyte, ssub, ofB, toB, len, gi, gb, gs, gl, sub, put, app, ovl, rep, ne0, ge0, inb, bnd, room, sroom, need, br, call, loop, cut, nl⟩ T W b (fun e tm hp => match e with | .normal => L tm hp | e => K e tm hp) (mkS tm.length (slotsU b dr tm (up s))) (heapU dr hp (uh s))) : loop b K tm hp := by
  obtain ⟨n, hn⟩ := iter_iff.1 hx
  refine R.loopU dr (fun a : Nat × S => up a.2) (fun a => uh a.2) (fun a => iterN f a.1 a.2 = some x) (fun a => a.1) (n, s0) hn hf hok (fun a ha L hL => ?_)
  obtain ⟨n, s⟩ := a
  obtain ⟨m, rfl, y, hy, hz⟩ := iterN_succ ha
  exact hs s m y hy (fun s' e => by subst e; exact hz) (fun q e => by subst e; exact hz) L (fun s' tm' hp' h1 h2 => hL (m, s') tm' hp' h1 (Nat.lt_succ_self _) h2)
theorem Rules.cutB (R : Rules P T W ns ar un cv mn mx pl mi cmp nt beq an scmp cat slen sbyte ssub ofB toB len gi gb gs gl sub put app ovl rep ne0 ge0 inb bnd room sroom need br call loop cut nl) {a b : Code} {K : Exit → List V → Hp → Prop} {tm : List V} {hp : Hp} {Y S β : Type} {x : Option Y} {F : Y → Option β} {r : β} (inj : S → Y) (hij : ∀ p q, inj p = inj q → p = q) (h : x.bind F = some r) (dr : List Nat) (up : S → List (Nat × V)) (uh : S → Hp) (ha : codeOk W a = true) (hb : codeOk W b = true)
    (hs : ∀ y, x = some y → F y = some r → ∀ L : List V → Hp → Prop, (∀ p tm' hp', y = inj p → FitsU ns a dr tm hp (up p) (uh p) tm' hp' → L tm' hp') → vc ⟨ar, un, cv, mn, mx, pl, mi, cmp, nt, beq, an, scmp, cat, slen, sbyte, ssub, ofB, toB, len, gi, gb, gs, gl, sub, put, app, ovl, rep, ne0, ge0, inb, bnd, room, sroom, need, br, call, loop, cut, nl⟩ T W a (fun e tm hp => match e with | .normal => L tm hp | e => K e tm hp) tm hp)
    (hk : ∀ p, F (inj p) = some r → vc ⟨ar, un, cv, mn, mx, pl, mi, cmp, nt, beq, an, scmp, cat, slen, sbyte, ssub, ofB, toB, len, gi, gb, gs, gl, sub, put, app, ovl, rep, ne0, ge0, inb, bnd, room, sroom, need, br, call, loop, cut, nl⟩ T W b K (mkS tm.length (slotsU a dr tm (up p))) (heapU dr hp (uh p))) : cut a b K tm hp := by
  obtain ⟨y, h1, h2⟩ := bind_some' h
  by_cases hy : ∃ p, y = inj p
  · obtain ⟨p, rfl⟩ := hy
    refine R.cutF tm.length (slotsU a dr tm (up p)) (heapU dr hp (uh p)) ha hb (fun L hL => hs _ h1 h2 (fun tm' hp' => L tm' hp') (fun q tm' hp' e hf => ?_)) (hk p h2)
    have e := hij _ _ e; subst e; exact hL _ tm' hp' hf.fits
  · exact R.cut' ha hb (hs y h1 h2 _ (fun p tm' hp' e _ => absurd ⟨p, e⟩ hy))
theorem inl_some {S A : Type} {a : S} {y : S ⊕ A} {f : S → Option (S ⊕ A)} {m : Nat} {x : A} (h : some (Sum.inl a) = some y) (hi : ∀ s', y = .inl s' → iterN f m s' = some x) : ∃ s, s = a ∧ iterN f m s = some x := by
  injection h with h
  exact ⟨a, rfl, hi a h.symm⟩
theorem inr_some {S A : Type} {a x : A} {y : S ⊕ A} (h : some (Sum.inr a) = some y) (hq : ∀ q, y = .inr q → q = x) : x = a := by
  injection h with h
  exact (hq a h.symm).symm
theorem ret_some {α : Type} {a r : α} (h : some a = some r) : r = a := by injection h with h; exact h.symm
theorem jn_some {Y S : Type} {y : Y} {a : S} (f : S → Y) (h : some (f a) = some y) : ∃ s, s = a ∧ y = f s := by injection h with h; exact ⟨a, rfl, h.symm⟩
open Classical in
noncomputable def nlD {α : Type} (es : List V) (A B : Option α) : Option α := if es = [] ∧ A ≠ B then none else B
theorem nlD_ne {α : Type} {es : List V} {A B : Option α} (h : es ≠ []) : nlD es A B = B := by unfold nlD; rw [if_neg (fun k => h k.1)]
theorem nlD_eq {α : Type} {es : List V} {A B : Option α} (h : A = B) : nlD es A B = B := by unfold nlD; rw [if_neg (fun k => k.2 h)]
theorem Rules.nlD (R : Rules P T W ns ar un cv mn mx pl mi cmp nt beq an scmp cat slen sbyte ssub ofB toB len gi gb gs gl sub put app ovl rep ne0 ge0 inb bnd room sroom need br call loop cut nl) {α : Type} {es es' : List V} {A B : Unit → Prop} {X Y : Option α} {r : α} (h : nlD es' X Y = some r) (e : es = es') (h1 : es' = [] → X = some r → A ()) (h2 : Y = some r → B ()) : nl es A B := by
  subst e
  unfold Go.Ab.nlD at h
  split at h
  · cases h
  · rename_i hn
    refine R.nl' (fun he => h1 he ?_) (h2 h)
    by_cases k : X = Y
    · rw [k]; exact h
    · exact absurd ⟨he, k⟩ hn
def fitA : List V → List V → Prop
  | [], [] => True
  | a :: r, b :: s => fitV a b ∧ fitA r s
  | _, _ => False
theorem fitA_rel {φ : Nat → Option Loc} {w : World} {S : Nat → Prop} : ∀ {as_ bs : List V} {xs : List Value}, fitA as_ bs → relL T φ w S as_ xs → relL T φ w S bs xs
  | [], [], xs, _, h => h
  | a :: r, b :: s, xs, hf, h => by
    simp only [relL, fitA] at h hf ⊢
    obtain ⟨x, xs', h1, h2, h3⟩ := h
    exact ⟨x, xs', h1, fitV_rel hf.1 h2, fitA_rel hf.2 h3⟩
  | [], _ :: _, _, hf, _ => hf.elim
  | _ :: _, [], _, hf, _ => hf.elim
theorem Fn.args_le {f : Nat} {args args' : List V} {v : V} {h : Hp} (hf : Ab.Fn P T f args' v h) (ha : fitA args args') : Ab.Fn P T f args v h :=
  fun w S vals hS hr => hf w S vals hS (fitA_rel ha hr)
theorem Rules.callN (R : Rules P T W ns ar un cv mn mx pl mi cmp nt beq an scmp cat slen sbyte ssub ofB toB len gi gb gs gl sub put app ovl rep ne0 ge0 inb bnd room sroom need br call loop cut nl) {f : Nat} {args args' : List V} {K : V → Hp → Prop} {v : V} {h : Hp} (hf : Ab.Fn P T f args' v h) (ha : fitA args args') (k : K v h) : call f args K := R.call' (hf.args_le ha) rfl k
def W0 (r : Nat) : List (List Nat) := []
theorem none_some {α : Type} {a : α} (h : (none : Option α) = some a) : False := by cases h
theorem if_tt {α : Type} (a b : α) : (if true = true then a else b) = a := if_pos rfl
theorem if_ff {α : Type} (a b : α) : (if false = true then a else b) = b := if_neg Bool.false_ne_true
end
end Go.Ab
end
section
/- The contracts of layer 01 that were proved by hand, as_ the printed walks ask for them: maps of functions. No statement of its own. -/

namespace Go.Proofs.Ytjcabmhnekcbgaa
open Go.Ab Go.RowKit Go.Proofs.Ytjcabmhnekcbgaa.G
theorem since_of {w w' : World} (h : Below w.heap.size w w') : Since (.of w) w' := ⟨h.os, h.tape, h.output, h.size, h.block⟩
theorem body_of {f : Nat} {fn : Func} (hf : Try.prog.funcs[f]? = some fn) (hn : (fn.name == "runtime.NumGoroutine") = false) (hb : fn.body.isSome = true) : Ab.Body Try.prog f := by
  obtain ⟨c, hc⟩ := Option.isSome_iff_exists.1 hb
  exact ⟨fn, c, hf, hn, hc⟩
theorem fn_map {f t : Nat} {L3 : List (Nat × Value × Value)} (hb : Ab.Body Try.prog f) (hL : (L3.map (·.2)).Pairwise (fun a b => a.1 ≠ b.1))
    (h : ∀ w, Calls Try.prog f #[] w fun e w' => ∃ g, e = .returned (.map (some g)) ∧ w.heap.size ≤ g ∧ MapOf w' g L3 (fun _ => true) ∧ Below w.heap.size w w') : Ab.Fn Try.prog TT f [] (.mp t (L3.map (·.2))) [] := by
  intro w S vals hold hr
  simp only [relL] at hr
  subst hr
  refine .inl ⟨hb, Calls.weaken (h w) (fun e w' ⟨g, e1, e2, e3, e4⟩ => ?_)⟩
  have hlt := e3.lt
  obtain ⟨es, c, m1, m2, m3⟩ := e3
  refine ⟨.map (some g), fun _ => none, fun k => S k ∨ k = g, e1, since_of e4, HOk.empty (fun k hk => ?_), ?_, fun k hk => ?_⟩
  · rcases hk with hk | rfl
    · exact Nat.lt_of_lt_of_le (hold k hk) e4.size
    · exact hlt
  · simp only [rel]
    refine ⟨g, es, c, rfl, .inr rfl, m1, fun e he => ?_, fun p hp => ?_, hL⟩
    · obtain ⟨l, hl, _, h2⟩ := m2 e he
      exact List.mem_map.2 ⟨l, hl, h2⟩
    · obtain ⟨l, hl, rfl⟩ := List.mem_map.1 hp
      exact m3 l hl rfl
  · rcases hk with hk | rfl
    · exact .inl hk
    · exact .inr e2
noncomputable def d29 : Option Unit := some ()
def convL : List (Value × Value) := conversions.L.map (·.2)
theorem w29 (r : Unit) (h : d29 = some r) : Ab.Fn Try.prog TT 29 [] (.mp 59 convL) [] := fn_map (body_of Try.func29 (by kernel_rfl) (by kernel_rfl)) (by simp [conversions.L]) conversions.calls
noncomputable def d34 : Option Unit := some ()
def ariL : List (Value × Value) := arithmetic.L.map (·.2)
theorem w34 (r : Unit) (h : d34 = some r) : Ab.Fn Try.prog TT 34 [] (.mp 67 ariL) [] := fn_map (body_of Try.func34 (by kernel_rfl) (by kernel_rfl)) (by simp [arithmetic.L]) arithmetic.calls
noncomputable def d35 : Option Unit := some ()
def relL_ : List (Value × Value) := relations.L.map (·.2)
theorem w35 (r : Unit) (h : d35 = some r) : Ab.Fn Try.prog TT 35 [] (.mp 71 relL_) [] := fn_map (body_of Try.func35 (by kernel_rfl) (by kernel_rfl)) (by simp [relations.L]) relations.calls
end Go.Proofs.Ytjcabmhnekcbgaa
end
section
namespace Go.Proofs.Ytjcabmhnekcbgaa.G
open Go.RowKit Go.Proofs.YtjcabmhnekcbgaaW.PrintWords Go.Proofs.YtjcabmhnekcbgaaW.PrintLast Go.Proofs.YtjcabmhnekcbgaaW.PrintMore Go.ChangeMaps
set_option maxRecDepth 100000 in
theorem enc_dig (k : Nat) (h : k < 10) (h' : k < (ByteArray.mk #[48, 49, 50, 51, 52, 53, 54, 55, 56, 57]).size) : Utf8.encode ((((ByteArray.mk #[48, 49, 50, 51, 52, 53, 54, 55, 56, 57])[k]'h').toNat : Nat) : Int) = strOfNums [48 + (k : Int)] := by
  have e : ((ByteArray.mk #[48, 49, 50, 51, 52, 53, 54, 55, 56, 57])[k]'h').toNat = 48 + k := by
    match k, h, h' with
    | 0, _, _ => rfl
    | 1, _, _ => rfl
    | 2, _, _ => rfl
    | 3, _, _ => rfl
    | 4, _, _ => rfl
    | 5, _, _ => rfl
    | 6, _, _ => rfl
    | 7, _, _ => rfl
    | 8, _, _ => rfl
    | 9, _, _ => rfl
  rw [e]
  have : (((48 + k : Nat)) : Int) = 48 + (k : Int) := by omega
  rw [this]
  have hn : ((48 + (k : Int))).toNat = 48 + k := by omega
  have hv : Utf8.valid (48 + (k : Int)) = true := by simp [Utf8.valid]; omega
  have hlt : 48 + k < 128 := by omega
  simp [Utf8.encode, strOfNums, hn, hv, hlt]
set_option maxHeartbeats 2000000 in
set_option maxRecDepth 100000 in
theorem digits1_step (D : Int → ByteArray) (hD0 : ∀ u, 0 ≤ u → u < 10 → D u = strOfNums [48 + u % 10]) (hD1 : ∀ u, 10 ≤ u → D u = D (u / 10) ++ strOfNums [48 + u % 10]) (g : Nat) (u : Int) (h0 : 0 ≤ u) (h1 : u < 18446744073709551616) (hsz : (D (u / 10)).size ≤ 100) (w : World) (hg : w.heap[g]? = some (.cells #[.func (.func 89) #[] #[.pointer (some ⟨g, 0, none⟩)]] 88 (0, 0)))
    (ih : 10 ≤ u → Calls Try.prog 89 #[.int .u64 (u / 10), .pointer (some ⟨g, 0, none⟩)] w fun e w' => e = .returned (.string (D (u / 10))) ∧ Below w.heap.size w w') :
    Calls Try.prog 89 #[.int .u64 u, .pointer (some ⟨g, 0, none⟩)] w fun e w' => e = .returned (.string (D u)) ∧ Below w.heap.size w w' := by
  have hc : w.cell? ⟨g, 0, none⟩ = some (Value.func (.func 89) #[] #[.pointer (some ⟨g, 0, none⟩)]) := by exact (blk_cell hg 0).trans rfl
  replace ih := Aside0.mk ih
  replace hg := Aside0.mk hg
  replace hc := Aside0.mk hc
  replace hD0 := Aside0.mk hD0
  replace hD1 := Aside0.mk hD1
  replace hsz := Aside0.mk hsz
  have hs1 : ∀ s1, (∃ h', Utf8.encode ((((ByteArray.mk #[48, 49, 50, 51, 52, 53, 54, 55, 56, 57])[(u % 10).toNat]'h').toNat : Nat) : Int) = s1) → s1 = strOfNums [48 + u % 10] := fun s1 ⟨h', e⟩ => by
    rw [← e, enc_dig _ (by omega) h', Int.toNat_of_nonneg (by omega)]
  replace hs1 := Aside0.mk hs1
  go_enter Try.func89, Try.ntmps89
  go_wp2
  all_goals try (exfalso; have h2 := hc.out; rename_i hz _ _ _ _; rw [h2] at hz; cases hz; done)
  all_goals try (exfalso; have h2 := hc.out; rename_i hz _ _ _; rw [h2] at hz; cases hz; done)
  case h_1 =>
    rename_i hv
    have h2 := hc.out; rw [h2] at hv; injection hv with hv; subst hv
    clear h2
    simp only [Result.andThen_ok, Oper.upon_value, Act.put]
    repeat go_step
    have h10 : 10 ≤ u := by omega
    refine (ih.out h10).mono ?_
    rintro e w' ⟨rfl, hB⟩
    simp only []
    generalize hs : Utf8.encode _ = s1
    replace hs := Aside0.mk (hs1.out s1 ⟨_, hs⟩)
    have hz : (D (u / 10)).size + s1.size ≤ 200 := by
      rw [hs.out, strOfNums_size]; have := hsz.out; simp; omega
    have hfin : D (u / 10) ++ s1 = D u := by rw [hs.out, hD1.out u h10]
    replace hfin := Aside0.mk hfin
    generalize D (u / 10) = s0 at *
    repeat go_step
    all_goals try (exfalso; rename_i h; omega)
    go_wp2
    go_ret
    exact ⟨by rw [hfin.out]; rfl, hB⟩
  · generalize hs : Utf8.encode _ = s1
    replace hs := Aside0.mk (hs1.out s1 ⟨_, hs⟩)
    have hfin : s1 = D u := by rw [hs.out, hD0.out u h0 (by assumption)]
    replace hfin := Aside0.mk hfin
    go_ret
    exact ⟨by rw [hfin.out]; rfl, Below.refl _ _⟩
/-- The decimal digits of a number. -/
def decN (n : Nat) : List Int := if n < 10 then [48 + (n : Int)] else decN (n / 10) ++ [48 + ((n % 10 : Nat) : Int)]
termination_by n
decreasing_by omega
def dec (u : Int) : List Int := decN u.toNat
theorem decN_len : ∀ (k n : Nat), n < 10 ^ (k + 1) → (decN n).length ≤ k + 1 := by
  intro k
  induction k with
  | zero => intro n h; unfold decN; rw [if_pos (by omega)]; simp
  | succ k ih =>
    intro n h
    unfold decN
    split
    · simp
    · have := ih (n / 10) (by rw [Nat.div_lt_iff_lt_mul (by omega)]; rw [Nat.pow_succ] at h; exact h)
      simp; omega
theorem dec_len (u : Int) (h : u < 18446744073709551616) : (dec u).length ≤ 20 := decN_len 19 _ (by omega)
theorem dec_lt (u : Int) (h0 : 0 ≤ u) (h : u < 10) : strOfNums (dec u) = strOfNums [48 + u % 10] := by
  unfold dec decN
  rw [if_pos (by omega)]
  congr 2; omega
theorem dec_ge (u : Int) (h : 10 ≤ u) : strOfNums (dec u) = strOfNums (dec (u / 10)) ++ strOfNums [48 + u % 10] := by
  have e : dec u = dec (u / 10) ++ [48 + u % 10] := by
    have e1 : u.toNat / 10 = (u / 10).toNat := by omega
    have e2 : ((u.toNat % 10 : Nat) : Int) = u % 10 := by omega
    rw [dec, decN, if_neg (by omega), e1, e2]; rfl
  rw [e]
  apply ByteArray.ext
  simp [strOfNums, ByteArray.data_append]
theorem digits1 (g : Nat) : ∀ (k : Nat) (u : Int) (h0 : 0 ≤ u) (h1 : u < 18446744073709551616) (hk : u.toNat ≤ k) (w : World) (hg : w.heap[g]? = some (.cells #[.func (.func 89) #[] #[.pointer (some ⟨g, 0, none⟩)]] 88 (0, 0))),
    Calls Try.prog 89 #[.int .u64 u, .pointer (some ⟨g, 0, none⟩)] w fun e w' => e = .returned (.string (strOfNums (dec u))) ∧ Below w.heap.size w w' := by
  intro k
  induction k with
  | zero =>
    intro u h0 h1 hk w hg
    exact digits1_step (fun u => strOfNums (dec u)) dec_lt dec_ge g u h0 h1 (by rw [strOfNums_size]; have := dec_len (u / 10) (by omega); omega) w hg (fun h => by omega)
  | succ k ih =>
    intro u h0 h1 hk w hg
    exact digits1_step (fun u => strOfNums (dec u)) dec_lt dec_ge g u h0 h1 (by rw [strOfNums_size]; have := dec_len (u / 10) (by omega); omega) w hg (fun h => ih (u / 10) (by omega) (by omega) (by omega) w hg)
theorem digits_store (w : World) : ∃ W1, Sem.run Try.prog (store { block := w.heap.size, off := 0 } (Value.func (Fn.func 89) #[] #[Value.pointer (some { block := w.heap.size, off := 0 })])) (w.alloc (Obj.cells #[Value.nilFunc] 88)) = .ok () W1 ∧ W1.heap[w.heap.size]? = some (.cells #[.func (.func 89) #[] #[.pointer (some ⟨w.heap.size, 0, none⟩)]] 88 (0, 0)) ∧ Below w.heap.size w W1 := by
  have hh : (w.alloc (Obj.cells #[Value.nilFunc] 88)).heap[w.heap.size]? = some (Obj.cells #[Value.nilFunc] 88 (0, 0)) := by
    show (w.heap.push _)[w.heap.size]? = _
    simp
  refine ⟨(w.alloc (Obj.cells #[Value.nilFunc] 88)).setCell ⟨w.heap.size, 0, none⟩ (Value.func (Fn.func 89) #[] #[Value.pointer (some { block := w.heap.size, off := 0 })]), ?_, ?_, ?_⟩
  · have h1 : (w.alloc (Obj.cells #[Value.nilFunc] 88)).cell? ⟨w.heap.size, 0, none⟩ = some Value.nilFunc := by unfold World.cell?; dsimp only; rw [hh]; rfl
    have h2 : (w.alloc (Obj.cells #[Value.nilFunc] 88)).frozen? ⟨w.heap.size, 0, none⟩ = false := by unfold World.frozen?; dsimp only; rw [hh]; rfl
    rw [run_store _ _ _ _ _ rfl, h1]
    simp only [h2]
    rfl
  · show (Array.modify _ _ _)[w.heap.size]? = _
    rw [Array.getElem?_modify, if_pos rfl, hh]; rfl
  · exact (Below.alloc (Below.refl _ w) (Nat.le_refl _) _).setCell (p := ⟨w.heap.size, 0, none⟩) (Nat.le_refl _) _
set_option maxHeartbeats 2000000 in
set_option maxRecDepth 100000 in
theorem digits_calls (u : Int) (h0 : 0 ≤ u) (h1 : u < 18446744073709551616) (w : World) :
    Calls Try.prog 78 #[.int .u64 u] w fun e w' => e = .returned (.string (strOfNums (dec u))) ∧ Below w.heap.size w w' := by
  go_enter Try.func78, Try.ntmps78
  go_wp2
  obtain ⟨W1, hst, hg, hB⟩ := digits_store w
  rw [hst]
  simp only [Result.andThen_ok, Oper.upon_value, Act.put]
  have hc : W1.cell? ⟨w.heap.size, 0, none⟩ = some (Value.func (.func 89) #[] #[.pointer (some ⟨w.heap.size, 0, none⟩)]) := by exact (blk_cell hg 0).trans rfl
  have hd := digits1 w.heap.size _ u h0 h1 (Nat.le_refl _) W1 hg
  clear hst
  replace hg := Aside0.mk hg
  replace hd := Aside0.mk hd
  replace hc := Aside0.mk hc
  replace hB := Aside0.mk hB
  go_wp2
  all_goals try (exfalso; have h2 := hc.out; rename_i hz _ _ _ _; rw [h2] at hz; cases hz; done)
  all_goals try (exfalso; have h2 := hc.out; rename_i hz _ _ _; rw [h2] at hz; cases hz; done)
  all_goals try (exfalso; have h2 := hc.out; rename_i hz _ _; rw [h2] at hz; cases hz; done)
  case h_1 =>
    rename_i hv
    have h2 := hc.out; rw [h2] at hv; injection hv with hv; subst hv
    clear h2
    simp only [Result.andThen_ok, Oper.upon_value, Act.put]
    repeat go_step
    refine hd.out.mono ?_
    rintro e w' ⟨rfl, hB2⟩
    generalize hs0 : strOfNums (dec u) = s0
    repeat go_step
    go_wp2
    go_ret
    exact ⟨by rw [hs0]; rfl, hB.out.trans (hB2.mono hB.out.size)⟩
end Go.Proofs.Ytjcabmhnekcbgaa.G
namespace Go.Proofs.Ytjcabmhnekcbgaa
open Go.Ab Go.RowKit Go.Proofs.Ytjcabmhnekcbgaa.G
open Classical
noncomputable def d78 (a0 : Int) : Option ByteArray := if 0 ≤ a0 ∧ a0 < 18446744073709551616 then some (strOfNums (dec a0)) else none
theorem w78 (a0 : Int) (r : ByteArray) (h : d78 a0 = some r) : Ab.Fn Try.prog TT 78 [.i .u64 a0] (.str r) [] := by
  unfold d78 at h
  split at h <;> cases h
  rename_i hr
  intro w S vals hold hrel
  have hv : vals = [.int .u64 a0] := by
    simp only [relL, rel] at hrel
    obtain ⟨_, _, rfl, e1, rfl⟩ := hrel
    rw [e1]
  subst hv
  refine .inl ⟨body_of Try.func78 (by kernel_rfl) (by kernel_rfl), Calls.weaken (digits_calls a0 hr.1 hr.2 w) (fun e w' ⟨e1, e2⟩ => ?_)⟩
  exact ⟨_, fun _ => none, S, e1, since_of e2, HOk.empty (fun k hk => Nat.lt_of_lt_of_le (hold k hk) e2.size), by simp [rel], fun k hk => .inl hk⟩
noncomputable def d82 (a0 : Int) (a1 : Int) (a2 : Int) : Option (Int × Int) := if 0 ≤ a0 ∧ 0 ≤ a1 ∧ 0 ≤ a2 ∧ a2 ≤ 1 then some ((a0 + a1 + a2) % 18446744073709551616, (a0 + a1 + a2) / 18446744073709551616) else none
theorem w82 (a0 : Int) (a1 : Int) (a2 : Int) (r : Int × Int) (h : d82 a0 a1 a2 = some r) : Ab.Fn Try.prog TT 82 [.i .u64 a0, .i .u64 a1, .i .u64 a2] (.tup [.i .u64 r.1, .i .u64 r.2]) [] := by
  unfold d82 at h
  split at h <;> cases h
  rename_i hr
  intro w S vals hold hrel
  have hv : vals = [.int .u64 a0, .int .u64 a1, .int .u64 a2] := by
    simp only [relL, rel] at hrel
    obtain ⟨_, _, rfl, e1, _, _, rfl, e2, _, _, rfl, e3, rfl⟩ := hrel
    rw [e1, e2, e3]
  subst hv
  have hx := run_callFunc_extern (P := Try.prog) Try.func82 (by kernel_rfl) (by kernel_rfl) (by kernel_rfl) (e := add64Entry) (by kernel_rfl) #[.int .u64 a0, .int .u64 a1, .int .u64 a2] w
  rw [run_add64 a0 a1 a2 hr.1 hr.2.1 hr.2.2.1 hr.2.2.2] at hx
  refine .inr ⟨_, w, hx, _, fun _ => none, S, rfl, since_of (Below.refl _ _), HOk.empty hold, ?_, fun k hk => .inl hk⟩
  simp only [rel, relL]
  exact ⟨_, rfl, _, _, rfl, rfl, _, _, rfl, rfl, rfl⟩
end Go.Proofs.Ytjcabmhnekcbgaa
end
section
namespace Go.Proofs.Ytjcabmhnekcbgaa
open Go.Ab Go.RowKit 
set_option maxRecDepth 100000
set_option maxHeartbeats 4000000
noncomputable def d27 (a0 : Int) (a1 : Bool) : Option (Int × Bool) :=
  some (a0, a1)
noncomputable def w27_c : Code := (Try.f27.body).getD .skip
theorem w27_h : Try.f27.body = some w27_c := by kernel_rfl
theorem w27 (a0 : Int) (a1 : Bool) (r : Int × Bool) (h : d27 a0 a1 = some r) : Ab.Fn Try.prog TT 27 [.i .i64 a0, .b a1] (.agg [.i .i64 r.1, .b r.2]) [] := by
  refine fn_pure tok W0 Try.func27 (by kernel_rfl) w27_h (by kernel_rfl) ?_
  intro ar un cv mn mx pl mi cmp nt beq an scmp cat slen sbyte ssub ofB toB len gi gb gs gl sub put app ovl rep ne0 ge0 inb bnd room sroom need br call loop cut nl E R K hK
  have D := E.D
  clear E
  unfold d27 at h
  cbv
  have e := ret_some h; clear h
  refine hK _ _ ?_
  cbv
  try (subst e; simp only [and_self, and_true, true_and] <;> (repeat' apply And.intro) <;> rfl)

noncomputable def d52 (a0 : Int) : Option (Int) :=
  some (wrapK .i64 (wrapK .i8 a0))
noncomputable def w52_c : Code := (Try.f52.body).getD .skip
theorem w52_h : Try.f52.body = some w52_c := by kernel_rfl
theorem w52 (a0 : Int) (r : Int) (h : d52 a0 = some r) : Ab.Fn Try.prog TT 52 [.i .i64 a0] (.i .i64 r) [] := by
  refine fn_pure tok W0 Try.func52 (by kernel_rfl) w52_h (by kernel_rfl) ?_
  intro ar un cv mn mx pl mi cmp nt beq an scmp cat slen sbyte ssub ofB toB len gi gb gs gl sub put app ovl rep ne0 ge0 inb bnd room sroom need br call loop cut nl E R K hK
  have D := E.D
  clear E
  unfold d52 at h
  cbv
  have e := ret_some h; clear h
  refine hK _ _ ?_
  cbv
  try (subst e; simp only [D.hcv, and_self, and_true, true_and] <;> (repeat' apply And.intro) <;> rfl)

noncomputable def d53 (a0 : Int) : Option (Int) :=
  some (wrapK .i64 (wrapK .u8 a0))
noncomputable def w53_c : Code := (Try.f53.body).getD .skip
theorem w53_h : Try.f53.body = some w53_c := by kernel_rfl
theorem w53 (a0 : Int) (r : Int) (h : d53 a0 = some r) : Ab.Fn Try.prog TT 53 [.i .i64 a0] (.i .i64 r) [] := by
  refine fn_pure tok W0 Try.func53 (by kernel_rfl) w53_h (by kernel_rfl) ?_
  intro ar un cv mn mx pl mi cmp nt beq an scmp cat slen sbyte ssub ofB toB len gi gb gs gl sub put app ovl rep ne0 ge0 inb bnd room sroom need br call loop cut nl E R K hK
  have D := E.D
  clear E
  unfold d53 at h
  cbv
  have e := ret_some h; clear h
  refine hK _ _ ?_
  cbv
  try (subst e; simp only [D.hcv, and_self, and_true, true_and] <;> (repeat' apply And.intro) <;> rfl)

noncomputable def d54 (a0 : Int) : Option (Int) :=
  some (wrapK .i64 (wrapK .i16 a0))
noncomputable def w54_c : Code := (Try.f54.body).getD .skip
theorem w54_h : Try.f54.body = some w54_c := by kernel_rfl
theorem w54 (a0 : Int) (r : Int) (h : d54 a0 = some r) : Ab.Fn Try.prog TT 54 [.i .i64 a0] (.i .i64 r) [] := by
  refine fn_pure tok W0 Try.func54 (by kernel_rfl) w54_h (by kernel_rfl) ?_
  intro ar un cv mn mx pl mi cmp nt beq an scmp cat slen sbyte ssub ofB toB len gi gb gs gl sub put app ovl rep ne0 ge0 inb bnd room sroom need br call loop cut nl E R K hK
  have D := E.D
  clear E
  unfold d54 at h
  cbv
  have e := ret_some h; clear h
  refine hK _ _ ?_
  cbv
  try (subst e; simp only [D.hcv, and_self, and_true, true_and] <;> (repeat' apply And.intro) <;> rfl)

noncomputable def d55 (a0 : Int) : Option (Int) :=
  some (wrapK .i64 (wrapK .u16 a0))
noncomputable def w55_c : Code := (Try.f55.body).getD .skip
theorem w55_h : Try.f55.body = some w55_c := by kernel_rfl
theorem w55 (a0 : Int) (r : Int) (h : d55 a0 = some r) : Ab.Fn Try.prog TT 55 [.i .i64 a0] (.i .i64 r) [] := by
  refine fn_pure tok W0 Try.func55 (by kernel_rfl) w55_h (by kernel_rfl) ?_
  intro ar un cv mn mx pl mi cmp nt beq an scmp cat slen sbyte ssub ofB toB len gi gb gs gl sub put app ovl rep ne0 ge0 inb bnd room sroom need br call loop cut nl E R K hK
  have D := E.D
  clear E
  unfold d55 at h
  cbv
  have e := ret_some h; clear h
  refine hK _ _ ?_
  cbv
  try (subst e; simp only [D.hcv, and_self, and_true, true_and] <;> (repeat' apply And.intro) <;> rfl)

noncomputable def d56 (a0 : Int) : Option (Int) :=
  some (wrapK .i64 (wrapK .i32 a0))
noncomputable def w56_c : Code := (Try.f56.body).getD .skip
theorem w56_h : Try.f56.body = some w56_c := by kernel_rfl
theorem w56 (a0 : Int) (r : Int) (h : d56 a0 = some r) : Ab.Fn Try.prog TT 56 [.i .i64 a0] (.i .i64 r) [] := by
  refine fn_pure tok W0 Try.func56 (by kernel_rfl) w56_h (by kernel_rfl) ?_
  intro ar un cv mn mx pl mi cmp nt beq an scmp cat slen sbyte ssub ofB toB len gi gb gs gl sub put app ovl rep ne0 ge0 inb bnd room sroom need br call loop cut nl E R K hK
  have D := E.D
  clear E
  unfold d56 at h
  cbv
  have e := ret_some h; clear h
  refine hK _ _ ?_
  cbv
  try (subst e; simp only [D.hcv, and_self, and_true, true_and] <;> (repeat' apply And.intro) <;> rfl)

noncomputable def d57 (a0 : Int) : Option (Int) :=
  some (wrapK .i64 (wrapK .u32 a0))
noncomputable def w57_c : Code := (Try.f57.body).getD .skip
theorem w57_h : Try.f57.body = some w57_c := by kernel_rfl
theorem w57 (a0 : Int) (r : Int) (h : d57 a0 = some r) : Ab.Fn Try.prog TT 57 [.i .i64 a0] (.i .i64 r) [] := by
  refine fn_pure tok W0 Try.func57 (by kernel_rfl) w57_h (by kernel_rfl) ?_
  intro ar un cv mn mx pl mi cmp nt beq an scmp cat slen sbyte ssub ofB toB len gi gb gs gl sub put app ovl rep ne0 ge0 inb bnd room sroom need br call loop cut nl E R K hK
  have D := E.D
  clear E
  unfold d57 at h
  cbv
  have e := ret_some h; clear h
  refine hK _ _ ?_
  cbv
  try (subst e; simp only [D.hcv, and_self, and_true, true_and] <;> (repeat' apply And.intro) <;> rfl)

noncomputable def d58 (a0 : Int) : Option (Int) :=
  some a0
noncomputable def w58_c : Code := (Try.f58.body).getD .skip
theorem w58_h : Try.f58.body = some w58_c := by kernel_rfl
theorem w58 (a0 : Int) (r : Int) (h : d58 a0 = some r) : Ab.Fn Try.prog TT 58 [.i .i64 a0] (.i .i64 r) [] := by
  refine fn_pure tok W0 Try.func58 (by kernel_rfl) w58_h (by kernel_rfl) ?_
  intro ar un cv mn mx pl mi cmp nt beq an scmp cat slen sbyte ssub ofB toB len gi gb gs gl sub put app ovl rep ne0 ge0 inb bnd room sroom need br call loop cut nl E R K hK
  have D := E.D
  clear E
  unfold d58 at h
  cbv
  have e := ret_some h; clear h
  refine hK _ _ ?_
  cbv
  try (subst e; simp only [and_self, and_true, true_and] <;> (repeat' apply And.intro) <;> rfl)

noncomputable def d59 (a0 : Int) : Option (Int) :=
  some (wrapK .i64 (wrapK .u64 a0))
noncomputable def w59_c : Code := (Try.f59.body).getD .skip
theorem w59_h : Try.f59.body = some w59_c := by kernel_rfl
theorem w59 (a0 : Int) (r : Int) (h : d59 a0 = some r) : Ab.Fn Try.prog TT 59 [.i .i64 a0] (.i .i64 r) [] := by
  refine fn_pure tok W0 Try.func59 (by kernel_rfl) w59_h (by kernel_rfl) ?_
  intro ar un cv mn mx pl mi cmp nt beq an scmp cat slen sbyte ssub ofB toB len gi gb gs gl sub put app ovl rep ne0 ge0 inb bnd room sroom need br call loop cut nl E R K hK
  have D := E.D
  clear E
  unfold d59 at h
  cbv
  have e := ret_some h; clear h
  refine hK _ _ ?_
  cbv
  try (subst e; simp only [D.hcv, and_self, and_true, true_and] <;> (repeat' apply And.intro) <;> rfl)

noncomputable def d10 (a0_0 : Int) (a0_1 : Bool) : Option (Int) :=
  (d29).bind fun x2 =>
  if (andB' (cmpLit .eql a0_0 1) (beqB a0_1 true)) = true then
    some 0
  else
    if (andB' (cmpLit .eql a0_0 1) (beqB a0_1 false)) = true then
      some 0
    else
      if (andB' (cmpLit .eql a0_0 2) (beqB a0_1 true)) = true then
        some 0
      else
        if (andB' (cmpLit .eql a0_0 2) (beqB a0_1 false)) = true then
          some 0
        else
          if (andB' (cmpLit .eql a0_0 4) (beqB a0_1 true)) = true then
            some 0
          else
            if (andB' (cmpLit .eql a0_0 4) (beqB a0_1 false)) = true then
              some 0
            else
              if (andB' (cmpLit .eql a0_0 8) (beqB a0_1 true)) = true then
                some 0
              else
                if (andB' (cmpLit .eql a0_0 8) (beqB a0_1 false)) = true then
                  some 0
                else
                  some 10
noncomputable def w10_c : Code := (Try.f10.body).getD .skip
theorem w10_h : Try.f10.body = some w10_c := by kernel_rfl
theorem w10 (a0_0 : Int) (a0_1 : Bool) (r : Int) (h : d10 a0_0 a0_1 = some r) : Ab.Fn Try.prog TT 10 [.agg [.i .i64 a0_0, .b a0_1]] (.i .i64 r) [] := by
  refine fn_pure tok (fun r => match r with | 1 => [[],[],[0,1],[0,1,2],[0,1,2,3],[0,1,2,3],[0,1,2,3,4],[0,1,2,3,4,5,6]] | _ => []) Try.func10 (by kernel_rfl) w10_h (by kernel_rfl) ?_
  intro ar un cv mn mx pl mi cmp nt beq an scmp cat slen sbyte ssub ofB toB len gi gb gs gl sub put app ovl rep ne0 ge0 inb bnd room sroom need br call loop cut nl E R K hK
  have D := E.D
  clear E
  unfold d10 at h
  cbv
  refine R.cut' (by kernel_rfl) (by kernel_rfl) ?_
  cbv
  refine R.callD h (fun x2 hx2 h2 => ?_)
  clear h; have h := h2; clear h2
  refine R.call' (w29 _ hx2) (by (first | rfl | (simp only [D.han, D.hbeq, D.hcmp]; done) | (simp only [D.han, D.hbeq, D.hcmp]; rfl))) ?_
  clear hx2; cbv
  refine R.brD h (by (first | rfl | (simp only [D.han, D.hbeq, D.hcmp]; done) | (simp only [D.han, D.hbeq, D.hcmp]; rfl))) ?_ ?_ <;> clear h <;> intro h <;> cbv
  · have e := ret_some h; clear h
    refine hK _ _ ?_
    cbv
    try (subst e; simp only [D.han, D.hbeq, D.hcmp, and_self, and_true, true_and] <;> (repeat' apply And.intro) <;> rfl)
  · refine R.brD h (by (first | rfl | (simp only [D.han, D.hbeq, D.hcmp]; done) | (simp only [D.han, D.hbeq, D.hcmp]; rfl))) ?_ ?_ <;> clear h <;> intro h <;> cbv
    · have e := ret_some h; clear h
      refine hK _ _ ?_
      cbv
      try (subst e; simp only [D.han, D.hbeq, D.hcmp, and_self, and_true, true_and] <;> (repeat' apply And.intro) <;> rfl)
    · refine R.brD h (by (first | rfl | (simp only [D.han, D.hbeq, D.hcmp]; done) | (simp only [D.han, D.hbeq, D.hcmp]; rfl))) ?_ ?_ <;> clear h <;> intro h <;> cbv
      · have e := ret_some h; clear h
        refine hK _ _ ?_
        cbv
        try (subst e; simp only [D.han, D.hbeq, D.hcmp, and_self, and_true, true_and] <;> (repeat' apply And.intro) <;> rfl)
      · refine R.brD h (by (first | rfl | (simp only [D.han, D.hbeq, D.hcmp]; done) | (simp only [D.han, D.hbeq, D.hcmp]; rfl))) ?_ ?_ <;> clear h <;> intro h <;> cbv
        · have e := ret_some h; clear h
          refine hK _ _ ?_
          cbv
          try (subst e; simp only [D.han, D.hbeq, D.hcmp, and_self, and_true, true_and] <;> (repeat' apply And.intro) <;> rfl)
        · refine R.brD h (by (first | rfl | (simp only [D.han, D.hbeq, D.hcmp]; done) | (simp only [D.han, D.hbeq, D.hcmp]; rfl))) ?_ ?_ <;> clear h <;> intro h <;> cbv
          · have e := ret_some h; clear h
            refine hK _ _ ?_
            cbv
            try (subst e; simp only [D.han, D.hbeq, D.hcmp, and_self, and_true, true_and] <;> (repeat' apply And.intro) <;> rfl)
          · refine R.brD h (by (first | rfl | (simp only [D.han, D.hbeq, D.hcmp]; done) | (simp only [D.han, D.hbeq, D.hcmp]; rfl))) ?_ ?_ <;> clear h <;> intro h <;> cbv
            · have e := ret_some h; clear h
              refine hK _ _ ?_
              cbv
              try (subst e; simp only [D.han, D.hbeq, D.hcmp, and_self, and_true, true_and] <;> (repeat' apply And.intro) <;> rfl)
            · refine R.brD h (by (first | rfl | (simp only [D.han, D.hbeq, D.hcmp]; done) | (simp only [D.han, D.hbeq, D.hcmp]; rfl))) ?_ ?_ <;> clear h <;> intro h <;> cbv
              · have e := ret_some h; clear h
                refine hK _ _ ?_
                cbv
                try (subst e; simp only [D.han, D.hbeq, D.hcmp, and_self, and_true, true_and] <;> (repeat' apply And.intro) <;> rfl)
              · refine R.brD h (by (first | rfl | (simp only [D.han, D.hbeq, D.hcmp]; done) | (simp only [D.han, D.hbeq, D.hcmp]; rfl))) ?_ ?_ <;> clear h <;> intro h <;> cbv
                · have e := ret_some h; clear h
                  refine hK _ _ ?_
                  cbv
                  try (subst e; simp only [D.han, D.hbeq, D.hcmp, and_self, and_true, true_and] <;> (repeat' apply And.intro) <;> rfl)
                · have e := ret_some h; clear h
                  refine hK _ _ ?_
                  cbv
                  try (subst e; simp only [D.han, D.hbeq, D.hcmp, and_self, and_true, true_and] <;> (repeat' apply And.intro) <;> rfl)

noncomputable def d32 (a0_0 : Int) (a0_1 : Bool) (a1 : Int) : Option (Int) :=
  (d29).bind fun x1 =>
  if (andB' (cmpLit .eql a0_0 1) (beqB a0_1 true)) = true then
    (d52 a1).bind fun x2 =>
    some x2
  else
    if (andB' (cmpLit .eql a0_0 1) (beqB a0_1 false)) = true then
      (d53 a1).bind fun x3 =>
      some x3
    else
      if (andB' (cmpLit .eql a0_0 2) (beqB a0_1 true)) = true then
        (d54 a1).bind fun x4 =>
        some x4
      else
        if (andB' (cmpLit .eql a0_0 2) (beqB a0_1 false)) = true then
          (d55 a1).bind fun x5 =>
          some x5
        else
          if (andB' (cmpLit .eql a0_0 4) (beqB a0_1 true)) = true then
            (d56 a1).bind fun x6 =>
            some x6
          else
            if (andB' (cmpLit .eql a0_0 4) (beqB a0_1 false)) = true then
              (d57 a1).bind fun x7 =>
              some x7
            else
              if (andB' (cmpLit .eql a0_0 8) (beqB a0_1 true)) = true then
                (d58 a1).bind fun x8 =>
                some x8
              else
                if (andB' (cmpLit .eql a0_0 8) (beqB a0_1 false)) = true then
                  (d59 a1).bind fun x9 =>
                  some x9
                else
                  none
noncomputable def w32_c : Code := (Try.f32.body).getD .skip
theorem w32_h : Try.f32.body = some w32_c := by kernel_rfl
theorem w32 (a0_0 : Int) (a0_1 : Bool) (a1 : Int) (r : Int) (h : d32 a0_0 a0_1 a1 = some r) : Ab.Fn Try.prog TT 32 [.agg [.i .i64 a0_0, .b a0_1], .i .i64 a1] (.i .i64 r) [] := by
  refine fn_pure tok (fun r => match r with | 1 => [[],[],[0,1],[],[0,1,2,3],[0,1,2,3,4]] | _ => []) Try.func32 (by kernel_rfl) w32_h (by kernel_rfl) ?_
  intro ar un cv mn mx pl mi cmp nt beq an scmp cat slen sbyte ssub ofB toB len gi gb gs gl sub put app ovl rep ne0 ge0 inb bnd room sroom need br call loop cut nl E R K hK
  have D := E.D
  clear E
  unfold d32 at h
  cbv
  refine R.callD h (fun x1 hx1 h2 => ?_)
  clear h; have h := h2; clear h2
  refine R.call' (w29 _ hx1) (by (first | rfl | (simp only [D.han, D.hbeq, D.hcmp]; done) | (simp only [D.han, D.hbeq, D.hcmp]; rfl))) ?_
  clear hx1; cbv
  refine R.brD h (by (first | rfl | (simp only [D.han, D.hbeq, D.hcmp]; done) | (simp only [D.han, D.hbeq, D.hcmp]; rfl))) ?_ ?_ <;> clear h <;> intro h <;> cbv
  · refine R.callD h (fun x2 hx2 h2 => ?_)
    clear h; have h := h2; clear h2
    refine R.call' (w52 _ _ hx2) (by (first | rfl | (simp only [D.han, D.hbeq, D.hcmp]; done) | (simp only [D.han, D.hbeq, D.hcmp]; rfl))) ?_
    clear hx2; cbv
    have e := ret_some h; clear h
    refine hK _ _ ?_
    cbv
    try (subst e; simp only [D.han, D.hbeq, D.hcmp, and_self, and_true, true_and] <;> (repeat' apply And.intro) <;> rfl)
  · refine R.brD h (by (first | rfl | (simp only [D.han, D.hbeq, D.hcmp]; done) | (simp only [D.han, D.hbeq, D.hcmp]; rfl))) ?_ ?_ <;> clear h <;> intro h <;> cbv
    · refine R.callD h (fun x3 hx3 h2 => ?_)
      clear h; have h := h2; clear h2
      refine R.call' (w53 _ _ hx3) (by (first | rfl | (simp only [D.han, D.hbeq, D.hcmp]; done) | (simp only [D.han, D.hbeq, D.hcmp]; rfl))) ?_
      clear hx3; cbv
      have e := ret_some h; clear h
      refine hK _ _ ?_
      cbv
      try (subst e; simp only [D.han, D.hbeq, D.hcmp, and_self, and_true, true_and] <;> (repeat' apply And.intro) <;> rfl)
    · refine R.brD h (by (first | rfl | (simp only [D.han, D.hbeq, D.hcmp]; done) | (simp only [D.han, D.hbeq, D.hcmp]; rfl))) ?_ ?_ <;> clear h <;> intro h <;> cbv
      · refine R.callD h (fun x4 hx4 h2 => ?_)
        clear h; have h := h2; clear h2
        refine R.call' (w54 _ _ hx4) (by (first | rfl | (simp only [D.han, D.hbeq, D.hcmp]; done) | (simp only [D.han, D.hbeq, D.hcmp]; rfl))) ?_
        clear hx4; cbv
        have e := ret_some h; clear h
        refine hK _ _ ?_
        cbv
        try (subst e; simp only [D.han, D.hbeq, D.hcmp, and_self, and_true, true_and] <;> (repeat' apply And.intro) <;> rfl)
      · refine R.brD h (by (first | rfl | (simp only [D.han, D.hbeq, D.hcmp]; done) | (simp only [D.han, D.hbeq, D.hcmp]; rfl))) ?_ ?_ <;> clear h <;> intro h <;> cbv
        · refine R.callD h (fun x5 hx5 h2 => ?_)
          clear h; have h := h2; clear h2
          refine R.call' (w55 _ _ hx5) (by (first | rfl | (simp only [D.han, D.hbeq, D.hcmp]; done) | (simp only [D.han, D.hbeq, D.hcmp]; rfl))) ?_
          clear hx5; cbv
          have e := ret_some h; clear h
          refine hK _ _ ?_
          cbv
          try (subst e; simp only [D.han, D.hbeq, D.hcmp, and_self, and_true, true_and] <;> (repeat' apply And.intro) <;> rfl)
        · refine R.brD h (by (first | rfl | (simp only [D.han, D.hbeq, D.hcmp]; done) | (simp only [D.han, D.hbeq, D.hcmp]; rfl))) ?_ ?_ <;> clear h <;> intro h <;> cbv
          · refine R.callD h (fun x6 hx6 h2 => ?_)
            clear h; have h := h2; clear h2
            refine R.call' (w56 _ _ hx6) (by (first | rfl | (simp only [D.han, D.hbeq, D.hcmp]; done) | (simp only [D.han, D.hbeq, D.hcmp]; rfl))) ?_
            clear hx6; cbv
            have e := ret_some h; clear h
            refine hK _ _ ?_
            cbv
            try (subst e; simp only [D.han, D.hbeq, D.hcmp, and_self, and_true, true_and] <;> (repeat' apply And.intro) <;> rfl)
          · refine R.brD h (by (first | rfl | (simp only [D.han, D.hbeq, D.hcmp]; done) | (simp only [D.han, D.hbeq, D.hcmp]; rfl))) ?_ ?_ <;> clear h <;> intro h <;> cbv
            · refine R.callD h (fun x7 hx7 h2 => ?_)
              clear h; have h := h2; clear h2
              refine R.call' (w57 _ _ hx7) (by (first | rfl | (simp only [D.han, D.hbeq, D.hcmp]; done) | (simp only [D.han, D.hbeq, D.hcmp]; rfl))) ?_
              clear hx7; cbv
              have e := ret_some h; clear h
              refine hK _ _ ?_
              cbv
              try (subst e; simp only [D.han, D.hbeq, D.hcmp, and_self, and_true, true_and] <;> (repeat' apply And.intro) <;> rfl)
            · refine R.brD h (by (first | rfl | (simp only [D.han, D.hbeq, D.hcmp]; done) | (simp only [D.han, D.hbeq, D.hcmp]; rfl))) ?_ ?_ <;> clear h <;> intro h <;> cbv
              · refine R.callD h (fun x8 hx8 h2 => ?_)
                clear h; have h := h2; clear h2
                refine R.call' (w58 _ _ hx8) (by (first | rfl | (simp only [D.han, D.hbeq, D.hcmp]; done) | (simp only [D.han, D.hbeq, D.hcmp]; rfl))) ?_
                clear hx8; cbv
                have e := ret_some h; clear h
                refine hK _ _ ?_
                cbv
                try (subst e; simp only [D.han, D.hbeq, D.hcmp, and_self, and_true, true_and] <;> (repeat' apply And.intro) <;> rfl)
              · refine R.brD h (by (first | rfl | (simp only [D.han, D.hbeq, D.hcmp]; done) | (simp only [D.han, D.hbeq, D.hcmp]; rfl))) ?_ ?_ <;> clear h <;> intro h <;> cbv
                · refine R.callD h (fun x9 hx9 h2 => ?_)
                  clear h; have h := h2; clear h2
                  refine R.call' (w59 _ _ hx9) (by (first | rfl | (simp only [D.han, D.hbeq, D.hcmp]; done) | (simp only [D.han, D.hbeq, D.hcmp]; rfl))) ?_
                  clear hx9; cbv
                  have e := ret_some h; clear h
                  refine hK _ _ ?_
                  cbv
                  try (subst e; simp only [D.han, D.hbeq, D.hcmp, and_self, and_true, true_and] <;> (repeat' apply And.intro) <;> rfl)
                · exact (none_some h).elim

noncomputable def d28 (a0_0 : Int) (a0_1 : Bool) (a1 : Int) : Option (Int × Int) :=
  (d10 a0_0 a0_1).bind fun x2 =>
  if (cmpLit .neq x2 0) = true then
    some (0, x2)
  else
    (d32 a0_0 a0_1 a1).bind fun x3 =>
    some (x3, 0)
noncomputable def w28_c : Code := (Try.f28.body).getD .skip
theorem w28_h : Try.f28.body = some w28_c := by kernel_rfl
theorem w28 (a0_0 : Int) (a0_1 : Bool) (a1 : Int) (r : Int × Int) (h : d28 a0_0 a0_1 a1 = some r) : Ab.Fn Try.prog TT 28 [.agg [.i .i64 a0_0, .b a0_1], .i .i64 a1] (.tup [.i .i64 r.1, .i .i64 r.2]) [] := by
  refine fn_pure tok W0 Try.func28 (by kernel_rfl) w28_h (by kernel_rfl) ?_
  intro ar un cv mn mx pl mi cmp nt beq an scmp cat slen sbyte ssub ofB toB len gi gb gs gl sub put app ovl rep ne0 ge0 inb bnd room sroom need br call loop cut nl E R K hK
  have D := E.D
  clear E
  unfold d28 at h
  cbv
  refine R.cut' (by kernel_rfl) (by kernel_rfl) ?_
  cbv
  refine R.callD h (fun x2 hx2 h2 => ?_)
  clear h; have h := h2; clear h2
  refine R.call' (w10 _ _ _ hx2) (by (first | rfl | (simp only [D.hcmp]; done) | (simp only [D.hcmp]; rfl))) ?_
  clear hx2; cbv
  refine R.brD h (by (first | rfl | (simp only [D.hcmp]; done) | (simp only [D.hcmp]; rfl))) ?_ ?_ <;> clear h <;> intro h <;> cbv
  · have e := ret_some h; clear h
    refine hK _ _ ?_
    cbv
    try (subst e; simp only [D.hcmp, and_self, and_true, true_and] <;> (repeat' apply And.intro) <;> rfl)
  · refine R.callD h (fun x3 hx3 h2 => ?_)
    clear h; have h := h2; clear h2
    refine R.call' (w32 _ _ _ _ hx3) (by (first | rfl | (simp only [D.hcmp]; done) | (simp only [D.hcmp]; rfl))) ?_
    clear hx3; cbv
    have e := ret_some h; clear h
    refine hK _ _ ?_
    cbv
    try (subst e; simp only [D.hcmp, and_self, and_true, true_and] <;> (repeat' apply And.intro) <;> rfl)

noncomputable def d60_b1 (a0 : List V) (s4 : Int) : Option ((Int) ⊕ ((Int) ⊕ (Unit))) :=
  if (cmpLit .lss s4 (lenI a0)) = true then
    if (Inb s4 (lenI a0)) then
      if (cmpLit .neq (gI a0 s4 0) 0) = true then
        some (.inr (.inl (gI a0 s4 0)))
      else
        some (.inl (arReal .add .i64 s4 1))
    else none
  else
    some (.inr (.inr ()))
noncomputable def d60 (a0 : List V) : Option (Int) :=
  Option.bind (α := (Unit) ⊕ (Int)) (
    (iter (d60_b1 a0) 0).bind fun y5 =>
    match y5 with
    | .inl p6 =>
      some (.inr p6)
    | .inr y5r0 =>
      some (.inl ())) fun y3 =>
  match y3 with
  | .inl p8 =>
    some 0
  | .inr y3r0 =>
    some y3r0
noncomputable def w60_c : Code := (Try.f60.body).getD .skip
theorem w60_h : Try.f60.body = some w60_c := by kernel_rfl
theorem w60 (a0 : List V) (r : Int) (h : d60 a0 = some r) : Ab.Fn Try.prog TT 60 [.sl 26 a0] (.i .i64 r) [] := by
  refine fn_pure tok W0 Try.func60 (by kernel_rfl) w60_h (by kernel_rfl) ?_
  intro ar un cv mn mx pl mi cmp nt beq an scmp cat slen sbyte ssub ofB toB len gi gb gs gl sub put app ovl rep ne0 ge0 inb bnd room sroom need br call loop cut nl E R K hK
  have D := E.D
  clear E
  unfold d60 at h
  cbv
  refine R.cutB Sum.inl (fun _ _ e => Sum.inl.inj e) h [] (fun p8 => []) (fun p8 => []) (by kernel_rfl) (by kernel_rfl) (fun y3 hy hFy3 L hLy3 => ?_) (fun p8 h2 => ?_)
  · clear h; have h := hy; clear hy; cbv
    refine R.loopD h (fun s0 y5 e0 hi hFs4 => ?_)
    clear h
    refine R.loopI hi [] (fun s4 => [(8, .i .i64 s4)]) (fun s4 => []) ⟨rfl, ?_, ?_, rfl, rfl⟩ (by kernel_rfl) ?_
    · cbv; try (subst e0; simp only [D.har, D.hcmp, D.hgi, D.hinb, D.hlen, and_self, and_true, true_and] <;> (repeat' apply And.intro) <;> rfl)
    · cbv; try (subst e0; simp only [D.har, D.hcmp, D.hgi, D.hinb, D.hlen, and_self, and_true, true_and] <;> (repeat' apply And.intro) <;> rfl)
    clear hi e0
    intro s4 m y' hy hins4 houts4 L hLs4
    have h := hy; clear hy; unfold d60_b1 at h
    cbv
    refine R.cut' (by kernel_rfl) (by kernel_rfl) ?_
    cbv
    refine R.brD h (by (first | rfl | (simp only [D.har, D.hcmp, D.hgi, D.hinb, D.hlen]; done) | (simp only [D.har, D.hcmp, D.hgi, D.hinb, D.hlen]; rfl))) ?_ ?_ <;> clear h <;> intro h <;> cbv
    · refine R.cut' (by kernel_rfl) (by kernel_rfl) ?_
      cbv
      refine R.needD h (by (first | rfl | (simp only [D.har, D.hcmp, D.hgi, D.hinb, D.hlen]; done) | (simp only [D.har, D.hcmp, D.hgi, D.hinb, D.hlen]; rfl))) ?_
      clear h; intro h; cbv
      refine R.brD h (by (first | rfl | (simp only [D.har, D.hcmp, D.hgi, D.hinb, D.hlen]; done) | (simp only [D.har, D.hcmp, D.hgi, D.hinb, D.hlen]; rfl))) ?_ ?_ <;> clear h <;> intro h <;> cbv
      · have e := inr_some h houts4; clear h
        have h := hFs4; rw [e] at h; clear e; try dsimp only at h
        cbv
        have e := ret_some h; clear h
        have h := hFy3; rw [e] at h; clear e; try dsimp only at h
        cbv
        have e := ret_some h; clear h
        refine hK _ _ ?_
        cbv
        try (subst e; simp only [D.har, D.hcmp, D.hgi, D.hinb, D.hlen, and_self, and_true, true_and] <;> (repeat' apply And.intro) <;> rfl)
      · obtain ⟨s', e, hi⟩ := inl_some h hins4
        refine hLs4 s' _ _ hi ⟨rfl, ?_, ?_, rfl, rfl⟩ <;> cbv <;> (try (subst e; simp only [D.har, D.hcmp, D.hgi, D.hinb, D.hlen, and_self, and_true, true_and] <;> (repeat' apply And.intro) <;> rfl))
    · have e := inr_some h houts4; clear h
      have h := hFs4; rw [e] at h; clear e; try dsimp only at h
      cbv
      obtain ⟨s', e, hi⟩ := jn_some Sum.inl h
      refine hLy3 s' _ _ hi ⟨rfl, ?_, ?_, rfl, rfl⟩ <;> cbv <;> (try (subst e; simp only [D.har, D.hcmp, D.hgi, D.hinb, D.hlen, and_self, and_true, true_and] <;> (repeat' apply And.intro) <;> rfl))
  · clear h; have h := h2; clear h2; try dsimp only at h
    cbv
    have e := ret_some h; clear h
    refine hK _ _ ?_
    cbv
    try (subst e; simp only [D.har, D.hcmp, D.hgi, D.hinb, D.hlen, and_self, and_true, true_and] <;> (repeat' apply And.intro) <;> rfl)

noncomputable def d31 (a0_0 : Int) (a0_1 : Bool) (a1_0 : Int) (a1_1 : Bool) : Option (Int) :=
  (d10 a0_0 a0_1).bind fun x1 =>
  (d10 a1_0 a1_1).bind fun x2 =>
  (d60 [.i .i64 x1, .i .i64 x2]).bind fun x3 =>
  some x3
noncomputable def w31_c : Code := (Try.f31.body).getD .skip
theorem w31_h : Try.f31.body = some w31_c := by kernel_rfl
theorem w31 (a0_0 : Int) (a0_1 : Bool) (a1_0 : Int) (a1_1 : Bool) (r : Int) (h : d31 a0_0 a0_1 a1_0 a1_1 = some r) : Ab.Fn Try.prog TT 31 [.agg [.i .i64 a0_0, .b a0_1], .agg [.i .i64 a1_0, .b a1_1]] (.i .i64 r) [] := by
  refine fn_pure tok (fun r => match r with | 1 => [[],[0],[],[0,1,2],[0,1,2,3],[0,1,2,3,4],[0,1,2,3,4,5]] | _ => []) Try.func31 (by kernel_rfl) w31_h (by kernel_rfl) ?_
  intro ar un cv mn mx pl mi cmp nt beq an scmp cat slen sbyte ssub ofB toB len gi gb gs gl sub put app ovl rep ne0 ge0 inb bnd room sroom need br call loop cut nl E R K hK
  have D := E.D
  clear E
  unfold d31 at h
  cbv
  refine R.callD h (fun x1 hx1 h2 => ?_)
  clear h; have h := h2; clear h2
  refine R.call' (w10 _ _ _ hx1) (by rfl) ?_
  clear hx1; cbv
  refine R.callD h (fun x2 hx2 h2 => ?_)
  clear h; have h := h2; clear h2
  refine R.call' (w10 _ _ _ hx2) (by rfl) ?_
  clear hx2; cbv
  refine R.callD h (fun x3 hx3 h2 => ?_)
  clear h; have h := h2; clear h2
  refine R.call' (w60 _ _ hx3) (by rfl) ?_
  clear hx3; cbv
  have e := ret_some h; clear h
  refine hK _ _ ?_
  cbv
  try (subst e; simp only [and_self, and_true, true_and] <;> (repeat' apply And.intro) <;> rfl)

noncomputable def d36 : Option (Int × Bool) :=
  some (4, true)
noncomputable def w36_c : Code := (Try.f36.body).getD .skip
theorem w36_h : Try.f36.body = some w36_c := by kernel_rfl
theorem w36 (r : Int × Bool) (h : d36 = some r) : Ab.Fn Try.prog TT 36 [] (.agg [.i .i64 r.1, .b r.2]) [] := by
  refine fn_pure tok W0 Try.func36 (by kernel_rfl) w36_h (by kernel_rfl) ?_
  intro ar un cv mn mx pl mi cmp nt beq an scmp cat slen sbyte ssub ofB toB len gi gb gs gl sub put app ovl rep ne0 ge0 inb bnd room sroom need br call loop cut nl E R K hK
  have D := E.D
  clear E
  unfold d36 at h
  cbv
  have e := ret_some h; clear h
  refine hK _ _ ?_
  cbv
  try (subst e; simp only [and_self, and_true, true_and] <;> (repeat' apply And.intro) <;> rfl)

noncomputable def d30 (a0_0 : Int) (a0_1 : Bool) : Option (Int × Bool) :=
  if (cmpLit .lss a0_0 4) = true then
    (d36).bind fun x2 =>
    some (x2.1, x2.2)
  else
    some (a0_0, a0_1)
noncomputable def w30_c : Code := (Try.f30.body).getD .skip
theorem w30_h : Try.f30.body = some w30_c := by kernel_rfl
theorem w30 (a0_0 : Int) (a0_1 : Bool) (r : Int × Bool) (h : d30 a0_0 a0_1 = some r) : Ab.Fn Try.prog TT 30 [.agg [.i .i64 a0_0, .b a0_1]] (.agg [.i .i64 r.1, .b r.2]) [] := by
  refine fn_pure tok W0 Try.func30 (by kernel_rfl) w30_h (by kernel_rfl) ?_
  intro ar un cv mn mx pl mi cmp nt beq an scmp cat slen sbyte ssub ofB toB len gi gb gs gl sub put app ovl rep ne0 ge0 inb bnd room sroom need br call loop cut nl E R K hK
  have D := E.D
  clear E
  unfold d30 at h
  cbv
  refine R.cut' (by kernel_rfl) (by kernel_rfl) ?_
  cbv
  refine R.brD h (by (first | rfl | (simp only [D.hcmp]; done) | (simp only [D.hcmp]; rfl))) ?_ ?_ <;> clear h <;> intro h <;> cbv
  · refine R.callD h (fun x2 hx2 h2 => ?_)
    clear h; have h := h2; clear h2
    refine R.call' (w36 _ hx2) (by (first | rfl | (simp only [D.hcmp]; done) | (simp only [D.hcmp]; rfl))) ?_
    clear hx2; cbv
    have e := ret_some h; clear h
    refine hK _ _ ?_
    cbv
    try (subst e; simp only [D.hcmp, and_self, and_true, true_and] <;> (repeat' apply And.intro) <;> rfl)
  · have e := ret_some h; clear h
    refine hK _ _ ?_
    cbv
    try (subst e; simp only [D.hcmp, and_self, and_true, true_and] <;> (repeat' apply And.intro) <;> rfl)
end Go.Proofs.Ytjcabmhnekcbgaa
end
section
namespace Go.Proofs.Ytjcabmhnekcbgaa
open Go.Ab Go.RowKit 
set_option maxRecDepth 100000
set_option maxHeartbeats 4000000
noncomputable def d33 (a0_0 : Int) (a0_1 : Bool) (a1_0 : Int) (a1_1 : Bool) : Option (Int × Bool) :=
  (d30 a0_0 a0_1).bind fun x1 =>
  (d30 a1_0 a1_1).bind fun x2 =>
  if (cmpLit .neq x1.1 x2.1) = true then
    if (cmpLit .gtr x1.1 x2.1) = true then
      if x1.2 = true then
        some ((mxI x1.1 x2.1), true)
      else
        if (cmpLit .gtr x2.1 x1.1) = true then
          some ((mxI x1.1 x2.1), x2.2)
        else
          some ((mxI x1.1 x2.1), false)
    else
      if (cmpLit .gtr x2.1 x1.1) = true then
        some ((mxI x1.1 x2.1), x2.2)
      else
        some ((mxI x1.1 x2.1), false)
  else
    if x1.2 = true then
      some (x1.1, x2.2)
    else
      some (x1.1, false)
noncomputable def w33_c : Code := (Try.f33.body).getD .skip
theorem w33_h : Try.f33.body = some w33_c := by kernel_rfl
theorem w33 (a0_0 : Int) (a0_1 : Bool) (a1_0 : Int) (a1_1 : Bool) (r : Int × Bool) (h : d33 a0_0 a0_1 a1_0 a1_1 = some r) : Ab.Fn Try.prog TT 33 [.agg [.i .i64 a0_0, .b a0_1], .agg [.i .i64 a1_0, .b a1_1]] (.agg [.i .i64 r.1, .b r.2]) [] := by
  refine fn_pure tok (fun r => match r with | 1 => [[],[0],[],[0,1,2],[0,1,2,3],[0,1,2,3,4]] | _ => []) Try.func33 (by kernel_rfl) w33_h (by kernel_rfl) ?_
  intro ar un cv mn mx pl mi cmp nt beq an scmp cat slen sbyte ssub ofB toB len gi gb gs gl sub put app ovl rep ne0 ge0 inb bnd room sroom need br call loop cut nl E R K hK
  have D := E.D
  clear E
  unfold d33 at h
  cbv
  refine R.callD h (fun x1 hx1 h2 => ?_)
  clear h; have h := h2; clear h2
  refine R.call' (w30 _ _ _ hx1) (by (first | rfl | (simp only [D.hcmp, D.hmx]; done) | (simp only [D.hcmp, D.hmx]; rfl))) ?_
  clear hx1; cbv
  refine R.callD h (fun x2 hx2 h2 => ?_)
  clear h; have h := h2; clear h2
  refine R.call' (w30 _ _ _ hx2) (by (first | rfl | (simp only [D.hcmp, D.hmx]; done) | (simp only [D.hcmp, D.hmx]; rfl))) ?_
  clear hx2; cbv
  refine R.cut' (by kernel_rfl) (by kernel_rfl) ?_
  cbv
  refine R.brD h (by (first | rfl | (simp only [D.hcmp, D.hmx]; done) | (simp only [D.hcmp, D.hmx]; rfl))) ?_ ?_ <;> clear h <;> intro h <;> cbv
  · refine R.cut' (by kernel_rfl) (by kernel_rfl) ?_
    cbv
    refine R.brD h (by (first | rfl | (simp only [D.hcmp, D.hmx]; done) | (simp only [D.hcmp, D.hmx]; rfl))) ?_ ?_ <;> clear h <;> intro h <;> cbv
    · refine R.brD h (by (first | rfl | (simp only [D.hcmp, D.hmx]; done) | (simp only [D.hcmp, D.hmx]; rfl))) ?_ ?_ <;> clear h <;> intro h <;> cbv
      · have e := ret_some h; clear h
        refine hK _ _ ?_
        cbv
        try (subst e; simp only [D.hcmp, D.hmx, and_self, and_true, true_and] <;> (repeat' apply And.intro) <;> rfl)
      · refine R.brD h (by (first | rfl | (simp only [D.hcmp, D.hmx]; done) | (simp only [D.hcmp, D.hmx]; rfl))) ?_ ?_ <;> clear h <;> intro h <;> cbv
        · have e := ret_some h; clear h
          refine hK _ _ ?_
          cbv
          try (subst e; simp only [D.hcmp, D.hmx, and_self, and_true, true_and] <;> (repeat' apply And.intro) <;> rfl)
        · have e := ret_some h; clear h
          refine hK _ _ ?_
          cbv
          try (subst e; simp only [D.hcmp, D.hmx, and_self, and_true, true_and] <;> (repeat' apply And.intro) <;> rfl)
    · refine R.brD h (by (first | rfl | (simp only [D.hcmp, D.hmx]; done) | (simp only [D.hcmp, D.hmx]; rfl))) ?_ ?_ <;> clear h <;> intro h <;> cbv
      · have e := ret_some h; clear h
        refine hK _ _ ?_
        cbv
        try (subst e; simp only [D.hcmp, D.hmx, and_self, and_true, true_and] <;> (repeat' apply And.intro) <;> rfl)
      · have e := ret_some h; clear h
        refine hK _ _ ?_
        cbv
        try (subst e; simp only [D.hcmp, D.hmx, and_self, and_true, true_and] <;> (repeat' apply And.intro) <;> rfl)
  · refine R.cut' (by kernel_rfl) (by kernel_rfl) ?_
    cbv
    refine R.brD h (by (first | rfl | (simp only [D.hcmp, D.hmx]; done) | (simp only [D.hcmp, D.hmx]; rfl))) ?_ ?_ <;> clear h <;> intro h <;> cbv
    · have e := ret_some h; clear h
      refine hK _ _ ?_
      cbv
      try (subst e; simp only [D.hcmp, D.hmx, and_self, and_true, true_and] <;> (repeat' apply And.intro) <;> rfl)
    · have e := ret_some h; clear h
      refine hK _ _ ?_
      cbv
      try (subst e; simp only [D.hcmp, D.hmx, and_self, and_true, true_and] <;> (repeat' apply And.intro) <;> rfl)

noncomputable def d15 (a0_0 : Int) (a0_1 : Bool) (a1_0 : Int) (a1_1 : Bool) : Option (Int × Bool × Int) :=
  (d31 a0_0 a0_1 a1_0 a1_1).bind fun x2 =>
  if (cmpLit .neq x2 0) = true then
    some (0, false, x2)
  else
    (d33 a0_0 a0_1 a1_0 a1_1).bind fun x3 =>
    some (x3.1, x3.2, 0)
noncomputable def w15_c : Code := (Try.f15.body).getD .skip
theorem w15_h : Try.f15.body = some w15_c := by kernel_rfl
theorem w15 (a0_0 : Int) (a0_1 : Bool) (a1_0 : Int) (a1_1 : Bool) (r : Int × Bool × Int) (h : d15 a0_0 a0_1 a1_0 a1_1 = some r) : Ab.Fn Try.prog TT 15 [.agg [.i .i64 a0_0, .b a0_1], .agg [.i .i64 a1_0, .b a1_1]] (.tup [.agg [.i .i64 r.1, .b r.2.1], .i .i64 r.2.2]) [] := by
  refine fn_pure tok W0 Try.func15 (by kernel_rfl) w15_h (by kernel_rfl) ?_
  intro ar un cv mn mx pl mi cmp nt beq an scmp cat slen sbyte ssub ofB toB len gi gb gs gl sub put app ovl rep ne0 ge0 inb bnd room sroom need br call loop cut nl E R K hK
  have D := E.D
  clear E
  unfold d15 at h
  cbv
  refine R.cut' (by kernel_rfl) (by kernel_rfl) ?_
  cbv
  refine R.callD h (fun x2 hx2 h2 => ?_)
  clear h; have h := h2; clear h2
  refine R.call' (w31 _ _ _ _ _ hx2) (by (first | rfl | (simp only [D.hcmp]; done) | (simp only [D.hcmp]; rfl))) ?_
  clear hx2; cbv
  refine R.brD h (by (first | rfl | (simp only [D.hcmp]; done) | (simp only [D.hcmp]; rfl))) ?_ ?_ <;> clear h <;> intro h <;> cbv
  · have e := ret_some h; clear h
    refine hK _ _ ?_
    cbv
    try (subst e; simp only [D.hcmp, and_self, and_true, true_and] <;> (repeat' apply And.intro) <;> rfl)
  · refine R.callD h (fun x3 hx3 h2 => ?_)
    clear h; have h := h2; clear h2
    refine R.call' (w33 _ _ _ _ _ hx3) (by (first | rfl | (simp only [D.hcmp]; done) | (simp only [D.hcmp]; rfl))) ?_
    clear hx3; cbv
    have e := ret_some h; clear h
    refine hK _ _ ?_
    cbv
    try (subst e; simp only [D.hcmp, and_self, and_true, true_and] <;> (repeat' apply And.intro) <;> rfl)

noncomputable def d61 (a0_0 : Int) (a0_1 : Bool) (a1 : Int) (a2 : Int) : Option (Int) :=
  some (arReal .add .i64 a1 a2)
noncomputable def w61_c : Code := (Try.f61.body).getD .skip
theorem w61_h : Try.f61.body = some w61_c := by kernel_rfl
theorem w61 (a0_0 : Int) (a0_1 : Bool) (a1 : Int) (a2 : Int) (r : Int) (h : d61 a0_0 a0_1 a1 a2 = some r) : Ab.Fn Try.prog TT 61 [.agg [.i .i64 a0_0, .b a0_1], .i .i64 a1, .i .i64 a2] (.i .i64 r) [] := by
  refine fn_pure tok W0 Try.func61 (by kernel_rfl) w61_h (by kernel_rfl) ?_
  intro ar un cv mn mx pl mi cmp nt beq an scmp cat slen sbyte ssub ofB toB len gi gb gs gl sub put app ovl rep ne0 ge0 inb bnd room sroom need br call loop cut nl E R K hK
  have D := E.D
  clear E
  unfold d61 at h
  cbv
  have e := ret_some h; clear h
  refine hK _ _ ?_
  cbv
  try (subst e; simp only [D.har, and_self, and_true, true_and] <;> (repeat' apply And.intro) <;> rfl)

noncomputable def d62 (a0_0 : Int) (a0_1 : Bool) (a1 : Int) (a2 : Int) : Option (Int) :=
  some (arReal .sub .i64 a1 a2)
noncomputable def w62_c : Code := (Try.f62.body).getD .skip
theorem w62_h : Try.f62.body = some w62_c := by kernel_rfl
theorem w62 (a0_0 : Int) (a0_1 : Bool) (a1 : Int) (a2 : Int) (r : Int) (h : d62 a0_0 a0_1 a1 a2 = some r) : Ab.Fn Try.prog TT 62 [.agg [.i .i64 a0_0, .b a0_1], .i .i64 a1, .i .i64 a2] (.i .i64 r) [] := by
  refine fn_pure tok W0 Try.func62 (by kernel_rfl) w62_h (by kernel_rfl) ?_
  intro ar un cv mn mx pl mi cmp nt beq an scmp cat slen sbyte ssub ofB toB len gi gb gs gl sub put app ovl rep ne0 ge0 inb bnd room sroom need br call loop cut nl E R K hK
  have D := E.D
  clear E
  unfold d62 at h
  cbv
  have e := ret_some h; clear h
  refine hK _ _ ?_
  cbv
  try (subst e; simp only [D.har, and_self, and_true, true_and] <;> (repeat' apply And.intro) <;> rfl)

noncomputable def d63 (a0_0 : Int) (a0_1 : Bool) (a1 : Int) (a2 : Int) : Option (Int) :=
  some (arReal .mul .i64 a1 a2)
noncomputable def w63_c : Code := (Try.f63.body).getD .skip
theorem w63_h : Try.f63.body = some w63_c := by kernel_rfl
theorem w63 (a0_0 : Int) (a0_1 : Bool) (a1 : Int) (a2 : Int) (r : Int) (h : d63 a0_0 a0_1 a1 a2 = some r) : Ab.Fn Try.prog TT 63 [.agg [.i .i64 a0_0, .b a0_1], .i .i64 a1, .i .i64 a2] (.i .i64 r) [] := by
  refine fn_pure tok W0 Try.func63 (by kernel_rfl) w63_h (by kernel_rfl) ?_
  intro ar un cv mn mx pl mi cmp nt beq an scmp cat slen sbyte ssub ofB toB len gi gb gs gl sub put app ovl rep ne0 ge0 inb bnd room sroom need br call loop cut nl E R K hK
  have D := E.D
  clear E
  unfold d63 at h
  cbv
  have e := ret_some h; clear h
  refine hK _ _ ?_
  cbv
  try (subst e; simp only [D.har, and_self, and_true, true_and] <;> (repeat' apply And.intro) <;> rfl)

noncomputable def d64 (a0_0 : Int) (a0_1 : Bool) (a1 : Int) (a2 : Int) : Option (Int) :=
  some (arReal .and .i64 a1 a2)
noncomputable def w64_c : Code := (Try.f64.body).getD .skip
theorem w64_h : Try.f64.body = some w64_c := by kernel_rfl
theorem w64 (a0_0 : Int) (a0_1 : Bool) (a1 : Int) (a2 : Int) (r : Int) (h : d64 a0_0 a0_1 a1 a2 = some r) : Ab.Fn Try.prog TT 64 [.agg [.i .i64 a0_0, .b a0_1], .i .i64 a1, .i .i64 a2] (.i .i64 r) [] := by
  refine fn_pure tok W0 Try.func64 (by kernel_rfl) w64_h (by kernel_rfl) ?_
  intro ar un cv mn mx pl mi cmp nt beq an scmp cat slen sbyte ssub ofB toB len gi gb gs gl sub put app ovl rep ne0 ge0 inb bnd room sroom need br call loop cut nl E R K hK
  have D := E.D
  clear E
  unfold d64 at h
  cbv
  have e := ret_some h; clear h
  refine hK _ _ ?_
  cbv
  try (subst e; simp only [D.har, and_self, and_true, true_and] <;> (repeat' apply And.intro) <;> rfl)

noncomputable def d65 (a0_0 : Int) (a0_1 : Bool) (a1 : Int) (a2 : Int) : Option (Int) :=
  some (arReal .or .i64 a1 a2)
noncomputable def w65_c : Code := (Try.f65.body).getD .skip
theorem w65_h : Try.f65.body = some w65_c := by kernel_rfl
theorem w65 (a0_0 : Int) (a0_1 : Bool) (a1 : Int) (a2 : Int) (r : Int) (h : d65 a0_0 a0_1 a1 a2 = some r) : Ab.Fn Try.prog TT 65 [.agg [.i .i64 a0_0, .b a0_1], .i .i64 a1, .i .i64 a2] (.i .i64 r) [] := by
  refine fn_pure tok W0 Try.func65 (by kernel_rfl) w65_h (by kernel_rfl) ?_
  intro ar un cv mn mx pl mi cmp nt beq an scmp cat slen sbyte ssub ofB toB len gi gb gs gl sub put app ovl rep ne0 ge0 inb bnd room sroom need br call loop cut nl E R K hK
  have D := E.D
  clear E
  unfold d65 at h
  cbv
  have e := ret_some h; clear h
  refine hK _ _ ?_
  cbv
  try (subst e; simp only [D.har, and_self, and_true, true_and] <;> (repeat' apply And.intro) <;> rfl)

noncomputable def d66 (a0_0 : Int) (a0_1 : Bool) (a1 : Int) (a2 : Int) : Option (Int) :=
  some (arReal .xor .i64 a1 a2)
noncomputable def w66_c : Code := (Try.f66.body).getD .skip
theorem w66_h : Try.f66.body = some w66_c := by kernel_rfl
theorem w66 (a0_0 : Int) (a0_1 : Bool) (a1 : Int) (a2 : Int) (r : Int) (h : d66 a0_0 a0_1 a1 a2 = some r) : Ab.Fn Try.prog TT 66 [.agg [.i .i64 a0_0, .b a0_1], .i .i64 a1, .i .i64 a2] (.i .i64 r) [] := by
  refine fn_pure tok W0 Try.func66 (by kernel_rfl) w66_h (by kernel_rfl) ?_
  intro ar un cv mn mx pl mi cmp nt beq an scmp cat slen sbyte ssub ofB toB len gi gb gs gl sub put app ovl rep ne0 ge0 inb bnd room sroom need br call loop cut nl E R K hK
  have D := E.D
  clear E
  unfold d66 at h
  cbv
  have e := ret_some h; clear h
  refine hK _ _ ?_
  cbv
  try (subst e; simp only [D.har, and_self, and_true, true_and] <;> (repeat' apply And.intro) <;> rfl)

noncomputable def d44 (a0_0 : Int) (a0_1 : Bool) : Option (Bool) :=
  if (cmpLit .eql a0_0 8) = true then
    some (notB' a0_1)
  else
    some false
noncomputable def w44_c : Code := (Try.f44.body).getD .skip
theorem w44_h : Try.f44.body = some w44_c := by kernel_rfl
theorem w44 (a0_0 : Int) (a0_1 : Bool) (r : Bool) (h : d44 a0_0 a0_1 = some r) : Ab.Fn Try.prog TT 44 [.agg [.i .i64 a0_0, .b a0_1]] (.b r) [] := by
  refine fn_pure tok W0 Try.func44 (by kernel_rfl) w44_h (by kernel_rfl) ?_
  intro ar un cv mn mx pl mi cmp nt beq an scmp cat slen sbyte ssub ofB toB len gi gb gs gl sub put app ovl rep ne0 ge0 inb bnd room sroom need br call loop cut nl E R K hK
  have D := E.D
  clear E
  unfold d44 at h
  cbv
  refine R.cut' (by kernel_rfl) (by kernel_rfl) ?_
  cbv
  refine R.brD h (by (first | rfl | (simp only [D.hcmp, D.hnt]; done) | (simp only [D.hcmp, D.hnt]; rfl))) ?_ ?_ <;> clear h <;> intro h <;> cbv
  · have e := ret_some h; clear h
    refine hK _ _ ?_
    cbv
    try (subst e; simp only [D.hcmp, D.hnt, and_self, and_true, true_and] <;> (repeat' apply And.intro) <;> rfl)
  · have e := ret_some h; clear h
    refine hK _ _ ?_
    cbv
    try (subst e; simp only [D.hcmp, D.hnt, and_self, and_true, true_and] <;> (repeat' apply And.intro) <;> rfl)

noncomputable def d91 (a0 : Int) : Option (Int) :=
  Option.bind (α := Int × Int) (
    if (cmpLit .geq a0 4294967296) = true then
      if (Ge0 32) then
        some ((arReal .shr .u64 a0 32), 32)
      else none
    else
      some (a0, 0)) fun y1 =>
  Option.bind (α := Int × Int) (
    if (cmpLit .geq y1.1 65536) = true then
      if (Ge0 16) then
        some ((arReal .shr .u64 y1.1 16), (arReal .add .i64 y1.2 16))
      else none
    else
      some (y1.1, y1.2)) fun y3 =>
  if (cmpLit .geq y3.1 256) = true then
    if (Ge0 8) then
      if (Inb (wrapK .u8 (arReal .shr .u64 y3.1 8)) (slenI (ByteArray.mk #[0, 1, 2, 2, 3, 3, 3, 3, 4, 4, 4, 4, 4, 4, 4, 4, 5, 5, 5, 5, 5, 5, 5, 5, 5, 5, 5, 5, 5, 5, 5, 5, 6, 6, 6, 6, 6, 6, 6, 6, 6, 6, 6, 6, 6, 6, 6, 6, 6, 6, 6, 6, 6, 6, 6, 6, 6, 6, 6, 6, 6, 6, 6, 6, 7, 7, 7, 7, 7, 7, 7, 7, 7, 7, 7, 7, 7, 7, 7, 7, 7, 7, 7, 7, 7, 7, 7, 7, 7, 7, 7, 7, 7, 7, 7, 7, 7, 7, 7, 7, 7, 7, 7, 7, 7, 7, 7, 7, 7, 7, 7, 7, 7, 7, 7, 7, 7, 7, 7, 7, 7, 7, 7, 7, 7, 7, 7, 7, 8, 8, 8, 8, 8, 8, 8, 8, 8, 8, 8, 8, 8, 8, 8, 8, 8, 8, 8, 8, 8, 8, 8, 8, 8, 8, 8, 8, 8, 8, 8, 8, 8, 8, 8, 8, 8, 8, 8, 8, 8, 8, 8, 8, 8, 8, 8, 8, 8, 8, 8, 8, 8, 8, 8, 8, 8, 8, 8, 8, 8, 8, 8, 8, 8, 8, 8, 8, 8, 8, 8, 8, 8, 8, 8, 8, 8, 8, 8, 8, 8, 8, 8, 8, 8, 8, 8, 8, 8, 8, 8, 8, 8, 8, 8, 8, 8, 8, 8, 8, 8, 8, 8, 8, 8, 8, 8, 8, 8, 8, 8, 8, 8, 8, 8, 8, 8, 8, 8, 8, 8, 8, 8, 8, 8, 8, 8, 8]))) then
        some (arReal .add .i64 (arReal .add .i64 y3.2 8) (wrapK .i64 (sbyteI (ByteArray.mk #[0, 1, 2, 2, 3, 3, 3, 3, 4, 4, 4, 4, 4, 4, 4, 4, 5, 5, 5, 5, 5, 5, 5, 5, 5, 5, 5, 5, 5, 5, 5, 5, 6, 6, 6, 6, 6, 6, 6, 6, 6, 6, 6, 6, 6, 6, 6, 6, 6, 6, 6, 6, 6, 6, 6, 6, 6, 6, 6, 6, 6, 6, 6, 6, 7, 7, 7, 7, 7, 7, 7, 7, 7, 7, 7, 7, 7, 7, 7, 7, 7, 7, 7, 7, 7, 7, 7, 7, 7, 7, 7, 7, 7, 7, 7, 7, 7, 7, 7, 7, 7, 7, 7, 7, 7, 7, 7, 7, 7, 7, 7, 7, 7, 7, 7, 7, 7, 7, 7, 7, 7, 7, 7, 7, 7, 7, 7, 7, 8, 8, 8, 8, 8, 8, 8, 8, 8, 8, 8, 8, 8, 8, 8, 8, 8, 8, 8, 8, 8, 8, 8, 8, 8, 8, 8, 8, 8, 8, 8, 8, 8, 8, 8, 8, 8, 8, 8, 8, 8, 8, 8, 8, 8, 8, 8, 8, 8, 8, 8, 8, 8, 8, 8, 8, 8, 8, 8, 8, 8, 8, 8, 8, 8, 8, 8, 8, 8, 8, 8, 8, 8, 8, 8, 8, 8, 8, 8, 8, 8, 8, 8, 8, 8, 8, 8, 8, 8, 8, 8, 8, 8, 8, 8, 8, 8, 8, 8, 8, 8, 8, 8, 8, 8, 8, 8, 8, 8, 8, 8, 8, 8, 8, 8, 8, 8, 8, 8, 8, 8, 8, 8, 8, 8, 8, 8, 8]) (wrapK .u8 (arReal .shr .u64 y3.1 8)))))
      else none
    else none
  else
    if (Inb (wrapK .u8 y3.1) (slenI (ByteArray.mk #[0, 1, 2, 2, 3, 3, 3, 3, 4, 4, 4, 4, 4, 4, 4, 4, 5, 5, 5, 5, 5, 5, 5, 5, 5, 5, 5, 5, 5, 5, 5, 5, 6, 6, 6, 6, 6, 6, 6, 6, 6, 6, 6, 6, 6, 6, 6, 6, 6, 6, 6, 6, 6, 6, 6, 6, 6, 6, 6, 6, 6, 6, 6, 6, 7, 7, 7, 7, 7, 7, 7, 7, 7, 7, 7, 7, 7, 7, 7, 7, 7, 7, 7, 7, 7, 7, 7, 7, 7, 7, 7, 7, 7, 7, 7, 7, 7, 7, 7, 7, 7, 7, 7, 7, 7, 7, 7, 7, 7, 7, 7, 7, 7, 7, 7, 7, 7, 7, 7, 7, 7, 7, 7, 7, 7, 7, 7, 7, 8, 8, 8, 8, 8, 8, 8, 8, 8, 8, 8, 8, 8, 8, 8, 8, 8, 8, 8, 8, 8, 8, 8, 8, 8, 8, 8, 8, 8, 8, 8, 8, 8, 8, 8, 8, 8, 8, 8, 8, 8, 8, 8, 8, 8, 8, 8, 8, 8, 8, 8, 8, 8, 8, 8, 8, 8, 8, 8, 8, 8, 8, 8, 8, 8, 8, 8, 8, 8, 8, 8, 8, 8, 8, 8, 8, 8, 8, 8, 8, 8, 8, 8, 8, 8, 8, 8, 8, 8, 8, 8, 8, 8, 8, 8, 8, 8, 8, 8, 8, 8, 8, 8, 8, 8, 8, 8, 8, 8, 8, 8, 8, 8, 8, 8, 8, 8, 8, 8, 8, 8, 8, 8, 8, 8, 8, 8, 8]))) then
      some (arReal .add .i64 y3.2 (wrapK .i64 (sbyteI (ByteArray.mk #[0, 1, 2, 2, 3, 3, 3, 3, 4, 4, 4, 4, 4, 4, 4, 4, 5, 5, 5, 5, 5, 5, 5, 5, 5, 5, 5, 5, 5, 5, 5, 5, 6, 6, 6, 6, 6, 6, 6, 6, 6, 6, 6, 6, 6, 6, 6, 6, 6, 6, 6, 6, 6, 6, 6, 6, 6, 6, 6, 6, 6, 6, 6, 6, 7, 7, 7, 7, 7, 7, 7, 7, 7, 7, 7, 7, 7, 7, 7, 7, 7, 7, 7, 7, 7, 7, 7, 7, 7, 7, 7, 7, 7, 7, 7, 7, 7, 7, 7, 7, 7, 7, 7, 7, 7, 7, 7, 7, 7, 7, 7, 7, 7, 7, 7, 7, 7, 7, 7, 7, 7, 7, 7, 7, 7, 7, 7, 7, 8, 8, 8, 8, 8, 8, 8, 8, 8, 8, 8, 8, 8, 8, 8, 8, 8, 8, 8, 8, 8, 8, 8, 8, 8, 8, 8, 8, 8, 8, 8, 8, 8, 8, 8, 8, 8, 8, 8, 8, 8, 8, 8, 8, 8, 8, 8, 8, 8, 8, 8, 8, 8, 8, 8, 8, 8, 8, 8, 8, 8, 8, 8, 8, 8, 8, 8, 8, 8, 8, 8, 8, 8, 8, 8, 8, 8, 8, 8, 8, 8, 8, 8, 8, 8, 8, 8, 8, 8, 8, 8, 8, 8, 8, 8, 8, 8, 8, 8, 8, 8, 8, 8, 8, 8, 8, 8, 8, 8, 8, 8, 8, 8, 8, 8, 8, 8, 8, 8, 8, 8, 8, 8, 8, 8, 8, 8, 8]) (wrapK .u8 y3.1))))
    else none
noncomputable def w91_c : Code := (Try.f91.body).getD .skip
theorem w91_h : Try.f91.body = some w91_c := by kernel_rfl
theorem w91 (a0 : Int) (r : Int) (h : d91 a0 = some r) : Ab.Fn Try.prog TT 91 [.i .u64 a0] (.i .i64 r) [] := by
  refine fn_pure tok W0 Try.func91 (by kernel_rfl) w91_h (by kernel_rfl) ?_
  intro ar un cv mn mx pl mi cmp nt beq an scmp cat slen sbyte ssub ofB toB len gi gb gs gl sub put app ovl rep ne0 ge0 inb bnd room sroom need br call loop cut nl E R K hK
  have D := E.D
  clear E
  unfold d91 at h
  cbv
  refine R.cutB (fun p => p) (fun _ _ e => e) h [] (fun p2 => [(0, .i .u64 p2.1), (2, .i .i64 p2.2)]) (fun p2 => []) (by kernel_rfl) (by kernel_rfl) (fun y1 hy hFy1 L hLy1 => ?_) (fun p2 h2 => ?_)
  · clear h; have h := hy; clear hy; cbv
    refine R.brD h (by (first | rfl | (simp only [D.har, D.hcmp, D.hcv, D.hge0, D.hinb, D.hsbyte, D.hslen]; done) | (simp only [D.har, D.hcmp, D.hcv, D.hge0, D.hinb, D.hsbyte, D.hslen]; rfl))) ?_ ?_ <;> clear h <;> intro h <;> cbv
    · refine R.needD h (by (first | rfl | (simp only [D.har, D.hcmp, D.hcv, D.hge0, D.hinb, D.hsbyte, D.hslen]; done) | (simp only [D.har, D.hcmp, D.hcv, D.hge0, D.hinb, D.hsbyte, D.hslen]; rfl))) ?_
      clear h; intro h; cbv
      obtain ⟨s', e, hi⟩ := jn_some (fun p => p) h
      refine hLy1 s' _ _ hi ⟨rfl, ?_, ?_, rfl, rfl⟩ <;> cbv <;> (try (subst e; simp only [D.har, D.hcmp, D.hcv, D.hge0, D.hinb, D.hsbyte, D.hslen, and_self, and_true, true_and] <;> (repeat' apply And.intro) <;> rfl))
    · obtain ⟨s', e, hi⟩ := jn_some (fun p => p) h
      refine hLy1 s' _ _ hi ⟨rfl, ?_, ?_, rfl, rfl⟩ <;> cbv <;> (try (subst e; simp only [D.har, D.hcmp, D.hcv, D.hge0, D.hinb, D.hsbyte, D.hslen, and_self, and_true, true_and] <;> (repeat' apply And.intro) <;> rfl))
  · clear h; have h := h2; clear h2; try dsimp only at h
    cbv
    refine R.cutB (fun p => p) (fun _ _ e => e) h [] (fun p4 => [(0, .i .u64 p4.1), (2, .i .i64 p4.2)]) (fun p4 => []) (by kernel_rfl) (by kernel_rfl) (fun y3 hy hFy3 L hLy3 => ?_) (fun p4 h2 => ?_)
    · clear h; have h := hy; clear hy; cbv
      refine R.brD h (by (first | rfl | (simp only [D.har, D.hcmp, D.hcv, D.hge0, D.hinb, D.hsbyte, D.hslen]; done) | (simp only [D.har, D.hcmp, D.hcv, D.hge0, D.hinb, D.hsbyte, D.hslen]; rfl))) ?_ ?_ <;> clear h <;> intro h <;> cbv
      · refine R.needD h (by (first | rfl | (simp only [D.har, D.hcmp, D.hcv, D.hge0, D.hinb, D.hsbyte, D.hslen]; done) | (simp only [D.har, D.hcmp, D.hcv, D.hge0, D.hinb, D.hsbyte, D.hslen]; rfl))) ?_
        clear h; intro h; cbv
        obtain ⟨s', e, hi⟩ := jn_some (fun p => p) h
        refine hLy3 s' _ _ hi ⟨rfl, ?_, ?_, rfl, rfl⟩ <;> cbv <;> (try (subst e; simp only [D.har, D.hcmp, D.hcv, D.hge0, D.hinb, D.hsbyte, D.hslen, and_self, and_true, true_and] <;> (repeat' apply And.intro) <;> rfl))
      · obtain ⟨s', e, hi⟩ := jn_some (fun p => p) h
        refine hLy3 s' _ _ hi ⟨rfl, ?_, ?_, rfl, rfl⟩ <;> cbv <;> (try (subst e; simp only [D.har, D.hcmp, D.hcv, D.hge0, D.hinb, D.hsbyte, D.hslen, and_self, and_true, true_and] <;> (repeat' apply And.intro) <;> rfl))
    · clear h; have h := h2; clear h2; try dsimp only at h
      cbv
      refine R.cut' (by kernel_rfl) (by kernel_rfl) ?_
      cbv
      refine R.brD h (by (first | rfl | (simp only [D.har, D.hcmp, D.hcv, D.hge0, D.hinb, D.hsbyte, D.hslen]; done) | (simp only [D.har, D.hcmp, D.hcv, D.hge0, D.hinb, D.hsbyte, D.hslen]; rfl))) ?_ ?_ <;> clear h <;> intro h <;> cbv
      · refine R.needD h (by (first | rfl | (simp only [D.har, D.hcmp, D.hcv, D.hge0, D.hinb, D.hsbyte, D.hslen]; done) | (simp only [D.har, D.hcmp, D.hcv, D.hge0, D.hinb, D.hsbyte, D.hslen]; rfl))) ?_
        clear h; intro h; cbv
        refine R.needD h (by (first | rfl | (simp only [D.har, D.hcmp, D.hcv, D.hge0, D.hinb, D.hsbyte, D.hslen]; done) | (simp only [D.har, D.hcmp, D.hcv, D.hge0, D.hinb, D.hsbyte, D.hslen]; rfl))) ?_
        clear h; intro h; cbv
        have e := ret_some h; clear h
        refine hK _ _ ?_
        cbv
        try (subst e; simp only [D.har, D.hcmp, D.hcv, D.hge0, D.hinb, D.hsbyte, D.hslen, and_self, and_true, true_and] <;> (repeat' apply And.intro) <;> rfl)
      · refine R.needD h (by (first | rfl | (simp only [D.har, D.hcmp, D.hcv, D.hge0, D.hinb, D.hsbyte, D.hslen]; done) | (simp only [D.har, D.hcmp, D.hcv, D.hge0, D.hinb, D.hsbyte, D.hslen]; rfl))) ?_
        clear h; intro h; cbv
        have e := ret_some h; clear h
        refine hK _ _ ?_
        cbv
        try (subst e; simp only [D.har, D.hcmp, D.hcv, D.hge0, D.hinb, D.hsbyte, D.hslen, and_self, and_true, true_and] <;> (repeat' apply And.intro) <;> rfl)

noncomputable def d90 (a0 : Int) : Option (Int) :=
  (d91 a0).bind fun x1 =>
  some (arReal .sub .i64 64 x1)
noncomputable def w90_c : Code := (Try.f90.body).getD .skip
theorem w90_h : Try.f90.body = some w90_c := by kernel_rfl
theorem w90 (a0 : Int) (r : Int) (h : d90 a0 = some r) : Ab.Fn Try.prog TT 90 [.i .u64 a0] (.i .i64 r) [] := by
  refine fn_pure tok W0 Try.func90 (by kernel_rfl) w90_h (by kernel_rfl) ?_
  intro ar un cv mn mx pl mi cmp nt beq an scmp cat slen sbyte ssub ofB toB len gi gb gs gl sub put app ovl rep ne0 ge0 inb bnd room sroom need br call loop cut nl E R K hK
  have D := E.D
  clear E
  unfold d90 at h
  cbv
  refine R.callD h (fun x1 hx1 h2 => ?_)
  clear h; have h := h2; clear h2
  refine R.call' (w91 _ _ hx1) (by (first | rfl | (simp only [D.har]; done) | (simp only [D.har]; rfl))) ?_
  clear hx1; cbv
  have e := ret_some h; clear h
  refine hK _ _ ?_
  cbv
  try (subst e; simp only [D.har, and_self, and_true, true_and] <;> (repeat' apply And.intro) <;> rfl)
end Go.Proofs.Ytjcabmhnekcbgaa
end
section
namespace Go.Proofs.Ytjcabmhnekcbgaa
open Go.Ab Go.RowKit 
set_option maxRecDepth 100000
set_option maxHeartbeats 4000000
noncomputable def d86_b1 (a1 : Int) (a2 : Int) (x1 : Int) (s14 : Int × Int) : Option ((Int × Int) ⊕ (Int)) :=
  Option.bind (α := (Unit) ⊕ (Unit)) (
    if (cmpLit .geq s14.1 4294967296) = true then
      some (.inl ())
    else
      if (cmpLit .gtr (arReal .mul .u64 s14.1 (arReal .and .u64 (arReal .shl .u64 a2 (wrapK .u64 x1)) 4294967295)) (arReal .add .u64 (arReal .mul .u64 4294967296 s14.2) (arReal .shr .u64 (arReal .shl .u64 a1 (wrapK .u64 x1)) 32))) = true then
        some (.inl ())
      else
        some (.inr ())) fun y19 =>
  match y19 with
  | .inl p20 =>
    if (cmpLit .geq (arReal .add .u64 s14.2 (arReal .shr .u64 (arReal .shl .u64 a2 (wrapK .u64 x1)) 32)) 4294967296) = true then
      some (.inr (arReal .sub .u64 s14.1 1))
    else
      some (.inl ((arReal .sub .u64 s14.1 1), (arReal .add .u64 s14.2 (arReal .shr .u64 (arReal .shl .u64 a2 (wrapK .u64 x1)) 32))))
  | .inr y19r0 =>
    some (.inr s14.1)
noncomputable def d86_b2 (a1 : Int) (a2 : Int) (x1 : Int) (s36 : Int × Int) : Option ((Int × Int) ⊕ (Int)) :=
  Option.bind (α := (Unit) ⊕ (Unit)) (
    if (cmpLit .geq s36.2 4294967296) = true then
      some (.inl ())
    else
      if (cmpLit .gtr (arReal .mul .u64 s36.2 (arReal .and .u64 (arReal .shl .u64 a2 (wrapK .u64 x1)) 4294967295)) (arReal .add .u64 (arReal .mul .u64 4294967296 s36.1) (arReal .and .u64 (arReal .shl .u64 a1 (wrapK .u64 x1)) 4294967295))) = true then
        some (.inl ())
      else
        some (.inr ())) fun y41 =>
  match y41 with
  | .inl p42 =>
    if (cmpLit .geq (arReal .add .u64 s36.1 (arReal .shr .u64 (arReal .shl .u64 a2 (wrapK .u64 x1)) 32)) 4294967296) = true then
      some (.inr (arReal .sub .u64 s36.2 1))
    else
      some (.inl ((arReal .add .u64 s36.1 (arReal .shr .u64 (arReal .shl .u64 a2 (wrapK .u64 x1)) 32)), (arReal .sub .u64 s36.2 1)))
  | .inr y41r0 =>
    some (.inr s36.2)
noncomputable def d86 (a0 : Int) (a1 : Int) (a2 : Int) : Option (Int × Int) :=
  if (cmpLit .eql a2 0) = true then
    none
  else
    if (cmpLit .leq a2 a0) = true then
      none
    else
      if (cmpLit .eql a0 0) = true then
        if (Ne0 a2) then
          if (Ne0 a2) then
            some ((arReal .quo .u64 a1 a2), (arReal .rem .u64 a1 a2))
          else none
        else none
      else
        (d90 a2).bind fun x1 =>
        if (Ge0 (wrapK .u64 x1)) then
          if (Ge0 32) then
            if (Ge0 (wrapK .u64 x1)) then
              if (Ge0 (arReal .sub .u64 64 (wrapK .u64 x1))) then
                if (Ge0 (wrapK .u64 x1)) then
                  if (Ge0 32) then
                    if (Ne0 (arReal .shr .u64 (arReal .shl .u64 a2 (wrapK .u64 x1)) 32)) then
                      Option.bind (α := Int) (
                        (iter (d86_b1 a1 a2 x1) ((arReal .quo .u64 (arReal .or .u64 (arReal .shl .u64 a0 (wrapK .u64 x1)) (arReal .shr .u64 a1 (arReal .sub .u64 64 (wrapK .u64 x1)))) (arReal .shr .u64 (arReal .shl .u64 a2 (wrapK .u64 x1)) 32)), (arReal .sub .u64 (arReal .or .u64 (arReal .shl .u64 a0 (wrapK .u64 x1)) (arReal .shr .u64 a1 (arReal .sub .u64 64 (wrapK .u64 x1)))) (arReal .mul .u64 (arReal .quo .u64 (arReal .or .u64 (arReal .shl .u64 a0 (wrapK .u64 x1)) (arReal .shr .u64 a1 (arReal .sub .u64 64 (wrapK .u64 x1)))) (arReal .shr .u64 (arReal .shl .u64 a2 (wrapK .u64 x1)) 32)) (arReal .shr .u64 (arReal .shl .u64 a2 (wrapK .u64 x1)) 32))))).bind fun y18 =>
                        some y18) fun y10 =>
                      if (Ne0 (arReal .shr .u64 (arReal .shl .u64 a2 (wrapK .u64 x1)) 32)) then
                        Option.bind (α := Int) (
                          (iter (d86_b2 a1 a2 x1) ((arReal .sub .u64 (arReal .sub .u64 (arReal .add .u64 (arReal .mul .u64 (arReal .or .u64 (arReal .shl .u64 a0 (wrapK .u64 x1)) (arReal .shr .u64 a1 (arReal .sub .u64 64 (wrapK .u64 x1)))) 4294967296) (arReal .shr .u64 (arReal .shl .u64 a1 (wrapK .u64 x1)) 32)) (arReal .mul .u64 y10 (arReal .shl .u64 a2 (wrapK .u64 x1)))) (arReal .mul .u64 (arReal .quo .u64 (arReal .sub .u64 (arReal .add .u64 (arReal .mul .u64 (arReal .or .u64 (arReal .shl .u64 a0 (wrapK .u64 x1)) (arReal .shr .u64 a1 (arReal .sub .u64 64 (wrapK .u64 x1)))) 4294967296) (arReal .shr .u64 (arReal .shl .u64 a1 (wrapK .u64 x1)) 32)) (arReal .mul .u64 y10 (arReal .shl .u64 a2 (wrapK .u64 x1)))) (arReal .shr .u64 (arReal .shl .u64 a2 (wrapK .u64 x1)) 32)) (arReal .shr .u64 (arReal .shl .u64 a2 (wrapK .u64 x1)) 32))), (arReal .quo .u64 (arReal .sub .u64 (arReal .add .u64 (arReal .mul .u64 (arReal .or .u64 (arReal .shl .u64 a0 (wrapK .u64 x1)) (arReal .shr .u64 a1 (arReal .sub .u64 64 (wrapK .u64 x1)))) 4294967296) (arReal .shr .u64 (arReal .shl .u64 a1 (wrapK .u64 x1)) 32)) (arReal .mul .u64 y10 (arReal .shl .u64 a2 (wrapK .u64 x1)))) (arReal .shr .u64 (arReal .shl .u64 a2 (wrapK .u64 x1)) 32)))).bind fun y40 =>
                          some y40) fun y32 =>
                        if (Ge0 (wrapK .u64 x1)) then
                          some ((arReal .add .u64 (arReal .mul .u64 y10 4294967296) y32), (arReal .shr .u64 (arReal .sub .u64 (arReal .add .u64 (arReal .mul .u64 (arReal .sub .u64 (arReal .add .u64 (arReal .mul .u64 (arReal .or .u64 (arReal .shl .u64 a0 (wrapK .u64 x1)) (arReal .shr .u64 a1 (arReal .sub .u64 64 (wrapK .u64 x1)))) 4294967296) (arReal .shr .u64 (arReal .shl .u64 a1 (wrapK .u64 x1)) 32)) (arReal .mul .u64 y10 (arReal .shl .u64 a2 (wrapK .u64 x1)))) 4294967296) (arReal .and .u64 (arReal .shl .u64 a1 (wrapK .u64 x1)) 4294967295)) (arReal .mul .u64 y32 (arReal .shl .u64 a2 (wrapK .u64 x1)))) (wrapK .u64 x1)))
                        else none
                      else none
                    else none
                  else none
                else none
              else none
            else none
          else none
        else none
noncomputable def w86_c : Code := (Try.f86.body).getD .skip
theorem w86_h : Try.f86.body = some w86_c := by kernel_rfl
theorem w86 (a0 : Int) (a1 : Int) (a2 : Int) (r : Int × Int) (h : d86 a0 a1 a2 = some r) : Ab.Fn Try.prog TT 86 [.i .u64 a0, .i .u64 a1, .i .u64 a2] (.tup [.i .u64 r.1, .i .u64 r.2]) [] := by
  refine fn_pure tok (fun r => match r with | 6 => [[],[],[0,1],[],[],[3,4],[0,1,2],[0,1,2,3,4,5,6]] | _ => []) Try.func86 (by kernel_rfl) w86_h (by kernel_rfl) ?_
  intro ar un cv mn mx pl mi cmp nt beq an scmp cat slen sbyte ssub ofB toB len gi gb gs gl sub put app ovl rep ne0 ge0 inb bnd room sroom need br call loop cut nl E R K hK
  have D := E.D
  clear E
  unfold d86 at h
  cbv
  refine R.cut' (by kernel_rfl) (by kernel_rfl) ?_
  cbv
  refine R.brD h (by (first | rfl | (simp only [D.har, D.hcmp, D.hcv, D.hge0, D.hne0]; done) | (simp only [D.har, D.hcmp, D.hcv, D.hge0, D.hne0]; rfl))) ?_ ?_ <;> clear h <;> intro h <;> cbv
  · exact (none_some h).elim
  · as_aux_lemma =>
    refine R.cut' (by kernel_rfl) (by kernel_rfl) ?_
    cbv
    refine R.brD h (by (first | rfl | (simp only [D.har, D.hcmp, D.hcv, D.hge0, D.hne0]; done) | (simp only [D.har, D.hcmp, D.hcv, D.hge0, D.hne0]; rfl))) ?_ ?_ <;> clear h <;> intro h <;> cbv
    · exact (none_some h).elim
    · as_aux_lemma =>
      refine R.cut' (by kernel_rfl) (by kernel_rfl) ?_
      cbv
      refine R.brD h (by (first | rfl | (simp only [D.har, D.hcmp, D.hcv, D.hge0, D.hne0]; done) | (simp only [D.har, D.hcmp, D.hcv, D.hge0, D.hne0]; rfl))) ?_ ?_ <;> clear h <;> intro h <;> cbv
      · refine R.needD h (by (first | rfl | (simp only [D.har, D.hcmp, D.hcv, D.hge0, D.hne0]; done) | (simp only [D.har, D.hcmp, D.hcv, D.hge0, D.hne0]; rfl))) ?_
        clear h; intro h; cbv
        refine R.needD h (by (first | rfl | (simp only [D.har, D.hcmp, D.hcv, D.hge0, D.hne0]; done) | (simp only [D.har, D.hcmp, D.hcv, D.hge0, D.hne0]; rfl))) ?_
        clear h; intro h; cbv
        have e := ret_some h; clear h
        refine hK _ _ ?_
        cbv
        try (subst e; simp only [D.har, D.hcmp, D.hcv, D.hge0, D.hne0, and_self, and_true, true_and] <;> (repeat' apply And.intro) <;> rfl)
      · as_aux_lemma =>
        refine R.callD h (fun x1 hx1 h2 => ?_)
        clear h; have h := h2; clear h2
        refine R.call' (w90 _ _ hx1) (by (first | rfl | (simp only [D.har, D.hcmp, D.hcv, D.hge0, D.hne0]; done) | (simp only [D.har, D.hcmp, D.hcv, D.hge0, D.hne0]; rfl))) ?_
        clear hx1; cbv
        refine R.needD h (by (first | rfl | (simp only [D.har, D.hcmp, D.hcv, D.hge0, D.hne0]; done) | (simp only [D.har, D.hcmp, D.hcv, D.hge0, D.hne0]; rfl))) ?_
        clear h; intro h; cbv
        refine R.needD h (by (first | rfl | (simp only [D.har, D.hcmp, D.hcv, D.hge0, D.hne0]; done) | (simp only [D.har, D.hcmp, D.hcv, D.hge0, D.hne0]; rfl))) ?_
        clear h; intro h; cbv
        refine R.needD h (by (first | rfl | (simp only [D.har, D.hcmp, D.hcv, D.hge0, D.hne0]; done) | (simp only [D.har, D.hcmp, D.hcv, D.hge0, D.hne0]; rfl))) ?_
        clear h; intro h; cbv
        refine R.needD h (by (first | rfl | (simp only [D.har, D.hcmp, D.hcv, D.hge0, D.hne0]; done) | (simp only [D.har, D.hcmp, D.hcv, D.hge0, D.hne0]; rfl))) ?_
        clear h; intro h; cbv
        refine R.needD h (by (first | rfl | (simp only [D.har, D.hcmp, D.hcv, D.hge0, D.hne0]; done) | (simp only [D.har, D.hcmp, D.hcv, D.hge0, D.hne0]; rfl))) ?_
        clear h; intro h; cbv
        refine R.needD h (by (first | rfl | (simp only [D.har, D.hcmp, D.hcv, D.hge0, D.hne0]; done) | (simp only [D.har, D.hcmp, D.hcv, D.hge0, D.hne0]; rfl))) ?_
        clear h; intro h; cbv
        refine R.needD h (by (first | rfl | (simp only [D.har, D.hcmp, D.hcv, D.hge0, D.hne0]; done) | (simp only [D.har, D.hcmp, D.hcv, D.hge0, D.hne0]; rfl))) ?_
        clear h; intro h; cbv
        refine R.cutB (fun p => p) (fun _ _ e => e) h [] (fun p23 => [(15, .i .u64 p23)]) (fun p23 => []) (by kernel_rfl) (by kernel_rfl) (fun y10 hy hFy10 L hLy10 => ?_) (fun p23 h2 => ?_)
        · clear h; have h := hy; clear hy; cbv
          refine R.loopD h (fun s0 y18 e0 hi hFs14 => ?_)
          clear h
          refine R.loopI hi [] (fun s14 => [(15, .i .u64 s14.1), (16, .i .u64 s14.2)]) (fun s14 => []) ⟨rfl, ?_, ?_, rfl, rfl⟩ (by kernel_rfl) ?_
          · cbv; try (subst e0; simp only [D.har, D.hcmp, D.hcv, D.hge0, D.hne0, and_self, and_true, true_and] <;> (repeat' apply And.intro) <;> rfl)
          · cbv; try (subst e0; simp only [D.har, D.hcmp, D.hcv, D.hge0, D.hne0, and_self, and_true, true_and] <;> (repeat' apply And.intro) <;> rfl)
          clear hi e0
          intro s14 m y' hy hins14 houts14 L hLs14
          have h := hy; clear hy; unfold d86_b1 at h
          cbv
          refine R.cutB Sum.inl (fun _ _ e => Sum.inl.inj e) h [] (fun p20 => []) (fun p20 => []) (by kernel_rfl) (by kernel_rfl) (fun y19 hy hFy19 L hLy19 => ?_) (fun p20 h2 => ?_)
          · clear h; have h := hy; clear hy; cbv
            refine R.cut' (by kernel_rfl) (by kernel_rfl) ?_
            cbv
            refine R.brD h (by (first | rfl | (simp only [D.har, D.hcmp, D.hcv, D.hge0, D.hne0]; done) | (simp only [D.har, D.hcmp, D.hcv, D.hge0, D.hne0]; rfl))) ?_ ?_ <;> clear h <;> intro h <;> cbv
            · obtain ⟨s', e, hi⟩ := jn_some Sum.inl h
              refine hLy19 s' _ _ hi ⟨rfl, ?_, ?_, rfl, rfl⟩ <;> cbv <;> (try (subst e; simp only [D.har, D.hcmp, D.hcv, D.hge0, D.hne0, and_self, and_true, true_and] <;> (repeat' apply And.intro) <;> rfl))
            · refine R.brD h (by (first | rfl | (simp only [D.har, D.hcmp, D.hcv, D.hge0, D.hne0]; done) | (simp only [D.har, D.hcmp, D.hcv, D.hge0, D.hne0]; rfl))) ?_ ?_ <;> clear h <;> intro h <;> cbv
              · obtain ⟨s', e, hi⟩ := jn_some Sum.inl h
                refine hLy19 s' _ _ hi ⟨rfl, ?_, ?_, rfl, rfl⟩ <;> cbv <;> (try (subst e; simp only [D.har, D.hcmp, D.hcv, D.hge0, D.hne0, and_self, and_true, true_and] <;> (repeat' apply And.intro) <;> rfl))
              · have e := ret_some h; clear h
                have h := hFy19; rw [e] at h; clear e; try dsimp only at h
                cbv
                have e := inr_some h houts14; clear h
                have h := hFs14; rw [e] at h; clear e; try dsimp only at h
                cbv
                obtain ⟨s', e, hi⟩ := jn_some (fun p => p) h
                refine hLy10 s' _ _ hi ⟨rfl, ?_, ?_, rfl, rfl⟩ <;> cbv <;> (try (subst e; simp only [D.har, D.hcmp, D.hcv, D.hge0, D.hne0, and_self, and_true, true_and] <;> (repeat' apply And.intro) <;> rfl))
          · clear h; have h := h2; clear h2; try dsimp only at h
            cbv
            refine R.brD h (by (first | rfl | (simp only [D.har, D.hcmp, D.hcv, D.hge0, D.hne0]; done) | (simp only [D.har, D.hcmp, D.hcv, D.hge0, D.hne0]; rfl))) ?_ ?_ <;> clear h <;> intro h <;> cbv
            · have e := inr_some h houts14; clear h
              have h := hFs14; rw [e] at h; clear e; try dsimp only at h
              cbv
              obtain ⟨s', e, hi⟩ := jn_some (fun p => p) h
              refine hLy10 s' _ _ hi ⟨rfl, ?_, ?_, rfl, rfl⟩ <;> cbv <;> (try (subst e; simp only [D.har, D.hcmp, D.hcv, D.hge0, D.hne0, and_self, and_true, true_and] <;> (repeat' apply And.intro) <;> rfl))
            · obtain ⟨s', e, hi⟩ := inl_some h hins14
              refine hLs14 s' _ _ hi ⟨rfl, ?_, ?_, rfl, rfl⟩ <;> cbv <;> (try (subst e; simp only [D.har, D.hcmp, D.hcv, D.hge0, D.hne0, and_self, and_true, true_and] <;> (repeat' apply And.intro) <;> rfl))
        · clear h; have h := h2; clear h2; try dsimp only at h
          cbv
          refine R.needD h (by (first | rfl | (simp only [D.har, D.hcmp, D.hcv, D.hge0, D.hne0]; done) | (simp only [D.har, D.hcmp, D.hcv, D.hge0, D.hne0]; rfl))) ?_
          clear h; intro h; cbv
          refine R.cutB (fun p => p) (fun _ _ e => e) h [] (fun p45 => [(18, .i .u64 p45)]) (fun p45 => []) (by kernel_rfl) (by kernel_rfl) (fun y32 hy hFy32 L hLy32 => ?_) (fun p45 h2 => ?_)
          · clear h; have h := hy; clear hy; cbv
            refine R.loopD h (fun s0 y40 e0 hi hFs36 => ?_)
            clear h
            refine R.loopI hi [] (fun s36 => [(16, .i .u64 s36.1), (18, .i .u64 s36.2)]) (fun s36 => []) ⟨rfl, ?_, ?_, rfl, rfl⟩ (by kernel_rfl) ?_
            · cbv; try (subst e0; simp only [D.har, D.hcmp, D.hcv, D.hge0, D.hne0, and_self, and_true, true_and] <;> (repeat' apply And.intro) <;> rfl)
            · cbv; try (subst e0; simp only [D.har, D.hcmp, D.hcv, D.hge0, D.hne0, and_self, and_true, true_and] <;> (repeat' apply And.intro) <;> rfl)
            clear hi e0
            intro s36 m y' hy hins36 houts36 L hLs36
            have h := hy; clear hy; unfold d86_b2 at h
            cbv
            refine R.cutB Sum.inl (fun _ _ e => Sum.inl.inj e) h [] (fun p42 => []) (fun p42 => []) (by kernel_rfl) (by kernel_rfl) (fun y41 hy hFy41 L hLy41 => ?_) (fun p42 h2 => ?_)
            · clear h; have h := hy; clear hy; cbv
              refine R.cut' (by kernel_rfl) (by kernel_rfl) ?_
              cbv
              refine R.brD h (by (first | rfl | (simp only [D.har, D.hcmp, D.hcv, D.hge0, D.hne0]; done) | (simp only [D.har, D.hcmp, D.hcv, D.hge0, D.hne0]; rfl))) ?_ ?_ <;> clear h <;> intro h <;> cbv
              · obtain ⟨s', e, hi⟩ := jn_some Sum.inl h
                refine hLy41 s' _ _ hi ⟨rfl, ?_, ?_, rfl, rfl⟩ <;> cbv <;> (try (subst e; simp only [D.har, D.hcmp, D.hcv, D.hge0, D.hne0, and_self, and_true, true_and] <;> (repeat' apply And.intro) <;> rfl))
              · refine R.brD h (by (first | rfl | (simp only [D.har, D.hcmp, D.hcv, D.hge0, D.hne0]; done) | (simp only [D.har, D.hcmp, D.hcv, D.hge0, D.hne0]; rfl))) ?_ ?_ <;> clear h <;> intro h <;> cbv
                · obtain ⟨s', e, hi⟩ := jn_some Sum.inl h
                  refine hLy41 s' _ _ hi ⟨rfl, ?_, ?_, rfl, rfl⟩ <;> cbv <;> (try (subst e; simp only [D.har, D.hcmp, D.hcv, D.hge0, D.hne0, and_self, and_true, true_and] <;> (repeat' apply And.intro) <;> rfl))
                · have e := ret_some h; clear h
                  have h := hFy41; rw [e] at h; clear e; try dsimp only at h
                  cbv
                  have e := inr_some h houts36; clear h
                  have h := hFs36; rw [e] at h; clear e; try dsimp only at h
                  cbv
                  obtain ⟨s', e, hi⟩ := jn_some (fun p => p) h
                  refine hLy32 s' _ _ hi ⟨rfl, ?_, ?_, rfl, rfl⟩ <;> cbv <;> (try (subst e; simp only [D.har, D.hcmp, D.hcv, D.hge0, D.hne0, and_self, and_true, true_and] <;> (repeat' apply And.intro) <;> rfl))
            · clear h; have h := h2; clear h2; try dsimp only at h
              cbv
              refine R.brD h (by (first | rfl | (simp only [D.har, D.hcmp, D.hcv, D.hge0, D.hne0]; done) | (simp only [D.har, D.hcmp, D.hcv, D.hge0, D.hne0]; rfl))) ?_ ?_ <;> clear h <;> intro h <;> cbv
              · have e := inr_some h houts36; clear h
                have h := hFs36; rw [e] at h; clear e; try dsimp only at h
                cbv
                obtain ⟨s', e, hi⟩ := jn_some (fun p => p) h
                refine hLy32 s' _ _ hi ⟨rfl, ?_, ?_, rfl, rfl⟩ <;> cbv <;> (try (subst e; simp only [D.har, D.hcmp, D.hcv, D.hge0, D.hne0, and_self, and_true, true_and] <;> (repeat' apply And.intro) <;> rfl))
              · obtain ⟨s', e, hi⟩ := inl_some h hins36
                refine hLs36 s' _ _ hi ⟨rfl, ?_, ?_, rfl, rfl⟩ <;> cbv <;> (try (subst e; simp only [D.har, D.hcmp, D.hcv, D.hge0, D.hne0, and_self, and_true, true_and] <;> (repeat' apply And.intro) <;> rfl))
          · clear h; have h := h2; clear h2; try dsimp only at h
            cbv
            refine R.needD h (by (first | rfl | (simp only [D.har, D.hcmp, D.hcv, D.hge0, D.hne0]; done) | (simp only [D.har, D.hcmp, D.hcv, D.hge0, D.hne0]; rfl))) ?_
            clear h; intro h; cbv
            have e := ret_some h; clear h
            refine hK _ _ ?_
            cbv
            try (subst e; simp only [D.har, D.hcmp, D.hcv, D.hge0, D.hne0, and_self, and_true, true_and] <;> (repeat' apply And.intro) <;> rfl)

noncomputable def d68 (a0_0 : Int) (a0_1 : Bool) (a1 : Int) (a2 : Int) : Option (Int × Int) :=
  (d44 a0_0 a0_1).bind fun x3 =>
  if x3 = true then
    (d86 0 (wrapK .u64 a1) (wrapK .u64 a2)).bind fun x4 =>
    some ((wrapK .i64 x4.1), (wrapK .i64 x4.2))
  else
    if (cmpLit .eql a2 (-1)) = true then
      some ((unReal .neg .i64 a1), 0)
    else
      if (Ne0 a2) then
        if (Ne0 a2) then
          some ((arReal .quo .i64 a1 a2), (arReal .rem .i64 a1 a2))
        else none
      else none
noncomputable def w68_c : Code := (Try.f68.body).getD .skip
theorem w68_h : Try.f68.body = some w68_c := by kernel_rfl
theorem w68 (a0_0 : Int) (a0_1 : Bool) (a1 : Int) (a2 : Int) (r : Int × Int) (h : d68 a0_0 a0_1 a1 a2 = some r) : Ab.Fn Try.prog TT 68 [.agg [.i .i64 a0_0, .b a0_1], .i .i64 a1, .i .i64 a2] (.tup [.i .i64 r.1, .i .i64 r.2]) [] := by
  refine fn_pure tok (fun r => match r with | 6 => [[],[],[0,1],[],[],[3,4],[0,1,2],[0,1,2,3,4,5,6]] | _ => []) Try.func68 (by kernel_rfl) w68_h (by kernel_rfl) ?_
  intro ar un cv mn mx pl mi cmp nt beq an scmp cat slen sbyte ssub ofB toB len gi gb gs gl sub put app ovl rep ne0 ge0 inb bnd room sroom need br call loop cut nl E R K hK
  have D := E.D
  clear E
  unfold d68 at h
  cbv
  refine R.cut' (by kernel_rfl) (by kernel_rfl) ?_
  cbv
  refine R.callD h (fun x3 hx3 h2 => ?_)
  clear h; have h := h2; clear h2
  refine R.call' (w44 _ _ _ hx3) (by (first | rfl | (simp only [D.har, D.hcmp, D.hcv, D.hne0, D.hun]; done) | (simp only [D.har, D.hcmp, D.hcv, D.hne0, D.hun]; rfl))) ?_
  clear hx3; cbv
  refine R.brD h (by (first | rfl | (simp only [D.har, D.hcmp, D.hcv, D.hne0, D.hun]; done) | (simp only [D.har, D.hcmp, D.hcv, D.hne0, D.hun]; rfl))) ?_ ?_ <;> clear h <;> intro h <;> cbv
  · refine R.callD h (fun x4 hx4 h2 => ?_)
    clear h; have h := h2; clear h2
    refine R.call' (w86 _ _ _ _ hx4) (by (first | rfl | (simp only [D.har, D.hcmp, D.hcv, D.hne0, D.hun]; done) | (simp only [D.har, D.hcmp, D.hcv, D.hne0, D.hun]; rfl))) ?_
    clear hx4; cbv
    have e := ret_some h; clear h
    refine hK _ _ ?_
    cbv
    try (subst e; simp only [D.har, D.hcmp, D.hcv, D.hne0, D.hun, and_self, and_true, true_and] <;> (repeat' apply And.intro) <;> rfl)
  · refine R.cut' (by kernel_rfl) (by kernel_rfl) ?_
    cbv
    refine R.brD h (by (first | rfl | (simp only [D.har, D.hcmp, D.hcv, D.hne0, D.hun]; done) | (simp only [D.har, D.hcmp, D.hcv, D.hne0, D.hun]; rfl))) ?_ ?_ <;> clear h <;> intro h <;> cbv
    · have e := ret_some h; clear h
      refine hK _ _ ?_
      cbv
      try (subst e; simp only [D.har, D.hcmp, D.hcv, D.hne0, D.hun, and_self, and_true, true_and] <;> (repeat' apply And.intro) <;> rfl)
    · refine R.needD h (by (first | rfl | (simp only [D.har, D.hcmp, D.hcv, D.hne0, D.hun]; done) | (simp only [D.har, D.hcmp, D.hcv, D.hne0, D.hun]; rfl))) ?_
      clear h; intro h; cbv
      refine R.needD h (by (first | rfl | (simp only [D.har, D.hcmp, D.hcv, D.hne0, D.hun]; done) | (simp only [D.har, D.hcmp, D.hcv, D.hne0, D.hun]; rfl))) ?_
      clear h; intro h; cbv
      have e := ret_some h; clear h
      refine hK _ _ ?_
      cbv
      try (subst e; simp only [D.har, D.hcmp, D.hcv, D.hne0, D.hun, and_self, and_true, true_and] <;> (repeat' apply And.intro) <;> rfl)

noncomputable def d67 (a0_0 : Int) (a0_1 : Bool) (a1 : Int) (a2 : Int) : Option (Int) :=
  (d68 a0_0 a0_1 a1 a2).bind fun x1 =>
  some x1.1
noncomputable def w67_c : Code := (Try.f67.body).getD .skip
theorem w67_h : Try.f67.body = some w67_c := by kernel_rfl
theorem w67 (a0_0 : Int) (a0_1 : Bool) (a1 : Int) (a2 : Int) (r : Int) (h : d67 a0_0 a0_1 a1 a2 = some r) : Ab.Fn Try.prog TT 67 [.agg [.i .i64 a0_0, .b a0_1], .i .i64 a1, .i .i64 a2] (.i .i64 r) [] := by
  refine fn_pure tok W0 Try.func67 (by kernel_rfl) w67_h (by kernel_rfl) ?_
  intro ar un cv mn mx pl mi cmp nt beq an scmp cat slen sbyte ssub ofB toB len gi gb gs gl sub put app ovl rep ne0 ge0 inb bnd room sroom need br call loop cut nl E R K hK
  have D := E.D
  clear E
  unfold d67 at h
  cbv
  refine R.callD h (fun x1 hx1 h2 => ?_)
  clear h; have h := h2; clear h2
  refine R.call' (w68 _ _ _ _ _ hx1) (by rfl) ?_
  clear hx1; cbv
  have e := ret_some h; clear h
  refine hK _ _ ?_
  cbv
  try (subst e; simp only [and_self, and_true, true_and] <;> (repeat' apply And.intro) <;> rfl)

noncomputable def d69 (a0_0 : Int) (a0_1 : Bool) (a1 : Int) (a2 : Int) : Option (Int) :=
  (d68 a0_0 a0_1 a1 a2).bind fun x1 =>
  some x1.2
noncomputable def w69_c : Code := (Try.f69.body).getD .skip
theorem w69_h : Try.f69.body = some w69_c := by kernel_rfl
theorem w69 (a0_0 : Int) (a0_1 : Bool) (a1 : Int) (a2 : Int) (r : Int) (h : d69 a0_0 a0_1 a1 a2 = some r) : Ab.Fn Try.prog TT 69 [.agg [.i .i64 a0_0, .b a0_1], .i .i64 a1, .i .i64 a2] (.i .i64 r) [] := by
  refine fn_pure tok W0 Try.func69 (by kernel_rfl) w69_h (by kernel_rfl) ?_
  intro ar un cv mn mx pl mi cmp nt beq an scmp cat slen sbyte ssub ofB toB len gi gb gs gl sub put app ovl rep ne0 ge0 inb bnd room sroom need br call loop cut nl E R K hK
  have D := E.D
  clear E
  unfold d69 at h
  cbv
  refine R.callD h (fun x1 hx1 h2 => ?_)
  clear h; have h := h2; clear h2
  refine R.call' (w68 _ _ _ _ _ hx1) (by rfl) ?_
  clear hx1; cbv
  have e := ret_some h; clear h
  refine hK _ _ ?_
  cbv
  try (subst e; simp only [and_self, and_true, true_and] <;> (repeat' apply And.intro) <;> rfl)

noncomputable def d70 (a0 : Int) : Option (Bool) :=
  some (cmpLit .lss a0 0)
noncomputable def w70_c : Code := (Try.f70.body).getD .skip
theorem w70_h : Try.f70.body = some w70_c := by kernel_rfl
theorem w70 (a0 : Int) (r : Bool) (h : d70 a0 = some r) : Ab.Fn Try.prog TT 70 [.i .i64 a0] (.b r) [] := by
  refine fn_pure tok W0 Try.func70 (by kernel_rfl) w70_h (by kernel_rfl) ?_
  intro ar un cv mn mx pl mi cmp nt beq an scmp cat slen sbyte ssub ofB toB len gi gb gs gl sub put app ovl rep ne0 ge0 inb bnd room sroom need br call loop cut nl E R K hK
  have D := E.D
  clear E
  unfold d70 at h
  cbv
  have e := ret_some h; clear h
  refine hK _ _ ?_
  cbv
  try (subst e; simp only [D.hcmp, and_self, and_true, true_and] <;> (repeat' apply And.intro) <;> rfl)

noncomputable def d71 (a0 : Int) : Option (Bool) :=
  some (cmpLit .leq a0 0)
noncomputable def w71_c : Code := (Try.f71.body).getD .skip
theorem w71_h : Try.f71.body = some w71_c := by kernel_rfl
theorem w71 (a0 : Int) (r : Bool) (h : d71 a0 = some r) : Ab.Fn Try.prog TT 71 [.i .i64 a0] (.b r) [] := by
  refine fn_pure tok W0 Try.func71 (by kernel_rfl) w71_h (by kernel_rfl) ?_
  intro ar un cv mn mx pl mi cmp nt beq an scmp cat slen sbyte ssub ofB toB len gi gb gs gl sub put app ovl rep ne0 ge0 inb bnd room sroom need br call loop cut nl E R K hK
  have D := E.D
  clear E
  unfold d71 at h
  cbv
  have e := ret_some h; clear h
  refine hK _ _ ?_
  cbv
  try (subst e; simp only [D.hcmp, and_self, and_true, true_and] <;> (repeat' apply And.intro) <;> rfl)

noncomputable def d72 (a0 : Int) : Option (Bool) :=
  some (cmpLit .gtr a0 0)
noncomputable def w72_c : Code := (Try.f72.body).getD .skip
theorem w72_h : Try.f72.body = some w72_c := by kernel_rfl
theorem w72 (a0 : Int) (r : Bool) (h : d72 a0 = some r) : Ab.Fn Try.prog TT 72 [.i .i64 a0] (.b r) [] := by
  refine fn_pure tok W0 Try.func72 (by kernel_rfl) w72_h (by kernel_rfl) ?_
  intro ar un cv mn mx pl mi cmp nt beq an scmp cat slen sbyte ssub ofB toB len gi gb gs gl sub put app ovl rep ne0 ge0 inb bnd room sroom need br call loop cut nl E R K hK
  have D := E.D
  clear E
  unfold d72 at h
  cbv
  have e := ret_some h; clear h
  refine hK _ _ ?_
  cbv
  try (subst e; simp only [D.hcmp, and_self, and_true, true_and] <;> (repeat' apply And.intro) <;> rfl)

noncomputable def d73 (a0 : Int) : Option (Bool) :=
  some (cmpLit .geq a0 0)
noncomputable def w73_c : Code := (Try.f73.body).getD .skip
theorem w73_h : Try.f73.body = some w73_c := by kernel_rfl
theorem w73 (a0 : Int) (r : Bool) (h : d73 a0 = some r) : Ab.Fn Try.prog TT 73 [.i .i64 a0] (.b r) [] := by
  refine fn_pure tok W0 Try.func73 (by kernel_rfl) w73_h (by kernel_rfl) ?_
  intro ar un cv mn mx pl mi cmp nt beq an scmp cat slen sbyte ssub ofB toB len gi gb gs gl sub put app ovl rep ne0 ge0 inb bnd room sroom need br call loop cut nl E R K hK
  have D := E.D
  clear E
  unfold d73 at h
  cbv
  have e := ret_some h; clear h
  refine hK _ _ ?_
  cbv
  try (subst e; simp only [D.hcmp, and_self, and_true, true_and] <;> (repeat' apply And.intro) <;> rfl)

noncomputable def d74 (a0 : Int) : Option (Bool) :=
  some (cmpLit .eql a0 0)
noncomputable def w74_c : Code := (Try.f74.body).getD .skip
theorem w74_h : Try.f74.body = some w74_c := by kernel_rfl
theorem w74 (a0 : Int) (r : Bool) (h : d74 a0 = some r) : Ab.Fn Try.prog TT 74 [.i .i64 a0] (.b r) [] := by
  refine fn_pure tok W0 Try.func74 (by kernel_rfl) w74_h (by kernel_rfl) ?_
  intro ar un cv mn mx pl mi cmp nt beq an scmp cat slen sbyte ssub ofB toB len gi gb gs gl sub put app ovl rep ne0 ge0 inb bnd room sroom need br call loop cut nl E R K hK
  have D := E.D
  clear E
  unfold d74 at h
  cbv
  have e := ret_some h; clear h
  refine hK _ _ ?_
  cbv
  try (subst e; simp only [D.hcmp, and_self, and_true, true_and] <;> (repeat' apply And.intro) <;> rfl)

noncomputable def d75 (a0 : Int) : Option (Bool) :=
  some (cmpLit .neq a0 0)
noncomputable def w75_c : Code := (Try.f75.body).getD .skip
theorem w75_h : Try.f75.body = some w75_c := by kernel_rfl
theorem w75 (a0 : Int) (r : Bool) (h : d75 a0 = some r) : Ab.Fn Try.prog TT 75 [.i .i64 a0] (.b r) [] := by
  refine fn_pure tok W0 Try.func75 (by kernel_rfl) w75_h (by kernel_rfl) ?_
  intro ar un cv mn mx pl mi cmp nt beq an scmp cat slen sbyte ssub ofB toB len gi gb gs gl sub put app ovl rep ne0 ge0 inb bnd room sroom need br call loop cut nl E R K hK
  have D := E.D
  clear E
  unfold d75 at h
  cbv
  have e := ret_some h; clear h
  refine hK _ _ ?_
  cbv
  try (subst e; simp only [D.hcmp, and_self, and_true, true_and] <;> (repeat' apply And.intro) <;> rfl)

noncomputable def d87 (a0 : Int) : Option (Bool) :=
  some (cmpLit .neq a0 a0)
noncomputable def w87_c : Code := (Try.f87.body).getD .skip
theorem w87_h : Try.f87.body = some w87_c := by kernel_rfl
theorem w87 (a0 : Int) (r : Bool) (h : d87 a0 = some r) : Ab.Fn Try.prog TT 87 [.i .u64 a0] (.b r) [] := by
  refine fn_pure tok W0 Try.func87 (by kernel_rfl) w87_h (by kernel_rfl) ?_
  intro ar un cv mn mx pl mi cmp nt beq an scmp cat slen sbyte ssub ofB toB len gi gb gs gl sub put app ovl rep ne0 ge0 inb bnd room sroom need br call loop cut nl E R K hK
  have D := E.D
  clear E
  unfold d87 at h
  cbv
  have e := ret_some h; clear h
  refine hK _ _ ?_
  cbv
  try (subst e; simp only [D.hcmp, and_self, and_true, true_and] <;> (repeat' apply And.intro) <;> rfl)
end Go.Proofs.Ytjcabmhnekcbgaa
end
section
namespace Go.Proofs.Ytjcabmhnekcbgaa
open Go.Ab Go.RowKit 
set_option maxRecDepth 100000
set_option maxHeartbeats 4000000
noncomputable def d76 (a0 : Int) (a1 : Int) : Option (Int) :=
  (d87 a0).bind fun x1 =>
  (d87 a1).bind fun x2 =>
  if x1 = true then
    if x2 = true then
      some 0
    else
      some (-1)
  else
    if x2 = true then
      some 1
    else
      if (cmpLit .lss a0 a1) = true then
        some (-1)
      else
        if (cmpLit .gtr a0 a1) = true then
          some 1
        else
          some 0
noncomputable def w76_c : Code := (Try.f76.body).getD .skip
theorem w76_h : Try.f76.body = some w76_c := by kernel_rfl
theorem w76 (a0 : Int) (a1 : Int) (r : Int) (h : d76 a0 a1 = some r) : Ab.Fn Try.prog TT 76 [.i .u64 a0, .i .u64 a1] (.i .i64 r) [] := by
  refine fn_pure tok W0 Try.func76 (by kernel_rfl) w76_h (by kernel_rfl) ?_
  intro ar un cv mn mx pl mi cmp nt beq an scmp cat slen sbyte ssub ofB toB len gi gb gs gl sub put app ovl rep ne0 ge0 inb bnd room sroom need br call loop cut nl E R K hK
  have D := E.D
  clear E
  unfold d76 at h
  cbv
  refine R.callD h (fun x1 hx1 h2 => ?_)
  clear h; have h := h2; clear h2
  refine R.call' (w87 _ _ hx1) (by (first | rfl | (simp only [D.hcmp]; done) | (simp only [D.hcmp]; rfl))) ?_
  clear hx1; cbv
  refine R.callD h (fun x2 hx2 h2 => ?_)
  clear h; have h := h2; clear h2
  refine R.call' (w87 _ _ hx2) (by (first | rfl | (simp only [D.hcmp]; done) | (simp only [D.hcmp]; rfl))) ?_
  clear hx2; cbv
  refine R.cut' (by kernel_rfl) (by kernel_rfl) ?_
  cbv
  refine R.brD h (by (first | rfl | (simp only [D.hcmp]; done) | (simp only [D.hcmp]; rfl))) ?_ ?_ <;> clear h <;> intro h <;> cbv
  · refine R.cut' (by kernel_rfl) (by kernel_rfl) ?_
    cbv
    refine R.brD h (by (first | rfl | (simp only [D.hcmp]; done) | (simp only [D.hcmp]; rfl))) ?_ ?_ <;> clear h <;> intro h <;> cbv
    · have e := ret_some h; clear h
      refine hK _ _ ?_
      cbv
      try (subst e; simp only [D.hcmp, and_self, and_true, true_and] <;> (repeat' apply And.intro) <;> rfl)
    · have e := ret_some h; clear h
      refine hK _ _ ?_
      cbv
      try (subst e; simp only [D.hcmp, and_self, and_true, true_and] <;> (repeat' apply And.intro) <;> rfl)
  · refine R.cut' (by kernel_rfl) (by kernel_rfl) ?_
    cbv
    refine R.brD h (by (first | rfl | (simp only [D.hcmp]; done) | (simp only [D.hcmp]; rfl))) ?_ ?_ <;> clear h <;> intro h <;> cbv
    · have e := ret_some h; clear h
      refine hK _ _ ?_
      cbv
      try (subst e; simp only [D.hcmp, and_self, and_true, true_and] <;> (repeat' apply And.intro) <;> rfl)
    · refine R.cut' (by kernel_rfl) (by kernel_rfl) ?_
      cbv
      refine R.brD h (by (first | rfl | (simp only [D.hcmp]; done) | (simp only [D.hcmp]; rfl))) ?_ ?_ <;> clear h <;> intro h <;> cbv
      · have e := ret_some h; clear h
        refine hK _ _ ?_
        cbv
        try (subst e; simp only [D.hcmp, and_self, and_true, true_and] <;> (repeat' apply And.intro) <;> rfl)
      · refine R.cut' (by kernel_rfl) (by kernel_rfl) ?_
        cbv
        refine R.brD h (by (first | rfl | (simp only [D.hcmp]; done) | (simp only [D.hcmp]; rfl))) ?_ ?_ <;> clear h <;> intro h <;> cbv
        · have e := ret_some h; clear h
          refine hK _ _ ?_
          cbv
          try (subst e; simp only [D.hcmp, and_self, and_true, true_and] <;> (repeat' apply And.intro) <;> rfl)
        · have e := ret_some h; clear h
          refine hK _ _ ?_
          cbv
          try (subst e; simp only [D.hcmp, and_self, and_true, true_and] <;> (repeat' apply And.intro) <;> rfl)

noncomputable def d88 (a0 : Int) : Option (Bool) :=
  some (cmpLit .neq a0 a0)
noncomputable def w88_c : Code := (Try.f88.body).getD .skip
theorem w88_h : Try.f88.body = some w88_c := by kernel_rfl
theorem w88 (a0 : Int) (r : Bool) (h : d88 a0 = some r) : Ab.Fn Try.prog TT 88 [.i .i64 a0] (.b r) [] := by
  refine fn_pure tok W0 Try.func88 (by kernel_rfl) w88_h (by kernel_rfl) ?_
  intro ar un cv mn mx pl mi cmp nt beq an scmp cat slen sbyte ssub ofB toB len gi gb gs gl sub put app ovl rep ne0 ge0 inb bnd room sroom need br call loop cut nl E R K hK
  have D := E.D
  clear E
  unfold d88 at h
  cbv
  have e := ret_some h; clear h
  refine hK _ _ ?_
  cbv
  try (subst e; simp only [D.hcmp, and_self, and_true, true_and] <;> (repeat' apply And.intro) <;> rfl)

noncomputable def d77 (a0 : Int) (a1 : Int) : Option (Int) :=
  (d88 a0).bind fun x1 =>
  (d88 a1).bind fun x2 =>
  if x1 = true then
    if x2 = true then
      some 0
    else
      some (-1)
  else
    if x2 = true then
      some 1
    else
      if (cmpLit .lss a0 a1) = true then
        some (-1)
      else
        if (cmpLit .gtr a0 a1) = true then
          some 1
        else
          some 0
noncomputable def w77_c : Code := (Try.f77.body).getD .skip
theorem w77_h : Try.f77.body = some w77_c := by kernel_rfl
theorem w77 (a0 : Int) (a1 : Int) (r : Int) (h : d77 a0 a1 = some r) : Ab.Fn Try.prog TT 77 [.i .i64 a0, .i .i64 a1] (.i .i64 r) [] := by
  refine fn_pure tok W0 Try.func77 (by kernel_rfl) w77_h (by kernel_rfl) ?_
  intro ar un cv mn mx pl mi cmp nt beq an scmp cat slen sbyte ssub ofB toB len gi gb gs gl sub put app ovl rep ne0 ge0 inb bnd room sroom need br call loop cut nl E R K hK
  have D := E.D
  clear E
  unfold d77 at h
  cbv
  refine R.callD h (fun x1 hx1 h2 => ?_)
  clear h; have h := h2; clear h2
  refine R.call' (w88 _ _ hx1) (by (first | rfl | (simp only [D.hcmp]; done) | (simp only [D.hcmp]; rfl))) ?_
  clear hx1; cbv
  refine R.callD h (fun x2 hx2 h2 => ?_)
  clear h; have h := h2; clear h2
  refine R.call' (w88 _ _ hx2) (by (first | rfl | (simp only [D.hcmp]; done) | (simp only [D.hcmp]; rfl))) ?_
  clear hx2; cbv
  refine R.cut' (by kernel_rfl) (by kernel_rfl) ?_
  cbv
  refine R.brD h (by (first | rfl | (simp only [D.hcmp]; done) | (simp only [D.hcmp]; rfl))) ?_ ?_ <;> clear h <;> intro h <;> cbv
  · refine R.cut' (by kernel_rfl) (by kernel_rfl) ?_
    cbv
    refine R.brD h (by (first | rfl | (simp only [D.hcmp]; done) | (simp only [D.hcmp]; rfl))) ?_ ?_ <;> clear h <;> intro h <;> cbv
    · have e := ret_some h; clear h
      refine hK _ _ ?_
      cbv
      try (subst e; simp only [D.hcmp, and_self, and_true, true_and] <;> (repeat' apply And.intro) <;> rfl)
    · have e := ret_some h; clear h
      refine hK _ _ ?_
      cbv
      try (subst e; simp only [D.hcmp, and_self, and_true, true_and] <;> (repeat' apply And.intro) <;> rfl)
  · refine R.cut' (by kernel_rfl) (by kernel_rfl) ?_
    cbv
    refine R.brD h (by (first | rfl | (simp only [D.hcmp]; done) | (simp only [D.hcmp]; rfl))) ?_ ?_ <;> clear h <;> intro h <;> cbv
    · have e := ret_some h; clear h
      refine hK _ _ ?_
      cbv
      try (subst e; simp only [D.hcmp, and_self, and_true, true_and] <;> (repeat' apply And.intro) <;> rfl)
    · refine R.cut' (by kernel_rfl) (by kernel_rfl) ?_
      cbv
      refine R.brD h (by (first | rfl | (simp only [D.hcmp]; done) | (simp only [D.hcmp]; rfl))) ?_ ?_ <;> clear h <;> intro h <;> cbv
      · have e := ret_some h; clear h
        refine hK _ _ ?_
        cbv
        try (subst e; simp only [D.hcmp, and_self, and_true, true_and] <;> (repeat' apply And.intro) <;> rfl)
      · refine R.cut' (by kernel_rfl) (by kernel_rfl) ?_
        cbv
        refine R.brD h (by (first | rfl | (simp only [D.hcmp]; done) | (simp only [D.hcmp]; rfl))) ?_ ?_ <;> clear h <;> intro h <;> cbv
        · have e := ret_some h; clear h
          refine hK _ _ ?_
          cbv
          try (subst e; simp only [D.hcmp, and_self, and_true, true_and] <;> (repeat' apply And.intro) <;> rfl)
        · have e := ret_some h; clear h
          refine hK _ _ ?_
          cbv
          try (subst e; simp only [D.hcmp, and_self, and_true, true_and] <;> (repeat' apply And.intro) <;> rfl)

noncomputable def d38 (a0_0 : Int) (a0_1 : Bool) (a1 : Int) (a2 : Int) : Option (Int) :=
  (d44 a0_0 a0_1).bind fun x3 =>
  if x3 = true then
    (d76 (wrapK .u64 a1) (wrapK .u64 a2)).bind fun x4 =>
    some x4
  else
    (d77 a1 a2).bind fun x5 =>
    some x5
noncomputable def w38_c : Code := (Try.f38.body).getD .skip
theorem w38_h : Try.f38.body = some w38_c := by kernel_rfl
theorem w38 (a0_0 : Int) (a0_1 : Bool) (a1 : Int) (a2 : Int) (r : Int) (h : d38 a0_0 a0_1 a1 a2 = some r) : Ab.Fn Try.prog TT 38 [.agg [.i .i64 a0_0, .b a0_1], .i .i64 a1, .i .i64 a2] (.i .i64 r) [] := by
  refine fn_pure tok W0 Try.func38 (by kernel_rfl) w38_h (by kernel_rfl) ?_
  intro ar un cv mn mx pl mi cmp nt beq an scmp cat slen sbyte ssub ofB toB len gi gb gs gl sub put app ovl rep ne0 ge0 inb bnd room sroom need br call loop cut nl E R K hK
  have D := E.D
  clear E
  unfold d38 at h
  cbv
  refine R.cut' (by kernel_rfl) (by kernel_rfl) ?_
  cbv
  refine R.callD h (fun x3 hx3 h2 => ?_)
  clear h; have h := h2; clear h2
  refine R.call' (w44 _ _ _ hx3) (by (first | rfl | (simp only [D.hcv]; done) | (simp only [D.hcv]; rfl))) ?_
  clear hx3; cbv
  refine R.brD h (by (first | rfl | (simp only [D.hcv]; done) | (simp only [D.hcv]; rfl))) ?_ ?_ <;> clear h <;> intro h <;> cbv
  · refine R.callD h (fun x4 hx4 h2 => ?_)
    clear h; have h := h2; clear h2
    refine R.call' (w76 _ _ _ hx4) (by (first | rfl | (simp only [D.hcv]; done) | (simp only [D.hcv]; rfl))) ?_
    clear hx4; cbv
    have e := ret_some h; clear h
    refine hK _ _ ?_
    cbv
    try (subst e; simp only [D.hcv, and_self, and_true, true_and] <;> (repeat' apply And.intro) <;> rfl)
  · refine R.callD h (fun x5 hx5 h2 => ?_)
    clear h; have h := h2; clear h2
    refine R.call' (w77 _ _ _ hx5) (by (first | rfl | (simp only [D.hcv]; done) | (simp only [D.hcv]; rfl))) ?_
    clear hx5; cbv
    have e := ret_some h; clear h
    refine hK _ _ ?_
    cbv
    try (subst e; simp only [D.hcv, and_self, and_true, true_and] <;> (repeat' apply And.intro) <;> rfl)

noncomputable def d37 (a0 : Bool) : Option (Int) :=
  if a0 = true then
    some 1
  else
    some 0
noncomputable def w37_c : Code := (Try.f37.body).getD .skip
theorem w37_h : Try.f37.body = some w37_c := by kernel_rfl
theorem w37 (a0 : Bool) (r : Int) (h : d37 a0 = some r) : Ab.Fn Try.prog TT 37 [.b a0] (.i .i64 r) [] := by
  refine fn_pure tok W0 Try.func37 (by kernel_rfl) w37_h (by kernel_rfl) ?_
  intro ar un cv mn mx pl mi cmp nt beq an scmp cat slen sbyte ssub ofB toB len gi gb gs gl sub put app ovl rep ne0 ge0 inb bnd room sroom need br call loop cut nl E R K hK
  have D := E.D
  clear E
  unfold d37 at h
  cbv
  refine R.cut' (by kernel_rfl) (by kernel_rfl) ?_
  cbv
  refine R.brD h (by rfl) ?_ ?_ <;> clear h <;> intro h <;> cbv
  · have e := ret_some h; clear h
    refine hK _ _ ?_
    cbv
    try (subst e; simp only [and_self, and_true, true_and] <;> (repeat' apply And.intro) <;> rfl)
  · have e := ret_some h; clear h
    refine hK _ _ ?_
    cbv
    try (subst e; simp only [and_self, and_true, true_and] <;> (repeat' apply And.intro) <;> rfl)

noncomputable def d40 (a0_0 : Int) (a0_1 : Bool) : Option (Int) :=
  some (arReal .mul .i64 8 a0_0)
noncomputable def w40_c : Code := (Try.f40.body).getD .skip
theorem w40_h : Try.f40.body = some w40_c := by kernel_rfl
theorem w40 (a0_0 : Int) (a0_1 : Bool) (r : Int) (h : d40 a0_0 a0_1 = some r) : Ab.Fn Try.prog TT 40 [.agg [.i .i64 a0_0, .b a0_1]] (.i .i64 r) [] := by
  refine fn_pure tok W0 Try.func40 (by kernel_rfl) w40_h (by kernel_rfl) ?_
  intro ar un cv mn mx pl mi cmp nt beq an scmp cat slen sbyte ssub ofB toB len gi gb gs gl sub put app ovl rep ne0 ge0 inb bnd room sroom need br call loop cut nl E R K hK
  have D := E.D
  clear E
  unfold d40 at h
  cbv
  have e := ret_some h; clear h
  refine hK _ _ ?_
  cbv
  try (subst e; simp only [D.har, and_self, and_true, true_and] <;> (repeat' apply And.intro) <;> rfl)

noncomputable def d39 (a0 : Int) (a1_0 : Int) (a1_1 : Bool) (a2 : Int) (a3 : Int) : Option (Int) :=
  if (cmpLit .eql a0 9) = true then
    if (Ge0 a3) then
      (d32 a1_0 a1_1 (arReal .shl .i64 a2 a3)).bind fun x3 =>
      some x3
    else none
  else
    (d44 a1_0 a1_1).bind fun x4 =>
    if x4 = true then
      if (Ge0 a3) then
        some (wrapK .i64 (arReal .shr .u64 (wrapK .u64 a2) a3))
      else none
    else
      if (Ge0 a3) then
        some (arReal .shr .i64 a2 a3)
      else none
noncomputable def w39_c : Code := (Try.f39.body).getD .skip
theorem w39_h : Try.f39.body = some w39_c := by kernel_rfl
theorem w39 (a0 : Int) (a1_0 : Int) (a1_1 : Bool) (a2 : Int) (a3 : Int) (r : Int) (h : d39 a0 a1_0 a1_1 a2 a3 = some r) : Ab.Fn Try.prog TT 39 [.i .i64 a0, .agg [.i .i64 a1_0, .b a1_1], .i .i64 a2, .i .u64 a3] (.i .i64 r) [] := by
  refine fn_pure tok W0 Try.func39 (by kernel_rfl) w39_h (by kernel_rfl) ?_
  intro ar un cv mn mx pl mi cmp nt beq an scmp cat slen sbyte ssub ofB toB len gi gb gs gl sub put app ovl rep ne0 ge0 inb bnd room sroom need br call loop cut nl E R K hK
  have D := E.D
  clear E
  unfold d39 at h
  cbv
  refine R.cut' (by kernel_rfl) (by kernel_rfl) ?_
  cbv
  refine R.brD h (by (first | rfl | (simp only [D.har, D.hcmp, D.hcv, D.hge0]; done) | (simp only [D.har, D.hcmp, D.hcv, D.hge0]; rfl))) ?_ ?_ <;> clear h <;> intro h <;> cbv
  · refine R.needD h (by (first | rfl | (simp only [D.har, D.hcmp, D.hcv, D.hge0]; done) | (simp only [D.har, D.hcmp, D.hcv, D.hge0]; rfl))) ?_
    clear h; intro h; cbv
    refine R.callD h (fun x3 hx3 h2 => ?_)
    clear h; have h := h2; clear h2
    refine R.call' (w32 _ _ _ _ hx3) (by (first | rfl | (simp only [D.har, D.hcmp, D.hcv, D.hge0]; done) | (simp only [D.har, D.hcmp, D.hcv, D.hge0]; rfl))) ?_
    clear hx3; cbv
    have e := ret_some h; clear h
    refine hK _ _ ?_
    cbv
    try (subst e; simp only [D.har, D.hcmp, D.hcv, D.hge0, and_self, and_true, true_and] <;> (repeat' apply And.intro) <;> rfl)
  · refine R.callD h (fun x4 hx4 h2 => ?_)
    clear h; have h := h2; clear h2
    refine R.call' (w44 _ _ _ hx4) (by (first | rfl | (simp only [D.har, D.hcmp, D.hcv, D.hge0]; done) | (simp only [D.har, D.hcmp, D.hcv, D.hge0]; rfl))) ?_
    clear hx4; cbv
    refine R.brD h (by (first | rfl | (simp only [D.har, D.hcmp, D.hcv, D.hge0]; done) | (simp only [D.har, D.hcmp, D.hcv, D.hge0]; rfl))) ?_ ?_ <;> clear h <;> intro h <;> cbv
    · refine R.needD h (by (first | rfl | (simp only [D.har, D.hcmp, D.hcv, D.hge0]; done) | (simp only [D.har, D.hcmp, D.hcv, D.hge0]; rfl))) ?_
      clear h; intro h; cbv
      have e := ret_some h; clear h
      refine hK _ _ ?_
      cbv
      try (subst e; simp only [D.har, D.hcmp, D.hcv, D.hge0, and_self, and_true, true_and] <;> (repeat' apply And.intro) <;> rfl)
    · refine R.needD h (by (first | rfl | (simp only [D.har, D.hcmp, D.hcv, D.hge0]; done) | (simp only [D.har, D.hcmp, D.hcv, D.hge0]; rfl))) ?_
      clear h; intro h; cbv
      have e := ret_some h; clear h
      refine hK _ _ ?_
      cbv
      try (subst e; simp only [D.har, D.hcmp, D.hcv, D.hge0, and_self, and_true, true_and] <;> (repeat' apply And.intro) <;> rfl)
end Go.Proofs.Ytjcabmhnekcbgaa
end
