/- Texts of this seat, merged in build order. No statement of its own. -/
import Derived.Orders
import Derived.Test.YtjcabmhnekcbgaaProg
import Derived.OpenShut
import Derived.Deep.Slices
import Derived.OrdersHeld
import Derived.Deep.RegionHeld3
import Derived.Laws.BitsLemmas
import Derived.RowKit
import Derived.Test.YtjcabmhnekcbgaaC3
set_option linter.unusedVariables false
set_option linter.unusedSimpArgs false
section
/- Regions of open order. No statement of its own. -/

namespace Go.Ab
open Go.RowKit

def ordOk (ops : Array Oper) (W : List (List Nat)) : Bool := (List.range ops.size).all fun i => match ops[i]? with
  | some x => x.after.toList.all (fun e => !Region.binds .any e || decide (e.on < i)) &&
    (W.getD i []).all (fun j => x.after.toList.any fun e => Region.binds .any e && (e.on == j || memN j (W.getD e.on []))) &&
    (List.range i).all (fun j => memN j (W.getD i []) || match ops[j]? with | some y => y.apart ops x | none => false)
  | none => false

def tmB (b : Nat → Bool) : Nat → List V → List Ent → List V
  | _, tm, [] => tm
  | k, tm, e :: r => tmB b (k + 1) (if b k = true then setD tm e.d e.v else tm) r
def hpB (b : Nat → Bool) : Nat → Hp → List Ent → Hp
  | _, hp, [] => hp
  | k, hp, e :: r => hpB b (k + 1) (if b k = true then e.E ++ hp else hp) r

section
variable {P : Program} {T : Tr} {w0 : Base} {φ φ' φ2 : Nat → Option Loc} {w w' : World} {S S' S2 : Nat → Prop} {v : V} {hp : Hp} {b0 : Nat → Prop} {x : Oper} {a : Act} {ops : Array Oper} {b b' : Nat → Bool} {t n : Nat}

theorem setD_get {tm : List V} {d : Option Nat} : (setD tm d v).getD t .dead = if d = some t ∧ t < tm.length then v else tm.getD t .dead := by
  cases d with
  | none => simp [setD]
  | some k =>
    simp only [setD, getD_set, Option.some.injEq]
    by_cases h : k = t
    · subst h; simp
    · simp [h]
theorem setD_length {tm : List V} {d : Option Nat} : (setD tm d v).length = tm.length := by cases d <;> simp [setD]

theorem tmB_length : ∀ {es : List Ent} {k : Nat} {tm : List V}, (tmB b k tm es).length = tm.length
  | [], k, tm => rfl
  | e :: r, k, tm => by
    simp only [tmB]
    rw [tmB_length]
    split
    · exact setD_length
    · rfl

theorem tmB_congr : ∀ {es : List Ent} {k : Nat} {tm tm2 : List V}, tm.length = tm2.length → tm.getD t .dead = tm2.getD t .dead → (∀ j e, es[j]? = some e → e.d = some t → b (k + j) = b' (k + j)) → (tmB b k tm es).getD t .dead = (tmB b' k tm2 es).getD t .dead
  | [], k, tm, tm2, _, h, _ => h
  | e :: r, k, tm, tm2, hl, h, hb => by
    simp only [tmB]
    refine tmB_congr ?_ ?_ (fun j e' hj hd => ?_)
    · split <;> split <;> simp [setD_length, hl]
    · by_cases hd : e.d = some t
      · have := hb 0 e rfl hd
        rw [Nat.add_zero] at this
        rw [this]
        split
        · rw [setD_get, setD_get, hl, h]
        · exact h
      · have e1 : ∀ (c : Bool) (l : List V), (if c = true then setD l e.d e.v else l).getD t .dead = l.getD t .dead := fun c l => by
          split
          · rw [setD_get, if_neg (fun hh => hd hh.1)]
          · rfl
        rw [e1, e1, h]
    · have := hb (j + 1) e' hj hd
      rwa [show k + (j + 1) = k + 1 + j from by omega] at this

theorem hpB_congr : ∀ {es : List Ent} {k : Nat} {hp hp2 : Hp}, look hp n = look hp2 n → (∀ j e, es[j]? = some e → look e.E n ≠ none → b (k + j) = b' (k + j)) → look (hpB b k hp es) n = look (hpB b' k hp2 es) n
  | [], k, hp, hp2, h, _ => h
  | e :: r, k, hp, hp2, h, hb => by
    simp only [hpB]
    refine hpB_congr ?_ (fun j e' hj hd => ?_)
    · by_cases hd : look e.E n = none
      · have e1 : ∀ (c : Bool) (l : Hp), look (if c = true then e.E ++ l else l) n = look l n := fun c l => by
          split
          · rw [look_app, hd]
          · rfl
        rw [e1, e1, h]
      · have := hb 0 e rfl hd
        rw [Nat.add_zero] at this
        rw [this]
        split
        · rw [look_app, look_app, h]
        · exact h
    · have := hb (j + 1) e' hj hd
      rwa [show k + (j + 1) = k + 1 + j from by omega] at this

theorem tmB_keep : ∀ {es : List Ent} {k : Nat} {tm : List V}, (∀ j e, es[j]? = some e → b (k + j) = true → e.d ≠ some t) → (tmB b k tm es).getD t .dead = tm.getD t .dead
  | [], k, tm, _ => rfl
  | e :: r, k, tm, hb => by
    simp only [tmB]
    rw [tmB_keep (fun j e' hj hd => hb (j + 1) e' hj (by rwa [show k + (j + 1) = k + 1 + j from by omega]))]
    split
    · rename_i h
      rw [setD_get, if_neg (fun hh => hb 0 e rfl h hh.1)]
    · rfl

theorem hpB_keep : ∀ {es : List Ent} {k : Nat} {hp : Hp}, (∀ j e, es[j]? = some e → b (k + j) = true → look e.E n = none) → look (hpB b k hp es) n = look hp n
  | [], k, hp, _ => rfl
  | e :: r, k, hp, hb => by
    simp only [hpB]
    rw [hpB_keep (fun j e' hj hd => hb (j + 1) e' hj (by rwa [show k + (j + 1) = k + 1 + j from by omega]))]
    split
    · rename_i h
      rw [look_app, hb 0 e rfl h]
    · rfl

theorem tmB_last : ∀ {es : List Ent} {k i : Nat} {tm : List V} {e : Ent}, es[i]? = some e → b (k + i) = true → e.d = some t → t < tm.length → (∀ j e', i < j → es[j]? = some e' → b (k + j) = true → e'.d ≠ some t) → (tmB b k tm es).getD t .dead = e.v
  | c :: r, k, 0, tm, e, he, hb, hd, ht, hl => by
    simp only [List.getElem?_cons_zero, Option.some.injEq] at he
    subst he
    simp only [tmB]
    rw [if_pos (by simpa using hb), tmB_keep (fun j e' hj hb' => hl (j + 1) e' (by omega) hj (by rwa [show k + (j + 1) = k + 1 + j from by omega])), setD_get, if_pos ⟨hd, ht⟩]
  | c :: r, k, i + 1, tm, e, he, hb, hd, ht, hl => by
    simp only [List.getElem?_cons_succ] at he
    simp only [tmB]
    refine tmB_last he (by rwa [show k + 1 + i = k + (i + 1) from by omega]) hd ?_ (fun j e' hij hj hb' => hl (j + 1) e' (by omega) hj (by rwa [show k + (j + 1) = k + 1 + j from by omega]))
    split
    · rw [setD_length]; exact ht
    · exact ht

theorem hpB_last {c : Blk} : ∀ {es : List Ent} {k i : Nat} {hp : Hp} {e : Ent}, es[i]? = some e → b (k + i) = true → look e.E n = some c → (∀ j e', i < j → es[j]? = some e' → b (k + j) = true → look e'.E n = none) → look (hpB b k hp es) n = some c
  | d :: r, k, 0, hp, e, he, hb, hd, hl => by
    simp only [List.getElem?_cons_zero, Option.some.injEq] at he
    subst he
    simp only [hpB]
    rw [if_pos (by simpa using hb), hpB_keep (fun j e' hj hb' => hl (j + 1) e' (by omega) hj (by rwa [show k + (j + 1) = k + 1 + j from by omega])), look_app, hd]
  | d :: r, k, i + 1, hp, e, he, hb, hd, hl => by
    simp only [List.getElem?_cons_succ] at he
    simp only [hpB]
    exact hpB_last he (by rwa [show k + 1 + i = k + (i + 1) from by omega]) hd (fun j e' hij hj hb' => hl (j + 1) e' (by omega) hj (by rwa [show k + (j + 1) = k + 1 + j from by omega]))

theorem tmB_none : ∀ {es : List Ent} {k : Nat} {tm : List V}, (∀ j, k ≤ j → b j = false) → tmB b k tm es = tm
  | [], k, tm, _ => rfl
  | e :: r, k, tm, h => by
    simp only [tmB]
    rw [if_neg (by rw [h k (Nat.le_refl _)]; simp)]
    exact tmB_none (fun j hj => h j (by omega))
theorem hpB_none : ∀ {es : List Ent} {k : Nat} {hp : Hp}, (∀ j, k ≤ j → b j = false) → hpB b k hp es = hp
  | [], k, hp, _ => rfl
  | e :: r, k, hp, h => by
    simp only [hpB]
    rw [if_neg (by rw [h k (Nat.le_refl _)]; simp)]
    exact hpB_none (fun j hj => h j (by omega))

def At (P : Program) (T : Tr) (w0 : Base) (ops : Array Oper) (tm : List V) (hp : Hp) (x : Oper) (e : Ent) : Prop :=
  e.d = x.dst ∧ ((GuardIs ops tm x true ∧ Res P T (opF (real P T w0) T tm hp x) e.v e.E ∧ e.f = footOf tm x e.E) ∨ (GuardIs ops tm x false ∧ e.v = .tup [] ∧ e.E = []))

theorem trace_at : ∀ {l : List Oper} {tm : List V} {hp : Hp} {es : List Ent} {tm' : List V} {hp' : Hp} {k : Nat}, Trace P T w0 ops l tm hp es tm' hp' →
    es.length = l.length ∧ (∀ (i : Nat) (x : Oper), l[i]? = some x → ∃ e, es[i]? = some e ∧ At P T w0 ops (tmB (fun j => decide (j < k + i)) k tm es) (hpB (fun j => decide (j < k + i)) k hp es) x e) ∧
    (∀ b : Nat → Bool, (∀ j, j < l.length → b (k + j) = true) → tm' = tmB b k tm es ∧ hp' = hpB b k hp es) := by
  intro l tm hp es tm' hp' k ht
  induction ht generalizing k with
  | nil => exact ⟨rfl, fun i x h => (by simp at h), fun b _ => ⟨rfl, rfl⟩⟩
  | run hg hr _ ih =>
    rename_i x r tm hp v E es tm' hp' _
    obtain ⟨h1, h2, h3⟩ := ih (k := k + 1)
    refine ⟨by simp [h1], fun i y hy => ?_, fun b hb => ?_⟩
    · cases i with
      | zero =>
        simp only [List.getElem?_cons_zero, Option.some.injEq] at hy
        subst hy
        refine ⟨_, rfl, rfl, .inl ?_⟩
        rw [tmB_none (fun j hj => by simp; omega), hpB_none (fun j hj => by simp; omega)]
        exact ⟨hg, hr, rfl⟩
      | succ i =>
        simp only [List.getElem?_cons_succ] at hy ⊢
        obtain ⟨e, e1, e2⟩ := h2 i y hy
        refine ⟨e, e1, ?_⟩
        simp only [tmB, hpB]
        rw [if_pos (by simp), if_pos (by simp)]
        rwa [show k + 1 + i = k + (i + 1) from by omega] at e2
    · obtain ⟨k1, k2⟩ := h3 b (fun j hj => by have := hb (j + 1) (by simpa using hj); rwa [show k + (j + 1) = k + 1 + j from by omega] at this)
      have h0 := hb 0 (by simp)
      rw [Nat.add_zero] at h0
      simp only [tmB, hpB]
      rw [if_pos h0, if_pos h0]
      exact ⟨k1, k2⟩
  | skip hg _ ih =>
    rename_i x r tm hp es tm' hp' _
    obtain ⟨h1, h2, h3⟩ := ih (k := k + 1)
    refine ⟨by simp [h1], fun i y hy => ?_, fun b hb => ?_⟩
    · cases i with
      | zero =>
        simp only [List.getElem?_cons_zero, Option.some.injEq] at hy
        subst hy
        refine ⟨_, rfl, rfl, .inr ?_⟩
        rw [tmB_none (fun j hj => by simp; omega)]
        exact ⟨hg, rfl, rfl⟩
      | succ i =>
        simp only [List.getElem?_cons_succ] at hy ⊢
        obtain ⟨e, e1, e2⟩ := h2 i y hy
        refine ⟨e, e1, ?_⟩
        simp only [tmB, hpB]
        rw [if_pos (by simp), if_pos (by simp)]
        rwa [show k + 1 + i = k + (i + 1) from by omega] at e2
    · obtain ⟨k1, k2⟩ := h3 b (fun j hj => by have := hb (j + 1) (by simpa using hj); rwa [show k + (j + 1) = k + 1 + j from by omega] at this)
      have h0 := hb 0 (by simp)
      rw [Nat.add_zero] at h0
      simp only [tmB, hpB]
      rw [if_pos h0, if_pos h0]
      exact ⟨k1, k2⟩

theorem meets_false {a c : List Nat} (h : meets a c = false) : ∀ n, n ∈ a → n ∈ c → False := by
  intro n ha hc
  have : meets a c = true := by
    unfold meets
    rw [List.any_eq_true]
    exact ⟨n, ha, by rw [List.any_eq_true]; exact ⟨n, hc, by simp⟩⟩
  rw [this] at h
  cases h

def Free (f g : Foot) : Prop := meets f.wr g.wr = false ∧ meets f.wr g.rd = false ∧ meets f.rd g.wr = false

theorem apart1_spec {W : List (List Nat)} {i : Nat} {f : Foot} : ∀ {fs : List Foot} {k : Nat}, apart1 W i f k fs = true → ∀ j g, fs[j]? = some g → memN i (W.getD (k + j) []) = true ∨ Free f g
  | c :: r, k, h, j, g, hg => by
    simp only [apart1] at h
    have rest : apart1 W i f (k + 1) r = true → ∀ j g, r[j]? = some g → memN i (W.getD (k + (j + 1)) []) = true ∨ Free f g := fun h j g hj => by
      rw [show k + (j + 1) = k + 1 + j from by omega]; exact apart1_spec h j g hj
    split at h
    · rename_i hm
      split at h
      · rename_i hmem
        cases j with
        | zero => exact .inl hmem
        | succ j => exact rest h j g (by simpa using hg)
      · cases h
    · rename_i hm
      cases j with
      | zero =>
        simp only [List.getElem?_cons_zero, Option.some.injEq] at hg
        subst hg
        refine .inr ?_
        split at hm
        · cases hm
        · rename_i h1
          split at hm
          · cases hm
          · rename_i h2; exact ⟨h1, h2, hm⟩
      | succ j => exact rest h j g (by simpa using hg)

theorem apartF_spec {W : List (List Nat)} : ∀ {fs : List Foot} {k : Nat}, apartF W k fs = true → ∀ i j f g, i < j → fs[i]? = some f → fs[j]? = some g → memN (k + i) (W.getD (k + j) []) = true ∨ Free f g
  | c :: r, k, h, i, j, f, g, hij, hf, hg => by
    simp only [apartF] at h
    split at h
    · rename_i h1
      cases j with
      | zero => omega
      | succ j =>
        simp only [List.getElem?_cons_succ] at hg
        cases i with
        | zero =>
          simp only [List.getElem?_cons_zero, Option.some.injEq] at hf
          subst hf
          have := apart1_spec h1 j g hg
          rwa [show k + 1 + j = k + (j + 1) from by omega] at this
        | succ i =>
          simp only [List.getElem?_cons_succ] at hf
          have := apartF_spec h i j f g (by omega) hf hg
          rwa [show k + 1 + j = k + (j + 1) from by omega, show k + 1 + i = k + (i + 1) from by omega] at this
    · cases h

theorem Inv.congr {tm tm2 : List V} {hp2 : Hp} (h : Inv T w0 φ S tm hp a w) (hl : tm.length = tm2.length) (ht : ∀ t, tm.getD t .dead = tm2.getD t .dead) (hh : ∀ n, look hp n = look hp2 n) : Inv T w0 φ S tm2 hp2 a w :=
  ⟨h.since, by rw [← hl]; exact h.size, fun t => by rw [← ht]; exact h.tms t, h.dfr, h.heap.perm hh, h.anc⟩

theorem wr_of {tm : List V} {e : Ent} (he : At P T w0 ops tm hp x e) : look e.E n ≠ none → n ∈ e.f.wr := by
  intro hn
  have mem : ∀ {E : Hp}, look E n ≠ none → n ∈ E.map (·.1) := by
    intro E
    induction E with
    | nil => intro h; exact absurd rfl h
    | cons p r ih =>
      obtain ⟨k, c⟩ := p
      intro h
      rw [look_cons] at h
      by_cases e : k = n
      · subst e; simp
      · rw [if_neg e] at h; exact List.mem_cons_of_mem _ (ih h)
  rcases he.2 with ⟨_, _, h3⟩ | ⟨_, _, h3⟩
  · rw [h3]; exact mem hn
  · rw [h3] at hn; exact absurd rfl hn

/-! ### any order -/
def unl : List Bool → Nat
  | [] => 0
  | c :: r => (if c = true then 0 else 1) + unl r

theorem unl_set : ∀ {l : List Bool} {i : Nat}, l[i]? = some false → unl (l.set i true) + 1 = unl l
  | c :: r, 0, h => by
    simp only [List.getElem?_cons_zero, Option.some.injEq] at h
    subst h
    simp [unl, Nat.add_comm]
  | c :: r, i + 1, h => by
    simp only [List.getElem?_cons_succ] at h
    have := unl_set h
    simp only [List.set_cons_succ, unl]
    omega

theorem unl_zero : ∀ {l : List Bool}, unl l = 0 → ∀ (i : Nat) (c : Bool), l[i]? = some c → c = true
  | d :: r, h, 0, c, hc => by
    simp only [List.getElem?_cons_zero, Option.some.injEq] at hc
    subst hc
    simp only [unl] at h
    cases d
    · simp at h
    · rfl
  | d :: r, h, i + 1, c, hc => by
    simp only [List.getElem?_cons_succ] at hc
    simp only [unl] at h
    exact unl_zero (by omega) i c hc

structure OrdOk (ops : Array Oper) (W : List (List Nat)) : Prop where
  edge : ∀ (i : Nat) (x : Oper), ops[i]? = some x → ∀ e ∈ x.after.toList, Region.binds .any e = true → e.on < i
  wait : ∀ (i : Nat) (x : Oper), ops[i]? = some x → ∀ j ∈ W.getD i [], ∃ e ∈ x.after.toList, Region.binds .any e = true ∧ (e.on = j ∨ memN j (W.getD e.on []) = true)
  apart : ∀ (i j : Nat) (x y : Oper), ops[i]? = some x → ops[j]? = some y → j < i → memN j (W.getD i []) = true ∨ y.apart ops x = true

theorem ordOk_spec {W : List (List Nat)} (h : ordOk ops W = true) : OrdOk ops W := by
  have at' : ∀ {i x}, ops[i]? = some x → ((x.after.toList.all (fun e => !Region.binds .any e || decide (e.on < i)) = true ∧
      (W.getD i []).all (fun j => x.after.toList.any fun e => Region.binds .any e && (e.on == j || memN j (W.getD e.on []))) = true) ∧
      (List.range i).all (fun j => memN j (W.getD i []) || match ops[j]? with | some y => y.apart ops x | none => false) = true) := by
    intro i x hx
    have := List.all_eq_true.1 h i (List.mem_range.2 (Array.getElem?_eq_some_iff.1 hx).1)
    rw [hx] at this
    simpa only [Bool.and_eq_true] using this
  refine ⟨fun i x hx e he hb => ?_, fun i x hx j hj => ?_, fun i j x y hx hy hji => ?_⟩
  · have := List.all_eq_true.1 (at' hx).1.1 e he
    simpa [hb] using this
  · have := List.all_eq_true.1 (at' hx).1.2 j hj
    rw [List.any_eq_true] at this
    obtain ⟨e, he, h1⟩ := this
    simp only [Bool.and_eq_true, Bool.or_eq_true, beq_iff_eq] at h1
    exact ⟨e, he, h1.1, h1.2⟩
  · have := List.all_eq_true.1 (at' hx).2 j (List.mem_range.2 hji)
    rw [hy] at this
    simpa only [Bool.or_eq_true] using this

def Cl (ops : Array Oper) (b : Nat → Bool) : Prop := ∀ (i : Nat) (x : Oper), ops[i]? = some x → b i = true → ∀ e ∈ x.after.toList, Region.binds .any e = true → b e.on = true

theorem waits_in {W : List (List Nat)} (ho : OrdOk ops W) (hc : Cl ops b) : ∀ (m i : Nat) (x : Oper), i ≤ m → ops[i]? = some x → b i = true → ∀ j ∈ W.getD i [], b j = true := by
  intro m
  induction m with
  | zero =>
    intro i x hi hx hb j hj
    obtain ⟨e, he, h1, h2⟩ := ho.wait i x hx j hj
    have := ho.edge i x hx e he h1
    omega
  | succ m ih =>
    intro i x hi hx hb j hj
    obtain ⟨e, he, h1, h2⟩ := ho.wait i x hx j hj
    have hlt := ho.edge i x hx e he h1
    have hbe := hc i x hx hb e he h1
    rcases h2 with rfl | h2
    · exact hbe
    · have : e.on < ops.size := Nat.lt_trans hlt (Array.getElem?_eq_some_iff.1 hx).1
      exact ih e.on _ (by omega) (Array.getElem?_eq_getElem this) hbe j (memN_iff'.1 h2)
where
  memN_iff' {n : Nat} : ∀ {l : List Nat}, memN n l = true ↔ n ∈ l
  | [] => by simp [memN]
  | m :: r => by
    simp only [memN]
    split
    · rename_i e; have : n = m := by simpa using e
      simp [this]
    · rename_i e; have : n ≠ m := by simpa using e
      rw [memN_iff']; simp [this]

theorem draw_step (htok : TyOk P T) {W : List (List Nat)} (ho : OrdOk ops W) {tm : List V} {es : List Ent} {S0 : Nat → Prop}
    (hat : ∀ (i : Nat) (x : Oper), ops[i]? = some x → ∃ e, es[i]? = some e ∧ At P T w0 ops (tmB (fun j => decide (j < i)) 0 tm es) (hpB (fun j => decide (j < i)) 0 hp es) x e)
    (hlen : es.length = ops.size) (hap : apartF W 0 (es.map (·.f)) = true) {i : Nat} (hx : ops[i]? = some x) (hbi : b i = false)
    (hpre : ∀ j ∈ W.getD i [], b j = true) (hsuc : ∀ j, i ∈ W.getD j [] → j < ops.size → b j = false) {Q : Exit → Act → World → Prop} {K : Act → World → Prop}
    (hK : ∀ φ S a w, SLe w0.Z S0 S → Inv T w0 φ S (tmB (fun j => if j = i then true else b j) 0 tm es) (hpB (fun j => if j = i then true else b j) 0 hp es) a w → K a w)
    (hS : SLe w0.Z S0 S) (hi : Inv T w0 φ S (tmB b 0 tm es) (hpB b 0 hp es) a w) : wpOp P ops Q i K a w := by
  obtain ⟨e, he, hA⟩ := hat i x hx
  have hin : i < ops.size := (Array.getElem?_eq_some_iff.1 hx).1
  have mem := @waits_in.memN_iff'
  -- another operation, and how it lies
  have other : ∀ (j : Nat) (f : Ent), es[j]? = some f → ∃ y, ops[j]? = some y ∧ At P T w0 ops (tmB (fun k => decide (k < j)) 0 tm es) (hpB (fun k => decide (k < j)) 0 hp es) y f := by
    intro j f hf
    have hj : j < ops.size := by rw [← hlen]; exact (List.getElem?_eq_some_iff.1 hf).1
    obtain ⟨f', h1, h2⟩ := hat j _ (Array.getElem?_eq_getElem hj)
    rw [hf] at h1; injection h1 with h1; subst h1
    exact ⟨_, Array.getElem?_eq_getElem hj, h2⟩
  have foot : ∀ (j : Nat) (f : Ent), es[j]? = some f → (es.map (·.f))[j]? = some f.f := fun j f hf => by rw [List.getElem?_map, hf]; rfl
  -- before it, and not listed
  have early : ∀ (j : Nat) (f : Ent) (y : Oper), es[j]? = some f → ops[j]? = some y → j < i → b j = false → y.apart ops x = true ∧ Free f.f e.f := by
    intro j f y hf hy hji hb
    have hn : memN j (W.getD i []) ≠ true := fun h => by rw [hpre j (mem.1 h)] at hb; cases hb
    refine ⟨(ho.apart i j x y hx hy hji).resolve_left hn, ?_⟩
    have := apartF_spec hap j i f.f e.f hji (foot j f hf) (foot i e he)
    simp only [Nat.zero_add] at this
    exact this.resolve_left hn
  -- behind it, and listed
  have late : ∀ (j : Nat) (f : Ent) (y : Oper), es[j]? = some f → ops[j]? = some y → i < j → b j = true → x.apart ops y = true ∧ Free e.f f.f := by
    intro j f y hf hy hij hb
    have hn : memN i (W.getD j []) ≠ true := fun h => by
      rw [hsuc j (mem.1 h) (Array.getElem?_eq_some_iff.1 hy).1] at hb; cases hb
    refine ⟨(ho.apart j i y x hy hx hij).resolve_left hn, ?_⟩
    have := apartF_spec hap i j e.f f.f hij (foot i e he) (foot j f hf)
    simp only [Nat.zero_add] at this
    exact this.resolve_left hn
  -- the slots that it looks at are as_ in the text's order
  have slot : ∀ t, t ∈ x.looksAt ops → (tmB b 0 tm es).getD t .dead = (tmB (fun j => decide (j < i)) 0 tm es).getD t .dead := by
    intro t ht
    refine tmB_congr rfl rfl (fun j f hf hd => ?_)
    simp only [Nat.zero_add]
    obtain ⟨y, hy, hAy⟩ := other j f hf
    have hyd : y.dst = some t := by rw [← hAy.1]; exact hd
    rcases Nat.lt_trichotomy j i with h | h | h
    · rw [decide_eq_true h]
      cases hb : b j with
      | true => rfl
      | false => exact absurd ht ((Oper.apart_spec (early j f y hf hy h hb).1).1 t hyd)
    · subst h
      rw [hbi]; simp
    · rw [decide_eq_false (by omega)]
      cases hb : b j with
      | false => rfl
      | true => exact absurd ht ((Oper.apart_spec (late j f y hf hy h hb).1).2.2 t hyd)
  -- so are the rows
  have row : ∀ n, (n ∈ e.f.rd ∨ n ∈ e.f.wr) → look (hpB (fun j => decide (j < i)) 0 hp es) n = look (hpB b 0 hp es) n := by
    intro n hn
    refine hpB_congr rfl (fun j f hf hd => ?_)
    simp only [Nat.zero_add]
    obtain ⟨y, hy, hAy⟩ := other j f hf
    have hw := wr_of hAy hd
    rcases Nat.lt_trichotomy j i with h | h | h
    · rw [decide_eq_true h]
      cases hb : b j with
      | true => rfl
      | false =>
        obtain ⟨g1, g2, g3⟩ := (early j f y hf hy h hb).2
        rcases hn with hn | hn
        · exact (meets_false g2 n hw hn).elim
        · exact (meets_false g1 n hw hn).elim
    · subst h
      rw [hbi]; simp
    · rw [decide_eq_false (by omega)]
      cases hb : b j with
      | false => rfl
      | true =>
        obtain ⟨g1, g2, g3⟩ := (late j f y hf hy h hb).2
        rcases hn with hn | hn
        · exact (meets_false g3 n hn hw).elim
        · exact (meets_false g1 n hn hw).elim
  have hev : ∀ o ∈ x.op.operands.toList, ev (tmB (fun j => decide (j < i)) 0 tm es) o = ev (tmB b 0 tm es) o := by
    intro o ho'
    cases o with
    | tmp t =>
      simp only [ev]
      refine (slot t ?_).symm
      unfold Oper.looksAt
      refine List.mem_append_left _ (List.mem_filterMap.2 ⟨.tmp t, ho', rfl⟩)
    | _ => rfl
  have hguard : ∀ {res}, GuardIs ops (tmB (fun j => decide (j < i)) 0 tm es) x res → GuardIs ops (tmB b 0 tm es) x res := by
    intro res hg
    unfold GuardIs at hg ⊢
    split at hg
    · exact hg
    · rename_i j want hgd
      obtain ⟨g, h1, h2⟩ := hg
      refine ⟨g, h1, ?_⟩
      rw [slot g ?_]
      · exact h2
      · unfold Oper.looksAt
        refine List.mem_append_right _ ?_
        rw [hgd]
        unfold guardT at h1
        simp [h1]
  -- what is told behind it
  have next : ∀ {φ S a w v E}, SLe w0.Z S0 S → e.v = v → e.E = E → Inv T w0 φ S (setD (tmB b 0 tm es) x.dst v) (E ++ hpB b 0 hp es) a w → K a w := by
    intro φ S a w v E hS hv hE hinv
    subst hv; subst hE
    refine hK φ S a w hS (hinv.congr (by rw [setD_length, tmB_length, tmB_length]) (fun t => ?_) (fun n => ?_))
    · rw [setD_get, tmB_length]
      split
      · rename_i hd
        refine (tmB_last he (by simp) (by rw [hA.1]; exact hd.1) hd.2 (fun j f hij hf hb => ?_)).symm
        simp only [Nat.zero_add] at hb
        rw [if_neg (by omega)] at hb
        obtain ⟨y, hy, hAy⟩ := other j f hf
        rw [hAy.1]
        exact (Oper.apart_spec (late j f y hf hy hij hb).1).2.1 t hd.1
      · rename_i hd
        by_cases hlt : t < tm.length
        · refine tmB_congr rfl rfl (fun j f hf hfd => ?_)
          simp only [Nat.zero_add]
          by_cases hji : j = i
          · subst hji
            rw [he] at hf; injection hf with hf; subst hf
            rw [hA.1] at hfd
            exact absurd ⟨hfd, hlt⟩ hd
          · rw [if_neg hji]
        · have e1 : ∀ (l : List V), l.length = tm.length → l.getD t .dead = .dead := fun l hl => by
            rw [List.getD_eq_getElem?_getD, List.getElem?_eq_none (by omega)]; rfl
          rw [e1 _ tmB_length, e1 _ tmB_length]
    · rw [look_app]
      cases hl : look e.E n with
      | some c =>
        refine (hpB_last he (by simp) hl (fun j f hij hf hb => ?_)).symm
        simp only [Nat.zero_add] at hb
        rw [if_neg (by omega)] at hb
        obtain ⟨y, hy, hAy⟩ := other j f hf
        cases hq : look f.E n with
        | none => rfl
        | some d =>
          exact (meets_false (late j f y hf hy hij hb).2.1 n (wr_of hA (by rw [hl]; simp)) (wr_of hAy (by rw [hq]; simp))).elim
      | none =>
        refine hpB_congr rfl (fun j f hf hfd => ?_)
        simp only [Nat.zero_add]
        by_cases hji : j = i
        · subst hji
          rw [he] at hf; injection hf with hf; subst hf
          exact absurd hl hfd
        · rw [if_neg hji]
  unfold wpOp
  rw [hx]
  simp only
  rcases hA.2 with ⟨g1, g2, g3⟩ | ⟨g1, g2, g3⟩
  · rw [wanted_of hi (hguard g1), if_pos rfl]
    have hfr : ∀ n, n ∈ e.f.rd ↔ ∃ o ∈ x.op.operands.toList, n ∈ names (ev (tmB (fun j => decide (j < i)) 0 tm es) o) := by
      intro n
      rw [g3]
      simp only [footOf, List.mem_flatten, List.mem_map]
      constructor
      · rintro ⟨l, ⟨o, h1, rfl⟩, h2⟩; exact ⟨o, h1, h2⟩
      · rintro ⟨o, h1, h2⟩; exact ⟨_, ⟨o, h1, rfl⟩, h2⟩
    have hres : Res P T (opF (real P T w0) T (tmB b 0 tm es) (hpB b 0 hp es) x) e.v e.E := by
      rw [← opF_tm hev]
      refine opF_congr (N := fun n => n ∈ e.f.rd ∨ n ∈ e.f.wr) row (fun o ho' n hn => .inl ((hfr n).2 ⟨o, ho', hn⟩)) (fun p hp => .inr ?_) g2
      rw [g3]
      exact List.mem_map.2 ⟨p, hp, rfl⟩
    refine .inl (opF_ok htok hi hres _ _ (fun xv w' hL => ?_))
    obtain ⟨φ', S', e1, e2⟩ := hL
    exact next (hS.trans e1.sle) rfl rfl (hi.step e1 e2)
  · rw [wanted_of hi (hguard g1), if_neg (by simp)]
    exact next (E := []) hS g2 g3 (hi.step (Ext.refl hi.since hi.heap) (by simp only [rel, relL]; exact ⟨#[], rfl, rfl⟩))

theorem draw_any (htok : TyOk P T) {W : List (List Nat)} (ho : OrdOk ops W) {tm : List V} {es : List Ent} {S0 : Nat → Prop} {Q : Exit → Act → World → Prop}
    (hat : ∀ (i : Nat) (x : Oper), ops[i]? = some x → ∃ e, es[i]? = some e ∧ At P T w0 ops (tmB (fun j => decide (j < i)) 0 tm es) (hpB (fun j => decide (j < i)) 0 hp es) x e)
    (hlen : es.length = ops.size) (hap : apartF W 0 (es.map (·.f)) = true)
    (hend : ∀ b φ S a w, (∀ j, j < ops.size → b j = true) → SLe w0.Z S0 S → Inv T w0 φ S (tmB b 0 tm es) (hpB b 0 hp es) a w → Q .normal a w) :
    ∀ (fuel : Nat) (listed : Array Bool) (φ : Nat → Option Loc) (S : Nat → Prop) (a : Act) (w : World), listed.size = ops.size → unl listed.toList ≤ fuel → Cl ops (fun j => listed.getD j false) → SLe w0.Z S0 S →
      Inv T w0 φ S (tmB (fun j => listed.getD j false) 0 tm es) (hpB (fun j => listed.getD j false) 0 hp es) a w → wpAny P .any ops Q fuel listed a w := by
  have mem := @waits_in.memN_iff'
  have gd : ∀ {l : Array Bool} {i : Nat} {d : Bool}, i < l.size → l.getD i d = l.getD i false := by
    intro l i d h
    simp [Array.getD, h]
  have rdy : ∀ {l : Array Bool} {i : Nat}, l.size = ops.size → (i ∈ Region.ready .any ops l ↔ ∃ x, ops[i]? = some x ∧ l.getD i false = false ∧ ∀ e ∈ x.after.toList, Region.binds .any e = true → l.getD e.on false = true) := by
    intro l i hl
    unfold Region.ready
    rw [List.mem_filter, List.mem_range]
    constructor
    · rintro ⟨h1, h2⟩
      simp only [Bool.and_eq_true, Bool.not_eq_true'] at h2
      rw [Array.getElem?_eq_getElem h1] at h2
      refine ⟨_, Array.getElem?_eq_getElem h1, by rw [← gd (d := true) (by omega)]; exact h2.1, fun e he hb => ?_⟩
      have := h2.2
      simp only [Option.map_some, Option.getD_some] at this
      rw [Array.all_eq_true'] at this
      have := this e (by simpa using he)
      simpa [hb] using this
    · rintro ⟨x, h1, h2, h3⟩
      have hi := (Array.getElem?_eq_some_iff.1 h1).1
      refine ⟨hi, ?_⟩
      rw [gd (d := true) (by omega), h2, h1]
      simp only [Bool.not_false, Bool.true_and, Option.map_some, Option.getD_some]
      rw [Array.all_eq_true']
      intro e he
      cases hb : Region.binds .any e with
      | false => rfl
      | true => simpa using h3 e (by simpa using he) hb
  have all : ∀ {l : Array Bool}, l.size = ops.size → Region.ready .any ops l = [] → ∀ j, j < ops.size → l.getD j false = true := by
    intro l hl hr j
    induction j using Nat.strongRecOn with
    | _ j ih =>
      intro hj
      cases hb : l.getD j false with
      | true => rfl
      | false =>
        exfalso
        have : j ∈ Region.ready .any ops l := (rdy hl).2 ⟨_, Array.getElem?_eq_getElem hj, hb, fun e he hbi => by
          have := ho.edge j _ (Array.getElem?_eq_getElem hj) e he hbi
          exact ih e.on this (by omega)⟩
        rw [hr] at this
        cases this
  intro fuel
  induction fuel with
  | zero =>
    intro listed φ S a w hl hf hc hS hi
    have hall : ∀ j, j < ops.size → listed.getD j false = true := fun j hj => by
      have h1 : listed.toList[j]? = some (listed.getD j false) := by
        rw [Array.getElem?_toList, Array.getElem?_eq_getElem (by omega)]
        simp [Array.getD, show j < listed.size from by omega]
      exact unl_zero (by omega) j _ h1
    refine ⟨?_, hend _ φ S a w hall hS hi⟩
    cases hr : Region.ready .any ops listed with
    | nil => rfl
    | cons i r =>
      have : i ∈ Region.ready .any ops listed := by rw [hr]; simp
      obtain ⟨x, h1, h2, _⟩ := (rdy hl).1 this
      rw [hall i (Array.getElem?_eq_some_iff.1 h1).1] at h2
      cases h2
  | succ fuel ih =>
    intro listed φ S a w hl hf hc hS hi
    refine ⟨fun hr => hend _ φ S a w (all hl hr) hS hi, fun i hir => ?_⟩
    obtain ⟨x, hx, hb, hpre⟩ := (rdy hl).1 hir
    have hin : i < ops.size := (Array.getElem?_eq_some_iff.1 hx).1
    have hset : ∀ j, (listed.setIfInBounds i true).getD j false = if j = i then true else listed.getD j false := by
      intro j
      simp only [Array.getD_eq_getD_getElem?, Array.getElem?_setIfInBounds]
      by_cases h : j = i
      · subst h
        simp [show j < listed.size from by omega]
      · rw [if_neg (fun e => h e.symm), if_neg h]
    refine draw_step htok ho hat hlen hap hx hb (fun j hj => ?_) (fun j hj hjn => ?_) (fun φ S a w hS hi => ?_) hS hi
    · obtain ⟨e, he, h1, h2⟩ := ho.wait i x hx j hj
      have hbe := hpre e he h1
      rcases h2 with rfl | h2
      · exact hbe
      · have : e.on < ops.size := Nat.lt_trans (ho.edge i x hx e he h1) hin
        exact waits_in ho hc e.on e.on _ (Nat.le_refl _) (Array.getElem?_eq_getElem this) hbe j (mem.1 h2)
    · cases hbj : listed.getD j false with
      | false => rfl
      | true =>
        have := waits_in ho hc j j _ (Nat.le_refl _) (Array.getElem?_eq_getElem hjn) hbj i hj
        rw [hb] at this
        cases this
    · refine ih _ φ S a w (by simp [hl]) ?_ ?_ hS ?_
      · have h1 : listed.toList[i]? = some false := by
          rw [Array.getElem?_toList, Array.getElem?_eq_getElem (by omega)]
          have := hb
          simp only [Array.getD, show i < listed.size from by omega, dif_pos] at this
          simpa using this
        have := unl_set h1
        simp only [Array.toList_setIfInBounds]
        omega
      · intro j y hy hbj e he hbe
        have hbj : (listed.setIfInBounds i true).getD j false = true := hbj
        show (listed.setIfInBounds i true).getD e.on false = true
        rw [hset] at hbj ⊢
        by_cases hji : j = i
        · subst hji
          rw [hx] at hy; injection hy with hy; subst hy
          have := hpre e he hbe
          split
          · rfl
          · exact this
        · rw [if_neg hji] at hbj
          have := hc j y hy hbj e he hbe
          split
          · rfl
          · exact this
      · rw [show (fun j => (listed.setIfInBounds i true).getD j false) = fun j => if j = i then true else listed.getD j false from funext hset]
        exact hi

theorem draw_ok (htok : TyOk P T) {W : List (List Nat)} (hord : ordOk ops W = true) {K : List V → Hp → Prop} {id : Nat} {tm : List V} (h : runOps (real P T w0) T ops W true K ops.toList [] [] tm hp) (hi : Inv T w0 φ S tm hp a w) :
    (Code.region id ops true).wp P (Post T w0 S fun e tm hp => e = .normal ∧ K tm hp) a w := by
  obtain ⟨es, tm', hp', as', h1, h2, h3, h4⟩ := trace_of h (fun p hp => by cases hp)
  have hap := h4 rfl
  simp only [List.reverse_nil, List.nil_append] at hap
  obtain ⟨t1, t2, t3⟩ := trace_at (k := 0) h1
  have hf : ∀ j, (Array.replicate ops.size false).getD j false = false := fun j => by
    simp only [Array.getD_eq_getD_getElem?, Array.getElem?_replicate]
    split <;> rfl
  refine wp_region_any htok.mixed (draw_any (w0 := w0) (S0 := S) htok (ordOk_spec hord) (es := es) (tm := tm) (hp := hp) (fun i x hx => ?_) (by simpa using t1) hap (fun b φ' S' a' w' hb hS hi' => ?_) ops.size _ φ S a _ (by simp) ?_ (fun i x hx hb => ?_) SLe.refl ?_)
  · obtain ⟨e, e1, e2⟩ := t2 i x (by simpa using hx)
    exact ⟨e, e1, by simpa using e2⟩
  · obtain ⟨k1, k2⟩ := t3 b (fun j hj => by rw [Nat.zero_add]; exact hb j (by simpa using hj))
    rw [← k1, ← k2] at hi'
    exact ⟨φ', S', _, _, hS, hi'.retell h2, ⟨rfl, h3⟩, trivial⟩
  · have : ∀ n, unl (List.replicate n false) = n := fun n => by
      induction n with
      | zero => rfl
      | succ n ih => simp [List.replicate_succ, unl, ih, Nat.add_comm]
    simp [this]
  · simp only [hf] at hb; cases hb
  · rw [show (fun j => (Array.replicate ops.size false).getD j false) = fun _ => false from funext hf, tmB_none (fun _ _ => rfl), hpB_none (fun _ _ => rfl)]
    exact ⟨hi.since.drew, hi.size, fun t => rel_mono (w := w) (w' := w.drew) (S := S) (S' := S) (LocLe.refl φ) (fun _ _ => rfl) (fun _ h => h) _ _ (hi.tms t), hi.dfr, hi.heap.drew, hi.anc⟩
end
end Go.Ab
end
section
/- Code: what the calculus asks is enough. No statement of its own. -/

namespace Go.Ab
open Go.RowKit

section
variable {P : Program} {T : Tr} {w0 : Base} {φ φ' φ2 : Nat → Option Loc} {w w' : World} {S S' S2 : Nat → Prop} {v : V} {hp : Hp} {b0 : Nat → Prop} {x : Oper} {a : Act} {ops : Array Oper}

theorem region_ok (htok : TyOk P T) {W : List (List Nat)} {K : List V → Hp → Prop} {id : Nat} {draw : Bool} {tm : List V} (hord : draw = true → ordOk ops W = true) (h : runOps (real P T w0) T ops W draw K ops.toList [] [] tm hp) (hi : Inv T w0 φ S tm hp a w) :
    (Code.region id ops draw).wp P (Post T w0 S fun e tm hp => e = .normal ∧ K tm hp) a w := by
  cases draw with
  | true => exact draw_ok htok (hord rfl) h hi
  | false =>
    obtain ⟨es, tm', hp', as', h1, h2, h3, _⟩ := trace_of h (fun p hp => by cases hp)
    refine wp_region ?_
    have := seq_ok (k := 0) (S0 := S) (Q := Post T w0 S fun e tm hp => e = .normal ∧ K tm hp) htok h1 (fun j => by simp) (fun φ' S' a' w' hS hi' => ⟨φ', S', _, _, hS, hi'.retell h2, ⟨rfl, h3⟩, trivial⟩) SLe.refl hi
    rwa [Array.length_toList, ← List.range_eq_range'] at this

def codeOk (W : Nat → List (List Nat)) : Code → Bool
  | .region id ops draw => match draw with
    | true => ordOk ops (W id)
    | false => true
  | .seq x y => codeOk W x && codeOk W y
  | .cond _ x y => codeOk W x && codeOk W y
  | .block _ x => codeOk W x
  | .loop x => codeOk W x
  | _ => true

theorem Post.weaken {S0 S1 : Nat → Prop} {K K' : Exit → List V → Hp → Prop} {e : Exit} (h : Post T w0 S1 K e a w) (hS : SLe w0.Z S0 S1) (hK : ∀ tm hp, K e tm hp → K' e tm hp) : Post T w0 S0 K' e a w := by
  obtain ⟨φ, S, tm, hp, h1, h2, h3, h4⟩ := h
  exact ⟨φ, S, tm, hp, hS.trans h1, h2, hK _ _ h3, h4⟩

theorem vc_ok (htok : TyOk P T) {W : Nat → List (List Nat)} : ∀ (c : Code) {K : Exit → List V → Hp → Prop} {tm : List V} {hp : Hp}, codeOk W c = true → vc (real P T w0) T W c K tm hp → Sat P T w0 c K tm hp
  | .skip, K, tm, hp, ho, h => fun φ S a w hi => wp_skip ⟨φ, S, tm, hp, SLe.refl, hi, h, trivial⟩
  | .region id ops draw, K, tm, hp, ho, h => fun φ S a w hi =>
    wp_mono (region_ok htok (fun hd => by subst hd; exact ho) h hi) (fun e a w hp => hp.weaken SLe.refl (fun tm hp hk => by obtain ⟨rfl, hk⟩ := hk; exact hk))
  | .seq x y, K, tm, hp, ho, h => fun φ S a w hi => by
    simp only [codeOk, Bool.and_eq_true] at ho
    simp only [vc] at h
    split at h
    · exact h φ S a w hi
    · refine wp_seq (wp_mono (vc_ok htok x ho.1 h φ S a w hi) (fun e a' w' hp => ?_))
      obtain ⟨φ', S', tm', hp', h1, h2, h3, h4⟩ := hp
      cases e with
      | normal => exact wp_mono (vc_ok htok y ho.2 h3 φ' S' a' w' h2) (fun e a w hp => hp.weaken h1 (fun _ _ h => h))
      | exit i => exact ⟨φ', S', tm', hp', h1, h2, h3, h4⟩
      | ret => exact ⟨φ', S', tm', hp', h1, h2, h3, h4⟩
      | _ => exact h4.elim
  | .cond c x y, K, tm, hp, ho, h => fun φ S a w hi => by
    simp only [codeOk, Bool.and_eq_true] at ho
    have hr := ev_rel hi c
    simp only [vc] at h
    split at h
    · rename_i e
      exact wp_cond_true (asB_lit e hr) (vc_ok htok x ho.1 h φ S a w hi)
    · rename_i e
      exact wp_cond_false (asB_lit e hr) (vc_ok htok y ho.2 h φ S a w hi)
    · rename_i cb e
      have tell : ∀ {b}, cb = b → Inv T w0 φ S (condT tm c b) hp a w := by
        intro b hb
        subst hb
        cases c with
        | tmp t => exact hi.retell1 (by simp only [ev] at e; rw [e]; rfl)
        | _ => exact hi
      refine wp_cond_split (asB_sym e hr) (fun hb => ?_) (fun hb => ?_)
      · exact vc_ok htok x ho.1 (h.1 hb) φ S a w (tell hb)
      · exact vc_ok htok y ho.2 (h.2 hb) φ S a w (tell hb)
    · split at h
      · rename_i g es e
        have hq := hr
        rw [e] at hq
        simp only [rel] at hq
        obtain ⟨bb, hx, hbg⟩ := hq
        have tell : ∀ {b}, bb = b → Inv T w0 φ S (condT tm c b) hp a w := by
          intro b hb
          subst hb
          cases c with
          | tmp t =>
            refine ⟨hi.since, by simp [condT, hi.size], fun u => ?_, hi.dfr, hi.heap, hi.anc⟩
            simp only [condT]
            rw [getD_set]
            split
            · rename_i hu
              rw [← hu.1]
              have hx' : a.tmps.getD t undef = .bool bb := hx
              rw [hx']
              exact rel_sb bb
            · exact hi.tms u
          | _ => exact hi
        cases g with
        | true =>
          refine wp_cond_split hx (fun hb => ?_) (fun hb => ?_)
          · exact vc_ok htok x ho.1 (h.1 (hbg hb)) φ S a w (tell hb)
          · exact vc_ok htok y ho.2 h.2 φ S a w (tell hb)
        | false =>
          refine wp_cond_split hx (fun hb => ?_) (fun hb => ?_)
          · exact vc_ok htok x ho.1 h.2 φ S a w (tell hb)
          · exact vc_ok htok y ho.2 (h.1 (hbg hb)) φ S a w (tell hb)
      · exact h.elim
  | .block id b, K, tm, hp, ho, h => fun φ S a w hi => by
    refine wp_block (wp_mono (vc_ok htok b ho h φ S a w hi) (fun e a' w' hp => ?_))
    obtain ⟨φ', S', tm', hp', h1, h2, h3, h4⟩ := hp
    cases e with
    | normal => exact ⟨φ', S', tm', hp', h1, h2, h3, h4⟩
    | exit i =>
      simp only at h3
      simp only [Exit.inBlock]
      split at h3
      · rename_i e
        rw [if_pos (by simpa using e)]
        exact ⟨φ', S', tm', hp', h1, h2, h3, trivial⟩
      · rename_i e
        rw [if_neg (by simpa using e)]
        exact ⟨φ', S', tm', hp', h1, h2, h3, trivial⟩
    | ret => exact ⟨φ', S', tm', hp', h1, h2, h3, h4⟩
    | _ => exact h4.elim
  | .loop b, K, tm, hp, _, h => h
  | .exit id, K, tm, hp, ho, h => fun φ S a w hi => wp_exit ⟨φ, S, tm, hp, SLe.refl, hi, h, trivial⟩
  | .ret, K, tm, hp, ho, h => fun φ S a w hi => wp_ret ⟨φ, S, tm, hp, SLe.refl, hi, h, trivial⟩
  | .label _, _, _, _, _, h => h.elim
  | .rangeFunc _ _ _ _, _, _, _, _, h => h.elim
  | .scope _, _, _, _, _, h => h.elim
  | .goto _, _, _, _, _, h => h.elim
  | .refuse _, _, _, _, _, h => h.elim
end
end Go.Ab
end
section
/- Functions: what the calculus asks of a body is enough for its answer. No statement of its own. -/

namespace Go.Ab
open Go.RowKit

section
variable {P : Program} {T : Tr} {w0 : Base} {φ φ' φ2 : Nat → Option Loc} {w w' : World} {S S' S2 : Nat → Prop} {v : V} {hp : Hp} {b0 : Nat → Prop} {x : Value} {a : Act} {ops : Array Oper}

structure Held (T : Tr) (φ φ' : Nat → Option Loc) (b0 : Nat → Prop) (w : World) (S : Nat → Prop) (hp h : Hp) : Prop where
  left : HOk T φ b0 w S hp
  gave : HOk T φ' b0 w S h
  apart : ∀ n m b c l k B, look hp n = some b → look h m = some c → b.own = true → c.own = true → φ n = some l → φ' m = some k → l.blk = some B → k.blk ≠ some B

theorem Held.nil (hh : HOk T φ b0 w S hp) : Held T φ (fun _ => none) b0 w S hp [] :=
  ⟨hh, ⟨fun n => (by simp [look]), fun n b h => (by cases h), fun n b l B h => (by cases h), fun n m b c l k B h => (by cases h), hh.old⟩, fun n m b c l k B _ h => (by cases h)⟩

theorem HOk.moreS {h : Hp} (hh : HOk T φ b0 w S h) (hS : ∀ k, S k → S' k) (hold : ∀ k, S' k → k < w.heap.size) (hown : ∀ n b l B, look h n = some b → b.own = true → φ n = some l → l.blk = some B → ¬ S' B) : HOk T φ b0 w S' h :=
  ⟨hh.dom, fun n b hb => (hh.blk n b hb).mono (LocLe.refl _) (fun _ _ => rfl) hS (fun _ _ _ _ _ => rfl), fun n b l B hb ho hl hB => ⟨(hh.own n b l B hb ho hl hB).1, (hh.own n b l B hb ho hl hB).2.1, hown n b l B hb ho hl hB⟩, hh.inj, hold⟩

theorem Held.freeze {h : Hp} {n et : Nat} {es : List V} (k : Held T φ φ' b0 w S hp h) (hl : look hp n = some (.row et es)) : ∃ S', SLe b0 S S' ∧ Held T φ φ' b0 w S' ((n, .ro et es) :: hp) h := by
  obtain ⟨S', s1, s2, s3⟩ := k.left.freeze hl
  refine ⟨S', ⟨s1, fun i hi => (s3 i hi).imp (fun h => h) (fun ⟨l, h1, h2⟩ => (k.left.own n _ l i hl rfl h1 h2).1)⟩, s2, k.gave.moreS s1 s2.old (fun m b l B hb ho hl' hB hS => ?_), fun m m' b c l l' B hm hm' hb hc hl1 hl2 hB1 hB2 => ?_⟩
  · rcases s3 B hS with hS | ⟨l', h1, h2⟩
    · exact (k.gave.own m b l B hb ho hl' hB).2.2 hS
    · exact k.apart n m _ b l' l B hl hb rfl ho h1 hl' h2 hB
  · rw [look_cons] at hm
    split at hm
    · injection hm with hm; subst hm; cases hb
    · exact k.apart m m' b c l l' B hm hm' hb hc hl1 hl2 hB1 hB2

theorem Held.give {h : Hp} {n et q : Nat} {es : List V} (k : Held T φ φ' b0 w S hp h) (hl : look hp n = some (.row et es)) (hq : look h q = none) : ∃ φ2, LocLe φ' φ2 ∧ φ2 q = φ n ∧ Held T φ φ2 b0 w S ((n, .gone) :: hp) ((q, .row et es) :: h) := by
  have hφq : φ' q = none := (k.gave.dom q).2 hq
  have hne : φ n ≠ none := fun e => by rw [(k.left.dom n).1 e] at hl; cases hl
  obtain ⟨l, hφ⟩ := Option.ne_none_iff_exists'.1 hne
  have hself : upd φ' q l q = some l := upd_self
  refine ⟨upd φ' q l, upd_le hφq, by rw [hself, hφ], k.left.drop hl rfl trivial, ?_, fun m m' b c l1 l2 B hm hm' hb hc hl1 hl2 hB1 hB2 => ?_⟩
  · refine k.gave.cons (upd_le hφq) (fun m hm => upd_ne hm) (by rw [hself]; simp) (fun _ _ => rfl) (fun _ h => h) (fun m c l' B hm hc hc2 hl' hB => ⟨rfl, (k.gave.own m c l' B hc hc2 hl' hB).2.2⟩) (Nat.le_refl _) ?_ (fun _ l' B hl' hB => ?_) k.gave.old
    · obtain ⟨hw, e, he, hz, hb⟩ := k.left.blk n _ hl
      refine ⟨hw, e, he, hz, ?_⟩
      rcases hb with ⟨B, off, room, arr, h1, h2, h3, h4, h5, h6⟩ | ⟨h1, h2⟩
      · refine .inl ⟨B, off, room, arr, by rw [hself, ← hφ]; exact h1, h2, h3, h4, h5, fun j c hj => ?_⟩
        obtain ⟨y, y1, y2⟩ := h6 j c hj
        exact ⟨y, wt_free c et y (wtL_iff.1 hw c (List.mem_of_getElem? hj)) y1, y2⟩
      · exact .inr ⟨by rw [hself, ← hφ]; exact h1, h2⟩
    · rw [hself] at hl'; injection hl' with hl'; subst hl'
      obtain ⟨o1, o2, o3⟩ := k.left.own n _ l B hl rfl hφ hB
      exact ⟨o1, o2, o3, fun m c l2 hm hc hc2 hl2 hB2 => k.apart n m _ c l l2 B hl hc rfl hc2 hφ hl2 hB hB2⟩
  · rw [look_cons] at hm hm'
    split at hm
    · injection hm with hm; subst hm; cases hb
    · rename_i hnm
      split at hm'
      · rename_i hqm
        subst hqm
        injection hm' with hm'; subst hm'
        rw [hself] at hl2; injection hl2 with hl2; subst hl2
        exact hnm (k.left.inj m n b _ l1 l B hm hl hb rfl hl1 hφ hB1 hB2).symm
      · rename_i hqm
        rw [upd_ne (fun e => hqm e.symm)] at hl2
        exact k.apart m m' b c l1 l2 B hm hm' hb hc hl1 hl2 hB1 hB2

def Below' (k : Nat) (h : Hp) : Prop := ∀ n, k ≤ n → look h n = none

theorem closeS_ok {k : Nat} {h E h' : Hp} {v' : V} (hd : Held T φ φ' b0 w S hp h) (hk : Below' k h) (hr : rel T φ w S v x) (hc : closeS (real P T w0) k hp v = some (v', E, h')) :
    ∃ φ2 S2, LocLe φ' φ2 ∧ SLe b0 S S2 ∧ Held T φ φ2 b0 w S2 (E ++ hp) (h' ++ h) ∧ Below' (k + h'.length) (h' ++ h) ∧ rel T φ2 w S2 v' x := by
  have same : ∀ {v'}, (∀ ψ : Nat → Option Loc, rel T ψ w S v' x) → ∃ φ2 S2, LocLe φ' φ2 ∧ SLe b0 S S2 ∧ Held T φ φ2 b0 w S2 hp h ∧ Below' k h ∧ rel T φ2 w S2 v' x :=
    fun h => ⟨φ', S, LocLe.refl _, SLe.refl, hd, hk, h φ'⟩
  have free : ∀ {et es}, rel T φ w S (.sl et es) x → ∀ ψ : Nat → Option Loc, rel T ψ w S (.sl et es) x := by
    intro et es hr ψ
    simp only [rel] at hr ⊢
    obtain ⟨A, cap, h1, h2, h3, h5, h6⟩ := hr
    refine ⟨A, cap, h1, h2, h3, h5, fun hne => ?_⟩
    obtain ⟨ad, e, ha, hl, hz, hs, he⟩ := h6 hne
    exact ⟨ad, e, ha, hl, hz, hs, wtL_free es et 0 ad e.size h5 he⟩
  cases v with
  | row n =>
    simp only [closeS] at hc
    split at hc
    · rename_i et es hl
      injection hc with hc; injection hc with e1 hc; injection hc with e2 e3
      subst e1; subst e2; subst e3
      obtain ⟨φ2, l1, l2, l3⟩ := hd.give hl (hk k (Nat.le_refl _))
      refine ⟨φ2, S, l1, SLe.refl, l3, fun n hn => ?_, ?_⟩
      · simp only [List.length_singleton] at hn
        rw [List.singleton_append, look_cons, if_neg (by omega)]
        exact hk n (by omega)
      · simp only [rel] at hr ⊢
        rw [l2]
        exact hr
    · rename_i et es hl
      injection hc with hc; injection hc with e1 hc; injection hc with e2 e3
      subst e1; subst e2; subst e3
      obtain ⟨hw, e, he, hz, hb⟩ := ro_form hd.left hl
      exact same (free (row_sl he hz hw (ro_S hd.left hl) hb hr))
    · cases hc
  | rowp n lo ln =>
    simp only [closeS] at hc
    have go : ∀ {hp : Hp} {S : Nat → Prop} {et es}, HOk T φ b0 w S hp → look hp n = some (.ro et es) → rel T φ w S (.rowp n lo ln) x → rel T φ w S (.sl et ((real P T w0).sub es lo ((real P T w0).pl lo ln))) x := by
      intro hp S et es hh hl hr
      have := expS_ok (P := P) (w0 := w0) hh hr
      simp only [expS, hl] at this
      refine rel_mono (LocLe.refl _) (fun _ _ => rfl) (fun i hi => ?_) _ _ this
      rcases hi with hi | ⟨n', hn', l, h1, h2⟩
      · exact hi
      · simp only [rowsS, List.mem_singleton] at hn'
        subst hn'
        exact ro_S hh hl l i h1 h2
    split at hc
    · rename_i et es hl
      injection hc with hc; injection hc with e1 hc; injection hc with e2 e3
      subst e1; subst e2; subst e3
      obtain ⟨S2, s1, s2⟩ := hd.freeze hl
      refine ⟨φ', S2, LocLe.refl _, s1, s2, hk, ?_⟩
      have hr2 := rel_mono (LocLe.refl φ) (fun _ _ => rfl) s1.1 _ _ hr
      have := go s2.left (by rw [look_cons, if_pos rfl]) hr2
      simp only [rel] at this ⊢
      obtain ⟨A, cap, h1, h2, h3, h5, h6⟩ := this
      refine ⟨A, cap, h1, h2, h3, h5, fun hne => ?_⟩
      obtain ⟨ad, e, ha, hl, hz, hs, he⟩ := h6 hne
      exact ⟨ad, e, ha, hl, hz, hs, wtL_free _ et 0 ad e.size h5 he⟩
    · rename_i et es hl
      injection hc with hc; injection hc with e1 hc; injection hc with e2 e3
      subst e1; subst e2; subst e3
      exact same (free (go hd.left hl hr))
    · cases hc
  | ptr _ _ => cases hc
  | ep _ _ _ => cases hc
  | rp _ _ _ _ => cases hc
  | agg _ => cases hc
  | tup _ => cases hc
  | fn _ _ _ => cases hc
  | s _ => simp only [closeS] at hc; injection hc with hc; injection hc with e1 hc; injection hc with e2 e3; subst e1; subst e2; subst e3; exact same (fun ψ => by simpa only [rel] using hr)
  | i _ _ => simp only [closeS] at hc; injection hc with hc; injection hc with e1 hc; injection hc with e2 e3; subst e1; subst e2; subst e3; exact same (fun ψ => by simpa only [rel] using hr)
  | b _ => simp only [closeS] at hc; injection hc with hc; injection hc with e1 hc; injection hc with e2 e3; subst e1; subst e2; subst e3; exact same (fun ψ => by simpa only [rel] using hr)
  | str _ => simp only [closeS] at hc; injection hc with hc; injection hc with e1 hc; injection hc with e2 e3; subst e1; subst e2; subst e3; exact same (fun ψ => by simpa only [rel] using hr)
  | nil => simp only [closeS] at hc; injection hc with hc; injection hc with e1 hc; injection hc with e2 e3; subst e1; subst e2; subst e3; exact same (fun ψ => by simpa only [rel] using hr)
  | nlq _ _ => cases hc
  | mp _ _ => simp only [closeS] at hc; injection hc with hc; injection hc with e1 hc; injection hc with e2 e3; subst e1; subst e2; subst e3; exact same (fun ψ => by simpa only [rel] using hr)
  | dead => simp only [closeS] at hc; injection hc with hc; injection hc with e1 hc; injection hc with e2 e3; subst e1; subst e2; subst e3; exact same (fun ψ => by simp only [rel])
  | sl et es => simp only [closeS] at hc; injection hc with hc; injection hc with e1 hc; injection hc with e2 e3; subst e1; subst e2; subst e3; exact same (free hr)

theorem closeL_ok : ∀ {vs : List V} {k : Nat} {hp h E h' : Hp} {vs' : List V} {xs : List Value} {φ' : Nat → Option Loc} {S : Nat → Prop}, Held T φ φ' b0 w S hp h → Below' k h → relL T φ w S vs xs → closeL (real P T w0) k hp vs = some (vs', E, h') →
    ∃ φ2 S2, LocLe φ' φ2 ∧ SLe b0 S S2 ∧ Held T φ φ2 b0 w S2 (E ++ hp) (h' ++ h) ∧ Below' (k + h'.length) (h' ++ h) ∧ relL T φ2 w S2 vs' xs
  | [], k, hp, h, E, h', vs', xs, φ', S, hd, hk, hr, hc => by
    simp only [closeL] at hc
    injection hc with hc; injection hc with e1 hc; injection hc with e2 e3
    subst e1; subst e2; subst e3
    exact ⟨φ', S, LocLe.refl _, SLe.refl, hd, hk, by simpa only [relL] using hr⟩
  | v :: r, k, hp, h, E, h', vs', xs, φ', S, hd, hk, hr, hc => by
    simp only [closeL] at hc
    split at hc
    · rename_i v1 E1 h1 hv
      split at hc
      · rename_i r2 E2 h2 hq
        injection hc with hc; injection hc with e1 hc; injection hc with e2 e3
        subst e1; subst e2; subst e3
        simp only [relL] at hr
        obtain ⟨x, xs', rfl, k1, k2⟩ := hr
        obtain ⟨φ2, S2, a1, a2, a3, a4, a5⟩ := closeS_ok hd hk k1 hv
        obtain ⟨φ3, S3, b1, b2, b3, b4, b5⟩ := closeL_ok a3 a4 (relL_mono (LocLe.refl _) (fun _ _ => rfl) a2.1 _ _ k2) hq
        refine ⟨φ3, S3, a1.trans b1, a2.trans b2, by rw [List.append_assoc, List.append_assoc]; exact b3, ?_, ?_⟩
        · rw [List.append_assoc, List.length_append, Nat.add_comm h2.length, ← Nat.add_assoc]; exact b4
        · simp only [relL]
          exact ⟨x, xs', rfl, rel_mono b1 (fun _ _ => rfl) b2.1 _ _ a5, b5⟩
      · cases hc
    · cases hc

theorem close1_ok {k : Nat} {h E h' : Hp} {v' : V} (hd : Held T φ φ' b0 w S hp h) (hk : Below' k h) (hr : rel T φ w S v x) (hc : close1 (real P T w0) k hp v = some (v', E, h')) :
    ∃ φ2 S2, LocLe φ' φ2 ∧ SLe b0 S S2 ∧ Held T φ φ2 b0 w S2 (E ++ hp) (h' ++ h) ∧ Below' (k + h'.length) (h' ++ h) ∧ rel T φ2 w S2 v' x := by
  unfold close1 at hc
  split at hc
  · rename_i cs
    split at hc
    · rename_i cs' E1 h1 hv
      injection hc with hc; injection hc with e1 hc; injection hc with e2 e3
      subst e1; subst e2; subst e3
      simp only [rel] at hr
      obtain ⟨a, rfl, k1, k2⟩ := hr
      obtain ⟨φ2, S2, a1, a2, a3, a4, a5⟩ := closeL_ok hd hk k1 hv
      refine ⟨φ2, S2, a1, a2, a3, a4, ?_⟩
      simp only [rel]
      exact ⟨a, rfl, a5, k2⟩
    · cases hc
  · exact closeS_ok hd hk hr hc

theorem close1L_ok : ∀ {vs : List V} {k : Nat} {hp h E h' : Hp} {vs' : List V} {xs : List Value} {φ' : Nat → Option Loc} {S : Nat → Prop}, Held T φ φ' b0 w S hp h → Below' k h → relL T φ w S vs xs → close1L (real P T w0) k hp vs = some (vs', E, h') →
    ∃ φ2 S2, LocLe φ' φ2 ∧ SLe b0 S S2 ∧ Held T φ φ2 b0 w S2 (E ++ hp) (h' ++ h) ∧ Below' (k + h'.length) (h' ++ h) ∧ relL T φ2 w S2 vs' xs
  | [], k, hp, h, E, h', vs', xs, φ', S, hd, hk, hr, hc => by
    simp only [close1L] at hc
    injection hc with hc; injection hc with e1 hc; injection hc with e2 e3
    subst e1; subst e2; subst e3
    exact ⟨φ', S, LocLe.refl _, SLe.refl, hd, hk, by simpa only [relL] using hr⟩
  | v :: r, k, hp, h, E, h', vs', xs, φ', S, hd, hk, hr, hc => by
    simp only [close1L] at hc
    split at hc
    · rename_i v1 E1 h1 hv
      split at hc
      · rename_i r2 E2 h2 hq
        injection hc with hc; injection hc with e1 hc; injection hc with e2 e3
        subst e1; subst e2; subst e3
        simp only [relL] at hr
        obtain ⟨x, xs', rfl, k1, k2⟩ := hr
        obtain ⟨φ2, S2, a1, a2, a3, a4, a5⟩ := close1_ok hd hk k1 hv
        obtain ⟨φ3, S3, b1, b2, b3, b4, b5⟩ := close1L_ok a3 a4 (relL_mono (LocLe.refl _) (fun _ _ => rfl) a2.1 _ _ k2) hq
        refine ⟨φ3, S3, a1.trans b1, a2.trans b2, by rw [List.append_assoc, List.append_assoc]; exact b3, ?_, ?_⟩
        · rw [List.append_assoc, List.length_append, Nat.add_comm h2.length, ← Nat.add_assoc]; exact b4
        · simp only [relL]
          exact ⟨x, xs', rfl, rel_mono b1 (fun _ _ => rfl) b2.1 _ _ a5, b5⟩
      · cases hc
    · cases hc
end
end Go.Ab
end
section
/- Functions: what the calculus asks of a body is enough for its answer; loops. No statement of its own. -/

namespace Go.Ab
open Go.RowKit

section
variable {P : Program} {T : Tr} {w0 : Base} {φ φ' φ2 : Nat → Option Loc} {w w' : World} {S S' S2 : Nat → Prop} {v : V} {hp : Hp} {b0 : Nat → Prop} {x : Value} {a : Act} {ops : Array Oper}

def resM (tmps : Array Value) : ResultVar → Sem Value
  | .tmp t => pure (tmps.getD t undef)
  | .cell c t => do loadVar t (← asAddr (tmps.getD c undef))

theorem resL_ok (htok : TyOk P T) {tm : List V} (hi : Inv T w0 φ S tm hp a w) : ∀ {rs : List ResultVar} {vs : List V}, resL (real P T w0) T tm hp rs = some vs →
    ∃ xs : List Value, (rs.mapM (resM a.tmps)).run P w = .ok xs w ∧ relL T φ w S vs xs
  | [], vs, h => by
    simp only [resL, Option.some.injEq] at h
    subst h
    exact ⟨[], by simp, by simp [relL]⟩
  | .tmp t :: r, vs, h => by
    simp only [resL] at h
    split at h
    · rename_i l hl
      injection h with h; subst h
      obtain ⟨xs, h1, h2⟩ := resL_ok htok hi hl
      refine ⟨a.tmps.getD t undef :: xs, by simp [List.mapM_cons, h1, resM], ?_⟩
      simp only [relL]
      exact ⟨_, xs, rfl, hi.tms t, h2⟩
    · cases h
  | .cell c t :: r, vs, h => by
    simp only [resL] at h
    split at h
    · rename_i v E l hv hl
      injection h with h; subst h
      obtain ⟨xs, h1, h2⟩ := resL_ok htok hi hl
      have hres : Res P T (loadF (real P T w0) T hp t (tm.getD c .dead)) v E := by rw [hv]; exact .ok
      obtain ⟨_, xv, k1, k2⟩ := loadF_ok htok hi.heap hres (hi.tms c)
      have : ∃ ad, a.tmps.getD c undef = .pointer (some ad) := by
        have hr := hi.tms c
        have hv' := hv
        unfold loadF at hv'
        split at hv'
        · cases hv'
        · generalize tm.getD c .dead = p at hr hv'
          cases p with
          | ptr n off => simp only [rel] at hr; obtain ⟨B, _, e⟩ := hr; exact ⟨_, e⟩
          | ep n i j => simp only [rel] at hr; obtain ⟨B, off, len, room, sz, _, _, _, e⟩ := hr; exact ⟨_, e⟩
          | rp u es i j => simp only [rel] at hr; obtain ⟨ad, e, _, _, _, _, _, _, _, e⟩ := hr; exact ⟨_, e⟩
          | _ => cases hv'
      obtain ⟨ad, hA⟩ := this
      rw [hA] at k1
      refine ⟨xv :: xs, ?_, ?_⟩
      · rw [List.mapM_cons]
        have k2' : (resM a.tmps (.cell c t)).run P w = .ok xv w := by
          simp only [resM, hA]
          simpa [asAddr, Instr.loadAt, Instr.sureAddr] using k1
        simp [Sem.run_bind, k2', h1, Result.andThen]
      · simp only [relL]
        exact ⟨_, xs, rfl, k2, h2⟩
    · cases h

theorem results_ok (htok : TyOk P T) {fn : Func} {tm : List V} (hi : Inv T w0 φ S tm hp a w) {K : V → Hp → Prop} (h : retF (real P T w0) T fn.results.toList K tm hp) :
    ∃ x v φ' S' post, (results fn a.tmps).run P w = .ok x w ∧ SLe w0.Z S S' ∧ HOk T φ' w0.Z w S' post ∧ rel T φ' w S' v x ∧ K v post := by
  unfold retF at h
  split at h
  · rename_i vs hvs
    split at h
    · rename_i vs' E h' hcl
      obtain ⟨xs, h1, h2⟩ := resL_ok htok hi hvs
      obtain ⟨φ2, S2, a1, a2, a3, a4, a5⟩ := close1L_ok (Held.nil hi.heap) (fun n _ => rfl) h2 hcl
      have hlen := (relL_iff.1 a5).1
      refine ⟨if hx : xs.toArray.size = 1 then xs.toArray[0] else .tuple xs.toArray, normR (oneOf vs'), φ2, S2, h', ?_, a2, by simpa using a3.gave, ?_, h⟩
      · have hm : (fn.results.mapM (resM a.tmps)).run P w = .ok xs.toArray w := by
          rw [← Array.toArray_toList (xs := fn.results), List.mapM_toArray]
          simp [h1]
        show (do let vs ← fn.results.mapM (resM a.tmps); pure (if h : vs.size = 1 then vs[0] else .tuple vs) : Sem Value).run P w = _
        rw [Sem.run_bind, hm]
        simp [Result.andThen]
      · refine normR_rel ?_
        unfold oneOf
        split
        · rename_i v
          simp only [relL] at a5
          obtain ⟨y, ys, e1, e2, e3⟩ := a5
          subst e3; subst e1
          simpa using e2
        · rename_i hne
          rw [dif_neg (fun e => by
            simp only [List.size_toArray] at e
            rw [← hlen] at e
            match vs', e with
            | [v], _ => exact hne v rfl)]
          simp only [rel]
          exact ⟨_, rfl, by simpa using a5⟩
    · exact h.elim
  · exact h.elim

theorem fn_of_vc (htok : TyOk P T) {f : Nat} {fn : Func} {c : Code} {W : Nat → List (List Nat)} {args : List V} {res : V} {post : Hp} (hf : P.funcs[f]? = some fn) (hname : (fn.name == "runtime.NumGoroutine") = false) (hb : fn.body = some c) (hok : codeOk W c = true)
    (h : ∀ w : World, vc (real P T (.of w)) T W c (retK (real P T (.of w)) T fn.results.toList fun v h => v = res ∧ h = post) (args ++ List.replicate (fn.ntmps - args.length) .dead) []) : Fn P T f args res post := by
  refine fun w S vals hold hr => .inl ⟨⟨fn, c, hf, hname, hb⟩, ?_⟩
  have hlen := (relL_iff.1 hr).1
  refine calls_of_wp hf hb ?_
  have hi : Inv T (.of w) (fun _ => none) S (args ++ List.replicate (fn.ntmps - args.length) .dead) [] { tmps := vals.toArray ++ Array.replicate (fn.ntmps - vals.toArray.size) undef, defers := [] } w := by
    refine ⟨Since.refl w, by simp [hlen], fun t => ?_, rfl, ⟨fun n => by simp [look], fun n b h => (by cases h), fun n b l B h => (by cases h), fun n m b c l k B h => (by cases h), hold⟩, fun p hp => by cases hp⟩
    by_cases ht : t < args.length
    · obtain ⟨u, h1, h2⟩ := relL_get hr ht
      have e1 : (args ++ List.replicate (fn.ntmps - args.length) V.dead).getD t .dead = args.getD t .dead := by
        simp only [List.getD_eq_getElem?_getD, List.getElem?_append_left ht]
      have e2 : (vals.toArray ++ Array.replicate (fn.ntmps - vals.toArray.size) undef).getD t undef = u := by
        rw [Array.getD_eq_getD_getElem?, Array.getElem?_append_left (by simp; omega)]
        simp [h1]
      rw [e1, e2]
      exact h2
    · have e1 : (args ++ List.replicate (fn.ntmps - args.length) V.dead).getD t .dead = .dead := by
        simp only [List.getD_eq_getElem?_getD, List.getElem?_append_right (by omega : args.length ≤ t), List.getElem?_replicate]
        split <;> rfl
      rw [e1]
      simp only [rel]
  have key : ∀ {tm hp φ S' a w'}, SLe (oldZ w) S S' → Inv T (.of w) φ S' tm hp a w' → retF (real P T (.of w)) T fn.results.toList (fun v h => v = res ∧ h = post) tm hp →
      a.defers = [] ∧ ∃ v, (results fn a.tmps).run P w' = .ok v w' ∧ ∃ x φ' S', Ending.returned v = .returned x ∧ Since (.of w) w' ∧ HOk T φ' (oldZ w) w' S' post ∧ rel T φ' w' S' res x ∧ (∀ k, S' k → S k ∨ w.heap.size ≤ k) := by
    intro tm hp φ S' a w' hS hi h
    obtain ⟨x, v, φ', S2, post', h1, h2, h3, h4, rfl, rfl⟩ := results_ok htok hi h
    exact ⟨hi.dfr, x, h1, x, φ', S2, rfl, hi.since, h3, h4, fun k hk => ((hS.trans h2).2 k hk).imp id Nat.not_lt.1⟩
  refine wp_mono (vc_ok htok c hok (h w) _ _ _ _ hi) (fun e a' w' hp => ?_)
  obtain ⟨φ', S', tm', hp', h1, h2, h3, h4⟩ := hp
  cases e with
  | normal => exact key h1 h2 h3
  | ret => exact key h1 h2 h3
  | exit i => exact h3.elim
  | _ => exact h4.elim
end
end Go.Ab
end
section
/- Loops; how the calculus is used. No statement of its own. -/

namespace Go.Ab
open Go.RowKit

def nameR : List (Nat × Nat) → Nat → Nat
  | [], n => n
  | (a, b) :: r, n => match a == n with
    | true => b
    | false => nameR r n

mutual
def renR (ρ : List (Nat × Nat)) : V → V
  | .ptr n j => .ptr (nameR ρ n) j
  | .ep n i j => .ep (nameR ρ n) i j
  | .row n => .row (nameR ρ n)
  | .rowp n lo ln => .rowp (nameR ρ n) lo ln
  | .agg cs => .agg (renRL ρ cs)
  | .tup cs => .tup (renRL ρ cs)
  | .fn f fs cs => .fn f (renRL ρ fs) (renRL ρ cs)
  | v => v
def renRL (ρ : List (Nat × Nat)) : List V → List V
  | [] => []
  | v :: r => renR ρ v :: renRL ρ r
end

def renRB (ρ : List (Nat × Nat)) : Blk → Blk
  | .cells t cs => .cells t (renRL ρ cs)
  | b => b

def hasN (hp : Hp) (n : Nat) : Bool := match look hp n with
  | some _ => true
  | none => false

mutual
def allR (hp : Hp) : V → Bool
  | .ptr n _ => hasN hp n
  | .ep n _ _ => hasN hp n
  | .row n => hasN hp n
  | .rowp n _ _ => hasN hp n
  | .agg cs => allRL hp cs
  | .tup cs => allRL hp cs
  | .fn _ fs cs => match allRL hp fs with
    | true => allRL hp cs
    | false => false
  | _ => true
def allRL (hp : Hp) : List V → Bool
  | [] => true
  | v :: r => match allR hp v with
    | true => allRL hp r
    | false => false
end

def setAll (tm : List V) : List (Nat × V) → List V
  | [] => tm
  | (t, v) :: r => setAll (tm.set t v) r

def mkS (n : Nat) (sl : List (Nat × V)) : List V := setAll (List.replicate n .dead) sl

def fitS1 (a b : V) : Prop := match b with
  | .sl u es => match a with
    | .nil => es = []
    | a => a = .sl u es
  | b => a = b

def fitL : List V → List V → Prop
  | [], [] => True
  | a :: r, b :: s => fitS1 a b ∧ fitL r s
  | _, _ => False

def fitV (a b : V) : Prop := match b with
  | .agg ds => match a with
    | .agg cs => fitL cs ds
    | _ => False
  | b => fitS1 a b

def fitsS (ρ : List (Nat × Nat)) (tm : List V) : List (Nat × V) → Prop
  | [] => True
  | (t, v) :: r => fitV (normV (tm.getD t .dead)) (normV (renR ρ v)) ∧ fitsS ρ tm r

def sameB : Option Blk → Blk → Prop
  | some (.cells t cs), .cells t' cs' => t = t' ∧ fitL (cs.map normV) (cs'.map normV)
  | some (.row u es), .row u' es' => u = u' ∧ es = es'
  | some (.ro u es), .ro u' es' => u = u' ∧ es = es'
  | some .gone, .gone => True
  | _, _ => False

def fitsH (ρ : List (Nat × Nat)) (hp : Hp) : Hp → Prop
  | [] => True
  | (n, b) :: r => sameB (look hp (nameR ρ n)) (renRB ρ b) ∧ fitsH ρ hp r

def okNames (hp : Hp) : List (Nat × V) → Bool
  | [] => true
  | (_, v) :: r => match allR hp v with
    | true => okNames hp r
    | false => false

def okBlks (hp : Hp) : Hp → Bool
  | [] => true
  | (_, b) :: r => match (match b with
      | .cells _ cs => allRL hp cs
      | .gone => false
      | _ => true) with
    | true => okBlks hp r
    | false => false

def once (ρ : List (Nat × Nat)) : Hp → List Nat → List Nat → Bool
  | [], _, _ => true
  | (n, _) :: r, as_, bs => match memN n as_ with
    | true => false
    | false => match memN (nameR ρ n) bs with
      | true => false
      | false => once ρ r (n :: as_) (nameR ρ n :: bs)

def okState (ρ : List (Nat × Nat)) (sl : List (Nat × V)) (hp' : Hp) : Bool := match okNames hp' sl with
  | true => match okBlks hp' hp' with
    | true => once ρ hp' [] []
    | false => false
  | false => false

def ancOk (ρ : List (Nat × Nat)) (hp : Hp) : List Nat → Bool
  | [] => true
  | n :: r => match hasN hp n with
    | true => match nameR ρ n == n with
      | true => ancOk ρ hp r
      | false => false
    | false => false

structure Fits (ns : List Nat) (n : Nat) (ρ : List (Nat × Nat)) (sl : List (Nat × V)) (hp' : Hp) (tm : List V) (hp : Hp) : Prop where
  len : tm.length = n
  slots : fitsS ρ tm sl
  rows : fitsH ρ hp hp'
  ok : okState ρ sl hp' = true
  anc : ancOk ρ hp' ns = true

section
variable {P : Program} {T : Tr} {w0 : Base} {φ φ' φ2 : Nat → Option Loc} {w w' : World} {S S' S2 : Nat → Prop} {v : V} {hp : Hp} {b0 : Nat → Prop} {x : Value} {a : Act} {ops : Array Oper}

theorem hasN_iff {n : Nat} : hasN hp n = true ↔ ∃ b, look hp n = some b := by
  unfold hasN
  split
  · rename_i b hb; simp [hb]
  · rename_i hb; simp [hb]

def fitφ (φ : Nat → Option Loc) (ρ : List (Nat × Nat)) (hp' : Hp) (n : Nat) : Option Loc := if hasN hp' n = true then φ (nameR ρ n) else none

mutual
theorem fit_rel {ρ : List (Nat × Nat)} {hp' : Hp} : ∀ (v : V) (x : Value), allR hp' v = true → rel T φ w S (renR ρ v) x → rel T (fitφ φ ρ hp') w S v x
  | .s v, x, hn, h => by simpa only [rel, renR] using h
  | .i k n, x, hn, h => by simpa only [rel, renR] using h
  | .b c, x, hn, h => by simpa only [rel, renR] using h
  | .str s, x, hn, h => by simpa only [rel, renR] using h
  | .nil, x, hn, h => by simpa only [rel, renR] using h
  | .dead, x, hn, h => by simp only [rel]
  | .nlq g es, x, hn, h => by simpa only [rel, renR] using h
  | .mp t L, x, hn, h => by simpa only [rel, renR] using h
  | .sl et es, x, hn, h => by
    simp only [rel, renR] at h ⊢
    obtain ⟨A, cap, h1, h2, h3, h5, h6⟩ := h
    refine ⟨A, cap, h1, h2, h3, h5, fun hne => ?_⟩
    obtain ⟨ad, e, ha, hl, hz, hs, he⟩ := h6 hne
    exact ⟨ad, e, ha, hl, hz, hs, wtL_free es et 0 ad e.size h5 he⟩
  | .rp et es i j, x, hn, h => by
    simp only [rel, renR] at h ⊢
    obtain ⟨ad, e, h1, h2, h3, h4, h5, h6⟩ := h
    exact ⟨ad, e, h1, h2, h3, h4, wtL_free es et 0 ad e.size h3 h5, h6⟩
  | .agg cs, x, hn, h => by
    simp only [rel, renR] at h ⊢
    obtain ⟨a, h1, h2, h3⟩ := h
    exact ⟨a, h1, fit_relL cs _ hn h2, h3⟩
  | .tup cs, x, hn, h => by
    simp only [rel, renR] at h ⊢
    obtain ⟨a, h1, h2⟩ := h
    exact ⟨a, h1, fit_relL cs _ hn h2⟩
  | .fn f fs cs, x, hn, h => by
    simp only [rel, renR] at h ⊢
    obtain ⟨a, b, h1, h2, h3⟩ := h
    simp only [allR] at hn
    split at hn
    · rename_i h0
      exact ⟨a, b, h1, fit_relL fs _ h0 h2, fit_relL cs _ hn h3⟩
    · cases hn
  | .ptr n j, x, hn, h => by
    simp only [rel, renR, allR] at h hn ⊢
    simp only [fitφ, if_pos hn]
    exact h
  | .ep n i j, x, hn, h => by
    simp only [rel, renR, allR] at h hn ⊢
    simp only [fitφ, if_pos hn]
    exact h
  | .row n, x, hn, h => by
    simp only [rel, renR, allR] at h hn ⊢
    simp only [fitφ, if_pos hn]
    exact h
  | .rowp n lo ln, x, hn, h => by
    simp only [rel, renR, allR] at h hn ⊢
    simp only [fitφ, if_pos hn]
    exact h
theorem fit_relL {ρ : List (Nat × Nat)} {hp' : Hp} : ∀ (cs : List V) (xs : List Value), allRL hp' cs = true → relL T φ w S (renRL ρ cs) xs → relL T (fitφ φ ρ hp') w S cs xs
  | [], xs, hn, h => by simpa only [relL, renRL] using h
  | v :: r, xs, hn, h => by
    simp only [relL, renRL] at h ⊢
    obtain ⟨x, xs', h1, h2, h3⟩ := h
    simp only [allRL] at hn
    split at hn
    · rename_i h0
      exact ⟨x, xs', h1, fit_rel v x h0 h2, fit_relL r xs' hn h3⟩
    · cases hn
end

theorem fitsH_look {ρ : List (Nat × Nat)} : ∀ {hp' : Hp}, fitsH ρ hp hp' → ∀ n b, look hp' n = some b → sameB (look hp (nameR ρ n)) (renRB ρ b)
  | (k, c) :: r, h, n, b, hb => by
    rw [look_cons] at hb
    split at hb
    · rename_i e; subst e; injection hb with hb; subst hb; exact h.1
    · exact fitsH_look h.2 n b hb

theorem memN_iff {n : Nat} : ∀ {l : List Nat}, memN n l = true ↔ n ∈ l
  | [] => by simp [memN]
  | m :: r => by
    simp only [memN]
    split
    · rename_i e; have : n = m := by simpa using e
      simp [this]
    · rename_i e; have : n ≠ m := by simpa using e
      rw [memN_iff]; simp [this]

theorem once_inj {ρ : List (Nat × Nat)} : ∀ {hp' : Hp} {as_ bs : List Nat}, once ρ hp' as_ bs = true → (∀ n b, look hp' n = some b → nameR ρ n ∉ bs) ∧ ∀ n m b c, look hp' n = some b → look hp' m = some c → nameR ρ n = nameR ρ m → n = m
  | [], as_, bs, _ => ⟨fun n b h => (by cases h), fun n m b c h => (by cases h)⟩
  | (k, d) :: r, as_, bs, h => by
    simp only [once] at h
    split at h
    · cases h
    · split at h
      · cases h
      · rename_i hk
        have hk : nameR ρ k ∉ bs := fun e => by rw [memN_iff.2 e] at hk; cases hk
        obtain ⟨h1, h2⟩ := once_inj h
        refine ⟨fun n b hb => ?_, fun n m b c hb hc e => ?_⟩
        · rw [look_cons] at hb
          split at hb
          · rename_i e; subst e; exact hk
          · exact fun hm => h1 n b hb (List.mem_cons_of_mem _ hm)
        · rw [look_cons] at hb hc
          split at hb
          · rename_i e1
            split at hc
            · rename_i e2; rw [← e1, ← e2]
            · subst e1
              exact absurd (by rw [← e]; exact List.mem_cons_self) (h1 m c hc)
          · split at hc
            · rename_i e2
              subst e2
              exact absurd (by rw [e]; exact List.mem_cons_self) (h1 n b hb)
            · exact h2 n m b c hb hc e

theorem okNames_mem {hp' : Hp} : ∀ {sl : List (Nat × V)}, okNames hp' sl = true → ∀ p ∈ sl, allR hp' p.2 = true
  | (t, v) :: r, h, p, hp => by
    simp only [okNames] at h
    split at h
    · rename_i h0
      rcases List.mem_cons.1 hp with rfl | hp
      · exact h0
      · exact okNames_mem h p hp
    · cases h

theorem okBlks_look {hq : Hp} : ∀ {hp' : Hp}, okBlks hq hp' = true → ∀ n b, look hp' n = some b → (match b with
      | .cells _ cs => allRL hq cs
      | .gone => false
      | _ => true) = true
  | (k, c) :: r, h, n, b, hb => by
    simp only [okBlks] at h
    split at h
    · rename_i h0
      rw [look_cons] at hb
      split at hb
      · injection hb with hb; subst hb; exact h0
      · exact okBlks_look h n b hb
    · cases h

theorem fitsS_mem {ρ : List (Nat × Nat)} {tm : List V} : ∀ {sl : List (Nat × V)}, fitsS ρ tm sl → ∀ p ∈ sl, fitV (normV (tm.getD p.1 .dead)) (normV (renR ρ p.2))
  | (t, v) :: r, h, p, hp => by
    rcases List.mem_cons.1 hp with rfl | hp
    · exact h.1
    · exact fitsS_mem h.2 p hp

theorem setAll_get : ∀ {sl : List (Nat × V)} {tm : List V} {t : Nat}, (setAll tm sl).getD t .dead = tm.getD t .dead ∨ (t, (setAll tm sl).getD t .dead) ∈ sl
  | [], tm, t => .inl rfl
  | (k, v) :: r, tm, t => by
    simp only [setAll]
    rcases setAll_get (sl := r) (tm := tm.set k v) (t := t) with h | h
    · rw [h, getD_set]
      split
      · rename_i e; rw [← e.1]; exact .inr List.mem_cons_self
      · exact .inl rfl
    · exact .inr (List.mem_cons_of_mem _ h)

theorem setAll_length : ∀ {sl : List (Nat × V)} {tm : List V}, (setAll tm sl).length = tm.length
  | [], tm => rfl
  | (k, v) :: r, tm => by simp only [setAll]; rw [setAll_length]; simp

theorem norm1_rel' {v : V} {x : Value} (h : rel T φ w S (norm1 v) x) : rel T φ w S v x := by
  cases v with
  | s u => cases u <;> simp_all [norm1, rel, Value.oneCell']
  | _ => exact h
theorem normL_rel' : ∀ {cs : List V} {xs : List Value}, relL T φ w S (cs.map norm1) xs → relL T φ w S cs xs
  | [], xs, h => by simpa only [relL, List.map_nil] using h
  | v :: r, xs, h => by
    simp only [relL, List.map_cons] at h ⊢
    obtain ⟨x, xs', h1, h2, h3⟩ := h
    exact ⟨x, xs', h1, norm1_rel' h2, normL_rel' h3⟩
theorem norm_rel' {v : V} {x : Value} (h : rel T φ w S (normV v) x) : rel T φ w S v x := by
  cases v with
  | agg cs =>
    simp only [normV, rel] at h ⊢
    obtain ⟨a, h1, h2, h3⟩ := h
    exact ⟨a, h1, normL_rel' h2, h3⟩
  | s u => exact norm1_rel' (v := .s u) h
  | _ => exact h
theorem normVL_rel' : ∀ {cs : List V} {xs : List Value}, relL T φ w S (cs.map normV) xs → relL T φ w S cs xs
  | [], xs, h => by simpa only [relL, List.map_nil] using h
  | v :: r, xs, h => by
    simp only [relL, List.map_cons] at h ⊢
    obtain ⟨x, xs', h1, h2, h3⟩ := h
    exact ⟨x, xs', h1, norm_rel' h2, normVL_rel' h3⟩

theorem fitS1_rel {a b : V} {x : Value} (hf : fitS1 a b) (h : rel T φ w S a x) : rel T φ w S b x := by
  unfold fitS1 at hf
  split at hf
  · split at hf
    · subst hf
      simp only [rel] at h ⊢
      subst h
      exact ⟨none, 0, rfl, Nat.le_refl _, Nat.zero_le _, by simp [wtL], fun hne => absurd rfl hne⟩
    · subst hf; exact h
  · subst hf; exact h
theorem fitL_rel : ∀ {as_ bs : List V} {xs : List Value}, fitL as_ bs → relL T φ w S as_ xs → relL T φ w S bs xs
  | [], [], xs, _, h => h
  | a :: r, b :: s, xs, hf, h => by
    simp only [relL, fitL] at h hf ⊢
    obtain ⟨x, xs', h1, h2, h3⟩ := h
    exact ⟨x, xs', h1, fitS1_rel hf.1 h2, fitL_rel hf.2 h3⟩
  | [], _ :: _, _, hf, _ => hf.elim
  | _ :: _, [], _, hf, _ => hf.elim
theorem fitV_rel {a b : V} {x : Value} (hf : fitV a b) (h : rel T φ w S a x) : rel T φ w S b x := by
  unfold fitV at hf
  split at hf
  · split at hf
    · simp only [rel] at h ⊢
      obtain ⟨c, h1, h2, h3⟩ := h
      exact ⟨c, h1, fitL_rel hf h2, h3⟩
    · exact hf.elim
  · exact fitS1_rel hf h

theorem sameB_some {ob : Option Blk} {b : Blk} (h : sameB ob b) : ∃ c, ob = some c ∧ c.own = b.own ∧ ∀ n, BlkOk T φ w S n c → BlkOk T φ w S n b := by
  unfold sameB at h
  split at h
  · obtain ⟨rfl, h2⟩ := h
    refine ⟨_, rfl, rfl, fun n hb => ?_⟩
    obtain ⟨B, arr, h1, h3, h4, h5⟩ := hb
    exact ⟨B, arr, h1, h3, normVL_rel' (fitL_rel h2 (normVL_rel h4)), h5⟩
  · obtain ⟨rfl, rfl⟩ := h; exact ⟨_, rfl, rfl, fun n hb => hb⟩
  · obtain ⟨rfl, rfl⟩ := h; exact ⟨_, rfl, rfl, fun n hb => hb⟩
  · exact ⟨_, rfl, rfl, fun n hb => hb⟩
  · exact h.elim

theorem renRB_own {ρ : List (Nat × Nat)} {b : Blk} : (renRB ρ b).own = b.own := by cases b <;> rfl

theorem ancOk_mem {ρ : List (Nat × Nat)} {hp : Hp} : ∀ {ns : List Nat}, ancOk ρ hp ns = true → ∀ n ∈ ns, hasN hp n = true ∧ nameR ρ n = n
  | m :: r, h, n, hn => by
    simp only [ancOk] at h
    split at h
    · rename_i h1
      split at h
      · rename_i h2
        rcases List.mem_cons.1 hn with rfl | hn
        · exact ⟨h1, by simpa using h2⟩
        · exact ancOk_mem h n hn
      · cases h
    · cases h

theorem Inv.fit {ρ : List (Nat × Nat)} {sl : List (Nat × V)} {hp hp' : Hp} {tm : List V} (h : Inv T w0 φ S tm hp a w) {n : Nat} {ns : List Nat} (hns : ∀ p ∈ w0.anc, p.1 ∈ ns) (hf : Fits ns n ρ sl hp' tm hp) : Inv T w0 (fitφ φ ρ hp') S (mkS n sl) hp' a w := by
  obtain ⟨f0, f1, f2, f3, f4⟩ := hf
  subst f0
  simp only [okState] at f3
  split at f3
  · rename_i n1
    split at f3
    · rename_i n2
      have inj := (once_inj f3).2
      have at' : ∀ {n b}, look hp' n = some b → fitφ φ ρ hp' n = φ (nameR ρ n) := fun hb => by
        simp only [fitφ, if_pos (hasN_iff.2 ⟨_, hb⟩)]
      refine ⟨h.since, by rw [mkS, setAll_length]; simpa using h.size, fun t => ?_, h.dfr, ⟨fun n => ?_, fun n b hb => ?_, fun n b l B hb ho hl hB => ?_, fun n m b c l k B hb hc ho ho' hl hk hB hB' => ?_, h.heap.old⟩, fun p hp => ?_⟩
      · rcases setAll_get (sl := sl) (tm := List.replicate tm.length .dead) (t := t) with e | e
        · rw [mkS, e]
          simp only [List.getD_eq_getElem?_getD, List.getElem?_replicate]
          split <;> simp [rel]
        · have e1 := okNames_mem n1 _ e
          have e2 := fitsS_mem f1 _ e
          have := h.tms t
          simp only at e2
          have := fitV_rel e2 (norm_rel this)
          exact fit_rel _ _ e1 (norm_rel' this)
      · constructor
        · intro hn
          cases hb : look hp' n with
          | none => rfl
          | some b =>
            rw [at' hb] at hn
            have := (h.heap.dom _).1 hn
            obtain ⟨c, hc, _⟩ := sameB_some (T := T) (φ := φ) (w := w) (S := S) (fitsH_look f2 n b hb)
            rw [hc] at this
            cases this
        · intro hn
          simp only [fitφ]
          rw [if_neg (fun e => by obtain ⟨b, hb⟩ := hasN_iff.1 e; rw [hn] at hb; cases hb)]
      · obtain ⟨c, hl, _, hc⟩ := sameB_some (T := T) (φ := φ) (w := w) (S := S) (fitsH_look f2 n b hb)
        have hB := hc _ (h.heap.blk _ _ hl)
        cases b with
        | cells t cs =>
          obtain ⟨B, arr, h1, h2, h3, h4⟩ := hB
          exact ⟨B, arr, by rw [at' hb]; exact h1, h2, fit_relL cs _ (okBlks_look n2 n _ hb) h3, h4⟩
        | row et es =>
          obtain ⟨hw, e, he, hz, hh⟩ := hB
          refine ⟨hw, e, he, hz, ?_⟩
          rcases hh with ⟨B, off, room, arr, h1, h2, h3, h4, h5, h6⟩ | ⟨h1, h2⟩
          · refine .inl ⟨B, off, room, arr, by rw [at' hb]; exact h1, h2, h3, h4, h5, fun j c hj => ?_⟩
            obtain ⟨y, y1, y2⟩ := h6 j c hj
            exact ⟨y, wt_free c et y (wtL_iff.1 hw c (List.mem_of_getElem? hj)) y1, y2⟩
          · exact .inr ⟨by rw [at' hb]; exact h1, h2⟩
        | ro et es =>
          obtain ⟨hw, e, he, hz, hh⟩ := hB
          refine ⟨hw, e, he, hz, ?_⟩
          rcases hh with ⟨B, off, room, arr, fz, h1, h2, h3, h4, h5, h6⟩ | ⟨h1, h2⟩
          · refine .inl ⟨B, off, room, arr, fz, by rw [at' hb]; exact h1, h2, h3, h4, h5, fun j c hj => ?_⟩
            obtain ⟨y, y1, y2⟩ := h6 j c hj
            exact ⟨y, wt_free c et y (wtL_iff.1 hw c (List.mem_of_getElem? hj)) y1, y2⟩
          · exact .inr ⟨by rw [at' hb]; exact h1, h2⟩
        | gone => trivial
      · rw [at' hb] at hl
        obtain ⟨c, hc, hco, _⟩ := sameB_some (T := T) (φ := φ) (w := w) (S := S) (fitsH_look f2 n b hb)
        exact h.heap.own _ _ l B hc (by rw [hco, renRB_own]; exact ho) hl hB
      · rw [at' hb] at hl
        rw [at' hc] at hk
        obtain ⟨b1, hb1, hbo, _⟩ := sameB_some (T := T) (φ := φ) (w := w) (S := S) (fitsH_look f2 n b hb)
        obtain ⟨c1, hc1, hco, _⟩ := sameB_some (T := T) (φ := φ) (w := w) (S := S) (fitsH_look f2 m c hc)
        exact inj n m b c hb hc (h.heap.inj _ _ _ _ l k B hb1 hc1 (by rw [hbo, renRB_own]; exact ho) (by rw [hco, renRB_own]; exact ho') hl hk hB hB')
      · obtain ⟨a1, a2⟩ := ancOk_mem f4 _ (hns p hp)
        simp only [fitφ, if_pos a1, a2]
        exact h.anc p hp
    · cases f3
  · cases f3

theorem loop_ok (htok : TyOk P T) {ns : List Nat} (hns : ∀ p ∈ w0.anc, p.1 ∈ ns) {W : Nat → List (List Nat)} {b : Code} {K : Exit → List V → Hp → Prop} {tm : List V} {hp : Hp} {α : Type} (n : Nat) (sl : α → List (Nat × V)) (hs : α → Hp) (I : α → Prop) (μ : α → Nat) (a0 : α) (ρ0 : List (Nat × Nat)) (h0 : I a0) (hst : Fits ns n ρ0 (sl a0) (hs a0) tm hp) (hok : codeOk W b = true)
    (hstep : ∀ a, I a → ∀ L : List V → Hp → Prop, (∀ a' ρ tm hp, I a' → μ a' < μ a → Fits ns n ρ (sl a') (hs a') tm hp → L tm hp) → vc (real P T w0) T W b (fun e tm hp => match e with | .normal => L tm hp | e => K e tm hp) (mkS n (sl a)) (hs a)) :
    Sat P T w0 (.loop b) K tm hp := by
  intro φ S a w hi
  have key : ∀ (m : Nat) (a1 : α) (φ1 : Nat → Option Loc) (S1 : Nat → Prop) (act : Act) (w1 : World), μ a1 < m → I a1 → SLe w0.Z S S1 → Inv T w0 φ1 S1 (mkS n (sl a1)) (hs a1) act w1 → Code.rounds P b (Post T w0 S K) m act w1 := by
    intro m
    induction m with
    | zero => intro a1 _ _ _ _ h; omega
    | succ m ih =>
      intro a1 φ1 S1 act w1 hm hI hS hinv
      rw [rounds_succ]
      have hvc := hstep a1 hI (fun tm hp => ∃ a' ρ, I a' ∧ μ a' < μ a1 ∧ Fits ns n ρ (sl a') (hs a') tm hp) (fun a' ρ tm hp h1 h2 h3 => ⟨a', ρ, h1, h2, h3⟩)
      refine wp_mono (vc_ok htok b hok hvc φ1 S1 act w1 hinv) (fun e act2 w2 hp => ?_)
      obtain ⟨φ2, S2, tm2, hp2, k1, k2, k3, k4⟩ := hp
      cases e with
      | normal =>
        obtain ⟨a', ρ, j1, j2, j3⟩ := k3
        have := k2.fit hns j3
        exact ih a' _ S2 act2 w2 (by omega) j1 (hS.trans k1) this
      | exit i => exact ⟨φ2, S2, tm2, hp2, hS.trans k1, k2, k3, k4⟩
      | ret => exact ⟨φ2, S2, tm2, hp2, hS.trans k1, k2, k3, k4⟩
      | _ => exact k4.elim
  have := hi.fit hns hst
  exact wp_loop_rounds _ (key _ a0 _ S a w (Nat.lt_succ_self _) h0 SLe.refl this)

theorem Inv.born {tm : List V} {t n et : Nat} {e : TE} (h : Inv T w0 φ S tm hp a w) (ht : tm.getD t .dead = .nil) (hn : look hp n = none) (he : T.look et = some e) (hz : 0 < e.size) : ∃ φ', Inv T w0 φ' S (tm.set t (.row n)) ((n, .row et []) :: hp) a w := by
  have hφ : φ n = none := (h.heap.dom n).2 hn
  have hx := h.tms t
  rw [ht] at hx
  simp only [rel] at hx
  refine ⟨upd φ n .nilrow, h.since, by simp [h.size], fun u => ?_, h.dfr, ?_, fun p hp => upd_le hφ _ _ (h.anc p hp)⟩
  · rw [getD_set]
    split
    · rename_i hu
      rw [← hu.1, hx]
      simp only [rel]
      exact .inr ⟨upd_self, none, rfl⟩
    · exact rel_mono (upd_le hφ) (fun _ _ => rfl) (fun _ h => h) _ _ (h.tms u)
  · refine h.heap.cons (upd_le hφ) (fun k hk => upd_ne hk) (by rw [upd_self]; simp) (fun _ _ => rfl) (fun _ h => h) (fun k c l B hk hc hc2 hl hB => ⟨rfl, (h.heap.own k c l B hc hc2 hl hB).2.2⟩) (Nat.le_refl _) ?_ (fun _ l B hl hB => ?_) h.heap.old
    · exact ⟨by simp [wtL], e, he, hz, .inr ⟨upd_self, rfl⟩⟩
    · rw [upd_self] at hl; injection hl with hl; subst hl; cases hB

theorem Inv.bornC {tm : List V} {n0 j n et t0 : Nat} {cs : List V} {e : TE} (h : Inv T w0 φ S tm hp a w) (hc : look hp n0 = some (.cells t0 cs)) (hj : cs[j]? = some .nil) (hn : look hp n = none) (he : T.look et = some e) (hz : 0 < e.size) : ∃ φ', Inv T w0 φ' S tm ((n0, .cells t0 (cs.set j (.row n))) :: (n, .row et []) :: hp) a w := by
  have hφ : φ n = none := (h.heap.dom n).2 hn
  have hne : n0 ≠ n := fun e => by subst e; rw [hn] at hc; cases hc
  have h1 : HOk T (upd φ n .nilrow) w0.Z w S ((n, .row et []) :: hp) := by
    refine h.heap.cons (upd_le hφ) (fun k hk => upd_ne hk) (by rw [upd_self]; simp) (fun _ _ => rfl) (fun _ h => h) (fun k c l B hk hc hc2 hl hB => ⟨rfl, (h.heap.own k c l B hc hc2 hl hB).2.2⟩) (Nat.le_refl _) ?_ (fun _ l B hl hB => ?_) h.heap.old
    · exact ⟨by simp [wtL], e, he, hz, .inr ⟨upd_self, rfl⟩⟩
    · rw [upd_self] at hl; injection hl with hl; subst hl; cases hB
  have hl1 : look ((n, Blk.row et []) :: hp) n0 = some (.cells t0 cs) := by rw [look_cons, if_neg (fun e => hne e.symm)]; exact hc
  refine ⟨upd φ n .nilrow, h.since, h.size, fun u => rel_mono (upd_le hφ) (fun _ _ => rfl) (fun _ h => h) _ _ (h.tms u), h.dfr, ?_, fun p hp => upd_le hφ _ _ (h.anc p hp)⟩
  obtain ⟨B, arr, k1, k2, k3, k4⟩ := h1.blk _ _ hl1
  refine h1.cons (LocLe.refl _) (fun k hk => rfl) (by rw [k1]; simp) (fun _ _ => rfl) (fun _ h => h) (fun k c l B' hk hc hc2 hl hB => ⟨rfl, (h1.own k c l B' hc hc2 hl hB).2.2⟩) (Nat.le_refl _) ?_ (fun _ l B' hl hB => ?_) h1.old
  · refine ⟨B, arr, k1, k2, relL_iff.2 ⟨?_, fun i c x hi hx => ?_⟩, k4⟩
    · rw [List.length_set]; exact (relL_iff.1 k3).1
    · rw [List.getElem?_set] at hi
      split at hi
      · rename_i hij
        subst hij
        split at hi
        · injection hi with hi
          subst hi
          have := (relL_iff.1 k3).2 _ _ _ hj hx
          simp only [rel] at this ⊢
          exact .inr ⟨upd_self, none, this⟩
        · cases hi
      · exact (relL_iff.1 k3).2 _ _ _ hi hx
  · obtain ⟨o1, o2, o3⟩ := h1.own _ _ l B' hl1 rfl hl hB
    exact ⟨o1, o2, o3, fun m c k hm hc hc2 hk hB2 => hm (h1.inj _ _ _ _ k l B' hc hl1 hc2 rfl hk hl hB2 hB)⟩

theorem real_bornC {o : Ops} (ho : o = real P T w0) {b : Code} {K : Exit → List V → Hp → Prop} {tm : List V} {hp : Hp} {n0 j n et t0 : Nat} {cs : List V} {e : TE} (hc : look hp n0 = some (.cells t0 cs)) (hj : cs[j]? = some .nil) (hn : look hp n = none) (he : T.look et = some e) (hz : 0 < e.size) (h : o.loop b K tm ((n0, .cells t0 (cs.set j (.row n))) :: (n, .row et []) :: hp)) : o.loop b K tm hp := by
  subst ho
  intro φ S a w hi
  obtain ⟨φ', hi'⟩ := hi.bornC hc hj hn he hz
  exact h φ' S a w hi'

theorem real_born {o : Ops} (ho : o = real P T w0) {b : Code} {K : Exit → List V → Hp → Prop} {tm : List V} {hp : Hp} {t n et : Nat} {e : TE} (ht : tm.getD t .dead = .nil) (hn : look hp n = none) (he : T.look et = some e) (hz : 0 < e.size) (h : o.loop b K (tm.set t (.row n)) ((n, .row et []) :: hp)) : o.loop b K tm hp := by
  subst ho
  intro φ S a w hi
  obtain ⟨φ', hi'⟩ := hi.born ht hn he hz
  exact h φ' S a w hi'

theorem fn_of (htok : TyOk P T) {f : Nat} {fn : Func} {c : Code} (W : Nat → List (List Nat)) {args : List V} {res : V} {post : Hp} (hf : P.funcs[f]? = some fn) (hname : (fn.name == "runtime.NumGoroutine") = false) (hb : fn.body = some c) (hok : codeOk W c = true)
    (h : ∀ (w : World) o, o = real P T (.of w) → ∀ K : V → Hp → Prop, (∀ v h, v = res → h = post → K v h) → vc o T W c (retK o T fn.results.toList K) (args ++ List.replicate (fn.ntmps - args.length) .dead) []) : Fn P T f args res post :=
  fn_of_vc htok hf hname hb hok (fun w0 => h w0 _ rfl _ (fun v h e1 e2 => ⟨e1, e2⟩))

theorem real_br {o : Ops} (ho : o = real P T w0) {c : Bool} {A B : Unit → Prop} (h1 : c = true → A ()) (h2 : c = false → B ()) : o.br c A B := by subst ho; exact ⟨h1, h2⟩
theorem real_need {o : Ops} (ho : o = real P T w0) {p q : Prop} (h1 : p) (h2 : q) : o.need p q := by subst ho; exact ⟨h1, h2⟩
theorem real_call {o : Ops} (ho : o = real P T w0) {f : Nat} {args : List V} {K : V → Hp → Prop} {v : V} {h : Hp} (h1 : Fn P T f args v h) (h2 : K v h) : o.call f args K := by subst ho; exact ⟨v, h, h1, h2⟩
theorem real_loop_ok {o : Ops} (ho : o = real P T w0) (htok : TyOk P T) {ns : List Nat} (hns : ∀ p ∈ w0.anc, p.1 ∈ ns) {W : Nat → List (List Nat)} {b : Code} {K : Exit → List V → Hp → Prop} {tm : List V} {hp : Hp} {α : Type} (n : Nat) (sl : α → List (Nat × V)) (hs : α → Hp) (I : α → Prop) (μ : α → Nat) (a0 : α) (ρ0 : List (Nat × Nat)) (h0 : I a0) (hst : Fits ns n ρ0 (sl a0) (hs a0) tm hp) (hok : codeOk W b = true)
    (hstep : ∀ a, I a → ∀ L : List V → Hp → Prop, (∀ a' ρ tm hp, I a' → μ a' < μ a → Fits ns n ρ (sl a') (hs a') tm hp → L tm hp) → vc o T W b (fun e tm hp => match e with | .normal => L tm hp | e => K e tm hp) (mkS n (sl a)) (hs a)) :
    o.loop b K tm hp := by
  subst ho
  exact loop_ok htok hns n sl hs I μ a0 ρ0 h0 hst hok hstep
theorem real_nl {o : Ops} (ho : o = real P T w0) {es : List V} {A B : Unit → Prop} (h1 : es = [] → A ()) (h2 : B ()) : o.nl es A B := by subst ho; exact ⟨h1, h2⟩
theorem real_cut {o : Ops} (ho : o = real P T w0) (htok : TyOk P T) {W : Nat → List (List Nat)} {a b : Code} {K : Exit → List V → Hp → Prop} {tm : List V} {hp : Hp} (ha : codeOk W a = true) (hb : codeOk W b = true)
    (h : vc o T W a (fun e tm hp => match e with | .normal => vc o T W b K tm hp | e => K e tm hp) tm hp) : o.cut a b K tm hp := by
  subst ho
  intro φ S act w hi
  refine wp_seq (wp_mono (vc_ok htok a ha h φ S act w hi) (fun e a' w' hp => ?_))
  obtain ⟨φ', S', tm', hp', h1, h2, h3, h4⟩ := hp
  cases e with
  | normal => exact wp_mono (vc_ok htok b hb h3 φ' S' a' w' h2) (fun e a w hp => hp.weaken h1 (fun _ _ h => h))
  | exit i => exact ⟨φ', S', tm', hp', h1, h2, h3, h4⟩
  | ret => exact ⟨φ', S', tm', hp', h1, h2, h3, h4⟩
  | _ => exact h4.elim
theorem real_cutF {o : Ops} (ho : o = real P T w0) (htok : TyOk P T) {ns : List Nat} (hns : ∀ p ∈ w0.anc, p.1 ∈ ns) {W : Nat → List (List Nat)} {a b : Code} {K : Exit → List V → Hp → Prop} {tm : List V} {hp : Hp} (n : Nat) (sl : List (Nat × V)) (hs : Hp) (ha : codeOk W a = true) (hb : codeOk W b = true)
    (h : ∀ L : List V → Hp → Prop, (∀ ρ tm' hp', Fits ns n ρ sl hs tm' hp' → L tm' hp') → vc o T W a (fun e tm hp => match e with | .normal => L tm hp | e => K e tm hp) tm hp) (hk : vc o T W b K (mkS n sl) hs) : o.cut a b K tm hp := by
  subst ho
  intro φ S act w hi
  refine wp_seq (wp_mono (vc_ok htok a ha (h (fun tm' hp' => ∃ ρ, Fits ns n ρ sl hs tm' hp') (fun ρ tm' hp' hf => ⟨ρ, hf⟩)) φ S act w hi) (fun e a' w' hp => ?_))
  obtain ⟨φ', S', tm', hp', h1, h2, h3, h4⟩ := hp
  cases e with
  | normal =>
    obtain ⟨ρ, hf⟩ := h3
    exact wp_mono (vc_ok htok b hb hk _ S' a' w' (h2.fit hns hf)) (fun e a w hp => hp.weaken h1 (fun _ _ h => h))
  | exit i => exact ⟨φ', S', tm', hp', h1, h2, h3, h4⟩
  | ret => exact ⟨φ', S', tm', hp', h1, h2, h3, h4⟩
  | _ => exact h4.elim
theorem real_loop {o : Ops} (ho : o = real P T w0) {b : Code} {K : Exit → List V → Hp → Prop} {tm : List V} {hp : Hp} (h : Sat P T w0 (.loop b) K tm hp) : o.loop b K tm hp := by subst ho; exact h
end

def lenI (es : List V) : Int := es.length
def slenI (s : ByteArray) : Int := s.size
def sbyteI (s : ByteArray) (i : Int) : Int := ((s[i.toNat]?).getD 0).toNat
theorem lenI_eq (es : List V) : lenI es = es.length := rfl
theorem slenI_eq (s : ByteArray) : slenI s = s.size := rfl

structure Eqs (ar : BinOp → IntKind → Int → Int → Int) (un : UnOp → IntKind → Int → Int) (cv : IntKind → Int → Int) (mn : Int → Int → Int) (mx : Int → Int → Int) (pl : Int → Int → Int) (mi : Int → Int → Int) (cmp : BinOp → Int → Int → Bool) (nt : Bool → Bool) (beq : Bool → Bool → Bool) (an : Bool → Bool → Bool) (scmp : BinOp → ByteArray → ByteArray → Bool) (cat : ByteArray → ByteArray → ByteArray) (slen : ByteArray → Int) (sbyte : ByteArray → Int → Int) (ssub : ByteArray → Int → Int → ByteArray) (ofB : ByteArray → List V) (toB : List V → ByteArray) (len : List V → Int) (gi : List V → Int → Nat → Int) (gb : List V → Int → Nat → Bool) (gs : List V → Int → Nat → ByteArray) (gl : List V → Int → Nat → List V) (sub : List V → Int → Int → List V) (put : List V → Int → Nat → List V → List V) (app : List V → List V → List V) (ovl : List V → Int → List V → List V) (rep : Int → V → List V) (ne0 : Int → Prop) (ge0 : Int → Prop) (inb : Int → Int → Prop) (bnd : Int → Int → Int → Prop) (room : Int → Nat → Prop) (sroom : ByteArray → ByteArray → Prop) : Prop where
  har : ar = arReal
  hun : un = unReal
  hcv : ∀ k a, cv k a = k.wrap a
  hmn : ∀ a b, mn a b = if b < a then b else a
  hmx : ∀ a b, mx a b = if b > a then b else a
  hpl : ∀ a b, pl a b = a + b
  hmi : ∀ a b, mi a b = a - b
  hcmp : cmp = cmpLit
  hnt : ∀ b, nt b = !b
  hbeq : ∀ a b, beq a b = (a == b)
  han : ∀ a b, an a b = (a && b)
  hscmp : scmp = strCmp
  hcat : ∀ a b, cat a b = a ++ b
  hslen : ∀ s, slen s = slenI s
  hsbyte : ∀ s i, sbyte s i = sbyteI s i
  hssub : ∀ s l h, ssub s l h = s.extract l.toNat h.toNat
  hofB : ofB = strBytes
  htoB : ∀ es, toB es = ⟨(es.map fun e => UInt8.ofNat (Ab.asInt e).toNat).toArray⟩
  hlen : ∀ es, len es = lenI es
  hgi : ∀ es i j, gi es i j = Ab.asInt (elAt es i j)
  hgb : ∀ es i j, gb es i j = boolOf (elAt es i j)
  hgs : ∀ es i j, gs es i j = strOf (elAt es i j)
  hgl : ∀ es i j, gl es i j = listOf (elAt es i j)
  hsub : ∀ es l h, sub es l h = (es.take h.toNat).drop l.toNat
  hput : ∀ es i j cs, put es i j cs = es.set i.toNat (putCells (es.getD i.toNat .dead) j cs)
  happ : ∀ es xs, app es xs = es ++ xs
  hovl : ovl = ovlReal
  hrep : ∀ n v, rep n v = List.replicate n.toNat v
  hne0 : ∀ n, ne0 n = (n ≠ 0)
  hge0 : ∀ n, ge0 n = (0 ≤ n)
  hinb : ∀ i n, inb i n = (0 ≤ i ∧ i < n)
  hbnd : ∀ l h n, bnd l h n = (0 ≤ l ∧ l ≤ h ∧ h ≤ n)
  hroom : ∀ n b, room n b = (n ≤ 140737488355328 ∧ n.toNat * b ≤ 140737488355328)
  hsroom : ∀ a b, sroom a b = (a.size + b.size ≤ 9223372036854775807)

structure Rules (P : Program) (T : Tr) (W : Nat → List (List Nat)) (ns : List Nat) (ar : BinOp → IntKind → Int → Int → Int) (un : UnOp → IntKind → Int → Int) (cv : IntKind → Int → Int) (mn : Int → Int → Int) (mx : Int → Int → Int) (pl : Int → Int → Int) (mi : Int → Int → Int) (cmp : BinOp → Int → Int → Bool) (nt : Bool → Bool) (beq : Bool → Bool → Bool) (an : Bool → Bool → Bool) (scmp : BinOp → ByteArray → ByteArray → Bool) (cat : ByteArray → ByteArray → ByteArray) (slen : ByteArray → Int) (sbyte : ByteArray → Int → Int) (ssub : ByteArray → Int → Int → ByteArray) (ofB : ByteArray → List V) (toB : List V → ByteArray) (len : List V → Int) (gi : List V → Int → Nat → Int) (gb : List V → Int → Nat → Bool) (gs : List V → Int → Nat → ByteArray) (gl : List V → Int → Nat → List V) (sub : List V → Int → Int → List V) (put : List V → Int → Nat → List V → List V) (app : List V → List V → List V) (ovl : List V → Int → List V → List V) (rep : Int → V → List V) (ne0 : Int → Prop) (ge0 : Int → Prop) (inb : Int → Int → Prop) (bnd : Int → Int → Int → Prop) (room : Int → Nat → Prop) (sroom : ByteArray → ByteArray → Prop) (need : Prop → Prop → Prop) (br : Bool → (Unit → Prop) → (Unit → Prop) → Prop) (call : Nat → List V → (V → Hp → Prop) → Prop) (loop : Code → (Exit → List V → Hp → Prop) → List V → Hp → Prop) (cut : Code → Code → (Exit → List V → Hp → Prop) → List V → Hp → Prop) (nl : List V → (Unit → Prop) → (Unit → Prop) → Prop) : Prop where
  need' : ∀ {p q : Prop}, p → q → need p q
  br' : ∀ {c : Bool} {A B : Unit → Prop}, (c = true → A ()) → (c = false → B ()) → br c A B
  call' : ∀ {f : Nat} {args args' : List V} {K : V → Hp → Prop} {v : V} {h : Hp}, Ab.Fn P T f args' v h → args = args' → K v h → call f args K
  born' : ∀ {b : Code} {K : Exit → List V → Hp → Prop} {tm : List V} {hp : Hp} (t n et : Nat) {e : TE}, tm.getD t .dead = .nil → look hp n = none → T.look et = some e → 0 < e.size → loop b K (tm.set t (.row n)) ((n, .row et []) :: hp) → loop b K tm hp
  bornC' : ∀ {b : Code} {K : Exit → List V → Hp → Prop} {tm : List V} {hp : Hp} (n0 j n et : Nat) {t0 : Nat} {cs : List V} {e : TE}, look hp n0 = some (.cells t0 cs) → cs[j]? = some .nil → look hp n = none → T.look et = some e → 0 < e.size → loop b K tm ((n0, .cells t0 (cs.set j (.row n))) :: (n, .row et []) :: hp) → loop b K tm hp
  nl' : ∀ {es : List V} {A B : Unit → Prop}, (es = [] → A ()) → B () → nl es A B
  cut' : ∀ {a b : Code} {K : Exit → List V → Hp → Prop} {tm : List V} {hp : Hp}, codeOk W a = true → codeOk W b = true → vc ⟨ar, un, cv, mn, mx, pl, mi, cmp, nt, beq, an, scmp, cat, slen, sbyte, ssub, ofB, toB, len, gi, gb, gs, gl, sub, put, app, ovl, rep, ne0, ge0, inb, bnd, room, sroom, need, br, call, loop, cut, nl⟩ T W a (fun e tm hp => match e with | .normal => vc ⟨ar, un, cv, mn, mx, pl, mi, cmp, nt, beq, an, scmp, cat, slen, sbyte, ssub, ofB, toB, len, gi, gb, gs, gl, sub, put, app, ovl, rep, ne0, ge0, inb, bnd, room, sroom, need, br, call, loop, cut, nl⟩ T W b K tm hp | e => K e tm hp) tm hp → cut a b K tm hp
  cutF : ∀ {a b : Code} {K : Exit → List V → Hp → Prop} {tm : List V} {hp : Hp} (n : Nat) (sl : List (Nat × V)) (hs : Hp), codeOk W a = true → codeOk W b = true →
    (∀ L : List V → Hp → Prop, (∀ ρ tm' hp', Fits ns n ρ sl hs tm' hp' → L tm' hp') → vc ⟨ar, un, cv, mn, mx, pl, mi, cmp, nt, beq, an, scmp, cat, slen, sbyte, ssub, ofB, toB, len, gi, gb, gs, gl, sub, put, app, ovl, rep, ne0, ge0, inb, bnd, room, sroom, need, br, call, loop, cut, nl⟩ T W a (fun e tm hp => match e with | .normal => L tm hp | e => K e tm hp) tm hp) →
    vc ⟨ar, un, cv, mn, mx, pl, mi, cmp, nt, beq, an, scmp, cat, slen, sbyte, ssub, ofB, toB, len, gi, gb, gs, gl, sub, put, app, ovl, rep, ne0, ge0, inb, bnd, room, sroom, need, br, call, loop, cut, nl⟩ T W b K (mkS n sl) hs → cut a b K tm hp
  loop' : ∀ {b : Code} {K : Exit → List V → Hp → Prop} {tm : List V} {hp : Hp} {α : Type} (n : Nat) (sl : α → List (Nat × V)) (hs : α → Hp) (I : α → Prop) (μ : α → Nat) (a0 : α) (ρ0 : List (Nat × Nat)), I a0 → Fits ns n ρ0 (sl a0) (hs a0) tm hp → codeOk W b = true →
    (∀ a, I a → ∀ L : List V → Hp → Prop, (∀ a' ρ tm hp, I a' → μ a' < μ a → Fits ns n ρ (sl a') (hs a') tm hp → L tm hp) → vc ⟨ar, un, cv, mn, mx, pl, mi, cmp, nt, beq, an, scmp, cat, slen, sbyte, ssub, ofB, toB, len, gi, gb, gs, gl, sub, put, app, ovl, rep, ne0, ge0, inb, bnd, room, sroom, need, br, call, loop, cut, nl⟩ T W b (fun e tm hp => match e with | .normal => L tm hp | e => K e tm hp) (mkS n (sl a)) (hs a)) → loop b K tm hp

section
variable {P : Program} {T : Tr} {w0 : Base}
theorem fn_rules (htok : TyOk P T) {f : Nat} {fn : Func} {c : Code} (W : Nat → List (List Nat)) {args : List V} {res : V} {post : Hp} (hf : P.funcs[f]? = some fn) (hname : (fn.name == "runtime.NumGoroutine") = false) (hb : fn.body = some c) (hok : codeOk W c = true)
    (h : ∀ ar un cv mn mx pl mi cmp nt beq an scmp cat slen sbyte ssub ofB toB len gi gb gs gl sub put app ovl rep ne0 ge0 inb bnd room sroom need br call loop cut nl, Eqs ar un cv mn mx pl mi cmp nt beq an scmp cat slen sbyte ssub ofB toB len gi gb gs gl sub put app ovl rep ne0 ge0 inb bnd room sroom → Rules P T W [] ar un cv mn mx pl mi cmp nt beq an scmp cat slen sbyte ssub ofB toB len gi gb gs gl sub put app ovl rep ne0 ge0 inb bnd room sroom need br call loop cut nl → ∀ K : V → Hp → Prop, (∀ v h, v = res → h = post → K v h) → vc ⟨ar, un, cv, mn, mx, pl, mi, cmp, nt, beq, an, scmp, cat, slen, sbyte, ssub, ofB, toB, len, gi, gb, gs, gl, sub, put, app, ovl, rep, ne0, ge0, inb, bnd, room, sroom, need, br, call, loop, cut, nl⟩ T W c (retK ⟨ar, un, cv, mn, mx, pl, mi, cmp, nt, beq, an, scmp, cat, slen, sbyte, ssub, ofB, toB, len, gi, gb, gs, gl, sub, put, app, ovl, rep, ne0, ge0, inb, bnd, room, sroom, need, br, call, loop, cut, nl⟩ T fn.results.toList K) (args ++ List.replicate (fn.ntmps - args.length) .dead) []) : Ab.Fn P T f args res post := by
  refine fn_of htok W hf hname hb hok (fun w0 o ho K hK => ?_)
  obtain ⟨ar, un, cv, mn, mx, pl, mi, cmp, nt, beq, an, scmp, cat, slen, sbyte, ssub, ofB, toB, len, gi, gb, gs, gl, sub, put, app, ovl, rep, ne0, ge0, inb, bnd, room, sroom, need, br, call, loop, cut, nl⟩ := o
  refine h _ _ _ _ _ _ _ _ _ _ _ _ _ _ _ _ _ _ _ _ _ _ _ _ _ _ _ _ _ _ _ _ _ _ _ _ _ _ _ _ ?_ ?_ K hK
  · have e := ho.symm
    unfold real at e
    injection e with e_ar e_un e_cv e_mn e_mx e_pl e_mi e_cmp e_nt e_beq e_an e_scmp e_cat e_slen e_sbyte e_ssub e_ofB e_toB e_len e_gi e_gb e_gs e_gl e_sub e_put e_app e_ovl e_rep e_ne0 e_ge0 e_inb e_bnd e_room e_sroom e_need e_br e_call e_loop e_cut e_nl
    subst e_ar e_un e_cv e_mn e_mx e_pl e_mi e_cmp e_nt e_beq e_an e_scmp e_cat e_slen e_sbyte e_ssub e_ofB e_toB e_len e_gi e_gb e_gs e_gl e_sub e_put e_app e_ovl e_rep e_ne0 e_ge0 e_inb e_bnd e_room e_sroom e_need e_br e_call e_loop e_cut e_nl
    constructor <;> intros <;> rfl
  · exact ⟨fun h1 h2 => real_need ho h1 h2, fun h1 h2 => real_br ho h1 h2, fun h1 h2 h3 => by subst h2; exact real_call ho h1 h3, fun t n et _ h1 h2 h3 h4 h5 => real_born ho h1 h2 h3 h4 h5, fun n0 j n et _ _ _ h0 h1 h2 h3 h4 h5 => real_bornC ho h0 h1 h2 h3 h4 h5, fun h1 h2 => real_nl ho h1 h2, fun ha hb h => real_cut ho htok ha hb h, fun n sl hs ha hb h hk => real_cutF ho htok (fun p hp => by cases hp) n sl hs ha hb h hk, fun n sl hs I μ a0 ρ0 h0 h1 h2 h3 => real_loop_ok ho htok (fun p hp => by cases hp) n sl hs I μ a0 ρ0 h0 h1 h2 h3⟩
end
end Go.Ab
end
section
namespace Go.Proofs.Ytjcabmhnekcbgaa
open Go.Ab
set_option maxRecDepth 100000
def te1 : TE := ⟨.func #[] #[] false, 1, 8, .nilFunc, false⟩
def te2 : TE := ⟨.int .i64, 1, 8, .int .i64 0, false⟩
def te3 : TE := ⟨.int .i64, 1, 8, .int .i64 0, false⟩
def te4 : TE := ⟨.bool, 1, 1, .bool false, false⟩
def te5 : TE := ⟨.int .u8, 1, 1, .int .u8 0, false⟩
def te9 : TE := ⟨.string, 1, 16, .string .empty, false⟩
def te21 : TE := ⟨.int .i32, 1, 4, .int .i32 0, false⟩
def te22 : TE := ⟨.struct #[⟨"Size", 3, 0, false, "", "", 0⟩, ⟨"Signed", 4, 1, false, "", "", 8⟩], 2, 16, .agg #[.int .i64 0, .bool false], true⟩
def te23 : TE := ⟨.struct #[⟨"Size", 3, 0, false, "", "", 0⟩, ⟨"Signed", 4, 1, false, "", "", 8⟩], 2, 16, .agg #[.int .i64 0, .bool false], true⟩
def te24 : TE := ⟨.array 3 2, 3, 24, .agg #[.int .i64 0, .int .i64 0, .int .i64 0], true⟩
def te25 : TE := ⟨.func #[] #[4] false, 1, 8, .nilFunc, false⟩
def te26 : TE := ⟨.int .i64, 1, 8, .int .i64 0, false⟩
def te27 : TE := ⟨.func #[23] #[26] false, 1, 8, .nilFunc, false⟩
def te28 : TE := ⟨.array 6 3, 6, 48, .agg #[.int .i64 0, .int .i64 0, .int .i64 0, .int .i64 0, .int .i64 0, .int .i64 0], true⟩
def te30 : TE := ⟨.func #[3, 23, 2, 2] #[23, 2] false, 1, 8, .nilFunc, false⟩
def te31 : TE := ⟨.func #[23, 2] #[2] false, 1, 8, .nilFunc, false⟩
def te33 : TE := ⟨.func #[23] #[23, 26] false, 1, 8, .nilFunc, false⟩
def te35 : TE := ⟨.func #[3, 23, 2, 23, 2] #[23, 2, 26] false, 1, 8, .nilFunc, false⟩
def te36 : TE := ⟨.func #[23, 23, 24] #[4] false, 1, 8, .nilFunc, false⟩
def te37 : TE := ⟨.func #[23, 23] #[23, 26] false, 1, 8, .nilFunc, false⟩
def te38 : TE := ⟨.func #[23, 23, 23] #[4] false, 1, 8, .nilFunc, false⟩
def te40 : TE := ⟨.func #[23, 23, 2] #[2, 26] false, 1, 8, .nilFunc, false⟩
def te42 : TE := ⟨.func #[23, 2] #[9, 26] false, 1, 8, .nilFunc, false⟩
def te43 : TE := ⟨.func #[23, 9] #[2, 26] false, 1, 8, .nilFunc, false⟩
def te44 : TE := ⟨.func #[23, 23, 2] #[4] false, 1, 8, .nilFunc, false⟩
def te45 : TE := ⟨.array 2 2, 2, 16, .agg #[.int .i64 0, .int .i64 0], true⟩
def te47 : TE := ⟨.func #[23, 2, 2] #[3, 26] false, 1, 8, .nilFunc, false⟩
def te48 : TE := ⟨.func #[23, 23, 45] #[4] false, 1, 8, .nilFunc, false⟩
def te49 : TE := ⟨.slice 5, 1, 24, .slice none 0 0, false⟩
def te51 : TE := ⟨.func #[23, 2] #[49, 26] false, 1, 8, .nilFunc, false⟩
def te52 : TE := ⟨.func #[23, 49] #[2, 26] false, 1, 8, .nilFunc, false⟩
def te53 : TE := ⟨.func #[23, 2, 9] #[4] false, 1, 8, .nilFunc, false⟩
def te54 : TE := ⟨.func #[23, 45, 9] #[4] false, 1, 8, .nilFunc, false⟩
def te55 : TE := ⟨.func #[3, 4] #[23] false, 1, 8, .nilFunc, false⟩
def te56 : TE := ⟨.func #[23, 2] #[2, 26] false, 1, 8, .nilFunc, false⟩
def te57 : TE := ⟨.func #[2] #[2] false, 1, 8, .nilFunc, false⟩
def te59 : TE := ⟨.map 23 57, 1, 8, .map none, false⟩
def te60 : TE := ⟨.func #[] #[59] false, 1, 8, .nilFunc, false⟩
def te61 : TE := ⟨.func #[23] #[23] false, 1, 8, .nilFunc, false⟩
def te62 : TE := ⟨.func #[23, 23] #[26] false, 1, 8, .nilFunc, false⟩
def te63 : TE := ⟨.func #[23, 23] #[23] false, 1, 8, .nilFunc, false⟩
def te64 : TE := ⟨.func #[23, 2, 2] #[2] false, 1, 8, .nilFunc, false⟩
def te65 : TE := ⟨.func #[23, 2, 2] #[2] false, 1, 8, .nilFunc, false⟩
def te67 : TE := ⟨.map 3 65, 1, 8, .map none, false⟩
def te68 : TE := ⟨.func #[] #[67] false, 1, 8, .nilFunc, false⟩
def te69 : TE := ⟨.func #[3] #[4] false, 1, 8, .nilFunc, false⟩
def te71 : TE := ⟨.map 3 69, 1, 8, .map none, false⟩
def te72 : TE := ⟨.func #[] #[71] false, 1, 8, .nilFunc, false⟩
def te73 : TE := ⟨.func #[] #[23] false, 1, 8, .nilFunc, false⟩
def te74 : TE := ⟨.func #[4] #[2] false, 1, 8, .nilFunc, false⟩
def te75 : TE := ⟨.func #[23, 2, 2] #[3] false, 1, 8, .nilFunc, false⟩
def te76 : TE := ⟨.func #[3, 23, 2, 77] #[2] false, 1, 8, .nilFunc, false⟩
def te77 : TE := ⟨.int .u64, 1, 8, .int .u64 0, false⟩
def te78 : TE := ⟨.func #[23] #[3] false, 1, 8, .nilFunc, false⟩
def te79 : TE := ⟨.func #[23, 2] #[9] false, 1, 8, .nilFunc, false⟩
def te81 : TE := ⟨.func #[9, 9] #[9, 4] false, 1, 8, .nilFunc, false⟩
def te82 : TE := ⟨.int .u64, 1, 8, .int .u64 0, false⟩
def te84 : TE := ⟨.func #[9, 82] #[82, 4] false, 1, 8, .nilFunc, false⟩
def te85 : TE := ⟨.func #[23] #[4] false, 1, 8, .nilFunc, false⟩
def te86 : TE := ⟨.func #[9, 9] #[9] false, 1, 8, .nilFunc, false⟩
def te87 : TE := ⟨.func #[9, 9] #[4] false, 1, 8, .nilFunc, false⟩
def te88 : TE := ⟨.func #[82] #[9] false, 1, 8, .nilFunc, false⟩
def te89 : TE := ⟨.int .i8, 1, 1, .int .i8 0, false⟩
def te90 : TE := ⟨.int .i16, 1, 2, .int .i16 0, false⟩
def te91 : TE := ⟨.int .u16, 1, 2, .int .u16 0, false⟩
def te92 : TE := ⟨.int .u32, 1, 4, .int .u32 0, false⟩
def te93 : TE := ⟨.func #[103] #[26] true, 1, 8, .nilFunc, false⟩
def te95 : TE := ⟨.func #[23, 2, 2] #[2, 2] false, 1, 8, .nilFunc, false⟩
def te96 : TE := ⟨.func #[82, 82] #[3] false, 1, 8, .nilFunc, false⟩
def te97 : TE := ⟨.func #[2, 2] #[3] false, 1, 8, .nilFunc, false⟩
def te98 : TE := ⟨.func #[5] #[82] false, 1, 8, .nilFunc, false⟩
def te100 : TE := ⟨.func #[82, 82] #[82, 82] false, 1, 8, .nilFunc, false⟩
def te101 : TE := ⟨.func #[82, 82, 82] #[82, 82] false, 1, 8, .nilFunc, false⟩
def te102 : TE := ⟨.func #[5] #[3] false, 1, 8, .nilFunc, false⟩
def te103 : TE := ⟨.slice 26, 1, 24, .slice none 0 0, false⟩
def te104 : TE := ⟨.func #[82] #[4] false, 1, 8, .nilFunc, false⟩
def te105 : TE := ⟨.func #[2] #[4] false, 1, 8, .nilFunc, false⟩
def te108 : TE := ⟨.func #[82] #[3] false, 1, 8, .nilFunc, false⟩
def te109 : TE := ⟨.pointer 126, 1, 8, .pointer none, false⟩
def te110 : TE := ⟨.func #[] #[9] false, 1, 8, .nilFunc, false⟩
def te111 : TE := ⟨.struct #[⟨"_interface", 17, 0, false, "", "runtime", 0⟩, ⟨"concrete", 17, 1, false, "", "runtime", 8⟩, ⟨"asserted", 17, 2, false, "", "runtime", 16⟩, ⟨"missingMethod", 9, 3, false, "", "runtime", 24⟩], 4, 40, .agg #[.pointer none, .pointer none, .pointer none, .string .empty], false⟩
def te112 : TE := ⟨.struct #[⟨"_interface", 17, 0, false, "", "runtime", 0⟩, ⟨"concrete", 17, 1, false, "", "runtime", 8⟩, ⟨"asserted", 17, 2, false, "", "runtime", 16⟩, ⟨"missingMethod", 9, 3, false, "", "runtime", 24⟩], 4, 40, .agg #[.pointer none, .pointer none, .pointer none, .string .empty], false⟩
def te113 : TE := ⟨.array 0 16, 0, 0, .agg #[], true⟩
def te114 : TE := ⟨.struct #[⟨"_", 113, 0, false, "", "runtime", 0⟩], 0, 0, .agg #[], false⟩
def te115 : TE := ⟨.struct #[⟨"_", 113, 0, false, "", "runtime", 0⟩], 0, 0, .agg #[], false⟩
def te116 : TE := ⟨.func #[] #[3] false, 1, 8, .nilFunc, false⟩
def te117 : TE := ⟨.int .u8, 1, 1, .int .u8 0, false⟩
def te118 : TE := ⟨.int .u8, 1, 1, .int .u8 0, false⟩
def te119 : TE := ⟨.func #[127, 127] #[4] false, 1, 8, .nilFunc, false⟩
def te120 : TE := ⟨.pointer 5, 1, 8, .pointer none, false⟩
def te121 : TE := ⟨.int .i32, 1, 4, .int .i32 0, false⟩
def te122 : TE := ⟨.int .i32, 1, 4, .int .i32 0, false⟩
def te123 : TE := ⟨.struct #[⟨"Size_", 12, 0, false, "", "", 0⟩, ⟨"PtrBytes", 12, 1, false, "", "", 8⟩, ⟨"Hash", 92, 2, false, "", "", 16⟩, ⟨"TFlag", 117, 3, false, "", "", 20⟩, ⟨"Align_", 5, 4, false, "", "", 21⟩, ⟨"FieldAlign_", 5, 5, false, "", "", 22⟩, ⟨"Kind_", 118, 6, false, "", "", 23⟩, ⟨"Equal", 119, 7, false, "", "", 24⟩, ⟨"GCData", 120, 8, false, "", "", 32⟩, ⟨"Str", 121, 9, false, "", "", 40⟩, ⟨"PtrToThis", 122, 10, false, "", "", 44⟩], 11, 48, .agg #[.int .u64 0, .int .u64 0, .int .u32 0, .int .u8 0, .int .u8 0, .int .u8 0, .int .u8 0, .nilFunc, .pointer none, .int .i32 0, .int .i32 0], false⟩
def te124 : TE := ⟨.struct #[⟨"Size_", 12, 0, false, "", "", 0⟩, ⟨"PtrBytes", 12, 1, false, "", "", 8⟩, ⟨"Hash", 92, 2, false, "", "", 16⟩, ⟨"TFlag", 117, 3, false, "", "", 20⟩, ⟨"Align_", 5, 4, false, "", "", 21⟩, ⟨"FieldAlign_", 5, 5, false, "", "", 22⟩, ⟨"Kind_", 118, 6, false, "", "", 23⟩, ⟨"Equal", 119, 7, false, "", "", 24⟩, ⟨"GCData", 120, 8, false, "", "", 32⟩, ⟨"Str", 121, 9, false, "", "", 40⟩, ⟨"PtrToThis", 122, 10, false, "", "", 44⟩], 11, 48, .agg #[.int .u64 0, .int .u64 0, .int .u32 0, .int .u8 0, .int .u8 0, .int .u8 0, .int .u8 0, .nilFunc, .pointer none, .int .i32 0, .int .i32 0], false⟩
def te125 : TE := ⟨.struct #[⟨"s", 9, 0, false, "", "errors", 0⟩], 1, 16, .agg #[.string .empty], true⟩
def te126 : TE := ⟨.struct #[⟨"s", 9, 0, false, "", "errors", 0⟩], 1, 16, .agg #[.string .empty], true⟩
def TT : Tr := (.node 73 te73 (.node 44 te44 (.node 27 te27 (.node 21 te21 (.node 4 te4 (.node 2 te2 (.node 1 te1 .nil .nil) (.node 3 te3 .nil .nil)) (.node 9 te9 (.node 5 te5 .nil .nil) .nil)) (.node 24 te24 (.node 23 te23 (.node 22 te22 .nil .nil) .nil) (.node 26 te26 (.node 25 te25 .nil .nil) .nil))) (.node 36 te36 (.node 31 te31 (.node 30 te30 (.node 28 te28 .nil .nil) .nil) (.node 35 te35 (.node 33 te33 .nil .nil) .nil)) (.node 40 te40 (.node 38 te38 (.node 37 te37 .nil .nil) .nil) (.node 43 te43 (.node 42 te42 .nil .nil) .nil)))) (.node 59 te59 (.node 52 te52 (.node 48 te48 (.node 47 te47 (.node 45 te45 .nil .nil) .nil) (.node 51 te51 (.node 49 te49 .nil .nil) .nil)) (.node 55 te55 (.node 54 te54 (.node 53 te53 .nil .nil) .nil) (.node 57 te57 (.node 56 te56 .nil .nil) .nil))) (.node 65 te65 (.node 62 te62 (.node 61 te61 (.node 60 te60 .nil .nil) .nil) (.node 64 te64 (.node 63 te63 .nil .nil) .nil)) (.node 69 te69 (.node 68 te68 (.node 67 te67 .nil .nil) .nil) (.node 72 te72 (.node 71 te71 .nil .nil) .nil))))) (.node 101 te101 (.node 87 te87 (.node 79 te79 (.node 76 te76 (.node 75 te75 (.node 74 te74 .nil .nil) .nil) (.node 78 te78 (.node 77 te77 .nil .nil) .nil)) (.node 84 te84 (.node 82 te82 (.node 81 te81 .nil .nil) .nil) (.node 86 te86 (.node 85 te85 .nil .nil) .nil))) (.node 93 te93 (.node 90 te90 (.node 89 te89 (.node 88 te88 .nil .nil) .nil) (.node 92 te92 (.node 91 te91 .nil .nil) .nil)) (.node 97 te97 (.node 96 te96 (.node 95 te95 .nil .nil) .nil) (.node 100 te100 (.node 98 te98 .nil .nil) .nil)))) (.node 115 te115 (.node 109 te109 (.node 104 te104 (.node 103 te103 (.node 102 te102 .nil .nil) .nil) (.node 108 te108 (.node 105 te105 .nil .nil) .nil)) (.node 112 te112 (.node 111 te111 (.node 110 te110 .nil .nil) .nil) (.node 114 te114 (.node 113 te113 .nil .nil) .nil))) (.node 121 te121 (.node 118 te118 (.node 117 te117 (.node 116 te116 .nil .nil) .nil) (.node 120 te120 (.node 119 te119 .nil .nil) .nil)) (.node 124 te124 (.node 123 te123 (.node 122 te122 .nil .nil) .nil) (.node 126 te126 (.node 125 te125 .nil .nil) .nil))))))
theorem tk1 : TOk Try.prog 1 te1 := ⟨by kernel_rfl, TOk.info_of (by kernel_rfl), fun h => by cases h⟩
theorem tk2 : TOk Try.prog 2 te2 := ⟨by kernel_rfl, TOk.info_of (by kernel_rfl), fun h => by cases h⟩
theorem tk3 : TOk Try.prog 3 te3 := ⟨by kernel_rfl, TOk.info_of (by kernel_rfl), fun h => by cases h⟩
theorem tk4 : TOk Try.prog 4 te4 := ⟨by kernel_rfl, TOk.info_of (by kernel_rfl), fun h => by cases h⟩
theorem tk5 : TOk Try.prog 5 te5 := ⟨by kernel_rfl, TOk.info_of (by kernel_rfl), fun h => by cases h⟩
theorem tk9 : TOk Try.prog 9 te9 := ⟨by kernel_rfl, TOk.info_of (by kernel_rfl), fun h => by cases h⟩
theorem tk21 : TOk Try.prog 21 te21 := ⟨by kernel_rfl, TOk.info_of (by kernel_rfl), fun h => by cases h⟩
theorem tk22 : TOk Try.prog 22 te22 := ⟨by kernel_rfl, TOk.info_of (by kernel_rfl), fun _ => ⟨by kernel_rfl, by kernel_rfl⟩⟩
theorem tk23 : TOk Try.prog 23 te23 := ⟨by kernel_rfl, TOk.info_of (by kernel_rfl), fun _ => ⟨by kernel_rfl, by kernel_rfl⟩⟩
theorem tk24 : TOk Try.prog 24 te24 := ⟨by kernel_rfl, TOk.info_of (by kernel_rfl), fun _ => ⟨by kernel_rfl, by kernel_rfl⟩⟩
theorem tk25 : TOk Try.prog 25 te25 := ⟨by kernel_rfl, TOk.info_of (by kernel_rfl), fun h => by cases h⟩
theorem tk26 : TOk Try.prog 26 te26 := ⟨by kernel_rfl, TOk.info_of (by kernel_rfl), fun h => by cases h⟩
theorem tk27 : TOk Try.prog 27 te27 := ⟨by kernel_rfl, TOk.info_of (by kernel_rfl), fun h => by cases h⟩
theorem tk28 : TOk Try.prog 28 te28 := ⟨by kernel_rfl, TOk.info_of (by kernel_rfl), fun _ => ⟨by kernel_rfl, by kernel_rfl⟩⟩
theorem tk30 : TOk Try.prog 30 te30 := ⟨by kernel_rfl, TOk.info_of (by kernel_rfl), fun h => by cases h⟩
theorem tk31 : TOk Try.prog 31 te31 := ⟨by kernel_rfl, TOk.info_of (by kernel_rfl), fun h => by cases h⟩
theorem tk33 : TOk Try.prog 33 te33 := ⟨by kernel_rfl, TOk.info_of (by kernel_rfl), fun h => by cases h⟩
theorem tk35 : TOk Try.prog 35 te35 := ⟨by kernel_rfl, TOk.info_of (by kernel_rfl), fun h => by cases h⟩
theorem tk36 : TOk Try.prog 36 te36 := ⟨by kernel_rfl, TOk.info_of (by kernel_rfl), fun h => by cases h⟩
theorem tk37 : TOk Try.prog 37 te37 := ⟨by kernel_rfl, TOk.info_of (by kernel_rfl), fun h => by cases h⟩
theorem tk38 : TOk Try.prog 38 te38 := ⟨by kernel_rfl, TOk.info_of (by kernel_rfl), fun h => by cases h⟩
theorem tk40 : TOk Try.prog 40 te40 := ⟨by kernel_rfl, TOk.info_of (by kernel_rfl), fun h => by cases h⟩
theorem tk42 : TOk Try.prog 42 te42 := ⟨by kernel_rfl, TOk.info_of (by kernel_rfl), fun h => by cases h⟩
theorem tk43 : TOk Try.prog 43 te43 := ⟨by kernel_rfl, TOk.info_of (by kernel_rfl), fun h => by cases h⟩
theorem tk44 : TOk Try.prog 44 te44 := ⟨by kernel_rfl, TOk.info_of (by kernel_rfl), fun h => by cases h⟩
theorem tk45 : TOk Try.prog 45 te45 := ⟨by kernel_rfl, TOk.info_of (by kernel_rfl), fun _ => ⟨by kernel_rfl, by kernel_rfl⟩⟩
theorem tk47 : TOk Try.prog 47 te47 := ⟨by kernel_rfl, TOk.info_of (by kernel_rfl), fun h => by cases h⟩
theorem tk48 : TOk Try.prog 48 te48 := ⟨by kernel_rfl, TOk.info_of (by kernel_rfl), fun h => by cases h⟩
theorem tk49 : TOk Try.prog 49 te49 := ⟨by kernel_rfl, TOk.info_of (by kernel_rfl), fun h => by cases h⟩
theorem tk51 : TOk Try.prog 51 te51 := ⟨by kernel_rfl, TOk.info_of (by kernel_rfl), fun h => by cases h⟩
theorem tk52 : TOk Try.prog 52 te52 := ⟨by kernel_rfl, TOk.info_of (by kernel_rfl), fun h => by cases h⟩
theorem tk53 : TOk Try.prog 53 te53 := ⟨by kernel_rfl, TOk.info_of (by kernel_rfl), fun h => by cases h⟩
theorem tk54 : TOk Try.prog 54 te54 := ⟨by kernel_rfl, TOk.info_of (by kernel_rfl), fun h => by cases h⟩
theorem tk55 : TOk Try.prog 55 te55 := ⟨by kernel_rfl, TOk.info_of (by kernel_rfl), fun h => by cases h⟩
theorem tk56 : TOk Try.prog 56 te56 := ⟨by kernel_rfl, TOk.info_of (by kernel_rfl), fun h => by cases h⟩
theorem tk57 : TOk Try.prog 57 te57 := ⟨by kernel_rfl, TOk.info_of (by kernel_rfl), fun h => by cases h⟩
theorem tk59 : TOk Try.prog 59 te59 := ⟨by kernel_rfl, TOk.info_of (by kernel_rfl), fun h => by cases h⟩
theorem tk60 : TOk Try.prog 60 te60 := ⟨by kernel_rfl, TOk.info_of (by kernel_rfl), fun h => by cases h⟩
theorem tk61 : TOk Try.prog 61 te61 := ⟨by kernel_rfl, TOk.info_of (by kernel_rfl), fun h => by cases h⟩
theorem tk62 : TOk Try.prog 62 te62 := ⟨by kernel_rfl, TOk.info_of (by kernel_rfl), fun h => by cases h⟩
theorem tk63 : TOk Try.prog 63 te63 := ⟨by kernel_rfl, TOk.info_of (by kernel_rfl), fun h => by cases h⟩
theorem tk64 : TOk Try.prog 64 te64 := ⟨by kernel_rfl, TOk.info_of (by kernel_rfl), fun h => by cases h⟩
theorem tk65 : TOk Try.prog 65 te65 := ⟨by kernel_rfl, TOk.info_of (by kernel_rfl), fun h => by cases h⟩
theorem tk67 : TOk Try.prog 67 te67 := ⟨by kernel_rfl, TOk.info_of (by kernel_rfl), fun h => by cases h⟩
theorem tk68 : TOk Try.prog 68 te68 := ⟨by kernel_rfl, TOk.info_of (by kernel_rfl), fun h => by cases h⟩
theorem tk69 : TOk Try.prog 69 te69 := ⟨by kernel_rfl, TOk.info_of (by kernel_rfl), fun h => by cases h⟩
theorem tk71 : TOk Try.prog 71 te71 := ⟨by kernel_rfl, TOk.info_of (by kernel_rfl), fun h => by cases h⟩
theorem tk72 : TOk Try.prog 72 te72 := ⟨by kernel_rfl, TOk.info_of (by kernel_rfl), fun h => by cases h⟩
theorem tk73 : TOk Try.prog 73 te73 := ⟨by kernel_rfl, TOk.info_of (by kernel_rfl), fun h => by cases h⟩
theorem tk74 : TOk Try.prog 74 te74 := ⟨by kernel_rfl, TOk.info_of (by kernel_rfl), fun h => by cases h⟩
theorem tk75 : TOk Try.prog 75 te75 := ⟨by kernel_rfl, TOk.info_of (by kernel_rfl), fun h => by cases h⟩
theorem tk76 : TOk Try.prog 76 te76 := ⟨by kernel_rfl, TOk.info_of (by kernel_rfl), fun h => by cases h⟩
theorem tk77 : TOk Try.prog 77 te77 := ⟨by kernel_rfl, TOk.info_of (by kernel_rfl), fun h => by cases h⟩
theorem tk78 : TOk Try.prog 78 te78 := ⟨by kernel_rfl, TOk.info_of (by kernel_rfl), fun h => by cases h⟩
theorem tk79 : TOk Try.prog 79 te79 := ⟨by kernel_rfl, TOk.info_of (by kernel_rfl), fun h => by cases h⟩
theorem tk81 : TOk Try.prog 81 te81 := ⟨by kernel_rfl, TOk.info_of (by kernel_rfl), fun h => by cases h⟩
theorem tk82 : TOk Try.prog 82 te82 := ⟨by kernel_rfl, TOk.info_of (by kernel_rfl), fun h => by cases h⟩
theorem tk84 : TOk Try.prog 84 te84 := ⟨by kernel_rfl, TOk.info_of (by kernel_rfl), fun h => by cases h⟩
theorem tk85 : TOk Try.prog 85 te85 := ⟨by kernel_rfl, TOk.info_of (by kernel_rfl), fun h => by cases h⟩
theorem tk86 : TOk Try.prog 86 te86 := ⟨by kernel_rfl, TOk.info_of (by kernel_rfl), fun h => by cases h⟩
theorem tk87 : TOk Try.prog 87 te87 := ⟨by kernel_rfl, TOk.info_of (by kernel_rfl), fun h => by cases h⟩
theorem tk88 : TOk Try.prog 88 te88 := ⟨by kernel_rfl, TOk.info_of (by kernel_rfl), fun h => by cases h⟩
theorem tk89 : TOk Try.prog 89 te89 := ⟨by kernel_rfl, TOk.info_of (by kernel_rfl), fun h => by cases h⟩
theorem tk90 : TOk Try.prog 90 te90 := ⟨by kernel_rfl, TOk.info_of (by kernel_rfl), fun h => by cases h⟩
theorem tk91 : TOk Try.prog 91 te91 := ⟨by kernel_rfl, TOk.info_of (by kernel_rfl), fun h => by cases h⟩
theorem tk92 : TOk Try.prog 92 te92 := ⟨by kernel_rfl, TOk.info_of (by kernel_rfl), fun h => by cases h⟩
theorem tk93 : TOk Try.prog 93 te93 := ⟨by kernel_rfl, TOk.info_of (by kernel_rfl), fun h => by cases h⟩
theorem tk95 : TOk Try.prog 95 te95 := ⟨by kernel_rfl, TOk.info_of (by kernel_rfl), fun h => by cases h⟩
theorem tk96 : TOk Try.prog 96 te96 := ⟨by kernel_rfl, TOk.info_of (by kernel_rfl), fun h => by cases h⟩
theorem tk97 : TOk Try.prog 97 te97 := ⟨by kernel_rfl, TOk.info_of (by kernel_rfl), fun h => by cases h⟩
theorem tk98 : TOk Try.prog 98 te98 := ⟨by kernel_rfl, TOk.info_of (by kernel_rfl), fun h => by cases h⟩
theorem tk100 : TOk Try.prog 100 te100 := ⟨by kernel_rfl, TOk.info_of (by kernel_rfl), fun h => by cases h⟩
theorem tk101 : TOk Try.prog 101 te101 := ⟨by kernel_rfl, TOk.info_of (by kernel_rfl), fun h => by cases h⟩
theorem tk102 : TOk Try.prog 102 te102 := ⟨by kernel_rfl, TOk.info_of (by kernel_rfl), fun h => by cases h⟩
theorem tk103 : TOk Try.prog 103 te103 := ⟨by kernel_rfl, TOk.info_of (by kernel_rfl), fun h => by cases h⟩
theorem tk104 : TOk Try.prog 104 te104 := ⟨by kernel_rfl, TOk.info_of (by kernel_rfl), fun h => by cases h⟩
theorem tk105 : TOk Try.prog 105 te105 := ⟨by kernel_rfl, TOk.info_of (by kernel_rfl), fun h => by cases h⟩
theorem tk108 : TOk Try.prog 108 te108 := ⟨by kernel_rfl, TOk.info_of (by kernel_rfl), fun h => by cases h⟩
theorem tk109 : TOk Try.prog 109 te109 := ⟨by kernel_rfl, TOk.info_of (by kernel_rfl), fun h => by cases h⟩
theorem tk110 : TOk Try.prog 110 te110 := ⟨by kernel_rfl, TOk.info_of (by kernel_rfl), fun h => by cases h⟩
theorem tk111 : TOk Try.prog 111 te111 := ⟨by kernel_rfl, TOk.info_of (by kernel_rfl), fun h => by cases h⟩
theorem tk112 : TOk Try.prog 112 te112 := ⟨by kernel_rfl, TOk.info_of (by kernel_rfl), fun h => by cases h⟩
theorem tk113 : TOk Try.prog 113 te113 := ⟨by kernel_rfl, TOk.info_of (by kernel_rfl), fun _ => ⟨by kernel_rfl, by kernel_rfl⟩⟩
theorem tk114 : TOk Try.prog 114 te114 := ⟨by kernel_rfl, TOk.info_of (by kernel_rfl), fun h => by cases h⟩
theorem tk115 : TOk Try.prog 115 te115 := ⟨by kernel_rfl, TOk.info_of (by kernel_rfl), fun h => by cases h⟩
theorem tk116 : TOk Try.prog 116 te116 := ⟨by kernel_rfl, TOk.info_of (by kernel_rfl), fun h => by cases h⟩
theorem tk117 : TOk Try.prog 117 te117 := ⟨by kernel_rfl, TOk.info_of (by kernel_rfl), fun h => by cases h⟩
theorem tk118 : TOk Try.prog 118 te118 := ⟨by kernel_rfl, TOk.info_of (by kernel_rfl), fun h => by cases h⟩
theorem tk119 : TOk Try.prog 119 te119 := ⟨by kernel_rfl, TOk.info_of (by kernel_rfl), fun h => by cases h⟩
theorem tk120 : TOk Try.prog 120 te120 := ⟨by kernel_rfl, TOk.info_of (by kernel_rfl), fun h => by cases h⟩
theorem tk121 : TOk Try.prog 121 te121 := ⟨by kernel_rfl, TOk.info_of (by kernel_rfl), fun h => by cases h⟩
theorem tk122 : TOk Try.prog 122 te122 := ⟨by kernel_rfl, TOk.info_of (by kernel_rfl), fun h => by cases h⟩
theorem tk123 : TOk Try.prog 123 te123 := ⟨by kernel_rfl, TOk.info_of (by kernel_rfl), fun h => by cases h⟩
theorem tk124 : TOk Try.prog 124 te124 := ⟨by kernel_rfl, TOk.info_of (by kernel_rfl), fun h => by cases h⟩
theorem tk125 : TOk Try.prog 125 te125 := ⟨by kernel_rfl, TOk.info_of (by kernel_rfl), fun _ => ⟨by kernel_rfl, by kernel_rfl⟩⟩
theorem tk126 : TOk Try.prog 126 te126 := ⟨by kernel_rfl, TOk.info_of (by kernel_rfl), fun _ => ⟨by kernel_rfl, by kernel_rfl⟩⟩
theorem tok : TyOk Try.prog TT := TyOk.of_all ⟨tk73, ⟨tk44, ⟨tk27, ⟨tk21, ⟨tk4, ⟨tk2, ⟨tk1, trivial, trivial⟩, ⟨tk3, trivial, trivial⟩⟩, ⟨tk9, ⟨tk5, trivial, trivial⟩, trivial⟩⟩, ⟨tk24, ⟨tk23, ⟨tk22, trivial, trivial⟩, trivial⟩, ⟨tk26, ⟨tk25, trivial, trivial⟩, trivial⟩⟩⟩, ⟨tk36, ⟨tk31, ⟨tk30, ⟨tk28, trivial, trivial⟩, trivial⟩, ⟨tk35, ⟨tk33, trivial, trivial⟩, trivial⟩⟩, ⟨tk40, ⟨tk38, ⟨tk37, trivial, trivial⟩, trivial⟩, ⟨tk43, ⟨tk42, trivial, trivial⟩, trivial⟩⟩⟩⟩, ⟨tk59, ⟨tk52, ⟨tk48, ⟨tk47, ⟨tk45, trivial, trivial⟩, trivial⟩, ⟨tk51, ⟨tk49, trivial, trivial⟩, trivial⟩⟩, ⟨tk55, ⟨tk54, ⟨tk53, trivial, trivial⟩, trivial⟩, ⟨tk57, ⟨tk56, trivial, trivial⟩, trivial⟩⟩⟩, ⟨tk65, ⟨tk62, ⟨tk61, ⟨tk60, trivial, trivial⟩, trivial⟩, ⟨tk64, ⟨tk63, trivial, trivial⟩, trivial⟩⟩, ⟨tk69, ⟨tk68, ⟨tk67, trivial, trivial⟩, trivial⟩, ⟨tk72, ⟨tk71, trivial, trivial⟩, trivial⟩⟩⟩⟩⟩, ⟨tk101, ⟨tk87, ⟨tk79, ⟨tk76, ⟨tk75, ⟨tk74, trivial, trivial⟩, trivial⟩, ⟨tk78, ⟨tk77, trivial, trivial⟩, trivial⟩⟩, ⟨tk84, ⟨tk82, ⟨tk81, trivial, trivial⟩, trivial⟩, ⟨tk86, ⟨tk85, trivial, trivial⟩, trivial⟩⟩⟩, ⟨tk93, ⟨tk90, ⟨tk89, ⟨tk88, trivial, trivial⟩, trivial⟩, ⟨tk92, ⟨tk91, trivial, trivial⟩, trivial⟩⟩, ⟨tk97, ⟨tk96, ⟨tk95, trivial, trivial⟩, trivial⟩, ⟨tk100, ⟨tk98, trivial, trivial⟩, trivial⟩⟩⟩⟩, ⟨tk115, ⟨tk109, ⟨tk104, ⟨tk103, ⟨tk102, trivial, trivial⟩, trivial⟩, ⟨tk108, ⟨tk105, trivial, trivial⟩, trivial⟩⟩, ⟨tk112, ⟨tk111, ⟨tk110, trivial, trivial⟩, trivial⟩, ⟨tk114, ⟨tk113, trivial, trivial⟩, trivial⟩⟩⟩, ⟨tk121, ⟨tk118, ⟨tk117, ⟨tk116, trivial, trivial⟩, trivial⟩, ⟨tk120, ⟨tk119, trivial, trivial⟩, trivial⟩⟩, ⟨tk124, ⟨tk123, ⟨tk122, trivial, trivial⟩, trivial⟩, ⟨tk126, ⟨tk125, trivial, trivial⟩, trivial⟩⟩⟩⟩⟩⟩ (by kernel_rfl)
end Go.Proofs.Ytjcabmhnekcbgaa
end
section
/- A law's row from its function's answer: what a reading of an argument brings, as_ the calculus tells it. No statement of its own. -/

namespace Go.Ab
open Go.RowKit Go.ChangeShapes Go.WideShapes Go.ChangeAt Go.Deep

section
variable {H : Type} {enc : TypeId × Value → H} {P : Program} {T : Tr} {w : World}

abbrev oldS (w : World) : Nat → Prop := fun k => k < w.heap.size

def OpV (T : Tr) (enc : TypeId × Value → H) (P : Program) (w : World) {α : Type} (t : TypeId) (tys : List Nat) (mk : α → List V) (ok : α → Prop) : Prop :=
  ∀ fuel cs x, DataW.trod enc P w 0 (fun _ => true) true fuel t cs = some x → ∃ a, relL T (fun _ => none) w (oldS w) (mk a) cs ∧ (∀ u ∈ cs, u.oneCell' = true) ∧ wtC T tys (mk a) ∧ ok a

theorem wtC_one {t : Nat} {v : V} (hA : isAggT T t = false) (h : wt T v t) : wtC T [t] [v] := by
  simp only [wtC]
  exact ⟨t, [], rfl, hA, h, rfl⟩

theorem wtC_append : ∀ {a b : List V} {s t : List Nat}, wtC T s a → wtC T t b → wtC T (s ++ t) (a ++ b)
  | [], b, s, t, h, k => by simp only [wtC] at h; subst h; exact k
  | v :: r, b, s, t, h, k => by
    simp only [wtC, List.cons_append] at h ⊢
    obtain ⟨u, us, rfl, h1, h2, h3⟩ := h
    exact ⟨u, us ++ t, rfl, h1, h2, wtC_append h3 k⟩

theorem OpV.int (htok : TyOk P T) {t : Nat} {e : TE} {k : IntKind} (he : T.look t = some e) (hd : e.desc = .int k) : OpV T enc P w t [t] (fun n : Int => [.i k n]) (fun n => (Lit.int k n).wf = true) := by
  intro fuel cs x h
  have hu := htok.und _ _ he
  rw [hd] at hu
  obtain ⟨n, rfl, _, hw⟩ := DataW.trod_int hu h
  refine ⟨n, ?_, fun u hu => by simp at hu; subst hu; rfl, wtC_one (by rw [aggT_of he, hd]; rfl) (by simp only [wt]; exact ⟨e, he, hd⟩), hw⟩
  simp only [relL]; exact ⟨_, [], rfl, rel_i _ _, rfl⟩
theorem OpV.bool (htok : TyOk P T) {t : Nat} {e : TE} (he : T.look t = some e) (hd : e.desc = .bool) : OpV T enc P w t [t] (fun n : Bool => [.b n]) (fun _ => True) := by
  intro fuel cs x h
  have hu := htok.und _ _ he
  rw [hd] at hu
  obtain ⟨n, rfl, _⟩ := DataW.trod_bool hu h
  refine ⟨n, ?_, fun u hu => by simp at hu; subst hu; rfl, wtC_one (by rw [aggT_of he, hd]; rfl) (by simp only [wt]; exact ⟨e, he, hd⟩), trivial⟩
  simp only [relL]; exact ⟨_, [], rfl, rel_b _, rfl⟩
theorem OpV.string (htok : TyOk P T) {t : Nat} {e : TE} (he : T.look t = some e) (hd : e.desc = .string) : OpV T enc P w t [t] (fun n : ByteArray => [.str n]) (fun s => s.size ≤ maxLen) := by
  intro fuel cs x h
  have hu := htok.und _ _ he
  rw [hd] at hu
  obtain ⟨n, rfl, _, hw⟩ := DataW.trod_string hu h
  refine ⟨n, ?_, fun u hu => by simp at hu; subst hu; rfl, wtC_one (by rw [aggT_of he, hd]; rfl) (by simp only [wt]; exact ⟨e, he, hd⟩), hw⟩
  simp only [relL]; exact ⟨_, [], rfl, rel_str _, rfl⟩

theorem list_of_each {α : Type} (p : Nat → α → Prop) : ∀ n, (∀ i, i < n → ∃ y, p i y) → ∃ l : List α, l.length = n ∧ ∀ i y, l[i]? = some y → p i y
  | 0, _ => ⟨[], rfl, by simp⟩
  | n + 1, h => by
    obtain ⟨l, hl, hp⟩ := list_of_each p n (fun i hi => h i (by omega))
    obtain ⟨y, hy⟩ := h n (by omega)
    refine ⟨l ++ [y], by simp [hl], fun i z hz => ?_⟩
    rcases Nat.lt_or_ge i n with hi | hi
    · rw [List.getElem?_append_left (by omega)] at hz
      exact hp i z hz
    · rw [List.getElem?_append_right (by omega), hl] at hz
      have : i = n := by
        rcases Nat.lt_or_ge (i - n) 1 with h1 | h1
        · omega
        · rw [List.getElem?_eq_none (by simpa using h1)] at hz; cases hz
      subst this
      simp at hz
      exact hz ▸ hy

theorem OpV.slice (htok : TyOk P T) {α : Type} {t e : Nat} {te eu : TE} {tys : List Nat} {mk : α → List V} {ok : α → Prop} (el : α → V) (ht : T.look t = some te) (hd : te.desc = .slice e) (he : T.look e = some eu) (hpos : 0 < eu.size) (hsz : P.cellsOf e = eu.size)
    (hel : (isAggT T e = true ∧ cellTys T 8 e = tys ∧ ∀ b, el b = .agg (mk b)) ∨ (isAggT T e = false ∧ tys = [e] ∧ ∀ b, mk b = [el b])) (ho : OpV T enc P w e tys mk ok) :
    OpV T enc P w t [t] (fun l : List α => [.sl e (l.map el)]) (fun l => l.length ≤ maxLen ∧ ∀ x ∈ l, ok x) := by
  intro fuel cs x h
  have hu := htok.und _ _ ht
  rw [hd] at hu
  have hA : isAggT T t = false := by rw [aggT_of ht, hd]; rfl
  have fin : ∀ {A : Option Addr} {cap : Nat} (l : List α), l.length ≤ cap → l.length ≤ maxLen → (∀ y ∈ l, ok y) → (∀ y ∈ l, wt T (el y) e) → (l ≠ [] → ∃ ad, A = some ad ∧ ad.block < w.heap.size ∧ relE T (fun _ => none) w (oldS w) ad eu.size 0 (l.map el)) →
      ∃ a : List α, relL T (fun _ => none) w (oldS w) [.sl e (a.map el)] [.slice A l.length cap] ∧ (∀ u ∈ [Value.slice A l.length cap], u.oneCell' = true) ∧ wtC T [t] [.sl e (a.map el)] ∧ (a.length ≤ maxLen ∧ ∀ x ∈ a, ok x) := by
    intro A cap l h1 h2 h3 h4 h5
    have hwt : wtL T e (l.map el) := wtL_iff.2 (fun v hv => by
      obtain ⟨y, hy, rfl⟩ := List.mem_map.1 hv
      exact h4 y hy)
    refine ⟨l, ?_, fun u hu => by simp at hu; subst hu; rfl, wtC_one hA (by simp only [wt]; exact ⟨⟨te, ht, hd⟩, hwt⟩), h2, h3⟩
    simp only [relL, rel]
    refine ⟨_, [], rfl, ⟨A, cap, by simp, by simpa using h1, by simpa using h2, hwt, fun hne => ?_⟩, rfl⟩
    obtain ⟨ad, e1, e2, e3⟩ := h5 (fun hn => hne (by rw [hn]; rfl))
    exact ⟨ad, eu, e1, he, hpos, e2, e3⟩
  rcases open_slice hu h with ⟨rfl, rfl⟩ | ⟨a, len, cap, m, n, D, Pl, rfl, hb, hl, hm, hmm, rfl, hle⟩
  · exact fin [] (by simp) (by simp) (by simp) (by simp) (fun h => absurd rfl h)
  · simp only [if_true] at hmm
    subst hmm
    obtain ⟨l, hll, hp⟩ := list_of_each (fun i y => ok y ∧ wt T (el y) e ∧ ∃ z : Value, rel T (fun _ => none) w (oldS w) (el y) z ∧ z.cells.size = eu.size ∧ (∀ u ∈ z.cells.toList, u.oneCell' = true) ∧ ∀ j u, z.cells[j]? = some u → w.cell? (a.add (i * eu.size + j)) = some u) len (fun i hi => by
      obtain ⟨cs', hc, ht'⟩ := hle i (by omega)
      obtain ⟨y, hr, h1, hwt, hok⟩ := ho _ _ _ ht'
      obtain ⟨_, hlen, hcell⟩ := World.cells?_some hc
      have hat : ∀ j u, cs'[j]? = some u → w.cell? (a.add (i * eu.size + j)) = some u := fun j u hu => by
        have hj : j < cs'.length := by
          rcases Nat.lt_or_ge j cs'.length with h | h
          · exact h
          · rw [List.getElem?_eq_none h] at hu; cases hu
        rw [← hu, ← hcell j (by omega), ← hsz, Go.Addr.add_add]
      refine ⟨y, hok, ?_⟩
      rcases hel with ⟨g1, g2, g3⟩ | ⟨g1, g2, g3⟩
      · refine ⟨by rw [g3]; simp only [wt]; exact ⟨g1, by rw [g2]; exact hwt⟩, .agg cs'.toArray, by rw [g3]; simp only [rel]; exact ⟨_, rfl, hr, h1⟩, by simp [Value.cells, hlen, hsz], h1, fun j u hu => hat j u (by simpa [Value.cells] using hu)⟩
      · rw [g3, g2] at hwt
        rw [g3] at hr
        simp only [relL] at hr
        obtain ⟨z, zs, e1, e2, e3⟩ := hr
        subst e3; subst e1
        have hz1 := h1 z (by simp)
        have hwt' : wt T (el y) e := by
          simp only [wtC] at hwt
          obtain ⟨u, us, e1, _, e3, _⟩ := hwt
          injection e1 with e1 _
          subst e1
          exact e3
        refine ⟨hwt', z, e2, by rw [cells_one hz1]; simp at hlen; simp; omega, by rw [cells_one hz1]; simpa using hz1, fun j u hu => hat j u (by rw [cells_one hz1] at hu; simpa using hu)⟩)
    have := fin (A := some a) (cap := m) l (by omega) (by have : maxLen = 9223372036854775807 := by decide
                                                          omega) (fun x hx => by
      obtain ⟨i, hi, rfl⟩ := List.mem_iff_getElem.mp hx
      exact (hp i _ (List.getElem?_eq_getElem hi)).1) (fun x hx => by
      obtain ⟨i, hi, rfl⟩ := List.mem_iff_getElem.mp hx
      exact (hp i _ (List.getElem?_eq_getElem hi)).2.1) (fun hne => ⟨a, rfl, ?_, relE_iff.2 (fun k c hk => ?_)⟩)
    · rw [hll] at this; exact this
    · cases l with
      | nil => exact absurd rfl hne
      | cons y r =>
        obtain ⟨_, _, z, _, hz2, _, hz4⟩ := hp 0 y rfl
        have h0 : 0 < z.cells.size := by omega
        have := hz4 0 _ (Array.getElem?_eq_getElem h0)
        have hbl : (a.add (0 * eu.size + 0)).block = a.block := by unfold Addr.add; split <;> rfl
        unfold World.cell? at this
        rw [hbl] at this
        cases hh : w.heap[a.block]? with
        | some o => exact (Array.getElem?_eq_some_iff.1 hh).1
        | none => rw [hh] at this; simp at this
    · rw [List.getElem?_map, Option.map_eq_some_iff] at hk
      obtain ⟨y, hy, rfl⟩ := hk
      rw [Nat.zero_add]
      exact (hp k y hy).2.2

def OpAt (T : Tr) (enc : TypeId × Value → H) (P : Program) (w : World) {α : Type} (fs : List Field) (off : Nat) (tys : List Nat) (mk : α → List V) (ok : α → Prop) : Prop :=
  ∀ cs : List Value, (∀ f ∈ fs, ∃ fuel y, DataW.trod enc P w 0 (fun _ => true) true fuel f.type ((cs.drop f.offset).take (P.cellsOf f.type)) = some y) → cs.length = off + tys.length → ∃ a, relL T (fun _ => none) w (oldS w) (mk a) (cs.drop off) ∧ (∀ u ∈ cs.drop off, u.oneCell' = true) ∧ wtC T tys (mk a) ∧ ok a

theorem OpAt.last {α : Type} {f : Field} {off : Nat} {tys : List Nat} {mk : α → List V} {ok : α → Prop} (ho : f.offset = off) (hsz : P.cellsOf f.type = tys.length) (hd : OpV T enc P w f.type tys mk ok) : OpAt T enc P w [f] off tys mk ok := by
  intro cs h hl
  obtain ⟨fuel, y, hy⟩ := h f (by simp)
  rw [ho, hsz, List.take_of_length_le (by simp; omega)] at hy
  exact hd _ _ _ hy
theorem OpAt.cons {α β : Type} {f : Field} {fs : List Field} {off : Nat} {tys tys' : List Nat} {mk : α → List V} {mk' : β → List V} {ok : α → Prop} {ok' : β → Prop} (ho : f.offset = off) (hsz : P.cellsOf f.type = tys.length) (hd : OpV T enc P w f.type tys mk ok) (hr : OpAt T enc P w fs (off + tys.length) tys' mk' ok') :
    OpAt T enc P w (f :: fs) off (tys ++ tys') (fun x : α × β => mk x.1 ++ mk' x.2) (fun x => ok x.1 ∧ ok' x.2) := by
  intro cs h hl
  obtain ⟨fuel, y, hy⟩ := h f (by simp)
  rw [ho, hsz] at hy
  obtain ⟨a, a1, a2, a3, a4⟩ := hd _ _ _ hy
  obtain ⟨b, b1, b2, b3, b4⟩ := hr cs (fun g hg => h g (by simp [hg])) (by rw [hl, List.length_append]; omega)
  have e : (cs.drop off).take tys.length ++ cs.drop (off + tys.length) = cs.drop off := by rw [← List.drop_drop, List.take_append_drop]
  refine ⟨(a, b), ?_, ?_, wtC_append a3 b3, a4, b4⟩
  · rw [← e]; exact relL_app a1 b1
  · rw [← e]; intro u hu; rcases List.mem_append.1 hu with hu | hu
    · exact a2 u hu
    · exact b2 u hu
theorem OpV.struct (htok : TyOk P T) {α : Type} {t : Nat} {te : TE} {fs : Array Field} {tys : List Nat} {mk : α → List V} {ok : α → Prop} (ht : T.look t = some te) (hd : te.desc = .struct fs) (hsz : P.cellsOf t = tys.length) (h0 : OpAt T enc P w fs.toList 0 tys mk ok) : OpV T enc P w t tys mk ok := by
  intro fuel cs x h
  have hu := htok.und _ _ ht
  rw [hd] at hu
  obtain ⟨xs, n, rfl, rfl, hl, hxl, hf⟩ := DataW.trod_struct hu h
  obtain ⟨a, a1, a2, a3, a4⟩ := h0 cs (fun f hf' => by
    obtain ⟨i, hi, rfl⟩ := List.mem_iff_getElem.mp hf'
    have h1 := hf i fs.toList[i] (by simp at hi ⊢)
    have h2 : i < xs.length := by simp at hi; omega
    rw [List.getElem?_eq_getElem h2] at h1
    exact ⟨_, _, h1⟩) (by rw [hl, hsz, Nat.zero_add])
  exact ⟨a, a1, a2, a3, a4⟩

theorem law_calls {f : Nat} {args : List V} {vals : List Value} (hb : Body P f) (h : Ab.Fn P T f args (.b true) []) (hr : relL T (fun _ => none) w (oldS w) args vals) : Calls P f vals.toArray w fun e w' => e = .returned (.bool true) ∧ Below w.heap.size w w' :=
  Calls.weaken ((h w (oldS w) vals (fun _ h => h) hr).calls hb) (fun e w' ⟨x, φ, S, h1, h2, _, h4, _⟩ => by
    simp only [rel] at h4
    subst h4
    exact ⟨h1, h2.below⟩)

theorem args_nil : relL T (fun _ => none) w (oldS w) [] [] := by simp only [relL]
theorem args_one {v : V} {x : Value} {vs : List V} {xs : List Value} (h : relL T (fun _ => none) w (oldS w) [v] [x]) (k : relL T (fun _ => none) w (oldS w) vs xs) : relL T (fun _ => none) w (oldS w) (v :: vs) (x :: xs) := relL_app h k
theorem args_i (n : Int) {k : IntKind} {vs : List V} {xs : List Value} (h : relL T (fun _ => none) w (oldS w) vs xs) : relL T (fun _ => none) w (oldS w) (.i k n :: vs) (.int k n :: xs) := by simp only [relL]; exact ⟨_, xs, rfl, rel_i _ _, h⟩
theorem args_b (n : Bool) {vs : List V} {xs : List Value} (h : relL T (fun _ => none) w (oldS w) vs xs) : relL T (fun _ => none) w (oldS w) (.b n :: vs) (.bool n :: xs) := by simp only [relL]; exact ⟨_, xs, rfl, rel_b _, h⟩
theorem args_str (n : ByteArray) {vs : List V} {xs : List Value} (h : relL T (fun _ => none) w (oldS w) vs xs) : relL T (fun _ => none) w (oldS w) (.str n :: vs) (.string n :: xs) := by simp only [relL]; exact ⟨_, xs, rfl, rel_str _, h⟩
theorem args_agg {mk : List V} {cs : Array Value} {vs : List V} {xs : List Value} (h : relL T (fun _ => none) w (oldS w) mk cs.toList) (h1 : ∀ u ∈ cs.toList, u.oneCell' = true) (k : relL T (fun _ => none) w (oldS w) vs xs) : relL T (fun _ => none) w (oldS w) (.agg mk :: vs) (.agg cs :: xs) := by
  simp only [relL]
  exact ⟨_, xs, rfl, by simp only [rel]; exact ⟨cs, rfl, h, h1⟩, k⟩
end
end Go.Ab
end
section
-- PRINTED BY print.sh 35421559b90ae4d0a3588c463048766b98c2df88dd9212a6774a882060cdf62d: not written by this session

namespace Go.Proofs.YtjcabmhnekcbgaaW.PrintLast

section
variable {P : Program} {ops : Array Oper} {Q : Exit → Act → World → Prop} {md : Region.Mode} {S : World → Prop} {ds : List Nat}

/-- Whatever order is picked from here on, AND 'S' HOLDS BEHIND EVERY OPERATION THAT IS CARRIED OUT, those of ds apart. -/
def wpAnyLast (P : Program) (md : Region.Mode) (ops : Array Oper) (Q : Exit → Act → World → Prop) (S : World → Prop) (ds : List Nat) : Nat → Array Bool → Act → World → Prop
  | 0, listed, a, w => Region.ready md ops listed = [] ∧ Q .normal a w
  | fuel + 1, listed, a, w =>
    (Region.ready md ops listed = [] → Q .normal a w) ∧
    ∀ i ∈ Region.ready md ops listed, wpOp P ops Q i (fun a' w' => (i ∉ ds → S w → S w') ∧ wpAnyLast P md ops Q S ds fuel (listed.setIfInBounds i true) a' w') a w

theorem wpAny_of_last : ∀ (fuel : Nat) (listed : Array Bool) (a : Act) (w : World), wpAnyLast P md ops Q S ds fuel listed a w → wpAny P md ops Q fuel listed a w
  | 0, _, _, _, h => h
  | fuel + 1, _, _, _, h => ⟨h.1, fun i hi => wpOp_mono (fun a' w' h' => wpAny_of_last fuel _ a' w' h'.2) (h.2 i hi)⟩

/-- Take number 'i' first, which yields whatever the world: no S is asked for, nor that anything waits for it. -/
theorem wpAnyLast_any {i : Nat} {oi : Oper} {v : Value} (hi : ops[i]? = some oi) (hsel : ∀ (j : Nat) (o : Oper) cs b, ops[j]? = some o → o.op ≠ .select cs b)
    (hQ : ∀ c a w, Q (.panic c) (a.put oi.dst v) w → Q (.panic c) a w) :
    ∀ (fuel : Nat) (listed : Array Bool) (a : Act) (w : World),
      (∀ j oj, ops[j]? = some oj → j ≠ i → listed.getD j true = false → (∀ e ∈ oj.after, Region.binds md e = true → e.on ≠ i) → oi.apart ops oj = true) →
      i ∈ Region.ready md ops listed → Yields P ops oi v a →
      wpAnyLast P md ops Q S ds fuel (listed.setIfInBounds i true) (a.put oi.dst v) w → wpAnyLast P md ops Q S ds (fuel + 1) listed a w := by
  intro fuel
  induction fuel with
  | zero =>
    intro listed a w _ hr hy H
    refine ⟨fun h => (by rw [h] at hr; cases hr), fun j hj => ?_⟩
    by_cases hji : j = i
    · subst hji; exact (hy.yieldsIf (S := fun _ => True)).wpOp hi trivial ⟨fun _ h => h, H⟩
    · have := ready_mono hj hji
      rw [H.1] at this
      cases this
  | succ fuel ih =>
    intro listed a w hfree hr hy H
    refine ⟨fun h => (by rw [h] at hr; cases hr), fun j hj => ?_⟩
    by_cases hji : j = i
    · subst hji; exact (hy.yieldsIf (S := fun _ => True)).wpOp hi trivial ⟨fun _ h => h, H⟩
    · have h1 := H.2 j (ready_mono hj hji)
      obtain ⟨hjun, oj, hoj, hall⟩ := mem_ready.1 hj
      have hiun := (mem_ready.1 hr).1
      have hnot : ∀ e ∈ oj.after, Region.binds md e = true → e.on ≠ i := fun e he hb heq => by
        have h1 := hall e he hb
        rw [heq] at h1
        rcases Nat.lt_or_ge i listed.size with h' | h'
        · simp [h'] at hiun h1; rw [hiun] at h1; cases h1
        · simp [Array.getElem?_eq_none h'] at h1
      have h2 := wpOp_put hoj (hfree j oj hoj hji hjun hnot) (fun cs b => hsel i oi cs b hi) (fun cs b => hsel j oj cs b hoj) hQ hy h1
      have hfree' : ∀ k ok, ops[k]? = some ok → k ≠ i → (listed.setIfInBounds j true).getD k true = false →
          (∀ e ∈ ok.after, Region.binds md e = true → e.on ≠ i) → oi.apart ops ok = true := fun k ok hk hki hun hno => by
        refine hfree k ok hk hki ?_ hno
        by_cases hjk : j = k
        · subst hjk; exact hjun
        · rw [getD_set_ne true hjk] at hun; exact hun
      refine wpOp_mono (fun a' w' h3 => ⟨h3.2.1, ih (listed.setIfInBounds j true) a' w' hfree' (ready_mono hr (Ne.symm hji)) h3.1 ?_⟩) h2
      rw [Array.setIfInBounds_comm _ _ hji]
      exact h3.2.2

theorem wpAnyLast_all {rs : List Nat} {fuel : Nat} {listed : Array Bool} {a : Act} {w : World} (hr : Region.ready md ops listed = rs) (hne : rs ≠ [])
    (h : ∀ i ∈ rs, wpOp P ops Q i (fun a' w' => (i ∉ ds → S w → S w') ∧ wpAnyLast P md ops Q S ds fuel (listed.setIfInBounds i true) a' w') a w) : wpAnyLast P md ops Q S ds (fuel + 1) listed a w :=
  ⟨fun h0 => absurd (hr ▸ h0) hne, hr ▸ h⟩

theorem wp_region_last {id : Nat} {a : Act} {w : World} (hm : P.follows .mixedOrders = true)
    (h : wpAnyLast P .any ops Q S ds ops.size (Array.replicate ops.size false) a { w with drawn := w.drawn + 1 }) : (Code.region id ops true).wp P Q a w :=
  wp_region_any hm (wpAny_of_last _ _ _ _ h)

end

section
variable {P : Program} {ops : Array Oper} {Q : Exit → Act → World → Prop} {md : Region.Mode} {S : World → Prop} {ds : List Nat}

def AllReadyL (P : Program) (md : Region.Mode) (ops : Array Oper) (Q : Exit → Act → World → Prop) (S : World → Prop) (ds : List Nat) (fuel : Nat) (listed : Array Bool) (a : Act) (w : World) (rs : List Nat) : Prop :=
  ∀ i ∈ rs, wpOp P ops Q i (fun a' w' => (i ∉ ds → S w → S w') ∧ wpAnyLast P md ops Q S ds fuel (listed.setIfInBounds i true) a' w') a w
theorem AllReadyL.nil {fuel : Nat} {listed : Array Bool} {a : Act} {w : World} : AllReadyL P md ops Q S ds fuel listed a w [] := fun _ h => by cases h
theorem AllReadyL.cons {fuel : Nat} {listed : Array Bool} {a : Act} {w : World} {i : Nat} {o : Oper} {rs : List Nat} (ho : ops[i]? = some o) (hd : i ∉ ds)
    (h : ∀ K' : Act → World → Prop, Shut (∀ a w, S w → (S w → wpAnyLast P md ops Q S ds fuel (listed.setIfInBounds i true) a w) → K' a w) → if Region.wanted o (yielded ops a.tmps) = true then Oper.wp P o a w K' Q else K' (a.put o.dst undef) w)
    (hs : AllReadyL P md ops Q S ds fuel listed a w rs) : AllReadyL P md ops Q S ds fuel listed a w (i :: rs) := fun j hj => by
  rcases List.mem_cons.1 hj with rfl | hj
  · exact wpOp_step ho (fun K' hK => h K' (fun a w hS hW => hK a w ⟨fun _ _ => hS, hW hS⟩))
  · exact hs j hj
theorem wpAnyLast_ready {rs : List Nat} {fuel : Nat} {listed : Array Bool} {a : Act} {w : World} (hr : Region.ready md ops listed = rs) (hne : rs ≠ [])
    (h : AllReadyL P md ops Q S ds fuel listed a w rs) : wpAnyLast P md ops Q S ds (fuel + 1) listed a w := wpAnyLast_all hr hne h
/-- THE SAME STEPS WITH WHAT HAS COME UP WRITTEN OUT (a literal array of Bools) and one check a step: quicker, and what is printed stays short. -/
theorem start_ {id n : Nat} {a : Act} {w : World} (l : Array Bool) (hm : P.follows .mixedOrders = true) (hn : ops.size = n) (hl : Array.replicate n false = l) (hS : S w.drew)
    (h : S w.drew → wpAnyLast P .any ops Q S ds n l a w.drew) : (Code.region id ops true).wp P Q a w := by
  subst hn
  subst hl
  exact wp_region_last hm (h hS)
def anyB (md : Region.Mode) (ops : Array Oper) (l l' : Array Bool) (i : Nat) : Bool :=
  Region.noSelect ops && Region.free md ops l i && (Region.ready md ops l).contains i && (l.setIfInBounds i true == l')
/-- An operation that yields in every world (a move, a number, an address): taken first wherever it may come up, behind a store too. -/
theorem pure_ {i : Nat} {N : Option Tmp} {oi : Oper} {v : Value} {fuel : Nat} {l : Array Bool} {a : Act} {w : World} (l' : Array Bool) (hi : ops[i]? = some oi) (hN : oi.dst = N) (hc : anyB md ops l l' i = true)
    (hQ : ∀ c a w, Q (.panic c) (a.put oi.dst v) w → Q (.panic c) a w) (hy : Yields P ops oi v a) {a' : Act} (ha : a.put N v = a')
    (h : wpAnyLast P md ops Q S ds fuel l' a' w) : wpAnyLast P md ops Q S ds (fuel + 1) l a w := by
  subst ha
  subst hN
  simp only [anyB, Bool.and_eq_true, beq_iff_eq] at hc
  obtain ⟨⟨⟨h1, h2⟩, h3⟩, h6⟩ := hc
  subst h6
  exact wpAnyLast_any hi (Region.noSelect_spec h1) hQ fuel l a w (Region.free_spec hi h2) (by simpa using h3) hy h
def readyB (md : Region.Mode) (ops : Array Oper) (l l' : Array Bool) (i : Nat) : Bool := (Region.ready md ops l == [i]) && (l.setIfInBounds i true == l')
/-- One operation alone may come up now (a call, a build, an append ..): it is run, S is shown behind it. -/
theorem one_ {i : Nat} {N : Option Tmp} {oi : Oper} {fuel : Nat} {l : Array Bool} {a : Act} {w : World} (l' : Array Bool) (hi : ops[i]? = some oi) (hN : oi.dst = N) (hc : readyB md ops l l' i = true) (hd : i ∉ ds)
    (h : ∀ K : Act → World → Prop, Shut (∀ a' w', S w' → (S w' → wpAnyLast P md ops Q S ds fuel l' a' w') → K a' w') → if Region.wanted oi (yielded ops a.tmps) = true then Oper.wp P oi a w K Q else K (a.put N undef) w) :
    wpAnyLast P md ops Q S ds (fuel + 1) l a w := by
  subst hN
  simp only [readyB, Bool.and_eq_true, beq_iff_eq] at hc
  obtain ⟨h1, h2⟩ := hc
  subst h2
  exact wpAnyLast_ready h1 (by simp) (AllReadyL.cons hi hd (fun K hK => h K hK) AllReadyL.nil)
/-- The act with some destinations filled. -/
def putAll : Act → List (Tmp × Value) → Act
  | a, [] => a
  | a, (n, v) :: r => putAll (a.put (some n) v) r
/-- The act written out. -/
theorem norm_ {fuel : Nat} {l : Array Bool} {a a' : Act} {w : World} (ha : a = a') (h : wpAnyLast P md ops Q S ds fuel l a' w) : wpAnyLast P md ops Q S ds fuel l a w := by
  subst ha
  exact h
/-- An operation that yields a value (and may make memory). -/
theorem value_ {oi : Oper} {N : Option Tmp} {a : Act} {w w1 : World} {v : Value} {K : Act → World → Prop} (hw : Region.wanted oi (yielded ops a.tmps) = true) (hN : oi.dst = N) (hrun : (execOp a.eval oi).run P w = .ok (.value v) w1)
    (h : K (a.put N v) w1) : if Region.wanted oi (yielded ops a.tmps) = true then Oper.wp P oi a w K Q else K (a.put N undef) w := by
  rw [if_pos hw]
  subst hN
  unfold Oper.wp
  rw [hrun]
  exact h
/-- A store. -/
theorem skip_ {oi : Oper} {a : Act} {w w1 : World} {K : Act → World → Prop} (hw : Region.wanted oi (yielded ops a.tmps) = true) (hN : oi.dst = none) (hrun : (execOp a.eval oi).run P w = .ok .skip w1)
    (h : K a w1) : if Region.wanted oi (yielded ops a.tmps) = true then Oper.wp P oi a w K Q else K (a.put none undef) w := by
  rw [if_pos hw]
  unfold Oper.wp
  rw [hrun]
  show K (a.put oi.dst undef) w1
  rw [hN]
  exact h
end
end Go.Proofs.YtjcabmhnekcbgaaW.PrintLast
end
