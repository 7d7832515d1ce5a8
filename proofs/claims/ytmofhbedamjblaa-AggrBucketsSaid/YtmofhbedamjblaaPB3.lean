/- Texts of this seat, merged in build order. No statement of its own. -/
import Derived.Orders
import Derived.Test.YtmofhbedamjblaaProg
import Derived.OpenShut
import Derived.Deep.Slices
import Derived.Laws.Externs
import Derived.Test.YtmofhbedamjblaaPB2
set_option linter.unusedVariables false
set_option linter.unusedSimpArgs false
section
namespace Go.Ab
open Go.RowKit
def ordOk (ops : Array Oper) (W : List (List Nat)) : Bool := (List.range ops.size).all fun i => match ops[i]? with
  | some x => x.after.toList.all (fun e => !Region.binds .any e || decide (e.on < i)) &&
    (W.getD i []).all (fun j => x.after.toList.any fun e => Region.binds .any e && (e.on == j || memN j (W.getD e.on []))) &&
    (List.range i).all (fun j => memN j (W.getD i []) || match ops[j]? with | some y => y.apart ops x | none => false)
  | none => false
def tmB (b : Nat → Bool) : Nat → List V → List Ent → List V
  | _, tm, [] => tm
  | k, tm, e :: r => tmB b (k + 1) (if b k = true then setD tm e.d e.v else tm) r
def hpB (b : Nat → Bool) : Nat → Hp → List Ent → Hp
  | _, hp, [] => hp
  | k, hp, e :: r => hpB b (k + 1) (if b k = true then e.E ++ hp else hp) r
section
variable {P : Program} {T : Tr} {w0 : Base} {φ φ' φ2 : Nat → Option Loc} {w w' : World} {S S' S2 : Nat → Prop} {v : V} {hp : Hp} {b0 : Nat → Prop} {x : Oper} {a : Act} {ops : Array Oper} {b b' : Nat → Bool} {t n : Nat}
theorem setD_get {tm : List V} {d : Option Nat} : (setD tm d v).getD t .dead = if d = some t ∧ t < tm.length then v else tm.getD t .dead := by
  cases d with
  | none => simp [setD]
  | some k =>
    simp only [setD, getD_set, Option.some.injEq]
    by_cases h : k = t
    · subst h; simp
    · simp [h]
theorem setD_length {tm : List V} {d : Option Nat} : (setD tm d v).length = tm.length := by cases d <;> simp [setD]
theorem tmB_length : ∀ {es : List Ent} {k : Nat} {tm : List V}, (tmB b k tm es).length = tm.length
  | [], k, tm => rfl
  | e :: r, k, tm => by
    simp only [tmB]
    rw [tmB_length]
    split
    · exact setD_length
    · rfl
theorem tmB_congr : ∀ {es : List Ent} {k : Nat} {tm tm2 : List V}, tm.length = tm2.length → tm.getD t .dead = tm2.getD t .dead → (∀ j e, es[j]? = some e → e.d = some t → b (k + j) = b' (k + j)) → (tmB b k tm es).getD t .dead = (tmB b' k tm2 es).getD t .dead
  | [], k, tm, tm2, _, h, _ => h
  | e :: r, k, tm, tm2, hl, h, hb => by
    simp only [tmB]
    refine tmB_congr ?_ ?_ (fun j e' hj hd => ?_)
    · split <;> split <;> simp [setD_length, hl]
    · by_cases hd : e.d = some t
      · have := hb 0 e rfl hd
        rw [Nat.add_zero] at this
        rw [this]
        split
        · rw [setD_get, setD_get, hl, h]
        · exact h
      · have e1 : ∀ (c : Bool) (l : List V), (if c = true then setD l e.d e.v else l).getD t .dead = l.getD t .dead := fun c l => by
          split
          · rw [setD_get, if_neg (fun hh => hd hh.1)]
          · rfl
        rw [e1, e1, h]
    · have := hb (j + 1) e' hj hd
      rwa [show k + (j + 1) = k + 1 + j from by omega] at this
theorem hpB_congr : ∀ {es : List Ent} {k : Nat} {hp hp2 : Hp}, look hp n = look hp2 n → (∀ j e, es[j]? = some e → look e.E n ≠ none → b (k + j) = b' (k + j)) → look (hpB b k hp es) n = look (hpB b' k hp2 es) n
  | [], k, hp, hp2, h, _ => h
  | e :: r, k, hp, hp2, h, hb => by
    simp only [hpB]
    refine hpB_congr ?_ (fun j e' hj hd => ?_)
    · by_cases hd : look e.E n = none
      · have e1 : ∀ (c : Bool) (l : Hp), look (if c = true then e.E ++ l else l) n = look l n := fun c l => by
          split
          · rw [look_app, hd]
          · rfl
        rw [e1, e1, h]
      · have := hb 0 e rfl hd
        rw [Nat.add_zero] at this
        rw [this]
        split
        · rw [look_app, look_app, h]
        · exact h
    · have := hb (j + 1) e' hj hd
      rwa [show k + (j + 1) = k + 1 + j from by omega] at this
theorem tmB_keep : ∀ {es : List Ent} {k : Nat} {tm : List V}, (∀ j e, es[j]? = some e → b (k + j) = true → e.d ≠ some t) → (tmB b k tm es).getD t .dead = tm.getD t .dead
  | [], k, tm, _ => rfl
  | e :: r, k, tm, hb => by
    simp only [tmB]
    rw [tmB_keep (fun j e' hj hd => hb (j + 1) e' hj (by rwa [show k + (j + 1) = k + 1 + j from by omega]))]
    split
    · rename_i h
      rw [setD_get, if_neg (fun hh => hb 0 e rfl h hh.1)]
    · rfl
theorem hpB_keep : ∀ {es : List Ent} {k : Nat} {hp : Hp}, (∀ j e, es[j]? = some e → b (k + j) = true → look e.E n = none) → look (hpB b k hp es) n = look hp n
  | [], k, hp, _ => rfl
  | e :: r, k, hp, hb => by
    simp only [hpB]
    rw [hpB_keep (fun j e' hj hd => hb (j + 1) e' hj (by rwa [show k + (j + 1) = k + 1 + j from by omega]))]
    split
    · rename_i h
      rw [look_app, hb 0 e rfl h]
    · rfl
theorem tmB_last : ∀ {es : List Ent} {k i : Nat} {tm : List V} {e : Ent}, es[i]? = some e → b (k + i) = true → e.d = some t → t < tm.length → (∀ j e', i < j → es[j]? = some e' → b (k + j) = true → e'.d ≠ some t) → (tmB b k tm es).getD t .dead = e.v
  | c :: r, k, 0, tm, e, he, hb, hd, ht, hl => by
    simp only [List.getElem?_cons_zero, Option.some.injEq] at he
    subst he
    simp only [tmB]
    rw [if_pos (by simpa using hb), tmB_keep (fun j e' hj hb' => hl (j + 1) e' (by omega) hj (by rwa [show k + (j + 1) = k + 1 + j from by omega])), setD_get, if_pos ⟨hd, ht⟩]
  | c :: r, k, i + 1, tm, e, he, hb, hd, ht, hl => by
    simp only [List.getElem?_cons_succ] at he
    simp only [tmB]
    refine tmB_last he (by rwa [show k + 1 + i = k + (i + 1) from by omega]) hd ?_ (fun j e' hij hj hb' => hl (j + 1) e' (by omega) hj (by rwa [show k + (j + 1) = k + 1 + j from by omega]))
    split
    · rw [setD_length]; exact ht
    · exact ht
theorem hpB_last {c : Blk} : ∀ {es : List Ent} {k i : Nat} {hp : Hp} {e : Ent}, es[i]? = some e → b (k + i) = true → look e.E n = some c → (∀ j e', i < j → es[j]? = some e' → b (k + j) = true → look e'.E n = none) → look (hpB b k hp es) n = some c
  | d :: r, k, 0, hp, e, he, hb, hd, hl => by
    simp only [List.getElem?_cons_zero, Option.some.injEq] at he
    subst he
    simp only [hpB]
    rw [if_pos (by simpa using hb), hpB_keep (fun j e' hj hb' => hl (j + 1) e' (by omega) hj (by rwa [show k + (j + 1) = k + 1 + j from by omega])), look_app, hd]
  | d :: r, k, i + 1, hp, e, he, hb, hd, hl => by
    simp only [List.getElem?_cons_succ] at he
    simp only [hpB]
    exact hpB_last he (by rwa [show k + 1 + i = k + (i + 1) from by omega]) hd (fun j e' hij hj hb' => hl (j + 1) e' (by omega) hj (by rwa [show k + (j + 1) = k + 1 + j from by omega]))
theorem tmB_none : ∀ {es : List Ent} {k : Nat} {tm : List V}, (∀ j, k ≤ j → b j = false) → tmB b k tm es = tm
  | [], k, tm, _ => rfl
  | e :: r, k, tm, h => by
    simp only [tmB]
    rw [if_neg (by rw [h k (Nat.le_refl _)]; simp)]
    exact tmB_none (fun j hj => h j (by omega))
theorem hpB_none : ∀ {es : List Ent} {k : Nat} {hp : Hp}, (∀ j, k ≤ j → b j = false) → hpB b k hp es = hp
  | [], k, hp, _ => rfl
  | e :: r, k, hp, h => by
    simp only [hpB]
    rw [if_neg (by rw [h k (Nat.le_refl _)]; simp)]
    exact hpB_none (fun j hj => h j (by omega))
def At (P : Program) (T : Tr) (w0 : Base) (ops : Array Oper) (tm : List V) (hp : Hp) (x : Oper) (e : Ent) : Prop :=
  e.d = x.dst ∧ ((GuardIs ops tm x true ∧ Res P T (opF (real P T w0) T tm hp x) e.v e.E ∧ e.f = footOf tm x e.E) ∨ (GuardIs ops tm x false ∧ e.v = .tup [] ∧ e.E = []))
theorem trace_at : ∀ {l : List Oper} {tm : List V} {hp : Hp} {es : List Ent} {tm' : List V} {hp' : Hp} {k : Nat}, Trace P T w0 ops l tm hp es tm' hp' →
    es.length = l.length ∧ (∀ (i : Nat) (x : Oper), l[i]? = some x → ∃ e, es[i]? = some e ∧ At P T w0 ops (tmB (fun j => decide (j < k + i)) k tm es) (hpB (fun j => decide (j < k + i)) k hp es) x e) ∧
    (∀ b : Nat → Bool, (∀ j, j < l.length → b (k + j) = true) → tm' = tmB b k tm es ∧ hp' = hpB b k hp es) := by
  intro l tm hp es tm' hp' k ht
  induction ht generalizing k with
  | nil => exact ⟨rfl, fun i x h => (by simp at h), fun b _ => ⟨rfl, rfl⟩⟩
  | run hg hr _ ih =>
    rename_i x r tm hp v E es tm' hp' _
    obtain ⟨h1, h2, h3⟩ := ih (k := k + 1)
    refine ⟨by simp [h1], fun i y hy => ?_, fun b hb => ?_⟩
    · cases i with
      | zero =>
        simp only [List.getElem?_cons_zero, Option.some.injEq] at hy
        subst hy
        refine ⟨_, rfl, rfl, .inl ?_⟩
        rw [tmB_none (fun j hj => by simp; omega), hpB_none (fun j hj => by simp; omega)]
        exact ⟨hg, hr, rfl⟩
      | succ i =>
        simp only [List.getElem?_cons_succ] at hy ⊢
        obtain ⟨e, e1, e2⟩ := h2 i y hy
        refine ⟨e, e1, ?_⟩
        simp only [tmB, hpB]
        rw [if_pos (by simp), if_pos (by simp)]
        rwa [show k + 1 + i = k + (i + 1) from by omega] at e2
    · obtain ⟨k1, k2⟩ := h3 b (fun j hj => by have := hb (j + 1) (by simpa using hj); rwa [show k + (j + 1) = k + 1 + j from by omega] at this)
      have h0 := hb 0 (by simp)
      rw [Nat.add_zero] at h0
      simp only [tmB, hpB]
      rw [if_pos h0, if_pos h0]
      exact ⟨k1, k2⟩
  | skip hg _ ih =>
    rename_i x r tm hp es tm' hp' _
    obtain ⟨h1, h2, h3⟩ := ih (k := k + 1)
    refine ⟨by simp [h1], fun i y hy => ?_, fun b hb => ?_⟩
    · cases i with
      | zero =>
        simp only [List.getElem?_cons_zero, Option.some.injEq] at hy
        subst hy
        refine ⟨_, rfl, rfl, .inr ?_⟩
        rw [tmB_none (fun j hj => by simp; omega)]
        exact ⟨hg, rfl, rfl⟩
      | succ i =>
        simp only [List.getElem?_cons_succ] at hy ⊢
        obtain ⟨e, e1, e2⟩ := h2 i y hy
        refine ⟨e, e1, ?_⟩
        simp only [tmB, hpB]
        rw [if_pos (by simp), if_pos (by simp)]
        rwa [show k + 1 + i = k + (i + 1) from by omega] at e2
    · obtain ⟨k1, k2⟩ := h3 b (fun j hj => by have := hb (j + 1) (by simpa using hj); rwa [show k + (j + 1) = k + 1 + j from by omega] at this)
      have h0 := hb 0 (by simp)
      rw [Nat.add_zero] at h0
      simp only [tmB, hpB]
      rw [if_pos h0, if_pos h0]
      exact ⟨k1, k2⟩
theorem meets_false {a c : List Nat} (h : meets a c = false) : ∀ n, n ∈ a → n ∈ c → False := by
  intro n ha hc
  have : meets a c = true := by
    unfold meets
    rw [List.any_eq_true]
    exact ⟨n, ha, by rw [List.any_eq_true]; exact ⟨n, hc, by simp⟩⟩
  rw [this] at h
  cases h
def Free (f g : Foot) : Prop := meets f.wr g.wr = false ∧ meets f.wr g.rd = false ∧ meets f.rd g.wr = false
theorem apart1_spec {W : List (List Nat)} {i : Nat} {f : Foot} : ∀ {fs : List Foot} {k : Nat}, apart1 W i f k fs = true → ∀ j g, fs[j]? = some g → memN i (W.getD (k + j) []) = true ∨ Free f g
  | c :: r, k, h, j, g, hg => by
    simp only [apart1] at h
    have rest : apart1 W i f (k + 1) r = true → ∀ j g, r[j]? = some g → memN i (W.getD (k + (j + 1)) []) = true ∨ Free f g := fun h j g hj => by
      rw [show k + (j + 1) = k + 1 + j from by omega]; exact apart1_spec h j g hj
    split at h
    · rename_i hm
      split at h
      · rename_i hmem
        cases j with
        | zero => exact .inl hmem
        | succ j => exact rest h j g (by simpa using hg)
      · cases h
    · rename_i hm
      cases j with
      | zero =>
        simp only [List.getElem?_cons_zero, Option.some.injEq] at hg
        subst hg
        refine .inr ?_
        split at hm
        · cases hm
        · rename_i h1
          split at hm
          · cases hm
          · rename_i h2; exact ⟨h1, h2, hm⟩
      | succ j => exact rest h j g (by simpa using hg)
theorem apartF_spec {W : List (List Nat)} : ∀ {fs : List Foot} {k : Nat}, apartF W k fs = true → ∀ i j f g, i < j → fs[i]? = some f → fs[j]? = some g → memN (k + i) (W.getD (k + j) []) = true ∨ Free f g
  | c :: r, k, h, i, j, f, g, hij, hf, hg => by
    simp only [apartF] at h
    split at h
    · rename_i h1
      cases j with
      | zero => omega
      | succ j =>
        simp only [List.getElem?_cons_succ] at hg
        cases i with
        | zero =>
          simp only [List.getElem?_cons_zero, Option.some.injEq] at hf
          subst hf
          have := apart1_spec h1 j g hg
          rwa [show k + 1 + j = k + (j + 1) from by omega] at this
        | succ i =>
          simp only [List.getElem?_cons_succ] at hf
          have := apartF_spec h i j f g (by omega) hf hg
          rwa [show k + 1 + j = k + (j + 1) from by omega, show k + 1 + i = k + (i + 1) from by omega] at this
    · cases h
theorem Inv.congr {tm tm2 : List V} {hp2 : Hp} (h : Inv T w0 φ S tm hp a w) (hl : tm.length = tm2.length) (ht : ∀ t, tm.getD t .dead = tm2.getD t .dead) (hh : ∀ n, look hp n = look hp2 n) : Inv T w0 φ S tm2 hp2 a w :=
  ⟨h.since, by rw [← hl]; exact h.size, fun t => by rw [← ht]; exact h.tms t, h.dfr, h.heap.perm hh, h.anc⟩
theorem wr_of {tm : List V} {e : Ent} (he : At P T w0 ops tm hp x e) : look e.E n ≠ none → n ∈ e.f.wr := by
  intro hn
  have mem : ∀ {E : Hp}, look E n ≠ none → n ∈ E.map (·.1) := by
    intro E
    induction E with
    | nil => intro h; exact absurd rfl h
    | cons p r ih =>
      obtain ⟨k, c⟩ := p
      intro h
      rw [look_cons] at h
      by_cases e : k = n
      · subst e; simp
      · rw [if_neg e] at h; exact List.mem_cons_of_mem _ (ih h)
  rcases he.2 with ⟨_, _, h3⟩ | ⟨_, _, h3⟩
  · rw [h3]; exact mem hn
  · rw [h3] at hn; exact absurd rfl hn
def unl : List Bool → Nat
  | [] => 0
  | c :: r => (if c = true then 0 else 1) + unl r
theorem unl_set : ∀ {l : List Bool} {i : Nat}, l[i]? = some false → unl (l.set i true) + 1 = unl l
  | c :: r, 0, h => by
    simp only [List.getElem?_cons_zero, Option.some.injEq] at h
    subst h
    simp [unl, Nat.add_comm]
  | c :: r, i + 1, h => by
    simp only [List.getElem?_cons_succ] at h
    have := unl_set h
    simp only [List.set_cons_succ, unl]
    omega
theorem unl_zero : ∀ {l : List Bool}, unl l = 0 → ∀ (i : Nat) (c : Bool), l[i]? = some c → c = true
  | d :: r, h, 0, c, hc => by
    simp only [List.getElem?_cons_zero, Option.some.injEq] at hc
    subst hc
    simp only [unl] at h
    cases d
    · simp at h
    · rfl
  | d :: r, h, i + 1, c, hc => by
    simp only [List.getElem?_cons_succ] at hc
    simp only [unl] at h
    exact unl_zero (by omega) i c hc
structure OrdOk (ops : Array Oper) (W : List (List Nat)) : Prop where
  edge : ∀ (i : Nat) (x : Oper), ops[i]? = some x → ∀ e ∈ x.after.toList, Region.binds .any e = true → e.on < i
  wait : ∀ (i : Nat) (x : Oper), ops[i]? = some x → ∀ j ∈ W.getD i [], ∃ e ∈ x.after.toList, Region.binds .any e = true ∧ (e.on = j ∨ memN j (W.getD e.on []) = true)
  apart : ∀ (i j : Nat) (x y : Oper), ops[i]? = some x → ops[j]? = some y → j < i → memN j (W.getD i []) = true ∨ y.apart ops x = true
theorem ordOk_spec {W : List (List Nat)} (h : ordOk ops W = true) : OrdOk ops W := by
  have at' : ∀ {i x}, ops[i]? = some x → ((x.after.toList.all (fun e => !Region.binds .any e || decide (e.on < i)) = true ∧
      (W.getD i []).all (fun j => x.after.toList.any fun e => Region.binds .any e && (e.on == j || memN j (W.getD e.on []))) = true) ∧
      (List.range i).all (fun j => memN j (W.getD i []) || match ops[j]? with | some y => y.apart ops x | none => false) = true) := by
    intro i x hx
    have := List.all_eq_true.1 h i (List.mem_range.2 (Array.getElem?_eq_some_iff.1 hx).1)
    rw [hx] at this
    simpa only [Bool.and_eq_true] using this
  refine ⟨fun i x hx e he hb => ?_, fun i x hx j hj => ?_, fun i j x y hx hy hji => ?_⟩
  · have := List.all_eq_true.1 (at' hx).1.1 e he
    simpa [hb] using this
  · have := List.all_eq_true.1 (at' hx).1.2 j hj
    rw [List.any_eq_true] at this
    obtain ⟨e, he, h1⟩ := this
    simp only [Bool.and_eq_true, Bool.or_eq_true, beq_iff_eq] at h1
    exact ⟨e, he, h1.1, h1.2⟩
  · have := List.all_eq_true.1 (at' hx).2 j (List.mem_range.2 hji)
    rw [hy] at this
    simpa only [Bool.or_eq_true] using this
def Cl (ops : Array Oper) (b : Nat → Bool) : Prop := ∀ (i : Nat) (x : Oper), ops[i]? = some x → b i = true → ∀ e ∈ x.after.toList, Region.binds .any e = true → b e.on = true
theorem waits_in {W : List (List Nat)} (ho : OrdOk ops W) (hc : Cl ops b) : ∀ (m i : Nat) (x : Oper), i ≤ m → ops[i]? = some x → b i = true → ∀ j ∈ W.getD i [], b j = true := by
  intro m
  induction m with
  | zero =>
    intro i x hi hx hb j hj
    obtain ⟨e, he, h1, h2⟩ := ho.wait i x hx j hj
    have := ho.edge i x hx e he h1
    omega
  | succ m ih =>
    intro i x hi hx hb j hj
    obtain ⟨e, he, h1, h2⟩ := ho.wait i x hx j hj
    have hlt := ho.edge i x hx e he h1
    have hbe := hc i x hx hb e he h1
    rcases h2 with rfl | h2
    · exact hbe
    · have : e.on < ops.size := Nat.lt_trans hlt (Array.getElem?_eq_some_iff.1 hx).1
      exact ih e.on _ (by omega) (Array.getElem?_eq_getElem this) hbe j (memN_iff'.1 h2)
where
  memN_iff' {n : Nat} : ∀ {l : List Nat}, memN n l = true ↔ n ∈ l
  | [] => by simp [memN]
  | m :: r => by
    simp only [memN]
    split
    · rename_i e; have : n = m := by simpa using e
      simp [this]
    · rename_i e; have : n ≠ m := by simpa using e
      rw [memN_iff']; simp [this]
theorem draw_step [GZ T w0] (htok : TyOk P T) {W : List (List Nat)} (ho : OrdOk ops W) {tm : List V} {es : List Ent} {S0 : Nat → Prop}
    (hat : ∀ (i : Nat) (x : Oper), ops[i]? = some x → ∃ e, es[i]? = some e ∧ At P T w0 ops (tmB (fun j => decide (j < i)) 0 tm es) (hpB (fun j => decide (j < i)) 0 hp es) x e)
    (hlen : es.length = ops.size) (hap : apartF W 0 (es.map (·.f)) = true) {i : Nat} (hx : ops[i]? = some x) (hbi : b i = false)
    (hpre : ∀ j ∈ W.getD i [], b j = true) (hsuc : ∀ j, i ∈ W.getD j [] → j < ops.size → b j = false) {Q : Exit → Act → World → Prop} {K : Act → World → Prop}
    (hK : ∀ φ S a w, SLe w0.Z S0 S → Inv T w0 φ S (tmB (fun j => if j = i then true else b j) 0 tm es) (hpB (fun j => if j = i then true else b j) 0 hp es) a w → K a w)
    (hS : SLe w0.Z S0 S) (hi : Inv T w0 φ S (tmB b 0 tm es) (hpB b 0 hp es) a w) : wpOpIn (Fc w0.rd) 0 P ops Q i K a w := by
  obtain ⟨e, he, hA⟩ := hat i x hx
  have hin : i < ops.size := (Array.getElem?_eq_some_iff.1 hx).1
  have mem := @waits_in.memN_iff'
  -- another operation, and how it lies
  have other : ∀ (j : Nat) (f : Ent), es[j]? = some f → ∃ y, ops[j]? = some y ∧ At P T w0 ops (tmB (fun k => decide (k < j)) 0 tm es) (hpB (fun k => decide (k < j)) 0 hp es) y f := by
    intro j f hf
    have hj : j < ops.size := by rw [← hlen]; exact (List.getElem?_eq_some_iff.1 hf).1
    obtain ⟨f', h1, h2⟩ := hat j _ (Array.getElem?_eq_getElem hj)
    rw [hf] at h1; injection h1 with h1; subst h1
    exact ⟨_, Array.getElem?_eq_getElem hj, h2⟩
  have foot : ∀ (j : Nat) (f : Ent), es[j]? = some f → (es.map (·.f))[j]? = some f.f := fun j f hf => by rw [List.getElem?_map, hf]; rfl
  -- before it, and not listed
  have early : ∀ (j : Nat) (f : Ent) (y : Oper), es[j]? = some f → ops[j]? = some y → j < i → b j = false → y.apart ops x = true ∧ Free f.f e.f := by
    intro j f y hf hy hji hb
    have hn : memN j (W.getD i []) ≠ true := fun h => by rw [hpre j (mem.1 h)] at hb; cases hb
    refine ⟨(ho.apart i j x y hx hy hji).resolve_left hn, ?_⟩
    have := apartF_spec hap j i f.f e.f hji (foot j f hf) (foot i e he)
    simp only [Nat.zero_add] at this
    exact this.resolve_left hn
  -- behind it, and listed
  have late : ∀ (j : Nat) (f : Ent) (y : Oper), es[j]? = some f → ops[j]? = some y → i < j → b j = true → x.apart ops y = true ∧ Free e.f f.f := by
    intro j f y hf hy hij hb
    have hn : memN i (W.getD j []) ≠ true := fun h => by
      rw [hsuc j (mem.1 h) (Array.getElem?_eq_some_iff.1 hy).1] at hb; cases hb
    refine ⟨(ho.apart j i y x hy hx hij).resolve_left hn, ?_⟩
    have := apartF_spec hap i j e.f f.f hij (foot i e he) (foot j f hf)
    simp only [Nat.zero_add] at this
    exact this.resolve_left hn
  -- the slots that it looks at are as_ in the text's order
  have slot : ∀ t, t ∈ x.looksAt ops → (tmB b 0 tm es).getD t .dead = (tmB (fun j => decide (j < i)) 0 tm es).getD t .dead := by
    intro t ht
    refine tmB_congr rfl rfl (fun j f hf hd => ?_)
    simp only [Nat.zero_add]
    obtain ⟨y, hy, hAy⟩ := other j f hf
    have hyd : y.dst = some t := by rw [← hAy.1]; exact hd
    rcases Nat.lt_trichotomy j i with h | h | h
    · rw [decide_eq_true h]
      cases hb : b j with
      | true => rfl
      | false => exact absurd ht ((Oper.apart_spec (early j f y hf hy h hb).1).1 t hyd)
    · subst h
      rw [hbi]; simp
    · rw [decide_eq_false (by omega)]
      cases hb : b j with
      | false => rfl
      | true => exact absurd ht ((Oper.apart_spec (late j f y hf hy h hb).1).2.2 t hyd)
  -- so are the rows
  have row : ∀ n, (n ∈ e.f.rd ∨ n ∈ e.f.wr) → look (hpB (fun j => decide (j < i)) 0 hp es) n = look (hpB b 0 hp es) n := by
    intro n hn
    refine hpB_congr rfl (fun j f hf hd => ?_)
    simp only [Nat.zero_add]
    obtain ⟨y, hy, hAy⟩ := other j f hf
    have hw := wr_of hAy hd
    rcases Nat.lt_trichotomy j i with h | h | h
    · rw [decide_eq_true h]
      cases hb : b j with
      | true => rfl
      | false =>
        obtain ⟨g1, g2, g3⟩ := (early j f y hf hy h hb).2
        rcases hn with hn | hn
        · exact (meets_false g2 n hw hn).elim
        · exact (meets_false g1 n hw hn).elim
    · subst h
      rw [hbi]; simp
    · rw [decide_eq_false (by omega)]
      cases hb : b j with
      | false => rfl
      | true =>
        obtain ⟨g1, g2, g3⟩ := (late j f y hf hy h hb).2
        rcases hn with hn | hn
        · exact (meets_false g3 n hn hw).elim
        · exact (meets_false g1 n hn hw).elim
  have hev : ∀ o ∈ x.op.operands.toList, ev (tmB (fun j => decide (j < i)) 0 tm es) o = ev (tmB b 0 tm es) o := by
    intro o ho'
    cases o with
    | tmp t =>
      simp only [ev]
      refine (slot t ?_).symm
      unfold Oper.looksAt
      refine List.mem_append_left _ (List.mem_filterMap.2 ⟨.tmp t, ho', rfl⟩)
    | _ => rfl
  have hguard : ∀ {res}, GuardIs ops (tmB (fun j => decide (j < i)) 0 tm es) x res → GuardIs ops (tmB b 0 tm es) x res := by
    intro res hg
    unfold GuardIs at hg ⊢
    split at hg
    · exact hg
    · rename_i j want hgd
      obtain ⟨g, h1, h2⟩ := hg
      refine ⟨g, h1, ?_⟩
      rw [slot g ?_]
      · exact h2
      · unfold Oper.looksAt
        refine List.mem_append_right _ ?_
        rw [hgd]
        unfold guardT at h1
        simp [h1]
  -- what is told behind it
  have next : ∀ {φ S a w v E}, SLe w0.Z S0 S → e.v = v → e.E = E → Inv T w0 φ S (setD (tmB b 0 tm es) x.dst v) (E ++ hpB b 0 hp es) a w → K a w := by
    intro φ S a w v E hS hv hE hinv
    subst hv; subst hE
    refine hK φ S a w hS (hinv.congr (by rw [setD_length, tmB_length, tmB_length]) (fun t => ?_) (fun n => ?_))
    · rw [setD_get, tmB_length]
      split
      · rename_i hd
        refine (tmB_last he (by simp) (by rw [hA.1]; exact hd.1) hd.2 (fun j f hij hf hb => ?_)).symm
        simp only [Nat.zero_add] at hb
        rw [if_neg (by omega)] at hb
        obtain ⟨y, hy, hAy⟩ := other j f hf
        rw [hAy.1]
        exact (Oper.apart_spec (late j f y hf hy hij hb).1).2.1 t hd.1
      · rename_i hd
        by_cases hlt : t < tm.length
        · refine tmB_congr rfl rfl (fun j f hf hfd => ?_)
          simp only [Nat.zero_add]
          by_cases hji : j = i
          · subst hji
            rw [he] at hf; injection hf with hf; subst hf
            rw [hA.1] at hfd
            exact absurd ⟨hfd, hlt⟩ hd
          · rw [if_neg hji]
        · have e1 : ∀ (l : List V), l.length = tm.length → l.getD t .dead = .dead := fun l hl => by
            rw [List.getD_eq_getElem?_getD, List.getElem?_eq_none (by omega)]; rfl
          rw [e1 _ tmB_length, e1 _ tmB_length]
    · rw [look_app]
      cases hl : look e.E n with
      | some c =>
        refine (hpB_last he (by simp) hl (fun j f hij hf hb => ?_)).symm
        simp only [Nat.zero_add] at hb
        rw [if_neg (by omega)] at hb
        obtain ⟨y, hy, hAy⟩ := other j f hf
        cases hq : look f.E n with
        | none => rfl
        | some d =>
          exact (meets_false (late j f y hf hy hij hb).2.1 n (wr_of hA (by rw [hl]; simp)) (wr_of hAy (by rw [hq]; simp))).elim
      | none =>
        refine hpB_congr rfl (fun j f hf hfd => ?_)
        simp only [Nat.zero_add]
        by_cases hji : j = i
        · subst hji
          rw [he] at hf; injection hf with hf; subst hf
          exact absurd hl hfd
        · rw [if_neg hji]
  unfold wpOpIn
  rw [hx]
  simp only
  rcases hA.2 with ⟨g1, g2, g3⟩ | ⟨g1, g2, g3⟩
  · rw [wanted_of hi (hguard g1), if_pos rfl]
    have hfr : ∀ n, n ∈ e.f.rd ↔ ∃ o ∈ x.op.operands.toList, n ∈ names (ev (tmB (fun j => decide (j < i)) 0 tm es) o) := by
      intro n
      rw [g3]
      simp only [footOf, List.mem_flatten, List.mem_map]
      constructor
      · rintro ⟨l, ⟨o, h1, rfl⟩, h2⟩; exact ⟨o, h1, h2⟩
      · rintro ⟨o, h1, h2⟩; exact ⟨_, ⟨o, h1, rfl⟩, h2⟩
    have hres : Res P T (opF (real P T w0) T (tmB b 0 tm es) (hpB b 0 hp es) x) e.v e.E := by
      rw [← opF_tm hev]
      refine opF_congr (N := fun n => n ∈ e.f.rd ∨ n ∈ e.f.wr) row (fun o ho' n hn => .inl ((hfr n).2 ⟨o, ho', hn⟩)) (fun p hp => .inr ?_) g2
      rw [g3]
      exact List.mem_map.2 ⟨p, hp, rfl⟩
    refine opF_ok htok hi hres _ _ _ (fun xv w' hL => ?_)
    obtain ⟨φ', S', e1, e2⟩ := hL
    exact next (hS.trans e1.sle) rfl rfl (hi.step e1 e2)
  · rw [wanted_of hi (hguard g1), if_neg (by simp)]
    refine ⟨fun _ _ => trivial, ?_⟩
    exact next (E := []) hS g2 g3 (hi.step (Ext.refl hi.since hi.heap) (by simp only [rel, relL]; exact ⟨#[], rfl, rfl⟩))
theorem draw_any [GZ T w0] (htok : TyOk P T) {W : List (List Nat)} (ho : OrdOk ops W) {tm : List V} {es : List Ent} {S0 : Nat → Prop} {Q : Exit → Act → World → Prop}
    (hat : ∀ (i : Nat) (x : Oper), ops[i]? = some x → ∃ e, es[i]? = some e ∧ At P T w0 ops (tmB (fun j => decide (j < i)) 0 tm es) (hpB (fun j => decide (j < i)) 0 hp es) x e)
    (hlen : es.length = ops.size) (hap : apartF W 0 (es.map (·.f)) = true)
    (hend : ∀ b φ S a w, (∀ j, j < ops.size → b j = true) → SLe w0.Z S0 S → Inv T w0 φ S (tmB b 0 tm es) (hpB b 0 hp es) a w → Q .normal a w) :
    ∀ (fuel : Nat) (listed : Array Bool) (φ : Nat → Option Loc) (S : Nat → Prop) (a : Act) (w : World), listed.size = ops.size → unl listed.toList ≤ fuel → Cl ops (fun j => listed.getD j false) → SLe w0.Z S0 S →
      Inv T w0 φ S (tmB (fun j => listed.getD j false) 0 tm es) (hpB (fun j => listed.getD j false) 0 hp es) a w → wpAnyIn (Fc w0.rd) 0 P .any ops Q fuel listed a w := by
  have mem := @waits_in.memN_iff'
  have gd : ∀ {l : Array Bool} {i : Nat} {d : Bool}, i < l.size → l.getD i d = l.getD i false := by
    intro l i d h
    simp [Array.getD, h]
  have rdy : ∀ {l : Array Bool} {i : Nat}, l.size = ops.size → (i ∈ Region.ready .any ops l ↔ ∃ x, ops[i]? = some x ∧ l.getD i false = false ∧ ∀ e ∈ x.after.toList, Region.binds .any e = true → l.getD e.on false = true) := by
    intro l i hl
    unfold Region.ready
    rw [List.mem_filter, List.mem_range]
    constructor
    · rintro ⟨h1, h2⟩
      simp only [Bool.and_eq_true, Bool.not_eq_true'] at h2
      rw [Array.getElem?_eq_getElem h1] at h2
      refine ⟨_, Array.getElem?_eq_getElem h1, by rw [← gd (d := true) (by omega)]; exact h2.1, fun e he hb => ?_⟩
      have := h2.2
      simp only [Option.map_some, Option.getD_some] at this
      rw [Array.all_eq_true'] at this
      have := this e (by simpa using he)
      simpa [hb] using this
    · rintro ⟨x, h1, h2, h3⟩
      have hi := (Array.getElem?_eq_some_iff.1 h1).1
      refine ⟨hi, ?_⟩
      rw [gd (d := true) (by omega), h2, h1]
      simp only [Bool.not_false, Bool.true_and, Option.map_some, Option.getD_some]
      rw [Array.all_eq_true']
      intro e he
      cases hb : Region.binds .any e with
      | false => rfl
      | true => simpa using h3 e (by simpa using he) hb
  have all : ∀ {l : Array Bool}, l.size = ops.size → Region.ready .any ops l = [] → ∀ j, j < ops.size → l.getD j false = true := by
    intro l hl hr j
    induction j using Nat.strongRecOn with
    | _ j ih =>
      intro hj
      cases hb : l.getD j false with
      | true => rfl
      | false =>
        exfalso
        have : j ∈ Region.ready .any ops l := (rdy hl).2 ⟨_, Array.getElem?_eq_getElem hj, hb, fun e he hbi => by
          have := ho.edge j _ (Array.getElem?_eq_getElem hj) e he hbi
          exact ih e.on this (by omega)⟩
        rw [hr] at this
        cases this
  intro fuel
  induction fuel with
  | zero =>
    intro listed φ S a w hl hf hc hS hi
    have hall : ∀ j, j < ops.size → listed.getD j false = true := fun j hj => by
      have h1 : listed.toList[j]? = some (listed.getD j false) := by
        rw [Array.getElem?_toList, Array.getElem?_eq_getElem (by omega)]
        simp [Array.getD, show j < listed.size from by omega]
      exact unl_zero (by omega) j _ h1
    refine ⟨?_, hend _ φ S a w hall hS hi⟩
    cases hr : Region.ready .any ops listed with
    | nil => rfl
    | cons i r =>
      have : i ∈ Region.ready .any ops listed := by rw [hr]; simp
      obtain ⟨x, h1, h2, _⟩ := (rdy hl).1 this
      rw [hall i (Array.getElem?_eq_some_iff.1 h1).1] at h2
      cases h2
  | succ fuel ih =>
    intro listed φ S a w hl hf hc hS hi
    refine ⟨fun hr => hend _ φ S a w (all hl hr) hS hi, fun i hir => ?_⟩
    obtain ⟨x, hx, hb, hpre⟩ := (rdy hl).1 hir
    have hin : i < ops.size := (Array.getElem?_eq_some_iff.1 hx).1
    have hset : ∀ j, (listed.setIfInBounds i true).getD j false = if j = i then true else listed.getD j false := by
      intro j
      simp only [Array.getD_eq_getD_getElem?, Array.getElem?_setIfInBounds]
      by_cases h : j = i
      · subst h
        simp [show j < listed.size from by omega]
      · rw [if_neg (fun e => h e.symm), if_neg h]
    refine draw_step htok ho hat hlen hap hx hb (fun j hj => ?_) (fun j hj hjn => ?_) (fun φ S a w hS hi => ?_) hS hi
    · obtain ⟨e, he, h1, h2⟩ := ho.wait i x hx j hj
      have hbe := hpre e he h1
      rcases h2 with rfl | h2
      · exact hbe
      · have : e.on < ops.size := Nat.lt_trans (ho.edge i x hx e he h1) hin
        exact waits_in ho hc e.on e.on _ (Nat.le_refl _) (Array.getElem?_eq_getElem this) hbe j (mem.1 h2)
    · cases hbj : listed.getD j false with
      | false => rfl
      | true =>
        have := waits_in ho hc j j _ (Nat.le_refl _) (Array.getElem?_eq_getElem hjn) hbj i hj
        rw [hb] at this
        cases this
    · refine ih _ φ S a w (by simp [hl]) ?_ ?_ hS ?_
      · have h1 : listed.toList[i]? = some false := by
          rw [Array.getElem?_toList, Array.getElem?_eq_getElem (by omega)]
          have := hb
          simp only [Array.getD, show i < listed.size from by omega, dif_pos] at this
          simpa using this
        have := unl_set h1
        simp only [Array.toList_setIfInBounds]
        omega
      · intro j y hy hbj e he hbe
        have hbj : (listed.setIfInBounds i true).getD j false = true := hbj
        show (listed.setIfInBounds i true).getD e.on false = true
        rw [hset] at hbj ⊢
        by_cases hji : j = i
        · subst hji
          rw [hx] at hy; injection hy with hy; subst hy
          have := hpre e he hbe
          split
          · rfl
          · exact this
        · rw [if_neg hji] at hbj
          have := hc j y hy hbj e he hbe
          split
          · rfl
          · exact this
      · rw [show (fun j => (listed.setIfInBounds i true).getD j false) = fun j => if j = i then true else listed.getD j false from funext hset]
        exact hi
theorem draw_ok [GZ T w0] (htok : TyOk P T) {W : List (List Nat)} (hord : ordOk ops W = true) {K : List V → Hp → Prop} {id : Nat} {tm : List V} (h : runOps (real P T w0) T ops W true K ops.toList [] [] tm hp) (hi : Inv T w0 φ S tm hp a w) :
    (Code.region id ops true).wpIn (Fc w0.rd) 0 P (Post T w0 S fun e tm hp => e = .normal ∧ K tm hp) a w := by
  obtain ⟨es, tm', hp', as', h1, h2, h3, h4⟩ := trace_of h (fun p hp => by cases hp)
  have hap := h4 rfl
  simp only [List.reverse_nil, List.nil_append] at hap
  obtain ⟨t1, t2, t3⟩ := trace_at (k := 0) h1
  have hf : ∀ j, (Array.replicate ops.size false).getD j false = false := fun j => by
    simp only [Array.getD_eq_getD_getElem?, Array.getElem?_replicate]
    split <;> rfl
  refine wpIn_region_any htok.mixed (draw_any (w0 := w0) (S0 := S) htok (ordOk_spec hord) (es := es) (tm := tm) (hp := hp) (fun i x hx => ?_) (by simpa using t1) hap (fun b φ' S' a' w' hb hS hi' => ?_) ops.size _ φ S a _ (by simp) ?_ (fun i x hx hb => ?_) SLe.refl ?_)
  · obtain ⟨e, e1, e2⟩ := t2 i x (by simpa using hx)
    exact ⟨e, e1, by simpa using e2⟩
  · obtain ⟨k1, k2⟩ := t3 b (fun j hj => by rw [Nat.zero_add]; exact hb j (by simpa using hj))
    rw [← k1, ← k2] at hi'
    exact ⟨φ', S', _, _, hS, hi'.retell h2, ⟨rfl, h3⟩, trivial⟩
  · have : ∀ n, unl (List.replicate n false) = n := fun n => by
      induction n with
      | zero => rfl
      | succ n ih => simp [List.replicate_succ, unl, ih, Nat.add_comm]
    simp [this]
  · simp only [hf] at hb; cases hb
  · rw [show (fun j => (Array.replicate ops.size false).getD j false) = fun _ => false from funext hf, tmB_none (fun _ _ => rfl), hpB_none (fun _ _ => rfl)]
    exact ⟨hi.since.drew, hi.size, fun t => rel_mono (w := w) (w' := w.drew) (S := S) (S' := S) (LocLe.refl φ) (fun _ _ => rfl) (fun _ h => h) _ _ (hi.tms t), hi.dfr, hi.heap.drew, hi.anc⟩
end
end Go.Ab
end
section
namespace Go.Ab
open Go.RowKit
section
variable {P : Program} {T : Tr} {w0 : Base} {φ φ' φ2 : Nat → Option Loc} {w w' : World} {S S' S2 : Nat → Prop} {v : V} {hp : Hp} {b0 : Nat → Prop} {x : Oper} {a : Act} {ops : Array Oper}
theorem region_ok [GZ T w0] (htok : TyOk P T) {W : List (List Nat)} {K : List V → Hp → Prop} {id : Nat} {draw : Bool} {tm : List V} (hord : draw = true → ordOk ops W = true) (h : runOps (real P T w0) T ops W draw K ops.toList [] [] tm hp) (hi : Inv T w0 φ S tm hp a w) :
    (Code.region id ops draw).wpIn (Fc w0.rd) 0 P (Post T w0 S fun e tm hp => e = .normal ∧ K tm hp) a w := by
  cases draw with
  | true => exact draw_ok htok (hord rfl) h hi
  | false =>
    obtain ⟨es, tm', hp', as', h1, h2, h3, _⟩ := trace_of h (fun p hp => by cases hp)
    refine wpIn_region ?_
    have := seq_ok (k := 0) (S0 := S) (Q := Post T w0 S fun e tm hp => e = .normal ∧ K tm hp) htok h1 (fun j => by simp) (fun φ' S' a' w' hS hi' => ⟨φ', S', _, _, hS, hi'.retell h2, ⟨rfl, h3⟩, trivial⟩) SLe.refl hi
    rwa [Array.length_toList, ← List.range_eq_range'] at this
def codeOk (W : Nat → List (List Nat)) : Code → Bool
  | .region id ops draw => match draw with
    | true => ordOk ops (W id)
    | false => true
  | .seq x y => codeOk W x && codeOk W y
  | .cond _ x y => codeOk W x && codeOk W y
  | .block _ x => codeOk W x
  | .loop x => codeOk W x
  | _ => true
theorem Post.weaken {S0 S1 : Nat → Prop} {K K' : Exit → List V → Hp → Prop} {e : Exit} (h : Post T w0 S1 K e a w) (hS : SLe w0.Z S0 S1) (hK : ∀ tm hp, K e tm hp → K' e tm hp) : Post T w0 S0 K' e a w := by
  obtain ⟨φ, S, tm, hp, h1, h2, h3, h4⟩ := h
  exact ⟨φ, S, tm, hp, hS.trans h1, h2, hK _ _ h3, h4⟩
theorem vc_ok [GZ T w0] (htok : TyOk P T) {W : Nat → List (List Nat)} : ∀ (c : Code) {K : Exit → List V → Hp → Prop} {tm : List V} {hp : Hp}, codeOk W c = true → vc (real P T w0) T W c K tm hp → Sat P T w0 c K tm hp
  | .skip, K, tm, hp, ho, h => fun φ S a w hi => wpIn_skip ⟨φ, S, tm, hp, SLe.refl, hi, h, trivial⟩
  | .region id ops draw, K, tm, hp, ho, h => fun φ S a w hi =>
    wpIn_mono (region_ok htok (fun hd => by subst hd; exact ho) h hi) (fun e a w hp => hp.weaken SLe.refl (fun tm hp hk => by obtain ⟨rfl, hk⟩ := hk; exact hk))
  | .seq x y, K, tm, hp, ho, h => fun φ S a w hi => by
    simp only [codeOk, Bool.and_eq_true] at ho
    simp only [vc] at h
    split at h
    · exact h φ S a w hi
    · refine wpIn_seq (wpIn_mono (vc_ok htok x ho.1 h φ S a w hi) (fun e a' w' hp => ?_))
      obtain ⟨φ', S', tm', hp', h1, h2, h3, h4⟩ := hp
      cases e with
      | normal => exact wpIn_mono (vc_ok htok y ho.2 h3 φ' S' a' w' h2) (fun e a w hp => hp.weaken h1 (fun _ _ h => h))
      | exit i => exact ⟨φ', S', tm', hp', h1, h2, h3, h4⟩
      | ret => exact ⟨φ', S', tm', hp', h1, h2, h3, h4⟩
      | _ => exact h4.elim
  | .cond c x y, K, tm, hp, ho, h => fun φ S a w hi => by
    simp only [codeOk, Bool.and_eq_true] at ho
    have hr := ev_rel hi c
    simp only [vc] at h
    split at h
    · rename_i e
      exact wpIn_cond_true (asB_lit e hr) (vc_ok htok x ho.1 h φ S a w hi)
    · rename_i e
      exact wpIn_cond_false (asB_lit e hr) (vc_ok htok y ho.2 h φ S a w hi)
    · rename_i cb e
      have tell : ∀ {b}, cb = b → Inv T w0 φ S (condT tm c b) hp a w := by
        intro b hb
        subst hb
        cases c with
        | tmp t => exact hi.retell1 (by simp only [ev] at e; rw [e]; rfl)
        | _ => exact hi
      refine wpIn_cond_split (asB_sym e hr) (fun hb => ?_) (fun hb => ?_)
      · exact vc_ok htok x ho.1 (h.1 hb) φ S a w (tell hb)
      · exact vc_ok htok y ho.2 (h.2 hb) φ S a w (tell hb)
    · split at h
      · rename_i g es e
        have hq := hr
        rw [e] at hq
        simp only [rel] at hq
        obtain ⟨bb, hx, hbg⟩ := hq
        have tell : ∀ {b}, bb = b → Inv T w0 φ S (condT tm c b) hp a w := by
          intro b hb
          subst hb
          cases c with
          | tmp t =>
            refine ⟨hi.since, by simp [condT, hi.size], fun u => ?_, hi.dfr, hi.heap, hi.anc⟩
            simp only [condT]
            rw [getD_set]
            split
            · rename_i hu
              rw [← hu.1]
              have hx' : a.tmps.getD t undef = .bool bb := hx
              rw [hx']
              exact rel_sb bb
            · exact hi.tms u
          | _ => exact hi
        cases g with
        | true =>
          refine wpIn_cond_split hx (fun hb => ?_) (fun hb => ?_)
          · exact vc_ok htok x ho.1 (h.1 (hbg hb)) φ S a w (tell hb)
          · exact vc_ok htok y ho.2 h.2 φ S a w (tell hb)
        | false =>
          refine wpIn_cond_split hx (fun hb => ?_) (fun hb => ?_)
          · exact vc_ok htok x ho.1 h.2 φ S a w (tell hb)
          · exact vc_ok htok y ho.2 (h.1 (hbg hb)) φ S a w (tell hb)
      · exact h.elim
  | .block id b, K, tm, hp, ho, h => fun φ S a w hi => by
    refine wpIn_block (wpIn_mono (vc_ok htok b ho h φ S a w hi) (fun e a' w' hp => ?_))
    obtain ⟨φ', S', tm', hp', h1, h2, h3, h4⟩ := hp
    cases e with
    | normal => exact ⟨φ', S', tm', hp', h1, h2, h3, h4⟩
    | exit i =>
      simp only at h3
      simp only [Exit.inBlock]
      split at h3
      · rename_i e
        rw [if_pos (by simpa using e)]
        exact ⟨φ', S', tm', hp', h1, h2, h3, trivial⟩
      · rename_i e
        rw [if_neg (by simpa using e)]
        exact ⟨φ', S', tm', hp', h1, h2, h3, trivial⟩
    | ret => exact ⟨φ', S', tm', hp', h1, h2, h3, h4⟩
    | _ => exact h4.elim
  | .loop b, K, tm, hp, _, h => h
  | .exit id, K, tm, hp, ho, h => fun φ S a w hi => wpIn_exit ⟨φ, S, tm, hp, SLe.refl, hi, h, trivial⟩
  | .ret, K, tm, hp, ho, h => fun φ S a w hi => wpIn_ret ⟨φ, S, tm, hp, SLe.refl, hi, h, trivial⟩
  | .label _, _, _, _, _, h => h.elim
  | .rangeFunc _ _ _ _, _, _, _, _, h => h.elim
  | .scope _, _, _, _, _, h => h.elim
  | .goto _, _, _, _, _, h => h.elim
  | .refuse _, _, _, _, _, h => h.elim
end
end Go.Ab
end
section
namespace Go.Ab
open Go.RowKit
section
variable {P : Program} {T : Tr} {w0 : Base} {φ φ' φ2 : Nat → Option Loc} {w w' : World} {S S' S2 : Nat → Prop} {v : V} {hp : Hp} {b0 : Nat → Prop} {x : Value} {a : Act} {ops : Array Oper}
structure Held (T : Tr) (φ φ' : Nat → Option Loc) (b0 : Nat → Prop) (w : World) (S : Nat → Prop) (hp h : Hp) : Prop where
  left : HOk T φ b0 w S hp
  gave : HOk T φ' b0 w S h
  apart : ∀ n m b c l k B, look hp n = some b → look h m = some c → b.own = true → c.own = true → φ n = some l → φ' m = some k → l.blk = some B → k.blk ≠ some B
theorem Held.nil (hh : HOk T φ b0 w S hp) : Held T φ (fun _ => none) b0 w S hp [] :=
  ⟨hh, ⟨fun n => (by simp [look]), fun n b h => (by cases h), fun n b l B h => (by cases h), fun n m b c l k B h => (by cases h), hh.old⟩, fun n m b c l k B _ h => (by cases h)⟩
theorem HOk.moreS {h : Hp} (hh : HOk T φ b0 w S h) (hS : ∀ k, S k → S' k) (hold : ∀ k, S' k → k < w.heap.size) (hown : ∀ n b l B, look h n = some b → b.own = true → φ n = some l → l.blk = some B → ¬ S' B) : HOk T φ b0 w S' h :=
  ⟨hh.dom, fun n b hb => (hh.blk n b hb).mono (LocLe.refl _) (fun _ _ => rfl) hS (fun _ _ _ _ _ => rfl), fun n b l B hb ho hl hB => ⟨(hh.own n b l B hb ho hl hB).1, (hh.own n b l B hb ho hl hB).2.1, hown n b l B hb ho hl hB⟩, hh.inj, hold⟩
theorem Held.freeze {h : Hp} {n et : Nat} {es : List V} (k : Held T φ φ' b0 w S hp h) (hl : look hp n = some (.row et es)) : ∃ S', SLe b0 S S' ∧ Held T φ φ' b0 w S' ((n, .ro et es) :: hp) h := by
  obtain ⟨S', s1, s2, s3⟩ := k.left.freeze hl
  refine ⟨S', ⟨s1, fun i hi => (s3 i hi).imp (fun h => h) (fun ⟨l, h1, h2⟩ => (k.left.own n _ l i hl rfl h1 h2).1)⟩, s2, k.gave.moreS s1 s2.old (fun m b l B hb ho hl' hB hS => ?_), fun m m' b c l l' B hm hm' hb hc hl1 hl2 hB1 hB2 => ?_⟩
  · rcases s3 B hS with hS | ⟨l', h1, h2⟩
    · exact (k.gave.own m b l B hb ho hl' hB).2.2 hS
    · exact k.apart n m _ b l' l B hl hb rfl ho h1 hl' h2 hB
  · rw [look_cons] at hm
    split at hm
    · injection hm with hm; subst hm; cases hb
    · exact k.apart m m' b c l l' B hm hm' hb hc hl1 hl2 hB1 hB2
theorem Held.freezeM {h : Hp} {n t : Nat} {L : List (Value × Value)} (q : Held T φ φ' b0 w S hp h) (hl : look hp n = some (.mb t L)) : ∃ S', SLe b0 S S' ∧ Held T φ φ' b0 w S' ((n, .gone) :: hp) h ∧ ∀ B, φ n = some (.box B) → S' B := by
  obtain ⟨B, es, c, g1, g2, g3⟩ := q.left.blk n _ hl
  obtain ⟨o1, o2, o3⟩ := q.left.own n _ _ B hl rfl g1 rfl
  have s2 : HOk T φ b0 w (fun k => S k ∨ k = B) ((n, .gone) :: hp) := by
    refine q.left.cons (LocLe.refl _) (fun _ _ => rfl) (by rw [g1]; simp) (fun _ _ => rfl) (fun k hk => .inl hk) (fun m c' l B' hm hc hc2 hl2 hB => ⟨rfl, fun hS => ?_⟩) (Nat.le_refl _) trivial (fun e => by cases e) (fun k hk => ?_)
    · rcases hS with hS | hS
      · exact (q.left.own m c' l B' hc hc2 hl2 hB).2.2 hS
      · subst hS; exact hm (q.left.inj m n c' _ l _ B' hc hl hc2 rfl hl2 g1 hB rfl)
    · rcases hk with hk | hk
      · exact q.left.old _ hk
      · subst hk; exact o2
  refine ⟨fun k => S k ∨ k = B, ⟨fun k hk => .inl hk, fun i hi => hi.imp (fun h => h) (fun h => by subst h; exact o1)⟩, ⟨s2, q.gave.moreS (fun k hk => .inl hk) s2.old (fun m b l B' hb ho hl' hB hS => ?_), fun m m' b c' l l' B' hm hm' hb hc hl1 hl2 hB1 hB2 => ?_⟩, fun B' hB' => by rw [g1] at hB'; injection hB' with hB'; injection hB' with hB'; exact .inr hB'.symm⟩
  · rcases hS with hS | hS
    · exact (q.gave.own m b l B' hb ho hl' hB).2.2 hS
    · subst hS
      exact q.apart n m _ b _ l B' hl hb rfl ho g1 hl' rfl hB
  · rw [look_cons] at hm
    split at hm
    · injection hm with hm; subst hm; cases hb
    · exact q.apart m m' b c' l l' B' hm hm' hb hc hl1 hl2 hB1 hB2
theorem Held.give {h : Hp} {n et q : Nat} {es : List V} (k : Held T φ φ' b0 w S hp h) (hl : look hp n = some (.row et es)) (hq : look h q = none) : ∃ φ2, LocLe φ' φ2 ∧ φ2 q = φ n ∧ Held T φ φ2 b0 w S ((n, .gone) :: hp) ((q, .row et es) :: h) := by
  have hφq : φ' q = none := (k.gave.dom q).2 hq
  have hne : φ n ≠ none := fun e => by rw [(k.left.dom n).1 e] at hl; cases hl
  obtain ⟨l, hφ⟩ := Option.ne_none_iff_exists'.1 hne
  have hself : upd φ' q l q = some l := upd_self
  refine ⟨upd φ' q l, upd_le hφq, by rw [hself, hφ], k.left.drop hl rfl trivial, ?_, fun m m' b c l1 l2 B hm hm' hb hc hl1 hl2 hB1 hB2 => ?_⟩
  · refine k.gave.cons (upd_le hφq) (fun m hm => upd_ne hm) (by rw [hself]; simp) (fun _ _ => rfl) (fun _ h => h) (fun m c l' B hm hc hc2 hl' hB => ⟨rfl, (k.gave.own m c l' B hc hc2 hl' hB).2.2⟩) (Nat.le_refl _) ?_ (fun _ l' B hl' hB => ?_) k.gave.old
    · obtain ⟨hw, e, he, hz, hb⟩ := k.left.blk n _ hl
      refine ⟨hw, e, he, hz, ?_⟩
      rcases hb with ⟨B, off, room, arr, h1, h2, h3, h4, h5, h6⟩ | ⟨h1, h2⟩
      · refine .inl ⟨B, off, room, arr, by rw [hself, ← hφ]; exact h1, h2, h3, h4, h5, fun j c hj => ?_⟩
        obtain ⟨y, y1, y2⟩ := h6 j c hj
        exact ⟨y, wt_free c et y (wtL_iff.1 hw c (List.mem_of_getElem? hj)) y1, y2⟩
      · exact .inr ⟨by rw [hself, ← hφ]; exact h1, h2⟩
    · rw [hself] at hl'; injection hl' with hl'; subst hl'
      obtain ⟨o1, o2, o3⟩ := k.left.own n _ l B hl rfl hφ hB
      exact ⟨o1, o2, o3, fun m c l2 hm hc hc2 hl2 hB2 => k.apart n m _ c l l2 B hl hc rfl hc2 hφ hl2 hB hB2⟩
  · rw [look_cons] at hm hm'
    split at hm
    · injection hm with hm; subst hm; cases hb
    · rename_i hnm
      split at hm'
      · rename_i hqm
        subst hqm
        injection hm' with hm'; subst hm'
        rw [hself] at hl2; injection hl2 with hl2; subst hl2
        exact hnm (k.left.inj m n b _ l1 l B hm hl hb rfl hl1 hφ hB1 hB2).symm
      · rename_i hqm
        rw [upd_ne (fun e => hqm e.symm)] at hl2
        exact k.apart m m' b c l1 l2 B hm hm' hb hc hl1 hl2 hB1 hB2
def Below' (k : Nat) (h : Hp) : Prop := ∀ n, k ≤ n → look h n = none
theorem closeS_ok {k : Nat} {h E h' : Hp} {v' : V} (hd : Held T φ φ' b0 w S hp h) (hk : Below' k h) (hr : rel T φ w S v x) (hc : closeS (real P T w0) k hp v = some (v', E, h')) :
    ∃ φ2 S2, LocLe φ' φ2 ∧ SLe b0 S S2 ∧ Held T φ φ2 b0 w S2 (E ++ hp) (h' ++ h) ∧ Below' (k + h'.length) (h' ++ h) ∧ rel T φ2 w S2 v' x := by
  have same : ∀ {v'}, (∀ ψ : Nat → Option Loc, rel T ψ w S v' x) → ∃ φ2 S2, LocLe φ' φ2 ∧ SLe b0 S S2 ∧ Held T φ φ2 b0 w S2 hp h ∧ Below' k h ∧ rel T φ2 w S2 v' x :=
    fun h => ⟨φ', S, LocLe.refl _, SLe.refl, hd, hk, h φ'⟩
  have free : ∀ {et es}, rel T φ w S (.sl et es) x → ∀ ψ : Nat → Option Loc, rel T ψ w S (.sl et es) x := by
    intro et es hr ψ
    simp only [rel] at hr ⊢
    obtain ⟨A, cap, h1, h2, h3, h5, h6⟩ := hr
    refine ⟨A, cap, h1, h2, h3, h5, fun hne => ?_⟩
    obtain ⟨ad, e, ha, hl, hz, hs, he⟩ := h6 hne
    exact ⟨ad, e, ha, hl, hz, hs, wtL_free es et 0 ad e.size h5 he⟩
  cases v with
  | row n =>
    simp only [closeS] at hc
    split at hc
    · rename_i et es hl
      injection hc with hc; injection hc with e1 hc; injection hc with e2 e3
      subst e1; subst e2; subst e3
      obtain ⟨φ2, l1, l2, l3⟩ := hd.give hl (hk k (Nat.le_refl _))
      refine ⟨φ2, S, l1, SLe.refl, l3, fun n hn => ?_, ?_⟩
      · simp only [List.length_singleton] at hn
        rw [List.singleton_append, look_cons, if_neg (by omega)]
        exact hk n (by omega)
      · simp only [rel] at hr ⊢
        rw [l2]
        exact hr
    · rename_i et es hl
      injection hc with hc; injection hc with e1 hc; injection hc with e2 e3
      subst e1; subst e2; subst e3
      obtain ⟨hw, e, he, hz, hb⟩ := ro_form hd.left hl
      exact same (free (row_sl he hz hw (ro_S hd.left hl) hb hr))
    · cases hc
  | rowp n lo ln =>
    simp only [closeS] at hc
    have go : ∀ {hp : Hp} {S : Nat → Prop} {et es}, HOk T φ b0 w S hp → look hp n = some (.ro et es) → rel T φ w S (.rowp n lo ln) x → rel T φ w S (.sl et ((real P T w0).sub es lo ((real P T w0).pl lo ln))) x := by
      intro hp S et es hh hl hr
      have := expS_ok (P := P) (w0 := w0) hh hr
      simp only [expS, hl] at this
      refine rel_mono (LocLe.refl _) (fun _ _ => rfl) (fun i hi => ?_) _ _ this
      rcases hi with hi | ⟨n', hn', l, h1, h2⟩
      · exact hi
      · simp only [rowsS, List.mem_singleton] at hn'
        subst hn'
        exact ro_S hh hl l i h1 h2
    split at hc
    · rename_i et es hl
      injection hc with hc; injection hc with e1 hc; injection hc with e2 e3
      subst e1; subst e2; subst e3
      obtain ⟨S2, s1, s2⟩ := hd.freeze hl
      refine ⟨φ', S2, LocLe.refl _, s1, s2, hk, ?_⟩
      have hr2 := rel_mono (LocLe.refl φ) (fun _ _ => rfl) s1.1 _ _ hr
      have := go s2.left (by rw [look_cons, if_pos rfl]) hr2
      simp only [rel] at this ⊢
      obtain ⟨A, cap, h1, h2, h3, h5, h6⟩ := this
      refine ⟨A, cap, h1, h2, h3, h5, fun hne => ?_⟩
      obtain ⟨ad, e, ha, hl, hz, hs, he⟩ := h6 hne
      exact ⟨ad, e, ha, hl, hz, hs, wtL_free _ et 0 ad e.size h5 he⟩
    · rename_i et es hl
      injection hc with hc; injection hc with e1 hc; injection hc with e2 e3
      subst e1; subst e2; subst e3
      exact same (free (go hd.left hl hr))
    · cases hc
  | mrow n =>
    simp only [closeS] at hc
    split at hc
    · rename_i t L hl
      injection hc with hc; injection hc with e1 hc; injection hc with e2 e3
      subst e1; subst e2; subst e3
      obtain ⟨S2, s1, s2, s3⟩ := hd.freezeM hl
      refine ⟨φ', S2, LocLe.refl _, s1, s2, hk, ?_⟩
      simp only [rel] at hr ⊢
      obtain ⟨B, h1, rfl⟩ := hr
      obtain ⟨B', es, c, g1, g2, g3⟩ := hd.left.blk n _ hl
      rw [h1] at g1; injection g1 with g1; injection g1 with g1; subst g1
      exact ⟨B, es, c, rfl, s3 B h1, g2, g3⟩
    · cases hc
  | ptr _ _ => cases hc
  | ep _ _ _ => cases hc
  | rp _ _ _ _ => cases hc
  | agg _ => cases hc
  | bs _ _ _ _ => cases hc
  | tup _ => cases hc
  | s _ => simp only [closeS] at hc; injection hc with hc; injection hc with e1 hc; injection hc with e2 e3; subst e1; subst e2; subst e3; exact same (fun ψ => by simpa only [rel] using hr)
  | i _ _ => simp only [closeS] at hc; injection hc with hc; injection hc with e1 hc; injection hc with e2 e3; subst e1; subst e2; subst e3; exact same (fun ψ => by simpa only [rel] using hr)
  | b _ => simp only [closeS] at hc; injection hc with hc; injection hc with e1 hc; injection hc with e2 e3; subst e1; subst e2; subst e3; exact same (fun ψ => by simpa only [rel] using hr)
  | str _ => simp only [closeS] at hc; injection hc with hc; injection hc with e1 hc; injection hc with e2 e3; subst e1; subst e2; subst e3; exact same (fun ψ => by simpa only [rel] using hr)
  | nil => simp only [closeS] at hc; injection hc with hc; injection hc with e1 hc; injection hc with e2 e3; subst e1; subst e2; subst e3; exact same (fun ψ => by simpa only [rel] using hr)
  | nlq _ _ => cases hc
  | fn f fs cs =>
    simp only [closeS] at hc
    split at hc
    · injection hc with hc; injection hc with e1 hc; injection hc with e2 e3; subst e1; subst e2; subst e3
      exact same (fun ψ => by simpa only [rel, relL] using hr)
    · cases hc
  | mp _ _ => simp only [closeS] at hc; injection hc with hc; injection hc with e1 hc; injection hc with e2 e3; subst e1; subst e2; subst e3; exact same (fun ψ => by simpa only [rel] using hr)
  | dead => simp only [closeS] at hc; injection hc with hc; injection hc with e1 hc; injection hc with e2 e3; subst e1; subst e2; subst e3; exact same (fun ψ => by simp only [rel])
  | sl et es => simp only [closeS] at hc; injection hc with hc; injection hc with e1 hc; injection hc with e2 e3; subst e1; subst e2; subst e3; exact same (free hr)
theorem closeL_ok : ∀ {vs : List V} {k : Nat} {hp h E h' : Hp} {vs' : List V} {xs : List Value} {φ' : Nat → Option Loc} {S : Nat → Prop}, Held T φ φ' b0 w S hp h → Below' k h → relL T φ w S vs xs → closeL (real P T w0) k hp vs = some (vs', E, h') →
    ∃ φ2 S2, LocLe φ' φ2 ∧ SLe b0 S S2 ∧ Held T φ φ2 b0 w S2 (E ++ hp) (h' ++ h) ∧ Below' (k + h'.length) (h' ++ h) ∧ relL T φ2 w S2 vs' xs
  | [], k, hp, h, E, h', vs', xs, φ', S, hd, hk, hr, hc => by
    simp only [closeL] at hc
    injection hc with hc; injection hc with e1 hc; injection hc with e2 e3
    subst e1; subst e2; subst e3
    exact ⟨φ', S, LocLe.refl _, SLe.refl, hd, hk, by simpa only [relL] using hr⟩
  | v :: r, k, hp, h, E, h', vs', xs, φ', S, hd, hk, hr, hc => by
    simp only [closeL] at hc
    split at hc
    · rename_i v1 E1 h1 hv
      split at hc
      · rename_i r2 E2 h2 hq
        injection hc with hc; injection hc with e1 hc; injection hc with e2 e3
        subst e1; subst e2; subst e3
        simp only [relL] at hr
        obtain ⟨x, xs', rfl, k1, k2⟩ := hr
        obtain ⟨φ2, S2, a1, a2, a3, a4, a5⟩ := closeS_ok hd hk k1 hv
        obtain ⟨φ3, S3, b1, b2, b3, b4, b5⟩ := closeL_ok a3 a4 (relL_mono (LocLe.refl _) (fun _ _ => rfl) a2.1 _ _ k2) hq
        refine ⟨φ3, S3, a1.trans b1, a2.trans b2, by rw [List.append_assoc, List.append_assoc]; exact b3, ?_, ?_⟩
        · rw [List.append_assoc, List.length_append, Nat.add_comm h2.length, ← Nat.add_assoc]; exact b4
        · simp only [relL]
          exact ⟨x, xs', rfl, rel_mono b1 (fun _ _ => rfl) b2.1 _ _ a5, b5⟩
      · cases hc
    · cases hc
theorem close1_ok {k : Nat} {h E h' : Hp} {v' : V} (hd : Held T φ φ' b0 w S hp h) (hk : Below' k h) (hr : rel T φ w S v x) (hc : close1 (real P T w0) k hp v = some (v', E, h')) :
    ∃ φ2 S2, LocLe φ' φ2 ∧ SLe b0 S S2 ∧ Held T φ φ2 b0 w S2 (E ++ hp) (h' ++ h) ∧ Below' (k + h'.length) (h' ++ h) ∧ rel T φ2 w S2 v' x := by
  unfold close1 at hc
  split at hc
  · rename_i cs
    split at hc
    · rename_i cs' E1 h1 hv
      injection hc with hc; injection hc with e1 hc; injection hc with e2 e3
      subst e1; subst e2; subst e3
      simp only [rel] at hr
      obtain ⟨a, rfl, k1, k2⟩ := hr
      obtain ⟨φ2, S2, a1, a2, a3, a4, a5⟩ := closeL_ok hd hk k1 hv
      refine ⟨φ2, S2, a1, a2, a3, a4, ?_⟩
      simp only [rel]
      exact ⟨a, rfl, a5, k2⟩
    · cases hc
  · exact closeS_ok hd hk hr hc
theorem close1L_ok : ∀ {vs : List V} {k : Nat} {hp h E h' : Hp} {vs' : List V} {xs : List Value} {φ' : Nat → Option Loc} {S : Nat → Prop}, Held T φ φ' b0 w S hp h → Below' k h → relL T φ w S vs xs → close1L (real P T w0) k hp vs = some (vs', E, h') →
    ∃ φ2 S2, LocLe φ' φ2 ∧ SLe b0 S S2 ∧ Held T φ φ2 b0 w S2 (E ++ hp) (h' ++ h) ∧ Below' (k + h'.length) (h' ++ h) ∧ relL T φ2 w S2 vs' xs
  | [], k, hp, h, E, h', vs', xs, φ', S, hd, hk, hr, hc => by
    simp only [close1L] at hc
    injection hc with hc; injection hc with e1 hc; injection hc with e2 e3
    subst e1; subst e2; subst e3
    exact ⟨φ', S, LocLe.refl _, SLe.refl, hd, hk, by simpa only [relL] using hr⟩
  | v :: r, k, hp, h, E, h', vs', xs, φ', S, hd, hk, hr, hc => by
    simp only [close1L] at hc
    split at hc
    · rename_i v1 E1 h1 hv
      split at hc
      · rename_i r2 E2 h2 hq
        injection hc with hc; injection hc with e1 hc; injection hc with e2 e3
        subst e1; subst e2; subst e3
        simp only [relL] at hr
        obtain ⟨x, xs', rfl, k1, k2⟩ := hr
        obtain ⟨φ2, S2, a1, a2, a3, a4, a5⟩ := close1_ok hd hk k1 hv
        obtain ⟨φ3, S3, b1, b2, b3, b4, b5⟩ := close1L_ok a3 a4 (relL_mono (LocLe.refl _) (fun _ _ => rfl) a2.1 _ _ k2) hq
        refine ⟨φ3, S3, a1.trans b1, a2.trans b2, by rw [List.append_assoc, List.append_assoc]; exact b3, ?_, ?_⟩
        · rw [List.append_assoc, List.length_append, Nat.add_comm h2.length, ← Nat.add_assoc]; exact b4
        · simp only [relL]
          exact ⟨x, xs', rfl, rel_mono b1 (fun _ _ => rfl) b2.1 _ _ a5, b5⟩
      · cases hc
    · cases hc
end
end Go.Ab
end
section
namespace Go.Ab
open Go.RowKit
section
variable {P : Program} {T : Tr} {w0 : Base} {φ φ' φ2 : Nat → Option Loc} {w w' : World} {S S' S2 : Nat → Prop} {v : V} {hp : Hp} {b0 : Nat → Prop} {x : Value} {a : Act} {ops : Array Oper}
def resM (tmps : Array Value) : ResultVar → Sem Value
  | .tmp t => pure (tmps.getD t undef)
  | .cell c t => do loadVar t (← asAddr (tmps.getD c undef))
theorem resL_ok (htok : TyOk P T) {tm : List V} (hi : Inv T w0 φ S tm hp a w) : ∀ {rs : List ResultVar} {vs : List V}, resL (real P T w0) T tm hp rs = some vs →
    ∃ xs : List Value, (rs.mapM (resM a.tmps)).run P w = .ok xs w ∧ relL T φ w S vs xs
  | [], vs, h => by
    simp only [resL, Option.some.injEq] at h
    subst h
    exact ⟨[], by simp, by simp [relL]⟩
  | .tmp t :: r, vs, h => by
    simp only [resL] at h
    split at h
    · rename_i l hl
      injection h with h; subst h
      obtain ⟨xs, h1, h2⟩ := resL_ok htok hi hl
      refine ⟨a.tmps.getD t undef :: xs, by simp [List.mapM_cons, h1, resM], ?_⟩
      simp only [relL]
      exact ⟨_, xs, rfl, hi.tms t, h2⟩
    · cases h
  | .cell c t :: r, vs, h => by
    simp only [resL] at h
    split at h
    · rename_i v E l hv hl
      injection h with h; subst h
      obtain ⟨xs, h1, h2⟩ := resL_ok htok hi hl
      have hres : Res P T (loadF (real P T w0) T hp t (tm.getD c .dead)) v E := by rw [hv]; exact .ok
      obtain ⟨_, xv, k1, k2⟩ := loadF_ok htok hi.heap hres (hi.tms c)
      have : ∃ ad, a.tmps.getD c undef = .pointer (some ad) := by
        have hr := hi.tms c
        have hv' := hv
        unfold loadF at hv'
        split at hv'
        · cases hv'
        · generalize tm.getD c .dead = p at hr hv'
          cases p with
          | ptr n off => simp only [rel] at hr; obtain ⟨B, _, e⟩ := hr; exact ⟨_, e⟩
          | ep n i j => simp only [rel] at hr; obtain ⟨B, off, len, room, sz, _, _, _, e⟩ := hr; exact ⟨_, e⟩
          | rp u es i j => simp only [rel] at hr; obtain ⟨ad, e, _, _, _, _, _, _, _, e⟩ := hr; exact ⟨_, e⟩
          | _ => cases hv'
      obtain ⟨ad, hA⟩ := this
      rw [hA] at k1
      refine ⟨xv :: xs, ?_, ?_⟩
      · rw [List.mapM_cons]
        have k2' : (resM a.tmps (.cell c t)).run P w = .ok xv w := by
          simp only [resM, hA]
          simpa [asAddr, Instr.loadAt, Instr.sureAddr] using k1
        simp [Sem.run_bind, k2', h1, Result.andThen]
      · simp only [relL]
        exact ⟨_, xs, rfl, k2, h2⟩
    · cases h
theorem results_ok (htok : TyOk P T) {fn : Func} {tm : List V} (hi : Inv T w0 φ S tm hp a w) {K : V → Hp → Prop} (h : retF (real P T w0) T fn.results.toList K tm hp) :
    ∃ x v φ' S' post, (results fn a.tmps).run P w = .ok x w ∧ SLe w0.Z S S' ∧ HOk T φ' w0.Z w S' post ∧ rel T φ' w S' v x ∧ K v post := by
  unfold retF at h
  split at h
  · rename_i vs hvs
    split at h
    · rename_i vs' E h' hcl
      obtain ⟨xs, h1, h2⟩ := resL_ok htok hi hvs
      obtain ⟨φ2, S2, a1, a2, a3, a4, a5⟩ := close1L_ok (Held.nil hi.heap) (fun n _ => rfl) h2 hcl
      have hlen := (relL_iff.1 a5).1
      refine ⟨if hx : xs.toArray.size = 1 then xs.toArray[0] else .tuple xs.toArray, normR (oneOf vs'), φ2, S2, h', ?_, a2, by simpa using a3.gave, ?_, h⟩
      · have hm : (fn.results.mapM (resM a.tmps)).run P w = .ok xs.toArray w := by
          rw [← Array.toArray_toList (xs := fn.results), List.mapM_toArray]
          simp [h1]
        show (do let vs ← fn.results.mapM (resM a.tmps); pure (if h : vs.size = 1 then vs[0] else .tuple vs) : Sem Value).run P w = _
        rw [Sem.run_bind, hm]
        simp [Result.andThen]
      · refine normR_rel ?_
        unfold oneOf
        split
        · rename_i v
          simp only [relL] at a5
          obtain ⟨y, ys, e1, e2, e3⟩ := a5
          subst e3; subst e1
          simpa using e2
        · rename_i hne
          rw [dif_neg (fun e => by
            simp only [List.size_toArray] at e
            rw [← hlen] at e
            match vs', e with
            | [v], _ => exact hne v rfl)]
          simp only [rel]
          exact ⟨_, rfl, by simpa using a5⟩
    · exact h.elim
  · exact h.elim
theorem fn_of_vc (htok : TyOk P T) {f : Nat} {fn : Func} {c : Code} {W : Nat → List (List Nat)} {args : List V} {res : V} {post : Hp} (hf : P.funcs[f]? = some fn) (hname : (fn.name == "runtime.NumGoroutine") = false) (hb : fn.body = some c) (hok : codeOk W c = true)
    (h : ∀ w : World, GZ T (.of w) → vc (real P T (.of w)) T W c (retK (real P T (.of w)) T fn.results.toList fun v h => v = res ∧ h = post) (args ++ List.replicate (fn.ntmps - args.length) .dead) []) : Fn P T f args res post := by
  refine fun w S vals hold hG hr => .inl ⟨⟨fn, c, hf, hname, hb⟩, ?_⟩
  haveI := GZ.of_ok hG
  have hlen := (relL_iff.1 hr).1
  refine (callsIn_wide (n := 0)).1 (callsIn_of_wp hf hb trivial ?_)
  have hi : Inv T (.of w) (fun _ => none) S (args ++ List.replicate (fn.ntmps - args.length) .dead) [] { tmps := vals.toArray ++ Array.replicate (fn.ntmps - vals.toArray.size) undef, defers := [] } w := by
    refine ⟨Since.refl w, by simp [hlen], fun t => ?_, rfl, ⟨fun n => by simp [look], fun n b h => (by cases h), fun n b l B h => (by cases h), fun n m b c l k B h => (by cases h), hold⟩, fun p hp => by cases hp⟩
    by_cases ht : t < args.length
    · obtain ⟨u, h1, h2⟩ := relL_get hr ht
      have e1 : (args ++ List.replicate (fn.ntmps - args.length) V.dead).getD t .dead = args.getD t .dead := by
        simp only [List.getD_eq_getElem?_getD, List.getElem?_append_left ht]
      have e2 : (vals.toArray ++ Array.replicate (fn.ntmps - vals.toArray.size) undef).getD t undef = u := by
        rw [Array.getD_eq_getD_getElem?, Array.getElem?_append_left (by simp; omega)]
        simp [h1]
      rw [e1, e2]
      exact h2
    · have e1 : (args ++ List.replicate (fn.ntmps - args.length) V.dead).getD t .dead = .dead := by
        simp only [List.getD_eq_getElem?_getD, List.getElem?_append_right (by omega : args.length ≤ t), List.getElem?_replicate]
        split <;> rfl
      rw [e1]
      simp only [rel]
  have key : ∀ {tm hp φ S' a w'}, SLe (oldZ w) S S' → Inv T (.of w) φ S' tm hp a w' → retF (real P T (.of w)) T fn.results.toList (fun v h => v = res ∧ h = post) tm hp →
      a.defers = [] ∧ ∃ v, (results fn a.tmps).run P w' = .ok v w' ∧ ∃ x φ' S', Ending.returned v = .returned x ∧ Since (.of w) w' ∧ HOk T φ' (oldZ w) w' S' post ∧ rel T φ' w' S' res x ∧ (∀ k, S' k → S k ∨ w.heap.size ≤ k) := by
    intro tm hp φ S' a w' hS hi h
    obtain ⟨x, v, φ', S2, post', h1, h2, h3, h4, rfl, rfl⟩ := results_ok htok hi h
    exact ⟨hi.dfr, x, h1, x, φ', S2, rfl, hi.since, h3, h4, fun k hk => ((hS.trans h2).2 k hk).imp id Nat.not_lt.1⟩
  refine wpIn_mono (vc_ok htok c hok (h w this) _ _ _ _ hi) (fun e a' w' hp => ?_)
  obtain ⟨φ', S', tm', hp', h1, h2, h3, h4⟩ := hp
  cases e with
  | normal => exact key h1 h2 h3
  | ret => exact key h1 h2 h3
  | exit i => exact h3.elim
  | _ => exact h4.elim
end
end Go.Ab
end
section
namespace Go.Ab
open Go.RowKit
def setAll (tm : List V) : List (Nat × V) → List V
  | [] => tm
  | (t, v) :: r => setAll (tm.set t v) r
def mkS (n : Nat) (sl : List (Nat × V)) : List V := setAll (List.replicate n .dead) sl
def fitsS (ρ : List (Nat × Nat)) (tm : List V) : List (Nat × V) → Prop
  | [] => True
  | (t, v) :: r => fitV (normV (tm.getD t .dead)) (normV (renR ρ v)) ∧ fitsS ρ tm r
structure Fits (ns : List Nat) (n : Nat) (ρ : List (Nat × Nat)) (sl : List (Nat × V)) (hp' : Hp) (tm : List V) (hp : Hp) : Prop where
  len : tm.length = n
  slots : fitsS ρ tm sl
  rows : fitsH ρ hp hp'
  ok : okState ρ sl hp' = true
  anc : ancOk ρ hp' ns = true
section
variable {P : Program} {T : Tr} {w0 : Base} {φ φ' φ2 : Nat → Option Loc} {w w' : World} {S S' S2 : Nat → Prop} {v : V} {hp : Hp} {b0 : Nat → Prop} {x : Value} {a : Act} {ops : Array Oper}
theorem okNames_mem {hp' : Hp} : ∀ {sl : List (Nat × V)}, okNames hp' sl = true → ∀ p ∈ sl, allR hp' p.2 = true
  | (t, v) :: r, h, p, hp => by
    simp only [okNames] at h
    split at h
    · rename_i h0
      rcases List.mem_cons.1 hp with rfl | hp
      · exact h0
      · exact okNames_mem h p hp
    · cases h
theorem fitsS_mem {ρ : List (Nat × Nat)} {tm : List V} : ∀ {sl : List (Nat × V)}, fitsS ρ tm sl → ∀ p ∈ sl, fitV (normV (tm.getD p.1 .dead)) (normV (renR ρ p.2))
  | (t, v) :: r, h, p, hp => by
    rcases List.mem_cons.1 hp with rfl | hp
    · exact h.1
    · exact fitsS_mem h.2 p hp
theorem setAll_get : ∀ {sl : List (Nat × V)} {tm : List V} {t : Nat}, (setAll tm sl).getD t .dead = tm.getD t .dead ∨ (t, (setAll tm sl).getD t .dead) ∈ sl
  | [], tm, t => .inl rfl
  | (k, v) :: r, tm, t => by
    simp only [setAll]
    rcases setAll_get (sl := r) (tm := tm.set k v) (t := t) with h | h
    · rw [h, getD_set]
      split
      · rename_i e; rw [← e.1]; exact .inr List.mem_cons_self
      · exact .inl rfl
    · exact .inr (List.mem_cons_of_mem _ h)
theorem setAll_length : ∀ {sl : List (Nat × V)} {tm : List V}, (setAll tm sl).length = tm.length
  | [], tm => rfl
  | (k, v) :: r, tm => by simp only [setAll]; rw [setAll_length]; simp
theorem ancOk_mem {ρ : List (Nat × Nat)} {hp : Hp} : ∀ {ns : List Nat}, ancOk ρ hp ns = true → ∀ n ∈ ns, hasN hp n = true ∧ nameR ρ n = n
  | m :: r, h, n, hn => by
    simp only [ancOk] at h
    split at h
    · rename_i h1
      split at h
      · rename_i h2
        rcases List.mem_cons.1 hn with rfl | hn
        · exact ⟨h1, by simpa using h2⟩
        · exact ancOk_mem h n hn
      · cases h
    · cases h
theorem Inv.fit {ρ : List (Nat × Nat)} {sl : List (Nat × V)} {hp hp' : Hp} {tm : List V} (h : Inv T w0 φ S tm hp a w) {n : Nat} {ns : List Nat} (hns : ∀ p ∈ w0.anc, p.1 ∈ ns) (hf : Fits ns n ρ sl hp' tm hp) : Inv T w0 (fitφ φ ρ hp') S (mkS n sl) hp' a w := by
  obtain ⟨f0, f1, f2, f3, f4⟩ := hf
  subst f0
  simp only [okState] at f3
  split at f3
  · rename_i n1
    split at f3
    · rename_i n2
      refine ⟨h.since, by rw [mkS, setAll_length]; simpa using h.size, fun t => ?_, h.dfr, h.heap.fit f2 n2 f3, fun p hp => ?_⟩
      · rcases setAll_get (sl := sl) (tm := List.replicate tm.length .dead) (t := t) with e | e
        · rw [mkS, e]
          simp only [List.getD_eq_getElem?_getD, List.getElem?_replicate]
          split <;> simp [rel]
        · have e1 := okNames_mem n1 _ e
          have e2 := fitsS_mem f1 _ e
          have := h.tms t
          simp only at e2
          have := fitV_rel e2 (norm_rel this)
          exact fit_rel _ _ e1 (norm_rel' this)
      · obtain ⟨a1, a2⟩ := ancOk_mem f4 _ (hns p hp)
        simp only [fitφ, if_pos a1, a2]
        exact h.anc p hp
    · cases f3
  · cases f3
theorem loop_ok [GZ T w0] (htok : TyOk P T) {ns : List Nat} (hns : ∀ p ∈ w0.anc, p.1 ∈ ns) {W : Nat → List (List Nat)} {b : Code} {K : Exit → List V → Hp → Prop} {tm : List V} {hp : Hp} {α : Type} (n : Nat) (sl : α → List (Nat × V)) (hs : α → Hp) (I : α → Prop) (μ : α → Nat) (a0 : α) (ρ0 : List (Nat × Nat)) (h0 : I a0) (hst : Fits ns n ρ0 (sl a0) (hs a0) tm hp) (hok : codeOk W b = true)
    (hstep : ∀ a, I a → ∀ L : List V → Hp → Prop, (∀ a' ρ tm hp, I a' → μ a' < μ a → Fits ns n ρ (sl a') (hs a') tm hp → L tm hp) → vc (real P T w0) T W b (fun e tm hp => match e with | .normal => L tm hp | e => K e tm hp) (mkS n (sl a)) (hs a)) :
    Sat P T w0 (.loop b) K tm hp := by
  intro φ S a w hi
  have key : ∀ (m : Nat) (a1 : α) (φ1 : Nat → Option Loc) (S1 : Nat → Prop) (act : Act) (w1 : World), μ a1 < m → I a1 → SLe w0.Z S S1 → Inv T w0 φ1 S1 (mkS n (sl a1)) (hs a1) act w1 → Code.roundsIn (Fc w0.rd) 0 P b (Post T w0 S K) m act w1 := by
    intro m
    induction m with
    | zero => intro a1 _ _ _ _ h; omega
    | succ m ih =>
      intro a1 φ1 S1 act w1 hm hI hS hinv
      rw [roundsIn_succ]
      have hvc := hstep a1 hI (fun tm hp => ∃ a' ρ, I a' ∧ μ a' < μ a1 ∧ Fits ns n ρ (sl a') (hs a') tm hp) (fun a' ρ tm hp h1 h2 h3 => ⟨a', ρ, h1, h2, h3⟩)
      refine wpIn_mono (vc_ok htok b hok hvc φ1 S1 act w1 hinv) (fun e act2 w2 hp => ?_)
      obtain ⟨φ2, S2, tm2, hp2, k1, k2, k3, k4⟩ := hp
      cases e with
      | normal =>
        obtain ⟨a', ρ, j1, j2, j3⟩ := k3
        have := k2.fit hns j3
        exact ih a' _ S2 act2 w2 (by omega) j1 (hS.trans k1) this
      | exit i => exact ⟨φ2, S2, tm2, hp2, hS.trans k1, k2, k3, k4⟩
      | ret => exact ⟨φ2, S2, tm2, hp2, hS.trans k1, k2, k3, k4⟩
      | _ => exact k4.elim
  have := hi.fit hns hst
  exact wpIn_loop_rounds _ (key _ a0 _ S a w (Nat.lt_succ_self _) h0 SLe.refl this)
theorem Inv.born {tm : List V} {t n et : Nat} {e : TE} (h : Inv T w0 φ S tm hp a w) (ht : tm.getD t .dead = .nil) (hn : look hp n = none) (he : T.look et = some e) (hz : 0 < e.size) : ∃ φ', Inv T w0 φ' S (tm.set t (.row n)) ((n, .row et []) :: hp) a w := by
  have hφ : φ n = none := (h.heap.dom n).2 hn
  have hx := h.tms t
  rw [ht] at hx
  simp only [rel] at hx
  refine ⟨upd φ n .nilrow, h.since, by simp [h.size], fun u => ?_, h.dfr, ?_, fun p hp => upd_le hφ _ _ (h.anc p hp)⟩
  · rw [getD_set]
    split
    · rename_i hu
      rw [← hu.1, hx]
      simp only [rel]
      exact .inr ⟨upd_self, none, rfl⟩
    · exact rel_mono (upd_le hφ) (fun _ _ => rfl) (fun _ h => h) _ _ (h.tms u)
  · refine h.heap.cons (upd_le hφ) (fun k hk => upd_ne hk) (by rw [upd_self]; simp) (fun _ _ => rfl) (fun _ h => h) (fun k c l B hk hc hc2 hl hB => ⟨rfl, (h.heap.own k c l B hc hc2 hl hB).2.2⟩) (Nat.le_refl _) ?_ (fun _ l B hl hB => ?_) h.heap.old
    · exact ⟨by simp [wtL], e, he, hz, .inr ⟨upd_self, rfl⟩⟩
    · rw [upd_self] at hl; injection hl with hl; subst hl; cases hB
theorem Inv.bornC {tm : List V} {n0 j n et t0 : Nat} {cs : List V} {e : TE} (h : Inv T w0 φ S tm hp a w) (hc : look hp n0 = some (.cells t0 cs)) (hj : cs[j]? = some .nil) (hn : look hp n = none) (he : T.look et = some e) (hz : 0 < e.size) : ∃ φ', Inv T w0 φ' S tm ((n0, .cells t0 (cs.set j (.row n))) :: (n, .row et []) :: hp) a w := by
  have hφ : φ n = none := (h.heap.dom n).2 hn
  have hne : n0 ≠ n := fun e => by subst e; rw [hn] at hc; cases hc
  have h1 : HOk T (upd φ n .nilrow) w0.Z w S ((n, .row et []) :: hp) := by
    refine h.heap.cons (upd_le hφ) (fun k hk => upd_ne hk) (by rw [upd_self]; simp) (fun _ _ => rfl) (fun _ h => h) (fun k c l B hk hc hc2 hl hB => ⟨rfl, (h.heap.own k c l B hc hc2 hl hB).2.2⟩) (Nat.le_refl _) ?_ (fun _ l B hl hB => ?_) h.heap.old
    · exact ⟨by simp [wtL], e, he, hz, .inr ⟨upd_self, rfl⟩⟩
    · rw [upd_self] at hl; injection hl with hl; subst hl; cases hB
  have hl1 : look ((n, Blk.row et []) :: hp) n0 = some (.cells t0 cs) := by rw [look_cons, if_neg (fun e => hne e.symm)]; exact hc
  refine ⟨upd φ n .nilrow, h.since, h.size, fun u => rel_mono (upd_le hφ) (fun _ _ => rfl) (fun _ h => h) _ _ (h.tms u), h.dfr, ?_, fun p hp => upd_le hφ _ _ (h.anc p hp)⟩
  obtain ⟨B, arr, k1, k2, k3, k4⟩ := h1.blk _ _ hl1
  refine h1.cons (LocLe.refl _) (fun k hk => rfl) (by rw [k1]; simp) (fun _ _ => rfl) (fun _ h => h) (fun k c l B' hk hc hc2 hl hB => ⟨rfl, (h1.own k c l B' hc hc2 hl hB).2.2⟩) (Nat.le_refl _) ?_ (fun _ l B' hl hB => ?_) h1.old
  · refine ⟨B, arr, k1, k2, relL_iff.2 ⟨?_, fun i c x hi hx => ?_⟩, k4⟩
    · rw [List.length_set]; exact (relL_iff.1 k3).1
    · rw [List.getElem?_set] at hi
      split at hi
      · rename_i hij
        subst hij
        split at hi
        · injection hi with hi
          subst hi
          have := (relL_iff.1 k3).2 _ _ _ hj hx
          simp only [rel] at this ⊢
          exact .inr ⟨upd_self, none, this⟩
        · cases hi
      · exact (relL_iff.1 k3).2 _ _ _ hi hx
  · obtain ⟨o1, o2, o3⟩ := h1.own _ _ l B' hl1 rfl hl hB
    exact ⟨o1, o2, o3, fun m c k hm hc hc2 hk hB2 => hm (h1.inj _ _ _ _ k l B' hc hl1 hc2 rfl hk hl hB2 hB)⟩
theorem real_bornC {o : Ops} (ho : o = real P T w0) {b : Code} {K : Exit → List V → Hp → Prop} {tm : List V} {hp : Hp} {n0 j n et t0 : Nat} {cs : List V} {e : TE} (hc : look hp n0 = some (.cells t0 cs)) (hj : cs[j]? = some .nil) (hn : look hp n = none) (he : T.look et = some e) (hz : 0 < e.size) (h : o.loop b K tm ((n0, .cells t0 (cs.set j (.row n))) :: (n, .row et []) :: hp)) : o.loop b K tm hp := by
  subst ho
  intro φ S a w hi
  obtain ⟨φ', hi'⟩ := hi.bornC hc hj hn he hz
  exact h φ' S a w hi'
theorem real_born {o : Ops} (ho : o = real P T w0) {b : Code} {K : Exit → List V → Hp → Prop} {tm : List V} {hp : Hp} {t n et : Nat} {e : TE} (ht : tm.getD t .dead = .nil) (hn : look hp n = none) (he : T.look et = some e) (hz : 0 < e.size) (h : o.loop b K (tm.set t (.row n)) ((n, .row et []) :: hp)) : o.loop b K tm hp := by
  subst ho
  intro φ S a w hi
  obtain ⟨φ', hi'⟩ := hi.born ht hn he hz
  exact h φ' S a w hi'
theorem fn_of (htok : TyOk P T) {f : Nat} {fn : Func} {c : Code} (W : Nat → List (List Nat)) {args : List V} {res : V} {post : Hp} (hf : P.funcs[f]? = some fn) (hname : (fn.name == "runtime.NumGoroutine") = false) (hb : fn.body = some c) (hok : codeOk W c = true)
    (h : ∀ (w : World), GZ T (.of w) → ∀ o, o = real P T (.of w) → ∀ K : V → Hp → Prop, (∀ v h, v = res → h = post → K v h) → vc o T W c (retK o T fn.results.toList K) (args ++ List.replicate (fn.ntmps - args.length) .dead) []) : Fn P T f args res post :=
  fn_of_vc htok hf hname hb hok (fun w0 g => h w0 g _ rfl _ (fun v h e1 e2 => ⟨e1, e2⟩))
theorem real_br {o : Ops} (ho : o = real P T w0) {c : Bool} {A B : Unit → Prop} (h1 : c = true → A ()) (h2 : c = false → B ()) : o.br c A B := by subst ho; exact ⟨h1, h2⟩
theorem real_need {o : Ops} (ho : o = real P T w0) {p q : Prop} (h1 : p) (h2 : q) : o.need p q := by subst ho; exact ⟨h1, h2⟩
theorem real_call {o : Ops} (ho : o = real P T w0) {f : Nat} {args : List V} {K : V → Hp → Prop} {v : V} {h : Hp} (h1 : Fn P T f args v h) (h2 : K v h) : o.call f args K := by subst ho; exact ⟨v, h, h1, h2⟩
theorem real_callb {o : Ops} (ho : o = real P T w0) {f : Nat} {args : List V} {hp : Hp} {K : V → Hp → Prop} {v : V} {E : Hp} (h1 : CallsB P T f args hp v E) (h2 : K v E) : o.callb f args hp K := by subst ho; exact ⟨v, E, h1, h2⟩
theorem real_loop_ok [GZ T w0] {o : Ops} (ho : o = real P T w0) (htok : TyOk P T) {ns : List Nat} (hns : ∀ p ∈ w0.anc, p.1 ∈ ns) {W : Nat → List (List Nat)} {b : Code} {K : Exit → List V → Hp → Prop} {tm : List V} {hp : Hp} {α : Type} (n : Nat) (sl : α → List (Nat × V)) (hs : α → Hp) (I : α → Prop) (μ : α → Nat) (a0 : α) (ρ0 : List (Nat × Nat)) (h0 : I a0) (hst : Fits ns n ρ0 (sl a0) (hs a0) tm hp) (hok : codeOk W b = true)
    (hstep : ∀ a, I a → ∀ L : List V → Hp → Prop, (∀ a' ρ tm hp, I a' → μ a' < μ a → Fits ns n ρ (sl a') (hs a') tm hp → L tm hp) → vc o T W b (fun e tm hp => match e with | .normal => L tm hp | e => K e tm hp) (mkS n (sl a)) (hs a)) :
    o.loop b K tm hp := by
  subst ho
  exact loop_ok htok hns n sl hs I μ a0 ρ0 h0 hst hok hstep
theorem real_nl {o : Ops} (ho : o = real P T w0) {es : List V} {A B : Unit → Prop} (h1 : es = [] → A ()) (h2 : B ()) : o.nl es A B := by subst ho; exact ⟨h1, h2⟩
theorem real_cut [GZ T w0] {o : Ops} (ho : o = real P T w0) (htok : TyOk P T) {W : Nat → List (List Nat)} {a b : Code} {K : Exit → List V → Hp → Prop} {tm : List V} {hp : Hp} (ha : codeOk W a = true) (hb : codeOk W b = true)
    (h : vc o T W a (fun e tm hp => match e with | .normal => vc o T W b K tm hp | e => K e tm hp) tm hp) : o.cut a b K tm hp := by
  subst ho
  intro φ S act w hi
  refine wpIn_seq (wpIn_mono (vc_ok htok a ha h φ S act w hi) (fun e a' w' hp => ?_))
  obtain ⟨φ', S', tm', hp', h1, h2, h3, h4⟩ := hp
  cases e with
  | normal => exact wpIn_mono (vc_ok htok b hb h3 φ' S' a' w' h2) (fun e a w hp => hp.weaken h1 (fun _ _ h => h))
  | exit i => exact ⟨φ', S', tm', hp', h1, h2, h3, h4⟩
  | ret => exact ⟨φ', S', tm', hp', h1, h2, h3, h4⟩
  | _ => exact h4.elim
theorem real_cutF [GZ T w0] {o : Ops} (ho : o = real P T w0) (htok : TyOk P T) {ns : List Nat} (hns : ∀ p ∈ w0.anc, p.1 ∈ ns) {W : Nat → List (List Nat)} {a b : Code} {K : Exit → List V → Hp → Prop} {tm : List V} {hp : Hp} (n : Nat) (sl : List (Nat × V)) (hs : Hp) (ha : codeOk W a = true) (hb : codeOk W b = true)
    (h : ∀ L : List V → Hp → Prop, (∀ ρ tm' hp', Fits ns n ρ sl hs tm' hp' → L tm' hp') → vc o T W a (fun e tm hp => match e with | .normal => L tm hp | e => K e tm hp) tm hp) (hk : vc o T W b K (mkS n sl) hs) : o.cut a b K tm hp := by
  subst ho
  intro φ S act w hi
  refine wpIn_seq (wpIn_mono (vc_ok htok a ha (h (fun tm' hp' => ∃ ρ, Fits ns n ρ sl hs tm' hp') (fun ρ tm' hp' hf => ⟨ρ, hf⟩)) φ S act w hi) (fun e a' w' hp => ?_))
  obtain ⟨φ', S', tm', hp', h1, h2, h3, h4⟩ := hp
  cases e with
  | normal =>
    obtain ⟨ρ, hf⟩ := h3
    exact wpIn_mono (vc_ok htok b hb hk _ S' a' w' (h2.fit hns hf)) (fun e a w hp => hp.weaken h1 (fun _ _ h => h))
  | exit i => exact ⟨φ', S', tm', hp', h1, h2, h3, h4⟩
  | ret => exact ⟨φ', S', tm', hp', h1, h2, h3, h4⟩
  | _ => exact h4.elim
end
def lenI (es : List V) : Int := es.length
def slenI (s : ByteArray) : Int := s.size
def sbyteI (s : ByteArray) (i : Int) : Int := ((s[i.toNat]?).getD 0).toNat
theorem lenI_eq (es : List V) : lenI es = es.length := rfl
theorem slenI_eq (s : ByteArray) : slenI s = s.size := rfl
structure Eqs (ar : BinOp → IntKind → Int → Int → Int) (un : UnOp → IntKind → Int → Int) (cv : IntKind → Int → Int) (mn : Int → Int → Int) (mx : Int → Int → Int) (pl : Int → Int → Int) (mi : Int → Int → Int) (cmp : BinOp → Int → Int → Bool) (nt : Bool → Bool) (beq : Bool → Bool → Bool) (an : Bool → Bool → Bool) (scmp : BinOp → ByteArray → ByteArray → Bool) (cat : ByteArray → ByteArray → ByteArray) (slen : ByteArray → Int) (sbyte : ByteArray → Int → Int) (ssub : ByteArray → Int → Int → ByteArray) (ofB : ByteArray → List V) (toB : List V → ByteArray) (len : List V → Int) (gi : List V → Int → Nat → Int) (gb : List V → Int → Nat → Bool) (gs : List V → Int → Nat → ByteArray) (gl : List V → Int → Nat → List V) (sub : List V → Int → Int → List V) (put : List V → Int → Nat → List V → List V) (app : List V → List V → List V) (ovl : List V → Int → List V → List V) (rep : Int → V → List V) (ne0 : Int → Prop) (ge0 : Int → Prop) (inb : Int → Int → Prop) (bnd : Int → Int → Int → Prop) (room : Int → Nat → Prop) (sroom : ByteArray → ByteArray → Prop) : Prop where
  har : ar = arReal
  hun : un = unReal
  hcv : ∀ k a, cv k a = k.wrap a
  hmn : ∀ a b, mn a b = if b < a then b else a
  hmx : ∀ a b, mx a b = if b > a then b else a
  hpl : ∀ a b, pl a b = a + b
  hmi : ∀ a b, mi a b = a - b
  hcmp : cmp = cmpLit
  hnt : ∀ b, nt b = !b
  hbeq : ∀ a b, beq a b = (a == b)
  han : ∀ a b, an a b = (a && b)
  hscmp : scmp = strCmp
  hcat : ∀ a b, cat a b = a ++ b
  hslen : ∀ s, slen s = slenI s
  hsbyte : ∀ s i, sbyte s i = sbyteI s i
  hssub : ∀ s l h, ssub s l h = s.extract l.toNat h.toNat
  hofB : ofB = strBytes
  htoB : ∀ es, toB es = ⟨(es.map fun e => UInt8.ofNat (Ab.asInt e).toNat).toArray⟩
  hlen : ∀ es, len es = lenI es
  hgi : ∀ es i j, gi es i j = Ab.asInt (elAt es i j)
  hgb : ∀ es i j, gb es i j = boolOf (elAt es i j)
  hgs : ∀ es i j, gs es i j = strOf (elAt es i j)
  hgl : ∀ es i j, gl es i j = listOf (elAt es i j)
  hsub : ∀ es l h, sub es l h = (es.take h.toNat).drop l.toNat
  hput : ∀ es i j cs, put es i j cs = es.set i.toNat (putCells (es.getD i.toNat .dead) j cs)
  happ : ∀ es xs, app es xs = es ++ xs
  hovl : ovl = ovlReal
  hrep : ∀ n v, rep n v = List.replicate n.toNat v
  hne0 : ∀ n, ne0 n = (n ≠ 0)
  hge0 : ∀ n, ge0 n = (0 ≤ n)
  hinb : ∀ i n, inb i n = (0 ≤ i ∧ i < n)
  hbnd : ∀ l h n, bnd l h n = (0 ≤ l ∧ l ≤ h ∧ h ≤ n)
  hroom : ∀ n b, room n b = (n ≤ 140737488355328 ∧ n.toNat * b ≤ 140737488355328)
  hsroom : ∀ a b, sroom a b = (a.size + b.size ≤ 9223372036854775807)
structure Rules (P : Program) (T : Tr) (W : Nat → List (List Nat)) (ns : List Nat) (ar : BinOp → IntKind → Int → Int → Int) (un : UnOp → IntKind → Int → Int) (cv : IntKind → Int → Int) (mn : Int → Int → Int) (mx : Int → Int → Int) (pl : Int → Int → Int) (mi : Int → Int → Int) (cmp : BinOp → Int → Int → Bool) (nt : Bool → Bool) (beq : Bool → Bool → Bool) (an : Bool → Bool → Bool) (scmp : BinOp → ByteArray → ByteArray → Bool) (cat : ByteArray → ByteArray → ByteArray) (slen : ByteArray → Int) (sbyte : ByteArray → Int → Int) (ssub : ByteArray → Int → Int → ByteArray) (ofB : ByteArray → List V) (toB : List V → ByteArray) (len : List V → Int) (gi : List V → Int → Nat → Int) (gb : List V → Int → Nat → Bool) (gs : List V → Int → Nat → ByteArray) (gl : List V → Int → Nat → List V) (sub : List V → Int → Int → List V) (put : List V → Int → Nat → List V → List V) (app : List V → List V → List V) (ovl : List V → Int → List V → List V) (rep : Int → V → List V) (ne0 : Int → Prop) (ge0 : Int → Prop) (inb : Int → Int → Prop) (bnd : Int → Int → Int → Prop) (room : Int → Nat → Prop) (sroom : ByteArray → ByteArray → Prop) (need : Prop → Prop → Prop) (br : Bool → (Unit → Prop) → (Unit → Prop) → Prop) (call : Nat → List V → (V → Hp → Prop) → Prop) (callb : Nat → List V → Hp → (V → Hp → Prop) → Prop) (loop : Code → (Exit → List V → Hp → Prop) → List V → Hp → Prop) (cut : Code → Code → (Exit → List V → Hp → Prop) → List V → Hp → Prop) (nl : List V → (Unit → Prop) → (Unit → Prop) → Prop) : Prop where
  need' : ∀ {p q : Prop}, p → q → need p q
  br' : ∀ {c : Bool} {A B : Unit → Prop}, (c = true → A ()) → (c = false → B ()) → br c A B
  call' : ∀ {f : Nat} {args args' : List V} {K : V → Hp → Prop} {v : V} {h : Hp}, Ab.Fn P T f args' v h → args = args' → K v h → call f args K
  callb' : ∀ {f : Nat} {args : List V} {hp : Hp} {K : V → Hp → Prop} {v : V} {E : Hp}, CallsB P T f args hp v E → K v E → callb f args hp K
  born' : ∀ {b : Code} {K : Exit → List V → Hp → Prop} {tm : List V} {hp : Hp} (t n et : Nat) {e : TE}, tm.getD t .dead = .nil → look hp n = none → T.look et = some e → 0 < e.size → loop b K (tm.set t (.row n)) ((n, .row et []) :: hp) → loop b K tm hp
  bornC' : ∀ {b : Code} {K : Exit → List V → Hp → Prop} {tm : List V} {hp : Hp} (n0 j n et : Nat) {t0 : Nat} {cs : List V} {e : TE}, look hp n0 = some (.cells t0 cs) → cs[j]? = some .nil → look hp n = none → T.look et = some e → 0 < e.size → loop b K tm ((n0, .cells t0 (cs.set j (.row n))) :: (n, .row et []) :: hp) → loop b K tm hp
  nl' : ∀ {es : List V} {A B : Unit → Prop}, (es = [] → A ()) → B () → nl es A B
  cut' : ∀ {a b : Code} {K : Exit → List V → Hp → Prop} {tm : List V} {hp : Hp}, codeOk W a = true → codeOk W b = true → vc ⟨ar, un, cv, mn, mx, pl, mi, cmp, nt, beq, an, scmp, cat, slen, sbyte, ssub, ofB, toB, len, gi, gb, gs, gl, sub, put, app, ovl, rep, ne0, ge0, inb, bnd, room, sroom, need, br, call, callb, loop, cut, nl⟩ T W a (fun e tm hp => match e with | .normal => vc ⟨ar, un, cv, mn, mx, pl, mi, cmp, nt, beq, an, scmp, cat, slen, sbyte, ssub, ofB, toB, len, gi, gb, gs, gl, sub, put, app, ovl, rep, ne0, ge0, inb, bnd, room, sroom, need, br, call, callb, loop, cut, nl⟩ T W b K tm hp | e => K e tm hp) tm hp → cut a b K tm hp
  cutF : ∀ {a b : Code} {K : Exit → List V → Hp → Prop} {tm : List V} {hp : Hp} (n : Nat) (sl : List (Nat × V)) (hs : Hp), codeOk W a = true → codeOk W b = true →
    (∀ L : List V → Hp → Prop, (∀ ρ tm' hp', Fits ns n ρ sl hs tm' hp' → L tm' hp') → vc ⟨ar, un, cv, mn, mx, pl, mi, cmp, nt, beq, an, scmp, cat, slen, sbyte, ssub, ofB, toB, len, gi, gb, gs, gl, sub, put, app, ovl, rep, ne0, ge0, inb, bnd, room, sroom, need, br, call, callb, loop, cut, nl⟩ T W a (fun e tm hp => match e with | .normal => L tm hp | e => K e tm hp) tm hp) →
    vc ⟨ar, un, cv, mn, mx, pl, mi, cmp, nt, beq, an, scmp, cat, slen, sbyte, ssub, ofB, toB, len, gi, gb, gs, gl, sub, put, app, ovl, rep, ne0, ge0, inb, bnd, room, sroom, need, br, call, callb, loop, cut, nl⟩ T W b K (mkS n sl) hs → cut a b K tm hp
  loop' : ∀ {b : Code} {K : Exit → List V → Hp → Prop} {tm : List V} {hp : Hp} {α : Type} (n : Nat) (sl : α → List (Nat × V)) (hs : α → Hp) (I : α → Prop) (μ : α → Nat) (a0 : α) (ρ0 : List (Nat × Nat)), I a0 → Fits ns n ρ0 (sl a0) (hs a0) tm hp → codeOk W b = true →
    (∀ a, I a → ∀ L : List V → Hp → Prop, (∀ a' ρ tm hp, I a' → μ a' < μ a → Fits ns n ρ (sl a') (hs a') tm hp → L tm hp) → vc ⟨ar, un, cv, mn, mx, pl, mi, cmp, nt, beq, an, scmp, cat, slen, sbyte, ssub, ofB, toB, len, gi, gb, gs, gl, sub, put, app, ovl, rep, ne0, ge0, inb, bnd, room, sroom, need, br, call, callb, loop, cut, nl⟩ T W b (fun e tm hp => match e with | .normal => L tm hp | e => K e tm hp) (mkS n (sl a)) (hs a)) → loop b K tm hp
section
variable {P : Program} {T : Tr} {w0 : Base}
theorem fn_rules (htok : TyOk P T) {f : Nat} {fn : Func} {c : Code} (W : Nat → List (List Nat)) {args : List V} {res : V} {post : Hp} (hf : P.funcs[f]? = some fn) (hname : (fn.name == "runtime.NumGoroutine") = false) (hb : fn.body = some c) (hok : codeOk W c = true)
    (h : ∀ ar un cv mn mx pl mi cmp nt beq an scmp cat slen sbyte ssub ofB toB len gi gb gs gl sub put app ovl rep ne0 ge0 inb bnd room sroom need br call callb loop cut nl, Eqs ar un cv mn mx pl mi cmp nt beq an scmp cat slen sbyte ssub ofB toB len gi gb gs gl sub put app ovl rep ne0 ge0 inb bnd room sroom → Rules P T W [] ar un cv mn mx pl mi cmp nt beq an scmp cat slen sbyte ssub ofB toB len gi gb gs gl sub put app ovl rep ne0 ge0 inb bnd room sroom need br call callb loop cut nl → ∀ K : V → Hp → Prop, (∀ v h, v = res → h = post → K v h) → vc ⟨ar, un, cv, mn, mx, pl, mi, cmp, nt, beq, an, scmp, cat, slen, sbyte, ssub, ofB, toB, len, gi, gb, gs, gl, sub, put, app, ovl, rep, ne0, ge0, inb, bnd, room, sroom, need, br, call, callb, loop, cut, nl⟩ T W c (retK ⟨ar, un, cv, mn, mx, pl, mi, cmp, nt, beq, an, scmp, cat, slen, sbyte, ssub, ofB, toB, len, gi, gb, gs, gl, sub, put, app, ovl, rep, ne0, ge0, inb, bnd, room, sroom, need, br, call, callb, loop, cut, nl⟩ T fn.results.toList K) (args ++ List.replicate (fn.ntmps - args.length) .dead) []) : Ab.Fn P T f args res post := by
  refine fn_of htok W hf hname hb hok (fun w0 g o ho K hK => ?_)
  obtain ⟨ar, un, cv, mn, mx, pl, mi, cmp, nt, beq, an, scmp, cat, slen, sbyte, ssub, ofB, toB, len, gi, gb, gs, gl, sub, put, app, ovl, rep, ne0, ge0, inb, bnd, room, sroom, need, br, call, callb, loop, cut, nl⟩ := o
  refine h _ _ _ _ _ _ _ _ _ _ _ _ _ _ _ _ _ _ _ _ _ _ _ _ _ _ _ _ _ _ _ _ _ _ _ _ _ _ _ _ _ ?_ ?_ K hK
  · have e := ho.symm
    unfold real at e
    injection e with e_ar e_un e_cv e_mn e_mx e_pl e_mi e_cmp e_nt e_beq e_an e_scmp e_cat e_slen e_sbyte e_ssub e_ofB e_toB e_len e_gi e_gb e_gs e_gl e_sub e_put e_app e_ovl e_rep e_ne0 e_ge0 e_inb e_bnd e_room e_sroom e_need e_br e_call e_callb e_loop e_cut e_nl
    subst e_ar e_un e_cv e_mn e_mx e_pl e_mi e_cmp e_nt e_beq e_an e_scmp e_cat e_slen e_sbyte e_ssub e_ofB e_toB e_len e_gi e_gb e_gs e_gl e_sub e_put e_app e_ovl e_rep e_ne0 e_ge0 e_inb e_bnd e_room e_sroom e_need e_br e_call e_callb e_loop e_cut e_nl
    constructor <;> intros <;> rfl
  · exact ⟨fun h1 h2 => real_need ho h1 h2, fun h1 h2 => real_br ho h1 h2, fun h1 h2 h3 => by subst h2; exact real_call ho h1 h3, fun h1 h2 => real_callb ho h1 h2, fun t n et _ h1 h2 h3 h4 h5 => real_born ho h1 h2 h3 h4 h5, fun n0 j n et _ _ _ h0 h1 h2 h3 h4 h5 => real_bornC ho h0 h1 h2 h3 h4 h5, fun h1 h2 => real_nl ho h1 h2, fun ha hb h => real_cut ho htok ha hb h, fun n sl hs ha hb h hk => real_cutF ho htok (fun p hp => by cases hp) n sl hs ha hb h hk, fun n sl hs I μ a0 ρ0 h0 h1 h2 h3 => real_loop_ok ho htok (fun p hp => by cases hp) n sl hs I μ a0 ρ0 h0 h1 h2 h3⟩
end
end Go.Ab
end
section
namespace Go.Proofs.Ytmofhbedamjblaa
open Go.Ab
set_option maxRecDepth 100000
def te1 : TE := ⟨.func #[] #[] false, 1, 8, .nilFunc, false⟩
def te2 : TE := ⟨.int .i64, 1, 8, .int .i64 0, false⟩
def te3 : TE := ⟨.int .i64, 1, 8, .int .i64 0, false⟩
def te4 : TE := ⟨.bool, 1, 1, .bool false, false⟩
def te5 : TE := ⟨.int .u8, 1, 1, .int .u8 0, false⟩
def te9 : TE := ⟨.string, 1, 16, .string .empty, false⟩
def te21 : TE := ⟨.int .i32, 1, 4, .int .i32 0, false⟩
def te22 : TE := ⟨.slice 2, 1, 24, .slice none 0 0, false⟩
def te23 : TE := ⟨.slice 74, 1, 24, .slice none 0 0, false⟩
def te24 : TE := ⟨.struct #[⟨"Name", 9, 0, false, "", "", 0⟩, ⟨"Fun", 3, 1, false, "", "", 16⟩, ⟨"Params", 22, 2, false, "", "", 24⟩, ⟨"Keys", 23, 3, false, "", "", 48⟩], 4, 72, .agg #[.string .empty, .int .i64 0, .slice none 0 0, .slice none 0 0], false⟩
def te25 : TE := ⟨.struct #[⟨"Name", 9, 0, false, "", "", 0⟩, ⟨"Fun", 3, 1, false, "", "", 16⟩, ⟨"Params", 22, 2, false, "", "", 24⟩, ⟨"Keys", 23, 3, false, "", "", 48⟩], 4, 72, .agg #[.string .empty, .int .i64 0, .slice none 0 0, .slice none 0 0], false⟩
def te26 : TE := ⟨.array 3 2, 3, 24, .agg #[.int .i64 0, .int .i64 0, .int .i64 0], true⟩
def te27 : TE := ⟨.func #[] #[4] false, 1, 8, .nilFunc, false⟩
def te28 : TE := ⟨.int .i64, 1, 8, .int .i64 0, false⟩
def te30 : TE := ⟨.func #[25, 2] #[3, 28] false, 1, 8, .nilFunc, false⟩
def te32 : TE := ⟨.func #[25, 3] #[2, 2, 4, 28] false, 1, 8, .nilFunc, false⟩
def te34 : TE := ⟨.func #[25, 22, 2] #[22, 28] false, 1, 8, .nilFunc, false⟩
def te35 : TE := ⟨.struct #[⟨"N", 2, 0, false, "", "", 0⟩, ⟨"E", 28, 1, false, "", "", 8⟩], 2, 16, .agg #[.int .i64 0, .int .i64 0], true⟩
def te36 : TE := ⟨.struct #[⟨"N", 2, 0, false, "", "", 0⟩, ⟨"E", 28, 1, false, "", "", 8⟩], 2, 16, .agg #[.int .i64 0, .int .i64 0], true⟩
def te37 : TE := ⟨.func #[25, 2] #[36] false, 1, 8, .nilFunc, false⟩
def te38 : TE := ⟨.struct #[⟨"Low", 2, 0, false, "", "", 0⟩, ⟨"High", 2, 1, false, "", "", 8⟩, ⟨"Is", 4, 2, false, "", "", 16⟩, ⟨"E", 28, 3, false, "", "", 24⟩], 4, 32, .agg #[.int .i64 0, .int .i64 0, .bool false, .int .i64 0], true⟩
def te39 : TE := ⟨.struct #[⟨"Low", 2, 0, false, "", "", 0⟩, ⟨"High", 2, 1, false, "", "", 8⟩, ⟨"Is", 4, 2, false, "", "", 16⟩, ⟨"E", 28, 3, false, "", "", 24⟩], 4, 32, .agg #[.int .i64 0, .int .i64 0, .bool false, .int .i64 0], true⟩
def te40 : TE := ⟨.func #[25, 3] #[39] false, 1, 8, .nilFunc, false⟩
def te41 : TE := ⟨.struct #[⟨"S", 22, 0, false, "", "", 0⟩, ⟨"E", 28, 1, false, "", "", 24⟩], 2, 32, .agg #[.slice none 0 0, .int .i64 0], false⟩
def te42 : TE := ⟨.struct #[⟨"S", 22, 0, false, "", "", 0⟩, ⟨"E", 28, 1, false, "", "", 24⟩], 2, 32, .agg #[.slice none 0 0, .int .i64 0], false⟩
def te43 : TE := ⟨.func #[25, 22, 2] #[42] false, 1, 8, .nilFunc, false⟩
def te44 : TE := ⟨.func #[22, 22] #[4] false, 1, 8, .nilFunc, false⟩
def te45 : TE := ⟨.func #[25, 22, 26] #[4] false, 1, 8, .nilFunc, false⟩
def te46 : TE := ⟨.func #[25] #[22, 28] false, 1, 8, .nilFunc, false⟩
def te47 : TE := ⟨.func #[25, 2] #[4] false, 1, 8, .nilFunc, false⟩
def te49 : TE := ⟨.func #[25, 22] #[22, 4] true, 1, 8, .nilFunc, false⟩
def te50 : TE := ⟨.func #[3, 22] #[25] true, 1, 8, .nilFunc, false⟩
def te52 : TE := ⟨.func #[25, 22] #[2, 28] false, 1, 8, .nilFunc, false⟩
def te53 : TE := ⟨.func #[25] #[28] false, 1, 8, .nilFunc, false⟩
def te54 : TE := ⟨.func #[22, 26] #[4] false, 1, 8, .nilFunc, false⟩
def te55 : TE := ⟨.array 2 2, 2, 16, .agg #[.int .i64 0, .int .i64 0], true⟩
def te56 : TE := ⟨.func #[25, 22, 55] #[4] false, 1, 8, .nilFunc, false⟩
def te57 : TE := ⟨.slice 5, 1, 24, .slice none 0 0, false⟩
def te58 : TE := ⟨.slice 22, 1, 24, .slice none 0 0, false⟩
def te59 : TE := ⟨.func #[25, 22, 22] #[22, 28] false, 1, 8, .nilFunc, false⟩
def te60 : TE := ⟨.func #[25, 22] #[28] false, 1, 8, .nilFunc, false⟩
def te61 : TE := ⟨.func #[25, 22, 57] #[4] false, 1, 8, .nilFunc, false⟩
def te62 : TE := ⟨.array 3 22, 3, 72, .agg #[.slice none 0 0, .slice none 0 0, .slice none 0 0], false⟩
def te63 : TE := ⟨.func #[25, 62] #[4] false, 1, 8, .nilFunc, false⟩
def te64 : TE := ⟨.slice 76, 1, 24, .slice none 0 0, false⟩
def te65 : TE := ⟨.slice 108, 1, 24, .slice none 0 0, false⟩
def te66 : TE := ⟨.struct #[⟨"Cells", 65, 0, false, "", "", 0⟩], 1, 24, .agg #[.slice none 0 0], false⟩
def te67 : TE := ⟨.struct #[⟨"Cells", 65, 0, false, "", "", 0⟩], 1, 24, .agg #[.slice none 0 0], false⟩
def te68 : TE := ⟨.array 3 67, 3, 72, .agg #[.slice none 0 0, .slice none 0 0, .slice none 0 0], false⟩
def te69 : TE := ⟨.slice 70, 1, 24, .slice none 0 0, false⟩
def te70 : TE := ⟨.slice 78, 1, 24, .slice none 0 0, false⟩
def te71 : TE := ⟨.struct #[⟨"Size", 3, 0, false, "", "", 0⟩, ⟨"Signed", 4, 1, false, "", "", 8⟩], 2, 16, .agg #[.int .i64 0, .bool false], true⟩
def te72 : TE := ⟨.struct #[⟨"Size", 3, 0, false, "", "", 0⟩, ⟨"Signed", 4, 1, false, "", "", 8⟩], 2, 16, .agg #[.int .i64 0, .bool false], true⟩
def te73 : TE := ⟨.struct #[⟨"Kind", 3, 0, false, "", "", 0⟩, ⟨"Int", 72, 1, false, "", "", 8⟩, ⟨"Ref", 3, 3, false, "", "", 24⟩], 4, 32, .agg #[.int .i64 0, .int .i64 0, .bool false, .int .i64 0], true⟩
def te74 : TE := ⟨.struct #[⟨"Kind", 3, 0, false, "", "", 0⟩, ⟨"Int", 72, 1, false, "", "", 8⟩, ⟨"Ref", 3, 3, false, "", "", 24⟩], 4, 32, .agg #[.int .i64 0, .int .i64 0, .bool false, .int .i64 0], true⟩
def te75 : TE := ⟨.struct #[⟨"Cpu", 5, 0, false, "", "", 0⟩, ⟨"Key", 2, 1, false, "", "", 8⟩, ⟨"S", 9, 2, false, "", "", 16⟩, ⟨"V", 2, 3, false, "", "", 32⟩], 4, 40, .agg #[.int .u8 0, .int .i64 0, .string .empty, .int .i64 0], true⟩
def te76 : TE := ⟨.struct #[⟨"Cpu", 5, 0, false, "", "", 0⟩, ⟨"Key", 2, 1, false, "", "", 8⟩, ⟨"S", 9, 2, false, "", "", 16⟩, ⟨"V", 2, 3, false, "", "", 32⟩], 4, 40, .agg #[.int .u8 0, .int .i64 0, .string .empty, .int .i64 0], true⟩
def te77 : TE := ⟨.struct #[⟨"Str", 4, 0, false, "", "", 0⟩, ⟨"N", 2, 1, false, "", "", 8⟩, ⟨"S", 9, 2, false, "", "", 16⟩], 3, 32, .agg #[.bool false, .int .i64 0, .string .empty], true⟩
def te78 : TE := ⟨.struct #[⟨"Str", 4, 0, false, "", "", 0⟩, ⟨"N", 2, 1, false, "", "", 8⟩, ⟨"S", 9, 2, false, "", "", 16⟩], 3, 32, .agg #[.bool false, .int .i64 0, .string .empty], true⟩
def te80 : TE := ⟨.func #[25, 67, 70, 2] #[67, 28] false, 1, 8, .nilFunc, false⟩
def te81 : TE := ⟨.func #[25, 67, 67] #[67, 28] false, 1, 8, .nilFunc, false⟩
def te82 : TE := ⟨.func #[25, 67] #[28] false, 1, 8, .nilFunc, false⟩
def te83 : TE := ⟨.func #[70, 70] #[4] false, 1, 8, .nilFunc, false⟩
def te84 : TE := ⟨.func #[25, 67, 70] #[22, 28] false, 1, 8, .nilFunc, false⟩
def te85 : TE := ⟨.func #[25, 64] #[4] false, 1, 8, .nilFunc, false⟩
def te86 : TE := ⟨.func #[25] #[4] false, 1, 8, .nilFunc, false⟩
def te87 : TE := ⟨.func #[25, 2] #[3] false, 1, 8, .nilFunc, false⟩
def te88 : TE := ⟨.func #[3, 3, 3] #[4] false, 1, 8, .nilFunc, false⟩
def te89 : TE := ⟨.func #[25] #[3] false, 1, 8, .nilFunc, false⟩
def te90 : TE := ⟨.func #[2, 2] #[2] false, 1, 8, .nilFunc, false⟩
def te92 : TE := ⟨.func #[25, 3] #[2, 2] false, 1, 8, .nilFunc, false⟩
def te93 : TE := ⟨.func #[25, 58] #[28] true, 1, 8, .nilFunc, false⟩
def te94 : TE := ⟨.func #[22] #[22] false, 1, 8, .nilFunc, false⟩
def te95 : TE := ⟨.func #[25, 22] #[2] false, 1, 8, .nilFunc, false⟩
def te96 : TE := ⟨.func #[3] #[39] false, 1, 8, .nilFunc, false⟩
def te97 : TE := ⟨.int .u64, 1, 8, .int .u64 0, false⟩
def te98 : TE := ⟨.func #[25, 3] #[2] false, 1, 8, .nilFunc, false⟩
def te99 : TE := ⟨.func #[74] #[4] false, 1, 8, .nilFunc, false⟩
def te100 : TE := ⟨.func #[23, 99] #[4] false, 1, 8, .nilFunc, false⟩
def te101 : TE := ⟨.func #[25, 22] #[4] false, 1, 8, .nilFunc, false⟩
def te102 : TE := ⟨.func #[25, 70] #[4] false, 1, 8, .nilFunc, false⟩
def te103 : TE := ⟨.func #[67] #[67] false, 1, 8, .nilFunc, false⟩
def te105 : TE := ⟨.func #[67, 70] #[3, 4] false, 1, 8, .nilFunc, false⟩
def te106 : TE := ⟨.func #[65, 3, 65] #[65] true, 1, 8, .nilFunc, false⟩
def te107 : TE := ⟨.struct #[⟨"Keys", 70, 0, false, "", "", 0⟩, ⟨"State", 22, 1, false, "", "", 24⟩], 2, 48, .agg #[.slice none 0 0, .slice none 0 0], false⟩
def te108 : TE := ⟨.struct #[⟨"Keys", 70, 0, false, "", "", 0⟩, ⟨"State", 22, 1, false, "", "", 24⟩], 2, 48, .agg #[.slice none 0 0, .slice none 0 0], false⟩
def te109 : TE := ⟨.func #[108] #[108] false, 1, 8, .nilFunc, false⟩
def te110 : TE := ⟨.slice 67, 1, 24, .slice none 0 0, false⟩
def te111 : TE := ⟨.func #[144] #[] false, 1, 8, .nilFunc, false⟩
def te112 : TE := ⟨.func #[144] #[] false, 1, 8, .nilFunc, false⟩
def te113 : TE := ⟨.func #[67, 67] #[112] false, 1, 8, .nilFunc, false⟩
def te114 : TE := ⟨.func #[70] #[70] false, 1, 8, .nilFunc, false⟩
def te115 : TE := ⟨.func #[70, 70] #[3] false, 1, 8, .nilFunc, false⟩
def te116 : TE := ⟨.func #[97] #[3] false, 1, 8, .nilFunc, false⟩
def te117 : TE := ⟨.func #[22, 2] #[3] false, 1, 8, .nilFunc, false⟩
def te118 : TE := ⟨.func #[2, 2, 2] #[97] false, 1, 8, .nilFunc, false⟩
def te119 : TE := ⟨.array 8 3, 8, 64, .agg #[.int .i64 0, .int .i64 0, .int .i64 0, .int .i64 0, .int .i64 0, .int .i64 0, .int .i64 0, .int .i64 0], true⟩
def te121 : TE := ⟨.func #[97, 97] #[97, 97] false, 1, 8, .nilFunc, false⟩
def te122 : TE := ⟨.func #[97, 97, 97] #[97, 97] false, 1, 8, .nilFunc, false⟩
def te123 : TE := ⟨.func #[97] #[2] false, 1, 8, .nilFunc, false⟩
def te124 : TE := ⟨.func #[132, 2] #[4] false, 1, 8, .nilFunc, false⟩
def te125 : TE := ⟨.func #[132, 132] #[4] false, 1, 8, .nilFunc, false⟩
def te126 : TE := ⟨.func #[132] #[2] false, 1, 8, .nilFunc, false⟩
def te127 : TE := ⟨.struct #[⟨"add", 124, 0, false, "", "tapline/aggr", 0⟩, ⟨"merge", 125, 1, false, "", "tapline/aggr", 8⟩, ⟨"value", 126, 2, false, "", "tapline/aggr", 16⟩], 3, 24, .agg #[.nilFunc, .nilFunc, .nilFunc], false⟩
def te128 : TE := ⟨.struct #[⟨"add", 124, 0, false, "", "tapline/aggr", 0⟩, ⟨"merge", 125, 1, false, "", "tapline/aggr", 8⟩, ⟨"value", 126, 2, false, "", "tapline/aggr", 16⟩], 3, 24, .agg #[.nilFunc, .nilFunc, .nilFunc], false⟩
def te129 : TE := ⟨.array 10 128, 30, 240, .agg #[.nilFunc, .nilFunc, .nilFunc, .nilFunc, .nilFunc, .nilFunc, .nilFunc, .nilFunc, .nilFunc, .nilFunc, .nilFunc, .nilFunc, .nilFunc, .nilFunc, .nilFunc, .nilFunc, .nilFunc, .nilFunc, .nilFunc, .nilFunc, .nilFunc, .nilFunc, .nilFunc, .nilFunc, .nilFunc, .nilFunc, .nilFunc, .nilFunc, .nilFunc, .nilFunc], false⟩
def te130 : TE := ⟨.func #[] #[129] false, 1, 8, .nilFunc, false⟩
def te131 : TE := ⟨.struct #[⟨"d", 25, 0, false, "", "tapline/aggr", 0⟩, ⟨"s", 22, 4, false, "", "tapline/aggr", 72⟩], 5, 96, .agg #[.string .empty, .int .i64 0, .slice none 0 0, .slice none 0 0, .slice none 0 0], false⟩
def te132 : TE := ⟨.struct #[⟨"d", 25, 0, false, "", "tapline/aggr", 0⟩, ⟨"s", 22, 4, false, "", "tapline/aggr", 72⟩], 5, 96, .agg #[.string .empty, .int .i64 0, .slice none 0 0, .slice none 0 0, .slice none 0 0], false⟩
def te133 : TE := ⟨.func #[2] #[3] false, 1, 8, .nilFunc, false⟩
def te134 : TE := ⟨.func #[2, 2, 2, 2] #[2] false, 1, 8, .nilFunc, false⟩
def te135 : TE := ⟨.func #[2, 2, 2] #[4] false, 1, 8, .nilFunc, false⟩
def te136 : TE := ⟨.func #[23, 99] #[3] false, 1, 8, .nilFunc, false⟩
def te137 : TE := ⟨.func #[2] #[4] false, 1, 8, .nilFunc, false⟩
def te138 : TE := ⟨.func #[22, 137] #[4] false, 1, 8, .nilFunc, false⟩
def te139 : TE := ⟨.func #[9, 5] #[3] false, 1, 8, .nilFunc, false⟩
def te140 : TE := ⟨.func #[65, 70, 141] #[3, 4] false, 1, 8, .nilFunc, false⟩
def te141 : TE := ⟨.func #[108, 70] #[3] false, 1, 8, .nilFunc, false⟩
def te142 : TE := ⟨.func #[65, 65] #[4] false, 1, 8, .nilFunc, false⟩
def te143 : TE := ⟨.func #[65, 3] #[] false, 1, 8, .nilFunc, false⟩
def te144 : TE := ⟨.func #[108, 108] #[4] false, 1, 8, .nilFunc, false⟩
def te145 : TE := ⟨.func #[70, 70, 149] #[3] false, 1, 8, .nilFunc, false⟩
def te146 : TE := ⟨.func #[163] #[3] true, 1, 8, .nilFunc, false⟩
def te147 : TE := ⟨.func #[2, 2] #[3] false, 1, 8, .nilFunc, false⟩
def te148 : TE := ⟨.func #[9, 9] #[3] false, 1, 8, .nilFunc, false⟩
def te149 : TE := ⟨.func #[78, 78] #[3] false, 1, 8, .nilFunc, false⟩
def te150 : TE := ⟨.int .u64, 1, 8, .int .u64 0, false⟩
def te153 : TE := ⟨.func #[132] #[4] false, 1, 8, .nilFunc, false⟩
def te154 : TE := ⟨.func #[] #[2] false, 1, 8, .nilFunc, false⟩
def te155 : TE := ⟨.slice 97, 1, 24, .slice none 0 0, false⟩
def te156 : TE := ⟨.slice 97, 1, 24, .slice none 0 0, false⟩
def te157 : TE := ⟨.func #[97] #[156] false, 1, 8, .nilFunc, false⟩
def te158 : TE := ⟨.func #[156, 156] #[156] false, 1, 8, .nilFunc, false⟩
def te159 : TE := ⟨.func #[97, 97] #[156] false, 1, 8, .nilFunc, false⟩
def te160 : TE := ⟨.func #[2] #[97] false, 1, 8, .nilFunc, false⟩
def te161 : TE := ⟨.func #[156, 156] #[3] false, 1, 8, .nilFunc, false⟩
def te162 : TE := ⟨.func #[22, 137] #[3] false, 1, 8, .nilFunc, false⟩
def te163 : TE := ⟨.slice 3, 1, 24, .slice none 0 0, false⟩
def te164 : TE := ⟨.func #[3, 2] #[4] false, 1, 8, .nilFunc, false⟩
def te165 : TE := ⟨.struct #[⟨"hi", 97, 0, false, "", "tapline/aggr", 0⟩, ⟨"lo", 97, 1, false, "", "tapline/aggr", 8⟩], 2, 16, .agg #[.int .u64 0, .int .u64 0], true⟩
def te166 : TE := ⟨.struct #[⟨"hi", 97, 0, false, "", "tapline/aggr", 0⟩, ⟨"lo", 97, 1, false, "", "tapline/aggr", 8⟩], 2, 16, .agg #[.int .u64 0, .int .u64 0], true⟩
def te167 : TE := ⟨.func #[2] #[166] false, 1, 8, .nilFunc, false⟩
def te168 : TE := ⟨.func #[166] #[] false, 1, 8, .nilFunc, false⟩
def te169 : TE := ⟨.func #[] #[166] false, 1, 8, .nilFunc, false⟩
def te170 : TE := ⟨.func #[166] #[166] false, 1, 8, .nilFunc, false⟩
def te171 : TE := ⟨.array 4 97, 4, 32, .agg #[.int .u64 0, .int .u64 0, .int .u64 0, .int .u64 0], true⟩
def te172 : TE := ⟨.array 4 97, 4, 32, .agg #[.int .u64 0, .int .u64 0, .int .u64 0, .int .u64 0], true⟩
def te173 : TE := ⟨.func #[155, 155] #[172] false, 1, 8, .nilFunc, false⟩
def te174 : TE := ⟨.func #[172] #[172] false, 1, 8, .nilFunc, false⟩
def te175 : TE := ⟨.func #[172] #[4] false, 1, 8, .nilFunc, false⟩
def te176 : TE := ⟨.func #[156] #[156] false, 1, 8, .nilFunc, false⟩
def te177 : TE := ⟨.func #[65] #[] false, 1, 8, .nilFunc, false⟩
def te178 : TE := ⟨.pointer 196, 1, 8, .pointer none, false⟩
def te179 : TE := ⟨.func #[] #[9] false, 1, 8, .nilFunc, false⟩
def te180 : TE := ⟨.struct #[⟨"_interface", 17, 0, false, "", "runtime", 0⟩, ⟨"concrete", 17, 1, false, "", "runtime", 8⟩, ⟨"asserted", 17, 2, false, "", "runtime", 16⟩, ⟨"missingMethod", 9, 3, false, "", "runtime", 24⟩], 4, 40, .agg #[.pointer none, .pointer none, .pointer none, .string .empty], false⟩
def te181 : TE := ⟨.struct #[⟨"_interface", 17, 0, false, "", "runtime", 0⟩, ⟨"concrete", 17, 1, false, "", "runtime", 8⟩, ⟨"asserted", 17, 2, false, "", "runtime", 16⟩, ⟨"missingMethod", 9, 3, false, "", "runtime", 24⟩], 4, 40, .agg #[.pointer none, .pointer none, .pointer none, .string .empty], false⟩
def te182 : TE := ⟨.array 0 16, 0, 0, .agg #[], true⟩
def te183 : TE := ⟨.struct #[⟨"_", 182, 0, false, "", "runtime", 0⟩], 0, 0, .agg #[], false⟩
def te184 : TE := ⟨.struct #[⟨"_", 182, 0, false, "", "runtime", 0⟩], 0, 0, .agg #[], false⟩
def te185 : TE := ⟨.func #[] #[3] false, 1, 8, .nilFunc, false⟩
def te186 : TE := ⟨.int .u32, 1, 4, .int .u32 0, false⟩
def te187 : TE := ⟨.int .u8, 1, 1, .int .u8 0, false⟩
def te188 : TE := ⟨.int .u8, 1, 1, .int .u8 0, false⟩
def te189 : TE := ⟨.func #[197, 197] #[4] false, 1, 8, .nilFunc, false⟩
def te190 : TE := ⟨.pointer 5, 1, 8, .pointer none, false⟩
def te191 : TE := ⟨.int .i32, 1, 4, .int .i32 0, false⟩
def te192 : TE := ⟨.int .i32, 1, 4, .int .i32 0, false⟩
def te193 : TE := ⟨.struct #[⟨"Size_", 12, 0, false, "", "", 0⟩, ⟨"PtrBytes", 12, 1, false, "", "", 8⟩, ⟨"Hash", 186, 2, false, "", "", 16⟩, ⟨"TFlag", 187, 3, false, "", "", 20⟩, ⟨"Align_", 5, 4, false, "", "", 21⟩, ⟨"FieldAlign_", 5, 5, false, "", "", 22⟩, ⟨"Kind_", 188, 6, false, "", "", 23⟩, ⟨"Equal", 189, 7, false, "", "", 24⟩, ⟨"GCData", 190, 8, false, "", "", 32⟩, ⟨"Str", 191, 9, false, "", "", 40⟩, ⟨"PtrToThis", 192, 10, false, "", "", 44⟩], 11, 48, .agg #[.int .u64 0, .int .u64 0, .int .u32 0, .int .u8 0, .int .u8 0, .int .u8 0, .int .u8 0, .nilFunc, .pointer none, .int .i32 0, .int .i32 0], false⟩
def te194 : TE := ⟨.struct #[⟨"Size_", 12, 0, false, "", "", 0⟩, ⟨"PtrBytes", 12, 1, false, "", "", 8⟩, ⟨"Hash", 186, 2, false, "", "", 16⟩, ⟨"TFlag", 187, 3, false, "", "", 20⟩, ⟨"Align_", 5, 4, false, "", "", 21⟩, ⟨"FieldAlign_", 5, 5, false, "", "", 22⟩, ⟨"Kind_", 188, 6, false, "", "", 23⟩, ⟨"Equal", 189, 7, false, "", "", 24⟩, ⟨"GCData", 190, 8, false, "", "", 32⟩, ⟨"Str", 191, 9, false, "", "", 40⟩, ⟨"PtrToThis", 192, 10, false, "", "", 44⟩], 11, 48, .agg #[.int .u64 0, .int .u64 0, .int .u32 0, .int .u8 0, .int .u8 0, .int .u8 0, .int .u8 0, .nilFunc, .pointer none, .int .i32 0, .int .i32 0], false⟩
def te195 : TE := ⟨.struct #[⟨"s", 9, 0, false, "", "errors", 0⟩], 1, 16, .agg #[.string .empty], true⟩
def te196 : TE := ⟨.struct #[⟨"s", 9, 0, false, "", "errors", 0⟩], 1, 16, .agg #[.string .empty], true⟩
def TT : Tr := .fl [93, 94, 96, 97, 98, 99, 101, 102, 103, 104, 106, 107, 109, 123, 125] (.node 108 te108 (.node 62 te62 (.node 39 te39 (.node 25 te25 (.node 9 te9 (.node 3 te3 (.node 2 te2 (.node 1 te1 .nil .nil) .nil) (.node 5 te5 (.node 4 te4 .nil .nil) .nil)) (.node 23 te23 (.node 22 te22 (.node 21 te21 .nil .nil) .nil) (.node 24 te24 .nil .nil))) (.node 34 te34 (.node 28 te28 (.node 27 te27 (.node 26 te26 .nil .nil) .nil) (.node 32 te32 (.node 30 te30 .nil .nil) .nil)) (.node 37 te37 (.node 36 te36 (.node 35 te35 .nil .nil) .nil) (.node 38 te38 .nil .nil)))) (.node 52 te52 (.node 45 te45 (.node 42 te42 (.node 41 te41 (.node 40 te40 .nil .nil) .nil) (.node 44 te44 (.node 43 te43 .nil .nil) .nil)) (.node 49 te49 (.node 47 te47 (.node 46 te46 .nil .nil) .nil) (.node 50 te50 .nil .nil))) (.node 57 te57 (.node 55 te55 (.node 54 te54 (.node 53 te53 .nil .nil) .nil) (.node 56 te56 .nil .nil)) (.node 60 te60 (.node 59 te59 (.node 58 te58 .nil .nil) .nil) (.node 61 te61 .nil .nil))))) (.node 85 te85 (.node 73 te73 (.node 68 te68 (.node 65 te65 (.node 64 te64 (.node 63 te63 .nil .nil) .nil) (.node 67 te67 (.node 66 te66 .nil .nil) .nil)) (.node 71 te71 (.node 70 te70 (.node 69 te69 .nil .nil) .nil) (.node 72 te72 .nil .nil))) (.node 80 te80 (.node 76 te76 (.node 75 te75 (.node 74 te74 .nil .nil) .nil) (.node 78 te78 (.node 77 te77 .nil .nil) .nil)) (.node 83 te83 (.node 82 te82 (.node 81 te81 .nil .nil) .nil) (.node 84 te84 .nil .nil)))) (.node 97 te97 (.node 92 te92 (.node 88 te88 (.node 87 te87 (.node 86 te86 .nil .nil) .nil) (.node 90 te90 (.node 89 te89 .nil .nil) .nil)) (.node 95 te95 (.node 94 te94 (.node 93 te93 .nil .nil) .nil) (.node 96 te96 .nil .nil))) (.node 102 te102 (.node 100 te100 (.node 99 te99 (.node 98 te98 .nil .nil) .nil) (.node 101 te101 .nil .nil)) (.node 106 te106 (.node 105 te105 (.node 103 te103 .nil .nil) .nil) (.node 107 te107 .nil .nil)))))) (.node 154 te154 (.node 131 te131 (.node 119 te119 (.node 114 te114 (.node 111 te111 (.node 110 te110 (.node 109 te109 .nil .nil) .nil) (.node 113 te113 (.node 112 te112 .nil .nil) .nil)) (.node 117 te117 (.node 116 te116 (.node 115 te115 .nil .nil) .nil) (.node 118 te118 .nil .nil))) (.node 126 te126 (.node 123 te123 (.node 122 te122 (.node 121 te121 .nil .nil) .nil) (.node 125 te125 (.node 124 te124 .nil .nil) .nil)) (.node 129 te129 (.node 128 te128 (.node 127 te127 .nil .nil) .nil) (.node 130 te130 .nil .nil)))) (.node 142 te142 (.node 137 te137 (.node 134 te134 (.node 133 te133 (.node 132 te132 .nil .nil) .nil) (.node 136 te136 (.node 135 te135 .nil .nil) .nil)) (.node 140 te140 (.node 139 te139 (.node 138 te138 .nil .nil) .nil) (.node 141 te141 .nil .nil))) (.node 147 te147 (.node 145 te145 (.node 144 te144 (.node 143 te143 .nil .nil) .nil) (.node 146 te146 .nil .nil)) (.node 150 te150 (.node 149 te149 (.node 148 te148 .nil .nil) .nil) (.node 153 te153 .nil .nil))))) (.node 176 te176 (.node 165 te165 (.node 160 te160 (.node 157 te157 (.node 156 te156 (.node 155 te155 .nil .nil) .nil) (.node 159 te159 (.node 158 te158 .nil .nil) .nil)) (.node 163 te163 (.node 162 te162 (.node 161 te161 .nil .nil) .nil) (.node 164 te164 .nil .nil))) (.node 171 te171 (.node 168 te168 (.node 167 te167 (.node 166 te166 .nil .nil) .nil) (.node 170 te170 (.node 169 te169 .nil .nil) .nil)) (.node 174 te174 (.node 173 te173 (.node 172 te172 .nil .nil) .nil) (.node 175 te175 .nil .nil)))) (.node 187 te187 (.node 182 te182 (.node 179 te179 (.node 178 te178 (.node 177 te177 .nil .nil) .nil) (.node 181 te181 (.node 180 te180 .nil .nil) .nil)) (.node 185 te185 (.node 184 te184 (.node 183 te183 .nil .nil) .nil) (.node 186 te186 .nil .nil))) (.node 192 te192 (.node 190 te190 (.node 189 te189 (.node 188 te188 .nil .nil) .nil) (.node 191 te191 .nil .nil)) (.node 195 te195 (.node 194 te194 (.node 193 te193 .nil .nil) .nil) (.node 196 te196 .nil .nil)))))))
theorem tk1 : TOk Try.prog 1 te1 := ⟨by kernel_rfl, TOk.info_of (by kernel_rfl), fun h => by cases h⟩
theorem tk2 : TOk Try.prog 2 te2 := ⟨by kernel_rfl, TOk.info_of (by kernel_rfl), fun h => by cases h⟩
theorem tk3 : TOk Try.prog 3 te3 := ⟨by kernel_rfl, TOk.info_of (by kernel_rfl), fun h => by cases h⟩
theorem tk4 : TOk Try.prog 4 te4 := ⟨by kernel_rfl, TOk.info_of (by kernel_rfl), fun h => by cases h⟩
theorem tk5 : TOk Try.prog 5 te5 := ⟨by kernel_rfl, TOk.info_of (by kernel_rfl), fun h => by cases h⟩
theorem tk9 : TOk Try.prog 9 te9 := ⟨by kernel_rfl, TOk.info_of (by kernel_rfl), fun h => by cases h⟩
theorem tk21 : TOk Try.prog 21 te21 := ⟨by kernel_rfl, TOk.info_of (by kernel_rfl), fun h => by cases h⟩
theorem tk22 : TOk Try.prog 22 te22 := ⟨by kernel_rfl, TOk.info_of (by kernel_rfl), fun h => by cases h⟩
theorem tk23 : TOk Try.prog 23 te23 := ⟨by kernel_rfl, TOk.info_of (by kernel_rfl), fun h => by cases h⟩
theorem tk24 : TOk Try.prog 24 te24 := ⟨by kernel_rfl, TOk.info_of (by kernel_rfl), fun h => by cases h⟩
theorem tk25 : TOk Try.prog 25 te25 := ⟨by kernel_rfl, TOk.info_of (by kernel_rfl), fun h => by cases h⟩
theorem tk26 : TOk Try.prog 26 te26 := ⟨by kernel_rfl, TOk.info_of (by kernel_rfl), fun _ => ⟨by kernel_rfl, by kernel_rfl⟩⟩
theorem tk27 : TOk Try.prog 27 te27 := ⟨by kernel_rfl, TOk.info_of (by kernel_rfl), fun h => by cases h⟩
theorem tk28 : TOk Try.prog 28 te28 := ⟨by kernel_rfl, TOk.info_of (by kernel_rfl), fun h => by cases h⟩
theorem tk30 : TOk Try.prog 30 te30 := ⟨by kernel_rfl, TOk.info_of (by kernel_rfl), fun h => by cases h⟩
theorem tk32 : TOk Try.prog 32 te32 := ⟨by kernel_rfl, TOk.info_of (by kernel_rfl), fun h => by cases h⟩
theorem tk34 : TOk Try.prog 34 te34 := ⟨by kernel_rfl, TOk.info_of (by kernel_rfl), fun h => by cases h⟩
theorem tk35 : TOk Try.prog 35 te35 := ⟨by kernel_rfl, TOk.info_of (by kernel_rfl), fun _ => ⟨by kernel_rfl, by kernel_rfl⟩⟩
theorem tk36 : TOk Try.prog 36 te36 := ⟨by kernel_rfl, TOk.info_of (by kernel_rfl), fun _ => ⟨by kernel_rfl, by kernel_rfl⟩⟩
theorem tk37 : TOk Try.prog 37 te37 := ⟨by kernel_rfl, TOk.info_of (by kernel_rfl), fun h => by cases h⟩
theorem tk38 : TOk Try.prog 38 te38 := ⟨by kernel_rfl, TOk.info_of (by kernel_rfl), fun _ => ⟨by kernel_rfl, by kernel_rfl⟩⟩
theorem tk39 : TOk Try.prog 39 te39 := ⟨by kernel_rfl, TOk.info_of (by kernel_rfl), fun _ => ⟨by kernel_rfl, by kernel_rfl⟩⟩
theorem tk40 : TOk Try.prog 40 te40 := ⟨by kernel_rfl, TOk.info_of (by kernel_rfl), fun h => by cases h⟩
theorem tk41 : TOk Try.prog 41 te41 := ⟨by kernel_rfl, TOk.info_of (by kernel_rfl), fun h => by cases h⟩
theorem tk42 : TOk Try.prog 42 te42 := ⟨by kernel_rfl, TOk.info_of (by kernel_rfl), fun h => by cases h⟩
theorem tk43 : TOk Try.prog 43 te43 := ⟨by kernel_rfl, TOk.info_of (by kernel_rfl), fun h => by cases h⟩
theorem tk44 : TOk Try.prog 44 te44 := ⟨by kernel_rfl, TOk.info_of (by kernel_rfl), fun h => by cases h⟩
theorem tk45 : TOk Try.prog 45 te45 := ⟨by kernel_rfl, TOk.info_of (by kernel_rfl), fun h => by cases h⟩
theorem tk46 : TOk Try.prog 46 te46 := ⟨by kernel_rfl, TOk.info_of (by kernel_rfl), fun h => by cases h⟩
theorem tk47 : TOk Try.prog 47 te47 := ⟨by kernel_rfl, TOk.info_of (by kernel_rfl), fun h => by cases h⟩
theorem tk49 : TOk Try.prog 49 te49 := ⟨by kernel_rfl, TOk.info_of (by kernel_rfl), fun h => by cases h⟩
theorem tk50 : TOk Try.prog 50 te50 := ⟨by kernel_rfl, TOk.info_of (by kernel_rfl), fun h => by cases h⟩
theorem tk52 : TOk Try.prog 52 te52 := ⟨by kernel_rfl, TOk.info_of (by kernel_rfl), fun h => by cases h⟩
theorem tk53 : TOk Try.prog 53 te53 := ⟨by kernel_rfl, TOk.info_of (by kernel_rfl), fun h => by cases h⟩
theorem tk54 : TOk Try.prog 54 te54 := ⟨by kernel_rfl, TOk.info_of (by kernel_rfl), fun h => by cases h⟩
theorem tk55 : TOk Try.prog 55 te55 := ⟨by kernel_rfl, TOk.info_of (by kernel_rfl), fun _ => ⟨by kernel_rfl, by kernel_rfl⟩⟩
theorem tk56 : TOk Try.prog 56 te56 := ⟨by kernel_rfl, TOk.info_of (by kernel_rfl), fun h => by cases h⟩
theorem tk57 : TOk Try.prog 57 te57 := ⟨by kernel_rfl, TOk.info_of (by kernel_rfl), fun h => by cases h⟩
theorem tk58 : TOk Try.prog 58 te58 := ⟨by kernel_rfl, TOk.info_of (by kernel_rfl), fun h => by cases h⟩
theorem tk59 : TOk Try.prog 59 te59 := ⟨by kernel_rfl, TOk.info_of (by kernel_rfl), fun h => by cases h⟩
theorem tk60 : TOk Try.prog 60 te60 := ⟨by kernel_rfl, TOk.info_of (by kernel_rfl), fun h => by cases h⟩
theorem tk61 : TOk Try.prog 61 te61 := ⟨by kernel_rfl, TOk.info_of (by kernel_rfl), fun h => by cases h⟩
theorem tk62 : TOk Try.prog 62 te62 := ⟨by kernel_rfl, TOk.info_of (by kernel_rfl), fun h => by cases h⟩
theorem tk63 : TOk Try.prog 63 te63 := ⟨by kernel_rfl, TOk.info_of (by kernel_rfl), fun h => by cases h⟩
theorem tk64 : TOk Try.prog 64 te64 := ⟨by kernel_rfl, TOk.info_of (by kernel_rfl), fun h => by cases h⟩
theorem tk65 : TOk Try.prog 65 te65 := ⟨by kernel_rfl, TOk.info_of (by kernel_rfl), fun h => by cases h⟩
theorem tk66 : TOk Try.prog 66 te66 := ⟨by kernel_rfl, TOk.info_of (by kernel_rfl), fun h => by cases h⟩
theorem tk67 : TOk Try.prog 67 te67 := ⟨by kernel_rfl, TOk.info_of (by kernel_rfl), fun h => by cases h⟩
theorem tk68 : TOk Try.prog 68 te68 := ⟨by kernel_rfl, TOk.info_of (by kernel_rfl), fun h => by cases h⟩
theorem tk69 : TOk Try.prog 69 te69 := ⟨by kernel_rfl, TOk.info_of (by kernel_rfl), fun h => by cases h⟩
theorem tk70 : TOk Try.prog 70 te70 := ⟨by kernel_rfl, TOk.info_of (by kernel_rfl), fun h => by cases h⟩
theorem tk71 : TOk Try.prog 71 te71 := ⟨by kernel_rfl, TOk.info_of (by kernel_rfl), fun _ => ⟨by kernel_rfl, by kernel_rfl⟩⟩
theorem tk72 : TOk Try.prog 72 te72 := ⟨by kernel_rfl, TOk.info_of (by kernel_rfl), fun _ => ⟨by kernel_rfl, by kernel_rfl⟩⟩
theorem tk73 : TOk Try.prog 73 te73 := ⟨by kernel_rfl, TOk.info_of (by kernel_rfl), fun _ => ⟨by kernel_rfl, by kernel_rfl⟩⟩
theorem tk74 : TOk Try.prog 74 te74 := ⟨by kernel_rfl, TOk.info_of (by kernel_rfl), fun _ => ⟨by kernel_rfl, by kernel_rfl⟩⟩
theorem tk75 : TOk Try.prog 75 te75 := ⟨by kernel_rfl, TOk.info_of (by kernel_rfl), fun _ => ⟨by kernel_rfl, by kernel_rfl⟩⟩
theorem tk76 : TOk Try.prog 76 te76 := ⟨by kernel_rfl, TOk.info_of (by kernel_rfl), fun _ => ⟨by kernel_rfl, by kernel_rfl⟩⟩
theorem tk77 : TOk Try.prog 77 te77 := ⟨by kernel_rfl, TOk.info_of (by kernel_rfl), fun _ => ⟨by kernel_rfl, by kernel_rfl⟩⟩
theorem tk78 : TOk Try.prog 78 te78 := ⟨by kernel_rfl, TOk.info_of (by kernel_rfl), fun _ => ⟨by kernel_rfl, by kernel_rfl⟩⟩
theorem tk80 : TOk Try.prog 80 te80 := ⟨by kernel_rfl, TOk.info_of (by kernel_rfl), fun h => by cases h⟩
theorem tk81 : TOk Try.prog 81 te81 := ⟨by kernel_rfl, TOk.info_of (by kernel_rfl), fun h => by cases h⟩
theorem tk82 : TOk Try.prog 82 te82 := ⟨by kernel_rfl, TOk.info_of (by kernel_rfl), fun h => by cases h⟩
theorem tk83 : TOk Try.prog 83 te83 := ⟨by kernel_rfl, TOk.info_of (by kernel_rfl), fun h => by cases h⟩
theorem tk84 : TOk Try.prog 84 te84 := ⟨by kernel_rfl, TOk.info_of (by kernel_rfl), fun h => by cases h⟩
theorem tk85 : TOk Try.prog 85 te85 := ⟨by kernel_rfl, TOk.info_of (by kernel_rfl), fun h => by cases h⟩
theorem tk86 : TOk Try.prog 86 te86 := ⟨by kernel_rfl, TOk.info_of (by kernel_rfl), fun h => by cases h⟩
theorem tk87 : TOk Try.prog 87 te87 := ⟨by kernel_rfl, TOk.info_of (by kernel_rfl), fun h => by cases h⟩
theorem tk88 : TOk Try.prog 88 te88 := ⟨by kernel_rfl, TOk.info_of (by kernel_rfl), fun h => by cases h⟩
theorem tk89 : TOk Try.prog 89 te89 := ⟨by kernel_rfl, TOk.info_of (by kernel_rfl), fun h => by cases h⟩
theorem tk90 : TOk Try.prog 90 te90 := ⟨by kernel_rfl, TOk.info_of (by kernel_rfl), fun h => by cases h⟩
theorem tk92 : TOk Try.prog 92 te92 := ⟨by kernel_rfl, TOk.info_of (by kernel_rfl), fun h => by cases h⟩
theorem tk93 : TOk Try.prog 93 te93 := ⟨by kernel_rfl, TOk.info_of (by kernel_rfl), fun h => by cases h⟩
theorem tk94 : TOk Try.prog 94 te94 := ⟨by kernel_rfl, TOk.info_of (by kernel_rfl), fun h => by cases h⟩
theorem tk95 : TOk Try.prog 95 te95 := ⟨by kernel_rfl, TOk.info_of (by kernel_rfl), fun h => by cases h⟩
theorem tk96 : TOk Try.prog 96 te96 := ⟨by kernel_rfl, TOk.info_of (by kernel_rfl), fun h => by cases h⟩
theorem tk97 : TOk Try.prog 97 te97 := ⟨by kernel_rfl, TOk.info_of (by kernel_rfl), fun h => by cases h⟩
theorem tk98 : TOk Try.prog 98 te98 := ⟨by kernel_rfl, TOk.info_of (by kernel_rfl), fun h => by cases h⟩
theorem tk99 : TOk Try.prog 99 te99 := ⟨by kernel_rfl, TOk.info_of (by kernel_rfl), fun h => by cases h⟩
theorem tk100 : TOk Try.prog 100 te100 := ⟨by kernel_rfl, TOk.info_of (by kernel_rfl), fun h => by cases h⟩
theorem tk101 : TOk Try.prog 101 te101 := ⟨by kernel_rfl, TOk.info_of (by kernel_rfl), fun h => by cases h⟩
theorem tk102 : TOk Try.prog 102 te102 := ⟨by kernel_rfl, TOk.info_of (by kernel_rfl), fun h => by cases h⟩
theorem tk103 : TOk Try.prog 103 te103 := ⟨by kernel_rfl, TOk.info_of (by kernel_rfl), fun h => by cases h⟩
theorem tk105 : TOk Try.prog 105 te105 := ⟨by kernel_rfl, TOk.info_of (by kernel_rfl), fun h => by cases h⟩
theorem tk106 : TOk Try.prog 106 te106 := ⟨by kernel_rfl, TOk.info_of (by kernel_rfl), fun h => by cases h⟩
theorem tk107 : TOk Try.prog 107 te107 := ⟨by kernel_rfl, TOk.info_of (by kernel_rfl), fun h => by cases h⟩
theorem tk108 : TOk Try.prog 108 te108 := ⟨by kernel_rfl, TOk.info_of (by kernel_rfl), fun h => by cases h⟩
theorem tk109 : TOk Try.prog 109 te109 := ⟨by kernel_rfl, TOk.info_of (by kernel_rfl), fun h => by cases h⟩
theorem tk110 : TOk Try.prog 110 te110 := ⟨by kernel_rfl, TOk.info_of (by kernel_rfl), fun h => by cases h⟩
theorem tk111 : TOk Try.prog 111 te111 := ⟨by kernel_rfl, TOk.info_of (by kernel_rfl), fun h => by cases h⟩
theorem tk112 : TOk Try.prog 112 te112 := ⟨by kernel_rfl, TOk.info_of (by kernel_rfl), fun h => by cases h⟩
theorem tk113 : TOk Try.prog 113 te113 := ⟨by kernel_rfl, TOk.info_of (by kernel_rfl), fun h => by cases h⟩
theorem tk114 : TOk Try.prog 114 te114 := ⟨by kernel_rfl, TOk.info_of (by kernel_rfl), fun h => by cases h⟩
theorem tk115 : TOk Try.prog 115 te115 := ⟨by kernel_rfl, TOk.info_of (by kernel_rfl), fun h => by cases h⟩
theorem tk116 : TOk Try.prog 116 te116 := ⟨by kernel_rfl, TOk.info_of (by kernel_rfl), fun h => by cases h⟩
theorem tk117 : TOk Try.prog 117 te117 := ⟨by kernel_rfl, TOk.info_of (by kernel_rfl), fun h => by cases h⟩
theorem tk118 : TOk Try.prog 118 te118 := ⟨by kernel_rfl, TOk.info_of (by kernel_rfl), fun h => by cases h⟩
theorem tk119 : TOk Try.prog 119 te119 := ⟨by kernel_rfl, TOk.info_of (by kernel_rfl), fun _ => ⟨by kernel_rfl, by kernel_rfl⟩⟩
theorem tk121 : TOk Try.prog 121 te121 := ⟨by kernel_rfl, TOk.info_of (by kernel_rfl), fun h => by cases h⟩
theorem tk122 : TOk Try.prog 122 te122 := ⟨by kernel_rfl, TOk.info_of (by kernel_rfl), fun h => by cases h⟩
theorem tk123 : TOk Try.prog 123 te123 := ⟨by kernel_rfl, TOk.info_of (by kernel_rfl), fun h => by cases h⟩
theorem tk124 : TOk Try.prog 124 te124 := ⟨by kernel_rfl, TOk.info_of (by kernel_rfl), fun h => by cases h⟩
theorem tk125 : TOk Try.prog 125 te125 := ⟨by kernel_rfl, TOk.info_of (by kernel_rfl), fun h => by cases h⟩
theorem tk126 : TOk Try.prog 126 te126 := ⟨by kernel_rfl, TOk.info_of (by kernel_rfl), fun h => by cases h⟩
theorem tk127 : TOk Try.prog 127 te127 := ⟨by kernel_rfl, TOk.info_of (by kernel_rfl), fun h => by cases h⟩
theorem tk128 : TOk Try.prog 128 te128 := ⟨by kernel_rfl, TOk.info_of (by kernel_rfl), fun h => by cases h⟩
theorem tk129 : TOk Try.prog 129 te129 := ⟨by kernel_rfl, TOk.info_of (by kernel_rfl), fun h => by cases h⟩
theorem tk130 : TOk Try.prog 130 te130 := ⟨by kernel_rfl, TOk.info_of (by kernel_rfl), fun h => by cases h⟩
theorem tk131 : TOk Try.prog 131 te131 := ⟨by kernel_rfl, TOk.info_of (by kernel_rfl), fun h => by cases h⟩
theorem tk132 : TOk Try.prog 132 te132 := ⟨by kernel_rfl, TOk.info_of (by kernel_rfl), fun h => by cases h⟩
theorem tk133 : TOk Try.prog 133 te133 := ⟨by kernel_rfl, TOk.info_of (by kernel_rfl), fun h => by cases h⟩
theorem tk134 : TOk Try.prog 134 te134 := ⟨by kernel_rfl, TOk.info_of (by kernel_rfl), fun h => by cases h⟩
theorem tk135 : TOk Try.prog 135 te135 := ⟨by kernel_rfl, TOk.info_of (by kernel_rfl), fun h => by cases h⟩
theorem tk136 : TOk Try.prog 136 te136 := ⟨by kernel_rfl, TOk.info_of (by kernel_rfl), fun h => by cases h⟩
theorem tk137 : TOk Try.prog 137 te137 := ⟨by kernel_rfl, TOk.info_of (by kernel_rfl), fun h => by cases h⟩
theorem tk138 : TOk Try.prog 138 te138 := ⟨by kernel_rfl, TOk.info_of (by kernel_rfl), fun h => by cases h⟩
theorem tk139 : TOk Try.prog 139 te139 := ⟨by kernel_rfl, TOk.info_of (by kernel_rfl), fun h => by cases h⟩
theorem tk140 : TOk Try.prog 140 te140 := ⟨by kernel_rfl, TOk.info_of (by kernel_rfl), fun h => by cases h⟩
theorem tk141 : TOk Try.prog 141 te141 := ⟨by kernel_rfl, TOk.info_of (by kernel_rfl), fun h => by cases h⟩
theorem tk142 : TOk Try.prog 142 te142 := ⟨by kernel_rfl, TOk.info_of (by kernel_rfl), fun h => by cases h⟩
theorem tk143 : TOk Try.prog 143 te143 := ⟨by kernel_rfl, TOk.info_of (by kernel_rfl), fun h => by cases h⟩
theorem tk144 : TOk Try.prog 144 te144 := ⟨by kernel_rfl, TOk.info_of (by kernel_rfl), fun h => by cases h⟩
theorem tk145 : TOk Try.prog 145 te145 := ⟨by kernel_rfl, TOk.info_of (by kernel_rfl), fun h => by cases h⟩
theorem tk146 : TOk Try.prog 146 te146 := ⟨by kernel_rfl, TOk.info_of (by kernel_rfl), fun h => by cases h⟩
theorem tk147 : TOk Try.prog 147 te147 := ⟨by kernel_rfl, TOk.info_of (by kernel_rfl), fun h => by cases h⟩
theorem tk148 : TOk Try.prog 148 te148 := ⟨by kernel_rfl, TOk.info_of (by kernel_rfl), fun h => by cases h⟩
theorem tk149 : TOk Try.prog 149 te149 := ⟨by kernel_rfl, TOk.info_of (by kernel_rfl), fun h => by cases h⟩
theorem tk150 : TOk Try.prog 150 te150 := ⟨by kernel_rfl, TOk.info_of (by kernel_rfl), fun h => by cases h⟩
theorem tk153 : TOk Try.prog 153 te153 := ⟨by kernel_rfl, TOk.info_of (by kernel_rfl), fun h => by cases h⟩
theorem tk154 : TOk Try.prog 154 te154 := ⟨by kernel_rfl, TOk.info_of (by kernel_rfl), fun h => by cases h⟩
theorem tk155 : TOk Try.prog 155 te155 := ⟨by kernel_rfl, TOk.info_of (by kernel_rfl), fun h => by cases h⟩
theorem tk156 : TOk Try.prog 156 te156 := ⟨by kernel_rfl, TOk.info_of (by kernel_rfl), fun h => by cases h⟩
theorem tk157 : TOk Try.prog 157 te157 := ⟨by kernel_rfl, TOk.info_of (by kernel_rfl), fun h => by cases h⟩
theorem tk158 : TOk Try.prog 158 te158 := ⟨by kernel_rfl, TOk.info_of (by kernel_rfl), fun h => by cases h⟩
theorem tk159 : TOk Try.prog 159 te159 := ⟨by kernel_rfl, TOk.info_of (by kernel_rfl), fun h => by cases h⟩
theorem tk160 : TOk Try.prog 160 te160 := ⟨by kernel_rfl, TOk.info_of (by kernel_rfl), fun h => by cases h⟩
theorem tk161 : TOk Try.prog 161 te161 := ⟨by kernel_rfl, TOk.info_of (by kernel_rfl), fun h => by cases h⟩
theorem tk162 : TOk Try.prog 162 te162 := ⟨by kernel_rfl, TOk.info_of (by kernel_rfl), fun h => by cases h⟩
theorem tk163 : TOk Try.prog 163 te163 := ⟨by kernel_rfl, TOk.info_of (by kernel_rfl), fun h => by cases h⟩
theorem tk164 : TOk Try.prog 164 te164 := ⟨by kernel_rfl, TOk.info_of (by kernel_rfl), fun h => by cases h⟩
theorem tk165 : TOk Try.prog 165 te165 := ⟨by kernel_rfl, TOk.info_of (by kernel_rfl), fun _ => ⟨by kernel_rfl, by kernel_rfl⟩⟩
theorem tk166 : TOk Try.prog 166 te166 := ⟨by kernel_rfl, TOk.info_of (by kernel_rfl), fun _ => ⟨by kernel_rfl, by kernel_rfl⟩⟩
theorem tk167 : TOk Try.prog 167 te167 := ⟨by kernel_rfl, TOk.info_of (by kernel_rfl), fun h => by cases h⟩
theorem tk168 : TOk Try.prog 168 te168 := ⟨by kernel_rfl, TOk.info_of (by kernel_rfl), fun h => by cases h⟩
theorem tk169 : TOk Try.prog 169 te169 := ⟨by kernel_rfl, TOk.info_of (by kernel_rfl), fun h => by cases h⟩
theorem tk170 : TOk Try.prog 170 te170 := ⟨by kernel_rfl, TOk.info_of (by kernel_rfl), fun h => by cases h⟩
theorem tk171 : TOk Try.prog 171 te171 := ⟨by kernel_rfl, TOk.info_of (by kernel_rfl), fun _ => ⟨by kernel_rfl, by kernel_rfl⟩⟩
theorem tk172 : TOk Try.prog 172 te172 := ⟨by kernel_rfl, TOk.info_of (by kernel_rfl), fun _ => ⟨by kernel_rfl, by kernel_rfl⟩⟩
theorem tk173 : TOk Try.prog 173 te173 := ⟨by kernel_rfl, TOk.info_of (by kernel_rfl), fun h => by cases h⟩
theorem tk174 : TOk Try.prog 174 te174 := ⟨by kernel_rfl, TOk.info_of (by kernel_rfl), fun h => by cases h⟩
theorem tk175 : TOk Try.prog 175 te175 := ⟨by kernel_rfl, TOk.info_of (by kernel_rfl), fun h => by cases h⟩
theorem tk176 : TOk Try.prog 176 te176 := ⟨by kernel_rfl, TOk.info_of (by kernel_rfl), fun h => by cases h⟩
theorem tk177 : TOk Try.prog 177 te177 := ⟨by kernel_rfl, TOk.info_of (by kernel_rfl), fun h => by cases h⟩
theorem tk178 : TOk Try.prog 178 te178 := ⟨by kernel_rfl, TOk.info_of (by kernel_rfl), fun h => by cases h⟩
theorem tk179 : TOk Try.prog 179 te179 := ⟨by kernel_rfl, TOk.info_of (by kernel_rfl), fun h => by cases h⟩
theorem tk180 : TOk Try.prog 180 te180 := ⟨by kernel_rfl, TOk.info_of (by kernel_rfl), fun h => by cases h⟩
theorem tk181 : TOk Try.prog 181 te181 := ⟨by kernel_rfl, TOk.info_of (by kernel_rfl), fun h => by cases h⟩
theorem tk182 : TOk Try.prog 182 te182 := ⟨by kernel_rfl, TOk.info_of (by kernel_rfl), fun _ => ⟨by kernel_rfl, by kernel_rfl⟩⟩
theorem tk183 : TOk Try.prog 183 te183 := ⟨by kernel_rfl, TOk.info_of (by kernel_rfl), fun h => by cases h⟩
theorem tk184 : TOk Try.prog 184 te184 := ⟨by kernel_rfl, TOk.info_of (by kernel_rfl), fun h => by cases h⟩
theorem tk185 : TOk Try.prog 185 te185 := ⟨by kernel_rfl, TOk.info_of (by kernel_rfl), fun h => by cases h⟩
theorem tk186 : TOk Try.prog 186 te186 := ⟨by kernel_rfl, TOk.info_of (by kernel_rfl), fun h => by cases h⟩
theorem tk187 : TOk Try.prog 187 te187 := ⟨by kernel_rfl, TOk.info_of (by kernel_rfl), fun h => by cases h⟩
theorem tk188 : TOk Try.prog 188 te188 := ⟨by kernel_rfl, TOk.info_of (by kernel_rfl), fun h => by cases h⟩
theorem tk189 : TOk Try.prog 189 te189 := ⟨by kernel_rfl, TOk.info_of (by kernel_rfl), fun h => by cases h⟩
theorem tk190 : TOk Try.prog 190 te190 := ⟨by kernel_rfl, TOk.info_of (by kernel_rfl), fun h => by cases h⟩
theorem tk191 : TOk Try.prog 191 te191 := ⟨by kernel_rfl, TOk.info_of (by kernel_rfl), fun h => by cases h⟩
theorem tk192 : TOk Try.prog 192 te192 := ⟨by kernel_rfl, TOk.info_of (by kernel_rfl), fun h => by cases h⟩
theorem tk193 : TOk Try.prog 193 te193 := ⟨by kernel_rfl, TOk.info_of (by kernel_rfl), fun h => by cases h⟩
theorem tk194 : TOk Try.prog 194 te194 := ⟨by kernel_rfl, TOk.info_of (by kernel_rfl), fun h => by cases h⟩
theorem tk195 : TOk Try.prog 195 te195 := ⟨by kernel_rfl, TOk.info_of (by kernel_rfl), fun _ => ⟨by kernel_rfl, by kernel_rfl⟩⟩
theorem tk196 : TOk Try.prog 196 te196 := ⟨by kernel_rfl, TOk.info_of (by kernel_rfl), fun _ => ⟨by kernel_rfl, by kernel_rfl⟩⟩
theorem tok : TyOk Try.prog TT := TyOk.of_all ⟨tk108, ⟨tk62, ⟨tk39, ⟨tk25, ⟨tk9, ⟨tk3, ⟨tk2, ⟨tk1, trivial, trivial⟩, trivial⟩, ⟨tk5, ⟨tk4, trivial, trivial⟩, trivial⟩⟩, ⟨tk23, ⟨tk22, ⟨tk21, trivial, trivial⟩, trivial⟩, ⟨tk24, trivial, trivial⟩⟩⟩, ⟨tk34, ⟨tk28, ⟨tk27, ⟨tk26, trivial, trivial⟩, trivial⟩, ⟨tk32, ⟨tk30, trivial, trivial⟩, trivial⟩⟩, ⟨tk37, ⟨tk36, ⟨tk35, trivial, trivial⟩, trivial⟩, ⟨tk38, trivial, trivial⟩⟩⟩⟩, ⟨tk52, ⟨tk45, ⟨tk42, ⟨tk41, ⟨tk40, trivial, trivial⟩, trivial⟩, ⟨tk44, ⟨tk43, trivial, trivial⟩, trivial⟩⟩, ⟨tk49, ⟨tk47, ⟨tk46, trivial, trivial⟩, trivial⟩, ⟨tk50, trivial, trivial⟩⟩⟩, ⟨tk57, ⟨tk55, ⟨tk54, ⟨tk53, trivial, trivial⟩, trivial⟩, ⟨tk56, trivial, trivial⟩⟩, ⟨tk60, ⟨tk59, ⟨tk58, trivial, trivial⟩, trivial⟩, ⟨tk61, trivial, trivial⟩⟩⟩⟩⟩, ⟨tk85, ⟨tk73, ⟨tk68, ⟨tk65, ⟨tk64, ⟨tk63, trivial, trivial⟩, trivial⟩, ⟨tk67, ⟨tk66, trivial, trivial⟩, trivial⟩⟩, ⟨tk71, ⟨tk70, ⟨tk69, trivial, trivial⟩, trivial⟩, ⟨tk72, trivial, trivial⟩⟩⟩, ⟨tk80, ⟨tk76, ⟨tk75, ⟨tk74, trivial, trivial⟩, trivial⟩, ⟨tk78, ⟨tk77, trivial, trivial⟩, trivial⟩⟩, ⟨tk83, ⟨tk82, ⟨tk81, trivial, trivial⟩, trivial⟩, ⟨tk84, trivial, trivial⟩⟩⟩⟩, ⟨tk97, ⟨tk92, ⟨tk88, ⟨tk87, ⟨tk86, trivial, trivial⟩, trivial⟩, ⟨tk90, ⟨tk89, trivial, trivial⟩, trivial⟩⟩, ⟨tk95, ⟨tk94, ⟨tk93, trivial, trivial⟩, trivial⟩, ⟨tk96, trivial, trivial⟩⟩⟩, ⟨tk102, ⟨tk100, ⟨tk99, ⟨tk98, trivial, trivial⟩, trivial⟩, ⟨tk101, trivial, trivial⟩⟩, ⟨tk106, ⟨tk105, ⟨tk103, trivial, trivial⟩, trivial⟩, ⟨tk107, trivial, trivial⟩⟩⟩⟩⟩⟩, ⟨tk154, ⟨tk131, ⟨tk119, ⟨tk114, ⟨tk111, ⟨tk110, ⟨tk109, trivial, trivial⟩, trivial⟩, ⟨tk113, ⟨tk112, trivial, trivial⟩, trivial⟩⟩, ⟨tk117, ⟨tk116, ⟨tk115, trivial, trivial⟩, trivial⟩, ⟨tk118, trivial, trivial⟩⟩⟩, ⟨tk126, ⟨tk123, ⟨tk122, ⟨tk121, trivial, trivial⟩, trivial⟩, ⟨tk125, ⟨tk124, trivial, trivial⟩, trivial⟩⟩, ⟨tk129, ⟨tk128, ⟨tk127, trivial, trivial⟩, trivial⟩, ⟨tk130, trivial, trivial⟩⟩⟩⟩, ⟨tk142, ⟨tk137, ⟨tk134, ⟨tk133, ⟨tk132, trivial, trivial⟩, trivial⟩, ⟨tk136, ⟨tk135, trivial, trivial⟩, trivial⟩⟩, ⟨tk140, ⟨tk139, ⟨tk138, trivial, trivial⟩, trivial⟩, ⟨tk141, trivial, trivial⟩⟩⟩, ⟨tk147, ⟨tk145, ⟨tk144, ⟨tk143, trivial, trivial⟩, trivial⟩, ⟨tk146, trivial, trivial⟩⟩, ⟨tk150, ⟨tk149, ⟨tk148, trivial, trivial⟩, trivial⟩, ⟨tk153, trivial, trivial⟩⟩⟩⟩⟩, ⟨tk176, ⟨tk165, ⟨tk160, ⟨tk157, ⟨tk156, ⟨tk155, trivial, trivial⟩, trivial⟩, ⟨tk159, ⟨tk158, trivial, trivial⟩, trivial⟩⟩, ⟨tk163, ⟨tk162, ⟨tk161, trivial, trivial⟩, trivial⟩, ⟨tk164, trivial, trivial⟩⟩⟩, ⟨tk171, ⟨tk168, ⟨tk167, ⟨tk166, trivial, trivial⟩, trivial⟩, ⟨tk170, ⟨tk169, trivial, trivial⟩, trivial⟩⟩, ⟨tk174, ⟨tk173, ⟨tk172, trivial, trivial⟩, trivial⟩, ⟨tk175, trivial, trivial⟩⟩⟩⟩, ⟨tk187, ⟨tk182, ⟨tk179, ⟨tk178, ⟨tk177, trivial, trivial⟩, trivial⟩, ⟨tk181, ⟨tk180, trivial, trivial⟩, trivial⟩⟩, ⟨tk185, ⟨tk184, ⟨tk183, trivial, trivial⟩, trivial⟩, ⟨tk186, trivial, trivial⟩⟩⟩, ⟨tk192, ⟨tk190, ⟨tk189, ⟨tk188, trivial, trivial⟩, trivial⟩, ⟨tk191, trivial, trivial⟩⟩, ⟨tk195, ⟨tk194, ⟨tk193, trivial, trivial⟩, trivial⟩, ⟨tk196, trivial, trivial⟩⟩⟩⟩⟩⟩⟩ (by kernel_rfl)
theorem gok (w : World) : GOk TT w := gok_fl gok_node
end Go.Proofs.Ytmofhbedamjblaa
end
section
namespace Go.Ab
open Go.RowKit Go.ChangeShapes Go.WideShapes Go.ChangeAt Go.Deep
section
variable {H : Type} {enc : TypeId × Value → H} {P : Program} {T : Tr} {w : World}
abbrev oldS (w : World) : Nat → Prop := fun k => k < w.heap.size
def OpV (T : Tr) (enc : TypeId × Value → H) (P : Program) (w : World) {α : Type} (t : TypeId) (tys : List Nat) (mk : α → List V) (ok : α → Prop) : Prop :=
  ∀ fuel cs x, DataW.trod enc P w 0 (fun _ => true) true fuel t cs = some x → ∃ a, relL T (fun _ => none) w (oldS w) (mk a) cs ∧ (∀ u ∈ cs, u.oneCell' = true) ∧ wtC T tys (mk a) ∧ ok a
theorem wtC_one {t : Nat} {v : V} (hA : isAggT T t = false) (h : wt T v t) : wtC T [t] [v] := by
  simp only [wtC]
  exact ⟨t, [], rfl, hA, h, rfl⟩
theorem wtC_append : ∀ {a b : List V} {s t : List Nat}, wtC T s a → wtC T t b → wtC T (s ++ t) (a ++ b)
  | [], b, s, t, h, k => by simp only [wtC] at h; subst h; exact k
  | v :: r, b, s, t, h, k => by
    simp only [wtC, List.cons_append] at h ⊢
    obtain ⟨u, us, rfl, h1, h2, h3⟩ := h
    exact ⟨u, us ++ t, rfl, h1, h2, wtC_append h3 k⟩
theorem OpV.int (htok : TyOk P T) {t : Nat} {e : TE} {k : IntKind} (he : T.look t = some e) (hd : e.desc = .int k) : OpV T enc P w t [t] (fun n : Int => [.i k n]) (fun n => (Lit.int k n).wf = true) := by
  intro fuel cs x h
  have hu := htok.und _ _ he
  rw [hd] at hu
  obtain ⟨n, rfl, _, hw⟩ := DataW.trod_int hu h
  refine ⟨n, ?_, fun u hu => by simp at hu; subst hu; rfl, wtC_one (by rw [aggT_of he, hd]; rfl) (by simp only [wt]; exact ⟨e, he, hd⟩), hw⟩
  simp only [relL]; exact ⟨_, [], rfl, rel_i _ _, rfl⟩
theorem OpV.bool (htok : TyOk P T) {t : Nat} {e : TE} (he : T.look t = some e) (hd : e.desc = .bool) : OpV T enc P w t [t] (fun n : Bool => [.b n]) (fun _ => True) := by
  intro fuel cs x h
  have hu := htok.und _ _ he
  rw [hd] at hu
  obtain ⟨n, rfl, _⟩ := DataW.trod_bool hu h
  refine ⟨n, ?_, fun u hu => by simp at hu; subst hu; rfl, wtC_one (by rw [aggT_of he, hd]; rfl) (by simp only [wt]; exact ⟨e, he, hd⟩), trivial⟩
  simp only [relL]; exact ⟨_, [], rfl, rel_b _, rfl⟩
theorem OpV.string (htok : TyOk P T) {t : Nat} {e : TE} (he : T.look t = some e) (hd : e.desc = .string) : OpV T enc P w t [t] (fun n : ByteArray => [.str n]) (fun s => s.size ≤ maxLen) := by
  intro fuel cs x h
  have hu := htok.und _ _ he
  rw [hd] at hu
  obtain ⟨n, rfl, _, hw⟩ := DataW.trod_string hu h
  refine ⟨n, ?_, fun u hu => by simp at hu; subst hu; rfl, wtC_one (by rw [aggT_of he, hd]; rfl) (by simp only [wt]; exact ⟨e, he, hd⟩), hw⟩
  simp only [relL]; exact ⟨_, [], rfl, rel_str _, rfl⟩
theorem list_of_each {α : Type} (p : Nat → α → Prop) : ∀ n, (∀ i, i < n → ∃ y, p i y) → ∃ l : List α, l.length = n ∧ ∀ i y, l[i]? = some y → p i y
  | 0, _ => ⟨[], rfl, by simp⟩
  | n + 1, h => by
    obtain ⟨l, hl, hp⟩ := list_of_each p n (fun i hi => h i (by omega))
    obtain ⟨y, hy⟩ := h n (by omega)
    refine ⟨l ++ [y], by simp [hl], fun i z hz => ?_⟩
    rcases Nat.lt_or_ge i n with hi | hi
    · rw [List.getElem?_append_left (by omega)] at hz
      exact hp i z hz
    · rw [List.getElem?_append_right (by omega), hl] at hz
      have : i = n := by
        rcases Nat.lt_or_ge (i - n) 1 with h1 | h1
        · omega
        · rw [List.getElem?_eq_none (by simpa using h1)] at hz; cases hz
      subst this
      simp at hz
      exact hz ▸ hy
theorem OpV.slice (htok : TyOk P T) {α : Type} {t e : Nat} {te eu : TE} {tys : List Nat} {mk : α → List V} {ok : α → Prop} (el : α → V) (ht : T.look t = some te) (hd : te.desc = .slice e) (he : T.look e = some eu) (hpos : 0 < eu.size) (hsz : P.cellsOf e = eu.size)
    (hel : (isAggT T e = true ∧ cellTys T 8 e = tys ∧ ∀ b, el b = .agg (mk b)) ∨ (isAggT T e = false ∧ tys = [e] ∧ ∀ b, mk b = [el b])) (ho : OpV T enc P w e tys mk ok) :
    OpV T enc P w t [t] (fun l : List α => [.sl e (l.map el)]) (fun l => l.length ≤ maxLen ∧ ∀ x ∈ l, ok x) := by
  intro fuel cs x h
  have hu := htok.und _ _ ht
  rw [hd] at hu
  have hA : isAggT T t = false := by rw [aggT_of ht, hd]; rfl
  have fin : ∀ {A : Option Addr} {cap : Nat} (l : List α), l.length ≤ cap → l.length ≤ maxLen → (∀ y ∈ l, ok y) → (∀ y ∈ l, wt T (el y) e) → (l ≠ [] → ∃ ad, A = some ad ∧ ad.block < w.heap.size ∧ relE T (fun _ => none) w (oldS w) ad eu.size 0 (l.map el)) →
      ∃ a : List α, relL T (fun _ => none) w (oldS w) [.sl e (a.map el)] [.slice A l.length cap] ∧ (∀ u ∈ [Value.slice A l.length cap], u.oneCell' = true) ∧ wtC T [t] [.sl e (a.map el)] ∧ (a.length ≤ maxLen ∧ ∀ x ∈ a, ok x) := by
    intro A cap l h1 h2 h3 h4 h5
    have hwt : wtL T e (l.map el) := wtL_iff.2 (fun v hv => by
      obtain ⟨y, hy, rfl⟩ := List.mem_map.1 hv
      exact h4 y hy)
    refine ⟨l, ?_, fun u hu => by simp at hu; subst hu; rfl, wtC_one hA (by simp only [wt]; exact ⟨⟨te, ht, hd⟩, hwt⟩), h2, h3⟩
    simp only [relL, rel]
    refine ⟨_, [], rfl, ⟨A, cap, by simp, by simpa using h1, by simpa using h2, hwt, fun hne => ?_⟩, rfl⟩
    obtain ⟨ad, e1, e2, e3⟩ := h5 (fun hn => hne (by rw [hn]; rfl))
    exact ⟨ad, eu, e1, he, hpos, e2, e3⟩
  rcases open_slice hu h with ⟨rfl, rfl⟩ | ⟨a, len, cap, m, n, D, Pl, rfl, hb, hl, hm, hmm, rfl, hle⟩
  · exact fin [] (by simp) (by simp) (by simp) (by simp) (fun h => absurd rfl h)
  · simp only [if_true] at hmm
    subst hmm
    obtain ⟨l, hll, hp⟩ := list_of_each (fun i y => ok y ∧ wt T (el y) e ∧ ∃ z : Value, rel T (fun _ => none) w (oldS w) (el y) z ∧ z.cells.size = eu.size ∧ (∀ u ∈ z.cells.toList, u.oneCell' = true) ∧ ∀ j u, z.cells[j]? = some u → w.cell? (a.add (i * eu.size + j)) = some u) len (fun i hi => by
      obtain ⟨cs', hc, ht'⟩ := hle i (by omega)
      obtain ⟨y, hr, h1, hwt, hok⟩ := ho _ _ _ ht'
      obtain ⟨_, hlen, hcell⟩ := World.cells?_some hc
      have hat : ∀ j u, cs'[j]? = some u → w.cell? (a.add (i * eu.size + j)) = some u := fun j u hu => by
        have hj : j < cs'.length := by
          rcases Nat.lt_or_ge j cs'.length with h | h
          · exact h
          · rw [List.getElem?_eq_none h] at hu; cases hu
        rw [← hu, ← hcell j (by omega), ← hsz, Go.Addr.add_add]
      refine ⟨y, hok, ?_⟩
      rcases hel with ⟨g1, g2, g3⟩ | ⟨g1, g2, g3⟩
      · refine ⟨by rw [g3]; simp only [wt]; exact ⟨g1, by rw [g2]; exact hwt⟩, .agg cs'.toArray, by rw [g3]; simp only [rel]; exact ⟨_, rfl, hr, h1⟩, by simp [Value.cells, hlen, hsz], h1, fun j u hu => hat j u (by simpa [Value.cells] using hu)⟩
      · rw [g3, g2] at hwt
        rw [g3] at hr
        simp only [relL] at hr
        obtain ⟨z, zs, e1, e2, e3⟩ := hr
        subst e3; subst e1
        have hz1 := h1 z (by simp)
        have hwt' : wt T (el y) e := by
          simp only [wtC] at hwt
          obtain ⟨u, us, e1, _, e3, _⟩ := hwt
          injection e1 with e1 _
          subst e1
          exact e3
        refine ⟨hwt', z, e2, by rw [cells_one hz1]; simp at hlen; simp; omega, by rw [cells_one hz1]; simpa using hz1, fun j u hu => hat j u (by rw [cells_one hz1] at hu; simpa using hu)⟩)
    have := fin (A := some a) (cap := m) l (by omega) (by have : maxLen = 9223372036854775807 := by decide
                                                          omega) (fun x hx => by
      obtain ⟨i, hi, rfl⟩ := List.mem_iff_getElem.mp hx
      exact (hp i _ (List.getElem?_eq_getElem hi)).1) (fun x hx => by
      obtain ⟨i, hi, rfl⟩ := List.mem_iff_getElem.mp hx
      exact (hp i _ (List.getElem?_eq_getElem hi)).2.1) (fun hne => ⟨a, rfl, ?_, relE_iff.2 (fun k c hk => ?_)⟩)
    · rw [hll] at this; exact this
    · cases l with
      | nil => exact absurd rfl hne
      | cons y r =>
        obtain ⟨_, _, z, _, hz2, _, hz4⟩ := hp 0 y rfl
        have h0 : 0 < z.cells.size := by omega
        have := hz4 0 _ (Array.getElem?_eq_getElem h0)
        have hbl : (a.add (0 * eu.size + 0)).block = a.block := by unfold Addr.add; split <;> rfl
        unfold World.cell? at this
        rw [hbl] at this
        cases hh : w.heap[a.block]? with
        | some o => exact (Array.getElem?_eq_some_iff.1 hh).1
        | none => rw [hh] at this; simp at this
    · rw [List.getElem?_map, Option.map_eq_some_iff] at hk
      obtain ⟨y, hy, rfl⟩ := hk
      rw [Nat.zero_add]
      exact (hp k y hy).2.2
def OpAt (T : Tr) (enc : TypeId × Value → H) (P : Program) (w : World) {α : Type} (fs : List Field) (off : Nat) (tys : List Nat) (mk : α → List V) (ok : α → Prop) : Prop :=
  ∀ cs : List Value, (∀ f ∈ fs, ∃ fuel y, DataW.trod enc P w 0 (fun _ => true) true fuel f.type ((cs.drop f.offset).take (P.cellsOf f.type)) = some y) → cs.length = off + tys.length → ∃ a, relL T (fun _ => none) w (oldS w) (mk a) (cs.drop off) ∧ (∀ u ∈ cs.drop off, u.oneCell' = true) ∧ wtC T tys (mk a) ∧ ok a
theorem OpAt.last {α : Type} {f : Field} {off : Nat} {tys : List Nat} {mk : α → List V} {ok : α → Prop} (ho : f.offset = off) (hsz : P.cellsOf f.type = tys.length) (hd : OpV T enc P w f.type tys mk ok) : OpAt T enc P w [f] off tys mk ok := by
  intro cs h hl
  obtain ⟨fuel, y, hy⟩ := h f (by simp)
  rw [ho, hsz, List.take_of_length_le (by simp; omega)] at hy
  exact hd _ _ _ hy
theorem OpAt.cons {α β : Type} {f : Field} {fs : List Field} {off : Nat} {tys tys' : List Nat} {mk : α → List V} {mk' : β → List V} {ok : α → Prop} {ok' : β → Prop} (ho : f.offset = off) (hsz : P.cellsOf f.type = tys.length) (hd : OpV T enc P w f.type tys mk ok) (hr : OpAt T enc P w fs (off + tys.length) tys' mk' ok') :
    OpAt T enc P w (f :: fs) off (tys ++ tys') (fun x : α × β => mk x.1 ++ mk' x.2) (fun x => ok x.1 ∧ ok' x.2) := by
  intro cs h hl
  obtain ⟨fuel, y, hy⟩ := h f (by simp)
  rw [ho, hsz] at hy
  obtain ⟨a, a1, a2, a3, a4⟩ := hd _ _ _ hy
  obtain ⟨b, b1, b2, b3, b4⟩ := hr cs (fun g hg => h g (by simp [hg])) (by rw [hl, List.length_append]; omega)
  have e : (cs.drop off).take tys.length ++ cs.drop (off + tys.length) = cs.drop off := by rw [← List.drop_drop, List.take_append_drop]
  refine ⟨(a, b), ?_, ?_, wtC_append a3 b3, a4, b4⟩
  · rw [← e]; exact relL_app a1 b1
  · rw [← e]; intro u hu; rcases List.mem_append.1 hu with hu | hu
    · exact a2 u hu
    · exact b2 u hu
theorem OpV.struct (htok : TyOk P T) {α : Type} {t : Nat} {te : TE} {fs : Array Field} {tys : List Nat} {mk : α → List V} {ok : α → Prop} (ht : T.look t = some te) (hd : te.desc = .struct fs) (hsz : P.cellsOf t = tys.length) (h0 : OpAt T enc P w fs.toList 0 tys mk ok) : OpV T enc P w t tys mk ok := by
  intro fuel cs x h
  have hu := htok.und _ _ ht
  rw [hd] at hu
  obtain ⟨xs, n, rfl, rfl, hl, hxl, hf⟩ := DataW.trod_struct hu h
  obtain ⟨a, a1, a2, a3, a4⟩ := h0 cs (fun f hf' => by
    obtain ⟨i, hi, rfl⟩ := List.mem_iff_getElem.mp hf'
    have h1 := hf i fs.toList[i] (by simp at hi ⊢)
    have h2 : i < xs.length := by simp at hi; omega
    rw [List.getElem?_eq_getElem h2] at h1
    exact ⟨_, _, h1⟩) (by rw [hl, hsz, Nat.zero_add])
  exact ⟨a, a1, a2, a3, a4⟩
theorem law_calls {f : Nat} {args : List V} {vals : List Value} (hb : Body P f) (h : Ab.Fn P T f args (.b true) []) (hG : GOk T w) (hr : relL T (fun _ => none) w (oldS w) args vals) : Calls P f vals.toArray w fun e w' => e = .returned (.bool true) ∧ Below w.heap.size w w' :=
  Calls.weaken ((h w (oldS w) vals (fun _ h => h) hG hr).calls hb) (fun e w' ⟨x, φ, S, h1, h2, _, h4, _⟩ => by
    simp only [rel] at h4
    subst h4
    exact ⟨h1, h2.below⟩)
theorem args_nil : relL T (fun _ => none) w (oldS w) [] [] := by simp only [relL]
theorem args_one {v : V} {x : Value} {vs : List V} {xs : List Value} (h : relL T (fun _ => none) w (oldS w) [v] [x]) (k : relL T (fun _ => none) w (oldS w) vs xs) : relL T (fun _ => none) w (oldS w) (v :: vs) (x :: xs) := relL_app h k
theorem args_agg {mk : List V} {cs : Array Value} {vs : List V} {xs : List Value} (h : relL T (fun _ => none) w (oldS w) mk cs.toList) (h1 : ∀ u ∈ cs.toList, u.oneCell' = true) (k : relL T (fun _ => none) w (oldS w) vs xs) : relL T (fun _ => none) w (oldS w) (.agg mk :: vs) (.agg cs :: xs) := by
  simp only [relL]
  exact ⟨_, xs, rfl, by simp only [rel]; exact ⟨cs, rfl, h, h1⟩, k⟩
end
end Go.Ab
end
section
namespace Go.Ab
open Go.RowKit
section
variable {P : Program} {T : Tr} {w w' : World} {φ : Nat → Option Loc} {S : Nat → Prop} {hp : Hp} {b0 : Nat → Prop} {x : Value}
theorem HOk.empty (hold : ∀ k, S k → k < w.heap.size) : HOk T (fun _ => none) b0 w S [] :=
  ⟨fun n => (by simp [look]), fun n b h => (by cases h), fun n b l B h => (by cases h), fun n m b c l k B h => (by cases h), hold⟩
end
end Go.Ab
end
section
namespace Go.Ab
open Go.RowKit
def pleS (h : Hp) (v v' : V) : Prop := match v' with
  | .sl u es => match v with
    | .nil => es = []
    | .row n => match look h n with
      | some (.row u' es') => u' = u ∧ es' = es
      | some (.ro u' es') => u' = u ∧ es' = es
      | _ => False
    | .sl u' es' => u' = u ∧ es' = es
    | _ => False
  | .i k n => match v with
    | .i k' n' => k' = k ∧ n' = n
    | _ => False
  | .b c => match v with
    | .b c' => c' = c
    | _ => False
  | .str s => match v with
    | .str s' => s' = s
    | _ => False
  | .nil => match v with
    | .nil => True
    | _ => False
  | _ => False
def pleL (h : Hp) : List V → List V → Prop
  | [], [] => True
  | v :: r, v' :: r' => pleS h v v' ∧ pleL h r r'
  | _, _ => False
def ple1 (h : Hp) (v v' : V) : Prop := match v' with
  | .agg ds => match v with
    | .agg cs => pleL h cs ds
    | _ => False
  | v' => pleS h v v'
def ple1L (h : Hp) : List V → List V → Prop
  | [], [] => True
  | v :: r, v' :: r' => ple1 h v v' ∧ ple1L h r r'
  | _, _ => False
def ple (h : Hp) (v v' : V) : Prop := match v' with
  | .tup ds => match v with
    | .tup cs => ple1L h cs ds
    | _ => False
  | v' => ple1 h v v'
section
variable {P : Program} {T : Tr} {w0 : Base} {φ : Nat → Option Loc} {w w' : World} {S S' : Nat → Prop} {v v' : V} {hp h : Hp} {b0 : Nat → Prop} {x : Value}
def allS (φ : Nat → Option Loc) (S : Nat → Prop) (h : Hp) (k : Nat) : Prop := S k ∨ ∃ n u es l, look h n = some (.row u es) ∧ φ n = some l ∧ l.blk = some k
theorem pleS_rel (P : Program) (w0 : Base) (hh : HOk T φ b0 w S h) (hr : rel T φ w S v x) (hp : pleS h v v') : rel T (fun _ => none) w (allS φ S h) v' x := by
  have free : ∀ {S1 : Nat → Prop} {et es}, (∀ k, S1 k → allS φ S h k) → rel T φ w S1 (.sl et es) x → rel T (fun _ => none) w (allS φ S h) (.sl et es) x := by
    intro S1 et es hS hr
    have hr := rel_mono (LocLe.refl φ) (w' := w) (fun _ _ => rfl) hS _ _ hr
    simp only [rel] at hr ⊢
    obtain ⟨A, cap, h1, h2, h3, h5, h6⟩ := hr
    refine ⟨A, cap, h1, h2, h3, h5, fun hne => ?_⟩
    obtain ⟨ad, e, ha, hl, hz, hs, he⟩ := h6 hne
    exact ⟨ad, e, ha, hl, hz, hs, wtL_free es et 0 ad e.size h5 he⟩
  cases v' with
  | sl u es =>
    simp only [pleS] at hp
    split at hp
    · subst hp
      simp only [rel] at hr ⊢
      subst hr
      exact ⟨none, 0, rfl, Nat.le_refl _, Nat.zero_le _, by simp [wtL], fun hne => absurd rfl hne⟩
    · rename_i n
      have hx := expS_ok (P := P) (w0 := w0) hh hr
      split at hp
      · rename_i u' es' hl
        obtain ⟨rfl, rfl⟩ := hp
        simp only [expS, hl] at hx
        refine free (fun k hk => ?_) hx
        rcases hk with hk | ⟨m, hm, l, h1, h2⟩
        · exact .inl hk
        · simp only [rowsS, List.mem_singleton] at hm
          subst hm
          exact .inr ⟨m, _, _, l, hl, h1, h2⟩
      · rename_i u' es' hl
        obtain ⟨rfl, rfl⟩ := hp
        simp only [expS, hl] at hx
        refine free (fun k hk => ?_) hx
        rcases hk with hk | ⟨m, hm, l, h1, h2⟩
        · exact .inl hk
        · simp only [rowsS, List.mem_singleton] at hm
          subst hm
          exact .inl (ro_S hh hl l k h1 h2)
      · exact hp.elim
    · obtain ⟨rfl, rfl⟩ := hp
      exact free (fun k hk => .inl hk) hr
    · exact hp.elim
  | i k n =>
    simp only [pleS] at hp
    split at hp
    · obtain ⟨rfl, rfl⟩ := hp; simpa only [rel] using hr
    · exact hp.elim
  | b c =>
    simp only [pleS] at hp
    split at hp
    · subst hp; simpa only [rel] using hr
    · exact hp.elim
  | str s =>
    simp only [pleS] at hp
    split at hp
    · subst hp; simpa only [rel] using hr
    · exact hp.elim
  | nil =>
    simp only [pleS] at hp
    split at hp
    · simpa only [rel] using hr
    · exact hp.elim
  | _ => exact hp.elim
theorem pleL_rel (P : Program) (w0 : Base) (hh : HOk T φ b0 w S h) : ∀ {cs ds : List V} {xs : List Value}, relL T φ w S cs xs → pleL h cs ds → relL T (fun _ => none) w (allS φ S h) ds xs
  | [], [], xs, hr, _ => by simpa only [relL] using hr
  | v :: r, v' :: r', xs, hr, hp => by
    simp only [relL, pleL] at hr hp ⊢
    obtain ⟨x, xs', h1, h2, h3⟩ := hr
    exact ⟨x, xs', h1, pleS_rel P w0 hh h2 hp.1, pleL_rel P w0 hh h3 hp.2⟩
  | [], _ :: _, _, _, hp => hp.elim
  | _ :: _, [], _, _, hp => hp.elim
theorem ple1_rel (P : Program) (w0 : Base) (hh : HOk T φ b0 w S h) (hr : rel T φ w S v x) (hp : ple1 h v v') : rel T (fun _ => none) w (allS φ S h) v' x := by
  cases v' with
  | agg ds =>
    simp only [ple1] at hp
    split at hp
    · simp only [rel] at hr ⊢
      obtain ⟨a, h1, h2, h3⟩ := hr
      exact ⟨a, h1, pleL_rel P w0 hh h2 hp, h3⟩
    · exact hp.elim
  | _ => exact pleS_rel P w0 hh hr (by simpa only [ple1] using hp)
theorem ple1L_rel (P : Program) (w0 : Base) (hh : HOk T φ b0 w S h) : ∀ {cs ds : List V} {xs : List Value}, relL T φ w S cs xs → ple1L h cs ds → relL T (fun _ => none) w (allS φ S h) ds xs
  | [], [], xs, hr, _ => by simpa only [relL] using hr
  | v :: r, v' :: r', xs, hr, hp => by
    simp only [relL, ple1L] at hr hp ⊢
    obtain ⟨x, xs', h1, h2, h3⟩ := hr
    exact ⟨x, xs', h1, ple1_rel P w0 hh h2 hp.1, ple1L_rel P w0 hh h3 hp.2⟩
  | [], _ :: _, _, _, hp => hp.elim
  | _ :: _, [], _, _, hp => hp.elim
theorem ple_rel (P : Program) (w0 : Base) (hh : HOk T φ b0 w S h) (hr : rel T φ w S v x) (hp : ple h v v') : rel T (fun _ => none) w (allS φ S h) v' x := by
  cases v' with
  | tup ds =>
    simp only [ple] at hp
    split at hp
    · simp only [rel] at hr ⊢
      obtain ⟨a, h1, h2⟩ := hr
      exact ⟨a, h1, ple1L_rel P w0 hh h2 hp⟩
    · exact hp.elim
  | _ => exact ple1_rel P w0 hh hr (by simpa only [ple] using hp)
def FnR (P : Program) (T : Tr) (f : Nat) (args : List V) (R : V → Hp → Prop) : Prop :=
  ∀ (w : World) (S : Nat → Prop) (vals : List Value), (∀ k, S k → k < w.heap.size) → GOk T w → relL T (fun _ => none) w S args vals →
    Goes P f vals.toArray w fun e w' => ∃ x φ' S' v post, e = .returned x ∧ Since (.of w) w' ∧ HOk T φ' (oldZ w) w' S' post ∧ rel T φ' w' S' v x ∧ (∀ k, S' k → S k ∨ w.heap.size ≤ k) ∧ R v post
theorem FnR.pure {f : Nat} {args : List V} {res : V} (hf : FnR P T f args fun v h => ple h v res) : Fn P T f args res [] := by
  refine fun w S vals hold hG hr => Goes.weaken (hf w S vals hold hG hr) (fun e w' hq => ?_)
  obtain ⟨x, φ', S', v, post, he, h1, h2, h3, h4, h5⟩ := hq
  have hx := ple_rel P (.of w) h2 h3 h5
  refine ⟨x, fun _ => none, allS φ' S' post, he, h1, HOk.empty (fun k hk => ?_), hx, fun k hk => ?_⟩
  · rcases hk with hk | ⟨n, u, es, l, g1, g2, g3⟩
    · exact h2.old k hk
    · exact (h2.own n _ l k g1 rfl g2 g3).2.1
  · rcases hk with hk | ⟨n, u, es, l, g1, g2, g3⟩
    · exact h4 k hk
    · exact .inr (Nat.not_lt.1 (h2.own n _ l k g1 rfl g2 g3).1)
theorem FnR.of {f : Nat} {args : List V} {res : V} {post : Hp} {R : V → Hp → Prop} (hf : Fn P T f args res post) (hR : R res post) : FnR P T f args R :=
  fun w S vals hold hG hr => Goes.weaken (hf w S vals hold hG hr) (fun e w' ⟨x, φ', S', he, h1, h2, h3, h4⟩ => ⟨x, φ', S', res, post, he, h1, h2, h3, h4, hR⟩)
theorem Fn.pure {f : Nat} {args : List V} {res res' : V} {post : Hp} (hf : Fn P T f args res post) (hp : ple post res res') : Fn P T f args res' [] :=
  FnR.pure (FnR.of hf hp)
theorem fnr_of_vc (htok : TyOk P T) {f : Nat} {fn : Func} {c : Code} {W : Nat → List (List Nat)} {args : List V} {R : V → Hp → Prop} (hf : P.funcs[f]? = some fn) (hname : (fn.name == "runtime.NumGoroutine") = false) (hb : fn.body = some c) (hok : codeOk W c = true)
    (h : ∀ w : World, GZ T (.of w) → vc (real P T (.of w)) T W c (retK (real P T (.of w)) T fn.results.toList R) (args ++ List.replicate (fn.ntmps - args.length) .dead) []) : FnR P T f args R := by
  refine fun w S vals hold hG hr => .inl ⟨⟨fn, c, hf, hname, hb⟩, ?_⟩
  haveI := GZ.of_ok hG
  have hlen := (relL_iff.1 hr).1
  refine (callsIn_wide (n := 0)).1 (callsIn_of_wp hf hb trivial ?_)
  have hi : Inv T (.of w) (fun _ => none) S (args ++ List.replicate (fn.ntmps - args.length) .dead) [] { tmps := vals.toArray ++ Array.replicate (fn.ntmps - vals.toArray.size) undef, defers := [] } w := by
    refine ⟨Since.refl w, by simp [hlen], fun t => ?_, rfl, ⟨fun n => by simp [look], fun n b h => (by cases h), fun n b l B h => (by cases h), fun n m b c l k B h => (by cases h), hold⟩, fun p hp => by cases hp⟩
    by_cases ht : t < args.length
    · obtain ⟨u, h1, h2⟩ := relL_get hr ht
      have e1 : (args ++ List.replicate (fn.ntmps - args.length) V.dead).getD t .dead = args.getD t .dead := by
        simp only [List.getD_eq_getElem?_getD, List.getElem?_append_left ht]
      have e2 : (vals.toArray ++ Array.replicate (fn.ntmps - vals.toArray.size) undef).getD t undef = u := by
        rw [Array.getD_eq_getD_getElem?, Array.getElem?_append_left (by simp; omega)]
        simp [h1]
      rw [e1, e2]
      exact h2
    · have e1 : (args ++ List.replicate (fn.ntmps - args.length) V.dead).getD t .dead = .dead := by
        simp only [List.getD_eq_getElem?_getD, List.getElem?_append_right (by omega : args.length ≤ t), List.getElem?_replicate]
        split <;> rfl
      rw [e1]
      simp only [rel]
  have key : ∀ {tm hp φ S' a w'}, SLe (oldZ w) S S' → Inv T (.of w) φ S' tm hp a w' → retF (real P T (.of w)) T fn.results.toList R tm hp →
      a.defers = [] ∧ ∃ v, (results fn a.tmps).run P w' = .ok v w' ∧ ∃ x φ' S' r post, Ending.returned v = .returned x ∧ Since (.of w) w' ∧ HOk T φ' (oldZ w) w' S' post ∧ rel T φ' w' S' r x ∧ (∀ k, S' k → S k ∨ w.heap.size ≤ k) ∧ R r post := by
    intro tm hp φ S' a w' hS hi h
    obtain ⟨x, v, φ', S2, post', h1, h2, h3, h4, h5⟩ := results_ok htok hi h
    exact ⟨hi.dfr, x, h1, x, φ', S2, v, post', rfl, hi.since, h3, h4, fun k hk => ((hS.trans h2).2 k hk).imp id Nat.not_lt.1, h5⟩
  refine wpIn_mono (vc_ok htok c hok (h w this) _ _ _ _ hi) (fun e a' w' hp => ?_)
  obtain ⟨φ', S', tm', hp', h1, h2, h3, h4⟩ := hp
  cases e with
  | normal => exact key h1 h2 h3
  | ret => exact key h1 h2 h3
  | exit i => exact h3.elim
  | _ => exact h4.elim
theorem fn_pure (htok : TyOk P T) {f : Nat} {fn : Func} {c : Code} (W : Nat → List (List Nat)) {args : List V} {res : V} (hf : P.funcs[f]? = some fn) (hname : (fn.name == "runtime.NumGoroutine") = false) (hb : fn.body = some c) (hok : codeOk W c = true)
    (h : ∀ ar un cv mn mx pl mi cmp nt beq an scmp cat slen sbyte ssub ofB toB len gi gb gs gl sub put app ovl rep ne0 ge0 inb bnd room sroom need br call callb loop cut nl, Eqs ar un cv mn mx pl mi cmp nt beq an scmp cat slen sbyte ssub ofB toB len gi gb gs gl sub put app ovl rep ne0 ge0 inb bnd room sroom → Rules P T W [] ar un cv mn mx pl mi cmp nt beq an scmp cat slen sbyte ssub ofB toB len gi gb gs gl sub put app ovl rep ne0 ge0 inb bnd room sroom need br call callb loop cut nl → ∀ K : V → Hp → Prop, (∀ v h, ple h v res → K v h) → vc ⟨ar, un, cv, mn, mx, pl, mi, cmp, nt, beq, an, scmp, cat, slen, sbyte, ssub, ofB, toB, len, gi, gb, gs, gl, sub, put, app, ovl, rep, ne0, ge0, inb, bnd, room, sroom, need, br, call, callb, loop, cut, nl⟩ T W c (retK ⟨ar, un, cv, mn, mx, pl, mi, cmp, nt, beq, an, scmp, cat, slen, sbyte, ssub, ofB, toB, len, gi, gb, gs, gl, sub, put, app, ovl, rep, ne0, ge0, inb, bnd, room, sroom, need, br, call, callb, loop, cut, nl⟩ T fn.results.toList K) (args ++ List.replicate (fn.ntmps - args.length) .dead) []) : Ab.Fn P T f args res [] := by
  refine FnR.pure (fnr_of_vc htok hf hname hb hok (fun w g => ?_))
  generalize ho : real P T (.of w) = o
  have ho := ho.symm
  obtain ⟨ar, un, cv, mn, mx, pl, mi, cmp, nt, beq, an, scmp, cat, slen, sbyte, ssub, ofB, toB, len, gi, gb, gs, gl, sub, put, app, ovl, rep, ne0, ge0, inb, bnd, room, sroom, need, br, call, callb, loop, cut, nl⟩ := o
  refine h _ _ _ _ _ _ _ _ _ _ _ _ _ _ _ _ _ _ _ _ _ _ _ _ _ _ _ _ _ _ _ _ _ _ _ _ _ _ _ _ _ ?_ ?_ _ (fun v h hp => hp)
  · have e := ho.symm
    unfold real at e
    injection e with e_ar e_un e_cv e_mn e_mx e_pl e_mi e_cmp e_nt e_beq e_an e_scmp e_cat e_slen e_sbyte e_ssub e_ofB e_toB e_len e_gi e_gb e_gs e_gl e_sub e_put e_app e_ovl e_rep e_ne0 e_ge0 e_inb e_bnd e_room e_sroom e_need e_br e_call e_callb e_loop e_cut e_nl
    subst e_ar e_un e_cv e_mn e_mx e_pl e_mi e_cmp e_nt e_beq e_an e_scmp e_cat e_slen e_sbyte e_ssub e_ofB e_toB e_len e_gi e_gb e_gs e_gl e_sub e_put e_app e_ovl e_rep e_ne0 e_ge0 e_inb e_bnd e_room e_sroom e_need e_br e_call e_callb e_loop e_cut e_nl
    constructor <;> intros <;> rfl
  · exact ⟨fun h1 h2 => real_need ho h1 h2, fun h1 h2 => real_br ho h1 h2, fun h1 h2 h3 => by subst h2; exact real_call ho h1 h3, fun h1 h2 => real_callb ho h1 h2, fun t n et _ h1 h2 h3 h4 h5 => real_born ho h1 h2 h3 h4 h5, fun n0 j n et _ _ _ h0 h1 h2 h3 h4 h5 => real_bornC ho h0 h1 h2 h3 h4 h5, fun h1 h2 => real_nl ho h1 h2, fun ha hb h => real_cut ho htok ha hb h, fun n sl hs ha hb h hk => real_cutF ho htok (fun p hp => by cases hp) n sl hs ha hb h hk, fun n sl hs I μ a0 ρ0 h0 h1 h2 h3 => real_loop_ok ho htok (fun p hp => by cases hp) n sl hs I μ a0 ρ0 h0 h1 h2 h3⟩
end
end Go.Ab
end
section
namespace Go.Ab
open Go.RowKit
def dstsOf : List Oper → List Nat
  | [] => []
  | x :: r => match x.dst with
    | some t => t :: dstsOf r
    | none => dstsOf r
def asgs : Code → List Nat
  | .region _ ops _ => dstsOf ops.toList
  | .seq a b => asgs a ++ asgs b
  | .cond _ a b => asgs a ++ asgs b
  | .block _ b => asgs b
  | .loop b => asgs b
  | .scope b => asgs b
  | .rangeFunc _ ps a b => ps.toList ++ (asgs a ++ asgs b)
  | _ => []
def anyN : List Nat → List Nat → Bool
  | [], _ => false
  | n :: r, l => match memN n l with
    | true => true
    | false => anyN r l
def stays (as_ ns : List Nat) : Nat → List V → List (Nat × V)
  | _, [] => []
  | t, v :: r => match memN t as_ with
    | true => stays as_ ns (t + 1) r
    | false => match v with
      | .dead => stays as_ ns (t + 1) r
      | v => match anyN (names v) ns with
        | true => stays as_ ns (t + 1) r
        | false => (t, v) :: stays as_ ns (t + 1) r
def namesU : List (Nat × V) → List Nat
  | [] => []
  | (_, v) :: r => names v ++ namesU r
def keysOf {α : Type} : List (Nat × α) → List Nat
  | [] => []
  | (n, _) :: r => n :: keysOf r
def slotsU (b : Code) (dr : List Nat) (tm : List V) (up : List (Nat × V)) : List (Nat × V) := up ++ stays (keysOf up ++ asgs b) (namesU up ++ dr) 0 tm
def restH (seen : List Nat) : Hp → Hp
  | [] => []
  | (n, b) :: r => match memN n seen with
    | true => restH seen r
    | false => match b with
      | .gone => restH (n :: seen) r
      | b => (n, b) :: restH (n :: seen) r
def heapU (dr : List Nat) (hp uh : Hp) : Hp := uh ++ restH (keysOf uh ++ dr) hp
def matV : V → V → List (Nat × Nat)
  | .row n, .row m => [(n, m)]
  | .rowp n _ _, .rowp m _ _ => [(n, m)]
  | .ptr n _, .ptr m _ => [(n, m)]
  | .ep n _ _, .ep m _ _ => [(n, m)]
  | _, _ => []
def matL : List V → List V → List (Nat × Nat)
  | a :: r, b :: s => matV a b ++ matL r s
  | _, _ => []
def mat1 : V → V → List (Nat × Nat)
  | .agg cs, .agg ds => matL cs ds
  | a, b => matV a b
def matU : List (Nat × V) → List V → List (Nat × Nat)
  | [], _ => []
  | (t, v) :: r, tm => mat1 v (tm.getD t .dead) ++ matU r tm
def matH : Hp → Hp → List (Nat × Nat)
  | [], _ => []
  | (n, b) :: r, hp => (match b, look hp n with
    | .cells _ cs, some (.cells _ ds) => matL cs ds
    | _, _ => []) ++ matH r hp
def rhoU (up : List (Nat × V)) (uh : Hp) (tm : List V) (hp : Hp) : List (Nat × Nat) := matU up tm ++ matH uh hp
structure FitsU (ns : List Nat) (b : Code) (dr : List Nat) (tm0 : List V) (hp0 : Hp) (up : List (Nat × V)) (uh : Hp) (tm : List V) (hp : Hp) : Prop where
  len : tm.length = tm0.length
  slots : fitsS (rhoU up uh tm hp) tm (slotsU b dr tm0 up)
  rows : fitsH (rhoU up uh tm hp) hp (heapU dr hp0 uh)
  ok : okState (rhoU up uh tm hp) (slotsU b dr tm0 up) (heapU dr hp0 uh) = true
  anc : ancOk (rhoU up uh tm hp) (heapU dr hp0 uh) ns = true
theorem FitsU.fits {ns : List Nat} {b : Code} {dr : List Nat} {tm0 : List V} {hp0 : Hp} {up : List (Nat × V)} {uh : Hp} {tm : List V} {hp : Hp} (h : FitsU ns b dr tm0 hp0 up uh tm hp) : Fits ns tm0.length (rhoU up uh tm hp) (slotsU b dr tm0 up) (heapU dr hp0 uh) tm hp :=
  ⟨h.len, h.slots, h.rows, h.ok, h.anc⟩
section
variable {P : Program} {T : Tr} {W : Nat → List (List Nat)} {ns : List Nat} {ar : BinOp → IntKind → Int → Int → Int} {un : UnOp → IntKind → Int → Int} {cv : IntKind → Int → Int} {mn : Int → Int → Int} {mx : Int → Int → Int} {pl : Int → Int → Int} {mi : Int → Int → Int} {cmp : BinOp → Int → Int → Bool} {nt : Bool → Bool} {beq : Bool → Bool → Bool} {an : Bool → Bool → Bool} {scmp : BinOp → ByteArray → ByteArray → Bool} {cat : ByteArray → ByteArray → ByteArray} {slen : ByteArray → Int} {sbyte : ByteArray → Int → Int} {ssub : ByteArray → Int → Int → ByteArray} {ofB : ByteArray → List V} {toB : List V → ByteArray} {len : List V → Int} {gi : List V → Int → Nat → Int} {gb : List V → Int → Nat → Bool} {gs : List V → Int → Nat → ByteArray} {gl : List V → Int → Nat → List V} {sub : List V → Int → Int → List V} {put : List V → Int → Nat → List V → List V} {app : List V → List V → List V} {ovl : List V → Int → List V → List V} {rep : Int → V → List V} {ne0 : Int → Prop} {ge0 : Int → Prop} {inb : Int → Int → Prop} {bnd : Int → Int → Int → Prop} {room : Int → Nat → Prop} {sroom : ByteArray → ByteArray → Prop} {need : Prop → Prop → Prop} {br : Bool → (Unit → Prop) → (Unit → Prop) → Prop} {call : Nat → List V → (V → Hp → Prop) → Prop} {callb : Nat → List V → Hp → (V → Hp → Prop) → Prop} {loop : Code → (Exit → List V → Hp → Prop) → List V → Hp → Prop} {cut : Code → Code → (Exit → List V → Hp → Prop) → List V → Hp → Prop} {nl : List V → (Unit → Prop) → (Unit → Prop) → Prop}
theorem Rules.loopU (R : Rules P T W ns ar un cv mn mx pl mi cmp nt beq an scmp cat slen sbyte ssub ofB toB len gi gb gs gl sub put app ovl rep ne0 ge0 inb bnd room sroom need br call callb loop cut nl)
    {b : Code} {K : Exit → List V → Hp → Prop} {tm : List V} {hp : Hp} {α : Type} (dr : List Nat) (up : α → List (Nat × V)) (uh : α → Hp) (I : α → Prop) (μ : α → Nat) (a0 : α) (h0 : I a0) (hf : FitsU ns b dr tm hp (up a0) (uh a0) tm hp) (hok : codeOk W b = true)
    (hs : ∀ a, I a → ∀ L : List V → Hp → Prop, (∀ a' tm' hp', I a' → μ a' < μ a → FitsU ns b dr tm hp (up a') (uh a') tm' hp' → L tm' hp') → vc ⟨ar, un, cv, mn, mx, pl, mi, cmp, nt, beq, an, scmp, cat, slen, sbyte, ssub, ofB, toB, len, gi, gb, gs, gl, sub, put, app, ovl, rep, ne0, ge0, inb, bnd, room, sroom, need, br, call, callb, loop, cut, nl⟩ T W b (fun e tm hp => match e with | .normal => L tm hp | e => K e tm hp) (mkS tm.length (slotsU b dr tm (up a))) (heapU dr hp (uh a))) : loop b K tm hp := by
  refine R.loop' tm.length (fun a => slotsU b dr tm (up a)) (fun a => heapU dr hp (uh a)) I (fun a => μ a) a0 _ h0 hf.fits hok (fun a ha L hL => ?_)
  exact hs a ha L (fun a' tm' hp' h1 h2 h3 => hL a' _ tm' hp' h1 h2 h3.fits)
end
end Go.Ab
end
section
namespace Go.Ab
open Go.RowKit
section
variable {S R : Type}
def iterN (f : S → Option (S ⊕ R)) : Nat → S → Option R
  | 0, _ => none
  | n + 1, s => match f s with
    | none => none
    | some (.inl s') => iterN f n s'
    | some (.inr r) => some r
theorem iterN_more {f : S → Option (S ⊕ R)} {r : R} : ∀ {n m : Nat} {s : S}, iterN f n s = some r → n ≤ m → iterN f m s = some r
  | 0, _, _, h, _ => by cases h
  | n + 1, 0, _, _, hm => by omega
  | n + 1, m + 1, s, h, hm => by
    simp only [iterN] at h ⊢
    split at h
    · cases h
    · exact iterN_more h (by omega)
    · exact h
open Classical in
noncomputable def iter (f : S → Option (S ⊕ R)) (s : S) : Option R := if h : ∃ r, ∃ n, iterN f n s = some r then some h.choose else none
theorem iter_iff {f : S → Option (S ⊕ R)} {s : S} {r : R} : iter f s = some r ↔ ∃ n, iterN f n s = some r := by
  unfold iter
  constructor
  · intro h
    split at h
    · rename_i hx
      injection h with h
      rw [← h]
      exact hx.choose_spec
    · cases h
  · rintro ⟨n, hn⟩
    have hx : ∃ r, ∃ n, iterN f n s = some r := ⟨r, n, hn⟩
    rw [dif_pos hx]
    obtain ⟨m, hm⟩ := hx.choose_spec
    have h1 := iterN_more hn (Nat.le_max_left n m)
    have h2 := iterN_more hm (Nat.le_max_right n m)
    rw [h1] at h2
    exact h2.symm
theorem iter_inl {f : S → Option (S ⊕ R)} {s s' : S} (h : f s = some (.inl s')) : iter f s = iter f s' := by
  cases hx : iter f s' with
  | some r =>
    obtain ⟨n, hn⟩ := iter_iff.1 hx
    exact iter_iff.2 ⟨n + 1, by simp only [iterN, h]; exact hn⟩
  | none =>
    cases hy : iter f s with
    | none => rfl
    | some r =>
      obtain ⟨n, hn⟩ := iter_iff.1 hy
      cases n with
      | zero => cases hn
      | succ n =>
        simp only [iterN, h] at hn
        rw [iter_iff.2 ⟨n, hn⟩] at hx
        cases hx
theorem iter_inr {f : S → Option (S ⊕ R)} {s : S} {r : R} (h : f s = some (.inr r)) : iter f s = some r := iter_iff.2 ⟨1, by simp only [iterN, h]⟩
theorem iter_fun {f : S → Option (S ⊕ R)} (I : S → Prop) (μ : S → Nat) (g : S → R) (h : ∀ s, I s → (∃ s', f s = some (.inl s') ∧ I s' ∧ μ s' < μ s ∧ g s' = g s) ∨ f s = some (.inr (g s))) (s : S) (h0 : I s) : iter f s = some (g s) := by
  have key : ∀ n s, μ s < n → I s → iter f s = some (g s) := by
    intro n
    induction n with
    | zero => intro s hs; omega
    | succ n ih =>
      intro s hs hi
      rcases h s hi with ⟨s', h1, h2, h3, h4⟩ | h1
      · rw [iter_inl h1, ih s' (by omega) h2, h4]
      · exact iter_inr h1
  exact key _ s (Nat.lt_succ_self _) h0
theorem iterN_succ {f : S → Option (S ⊕ R)} {n : Nat} {s : S} {r : R} (h : iterN f n s = some r) : ∃ m, n = m + 1 ∧ ∃ y, f s = some y ∧ (match y with | .inl s' => iterN f m s' = some r | .inr q => q = r) := by
  cases n with
  | zero => cases h
  | succ m =>
    simp only [iterN] at h
    refine ⟨m, rfl, ?_⟩
    split at h
    · cases h
    · rename_i s' e; exact ⟨_, e, h⟩
    · rename_i q e; injection h with h; exact ⟨_, e, h⟩
end
theorem need_some {α : Type} {p : Prop} [Decidable p] {x : Option α} {r : α} (h : (if p then x else none) = some r) : p ∧ x = some r := by
  by_cases hp : p
  · rw [if_pos hp] at h; exact ⟨hp, h⟩
  · rw [if_neg hp] at h; cases h
theorem bind_some' {α β : Type} {x : Option α} {f : α → Option β} {r : β} (h : x.bind f = some r) : ∃ a, x = some a ∧ f a = some r := Option.bind_eq_some_iff.1 h
def ownS (v v' : V) : List (Nat × Nat) := match v' with
  | .row j => match v with
    | .row n => [(j, n)]
    | _ => []
  | _ => []
def ownL : List V → List V → List (Nat × Nat)
  | v :: r, v' :: r' => ownS v v' ++ ownL r r'
  | _, _ => []
def own1 (v v' : V) : List (Nat × Nat) := match v' with
  | .agg ds => match v with
    | .agg cs => ownL cs ds
    | _ => []
  | v' => ownS v v'
def own1L : List V → List V → List (Nat × Nat)
  | v :: r, v' :: r' => own1 v v' ++ own1L r r'
  | _, _ => []
def ownV (v v' : V) : List (Nat × Nat) := match v' with
  | .tup ds => match v with
    | .tup cs => own1L cs ds
    | _ => []
  | v' => own1 v v'
def shwS (v v' : V) : List Nat := match v' with
  | .sl _ _ => match v with
    | .row n => [n]
    | _ => []
  | _ => []
def shwL : List V → List V → List Nat
  | v :: r, v' :: r' => shwS v v' ++ shwL r r'
  | _, _ => []
def shw1 (v v' : V) : List Nat := match v' with
  | .agg ds => match v with
    | .agg cs => shwL cs ds
    | _ => []
  | v' => shwS v v'
def shw1L : List V → List V → List Nat
  | v :: r, v' :: r' => shw1 v v' ++ shw1L r r'
  | _, _ => []
def shwV (v v' : V) : List Nat := match v' with
  | .tup ds => match v with
    | .tup cs => shw1L cs ds
    | _ => []
  | v' => shw1 v v'
def oleS (ρ : List (Nat × Nat)) (h post : Hp) (v v' : V) : Prop := match v' with
  | .row j => match v with
    | .row n => nameR ρ j = n ∧ hasN post j = true
    | _ => False
  | v' => pleS h v v'
def oleL (ρ : List (Nat × Nat)) (h post : Hp) : List V → List V → Prop
  | [], [] => True
  | v :: r, v' :: r' => oleS ρ h post v v' ∧ oleL ρ h post r r'
  | _, _ => False
def ole1 (ρ : List (Nat × Nat)) (h post : Hp) (v v' : V) : Prop := match v' with
  | .agg ds => match v with
    | .agg cs => oleL ρ h post cs ds
    | _ => False
  | v' => oleS ρ h post v v'
def ole1L (ρ : List (Nat × Nat)) (h post : Hp) : List V → List V → Prop
  | [], [] => True
  | v :: r, v' :: r' => ole1 ρ h post v v' ∧ ole1L ρ h post r r'
  | _, _ => False
def ole (ρ : List (Nat × Nat)) (h post : Hp) (v v' : V) : Prop := match v' with
  | .tup ds => match v with
    | .tup cs => ole1L ρ h post cs ds
    | _ => False
  | v' => ole1 ρ h post v v'
def bnS (post : Hp) (v v' : V) : V := match v' with
  | .row j => match v with
    | .nil => match look post j with
      | some (.row _ _) => .row (1000000 + j)
      | _ => v
    | v => v
  | _ => v
def bnL (post : Hp) : List V → List V → List V
  | v :: r, v' :: r' => bnS post v v' :: bnL post r r'
  | vs, _ => vs
def bn1 (post : Hp) (v v' : V) : V := match v' with
  | .agg ds => match v with
    | .agg cs => .agg (bnL post cs ds)
    | v => v
  | v' => bnS post v v'
def bn1L (post : Hp) : List V → List V → List V
  | v :: r, v' :: r' => bn1 post v v' :: bn1L post r r'
  | vs, _ => vs
def bnV (post : Hp) (v v' : V) : V := match v' with
  | .tup ds => match v with
    | .tup cs => .tup (bn1L post cs ds)
    | v => v
  | v' => bn1 post v v'
def bhS (post : Hp) (v v' : V) : Hp := match v' with
  | .row j => match v with
    | .nil => match look post j with
      | some (.row u _) => [(1000000 + j, .row u [])]
      | _ => []
    | _ => []
  | _ => []
def bhL (post : Hp) : List V → List V → Hp
  | v :: r, v' :: r' => bhS post v v' ++ bhL post r r'
  | _, _ => []
def bh1 (post : Hp) (v v' : V) : Hp := match v' with
  | .agg ds => match v with
    | .agg cs => bhL post cs ds
    | _ => []
  | v' => bhS post v v'
def bh1L (post : Hp) : List V → List V → Hp
  | v :: r, v' :: r' => bh1 post v v' ++ bh1L post r r'
  | _, _ => []
def bhV (post : Hp) (v v' : V) : Hp := match v' with
  | .tup ds => match v with
    | .tup cs => bh1L post cs ds
    | _ => []
  | v' => bh1 post v v'
def bhOk (T : Tr) (h : Hp) : Hp → Bool
  | [] => true
  | (n, b) :: r => match bhOk T h r with
    | false => false
    | true => match look (r ++ h) n with
      | some _ => false
      | none => match b with
        | .row u es => match es with
          | [] => match T.look u with
            | some e => Nat.blt 0 e.size
            | none => false
          | _ :: _ => false
        | _ => false
structure OwnOk0 (post : Hp) (v' : V) (v : V) (h : Hp) : Prop where
  rows : fitsH (ownV v v') (frzN h (shwV v v') ++ h) post
  blks : okBlks post post = true
  once : once (ownV v v') post [] [] = true
  live : liveN h (shwV v v') = true
  le : ole (ownV v v') h post v v'
structure OwnOk (T : Tr) (post : Hp) (v' : V) (v : V) (h : Hp) : Prop where
  born : bhOk T h (bhV post v v') = true
  own : OwnOk0 post v' (bnV post v v') (bhV post v v' ++ h)
section
variable {P : Program} {T : Tr} {w0 : Base} {φ : Nat → Option Loc} {w w' : World} {S S' : Nat → Prop} {v v' : V} {hp h post : Hp} {b0 : Nat → Prop} {x : Value}
theorem oleS_rel (P : Program) (w0 : Base) {ρ : List (Nat × Nat)} (hh : HOk T φ b0 w S h) (hS : ∀ k, S k → S' k) (hO : ∀ k, OB φ (shwS v v') k → S' k) (hr : rel T φ w S v x) (hp : oleS ρ h post v v') : rel T (fitφ φ ρ post) w S' v' x := by
  have free : ∀ {S1 : Nat → Prop} {et es}, (∀ k, S1 k → S' k) → rel T φ w S1 (.sl et es) x → rel T (fitφ φ ρ post) w S' (.sl et es) x := by
    intro S1 et es hS hr
    have hr := rel_mono (LocLe.refl φ) (w' := w) (fun _ _ => rfl) hS _ _ hr
    simp only [rel] at hr ⊢
    obtain ⟨A, cap, h1, h2, h3, h5, h6⟩ := hr
    refine ⟨A, cap, h1, h2, h3, h5, fun hne => ?_⟩
    obtain ⟨ad, e, ha, hl, hz, hs, he⟩ := h6 hne
    exact ⟨ad, e, ha, hl, hz, hs, wtL_free es et 0 ad e.size h5 he⟩
  cases v' with
  | row j =>
    simp only [oleS] at hp
    split at hp
    · rename_i n
      obtain ⟨h1, h2⟩ := hp
      have hj : fitφ φ ρ post j = φ n := by simp only [fitφ, if_pos h2, h1]
      simp only [rel] at hr ⊢
      rw [hj]
      exact hr
    · exact hp.elim
  | sl u es =>
    simp only [oleS, pleS] at hp
    split at hp
    · subst hp
      simp only [rel] at hr ⊢
      subst hr
      exact ⟨none, 0, rfl, Nat.le_refl _, Nat.zero_le _, by simp [wtL], fun hne => absurd rfl hne⟩
    · rename_i n
      have hx := expS_ok (P := P) (w0 := w0) hh hr
      have hO' : ∀ k, (S k ∨ OB φ (rowsS (.row n)) k) → S' k := fun k hk => hk.elim (hS k) (fun hk => hO k (by simpa [shwS, rowsS] using hk))
      split at hp
      · rename_i u' es' hl
        obtain ⟨rfl, rfl⟩ := hp
        simp only [expS, hl] at hx
        exact free hO' hx
      · rename_i u' es' hl
        obtain ⟨rfl, rfl⟩ := hp
        simp only [expS, hl] at hx
        exact free hO' hx
      · exact hp.elim
    · obtain ⟨rfl, rfl⟩ := hp
      exact free hS hr
    · exact hp.elim
  | i k n =>
    simp only [oleS, pleS] at hp
    split at hp
    · obtain ⟨rfl, rfl⟩ := hp; simpa only [rel] using hr
    · exact hp.elim
  | b c =>
    simp only [oleS, pleS] at hp
    split at hp
    · subst hp; simpa only [rel] using hr
    · exact hp.elim
  | str s =>
    simp only [oleS, pleS] at hp
    split at hp
    · subst hp; simpa only [rel] using hr
    · exact hp.elim
  | nil =>
    simp only [oleS, pleS] at hp
    split at hp
    · simpa only [rel] using hr
    · exact hp.elim
  | _ => exact hp.elim
theorem OB_left {a b : List Nat} {k : Nat} (h : OB φ a k) : OB φ (a ++ b) k := by
  obtain ⟨n, hn, h⟩ := h
  exact ⟨n, List.mem_append_left _ hn, h⟩
theorem OB_right {a b : List Nat} {k : Nat} (h : OB φ b k) : OB φ (a ++ b) k := by
  obtain ⟨n, hn, h⟩ := h
  exact ⟨n, List.mem_append_right _ hn, h⟩
theorem oleL_rel (P : Program) (w0 : Base) {ρ : List (Nat × Nat)} (hh : HOk T φ b0 w S h) (hS : ∀ k, S k → S' k) : ∀ {cs ds : List V} {xs : List Value}, (∀ k, OB φ (shwL cs ds) k → S' k) → relL T φ w S cs xs → oleL ρ h post cs ds → relL T (fitφ φ ρ post) w S' ds xs
  | [], [], xs, _, hr, _ => by simpa only [relL] using hr
  | v :: r, v' :: r', xs, hO, hr, hp => by
    simp only [relL, oleL] at hr hp ⊢
    obtain ⟨x, xs', h1, h2, h3⟩ := hr
    exact ⟨x, xs', h1, oleS_rel P w0 hh hS (fun k hk => hO k (by simp only [shwL]; exact OB_left hk)) h2 hp.1, oleL_rel P w0 hh hS (fun k hk => hO k (by simp only [shwL]; exact OB_right hk)) h3 hp.2⟩
  | [], _ :: _, _, _, _, hp => hp.elim
  | _ :: _, [], _, _, _, hp => hp.elim
theorem ole1_rel (P : Program) (w0 : Base) {ρ : List (Nat × Nat)} (hh : HOk T φ b0 w S h) (hS : ∀ k, S k → S' k) (hO : ∀ k, OB φ (shw1 v v') k → S' k) (hr : rel T φ w S v x) (hp : ole1 ρ h post v v') : rel T (fitφ φ ρ post) w S' v' x := by
  cases v' with
  | agg ds =>
    simp only [ole1] at hp
    split at hp
    · simp only [rel] at hr ⊢
      obtain ⟨a, h1, h2, h3⟩ := hr
      exact ⟨a, h1, oleL_rel P w0 hh hS (by simpa only [shw1] using hO) h2 hp, h3⟩
    · exact hp.elim
  | _ => exact oleS_rel P w0 hh hS (by simpa only [shw1] using hO) hr (by simpa only [ole1] using hp)
theorem ole1L_rel (P : Program) (w0 : Base) {ρ : List (Nat × Nat)} (hh : HOk T φ b0 w S h) (hS : ∀ k, S k → S' k) : ∀ {cs ds : List V} {xs : List Value}, (∀ k, OB φ (shw1L cs ds) k → S' k) → relL T φ w S cs xs → ole1L ρ h post cs ds → relL T (fitφ φ ρ post) w S' ds xs
  | [], [], xs, _, hr, _ => by simpa only [relL] using hr
  | v :: r, v' :: r', xs, hO, hr, hp => by
    simp only [relL, ole1L] at hr hp ⊢
    obtain ⟨x, xs', h1, h2, h3⟩ := hr
    exact ⟨x, xs', h1, ole1_rel P w0 hh hS (fun k hk => hO k (by simp only [shw1L]; exact OB_left hk)) h2 hp.1, ole1L_rel P w0 hh hS (fun k hk => hO k (by simp only [shw1L]; exact OB_right hk)) h3 hp.2⟩
  | [], _ :: _, _, _, _, hp => hp.elim
  | _ :: _, [], _, _, _, hp => hp.elim
theorem ole_rel (P : Program) (w0 : Base) {ρ : List (Nat × Nat)} (hh : HOk T φ b0 w S h) (hS : ∀ k, S k → S' k) (hO : ∀ k, OB φ (shwV v v') k → S' k) (hr : rel T φ w S v x) (hp : ole ρ h post v v') : rel T (fitφ φ ρ post) w S' v' x := by
  cases v' with
  | tup ds =>
    simp only [ole] at hp
    split at hp
    · simp only [rel] at hr ⊢
      obtain ⟨a, h1, h2⟩ := hr
      exact ⟨a, h1, ole1L_rel P w0 hh hS (by simpa only [shwV] using hO) h2 hp⟩
    · exact hp.elim
  | _ => exact ole1_rel P w0 hh hS (by simpa only [shwV] using hO) hr (by simpa only [ole] using hp)
theorem HOk.nilrows {h : Hp} (hh : HOk T φ b0 w S h) : ∀ {r : Hp}, bhOk T h r = true → ∃ φ', LocLe φ φ' ∧ HOk T φ' b0 w S (r ++ h) ∧ ∀ n b, (n, b) ∈ r → φ' n = some .nilrow
  | [], _ => ⟨φ, LocLe.refl _, hh, fun n b hb => by cases hb⟩
  | (n, b) :: r, hok => by
    simp only [bhOk] at hok
    split at hok
    · cases hok
    · rename_i hr
      obtain ⟨φ1, l1, h1, m1⟩ := hh.nilrows hr
      split at hok
      · cases hok
      · rename_i hn
        split at hok
        · split at hok
          · split at hok
            · rename_i e he
              have hz : 0 < e.size := by simp [Nat.blt] at hok; omega
              have hφ : φ1 n = none := (h1.dom n).2 hn
              refine ⟨upd φ1 n .nilrow, l1.trans (upd_le hφ), ?_, fun m b hm => ?_⟩
              · refine h1.cons (upd_le hφ) (fun k hk => upd_ne hk) (by rw [upd_self]; simp) (fun _ _ => rfl) (fun _ h => h) (fun k c l B hk hc hc2 hl hB => ⟨rfl, (h1.own k c l B hc hc2 hl hB).2.2⟩) (Nat.le_refl _) ?_ (fun _ l B hl hB => ?_) h1.old
                · exact ⟨by simp [wtL], e, he, hz, .inr ⟨upd_self, rfl⟩⟩
                · rw [upd_self] at hl; injection hl with hl; subst hl; cases hB
              · rcases List.mem_cons.1 hm with hm | hm
                · injection hm with e1 e2; subst e1; exact upd_self
                · by_cases e : m = n
                  · subst e; exact upd_self
                  · rw [upd_ne e]; exact m1 m b hm
            · cases hok
          · cases hok
        · cases hok
theorem bnS_rel {φ' : Nat → Option Loc} (hle : LocLe φ φ') (hn : ∀ n b, (n, b) ∈ bhS post v v' → φ' n = some .nilrow) (hr : rel T φ w S v x) : rel T φ' w S (bnS post v v') x := by
  have up := rel_mono hle (w' := w) (fun _ _ => rfl) (fun _ h => h) _ _ hr
  unfold bnS
  split
  · split
    · split
      · rename_i hl
        simp only [rel] at hr ⊢
        rename_i u _
        refine .inr ⟨hn _ (.row u []) ?_, none, hr⟩
        simp only [bhS, hl]
        exact List.mem_singleton.2 rfl
      · exact up
    · exact up
  · exact up
theorem bnL_rel {φ' : Nat → Option Loc} (hle : LocLe φ φ') : ∀ {cs ds : List V} {xs : List Value}, (∀ n b, (n, b) ∈ bhL post cs ds → φ' n = some .nilrow) → relL T φ w S cs xs → relL T φ' w S (bnL post cs ds) xs
  | [], ds, xs, _, hr => by cases ds <;> simpa only [bnL, relL] using hr
  | v :: r, [], xs, _, hr => by simpa only [bnL] using relL_mono hle (w' := w) (fun _ _ => rfl) (fun _ h => h) _ _ hr
  | v :: r, v' :: r', xs, hn, hr => by
    simp only [bnL, relL] at hr ⊢
    obtain ⟨x, xs', h1, h2, h3⟩ := hr
    exact ⟨x, xs', h1, bnS_rel hle (fun n b hb => hn n b (List.mem_append_left _ hb)) h2, bnL_rel hle (fun n b hb => hn n b (List.mem_append_right _ hb)) h3⟩
theorem bn1_rel {φ' : Nat → Option Loc} (hle : LocLe φ φ') (hn : ∀ n b, (n, b) ∈ bh1 post v v' → φ' n = some .nilrow) (hr : rel T φ w S v x) : rel T φ' w S (bn1 post v v') x := by
  have up := rel_mono hle (w' := w) (fun _ _ => rfl) (fun _ h => h) _ _ hr
  unfold bn1
  split
  · split
    · simp only [rel] at hr ⊢
      obtain ⟨a, h1, h2, h3⟩ := hr
      exact ⟨a, h1, bnL_rel hle (by simpa only [bh1] using hn) h2, h3⟩
    · exact up
  · rename_i h
    refine bnS_rel hle (fun n b hb => hn n b ?_) hr
    unfold bh1
    split
    · exact absurd rfl (h _)
    · exact hb
theorem bn1L_rel {φ' : Nat → Option Loc} (hle : LocLe φ φ') : ∀ {cs ds : List V} {xs : List Value}, (∀ n b, (n, b) ∈ bh1L post cs ds → φ' n = some .nilrow) → relL T φ w S cs xs → relL T φ' w S (bn1L post cs ds) xs
  | [], ds, xs, _, hr => by cases ds <;> simpa only [bn1L, relL] using hr
  | v :: r, [], xs, _, hr => by simpa only [bn1L] using relL_mono hle (w' := w) (fun _ _ => rfl) (fun _ h => h) _ _ hr
  | v :: r, v' :: r', xs, hn, hr => by
    simp only [bn1L, relL] at hr ⊢
    obtain ⟨x, xs', h1, h2, h3⟩ := hr
    exact ⟨x, xs', h1, bn1_rel hle (fun n b hb => hn n b (List.mem_append_left _ hb)) h2, bn1L_rel hle (fun n b hb => hn n b (List.mem_append_right _ hb)) h3⟩
theorem bnV_rel {φ' : Nat → Option Loc} (hle : LocLe φ φ') (hn : ∀ n b, (n, b) ∈ bhV post v v' → φ' n = some .nilrow) (hr : rel T φ w S v x) : rel T φ' w S (bnV post v v') x := by
  have up := rel_mono hle (w' := w) (fun _ _ => rfl) (fun _ h => h) _ _ hr
  unfold bnV
  split
  · split
    · simp only [rel] at hr ⊢
      obtain ⟨a, h1, h2⟩ := hr
      exact ⟨a, h1, bn1L_rel hle (by simpa only [bhV] using hn) h2⟩
    · exact up
  · rename_i h
    refine bn1_rel hle (fun n b hb => hn n b ?_) hr
    unfold bhV
    split
    · exact absurd rfl (h _)
    · exact hb
theorem FnR.own {f : Nat} {args : List V} {res : V} {post : Hp} (hf : FnR P T f args fun v h => OwnOk T post res v h) : Fn P T f args res post := by
  refine fun w S vals hold hG hr => Goes.weaken (hf w S vals hold hG hr) (fun e w' hq => ?_)
  obtain ⟨x, φ0, S1, v0, h0, he, h1, g2, g3, h4, g5⟩ := hq
  obtain ⟨φ', l1, h2, l3⟩ := g2.nilrows g5.born
  have h3 := bnV_rel l1 l3 g3
  have ho := g5.own
  generalize bnV post v0 res = v at h3 ho
  generalize bhV post v0 res ++ h0 = h at h2 ho
  obtain ⟨S2, s1, s2, s3, s4⟩ := frzN_ok (shwV v res) h2
  have hx := ole_rel P (.of w) h2 s1 (s3 ho.live) h3 ho.le
  refine ⟨x, _, S2, he, h1, s2.fit ho.rows ho.blks ho.once, hx, fun k hk => ?_⟩
  rcases s4 k hk with hk | ⟨n, et, es, l, g1, g2, g3⟩
  · exact h4 k hk
  · exact .inr (Nat.not_lt.1 (h2.own n _ l k g1 rfl g2 g3).1)
theorem fn_own (htok : TyOk P T) {f : Nat} {fn : Func} {c : Code} (W : Nat → List (List Nat)) {args : List V} {res : V} {post : Hp} (hf : P.funcs[f]? = some fn) (hname : (fn.name == "runtime.NumGoroutine") = false) (hb : fn.body = some c) (hok : codeOk W c = true)
    (h : ∀ ar un cv mn mx pl mi cmp nt beq an scmp cat slen sbyte ssub ofB toB len gi gb gs gl sub put app ovl rep ne0 ge0 inb bnd room sroom need br call callb loop cut nl, Eqs ar un cv mn mx pl mi cmp nt beq an scmp cat slen sbyte ssub ofB toB len gi gb gs gl sub put app ovl rep ne0 ge0 inb bnd room sroom → Rules P T W [] ar un cv mn mx pl mi cmp nt beq an scmp cat slen sbyte ssub ofB toB len gi gb gs gl sub put app ovl rep ne0 ge0 inb bnd room sroom need br call callb loop cut nl → ∀ K : V → Hp → Prop, (∀ v h, OwnOk T post res v h → K v h) → vc ⟨ar, un, cv, mn, mx, pl, mi, cmp, nt, beq, an, scmp, cat, slen, sbyte, ssub, ofB, toB, len, gi, gb, gs, gl, sub, put, app, ovl, rep, ne0, ge0, inb, bnd, room, sroom, need, br, call, callb, loop, cut, nl⟩ T W c (retK ⟨ar, un, cv, mn, mx, pl, mi, cmp, nt, beq, an, scmp, cat, slen, sbyte, ssub, ofB, toB, len, gi, gb, gs, gl, sub, put, app, ovl, rep, ne0, ge0, inb, bnd, room, sroom, need, br, call, callb, loop, cut, nl⟩ T fn.results.toList K) (args ++ List.replicate (fn.ntmps - args.length) .dead) []) : Ab.Fn P T f args res post := by
  refine FnR.own (fnr_of_vc htok hf hname hb hok (fun w g => ?_))
  generalize ho : real P T (.of w) = o
  have ho := ho.symm
  obtain ⟨ar, un, cv, mn, mx, pl, mi, cmp, nt, beq, an, scmp, cat, slen, sbyte, ssub, ofB, toB, len, gi, gb, gs, gl, sub, put, app, ovl, rep, ne0, ge0, inb, bnd, room, sroom, need, br, call, callb, loop, cut, nl⟩ := o
  refine h _ _ _ _ _ _ _ _ _ _ _ _ _ _ _ _ _ _ _ _ _ _ _ _ _ _ _ _ _ _ _ _ _ _ _ _ _ _ _ _ _ ?_ ?_ _ (fun v h hp => hp)
  · have e := ho.symm
    unfold real at e
    injection e with e_ar e_un e_cv e_mn e_mx e_pl e_mi e_cmp e_nt e_beq e_an e_scmp e_cat e_slen e_sbyte e_ssub e_ofB e_toB e_len e_gi e_gb e_gs e_gl e_sub e_put e_app e_ovl e_rep e_ne0 e_ge0 e_inb e_bnd e_room e_sroom e_need e_br e_call e_callb e_loop e_cut e_nl
    subst e_ar e_un e_cv e_mn e_mx e_pl e_mi e_cmp e_nt e_beq e_an e_scmp e_cat e_slen e_sbyte e_ssub e_ofB e_toB e_len e_gi e_gb e_gs e_gl e_sub e_put e_app e_ovl e_rep e_ne0 e_ge0 e_inb e_bnd e_room e_sroom e_need e_br e_call e_callb e_loop e_cut e_nl
    constructor <;> intros <;> rfl
  · exact ⟨fun h1 h2 => real_need ho h1 h2, fun h1 h2 => real_br ho h1 h2, fun h1 h2 h3 => by subst h2; exact real_call ho h1 h3, fun h1 h2 => real_callb ho h1 h2, fun t n et _ h1 h2 h3 h4 h5 => real_born ho h1 h2 h3 h4 h5, fun n0 j n et _ _ _ h0 h1 h2 h3 h4 h5 => real_bornC ho h0 h1 h2 h3 h4 h5, fun h1 h2 => real_nl ho h1 h2, fun ha hb h => real_cut ho htok ha hb h, fun n sl hs ha hb h hk => real_cutF ho htok (fun p hp => by cases hp) n sl hs ha hb h hk, fun n sl hs I μ a0 ρ0 h0 h1 h2 h3 => real_loop_ok ho htok (fun p hp => by cases hp) n sl hs I μ a0 ρ0 h0 h1 h2 h3⟩
end
end Go.Ab
end
section
namespace Go.Ab
open Go.RowKit
def wrapK (k : IntKind) (a : Int) : Int := k.wrap a
def mnI (a b : Int) : Int := if b < a then b else a
def mxI (a b : Int) : Int := if b > a then b else a
def plI (a b : Int) : Int := a + b
def miI (a b : Int) : Int := a - b
def notB' (b : Bool) : Bool := !b
def beqB (a b : Bool) : Bool := a == b
def andB' (a b : Bool) : Bool := a && b
def catS (a b : ByteArray) : ByteArray := a ++ b
def subS (s : ByteArray) (l h : Int) : ByteArray := s.extract l.toNat h.toNat
def toBy (es : List V) : ByteArray := ⟨(es.map fun e => UInt8.ofNat (Ab.asInt e).toNat).toArray⟩
def gI (es : List V) (i : Int) (j : Nat) : Int := Ab.asInt (elAt es i j)
def gB (es : List V) (i : Int) (j : Nat) : Bool := boolOf (elAt es i j)
def gS (es : List V) (i : Int) (j : Nat) : ByteArray := strOf (elAt es i j)
def gL (es : List V) (i : Int) (j : Nat) : List V := listOf (elAt es i j)
def subL (es : List V) (l h : Int) : List V := (es.take h.toNat).drop l.toNat
def putL (es : List V) (i : Int) (j : Nat) (cs : List V) : List V := es.set i.toNat (putCells (es.getD i.toNat .dead) j cs)
def appL (es xs : List V) : List V := es ++ xs
def repL (n : Int) (v : V) : List V := List.replicate n.toNat v
def Ne0 (n : Int) : Prop := n ≠ 0
def Ge0 (n : Int) : Prop := 0 ≤ n
def Inb (i n : Int) : Prop := 0 ≤ i ∧ i < n
def Bnd (l h n : Int) : Prop := 0 ≤ l ∧ l ≤ h ∧ h ≤ n
def Room (n : Int) (b : Nat) : Prop := n ≤ 140737488355328 ∧ n.toNat * b ≤ 140737488355328
def Sroom (a b : ByteArray) : Prop := a.size + b.size ≤ 9223372036854775807
instance (n : Int) : Decidable (Ne0 n) := by unfold Ne0; infer_instance
instance (n : Int) : Decidable (Ge0 n) := by unfold Ge0; infer_instance
instance (i n : Int) : Decidable (Inb i n) := by unfold Inb; infer_instance
instance (l h n : Int) : Decidable (Bnd l h n) := by unfold Bnd; infer_instance
instance (n : Int) (b : Nat) : Decidable (Room n b) := by unfold Room; infer_instance
instance (a b : ByteArray) : Decidable (Sroom a b) := by unfold Sroom; infer_instance
structure Real (ar : BinOp → IntKind → Int → Int → Int) (un : UnOp → IntKind → Int → Int) (cv : IntKind → Int → Int) (mn : Int → Int → Int) (mx : Int → Int → Int) (pl : Int → Int → Int) (mi : Int → Int → Int) (cmp : BinOp → Int → Int → Bool) (nt : Bool → Bool) (beq : Bool → Bool → Bool) (an : Bool → Bool → Bool) (scmp : BinOp → ByteArray → ByteArray → Bool) (cat : ByteArray → ByteArray → ByteArray) (slen : ByteArray → Int) (sbyte : ByteArray → Int → Int) (ssub : ByteArray → Int → Int → ByteArray) (ofB : ByteArray → List V) (toB : List V → ByteArray) (len : List V → Int) (gi : List V → Int → Nat → Int) (gb : List V → Int → Nat → Bool) (gs : List V → Int → Nat → ByteArray) (gl : List V → Int → Nat → List V) (sub : List V → Int → Int → List V) (put : List V → Int → Nat → List V → List V) (app : List V → List V → List V) (ovl : List V → Int → List V → List V) (rep : Int → V → List V) (ne0 : Int → Prop) (ge0 : Int → Prop) (inb : Int → Int → Prop) (bnd : Int → Int → Int → Prop) (room : Int → Nat → Prop) (sroom : ByteArray → ByteArray → Prop) : Prop where
  har : ar = arReal
  hun : un = unReal
  hcv : cv = wrapK
  hmn : mn = mnI
  hmx : mx = mxI
  hpl : pl = plI
  hmi : mi = miI
  hcmp : cmp = cmpLit
  hnt : nt = notB'
  hbeq : beq = beqB
  han : an = andB'
  hscmp : scmp = strCmp
  hcat : cat = catS
  hslen : slen = slenI
  hsbyte : sbyte = sbyteI
  hssub : ssub = subS
  hofB : ofB = strBytes
  htoB : toB = toBy
  hlen : len = lenI
  hgi : gi = gI
  hgb : gb = gB
  hgs : gs = gS
  hgl : gl = gL
  hsub : sub = subL
  hput : put = putL
  happ : app = appL
  hovl : ovl = ovlReal
  hrep : rep = repL
  hne0 : ne0 = Ne0
  hge0 : ge0 = Ge0
  hinb : inb = Inb
  hbnd : bnd = Bnd
  hroom : room = Room
  hsroom : sroom = Sroom
section
variable {P : Program} {T : Tr} {W : Nat → List (List Nat)} {ns : List Nat} {ar : BinOp → IntKind → Int → Int → Int} {un : UnOp → IntKind → Int → Int} {cv : IntKind → Int → Int} {mn : Int → Int → Int} {mx : Int → Int → Int} {pl : Int → Int → Int} {mi : Int → Int → Int} {cmp : BinOp → Int → Int → Bool} {nt : Bool → Bool} {beq : Bool → Bool → Bool} {an : Bool → Bool → Bool} {scmp : BinOp → ByteArray → ByteArray → Bool} {cat : ByteArray → ByteArray → ByteArray} {slen : ByteArray → Int} {sbyte : ByteArray → Int → Int} {ssub : ByteArray → Int → Int → ByteArray} {ofB : ByteArray → List V} {toB : List V → ByteArray} {len : List V → Int} {gi : List V → Int → Nat → Int} {gb : List V → Int → Nat → Bool} {gs : List V → Int → Nat → ByteArray} {gl : List V → Int → Nat → List V} {sub : List V → Int → Int → List V} {put : List V → Int → Nat → List V → List V} {app : List V → List V → List V} {ovl : List V → Int → List V → List V} {rep : Int → V → List V} {ne0 : Int → Prop} {ge0 : Int → Prop} {inb : Int → Int → Prop} {bnd : Int → Int → Int → Prop} {room : Int → Nat → Prop} {sroom : ByteArray → ByteArray → Prop} {need : Prop → Prop → Prop} {br : Bool → (Unit → Prop) → (Unit → Prop) → Prop} {call : Nat → List V → (V → Hp → Prop) → Prop} {callb : Nat → List V → Hp → (V → Hp → Prop) → Prop} {loop : Code → (Exit → List V → Hp → Prop) → List V → Hp → Prop} {cut : Code → Code → (Exit → List V → Hp → Prop) → List V → Hp → Prop} {nl : List V → (Unit → Prop) → (Unit → Prop) → Prop}
theorem Eqs.D (E : Eqs ar un cv mn mx pl mi cmp nt beq an scmp cat slen sbyte ssub ofB toB len gi gb gs gl sub put app ovl rep ne0 ge0 inb bnd room sroom) : Real ar un cv mn mx pl mi cmp nt beq an scmp cat slen sbyte ssub ofB toB len gi gb gs gl sub put app ovl rep ne0 ge0 inb bnd room sroom := by
  constructor
  · exact E.har
  · exact E.hun
  · funext a b; exact E.hcv a b
  · funext a b; exact E.hmn a b
  · funext a b; exact E.hmx a b
  · funext a b; exact E.hpl a b
  · funext a b; exact E.hmi a b
  · exact E.hcmp
  · funext a; exact E.hnt a
  · funext a b; exact E.hbeq a b
  · funext a b; exact E.han a b
  · exact E.hscmp
  · funext a b; exact E.hcat a b
  · funext a; exact E.hslen a
  · funext a b; exact E.hsbyte a b
  · funext a b c; exact E.hssub a b c
  · exact E.hofB
  · funext a; exact E.htoB a
  · funext a; exact E.hlen a
  · funext a b c; exact E.hgi a b c
  · funext a b c; exact E.hgb a b c
  · funext a b c; exact E.hgs a b c
  · funext a b c; exact E.hgl a b c
  · funext a b c; exact E.hsub a b c
  · funext a b c d; exact E.hput a b c d
  · funext a b; exact E.happ a b
  · exact E.hovl
  · funext a b; exact E.hrep a b
  · funext a; exact E.hne0 a
  · funext a; exact E.hge0 a
  · funext a b; exact E.hinb a b
  · funext a b c; exact E.hbnd a b c
  · funext a b; exact E.hroom a b
  · funext a b; exact E.hsroom a b
theorem Rules.brD (R : Rules P T W ns ar un cv mn mx pl mi cmp nt beq an scmp cat slen sbyte ssub ofB toB len gi gb gs gl sub put app ovl rep ne0 ge0 inb bnd room sroom need br call callb loop cut nl) {α : Type} {c c' : Bool} {A B : Unit → Prop} {X Y : Option α} {r : α} (h : (if c' = true then X else Y) = some r) (e : c = c') (h1 : X = some r → A ()) (h2 : Y = some r → B ()) : br c A B := by
  subst e
  refine R.br' (fun hc => h1 ?_) (fun hc => h2 ?_)
  · rw [if_pos hc] at h; exact h
  · rw [if_neg (by rw [hc]; exact Bool.false_ne_true)] at h; exact h
theorem Rules.needD (R : Rules P T W ns ar un cv mn mx pl mi cmp nt beq an scmp cat slen sbyte ssub ofB toB len gi gb gs gl sub put app ovl rep ne0 ge0 inb bnd room sroom need br call callb loop cut nl) {α : Type} {p p' q : Prop} [Decidable p'] {X : Option α} {r : α} (h : (if p' then X else none) = some r) (e : p = p') (h1 : X = some r → q) : need p q := by
  subst e
  obtain ⟨h2, h3⟩ := need_some h
  exact R.need' h2 (h1 h3)
theorem Rules.callD (R : Rules P T W ns ar un cv mn mx pl mi cmp nt beq an scmp cat slen sbyte ssub ofB toB len gi gb gs gl sub put app ovl rep ne0 ge0 inb bnd room sroom need br call callb loop cut nl) {α β : Type} {f : Nat} {args : List V} {K : V → Hp → Prop} {x : Option α} {F : α → Option β} {r : β} (h : x.bind F = some r) (k : ∀ a, x = some a → F a = some r → call f args K) : call f args K := by
  obtain ⟨a, h1, h2⟩ := bind_some' h
  exact k a h1 h2
theorem Rules.loopD (R : Rules P T W ns ar un cv mn mx pl mi cmp nt beq an scmp cat slen sbyte ssub ofB toB len gi gb gs gl sub put app ovl rep ne0 ge0 inb bnd room sroom need br call callb loop cut nl) {b : Code} {K : Exit → List V → Hp → Prop} {tm : List V} {hp : Hp} {S A β : Type} {f : S → Option (S ⊕ A)} {s0 : S} {F : A → Option β} {r : β} (h : (iter f s0).bind F = some r) (k : ∀ s x, s = s0 → iter f s = some x → F x = some r → loop b K tm hp) : loop b K tm hp := by
  obtain ⟨a, h1, h2⟩ := bind_some' h
  exact k s0 a rfl h1 h2
theorem Rules.loopI (R : Rules P T W ns ar un cv mn mx pl mi cmp nt beq an scmp cat slen sbyte ssub ofB toB len gi gb gs gl sub put app ovl rep ne0 ge0 inb bnd room sroom need br call callb loop cut nl) {b : Code} {K : Exit → List V → Hp → Prop} {tm : List V} {hp : Hp} {S A : Type} {f : S → Option (S ⊕ A)} {s0 : S} {x : A} (hx : iter f s0 = some x) (dr : List Nat) (up : S → List (Nat × V)) (uh : S → Hp) (hf : FitsU ns b dr tm hp (up s0) (uh s0) tm hp) (hok : codeOk W b = true)
    (hs : ∀ s m y, f s = some y → (∀ s', y = .inl s' → iterN f m s' = some x) → (∀ q, y = .inr q → q = x) → ∀ L : List V → Hp → Prop, (∀ s' tm' hp', iterN f m s' = some x → FitsU ns b dr tm hp (up s') (uh s') tm' hp' → L tm' hp') → vc ⟨ar, un, cv, mn, mx, pl, mi, cmp, nt, beq, an, scmp, cat, slen, sbyte, ssub, ofB, toB, len, gi, gb, gs, gl, sub, put, app, ovl, rep, ne0, ge0, inb, bnd, room, sroom, need, br, call, callb, loop, cut, nl⟩ T W b (fun e tm hp => match e with | .normal => L tm hp | e => K e tm hp) (mkS tm.length (slotsU b dr tm (up s))) (heapU dr hp (uh s))) : loop b K tm hp := by
  obtain ⟨n, hn⟩ := iter_iff.1 hx
  refine R.loopU dr (fun a : Nat × S => up a.2) (fun a => uh a.2) (fun a => iterN f a.1 a.2 = some x) (fun a => a.1) (n, s0) hn hf hok (fun a ha L hL => ?_)
  obtain ⟨n, s⟩ := a
  obtain ⟨m, rfl, y, hy, hz⟩ := iterN_succ ha
  exact hs s m y hy (fun s' e => by subst e; exact hz) (fun q e => by subst e; exact hz) L (fun s' tm' hp' h1 h2 => hL (m, s') tm' hp' h1 (Nat.lt_succ_self _) h2)
theorem Rules.cutB (R : Rules P T W ns ar un cv mn mx pl mi cmp nt beq an scmp cat slen sbyte ssub ofB toB len gi gb gs gl sub put app ovl rep ne0 ge0 inb bnd room sroom need br call callb loop cut nl) {a b : Code} {K : Exit → List V → Hp → Prop} {tm : List V} {hp : Hp} {Y S β : Type} {x : Option Y} {F : Y → Option β} {r : β} (inj : S → Y) (hij : ∀ p q, inj p = inj q → p = q) (h : x.bind F = some r) (dr : List Nat) (up : S → List (Nat × V)) (uh : S → Hp) (ha : codeOk W a = true) (hb : codeOk W b = true)
    (hs : ∀ y, x = some y → F y = some r → ∀ L : List V → Hp → Prop, (∀ p tm' hp', y = inj p → FitsU ns a dr tm hp (up p) (uh p) tm' hp' → L tm' hp') → vc ⟨ar, un, cv, mn, mx, pl, mi, cmp, nt, beq, an, scmp, cat, slen, sbyte, ssub, ofB, toB, len, gi, gb, gs, gl, sub, put, app, ovl, rep, ne0, ge0, inb, bnd, room, sroom, need, br, call, callb, loop, cut, nl⟩ T W a (fun e tm hp => match e with | .normal => L tm hp | e => K e tm hp) tm hp)
    (hk : ∀ p, F (inj p) = some r → vc ⟨ar, un, cv, mn, mx, pl, mi, cmp, nt, beq, an, scmp, cat, slen, sbyte, ssub, ofB, toB, len, gi, gb, gs, gl, sub, put, app, ovl, rep, ne0, ge0, inb, bnd, room, sroom, need, br, call, callb, loop, cut, nl⟩ T W b K (mkS tm.length (slotsU a dr tm (up p))) (heapU dr hp (uh p))) : cut a b K tm hp := by
  obtain ⟨y, h1, h2⟩ := bind_some' h
  by_cases hy : ∃ p, y = inj p
  · obtain ⟨p, rfl⟩ := hy
    refine R.cutF tm.length (slotsU a dr tm (up p)) (heapU dr hp (uh p)) ha hb (fun L hL => hs _ h1 h2 (fun tm' hp' => L tm' hp') (fun q tm' hp' e hf => ?_)) (hk p h2)
    have e := hij _ _ e; subst e; exact hL _ tm' hp' hf.fits
  · exact R.cut' ha hb (hs y h1 h2 _ (fun p tm' hp' e _ => absurd ⟨p, e⟩ hy))
theorem inl_some {S A : Type} {a : S} {y : S ⊕ A} {f : S → Option (S ⊕ A)} {m : Nat} {x : A} (h : some (Sum.inl a) = some y) (hi : ∀ s', y = .inl s' → iterN f m s' = some x) : ∃ s, s = a ∧ iterN f m s = some x := by
  injection h with h
  exact ⟨a, rfl, hi a h.symm⟩
theorem inr_some {S A : Type} {a x : A} {y : S ⊕ A} (h : some (Sum.inr a) = some y) (hq : ∀ q, y = .inr q → q = x) : x = a := by
  injection h with h
  exact (hq a h.symm).symm
theorem ret_some {α : Type} {a r : α} (h : some a = some r) : r = a := by injection h with h; exact h.symm
theorem jn_some {Y S : Type} {y : Y} {a : S} (f : S → Y) (h : some (f a) = some y) : ∃ s, s = a ∧ y = f s := by injection h with h; exact ⟨a, rfl, h.symm⟩
open Classical in
noncomputable def nlD {α : Type} (es : List V) (A B : Option α) : Option α := if es = [] ∧ A ≠ B then none else B
theorem nlD_ne {α : Type} {es : List V} {A B : Option α} (h : es ≠ []) : nlD es A B = B := by unfold nlD; rw [if_neg (fun k => h k.1)]
theorem nlD_eq {α : Type} {es : List V} {A B : Option α} (h : A = B) : nlD es A B = B := by unfold nlD; rw [if_neg (fun k => k.2 h)]
theorem Rules.nlD (R : Rules P T W ns ar un cv mn mx pl mi cmp nt beq an scmp cat slen sbyte ssub ofB toB len gi gb gs gl sub put app ovl rep ne0 ge0 inb bnd room sroom need br call callb loop cut nl) {α : Type} {es es' : List V} {A B : Unit → Prop} {X Y : Option α} {r : α} (h : nlD es' X Y = some r) (e : es = es') (h1 : es' = [] → X = some r → A ()) (h2 : Y = some r → B ()) : nl es A B := by
  subst e
  unfold Go.Ab.nlD at h
  split at h
  · cases h
  · rename_i hn
    refine R.nl' (fun he => h1 he ?_) (h2 h)
    by_cases k : X = Y
    · rw [k]; exact h
    · exact absurd ⟨he, k⟩ hn
theorem Fn.args_le {f : Nat} {args args' : List V} {v : V} {h : Hp} (hf : Ab.Fn P T f args' v h) (ha : fitA args args') : Ab.Fn P T f args v h :=
  fun w S vals hS hG hr => hf w S vals hS hG (fitA_rel ha hr)
theorem Rules.callN (R : Rules P T W ns ar un cv mn mx pl mi cmp nt beq an scmp cat slen sbyte ssub ofB toB len gi gb gs gl sub put app ovl rep ne0 ge0 inb bnd room sroom need br call callb loop cut nl) {f : Nat} {args args' : List V} {K : V → Hp → Prop} {v : V} {h : Hp} (hf : Ab.Fn P T f args' v h) (ha : fitA args args') (k : K v h) : call f args K := R.call' (hf.args_le ha) rfl k
def W0 (r : Nat) : List (List Nat) := []
theorem none_some {α : Type} {a : α} (h : (none : Option α) = some a) : False := by cases h
end
end Go.Ab
end
section
namespace Go.Ab
open Go.RowKit
def retBF (o : Ops) (T : Tr) (rs : List ResultVar) (K : List V → Hp → Prop) (tm : List V) (hp : Hp) : Prop := match resL o T tm hp rs with
  | some vs => K vs hp
  | none => False
def retB (o : Ops) (T : Tr) (rs : List ResultVar) (K : List V → Hp → Prop) (e : Exit) (tm : List V) (hp : Hp) : Prop := match e with
  | .normal => retBF o T rs K tm hp
  | .ret => retBF o T rs K tm hp
  | _ => False
def numL : Nat → List V → List (Nat × V)
  | _, [] => []
  | k, v :: r => (k, v) :: numL (k + 1) r
structure OkB (ns : List Nat) (rs : List V) (E : Hp) (vs : List V) (h : Hp) : Prop where
  len : rs.length = vs.length
  slots : fitsS (rhoU (numL 0 rs) E vs h) vs (numL 0 rs)
  rows : fitsH (rhoU (numL 0 rs) E vs h) h E
  ok : okState (rhoU (numL 0 rs) E vs h) (numL 0 rs) E = true
  anc : ancOk (rhoU (numL 0 rs) E vs h) E ns = true
def goneE (gs : List Nat) : Hp := gs.map fun n => (n, .gone)
section
variable {P : Program} {T : Tr} {w0 : Base} {φ φ' φ2 : Nat → Option Loc} {w w' : World} {S S' S2 : Nat → Prop} {v : V} {hp : Hp} {b0 : Nat → Prop} {x : Value} {a : Act} {ops : Array Oper}
theorem numL_mem : ∀ {rs : List V} {k i : Nat} {r : V}, rs[i]? = some r → (k + i, r) ∈ numL k rs
  | [], _, _, _, h => by cases h
  | v :: rs, k, 0, r, h => by simp at h; subst h; exact List.mem_cons_self
  | v :: rs, k, i + 1, r, h => by
    have := numL_mem (rs := rs) (k := k + 1) (i := i) (r := r) (by simpa using h)
    rw [show k + 1 + i = k + (i + 1) from by omega] at this
    exact List.mem_cons_of_mem _ this
theorem goneE_look {gs : List Nat} {n : Nat} {b : Blk} : look (goneE gs) n = some b → b = .gone := by
  induction gs with
  | nil => intro h; cases h
  | cons k r ih =>
    intro h
    simp only [goneE, List.map_cons] at h
    rw [look_cons] at h
    split at h
    · injection h with h; exact h.symm
    · exact ih h
theorem goneE_has {gs : List Nat} {n : Nat} : look (goneE gs) n = none ↔ n ∉ gs := by
  induction gs with
  | nil => simp [goneE, look]
  | cons k r ih =>
    simp only [goneE, List.map_cons]
    rw [look_cons]
    by_cases e : k = n
    · subst e; simp
    · rw [if_neg e]
      simp only [goneE] at ih
      rw [ih]
      simp [Ne.symm e]
theorem HOk.gones {gs : List Nat} (h : HOk T φ b0 w S hp) : ∃ φ', LocLe φ φ' ∧ HOk T φ' b0 w S (hp ++ goneE gs) := by
  obtain ⟨φ', hφ'⟩ : ∃ φ' : Nat → Option Loc, φ' = fun m => match φ m with | some l => some l | none => if m ∈ gs then some .nilrow else none := ⟨_, rfl⟩
  have le : LocLe φ φ' := fun m l hm => by rw [hφ']; simp only [hm]
  have some1 : ∀ m l, φ m = some l → φ' m = some l := fun m l hm => le m l hm
  have none1 : ∀ m, φ m = none → φ' m = if m ∈ gs then some .nilrow else none := fun m hm => by rw [hφ']; simp only [hm]
  have own1 : ∀ m b, look (hp ++ goneE gs) m = some b → b.own = true → look hp m = some b := fun m b hb hob => by
    rw [look_app] at hb
    cases h9 : look hp m with
    | some c => rw [h9] at hb; exact hb
    | none =>
      rw [h9] at hb
      rw [goneE_look hb] at hob; cases hob
  have back : ∀ m b l, look hp m = some b → φ' m = some l → φ m = some l := fun m b l hb hl => by
    cases h9 : φ m with
    | some k => rw [some1 m k h9] at hl; exact hl
    | none => rw [(h.dom m).1 h9] at hb; cases hb
  refine ⟨φ', le, fun m => ?_, fun m b hb => ?_, fun m b l B hb hob hl hB => ?_, fun m m' b c l k B hb hc hob hoc hl hk hB hB' => ?_, h.old⟩
  · rw [look_app]
    cases h9 : φ m with
    | some l =>
      rw [some1 m l h9]
      cases h8 : look hp m with
      | some c => simp
      | none => rw [(h.dom m).2 h8] at h9; cases h9
    | none =>
      rw [none1 m h9, (h.dom m).1 h9]
      simp only
      rw [goneE_has]
      split <;> simp_all
  · rw [look_app] at hb
    cases h9 : look hp m with
    | some c =>
      rw [h9] at hb
      injection hb with hb; subst hb
      exact (h.blk m c h9).mono le (fun _ _ => rfl) (fun _ h => h) (fun _ _ _ _ _ => rfl)
    | none =>
      rw [h9] at hb
      rw [goneE_look hb]; trivial
  · have hb' := own1 m b hb hob
    exact h.own m b l B hb' hob (back m b l hb' hl) hB
  · have hb' := own1 m b hb hob
    have hc' := own1 m' c hc hoc
    exact h.inj m m' b c l k B hb' hc' hob hoc (back m b l hb' hl) (back m' c k hc' hk) hB hB'
theorem fnb_of_vc (htok : TyOk P T) {f : Nat} {fn : Func} {c : Code} {W : Nat → List (List Nat)} {args : List V} {hp : Hp} {ns : List Nat} {rs : List V} {E : Hp} (gs : List Nat) (hf : P.funcs[f]? = some fn) (hname : (fn.name == "runtime.NumGoroutine") = false) (hb : fn.body = some c) (hok : codeOk W c = true) (hns : ns.all (hasN hp) = true)
    (h : ∀ b : Base, GZ T b → (∀ p ∈ b.anc, p.1 ∈ ns) → vc (real P T b) T W c (retB (real P T b) T fn.results.toList (OkB ns rs E)) (args ++ List.replicate (fn.ntmps - args.length) .dead) hp) : FnB P T f args hp ns (normR (oneOf rs)) (E ++ goneE gs) := by
  refine fun b0 hg φ S vals hh hr => .inl ⟨⟨fn, c, hf, hname, hb⟩, ?_⟩
  obtain ⟨b, hbd⟩ : ∃ b : Base, b = ⟨b0.w, b0.Z, b0.lt, ns.filterMap (fun n => (φ n).map fun l => (n, l)), none⟩ := ⟨_, rfl⟩
  have hbw : b.w = b0.w := by rw [hbd]
  have hbZ : b.Z = b0.Z := by rw [hbd]
  have hbr : Fc b.rd = Fence.wide := by rw [hbd]; rfl
  have hba : ∀ n ∈ ns, ∃ l, φ n = some l ∧ (n, l) ∈ b.anc := fun n hn => by
    have h1 := List.all_eq_true.1 hns n hn
    obtain ⟨d, hd⟩ := hasN_iff.1 h1
    cases h9 : φ n with
    | none => rw [(hh.dom n).1 h9] at hd; cases hd
    | some l =>
      refine ⟨l, rfl, ?_⟩
      rw [hbd]
      exact List.mem_filterMap.2 ⟨n, hn, by simp [h9]⟩
  have hbn : ∀ p ∈ b.anc, p.1 ∈ ns ∧ φ p.1 = some p.2 := fun p hp => by
    rw [hbd] at hp
    obtain ⟨n, h1, h2⟩ := List.mem_filterMap.1 hp
    rw [Option.map_eq_some_iff] at h2
    obtain ⟨l, h3, h4⟩ := h2
    subst h4
    exact ⟨h1, h3⟩
  haveI : GZ T b := by rw [hbd]; exact ⟨hg.ok, hg.z⟩
  have hlen := (relL_iff.1 hr).1
  refine (callsIn_wide (n := 0)).1 (callsIn_of_wp hf hb trivial ?_)
  have hi : Inv T b φ S (args ++ List.replicate (fn.ntmps - args.length) .dead) hp { tmps := vals.toArray ++ Array.replicate (fn.ntmps - vals.toArray.size) undef, defers := [] } b0.w := by
    refine ⟨by rw [hbd]; exact ⟨rfl, rfl, rfl, Nat.le_refl _, fun _ _ => rfl⟩, by simp [hlen], fun t => ?_, rfl, by rw [hbZ]; exact hh, fun p hp => (hbn p hp).2⟩
    by_cases ht : t < args.length
    · obtain ⟨u, h1, h2⟩ := relL_get hr ht
      have e1 : (args ++ List.replicate (fn.ntmps - args.length) V.dead).getD t .dead = args.getD t .dead := by
        simp only [List.getD_eq_getElem?_getD, List.getElem?_append_left ht]
      have e2 : (vals.toArray ++ Array.replicate (fn.ntmps - vals.toArray.size) undef).getD t undef = u := by
        rw [Array.getD_eq_getD_getElem?, Array.getElem?_append_left (by simp; omega)]
        simp [h1]
      rw [e1, e2]
      exact h2
    · have e1 : (args ++ List.replicate (fn.ntmps - args.length) V.dead).getD t .dead = .dead := by
        simp only [List.getD_eq_getElem?_getD, List.getElem?_append_right (by omega : args.length ≤ t), List.getElem?_replicate]
        split <;> rfl
      rw [e1]
      simp only [rel]
  have key : ∀ {tm hp φ1 S1 a w'}, SLe b.Z S S1 → Inv T b φ1 S1 tm hp a w' → retBF (real P T b) T fn.results.toList (OkB ns rs E) tm hp →
      a.defers = [] ∧ ∃ v, (results fn a.tmps).run P w' = .ok v w' ∧ ∃ x φ' S', Ending.returned v = .returned x ∧ Since b0 w' ∧ HOk T φ' b0.Z w' S' (E ++ goneE gs) ∧ rel T φ' w' S' (normR (oneOf rs)) x ∧ SLe b0.Z S S' ∧ ∀ n ∈ ns, φ' n = φ n := by
    intro tm hp φ1 S1 a w' hS hi h
    unfold retBF at h
    split at h
    · rename_i vs hvs
      obtain ⟨xs, h1, h2⟩ := resL_ok htok hi hvs
      obtain ⟨o1, o2, o3, o4, o5⟩ := h
      simp only [okState] at o4
      split at o4
      · rename_i n1
        split at o4
        · rename_i n2
          have hE := hi.heap.fit o3 n2 o4
          have hrs : relL T (fitφ φ1 (rhoU (numL 0 rs) E vs hp) E) w' S1 rs xs := by
            have hl := (relL_iff.1 h2).1
            refine relL_iff.2 ⟨by omega, fun j r y hj hy => ?_⟩
            have hm := numL_mem (k := 0) hj
            rw [Nat.zero_add] at hm
            have e1 := okNames_mem n1 _ hm
            have e2 := fitsS_mem o2 _ hm
            have hjl : j < vs.length := by rw [← o1]; exact (List.getElem?_eq_some_iff.1 hj).1
            have := (relL_iff.1 h2).2 j _ y (getD_some hjl (d := .dead)) hy
            exact fit_rel _ _ e1 (norm_rel' (fitV_rel e2 (norm_rel this)))
          obtain ⟨φ3, l3, hG⟩ := hE.gones (gs := gs)
          have hG' : HOk T φ3 b0.Z w' S1 (E ++ goneE gs) := by rw [← hbZ]; exact hG
          have hSince : Since b0 w' := by
            have := hi.since
            rw [hbd] at this
            exact ⟨this.os, this.tape, this.output, this.size, this.block⟩
          refine ⟨hi.dfr, if hx : xs.toArray.size = 1 then xs.toArray[0] else .tuple xs.toArray, ?_, _, φ3, S1, rfl, hSince, hG', ?_, by rw [← hbZ]; exact hS, fun n hn => ?_⟩
          · have hm : (fn.results.mapM (resM a.tmps)).run P w' = .ok xs.toArray w' := by
              rw [← Array.toArray_toList (xs := fn.results), List.mapM_toArray]
              simp [h1]
            show (do let vs ← fn.results.mapM (resM a.tmps); pure (if h : vs.size = 1 then vs[0] else .tuple vs) : Sem Value).run P w' = _
            rw [Sem.run_bind, hm]
            simp [Result.andThen]
          · have hrs := relL_mono l3 (w' := w') (fun _ _ => rfl) (fun _ h => h) _ _ hrs
            have hlen := (relL_iff.1 hrs).1
            refine normR_rel ?_
            unfold oneOf
            split
            · rename_i v
              simp only [relL] at hrs
              obtain ⟨y, ys, e1, e2, e3⟩ := hrs
              subst e3; subst e1
              simpa using e2
            · rename_i hne
              rw [dif_neg (fun e => by
                simp only [List.size_toArray] at e
                rw [← hlen] at e
                match rs, e with
                | [v], _ => exact hne v rfl)]
              simp only [rel]
              exact ⟨_, rfl, by simpa using hrs⟩
          · obtain ⟨l, g1, g2⟩ := hba n hn
            obtain ⟨a1, a2⟩ := ancOk_mem o5 n hn
            have h3 := hi.anc _ g2
            have : fitφ φ1 (rhoU (numL 0 rs) E vs hp) E n = some l := by simp only [fitφ, if_pos a1, a2]; exact h3
            rw [l3 n l this, g1]
        · cases o4
      · cases o4
    · exact h.elim
  rw [← hbr]
  refine wpIn_mono (vc_ok htok c hok (h b this (fun p hp => (hbn p hp).1)) _ _ _ _ hi) (fun e a' w' hp => ?_)
  obtain ⟨φ', S', tm', hp', h1, h2, h3, h4⟩ := hp
  cases e with
  | normal => exact key h1 h2 h3
  | ret => exact key h1 h2 h3
  | exit i => exact h3.elim
  | _ => exact h4.elim
theorem fnb_rules (htok : TyOk P T) {f : Nat} {fn : Func} {c : Code} (W : Nat → List (List Nat)) {args : List V} {hp : Hp} (ns : List Nat) (rs : List V) (E : Hp) (gs : List Nat) (hf : P.funcs[f]? = some fn) (hname : (fn.name == "runtime.NumGoroutine") = false) (hb : fn.body = some c) (hok : codeOk W c = true) (hns : ns.all (hasN hp) = true)
    (h : ∀ ar un cv mn mx pl mi cmp nt beq an scmp cat slen sbyte ssub ofB toB len gi gb gs gl sub put app ovl rep ne0 ge0 inb bnd room sroom need br call callb loop cut nl, Eqs ar un cv mn mx pl mi cmp nt beq an scmp cat slen sbyte ssub ofB toB len gi gb gs gl sub put app ovl rep ne0 ge0 inb bnd room sroom → Rules P T W ns ar un cv mn mx pl mi cmp nt beq an scmp cat slen sbyte ssub ofB toB len gi gb gs gl sub put app ovl rep ne0 ge0 inb bnd room sroom need br call callb loop cut nl → ∀ K : List V → Hp → Prop, (∀ vs h, OkB ns rs E vs h → K vs h) → vc ⟨ar, un, cv, mn, mx, pl, mi, cmp, nt, beq, an, scmp, cat, slen, sbyte, ssub, ofB, toB, len, gi, gb, gs, gl, sub, put, app, ovl, rep, ne0, ge0, inb, bnd, room, sroom, need, br, call, callb, loop, cut, nl⟩ T W c (retB ⟨ar, un, cv, mn, mx, pl, mi, cmp, nt, beq, an, scmp, cat, slen, sbyte, ssub, ofB, toB, len, gi, gb, gs, gl, sub, put, app, ovl, rep, ne0, ge0, inb, bnd, room, sroom, need, br, call, callb, loop, cut, nl⟩ T fn.results.toList K) (args ++ List.replicate (fn.ntmps - args.length) .dead) hp) : FnB P T f args hp ns (normR (oneOf rs)) (E ++ goneE gs) := by
  refine fnb_of_vc htok gs hf hname hb hok hns (fun b g hanc => ?_)
  generalize ho : real P T b = o
  have ho := ho.symm
  obtain ⟨ar, un, cv, mn, mx, pl, mi, cmp, nt, beq, an, scmp, cat, slen, sbyte, ssub, ofB, toB, len, gi, gb, gs, gl, sub, put, app, ovl, rep, ne0, ge0, inb, bnd, room, sroom, need, br, call, callb, loop, cut, nl⟩ := o
  refine h _ _ _ _ _ _ _ _ _ _ _ _ _ _ _ _ _ _ _ _ _ _ _ _ _ _ _ _ _ _ _ _ _ _ _ _ _ _ _ _ _ ?_ ?_ _ (fun v h hp => hp)
  · have e := ho.symm
    unfold real at e
    injection e with e_ar e_un e_cv e_mn e_mx e_pl e_mi e_cmp e_nt e_beq e_an e_scmp e_cat e_slen e_sbyte e_ssub e_ofB e_toB e_len e_gi e_gb e_gs e_gl e_sub e_put e_app e_ovl e_rep e_ne0 e_ge0 e_inb e_bnd e_room e_sroom e_need e_br e_call e_callb e_loop e_cut e_nl
    subst e_ar e_un e_cv e_mn e_mx e_pl e_mi e_cmp e_nt e_beq e_an e_scmp e_cat e_slen e_sbyte e_ssub e_ofB e_toB e_len e_gi e_gb e_gs e_gl e_sub e_put e_app e_ovl e_rep e_ne0 e_ge0 e_inb e_bnd e_room e_sroom e_need e_br e_call e_callb e_loop e_cut e_nl
    constructor <;> intros <;> rfl
  · exact ⟨fun h1 h2 => real_need ho h1 h2, fun h1 h2 => real_br ho h1 h2, fun h1 h2 h3 => by subst h2; exact real_call ho h1 h3, fun h1 h2 => real_callb ho h1 h2, fun t n et _ h1 h2 h3 h4 h5 => real_born ho h1 h2 h3 h4 h5, fun n0 j n et _ _ _ h0 h1 h2 h3 h4 h5 => real_bornC ho h0 h1 h2 h3 h4 h5, fun h1 h2 => real_nl ho h1 h2, fun ha hb h => real_cut ho htok ha hb h, fun n sl hs ha hb h hk => real_cutF ho htok hanc n sl hs ha hb h hk, fun n sl hs I μ a0 ρ0 h0 h1 h2 h3 => real_loop_ok ho htok hanc n sl hs I μ a0 ρ0 h0 h1 h2 h3⟩
def okCall (ρ : List (Nat × Nat)) (ns : List Nat) (hp : Hp) (args0 : List V) (hp0 : Hp) (res0 : V) (E0 : Hp) : Bool := match allRL hp0 args0 with
  | false => false
  | true => match okBlks hp0 hp0 with
    | false => false
    | true => match once ρ E0 [] [] with
      | false => false
      | true => match once ρ hp0 [] [] with
        | false => false
        | true => match domOk E0 hp0 with
          | false => false
          | true => match newOk ρ ns hp hp0 E0 with
            | false => false
            | true => match okBlks (liveE E0) E0 with
              | false => false
              | true => allR (liveE E0) res0
theorem CallsB.of {f : Nat} {args : List V} (ρ : List (Nat × Nat)) {args0 : List V} {hp0 : Hp} {ns : List Nat} {res0 : V} {E0 : Hp} (hf : FnB P T f args0 hp0 ns res0 E0) (ha : fitA (args.map normV) ((renRL ρ args0).map normV)) (hr : fitsH ρ hp hp0) (hok : okCall ρ ns hp args0 hp0 res0 E0 = true) : CallsB P T f args hp (renR ρ res0) (renE ρ E0) := by
  unfold okCall at hok
  split at hok
  · cases hok
  · rename_i h1
    split at hok
    · cases hok
    · rename_i h2
      split at hok
      · cases hok
      · rename_i h3
        split at hok
        · cases hok
        · rename_i h4
          split at hok
          · cases hok
          · rename_i h5
            split at hok
            · cases hok
            · rename_i h6
              split at hok
              · cases hok
              · rename_i h7
                exact ⟨ρ, args0, hp0, ns, res0, E0, hf, ha, h1, hr, h2, h3, h4, h5, h6, h7, hok, rfl, rfl⟩
end
section
variable {P : Program} {T : Tr} {W : Nat → List (List Nat)} {ns : List Nat} {ar : BinOp → IntKind → Int → Int → Int} {un : UnOp → IntKind → Int → Int} {cv : IntKind → Int → Int} {mn : Int → Int → Int} {mx : Int → Int → Int} {pl : Int → Int → Int} {mi : Int → Int → Int} {cmp : BinOp → Int → Int → Bool} {nt : Bool → Bool} {beq : Bool → Bool → Bool} {an : Bool → Bool → Bool} {scmp : BinOp → ByteArray → ByteArray → Bool} {cat : ByteArray → ByteArray → ByteArray} {slen : ByteArray → Int} {sbyte : ByteArray → Int → Int} {ssub : ByteArray → Int → Int → ByteArray} {ofB : ByteArray → List V} {toB : List V → ByteArray} {len : List V → Int} {gi : List V → Int → Nat → Int} {gb : List V → Int → Nat → Bool} {gs : List V → Int → Nat → ByteArray} {gl : List V → Int → Nat → List V} {sub : List V → Int → Int → List V} {put : List V → Int → Nat → List V → List V} {app : List V → List V → List V} {ovl : List V → Int → List V → List V} {rep : Int → V → List V} {ne0 : Int → Prop} {ge0 : Int → Prop} {inb : Int → Int → Prop} {bnd : Int → Int → Int → Prop} {room : Int → Nat → Prop} {sroom : ByteArray → ByteArray → Prop} {need : Prop → Prop → Prop} {br : Bool → (Unit → Prop) → (Unit → Prop) → Prop} {call : Nat → List V → (V → Hp → Prop) → Prop} {callb : Nat → List V → Hp → (V → Hp → Prop) → Prop} {loop : Code → (Exit → List V → Hp → Prop) → List V → Hp → Prop} {cut : Code → Code → (Exit → List V → Hp → Prop) → List V → Hp → Prop} {nl : List V → (Unit → Prop) → (Unit → Prop) → Prop}
theorem Rules.callB (R : Rules P T W ns ar un cv mn mx pl mi cmp nt beq an scmp cat slen sbyte ssub ofB toB len gi gb gs gl sub put app ovl rep ne0 ge0 inb bnd room sroom need br call callb loop cut nl) {f : Nat} {args : List V} {hp : Hp} {K : V → Hp → Prop} (ρ : List (Nat × Nat)) {args0 : List V} {hp0 : Hp} {ns0 : List Nat} {res0 : V} {E0 : Hp} (hf : FnB P T f args0 hp0 ns0 res0 E0) (ha : fitA (args.map normV) ((renRL ρ args0).map normV)) (hr : fitsH ρ hp hp0) (hok : okCall ρ ns0 hp args0 hp0 res0 E0 = true) (k : K (renR ρ res0) (renE ρ E0)) : callb f args hp K := R.callb' (CallsB.of ρ hf ha hr hok) k
theorem Rules.callBD (R : Rules P T W ns ar un cv mn mx pl mi cmp nt beq an scmp cat slen sbyte ssub ofB toB len gi gb gs gl sub put app ovl rep ne0 ge0 inb bnd room sroom need br call callb loop cut nl) {α β : Type} {f : Nat} {args : List V} {hp : Hp} {K : V → Hp → Prop} {x : Option α} {F : α → Option β} {r : β} (h : x.bind F = some r) (k : ∀ a, x = some a → F a = some r → callb f args hp K) : callb f args hp K := by
  obtain ⟨a, h1, h2⟩ := bind_some' h
  exact k a h1 h2
end
end Go.Ab
end
section
namespace Go.Proofs.Ytmofhbedamjblaa
open Go.Ab Go.RowKit
set_option maxRecDepth 100000
set_option maxHeartbeats 4000000
theorem since_of {w w' : World} (h : Below w.heap.size w w') : Since (.of w) w' := ⟨h.os, h.tape, h.output, h.size, h.block⟩
noncomputable def d68 (a0 : Int) (a1 : Int) (a2 : Int) : Option (Int × Int) := if 0 ≤ a0 ∧ 0 ≤ a1 ∧ 0 ≤ a2 ∧ a2 ≤ 1 then some ((a0 + a1 + a2) % 18446744073709551616, (a0 + a1 + a2) / 18446744073709551616) else none
theorem w68 (a0 : Int) (a1 : Int) (a2 : Int) (r : Int × Int) (h : d68 a0 a1 a2 = some r) : Ab.Fn Try.prog TT 68 [.i .u64 a0, .i .u64 a1, .i .u64 a2] (.tup [.i .u64 r.1, .i .u64 r.2]) [] := by
  unfold d68 at h
  split at h <;> cases h
  rename_i hr
  intro w S vals hold hG hrel
  have hv : vals = [.int .u64 a0, .int .u64 a1, .int .u64 a2] := by
    simp only [relL, rel] at hrel
    obtain ⟨_, _, rfl, e1, _, _, rfl, e2, _, _, rfl, e3, rfl⟩ := hrel
    rw [e1, e2, e3]
  subst hv
  have hx := run_callFunc_extern (P := Try.prog) Try.func68 (by kernel_rfl) (by kernel_rfl) (by kernel_rfl) (e := add64Entry) (by kernel_rfl) #[.int .u64 a0, .int .u64 a1, .int .u64 a2] w
  rw [run_add64 a0 a1 a2 hr.1 hr.2.1 hr.2.2.1 hr.2.2.2] at hx
  refine .inr ⟨_, w, hx, _, fun _ => none, S, rfl, since_of (Below.refl _ _), HOk.empty hold, ?_, fun k hk => .inl hk⟩
  simp only [rel, relL]
  exact ⟨_, rfl, _, _, rfl, rfl, _, _, rfl, rfl, rfl⟩
noncomputable def d70 : Option Unit := some ()
noncomputable def w70_c : Code := (Try.f70.body).getD .skip
theorem w70_h : Try.f70.body = some w70_c := by kernel_rfl
theorem w70 (r : Unit) (h : d70 = some r) : Ab.Fn Try.prog TT 70 [] (.agg [.s .nilFunc, .s .nilFunc, .s .nilFunc, .fn (.func 93) [] [], .fn (.func 94) [] [], .fn (.func 95) [] [], .fn (.func 96) [] [], .fn (.func 97) [] [], .fn (.func 95) [] [], .fn (.func 98) [] [], .fn (.func 99) [] [], .fn (.func 100) [] [], .fn (.func 101) [] [], .fn (.func 102) [] [], .fn (.func 100) [] [], .fn (.func 103) [] [], .fn (.func 104) [] [], .fn (.func 105) [] [], .fn (.func 106) [] [], .fn (.func 107) [] [], .fn (.func 108) [] [], .fn (.func 109) [] [], .fn (.func 94) [] [], .fn (.func 110) [] [], .fn (.func 109) [] [], .fn (.func 94) [] [], .fn (.func 110) [] [], .fn (.func 109) [] [], .fn (.func 94) [] [], .fn (.func 110) [] []]) [] := by
  refine fn_rules tok (fun _ => []) Try.func70 (by kernel_rfl) w70_h (by kernel_rfl) ?_
  intro ar un cv mn mx pl mi cmp nt beq an scmp cat slen sbyte ssub ofB toB len gi gb gs gl sub put app ovl rep ne0 ge0 inb bnd room sroom need br call callb loop cut nl E R K hK
  cbv
  exact hK _ _ rfl rfl
end Go.Proofs.Ytmofhbedamjblaa
end
section
namespace Go.Proofs.Ytmofhbedamjblaa
open Go.Ab Go.RowKit 
set_option maxRecDepth 100000
set_option maxHeartbeats 40000000
noncomputable def d78 (a0 : Int) : Option (Bool) :=
 some (cmpLit .eql a0 0)
noncomputable def w78_c : Code := (Try.f78.body).getD .skip
theorem w78_h : Try.f78.body = some w78_c := by kernel_rfl
theorem w78 (a0 : Int) (r : Bool) (h : d78 a0 = some r) : Ab.Fn Try.prog TT 78 [.i .i64 a0] (.b r) [] := by
 refine fn_pure tok W0 Try.func78 (by kernel_rfl) w78_h (by kernel_rfl) ?_
 intro _ _ _ _ _ _ _ _ _ _ _ _ _ _ _ _ _ _ _ _ _ _ _ _ _ _ _ _ _ _ _ _ _ _ _ _ _ _ _ _ _ E R K hK
 have D := E.D
 clear E
 unfold d78 at h
 cbv
 have e := ret_some h; clear h
 refine hK _ _ ?_
 cbv
 try (subst e; simp only [D.hcmp, and_self, and_true, true_and] <;> (repeat' apply And.intro) <;> rfl)
noncomputable def d95 (a0_0 : ByteArray) (a0_1 : Int) (a0_2 : List V) (a0_3 : List V) (a0_4 : List V) : Option (Int) :=
 if (Inb 0 (lenI a0_4)) then
 some (gI a0_4 0 0)
 else none
noncomputable def w95_c : Code := (Try.f95.body).getD .skip
theorem w95_h : Try.f95.body = some w95_c := by kernel_rfl
theorem w95 (a0_0 : ByteArray) (a0_1 : Int) (a0_2 : List V) (a0_3 : List V) (a0_4 : List V) (r : Int) (h : d95 a0_0 a0_1 a0_2 a0_3 a0_4 = some r) : Ab.Fn Try.prog TT 95 [.agg [.str a0_0, .i .i64 a0_1, .sl 2 a0_2, .sl 74 a0_3, .sl 2 a0_4]] (.i .i64 r) [] := by
 refine fn_pure tok W0 Try.func95 (by kernel_rfl) w95_h (by kernel_rfl) ?_
 intro _ _ _ _ _ _ _ _ _ _ _ _ _ _ _ _ _ _ _ _ _ _ _ _ _ _ _ _ _ _ _ _ _ _ _ _ _ _ _ _ _ E R K hK
 have D := E.D
 clear E
 have S := And.intro D.hgi (And.intro D.hinb (D.hlen))
 unfold d95 at h
 cbv
 refine R.needD h (by first|(simp only [S]<;>rfl)|rfl) ?_
 clear h; intro h; cbv
 have e := ret_some h; clear h
 refine hK _ _ ?_
 cbv
 try (subst e; simp only [S, and_self, and_true, true_and] <;> (repeat' apply And.intro) <;> rfl)
noncomputable def d100 (a0_0 : ByteArray) (a0_1 : Int) (a0_2 : List V) (a0_3 : List V) (a0_4 : List V) : Option (Int) :=
 if (Inb 1 (lenI a0_4)) then
 some (gI a0_4 1 0)
 else none
noncomputable def w100_c : Code := (Try.f100.body).getD .skip
theorem w100_h : Try.f100.body = some w100_c := by kernel_rfl
theorem w100 (a0_0 : ByteArray) (a0_1 : Int) (a0_2 : List V) (a0_3 : List V) (a0_4 : List V) (r : Int) (h : d100 a0_0 a0_1 a0_2 a0_3 a0_4 = some r) : Ab.Fn Try.prog TT 100 [.agg [.str a0_0, .i .i64 a0_1, .sl 2 a0_2, .sl 74 a0_3, .sl 2 a0_4]] (.i .i64 r) [] := by
 refine fn_pure tok W0 Try.func100 (by kernel_rfl) w100_h (by kernel_rfl) ?_
 intro _ _ _ _ _ _ _ _ _ _ _ _ _ _ _ _ _ _ _ _ _ _ _ _ _ _ _ _ _ _ _ _ _ _ _ _ _ _ _ _ _ E R K hK
 have D := E.D
 clear E
 have S := And.intro D.hgi (And.intro D.hinb (D.hlen))
 unfold d100 at h
 cbv
 refine R.needD h (by first|(simp only [S]<;>rfl)|rfl) ?_
 clear h; intro h; cbv
 have e := ret_some h; clear h
 refine hK _ _ ?_
 cbv
 try (subst e; simp only [S, and_self, and_true, true_and] <;> (repeat' apply And.intro) <;> rfl)
noncomputable def d105 (a0_0 : ByteArray) (a0_1 : Int) (a0_2 : List V) (a0_3 : List V) (a0_4 : List V) : Option (Int) :=
 if (Inb 0 (lenI a0_4)) then
 if (cmpLit .eql (gI a0_4 0 0) 0) = true then
 some 0
 else
 if (Inb 1 (lenI a0_4)) then
 if (Inb 0 (lenI a0_4)) then
 if (Ne0 (gI a0_4 0 0)) then
 some (arReal .quo .i64 (gI a0_4 1 0) (gI a0_4 0 0))
 else none
 else none
 else none
 else none
noncomputable def w105_c : Code := (Try.f105.body).getD .skip
theorem w105_h : Try.f105.body = some w105_c := by kernel_rfl
theorem w105 (a0_0 : ByteArray) (a0_1 : Int) (a0_2 : List V) (a0_3 : List V) (a0_4 : List V) (r : Int) (h : d105 a0_0 a0_1 a0_2 a0_3 a0_4 = some r) : Ab.Fn Try.prog TT 105 [.agg [.str a0_0, .i .i64 a0_1, .sl 2 a0_2, .sl 74 a0_3, .sl 2 a0_4]] (.i .i64 r) [] := by
 refine fn_pure tok (fun r => match r with | 3 => [[],[0],[0,1],[0,1,2],[],[4],[4,5],[4,5,6],[0,1,2,3,4,5,6,7],[0,1,2,3,4,5,6,7,8]] | _ => []) Try.func105 (by kernel_rfl) w105_h (by kernel_rfl) ?_
 intro _ _ _ _ _ _ _ _ _ _ _ _ _ _ _ _ _ _ _ _ _ _ _ _ _ _ _ _ _ _ _ _ _ _ _ _ _ _ _ _ _ E R K hK
 have D := E.D
 clear E
 have S := And.intro D.har (And.intro D.hcmp (And.intro D.hgi (And.intro D.hinb (And.intro D.hlen (D.hne0)))))
 unfold d105 at h
 cbv
 refine R.cut' (by kernel_rfl) (by kernel_rfl) ?_
 cbv
 refine R.needD h (by first|(simp only [S]<;>rfl)|rfl) ?_
 clear h; intro h; cbv
 refine R.brD h (by first|(simp only [S]<;>rfl)|rfl) ?_ ?_<;>clear h<;>intro h<;>cbv
 ·have e := ret_some h; clear h
  refine hK _ _ ?_
  cbv
  try (subst e; simp only [S, and_self, and_true, true_and] <;> (repeat' apply And.intro) <;> rfl)
 ·refine R.needD h (by first|(simp only [S]<;>rfl)|rfl) ?_
  clear h; intro h; cbv
  refine R.needD h (by first|(simp only [S]<;>rfl)|rfl) ?_
  clear h; intro h; cbv
  refine R.needD h (by first|(simp only [S]<;>rfl)|rfl) ?_
  clear h; intro h; cbv
  have e := ret_some h; clear h
  refine hK _ _ ?_
  cbv
  try (subst e; simp only [S, and_self, and_true, true_and] <;> (repeat' apply And.intro) <;> rfl)
noncomputable def d110_b1 (a0_4 : List V) (s4 : Int × Int) : Option ((Int × Int) ⊕ (Int)) :=
 if (cmpLit .lss s4.2 (lenI a0_4)) = true then
 if (Inb s4.2 (lenI a0_4)) then
 some (.inl ((arReal .add .i64 s4.1 (gI a0_4 s4.2 0)), (arReal .add .i64 s4.2 1)))
 else none
 else
 some (.inr s4.1)
noncomputable def d110 (a0_0 : ByteArray) (a0_1 : Int) (a0_2 : List V) (a0_3 : List V) (a0_4 : List V) : Option (Int) :=
 Option.bind (α := Int) (
 (iter (d110_b1 a0_4) (0, 0)).bind fun y5 =>
 some y5) fun y3 =>
 some y3
noncomputable def w110_c : Code := (Try.f110.body).getD .skip
theorem w110_h : Try.f110.body = some w110_c := by kernel_rfl
theorem w110 (a0_0 : ByteArray) (a0_1 : Int) (a0_2 : List V) (a0_3 : List V) (a0_4 : List V) (r : Int) (h : d110 a0_0 a0_1 a0_2 a0_3 a0_4 = some r) : Ab.Fn Try.prog TT 110 [.agg [.str a0_0, .i .i64 a0_1, .sl 2 a0_2, .sl 74 a0_3, .sl 2 a0_4]] (.i .i64 r) [] := by
 refine fn_pure tok W0 Try.func110 (by kernel_rfl) w110_h (by kernel_rfl) ?_
 intro _ _ _ _ _ _ _ _ _ _ _ _ _ _ _ _ _ _ _ _ _ _ _ _ _ _ _ _ _ _ _ _ _ _ _ _ _ _ _ _ _ E R K hK
 have D := E.D
 clear E
 have S := And.intro D.har (And.intro D.hcmp (And.intro D.hgi (And.intro D.hinb (D.hlen))))
 unfold d110 at h
 cbv
 refine R.cutB (fun p => p) (fun _ _ e => e) h [] (fun p7 => [(3, .i .i64 p7)]) (fun p7 => []) (by kernel_rfl) (by kernel_rfl) (fun y3 hy hFy3 L hLy3 => ?_) (fun p7 h2 => ?_)
 ·clear h; have h := hy; clear hy; cbv
  refine R.loopD h (fun s0 y5 e0 hi hFs4 => ?_)
  clear h
  refine R.loopI hi [] (fun s4 => [(3, .i .i64 s4.1), (9, .i .i64 s4.2)]) (fun s4 => []) ⟨by kernel_rfl, ?_, ?_, by kernel_rfl, by kernel_rfl⟩ (by kernel_rfl) ?_
  ·cbv; try (subst e0; simp only [S, and_self, and_true, true_and] <;> (repeat' apply And.intro) <;> rfl)
  ·cbv; try (subst e0; simp only [S, and_self, and_true, true_and] <;> (repeat' apply And.intro) <;> rfl)
  clear hi e0
  intro s4 m y' hy hins4 houts4 L hLs4
  have h := hy; clear hy; unfold d110_b1 at h
  cbv
  refine R.cut' (by kernel_rfl) (by kernel_rfl) ?_
  cbv
  refine R.brD h (by first|(simp only [S]<;>rfl)|rfl) ?_ ?_<;>clear h<;>intro h<;>cbv
  ·refine R.cut' (by kernel_rfl) (by kernel_rfl) ?_
   cbv
   refine R.needD h (by first|(simp only [S]<;>rfl)|rfl) ?_
   clear h; intro h; cbv
   obtain ⟨s', e, hi⟩ := inl_some h hins4
   refine hLs4 s' _ _ hi ⟨by kernel_rfl, ?_, ?_, by kernel_rfl, by kernel_rfl⟩<;>cbv<;>(try (subst e;simp only [S,and_self,and_true,true_and]<;>(repeat' apply And.intro)<;>rfl))
  ·have e := inr_some h houts4; clear h
   have h := hFs4; rw [e] at h; clear e; try dsimp only at h
   cbv
   obtain ⟨s', e, hi⟩ := jn_some (fun p => p) h
   refine hLy3 s' _ _ hi ⟨by kernel_rfl, ?_, ?_, by kernel_rfl, by kernel_rfl⟩<;>cbv<;>(try (subst e;simp only [S,and_self,and_true,true_and]<;>(repeat' apply And.intro)<;>rfl))
 ·clear h; have h := h2; clear h2; try dsimp only at h
  cbv
  have e := ret_some h; clear h
  refine hK _ _ ?_
  cbv
  try (subst e; simp only [S, and_self, and_true, true_and] <;> (repeat' apply And.intro) <;> rfl)
noncomputable def d126 (a0_0 : ByteArray) (a0_1 : Int) (a0_2 : List V) (a0_3 : List V) (a0_4 : List V) : Option (Int × Int) :=
 if (Inb 2 (lenI a0_4)) then
 if (Inb 3 (lenI a0_4)) then
 some ((wrapK .u64 (gI a0_4 2 0)), (wrapK .u64 (gI a0_4 3 0)))
 else none
 else none
noncomputable def w126_c : Code := (Try.f126.body).getD .skip
theorem w126_h : Try.f126.body = some w126_c := by kernel_rfl
theorem w126 (a0_0 : ByteArray) (a0_1 : Int) (a0_2 : List V) (a0_3 : List V) (a0_4 : List V) (r : Int × Int) (h : d126 a0_0 a0_1 a0_2 a0_3 a0_4 = some r) : Ab.Fn Try.prog TT 126 [.agg [.str a0_0, .i .i64 a0_1, .sl 2 a0_2, .sl 74 a0_3, .sl 2 a0_4]] (.agg [.i .u64 r.1, .i .u64 r.2]) [] := by
 refine fn_pure tok (fun r => match r with | 1 => [[],[0],[0,1],[0,1,2],[0,1,2,3],[],[5],[5,6],[5,6,7],[5,6,7,8],[0,1,2,3,4,5,6,7,8,9],[0,1,2,3,4,5,6,7,8,9,10]] | _ => []) Try.func126 (by kernel_rfl) w126_h (by kernel_rfl) ?_
 intro _ _ _ _ _ _ _ _ _ _ _ _ _ _ _ _ _ _ _ _ _ _ _ _ _ _ _ _ _ _ _ _ _ _ _ _ _ _ _ _ _ E R K hK
 have D := E.D
 clear E
 have S := And.intro D.hcv (And.intro D.hgi (And.intro D.hinb (D.hlen)))
 unfold d126 at h
 cbv
 refine R.needD h (by first|(simp only [S]<;>rfl)|rfl) ?_
 clear h; intro h; cbv
 refine R.needD h (by first|(simp only [S]<;>rfl)|rfl) ?_
 clear h; intro h; cbv
 have e := ret_some h; clear h
 refine hK _ _ ?_
 cbv
 try (subst e; simp only [S, and_self, and_true, true_and] <;> (repeat' apply And.intro) <;> rfl)
noncomputable def d67 (a0 : Int) (a1 : Int) : Option (Int × Int) :=
 if (Ge0 32) then
 if (Ge0 32) then
 if (Ge0 32) then
 if (Ge0 32) then
 if (Ge0 32) then
 some ((arReal .add .u64 (arReal .add .u64 (arReal .mul .u64 (arReal .shr .u64 a0 32) (arReal .shr .u64 a1 32)) (arReal .shr .u64 (arReal .add .u64 (arReal .mul .u64 (arReal .shr .u64 a0 32) (arReal .and .u64 a1 4294967295)) (arReal .shr .u64 (arReal .mul .u64 (arReal .and .u64 a0 4294967295) (arReal .and .u64 a1 4294967295)) 32)) 32)) (arReal .shr .u64 (arReal .add .u64 (arReal .and .u64 (arReal .add .u64 (arReal .mul .u64 (arReal .shr .u64 a0 32) (arReal .and .u64 a1 4294967295)) (arReal .shr .u64 (arReal .mul .u64 (arReal .and .u64 a0 4294967295) (arReal .and .u64 a1 4294967295)) 32)) 4294967295) (arReal .mul .u64 (arReal .and .u64 a0 4294967295) (arReal .shr .u64 a1 32))) 32)), (arReal .mul .u64 a0 a1))
 else none
 else none
 else none
 else none
 else none
noncomputable def w67_c : Code := (Try.f67.body).getD .skip
theorem w67_h : Try.f67.body = some w67_c := by kernel_rfl
theorem w67 (a0 : Int) (a1 : Int) (r : Int × Int) (h : d67 a0 a1 = some r) : Ab.Fn Try.prog TT 67 [.i .u64 a0, .i .u64 a1] (.tup [.i .u64 r.1, .i .u64 r.2]) [] := by
 refine fn_pure tok W0 Try.func67 (by kernel_rfl) w67_h (by kernel_rfl) ?_
 intro _ _ _ _ _ _ _ _ _ _ _ _ _ _ _ _ _ _ _ _ _ _ _ _ _ _ _ _ _ _ _ _ _ _ _ _ _ _ _ _ _ E R K hK
 have D := E.D
 clear E
 have S := And.intro D.har (D.hge0)
 unfold d67 at h
 cbv
 refine R.needD h (by first|(simp only [S]<;>rfl)|rfl) ?_
 clear h; intro h; cbv
 refine R.needD h (by first|(simp only [S]<;>rfl)|rfl) ?_
 clear h; intro h; cbv
 refine R.needD h (by first|(simp only [S]<;>rfl)|rfl) ?_
 clear h; intro h; cbv
 refine R.needD h (by first|(simp only [S]<;>rfl)|rfl) ?_
 clear h; intro h; cbv
 refine R.needD h (by first|(simp only [S]<;>rfl)|rfl) ?_
 clear h; intro h; cbv
 have e := ret_some h; clear h
 refine hK _ _ ?_
 cbv
 try (subst e; simp only [S, and_self, and_true, true_and] <;> (repeat' apply And.intro) <;> rfl)
noncomputable def d124 (a0 : Int) : Option (Int × Int) :=
 Option.bind (α := Int) (
 if (cmpLit .lss a0 0) = true then
 some (unReal .neg .u64 (wrapK .u64 a0))
 else
 some (wrapK .u64 a0)) fun y1 =>
 (d67 y1 y1).bind fun x3 =>
 some (x3.1, x3.2)
noncomputable def w124_c : Code := (Try.f124.body).getD .skip
theorem w124_h : Try.f124.body = some w124_c := by kernel_rfl
theorem w124 (a0 : Int) (r : Int × Int) (h : d124 a0 = some r) : Ab.Fn Try.prog TT 124 [.i .i64 a0] (.agg [.i .u64 r.1, .i .u64 r.2]) [] := by
 refine fn_pure tok W0 Try.func124 (by kernel_rfl) w124_h (by kernel_rfl) ?_
 intro _ _ _ _ _ _ _ _ _ _ _ _ _ _ _ _ _ _ _ _ _ _ _ _ _ _ _ _ _ _ _ _ _ _ _ _ _ _ _ _ _ E R K hK
 have D := E.D
 clear E
 have S := And.intro D.hcmp (And.intro D.hcv (D.hun))
 unfold d124 at h
 cbv
 refine R.cutB (fun p => p) (fun _ _ e => e) h [] (fun p2 => [(3, .i .u64 p2)]) (fun p2 => []) (by kernel_rfl) (by kernel_rfl) (fun y1 hy hFy1 L hLy1 => ?_) (fun p2 h2 => ?_)
 ·clear h; have h := hy; clear hy; cbv
  refine R.brD h (by first|(simp only [S]<;>rfl)|rfl) ?_ ?_<;>clear h<;>intro h<;>cbv
  ·obtain ⟨s', e, hi⟩ := jn_some (fun p => p) h
   refine hLy1 s' _ _ hi ⟨by kernel_rfl, ?_, ?_, by kernel_rfl, by kernel_rfl⟩<;>cbv<;>(try (subst e;simp only [S,and_self,and_true,true_and]<;>(repeat' apply And.intro)<;>rfl))
  ·obtain ⟨s', e, hi⟩ := jn_some (fun p => p) h
   refine hLy1 s' _ _ hi ⟨by kernel_rfl, ?_, ?_, by kernel_rfl, by kernel_rfl⟩<;>cbv<;>(try (subst e;simp only [S,and_self,and_true,true_and]<;>(repeat' apply And.intro)<;>rfl))
 ·clear h; have h := h2; clear h2; try dsimp only at h
  cbv
  refine R.callD h (fun x3 hx3 h2 => ?_)
  clear h; have h := h2; clear h2
  refine R.call' (w67 _ _ _ hx3) (by first|(simp only [S]<;>rfl)|rfl) ?_
  clear hx3; cbv
  have e := ret_some h; clear h
  refine hK _ _ ?_
  cbv
  try (subst e; simp only [S, and_self, and_true, true_and] <;> (repeat' apply And.intro) <;> rfl)
end Go.Proofs.Ytmofhbedamjblaa
end
section
namespace Go.Proofs.Ytmofhbedamjblaa
open Go.Ab Go.RowKit
set_option maxRecDepth 100000
def U64 (a : Int) : Prop := 0 ≤ a ∧ a < 18446744073709551616
theorem wk_u64 (a : Int) : wrapK .u64 a = a % 18446744073709551616 := by simp [wrapK, IntKind.wrap, IntKind.bits, IntKind.signed]
theorem wk_u {a : Int} (h : U64 a) : wrapK .u64 a = a := by obtain ⟨h1, h2⟩ := h; rw [wk_u64]; omega
theorem ar_addu (a b : Int) : arReal .add .u64 a b = wrapK .u64 (a + b) := rfl
theorem ar_subu (a b : Int) : arReal .sub .u64 a b = wrapK .u64 (a - b) := rfl
theorem ar_mulu (a b : Int) : arReal .mul .u64 a b = wrapK .u64 (a * b) := rfl
theorem ar_addu' {a b : Int} (h : U64 (a + b)) : arReal .add .u64 a b = a + b := wk_u h
theorem ar_mulu' {a b : Int} (h : U64 (a * b)) : arReal .mul .u64 a b = a * b := wk_u h
theorem ar_shru {k : IntKind} (a : Int) (n : Nat) (h : n ≤ 64) (hk : k.bits = 64) : arReal .shr k a n = a / (2 ^ n : Nat) := by
  simp only [arReal, hk]
  rw [show min ((n : Int)).toNat 64 = n from by simp; omega, Int.fdiv_eq_ediv_of_nonneg _ (Int.le_of_lt (Int.pow_pos (by omega)))]
  rw [show ((2 ^ n : Nat) : Int) = (2 : Int) ^ n from by simp]
theorem ar_shr32 (a : Int) : arReal .shr .u64 a 32 = a / 4294967296 := by
  have := ar_shru (k := .u64) a 32 (by omega) rfl
  simpa using this
theorem ar_and32 {a : Int} (h : U64 a) : arReal .and .u64 a 4294967295 = a % 4294967296 := by
  obtain ⟨h0, h1⟩ := h
  obtain ⟨n, rfl⟩ := Int.eq_ofNat_of_zero_le h0
  simp only [arReal]
  have e : ((BitVec.ofInt IntKind.u64.bits (n : Int) &&& BitVec.ofInt IntKind.u64.bits 4294967295).toNat) = n % 4294967296 := by
    have e2 : (BitVec.ofInt IntKind.u64.bits 4294967295).toNat = 2 ^ 32 - 1 := by decide
    have e1 : (BitVec.ofInt IntKind.u64.bits (n : Int)).toNat = n := by
      show (BitVec.ofInt 64 (n : Int)).toNat = n
      rw [BitVec.toNat_ofInt]; omega
    rw [BitVec.toNat_and, e1, e2, Nat.and_two_pow_sub_one_eq_mod]
  rw [e]
  show wrapK .u64 _ = _
  rw [wk_u64]; omega
theorem mul_rng {x y : Int} (hx : 0 ≤ x) (hx2 : x ≤ 4294967295) (hy : 0 ≤ y) (hy2 : y ≤ 4294967295) : 0 ≤ x * y ∧ x * y ≤ 18446744065119617025 := by
  refine ⟨Int.mul_nonneg hx hy, ?_⟩
  have := Int.mul_le_mul hx2 hy2 hy (by omega)
  simpa using this
theorem s67 {a b : Int} (ha : U64 a) (hb : U64 b) : d67 a b = some ((a * b) / 18446744073709551616, (a * b) % 18446744073709551616) := by
  unfold d67
  have g : Ge0 32 := by unfold Ge0; omega
  simp only [if_pos g, ar_shr32, ar_and32 ha, ar_and32 hb]
  obtain ⟨a0, a1⟩ := ha
  obtain ⟨b0, b1⟩ := hb
  generalize hx1 : a / 4294967296 = x1
  generalize hx0 : a % 4294967296 = x0
  generalize hy1 : b / 4294967296 = y1
  generalize hy0 : b % 4294967296 = y0
  have ea : a = x1 * 4294967296 + x0 := by omega
  have eb : b = y1 * 4294967296 + y0 := by omega
  have x1r : 0 ≤ x1 ∧ x1 ≤ 4294967295 := by omega
  have x0r : 0 ≤ x0 ∧ x0 ≤ 4294967295 := by omega
  have y1r : 0 ≤ y1 ∧ y1 ≤ 4294967295 := by omega
  have y0r : 0 ≤ y0 ∧ y0 ≤ 4294967295 := by omega
  have p00 := mul_rng x0r.1 x0r.2 y0r.1 y0r.2
  have p10 := mul_rng x1r.1 x1r.2 y0r.1 y0r.2
  have p01 := mul_rng x0r.1 x0r.2 y1r.1 y1r.2
  have p11 := mul_rng x1r.1 x1r.2 y1r.1 y1r.2
  have eab : a * b = x1 * y1 * 18446744073709551616 + (x1 * y0 + x0 * y1) * 4294967296 + x0 * y0 := by
    rw [ea, eb]; grind
  rw [ar_mulu a b, wk_u64, eab]
  rw [ar_mulu' (a := x0) (b := y0) ⟨p00.1, by omega⟩, ar_mulu' (a := x1) (b := y0) ⟨p10.1, by omega⟩, ar_mulu' (a := x0) (b := y1) ⟨p01.1, by omega⟩, ar_mulu' (a := x1) (b := y1) ⟨p11.1, by omega⟩]
  generalize x0 * y0 = q00 at *
  generalize x1 * y0 = q10 at *
  generalize x0 * y1 = q01 at *
  generalize x1 * y1 = q11 at *
  rw [ar_addu' (a := q10) ⟨by omega, by omega⟩, ar_and32 ⟨by omega, by omega⟩, ar_addu' (b := q01) ⟨by omega, by omega⟩, ar_addu' (a := q11) ⟨by omega, by omega⟩, ar_addu' ⟨by omega, by omega⟩]
  congr 2
  omega
end Go.Proofs.Ytmofhbedamjblaa
end
section
namespace Go.Proofs.Ytmofhbedamjblaa
open Go.Ab Go.RowKit 
set_option maxRecDepth 100000
set_option maxHeartbeats 40000000
noncomputable def d130_b1 (a0_0 : Int) (a0_1 : Int) (a0_2 : Int) (a0_3 : Int) (a1_0 : Int) (a1_1 : Int) (a1_2 : Int) (a1_3 : Int) (s4 : Int) : Option ((Int) ⊕ ((Bool) ⊕ (Unit))) :=
 if (cmpLit .geq s4 0) = true then
 if (Inb s4 (Int.ofNat 4)) then
 if (cmpLit .eql s4 (Int.ofNat 0)) = true then
 if (Inb s4 (Int.ofNat 4)) then
 if (cmpLit .eql s4 (Int.ofNat 0)) = true then
 if (cmpLit .neq a0_0 a1_0) = true then
 if (Inb s4 (Int.ofNat 4)) then
 if (cmpLit .eql s4 (Int.ofNat 0)) = true then
 if (Inb s4 (Int.ofNat 4)) then
 if (cmpLit .eql s4 (Int.ofNat 0)) = true then
 some (.inr (.inl (cmpLit .lss a0_0 a1_0)))
 else
 none
 else none
 else
 none
 else none
 else
 some (.inl (arReal .sub .i64 s4 1))
 else
 none
 else none
 else
 if (cmpLit .eql s4 (Int.ofNat 1)) = true then
 if (Inb s4 (Int.ofNat 4)) then
 if (cmpLit .eql s4 (Int.ofNat 0)) = true then
 none
 else
 if (cmpLit .eql s4 (Int.ofNat 1)) = true then
 if (cmpLit .neq a0_1 a1_1) = true then
 if (Inb s4 (Int.ofNat 4)) then
 if (cmpLit .eql s4 (Int.ofNat 0)) = true then
 none
 else
 if (cmpLit .eql s4 (Int.ofNat 1)) = true then
 if (Inb s4 (Int.ofNat 4)) then
 if (cmpLit .eql s4 (Int.ofNat 0)) = true then
 none
 else
 if (cmpLit .eql s4 (Int.ofNat 1)) = true then
 some (.inr (.inl (cmpLit .lss a0_1 a1_1)))
 else
 none
 else none
 else
 none
 else none
 else
 some (.inl (arReal .sub .i64 s4 1))
 else
 none
 else none
 else
 if (cmpLit .eql s4 (Int.ofNat 2)) = true then
 if (Inb s4 (Int.ofNat 4)) then
 if (cmpLit .eql s4 (Int.ofNat 0)) = true then
 none
 else
 if (cmpLit .eql s4 (Int.ofNat 1)) = true then
 none
 else
 if (cmpLit .eql s4 (Int.ofNat 2)) = true then
 if (cmpLit .neq a0_2 a1_2) = true then
 if (Inb s4 (Int.ofNat 4)) then
 if (cmpLit .eql s4 (Int.ofNat 0)) = true then
 none
 else
 if (cmpLit .eql s4 (Int.ofNat 1)) = true then
 none
 else
 if (cmpLit .eql s4 (Int.ofNat 2)) = true then
 if (Inb s4 (Int.ofNat 4)) then
 if (cmpLit .eql s4 (Int.ofNat 0)) = true then
 none
 else
 if (cmpLit .eql s4 (Int.ofNat 1)) = true then
 none
 else
 if (cmpLit .eql s4 (Int.ofNat 2)) = true then
 some (.inr (.inl (cmpLit .lss a0_2 a1_2)))
 else
 none
 else none
 else
 none
 else none
 else
 some (.inl (arReal .sub .i64 s4 1))
 else
 none
 else none
 else
 if (Inb s4 (Int.ofNat 4)) then
 if (cmpLit .eql s4 (Int.ofNat 0)) = true then
 none
 else
 if (cmpLit .eql s4 (Int.ofNat 1)) = true then
 none
 else
 if (cmpLit .eql s4 (Int.ofNat 2)) = true then
 none
 else
 if (cmpLit .neq a0_3 a1_3) = true then
 if (Inb s4 (Int.ofNat 4)) then
 if (cmpLit .eql s4 (Int.ofNat 0)) = true then
 none
 else
 if (cmpLit .eql s4 (Int.ofNat 1)) = true then
 none
 else
 if (cmpLit .eql s4 (Int.ofNat 2)) = true then
 none
 else
 if (Inb s4 (Int.ofNat 4)) then
 if (cmpLit .eql s4 (Int.ofNat 0)) = true then
 none
 else
 if (cmpLit .eql s4 (Int.ofNat 1)) = true then
 none
 else
 if (cmpLit .eql s4 (Int.ofNat 2)) = true then
 none
 else
 some (.inr (.inl (cmpLit .lss a0_3 a1_3)))
 else none
 else none
 else
 some (.inl (arReal .sub .i64 s4 1))
 else none
 else none
 else
 some (.inr (.inr ()))
noncomputable def d130 (a0_0 : Int) (a0_1 : Int) (a0_2 : Int) (a0_3 : Int) (a1_0 : Int) (a1_1 : Int) (a1_2 : Int) (a1_3 : Int) : Option (Bool) :=
 Option.bind (α := (Unit) ⊕ (Bool)) (
 (iter (d130_b1 a0_0 a0_1 a0_2 a0_3 a1_0 a1_1 a1_2 a1_3) 3).bind fun y5 =>
 match y5 with
 | .inl p6 =>
 some (.inr p6)
 | .inr y5r0 =>
 some (.inl ())) fun y3 =>
 match y3 with
 | .inl p8 =>
 some false
 | .inr y3r0 =>
 some y3r0
noncomputable def w130_c : Code := (Try.f130.body).getD .skip
theorem w130_h : Try.f130.body = some w130_c := by kernel_rfl
theorem w130 (a0_0 : Int) (a0_1 : Int) (a0_2 : Int) (a0_3 : Int) (a1_0 : Int) (a1_1 : Int) (a1_2 : Int) (a1_3 : Int) (r : Bool) (h : d130 a0_0 a0_1 a0_2 a0_3 a1_0 a1_1 a1_2 a1_3 = some r) : Ab.Fn Try.prog TT 130 [.agg [.i .u64 a0_0, .i .u64 a0_1, .i .u64 a0_2, .i .u64 a0_3], .agg [.i .u64 a1_0, .i .u64 a1_1, .i .u64 a1_2, .i .u64 a1_3]] (.b r) [] := by
 refine fn_pure tok (fun r => match r with | 4 => [[],[0],[0,1],[],[3],[3,4],[0,1,2,3,4,5]] | 5 => [[],[0],[0,1],[],[3],[3,4],[0,1,2,3,4,5],[0,1,2,3,4,5,6]] | _ => []) Try.func130 (by kernel_rfl) w130_h (by kernel_rfl) ?_
 intro _ _ _ _ _ _ _ _ _ _ _ _ _ _ _ _ _ _ _ _ _ _ _ _ _ _ _ _ _ _ _ _ _ _ _ _ _ _ _ _ _ E R K hK
 have D := E.D
 clear E
 have S := And.intro D.har (And.intro D.hcmp (D.hinb))
 unfold d130 at h
 cbv
 refine R.cutB Sum.inl (fun _ _ e => Sum.inl.inj e) h [] (fun p8 => []) (fun p8 => []) (by kernel_rfl) (by kernel_rfl) (fun y3 hy hFy3 L hLy3 => ?_) (fun p8 h2 => ?_)
 ·as_aux_lemma =>
  clear h; have h := hy; clear hy; cbv
  refine R.loopD h (fun s0 y5 e0 hi hFs4 => ?_)
  clear h
  refine R.loopI hi [] (fun s4 => [(5, .i .i64 s4)]) (fun s4 => []) ⟨by kernel_rfl, ?_, ?_, by kernel_rfl, by kernel_rfl⟩ (by kernel_rfl) ?_
  ·cbv; try (subst e0; simp only [S, and_self, and_true, true_and] <;> (repeat' apply And.intro) <;> rfl)
  ·cbv; try (subst e0; simp only [S, and_self, and_true, true_and] <;> (repeat' apply And.intro) <;> rfl)
  clear hi e0
  intro s4 m y' hy hins4 houts4 L hLs4
  have h := hy; clear hy; unfold d130_b1 at h
  cbv
  refine R.cut' (by kernel_rfl) (by kernel_rfl) ?_
  cbv
  refine R.brD h (by first|(simp only [S]<;>rfl)|rfl) ?_ ?_<;>clear h<;>intro h<;>cbv
  ·as_aux_lemma =>
   refine R.cut' (by kernel_rfl) (by kernel_rfl) ?_
   cbv
   refine R.needD h (by first|(simp only [S]<;>rfl)|rfl) ?_
   clear h; intro h; cbv
   refine R.brD h (by first|(simp only [S]<;>rfl)|rfl) ?_ ?_<;>clear h<;>intro h<;>cbv
   ·refine R.needD h (by first|(simp only [S]<;>rfl)|rfl) ?_
    clear h; intro h; cbv
    refine R.brD h (by first|(simp only [S]<;>rfl)|rfl) ?_ ?_<;>clear h<;>intro h<;>cbv
    ·refine R.brD h (by first|(simp only [S]<;>rfl)|rfl) ?_ ?_<;>clear h<;>intro h<;>cbv
     ·refine R.needD h (by first|(simp only [S]<;>rfl)|rfl) ?_
      clear h; intro h; cbv
      refine R.brD h (by first|(simp only [S]<;>rfl)|rfl) ?_ ?_<;>clear h<;>intro h<;>cbv
      ·refine R.needD h (by first|(simp only [S]<;>rfl)|rfl) ?_
       clear h; intro h; cbv
       refine R.brD h (by first|(simp only [S]<;>rfl)|rfl) ?_ ?_<;>clear h<;>intro h<;>cbv
       ·have e := inr_some h houts4; clear h
        have h := hFs4; rw [e] at h; clear e; try dsimp only at h
        cbv
        have e := ret_some h; clear h
        have h := hFy3; rw [e] at h; clear e; try dsimp only at h
        cbv
        have e := ret_some h; clear h
        refine hK _ _ ?_
        cbv
        try (subst e; simp only [S, and_self, and_true, true_and] <;> (repeat' apply And.intro) <;> rfl)
       ·exact (none_some h).elim
      ·exact (none_some h).elim
     ·obtain ⟨s', e, hi⟩ := inl_some h hins4
      refine hLs4 s' _ _ hi ⟨by kernel_rfl, ?_, ?_, by kernel_rfl, by kernel_rfl⟩<;>cbv<;>(try (subst e;simp only [S,and_self,and_true,true_and]<;>(repeat' apply And.intro)<;>rfl))
    ·exact (none_some h).elim
   ·as_aux_lemma =>
    refine R.brD h (by first|(simp only [S]<;>rfl)|rfl) ?_ ?_<;>clear h<;>intro h<;>cbv
    ·refine R.needD h (by first|(simp only [S]<;>rfl)|rfl) ?_
     clear h; intro h; cbv
     refine R.brD h (by first|(simp only [S]<;>rfl)|rfl) ?_ ?_<;>clear h<;>intro h<;>cbv
     ·exact (none_some h).elim
     ·refine R.brD h (by first|(simp only [S]<;>rfl)|rfl) ?_ ?_<;>clear h<;>intro h<;>cbv
      ·refine R.brD h (by first|(simp only [S]<;>rfl)|rfl) ?_ ?_<;>clear h<;>intro h<;>cbv
       ·refine R.needD h (by first|(simp only [S]<;>rfl)|rfl) ?_
        clear h; intro h; cbv
        refine R.brD h (by first|(simp only [S]<;>rfl)|rfl) ?_ ?_<;>clear h<;>intro h<;>cbv
        ·exact (none_some h).elim
        ·refine R.brD h (by first|(simp only [S]<;>rfl)|rfl) ?_ ?_<;>clear h<;>intro h<;>cbv
         ·refine R.needD h (by first|(simp only [S]<;>rfl)|rfl) ?_
          clear h; intro h; cbv
          refine R.brD h (by first|(simp only [S]<;>rfl)|rfl) ?_ ?_<;>clear h<;>intro h<;>cbv
          ·exact (none_some h).elim
          ·refine R.brD h (by first|(simp only [S]<;>rfl)|rfl) ?_ ?_<;>clear h<;>intro h<;>cbv
           ·have e := inr_some h houts4; clear h
            have h := hFs4; rw [e] at h; clear e; try dsimp only at h
            cbv
            have e := ret_some h; clear h
            have h := hFy3; rw [e] at h; clear e; try dsimp only at h
            cbv
            have e := ret_some h; clear h
            refine hK _ _ ?_
            cbv
            try (subst e; simp only [S, and_self, and_true, true_and] <;> (repeat' apply And.intro) <;> rfl)
           ·exact (none_some h).elim
         ·exact (none_some h).elim
       ·obtain ⟨s', e, hi⟩ := inl_some h hins4
        refine hLs4 s' _ _ hi ⟨by kernel_rfl, ?_, ?_, by kernel_rfl, by kernel_rfl⟩<;>cbv<;>(try (subst e;simp only [S,and_self,and_true,true_and]<;>(repeat' apply And.intro)<;>rfl))
      ·exact (none_some h).elim
    ·as_aux_lemma =>
     refine R.brD h (by first|(simp only [S]<;>rfl)|rfl) ?_ ?_<;>clear h<;>intro h<;>cbv
     ·refine R.needD h (by first|(simp only [S]<;>rfl)|rfl) ?_
      clear h; intro h; cbv
      refine R.brD h (by first|(simp only [S]<;>rfl)|rfl) ?_ ?_<;>clear h<;>intro h<;>cbv
      ·exact (none_some h).elim
      ·refine R.brD h (by first|(simp only [S]<;>rfl)|rfl) ?_ ?_<;>clear h<;>intro h<;>cbv
       ·exact (none_some h).elim
       ·refine R.brD h (by first|(simp only [S]<;>rfl)|rfl) ?_ ?_<;>clear h<;>intro h<;>cbv
        ·refine R.brD h (by first|(simp only [S]<;>rfl)|rfl) ?_ ?_<;>clear h<;>intro h<;>cbv
         ·refine R.needD h (by first|(simp only [S]<;>rfl)|rfl) ?_
          clear h; intro h; cbv
          refine R.brD h (by first|(simp only [S]<;>rfl)|rfl) ?_ ?_<;>clear h<;>intro h<;>cbv
          ·exact (none_some h).elim
          ·refine R.brD h (by first|(simp only [S]<;>rfl)|rfl) ?_ ?_<;>clear h<;>intro h<;>cbv
           ·exact (none_some h).elim
           ·refine R.brD h (by first|(simp only [S]<;>rfl)|rfl) ?_ ?_<;>clear h<;>intro h<;>cbv
            ·refine R.needD h (by first|(simp only [S]<;>rfl)|rfl) ?_
             clear h; intro h; cbv
             refine R.brD h (by first|(simp only [S]<;>rfl)|rfl) ?_ ?_<;>clear h<;>intro h<;>cbv
             ·exact (none_some h).elim
             ·refine R.brD h (by first|(simp only [S]<;>rfl)|rfl) ?_ ?_<;>clear h<;>intro h<;>cbv
              ·exact (none_some h).elim
              ·refine R.brD h (by first|(simp only [S]<;>rfl)|rfl) ?_ ?_<;>clear h<;>intro h<;>cbv
               ·have e := inr_some h houts4; clear h
                have h := hFs4; rw [e] at h; clear e; try dsimp only at h
                cbv
                have e := ret_some h; clear h
                have h := hFy3; rw [e] at h; clear e; try dsimp only at h
                cbv
                have e := ret_some h; clear h
                refine hK _ _ ?_
                cbv
                try (subst e; simp only [S, and_self, and_true, true_and] <;> (repeat' apply And.intro) <;> rfl)
               ·exact (none_some h).elim
            ·exact (none_some h).elim
         ·obtain ⟨s', e, hi⟩ := inl_some h hins4
          refine hLs4 s' _ _ hi ⟨by kernel_rfl, ?_, ?_, by kernel_rfl, by kernel_rfl⟩<;>cbv<;>(try (subst e;simp only [S,and_self,and_true,true_and]<;>(repeat' apply And.intro)<;>rfl))
        ·exact (none_some h).elim
     ·refine R.needD h (by first|(simp only [S]<;>rfl)|rfl) ?_
      clear h; intro h; cbv
      refine R.brD h (by first|(simp only [S]<;>rfl)|rfl) ?_ ?_<;>clear h<;>intro h<;>cbv
      ·exact (none_some h).elim
      ·refine R.brD h (by first|(simp only [S]<;>rfl)|rfl) ?_ ?_<;>clear h<;>intro h<;>cbv
       ·exact (none_some h).elim
       ·refine R.brD h (by first|(simp only [S]<;>rfl)|rfl) ?_ ?_<;>clear h<;>intro h<;>cbv
        ·exact (none_some h).elim
        ·refine R.brD h (by first|(simp only [S]<;>rfl)|rfl) ?_ ?_<;>clear h<;>intro h<;>cbv
         ·refine R.needD h (by first|(simp only [S]<;>rfl)|rfl) ?_
          clear h; intro h; cbv
          refine R.brD h (by first|(simp only [S]<;>rfl)|rfl) ?_ ?_<;>clear h<;>intro h<;>cbv
          ·exact (none_some h).elim
          ·refine R.brD h (by first|(simp only [S]<;>rfl)|rfl) ?_ ?_<;>clear h<;>intro h<;>cbv
           ·exact (none_some h).elim
           ·refine R.brD h (by first|(simp only [S]<;>rfl)|rfl) ?_ ?_<;>clear h<;>intro h<;>cbv
            ·exact (none_some h).elim
            ·refine R.needD h (by first|(simp only [S]<;>rfl)|rfl) ?_
             clear h; intro h; cbv
             refine R.brD h (by first|(simp only [S]<;>rfl)|rfl) ?_ ?_<;>clear h<;>intro h<;>cbv
             ·exact (none_some h).elim
             ·refine R.brD h (by first|(simp only [S]<;>rfl)|rfl) ?_ ?_<;>clear h<;>intro h<;>cbv
              ·exact (none_some h).elim
              ·refine R.brD h (by first|(simp only [S]<;>rfl)|rfl) ?_ ?_<;>clear h<;>intro h<;>cbv
               ·exact (none_some h).elim
               ·have e := inr_some h houts4; clear h
                have h := hFs4; rw [e] at h; clear e; try dsimp only at h
                cbv
                have e := ret_some h; clear h
                have h := hFy3; rw [e] at h; clear e; try dsimp only at h
                cbv
                have e := ret_some h; clear h
                refine hK _ _ ?_
                cbv
                try (subst e; simp only [S, and_self, and_true, true_and] <;> (repeat' apply And.intro) <;> rfl)
         ·obtain ⟨s', e, hi⟩ := inl_some h hins4
          refine hLs4 s' _ _ hi ⟨by kernel_rfl, ?_, ?_, by kernel_rfl, by kernel_rfl⟩<;>cbv<;>(try (subst e;simp only [S,and_self,and_true,true_and]<;>(repeat' apply And.intro)<;>rfl))
  ·have e := inr_some h houts4; clear h
   have h := hFs4; rw [e] at h; clear e; try dsimp only at h
   cbv
   obtain ⟨s', e, hi⟩ := jn_some Sum.inl h
   refine hLy3 s' _ _ hi ⟨by kernel_rfl, ?_, ?_, by kernel_rfl, by kernel_rfl⟩<;>cbv<;>(try (subst e;simp only [S,and_self,and_true,true_and]<;>(repeat' apply And.intro)<;>rfl))
 ·clear h; have h := h2; clear h2; try dsimp only at h
  cbv
  have e := ret_some h; clear h
  refine hK _ _ ?_
  cbv
  try (subst e; simp only [S, and_self, and_true, true_and] <;> (repeat' apply And.intro) <;> rfl)
noncomputable def d127 (a0_0 : Int) (a0_1 : Int) (a1_0 : Int) (a1_1 : Int) : Option (Int × Int) :=
 (d68 a0_1 a1_1 0).bind fun x1 =>
 (d68 a0_0 a1_0 x1.2).bind fun x2 =>
 some (x2.1, x1.1)
noncomputable def w127_c : Code := (Try.f127.body).getD .skip
theorem w127_h : Try.f127.body = some w127_c := by kernel_rfl
theorem w127 (a0_0 : Int) (a0_1 : Int) (a1_0 : Int) (a1_1 : Int) (r : Int × Int) (h : d127 a0_0 a0_1 a1_0 a1_1 = some r) : Ab.Fn Try.prog TT 127 [.agg [.i .u64 a0_0, .i .u64 a0_1], .agg [.i .u64 a1_0, .i .u64 a1_1]] (.agg [.i .u64 r.1, .i .u64 r.2]) [] := by
 refine fn_pure tok W0 Try.func127 (by kernel_rfl) w127_h (by kernel_rfl) ?_
 intro ar un cv mn mx pl mi cmp nt beq an scmp cat slen sbyte ssub ofB toB len gi gb gs gl sub put app ovl rep ne0 ge0 inb bnd room sroom need br call callb loop cut nl E R K hK
 have D := E.D
 clear E
 unfold d127 at h
 cbv
 refine R.callD h (fun x1 hx1 h2 => ?_)
 clear h; have h := h2; clear h2
 refine R.call' (w68 _ _ _ _ hx1) (by rfl) ?_
 clear hx1; cbv
 refine R.callD h (fun x2 hx2 h2 => ?_)
 clear h; have h := h2; clear h2
 refine R.call' (w68 _ _ _ _ hx2) (by rfl) ?_
 clear hx2; cbv
 have e := ret_some h; clear h
 refine hK _ _ ?_
 cbv
 try (subst e; simp only [and_self, and_true, true_and] <;> (repeat' apply And.intro) <;> rfl)
end Go.Proofs.Ytmofhbedamjblaa
end
section
namespace Go.Proofs.Ytmofhbedamjblaa
open Go.Ab Go.RowKit
set_option maxRecDepth 100000
def I64 (a : Int) : Prop := -9223372036854775808 ≤ a ∧ a < 9223372036854775808
theorem s68 {a b c : Int} (ha : U64 a) (hb : U64 b) (h0 : 0 ≤ c) (h1 : c ≤ 1) : d68 a b c = some ((a + b + c) % 18446744073709551616, (a + b + c) / 18446744073709551616) := by
  unfold d68
  rw [if_pos ⟨ha.1, hb.1, h0, h1⟩]
def W2 (h l : Int) : Int := h * 18446744073709551616 + l
theorem s127 {h1 l1 h2 l2 : Int} (a : U64 h1) (b : U64 l1) (c : U64 h2) (d : U64 l2) : ∃ h l, d127 h1 l1 h2 l2 = some (h, l) ∧ U64 h ∧ U64 l ∧ W2 h l = (W2 h1 l1 + W2 h2 l2) % 340282366920938463463374607431768211456 := by
  unfold U64 at *
  unfold d127
  rw [s68 b d (by omega) (by omega)]
  simp only [Option.bind_some]
  rw [s68 a c (by omega) (by omega)]
  simp only [Option.bind_some]
  refine ⟨_, _, rfl, by constructor <;> omega, by constructor <;> omega, ?_⟩
  unfold W2
  omega
theorem s124 {v : Int} (hv : I64 v) : d124 v = some ((v * v) / 18446744073709551616, (v * v) % 18446744073709551616) := by
  obtain ⟨v0, v1⟩ := hv
  unfold d124
  by_cases h : v < 0
  · rw [if_pos (by simp [cmpLit, h])]
    simp only [Option.bind_some]
    have e : unReal .neg .u64 (wrapK .u64 v) = -v := by
      show wrapK .u64 (0 - wrapK .u64 v) = -v
      rw [wk_u64, wk_u64]; omega
    rw [e, s67 ⟨by omega, by omega⟩ ⟨by omega, by omega⟩]
    simp only [Option.bind_some, Int.neg_mul_neg]
  · rw [if_neg (by simp [cmpLit]; omega)]
    simp only [Option.bind_some]
    rw [wk_u ⟨by omega, by omega⟩, s67 ⟨by omega, by omega⟩ ⟨by omega, by omega⟩]
    simp only [Option.bind_some]
end Go.Proofs.Ytmofhbedamjblaa
end
section
namespace Go.Proofs.Ytmofhbedamjblaa
open Go.Ab Go.RowKit 
set_option maxRecDepth 100000
set_option maxHeartbeats 40000000
noncomputable def d128_b2 (a0 : List V) (a1 : List V) (s304 : Int × Int × Int × Int × Int) (s518 : Int × Int × Int × Int × Int × Int) : Option ((Int × Int × Int × Int × Int × Int) ⊕ (Int × Int × Int × Int × Int)) :=
 if (cmpLit .lss s518.2.1 (lenI a1)) = true then
 if (Inb s518.2.1 (lenI a1)) then
 (d67 (gI a0 s304.1 0) (gI a1 s518.2.1 0)).bind fun x547 =>
 if (Inb (arReal .add .i64 s304.1 s518.2.1) (Int.ofNat 4)) then
 if (cmpLit .eql (arReal .add .i64 s304.1 s518.2.1) (Int.ofNat 0)) = true then
 (d68 x547.2 s518.2.2.1 0).bind fun x548 =>
 (d68 x548.1 s518.1 0).bind fun x549 =>
 if (Inb (arReal .add .i64 s304.1 s518.2.1) (Int.ofNat 4)) then
 if (cmpLit .eql (arReal .add .i64 s304.1 s518.2.1) (Int.ofNat 0)) = true then
 some (.inl ((arReal .add .u64 (arReal .add .u64 x547.1 x548.2) x549.2), (arReal .add .i64 s518.2.1 1), x549.1, s518.2.2.2.1, s518.2.2.2.2.1, s518.2.2.2.2.2))
 else
 none
 else none
 else
 if (cmpLit .eql (arReal .add .i64 s304.1 s518.2.1) (Int.ofNat 1)) = true then
 (d68 x547.2 s518.2.2.2.1 0).bind fun x550 =>
 (d68 x550.1 s518.1 0).bind fun x551 =>
 if (Inb (arReal .add .i64 s304.1 s518.2.1) (Int.ofNat 4)) then
 if (cmpLit .eql (arReal .add .i64 s304.1 s518.2.1) (Int.ofNat 0)) = true then
 none
 else
 if (cmpLit .eql (arReal .add .i64 s304.1 s518.2.1) (Int.ofNat 1)) = true then
 some (.inl ((arReal .add .u64 (arReal .add .u64 x547.1 x550.2) x551.2), (arReal .add .i64 s518.2.1 1), s518.2.2.1, x551.1, s518.2.2.2.2.1, s518.2.2.2.2.2))
 else
 none
 else none
 else
 if (cmpLit .eql (arReal .add .i64 s304.1 s518.2.1) (Int.ofNat 2)) = true then
 (d68 x547.2 s518.2.2.2.2.1 0).bind fun x552 =>
 (d68 x552.1 s518.1 0).bind fun x553 =>
 if (Inb (arReal .add .i64 s304.1 s518.2.1) (Int.ofNat 4)) then
 if (cmpLit .eql (arReal .add .i64 s304.1 s518.2.1) (Int.ofNat 0)) = true then
 none
 else
 if (cmpLit .eql (arReal .add .i64 s304.1 s518.2.1) (Int.ofNat 1)) = true then
 none
 else
 if (cmpLit .eql (arReal .add .i64 s304.1 s518.2.1) (Int.ofNat 2)) = true then
 some (.inl ((arReal .add .u64 (arReal .add .u64 x547.1 x552.2) x553.2), (arReal .add .i64 s518.2.1 1), s518.2.2.1, s518.2.2.2.1, x553.1, s518.2.2.2.2.2))
 else
 none
 else none
 else
 (d68 x547.2 s518.2.2.2.2.2 0).bind fun x554 =>
 (d68 x554.1 s518.1 0).bind fun x555 =>
 if (Inb (arReal .add .i64 s304.1 s518.2.1) (Int.ofNat 4)) then
 if (cmpLit .eql (arReal .add .i64 s304.1 s518.2.1) (Int.ofNat 0)) = true then
 none
 else
 if (cmpLit .eql (arReal .add .i64 s304.1 s518.2.1) (Int.ofNat 1)) = true then
 none
 else
 if (cmpLit .eql (arReal .add .i64 s304.1 s518.2.1) (Int.ofNat 2)) = true then
 none
 else
 some (.inl ((arReal .add .u64 (arReal .add .u64 x547.1 x554.2) x555.2), (arReal .add .i64 s518.2.1 1), s518.2.2.1, s518.2.2.2.1, s518.2.2.2.2.1, x555.1))
 else none
 else none
 else none
 else
 some (.inr (s518.1, s518.2.2.1, s518.2.2.2.1, s518.2.2.2.2.1, s518.2.2.2.2.2))
noncomputable def d128_b1 (a0 : List V) (a1 : List V) (s304 : Int × Int × Int × Int × Int) : Option ((Int × Int × Int × Int × Int) ⊕ (Int × Int × Int × Int)) :=
 if (cmpLit .lss s304.1 (lenI a0)) = true then
 Option.bind (α := Int × Int × Int × Int) (
 if (Inb s304.1 (lenI a0)) then
 Option.bind (α := Int × Int × Int × Int × Int) (
 (iter (d128_b2 a0 a1 s304) (0, 0, s304.2.1, s304.2.2.1, s304.2.2.2.1, s304.2.2.2.2)).bind fun y537 =>
 some (y537.1, y537.2.1, y537.2.2.1, y537.2.2.2.1, y537.2.2.2.2)) fun y481 =>
 if (Inb (arReal .add .i64 s304.1 (lenI a1)) (Int.ofNat 4)) then
 if (cmpLit .eql (arReal .add .i64 s304.1 (lenI a1)) (Int.ofNat 0)) = true then
 some (y481.1, y481.2.2.1, y481.2.2.2.1, y481.2.2.2.2)
 else
 if (cmpLit .eql (arReal .add .i64 s304.1 (lenI a1)) (Int.ofNat 1)) = true then
 some (y481.2.1, y481.1, y481.2.2.2.1, y481.2.2.2.2)
 else
 if (cmpLit .eql (arReal .add .i64 s304.1 (lenI a1)) (Int.ofNat 2)) = true then
 some (y481.2.1, y481.2.2.1, y481.1, y481.2.2.2.2)
 else
 some (y481.2.1, y481.2.2.1, y481.2.2.2.1, y481.1)
 else none
 else none) fun y424 =>
 some (.inl ((arReal .add .i64 s304.1 1), y424.1, y424.2.1, y424.2.2.1, y424.2.2.2))
 else
 some (.inr (s304.2.1, s304.2.2.1, s304.2.2.2.1, s304.2.2.2.2))
noncomputable def d128 (a0 : List V) (a1 : List V) : Option (Int × Int × Int × Int) :=
 Option.bind (α := Int × Int × Int × Int) (
 (iter (d128_b1 a0 a1) (0, 0, 0, 0, 0)).bind fun y365 =>
 some (y365.1, y365.2.1, y365.2.2.1, y365.2.2.2)) fun y183 =>
 some (y183.1, y183.2.1, y183.2.2.1, y183.2.2.2)
noncomputable def w128_c : Code := (Try.f128.body).getD .skip
theorem w128_h : Try.f128.body = some w128_c := by kernel_rfl
theorem w128 (a0 : List V) (a1 : List V) (r : Int × Int × Int × Int) (h : d128 a0 a1 = some r) : Ab.Fn Try.prog TT 128 [.sl 97 a0, .sl 97 a1] (.agg [.i .u64 r.1, .i .u64 r.2.1, .i .u64 r.2.2.1, .i .u64 r.2.2.2]) [] := by
 refine fn_pure tok W0 Try.func128 (by kernel_rfl) w128_h (by kernel_rfl) ?_
 intro _ _ _ _ _ _ _ _ _ _ _ _ _ _ _ _ _ _ _ _ _ _ _ _ _ _ _ _ _ _ _ _ _ _ _ _ _ _ _ _ _ E R K hK
 have D := E.D
 clear E
 have S := And.intro D.har (And.intro D.hcmp (And.intro D.hgi (And.intro D.hinb (D.hlen))))
 unfold d128 at h
 cbv
 refine R.cutB (fun p => p) (fun _ _ e => e) h [] (fun p560 => []) (fun p560 => [(80, .cells 172 [.i .u64 p560.1, .i .u64 p560.2.1, .i .u64 p560.2.2.1, .i .u64 p560.2.2.2])]) (by kernel_rfl) (by kernel_rfl) (fun y183 hy hFy183 L hLy183 => ?_) (fun p560 h2 => ?_)
 ·as_aux_lemma =>
  clear h; have h := hy; clear hy; cbv
  refine R.loopD h (fun s0 y365 e0 hi hFs304 => ?_)
  clear h
  refine R.loopI hi [] (fun s304 => [(17, .i .i64 s304.1)]) (fun s304 => [(80, .cells 172 [.i .u64 s304.2.1, .i .u64 s304.2.2.1, .i .u64 s304.2.2.2.1, .i .u64 s304.2.2.2.2])]) ⟨by kernel_rfl, ?_, ?_, by kernel_rfl, by kernel_rfl⟩ (by kernel_rfl) ?_
  ·cbv; try (subst e0; simp only [S, and_self, and_true, true_and] <;> (repeat' apply And.intro) <;> rfl)
  ·cbv; try (subst e0; simp only [S, and_self, and_true, true_and] <;> (repeat' apply And.intro) <;> rfl)
  clear hi e0
  intro s304 m y' hy hins304 houts304 L hLs304
  have h := hy; clear hy; unfold d128_b1 at h
  cbv
  refine R.cut' (by kernel_rfl) (by kernel_rfl) ?_
  cbv
  refine R.brD h (by first|(simp only [S]<;>rfl)|rfl) ?_ ?_<;>clear h<;>intro h<;>cbv
  ·as_aux_lemma =>
   refine R.cutB (fun p => p) (fun _ _ e => e) h [] (fun p558 => []) (fun p558 => [(80, .cells 172 [.i .u64 p558.1, .i .u64 p558.2.1, .i .u64 p558.2.2.1, .i .u64 p558.2.2.2])]) (by kernel_rfl) (by kernel_rfl) (fun y424 hy hFy424 L hLy424 => ?_) (fun p558 h2 => ?_)
   ·as_aux_lemma =>
    clear h; have h := hy; clear hy; cbv
    refine R.needD h (by first|(simp only [S]<;>rfl)|rfl) ?_
    clear h; intro h; cbv
    refine R.cutB (fun p => p) (fun _ _ e => e) h [] (fun p557 => [(8, .i .u64 p557.1)]) (fun p557 => [(80, .cells 172 [.i .u64 p557.2.1, .i .u64 p557.2.2.1, .i .u64 p557.2.2.2.1, .i .u64 p557.2.2.2.2])]) (by kernel_rfl) (by kernel_rfl) (fun y481 hy hFy481 L hLy481 => ?_) (fun p557 h2 => ?_)
    ·as_aux_lemma =>
     clear h; have h := hy; clear hy; cbv
     refine R.loopD h (fun s0 y537 e0 hi hFs518 => ?_)
     clear h
     refine R.loopI hi [] (fun s518 => [(8, .i .u64 s518.1), (24, .i .i64 s518.2.1)]) (fun s518 => [(80, .cells 172 [.i .u64 s518.2.2.1, .i .u64 s518.2.2.2.1, .i .u64 s518.2.2.2.2.1, .i .u64 s518.2.2.2.2.2])]) ⟨by kernel_rfl, ?_, ?_, by kernel_rfl, by kernel_rfl⟩ (by kernel_rfl) ?_
     ·cbv; try (subst e0; simp only [S, and_self, and_true, true_and] <;> (repeat' apply And.intro) <;> rfl)
     ·cbv; try (subst e0; simp only [S, and_self, and_true, true_and] <;> (repeat' apply And.intro) <;> rfl)
     clear hi e0
     intro s518 m y' hy hins518 houts518 L hLs518
     have h := hy; clear hy; unfold d128_b2 at h
     cbv
     refine R.cut' (by kernel_rfl) (by kernel_rfl) ?_
     cbv
     refine R.brD h (by first|(simp only [S]<;>rfl)|rfl) ?_ ?_<;>clear h<;>intro h<;>cbv
     ·as_aux_lemma =>
      refine R.cut' (by kernel_rfl) (by kernel_rfl) ?_
      cbv
      refine R.needD h (by first|(simp only [S]<;>rfl)|rfl) ?_
      clear h; intro h; cbv
      refine R.callD h (fun x547 hx547 h2 => ?_)
      clear h; have h := h2; clear h2
      refine R.call' (w67 _ _ _ hx547) (by first|(simp only [S]<;>rfl)|rfl) ?_
      clear hx547; cbv
      refine R.needD h (by first|(simp only [S]<;>rfl)|rfl) ?_
      clear h; intro h; cbv
      refine R.brD h (by first|(simp only [S]<;>rfl)|rfl) ?_ ?_<;>clear h<;>intro h<;>cbv
      ·refine R.callD h (fun x548 hx548 h2 => ?_)
       clear h; have h := h2; clear h2
       refine R.call' (w68 _ _ _ _ hx548) (by first|(simp only [S]<;>rfl)|rfl) ?_
       clear hx548; cbv
       refine R.callD h (fun x549 hx549 h2 => ?_)
       clear h; have h := h2; clear h2
       refine R.call' (w68 _ _ _ _ hx549) (by first|(simp only [S]<;>rfl)|rfl) ?_
       clear hx549; cbv
       refine R.needD h (by first|(simp only [S]<;>rfl)|rfl) ?_
       clear h; intro h; cbv
       refine R.brD h (by first|(simp only [S]<;>rfl)|rfl) ?_ ?_<;>clear h<;>intro h<;>cbv
       ·obtain ⟨s', e, hi⟩ := inl_some h hins518
        refine hLs518 s' _ _ hi ⟨by kernel_rfl, ?_, ?_, by kernel_rfl, by kernel_rfl⟩<;>cbv<;>(try (subst e;simp only [S,and_self,and_true,true_and]<;>(repeat' apply And.intro)<;>rfl))
       ·exact (none_some h).elim
      ·as_aux_lemma =>
       refine R.brD h (by first|(simp only [S]<;>rfl)|rfl) ?_ ?_<;>clear h<;>intro h<;>cbv
       ·refine R.callD h (fun x550 hx550 h2 => ?_)
        clear h; have h := h2; clear h2
        refine R.call' (w68 _ _ _ _ hx550) (by first|(simp only [S]<;>rfl)|rfl) ?_
        clear hx550; cbv
        refine R.callD h (fun x551 hx551 h2 => ?_)
        clear h; have h := h2; clear h2
        refine R.call' (w68 _ _ _ _ hx551) (by first|(simp only [S]<;>rfl)|rfl) ?_
        clear hx551; cbv
        refine R.needD h (by first|(simp only [S]<;>rfl)|rfl) ?_
        clear h; intro h; cbv
        refine R.brD h (by first|(simp only [S]<;>rfl)|rfl) ?_ ?_<;>clear h<;>intro h<;>cbv
        ·exact (none_some h).elim
        ·refine R.brD h (by first|(simp only [S]<;>rfl)|rfl) ?_ ?_<;>clear h<;>intro h<;>cbv
         ·obtain ⟨s', e, hi⟩ := inl_some h hins518
          refine hLs518 s' _ _ hi ⟨by kernel_rfl, ?_, ?_, by kernel_rfl, by kernel_rfl⟩<;>cbv<;>(try (subst e;simp only [S,and_self,and_true,true_and]<;>(repeat' apply And.intro)<;>rfl))
         ·exact (none_some h).elim
       ·refine R.brD h (by first|(simp only [S]<;>rfl)|rfl) ?_ ?_<;>clear h<;>intro h<;>cbv
        ·refine R.callD h (fun x552 hx552 h2 => ?_)
         clear h; have h := h2; clear h2
         refine R.call' (w68 _ _ _ _ hx552) (by first|(simp only [S]<;>rfl)|rfl) ?_
         clear hx552; cbv
         refine R.callD h (fun x553 hx553 h2 => ?_)
         clear h; have h := h2; clear h2
         refine R.call' (w68 _ _ _ _ hx553) (by first|(simp only [S]<;>rfl)|rfl) ?_
         clear hx553; cbv
         refine R.needD h (by first|(simp only [S]<;>rfl)|rfl) ?_
         clear h; intro h; cbv
         refine R.brD h (by first|(simp only [S]<;>rfl)|rfl) ?_ ?_<;>clear h<;>intro h<;>cbv
         ·exact (none_some h).elim
         ·refine R.brD h (by first|(simp only [S]<;>rfl)|rfl) ?_ ?_<;>clear h<;>intro h<;>cbv
          ·exact (none_some h).elim
          ·refine R.brD h (by first|(simp only [S]<;>rfl)|rfl) ?_ ?_<;>clear h<;>intro h<;>cbv
           ·obtain ⟨s', e, hi⟩ := inl_some h hins518
            refine hLs518 s' _ _ hi ⟨by kernel_rfl, ?_, ?_, by kernel_rfl, by kernel_rfl⟩<;>cbv<;>(try (subst e;simp only [S,and_self,and_true,true_and]<;>(repeat' apply And.intro)<;>rfl))
           ·exact (none_some h).elim
        ·refine R.callD h (fun x554 hx554 h2 => ?_)
         clear h; have h := h2; clear h2
         refine R.call' (w68 _ _ _ _ hx554) (by first|(simp only [S]<;>rfl)|rfl) ?_
         clear hx554; cbv
         refine R.callD h (fun x555 hx555 h2 => ?_)
         clear h; have h := h2; clear h2
         refine R.call' (w68 _ _ _ _ hx555) (by first|(simp only [S]<;>rfl)|rfl) ?_
         clear hx555; cbv
         refine R.needD h (by first|(simp only [S]<;>rfl)|rfl) ?_
         clear h; intro h; cbv
         refine R.brD h (by first|(simp only [S]<;>rfl)|rfl) ?_ ?_<;>clear h<;>intro h<;>cbv
         ·exact (none_some h).elim
         ·refine R.brD h (by first|(simp only [S]<;>rfl)|rfl) ?_ ?_<;>clear h<;>intro h<;>cbv
          ·exact (none_some h).elim
          ·refine R.brD h (by first|(simp only [S]<;>rfl)|rfl) ?_ ?_<;>clear h<;>intro h<;>cbv
           ·exact (none_some h).elim
           ·obtain ⟨s', e, hi⟩ := inl_some h hins518
            refine hLs518 s' _ _ hi ⟨by kernel_rfl, ?_, ?_, by kernel_rfl, by kernel_rfl⟩<;>cbv<;>(try (subst e;simp only [S,and_self,and_true,true_and]<;>(repeat' apply And.intro)<;>rfl))
     ·have e := inr_some h houts518; clear h
      have h := hFs518; rw [e] at h; clear e; try dsimp only at h
      cbv
      obtain ⟨s', e, hi⟩ := jn_some (fun p => p) h
      refine hLy481 s' _ _ hi ⟨by kernel_rfl, ?_, ?_, by kernel_rfl, by kernel_rfl⟩<;>cbv<;>(try (subst e;simp only [S,and_self,and_true,true_and]<;>(repeat' apply And.intro)<;>rfl))
    ·clear h; have h := h2; clear h2; try dsimp only at h
     cbv
     refine R.needD h (by first|(simp only [S]<;>rfl)|rfl) ?_
     clear h; intro h; cbv
     refine R.brD h (by first|(simp only [S]<;>rfl)|rfl) ?_ ?_<;>clear h<;>intro h<;>cbv
     ·obtain ⟨s', e, hi⟩ := jn_some (fun p => p) h
      refine hLy424 s' _ _ hi ⟨by kernel_rfl, ?_, ?_, by kernel_rfl, by kernel_rfl⟩<;>cbv<;>(try (subst e;simp only [S,and_self,and_true,true_and]<;>(repeat' apply And.intro)<;>rfl))
     ·refine R.brD h (by first|(simp only [S]<;>rfl)|rfl) ?_ ?_<;>clear h<;>intro h<;>cbv
      ·obtain ⟨s', e, hi⟩ := jn_some (fun p => p) h
       refine hLy424 s' _ _ hi ⟨by kernel_rfl, ?_, ?_, by kernel_rfl, by kernel_rfl⟩<;>cbv<;>(try (subst e;simp only [S,and_self,and_true,true_and]<;>(repeat' apply And.intro)<;>rfl))
      ·refine R.brD h (by first|(simp only [S]<;>rfl)|rfl) ?_ ?_<;>clear h<;>intro h<;>cbv
       ·obtain ⟨s', e, hi⟩ := jn_some (fun p => p) h
        refine hLy424 s' _ _ hi ⟨by kernel_rfl, ?_, ?_, by kernel_rfl, by kernel_rfl⟩<;>cbv<;>(try (subst e;simp only [S,and_self,and_true,true_and]<;>(repeat' apply And.intro)<;>rfl))
       ·obtain ⟨s', e, hi⟩ := jn_some (fun p => p) h
        refine hLy424 s' _ _ hi ⟨by kernel_rfl, ?_, ?_, by kernel_rfl, by kernel_rfl⟩<;>cbv<;>(try (subst e;simp only [S,and_self,and_true,true_and]<;>(repeat' apply And.intro)<;>rfl))
   ·clear h; have h := h2; clear h2; try dsimp only at h
    cbv
    obtain ⟨s', e, hi⟩ := inl_some h hins304
    refine hLs304 s' _ _ hi ⟨by kernel_rfl, ?_, ?_, by kernel_rfl, by kernel_rfl⟩<;>cbv<;>(try (subst e;simp only [S,and_self,and_true,true_and]<;>(repeat' apply And.intro)<;>rfl))
  ·have e := inr_some h houts304; clear h
   have h := hFs304; rw [e] at h; clear e; try dsimp only at h
   cbv
   obtain ⟨s', e, hi⟩ := jn_some (fun p => p) h
   refine hLy183 s' _ _ hi ⟨by kernel_rfl, ?_, ?_, by kernel_rfl, by kernel_rfl⟩<;>cbv<;>(try (subst e;simp only [S,and_self,and_true,true_and]<;>(repeat' apply And.intro)<;>rfl))
 ·clear h; have h := h2; clear h2; try dsimp only at h
  cbv
  have e := ret_some h; clear h
  refine hK _ _ ?_
  cbv
  try (subst e; simp only [S, and_self, and_true, true_and] <;> (repeat' apply And.intro) <;> rfl)
end Go.Proofs.Ytmofhbedamjblaa
end
