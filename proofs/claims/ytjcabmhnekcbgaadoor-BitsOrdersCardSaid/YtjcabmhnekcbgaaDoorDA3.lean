/- Texts of this seat, merged in build order. No statement of its own. -/
import Derived.Orders
import Derived.Test.YtjcabmhnekcbgaaDoorProg
import Derived.Test.YtjcabmhnekcbgaaDoorRows
import Derived.LaidMore
import Derived.ChangeArms
import Derived.OpenShut
import Derived.FnData
import Derived.KernelRfl
import Derived.Deep.Slices
import Derived.OrdersHeld
import Derived.Deep.RegionHeld3
import Derived.Laws.BitsLemmas
import Derived.RowKit
import Derived.Below
import Derived.Deep.Draws
import Derived.Deep.AppendLies
import Derived.Maps.AppendAt
import Derived.OwnWalk
import Derived.Laws.BytesArg
import Derived.Laws.MakeOwn
import Derived.Laws.OwnMore
import Derived.Deep.OwnRows
import Derived.Tactics
import Derived.Lib.ConvBytes
import Derived.Laws.Slices
import Derived.WalkKit
import Derived.RowKit3
import Derived.Deep.LoopGhost
import Derived.Deep.QuietTactic
import Derived.BigQuiet
import Derived.WideLaws
import Derived.Deep.DeepCutAuto
import Derived.Deep.CutBlock
import Derived.Laws.Rows
import Derived.Lib.AppendStr
import Derived.ArgAppend
import Derived.Laws.IdiomCopy
import Derived.Maps.Own
import Derived.WideMake
import Derived.Laws.StructEq
import Derived.Laws.BitsAllLaws
import Derived.Laws.Bits64
import Derived.Test.YtjcabmhnekcbgaaDoorDA2
set_option linter.unusedVariables false
set_option linter.unusedSimpArgs false
section
namespace Go.Ab
open Go.RowKit

/-- Are these lists of what each operation waits for, right and enough? -/
def ordOk (ops : Array Oper) (W : List (List Nat)) : Bool := (List.range ops.size).all fun i => match ops[i]? with
  | some x => x.after.toList.all (fun e => !Region.binds .any e || decide (e.on < i)) &&
    (W.getD i []).all (fun j => x.after.toList.any fun e => Region.binds .any e && (e.on == j || memN j (W.getD e.on []))) &&
    (List.range i).all (fun j => memN j (W.getD i []) || match ops[j]? with | some y => y.apart ops x | none => false)
  | none => false

def tmB (b : Nat → Bool) : Nat → List V → List Ent → List V
  | _, tm, [] => tm
  | k, tm, e :: r => tmB b (k + 1) (if b k = true then setD tm e.d e.v else tm) r
def hpB (b : Nat → Bool) : Nat → Hp → List Ent → Hp
  | _, hp, [] => hp
  | k, hp, e :: r => hpB b (k + 1) (if b k = true then e.E ++ hp else hp) r

section
variable {P : Program} {T : Tr} {w0 : Base} {φ φ' φ2 : Nat → Option Loc} {w w' : World} {S S' S2 : Nat → Prop} {v : V} {hp : Hp} {b0 : Nat → Prop} {x : Oper} {a : Act} {ops : Array Oper} {b b' : Nat → Bool} {t n : Nat}

theorem setD_get {tm : List V} {d : Option Nat} : (setD tm d v).getD t .dead = if d = some t ∧ t < tm.length then v else tm.getD t .dead := by
  cases d with
  | none => simp [setD]
  | some k =>
    simp only [setD, getD_set, Option.some.injEq]
    by_cases h : k = t
    · subst h; simp
    · simp [h]
theorem setD_length {tm : List V} {d : Option Nat} : (setD tm d v).length = tm.length := by cases d <;> simp [setD]

theorem tmB_length : ∀ {es : List Ent} {k : Nat} {tm : List V}, (tmB b k tm es).length = tm.length
  | [], k, tm => rfl
  | e :: r, k, tm => by
    simp only [tmB]
    rw [tmB_length]
    split
    · exact setD_length
    · rfl

theorem tmB_congr : ∀ {es : List Ent} {k : Nat} {tm tm2 : List V}, tm.length = tm2.length → tm.getD t .dead = tm2.getD t .dead → (∀ j e, es[j]? = some e → e.d = some t → b (k + j) = b' (k + j)) → (tmB b k tm es).getD t .dead = (tmB b' k tm2 es).getD t .dead
  | [], k, tm, tm2, _, h, _ => h
  | e :: r, k, tm, tm2, hl, h, hb => by
    simp only [tmB]
    refine tmB_congr ?_ ?_ (fun j e' hj hd => ?_)
    · split <;> split <;> simp [setD_length, hl]
    · by_cases hd : e.d = some t
      · have := hb 0 e rfl hd
        rw [Nat.add_zero] at this
        rw [this]
        split
        · rw [setD_get, setD_get, hl, h]
        · exact h
      · have e1 : ∀ (c : Bool) (l : List V), (if c = true then setD l e.d e.v else l).getD t .dead = l.getD t .dead := fun c l => by
          split
          · rw [setD_get, if_neg (fun hh => hd hh.1)]
          · rfl
        rw [e1, e1, h]
    · have := hb (j + 1) e' hj hd
      rwa [show k + (j + 1) = k + 1 + j from by omega] at this

theorem hpB_congr : ∀ {es : List Ent} {k : Nat} {hp hp2 : Hp}, look hp n = look hp2 n → (∀ j e, es[j]? = some e → look e.E n ≠ none → b (k + j) = b' (k + j)) → look (hpB b k hp es) n = look (hpB b' k hp2 es) n
  | [], k, hp, hp2, h, _ => h
  | e :: r, k, hp, hp2, h, hb => by
    simp only [hpB]
    refine hpB_congr ?_ (fun j e' hj hd => ?_)
    · by_cases hd : look e.E n = none
      · have e1 : ∀ (c : Bool) (l : Hp), look (if c = true then e.E ++ l else l) n = look l n := fun c l => by
          split
          · rw [look_app, hd]
          · rfl
        rw [e1, e1, h]
      · have := hb 0 e rfl hd
        rw [Nat.add_zero] at this
        rw [this]
        split
        · rw [look_app, look_app, h]
        · exact h
    · have := hb (j + 1) e' hj hd
      rwa [show k + (j + 1) = k + 1 + j from by omega] at this

theorem tmB_keep : ∀ {es : List Ent} {k : Nat} {tm : List V}, (∀ j e, es[j]? = some e → b (k + j) = true → e.d ≠ some t) → (tmB b k tm es).getD t .dead = tm.getD t .dead
  | [], k, tm, _ => rfl
  | e :: r, k, tm, hb => by
    simp only [tmB]
    rw [tmB_keep (fun j e' hj hd => hb (j + 1) e' hj (by rwa [show k + (j + 1) = k + 1 + j from by omega]))]
    split
    · rename_i h
      rw [setD_get, if_neg (fun hh => hb 0 e rfl h hh.1)]
    · rfl

theorem hpB_keep : ∀ {es : List Ent} {k : Nat} {hp : Hp}, (∀ j e, es[j]? = some e → b (k + j) = true → look e.E n = none) → look (hpB b k hp es) n = look hp n
  | [], k, hp, _ => rfl
  | e :: r, k, hp, hb => by
    simp only [hpB]
    rw [hpB_keep (fun j e' hj hd => hb (j + 1) e' hj (by rwa [show k + (j + 1) = k + 1 + j from by omega]))]
    split
    · rename_i h
      rw [look_app, hb 0 e rfl h]
    · rfl

theorem tmB_last : ∀ {es : List Ent} {k i : Nat} {tm : List V} {e : Ent}, es[i]? = some e → b (k + i) = true → e.d = some t → t < tm.length → (∀ j e', i < j → es[j]? = some e' → b (k + j) = true → e'.d ≠ some t) → (tmB b k tm es).getD t .dead = e.v
  | c :: r, k, 0, tm, e, he, hb, hd, ht, hl => by
    simp only [List.getElem?_cons_zero, Option.some.injEq] at he
    subst he
    simp only [tmB]
    rw [if_pos (by simpa using hb), tmB_keep (fun j e' hj hb' => hl (j + 1) e' (by omega) hj (by rwa [show k + (j + 1) = k + 1 + j from by omega])), setD_get, if_pos ⟨hd, ht⟩]
  | c :: r, k, i + 1, tm, e, he, hb, hd, ht, hl => by
    simp only [List.getElem?_cons_succ] at he
    simp only [tmB]
    refine tmB_last he (by rwa [show k + 1 + i = k + (i + 1) from by omega]) hd ?_ (fun j e' hij hj hb' => hl (j + 1) e' (by omega) hj (by rwa [show k + (j + 1) = k + 1 + j from by omega]))
    split
    · rw [setD_length]; exact ht
    · exact ht

theorem hpB_last {c : Blk} : ∀ {es : List Ent} {k i : Nat} {hp : Hp} {e : Ent}, es[i]? = some e → b (k + i) = true → look e.E n = some c → (∀ j e', i < j → es[j]? = some e' → b (k + j) = true → look e'.E n = none) → look (hpB b k hp es) n = some c
  | d :: r, k, 0, hp, e, he, hb, hd, hl => by
    simp only [List.getElem?_cons_zero, Option.some.injEq] at he
    subst he
    simp only [hpB]
    rw [if_pos (by simpa using hb), hpB_keep (fun j e' hj hb' => hl (j + 1) e' (by omega) hj (by rwa [show k + (j + 1) = k + 1 + j from by omega])), look_app, hd]
  | d :: r, k, i + 1, hp, e, he, hb, hd, hl => by
    simp only [List.getElem?_cons_succ] at he
    simp only [hpB]
    exact hpB_last he (by rwa [show k + 1 + i = k + (i + 1) from by omega]) hd (fun j e' hij hj hb' => hl (j + 1) e' (by omega) hj (by rwa [show k + (j + 1) = k + 1 + j from by omega]))

theorem tmB_none : ∀ {es : List Ent} {k : Nat} {tm : List V}, (∀ j, k ≤ j → b j = false) → tmB b k tm es = tm
  | [], k, tm, _ => rfl
  | e :: r, k, tm, h => by
    simp only [tmB]
    rw [if_neg (by rw [h k (Nat.le_refl _)]; simp)]
    exact tmB_none (fun j hj => h j (by omega))
theorem hpB_none : ∀ {es : List Ent} {k : Nat} {hp : Hp}, (∀ j, k ≤ j → b j = false) → hpB b k hp es = hp
  | [], k, hp, _ => rfl
  | e :: r, k, hp, h => by
    simp only [hpB]
    rw [if_neg (by rw [h k (Nat.le_refl _)]; simp)]
    exact hpB_none (fun j hj => h j (by omega))

/-- What the text's order says of operation i. -/
def At (P : Program) (T : Tr) (w0 : Base) (ops : Array Oper) (tm : List V) (hp : Hp) (x : Oper) (e : Ent) : Prop :=
  e.d = x.dst ∧ ((GuardIs ops tm x true ∧ Res P T (opF (real P T w0) T tm hp x) e.v e.E ∧ e.f = footOf tm x e.E) ∨ (GuardIs ops tm x false ∧ e.v = .tup [] ∧ e.E = []))

theorem trace_at : ∀ {l : List Oper} {tm : List V} {hp : Hp} {es : List Ent} {tm' : List V} {hp' : Hp} {k : Nat}, Trace P T w0 ops l tm hp es tm' hp' →
    es.length = l.length ∧ (∀ (i : Nat) (x : Oper), l[i]? = some x → ∃ e, es[i]? = some e ∧ At P T w0 ops (tmB (fun j => decide (j < k + i)) k tm es) (hpB (fun j => decide (j < k + i)) k hp es) x e) ∧
    (∀ b : Nat → Bool, (∀ j, j < l.length → b (k + j) = true) → tm' = tmB b k tm es ∧ hp' = hpB b k hp es) := by
  intro l tm hp es tm' hp' k ht
  induction ht generalizing k with
  | nil => exact ⟨rfl, fun i x h => (by simp at h), fun b _ => ⟨rfl, rfl⟩⟩
  | run hg hr _ ih =>
    rename_i x r tm hp v E es tm' hp' _
    obtain ⟨h1, h2, h3⟩ := ih (k := k + 1)
    refine ⟨by simp [h1], fun i y hy => ?_, fun b hb => ?_⟩
    · cases i with
      | zero =>
        simp only [List.getElem?_cons_zero, Option.some.injEq] at hy
        subst hy
        refine ⟨_, rfl, rfl, .inl ?_⟩
        rw [tmB_none (fun j hj => by simp; omega), hpB_none (fun j hj => by simp; omega)]
        exact ⟨hg, hr, rfl⟩
      | succ i =>
        simp only [List.getElem?_cons_succ] at hy ⊢
        obtain ⟨e, e1, e2⟩ := h2 i y hy
        refine ⟨e, e1, ?_⟩
        simp only [tmB, hpB]
        rw [if_pos (by simp), if_pos (by simp)]
        rwa [show k + 1 + i = k + (i + 1) from by omega] at e2
    · obtain ⟨k1, k2⟩ := h3 b (fun j hj => by have := hb (j + 1) (by simpa using hj); rwa [show k + (j + 1) = k + 1 + j from by omega] at this)
      have h0 := hb 0 (by simp)
      rw [Nat.add_zero] at h0
      simp only [tmB, hpB]
      rw [if_pos h0, if_pos h0]
      exact ⟨k1, k2⟩
  | skip hg _ ih =>
    rename_i x r tm hp es tm' hp' _
    obtain ⟨h1, h2, h3⟩ := ih (k := k + 1)
    refine ⟨by simp [h1], fun i y hy => ?_, fun b hb => ?_⟩
    · cases i with
      | zero =>
        simp only [List.getElem?_cons_zero, Option.some.injEq] at hy
        subst hy
        refine ⟨_, rfl, rfl, .inr ?_⟩
        rw [tmB_none (fun j hj => by simp; omega)]
        exact ⟨hg, rfl, rfl⟩
      | succ i =>
        simp only [List.getElem?_cons_succ] at hy ⊢
        obtain ⟨e, e1, e2⟩ := h2 i y hy
        refine ⟨e, e1, ?_⟩
        simp only [tmB, hpB]
        rw [if_pos (by simp), if_pos (by simp)]
        rwa [show k + 1 + i = k + (i + 1) from by omega] at e2
    · obtain ⟨k1, k2⟩ := h3 b (fun j hj => by have := hb (j + 1) (by simpa using hj); rwa [show k + (j + 1) = k + 1 + j from by omega] at this)
      have h0 := hb 0 (by simp)
      rw [Nat.add_zero] at h0
      simp only [tmB, hpB]
      rw [if_pos h0, if_pos h0]
      exact ⟨k1, k2⟩

theorem meets_false {a c : List Nat} (h : meets a c = false) : ∀ n, n ∈ a → n ∈ c → False := by
  intro n ha hc
  have : meets a c = true := by
    unfold meets
    rw [List.any_eq_true]
    exact ⟨n, ha, by rw [List.any_eq_true]; exact ⟨n, hc, by simp⟩⟩
  rw [this] at h
  cases h

def Free (f g : Foot) : Prop := meets f.wr g.wr = false ∧ meets f.wr g.rd = false ∧ meets f.rd g.wr = false

theorem apart1_spec {W : List (List Nat)} {i : Nat} {f : Foot} : ∀ {fs : List Foot} {k : Nat}, apart1 W i f k fs = true → ∀ j g, fs[j]? = some g → memN i (W.getD (k + j) []) = true ∨ Free f g
  | c :: r, k, h, j, g, hg => by
    simp only [apart1] at h
    have rest : apart1 W i f (k + 1) r = true → ∀ j g, r[j]? = some g → memN i (W.getD (k + (j + 1)) []) = true ∨ Free f g := fun h j g hj => by
      rw [show k + (j + 1) = k + 1 + j from by omega]; exact apart1_spec h j g hj
    split at h
    · rename_i hm
      split at h
      · rename_i hmem
        cases j with
        | zero => exact .inl hmem
        | succ j => exact rest h j g (by simpa using hg)
      · cases h
    · rename_i hm
      cases j with
      | zero =>
        simp only [List.getElem?_cons_zero, Option.some.injEq] at hg
        subst hg
        refine .inr ?_
        split at hm
        · cases hm
        · rename_i h1
          split at hm
          · cases hm
          · rename_i h2; exact ⟨h1, h2, hm⟩
      | succ j => exact rest h j g (by simpa using hg)

theorem apartF_spec {W : List (List Nat)} : ∀ {fs : List Foot} {k : Nat}, apartF W k fs = true → ∀ i j f g, i < j → fs[i]? = some f → fs[j]? = some g → memN (k + i) (W.getD (k + j) []) = true ∨ Free f g
  | c :: r, k, h, i, j, f, g, hij, hf, hg => by
    simp only [apartF] at h
    split at h
    · rename_i h1
      cases j with
      | zero => omega
      | succ j =>
        simp only [List.getElem?_cons_succ] at hg
        cases i with
        | zero =>
          simp only [List.getElem?_cons_zero, Option.some.injEq] at hf
          subst hf
          have := apart1_spec h1 j g hg
          rwa [show k + 1 + j = k + (j + 1) from by omega] at this
        | succ i =>
          simp only [List.getElem?_cons_succ] at hf
          have := apartF_spec h i j f g (by omega) hf hg
          rwa [show k + 1 + j = k + (j + 1) from by omega, show k + 1 + i = k + (i + 1) from by omega] at this
    · cases h

theorem Inv.congr {tm tm2 : List V} {hp2 : Hp} (h : Inv T w0 φ S tm hp a w) (hl : tm.length = tm2.length) (ht : ∀ t, tm.getD t .dead = tm2.getD t .dead) (hh : ∀ n, look hp n = look hp2 n) : Inv T w0 φ S tm2 hp2 a w :=
  ⟨h.since, by rw [← hl]; exact h.size, fun t => by rw [← ht]; exact h.tms t, h.dfr, h.heap.perm hh, h.anc⟩

theorem wr_of {tm : List V} {e : Ent} (he : At P T w0 ops tm hp x e) : look e.E n ≠ none → n ∈ e.f.wr := by
  intro hn
  have mem : ∀ {E : Hp}, look E n ≠ none → n ∈ E.map (·.1) := by
    intro E
    induction E with
    | nil => intro h; exact absurd rfl h
    | cons p r ih =>
      obtain ⟨k, c⟩ := p
      intro h
      rw [look_cons] at h
      by_cases e : k = n
      · subst e; simp
      · rw [if_neg e] at h; exact List.mem_cons_of_mem _ (ih h)
  rcases he.2 with ⟨_, _, h3⟩ | ⟨_, _, h3⟩
  · rw [h3]; exact mem hn
  · rw [h3] at hn; exact absurd rfl hn

def unl : List Bool → Nat
  | [] => 0
  | c :: r => (if c = true then 0 else 1) + unl r

theorem unl_set : ∀ {l : List Bool} {i : Nat}, l[i]? = some false → unl (l.set i true) + 1 = unl l
  | c :: r, 0, h => by
    simp only [List.getElem?_cons_zero, Option.some.injEq] at h
    subst h
    simp [unl, Nat.add_comm]
  | c :: r, i + 1, h => by
    simp only [List.getElem?_cons_succ] at h
    have := unl_set h
    simp only [List.set_cons_succ, unl]
    omega

theorem unl_zero : ∀ {l : List Bool}, unl l = 0 → ∀ (i : Nat) (c : Bool), l[i]? = some c → c = true
  | d :: r, h, 0, c, hc => by
    simp only [List.getElem?_cons_zero, Option.some.injEq] at hc
    subst hc
    simp only [unl] at h
    cases d
    · simp at h
    · rfl
  | d :: r, h, i + 1, c, hc => by
    simp only [List.getElem?_cons_succ] at hc
    simp only [unl] at h
    exact unl_zero (by omega) i c hc

structure OrdOk (ops : Array Oper) (W : List (List Nat)) : Prop where
  edge : ∀ (i : Nat) (x : Oper), ops[i]? = some x → ∀ e ∈ x.after.toList, Region.binds .any e = true → e.on < i
  wait : ∀ (i : Nat) (x : Oper), ops[i]? = some x → ∀ j ∈ W.getD i [], ∃ e ∈ x.after.toList, Region.binds .any e = true ∧ (e.on = j ∨ memN j (W.getD e.on []) = true)
  apart : ∀ (i j : Nat) (x y : Oper), ops[i]? = some x → ops[j]? = some y → j < i → memN j (W.getD i []) = true ∨ y.apart ops x = true

theorem ordOk_spec {W : List (List Nat)} (h : ordOk ops W = true) : OrdOk ops W := by
  have at' : ∀ {i x}, ops[i]? = some x → ((x.after.toList.all (fun e => !Region.binds .any e || decide (e.on < i)) = true ∧
      (W.getD i []).all (fun j => x.after.toList.any fun e => Region.binds .any e && (e.on == j || memN j (W.getD e.on []))) = true) ∧
      (List.range i).all (fun j => memN j (W.getD i []) || match ops[j]? with | some y => y.apart ops x | none => false) = true) := by
    intro i x hx
    have := List.all_eq_true.1 h i (List.mem_range.2 (Array.getElem?_eq_some_iff.1 hx).1)
    rw [hx] at this
    simpa only [Bool.and_eq_true] using this
  refine ⟨fun i x hx e he hb => ?_, fun i x hx j hj => ?_, fun i j x y hx hy hji => ?_⟩
  · have := List.all_eq_true.1 (at' hx).1.1 e he
    simpa [hb] using this
  · have := List.all_eq_true.1 (at' hx).1.2 j hj
    rw [List.any_eq_true] at this
    obtain ⟨e, he, h1⟩ := this
    simp only [Bool.and_eq_true, Bool.or_eq_true, beq_iff_eq] at h1
    exact ⟨e, he, h1.1, h1.2⟩
  · have := List.all_eq_true.1 (at' hx).2 j (List.mem_range.2 hji)
    rw [hy] at this
    simpa only [Bool.or_eq_true] using this

def Cl (ops : Array Oper) (b : Nat → Bool) : Prop := ∀ (i : Nat) (x : Oper), ops[i]? = some x → b i = true → ∀ e ∈ x.after.toList, Region.binds .any e = true → b e.on = true

theorem waits_in {W : List (List Nat)} (ho : OrdOk ops W) (hc : Cl ops b) : ∀ (m i : Nat) (x : Oper), i ≤ m → ops[i]? = some x → b i = true → ∀ j ∈ W.getD i [], b j = true := by
  intro m
  induction m with
  | zero =>
    intro i x hi hx hb j hj
    obtain ⟨e, he, h1, h2⟩ := ho.wait i x hx j hj
    have := ho.edge i x hx e he h1
    omega
  | succ m ih =>
    intro i x hi hx hb j hj
    obtain ⟨e, he, h1, h2⟩ := ho.wait i x hx j hj
    have hlt := ho.edge i x hx e he h1
    have hbe := hc i x hx hb e he h1
    rcases h2 with rfl | h2
    · exact hbe
    · have : e.on < ops.size := Nat.lt_trans hlt (Array.getElem?_eq_some_iff.1 hx).1
      exact ih e.on _ (by omega) (Array.getElem?_eq_getElem this) hbe j (memN_iff'.1 h2)
where
  memN_iff' {n : Nat} : ∀ {l : List Nat}, memN n l = true ↔ n ∈ l
  | [] => by simp [memN]
  | m :: r => by
    simp only [memN]
    split
    · rename_i e; have : n = m := by simpa using e
      simp [this]
    · rename_i e; have : n ≠ m := by simpa using e
      rw [memN_iff']; simp [this]

theorem draw_step [GZ T w0] (htok : TyOk P T) {W : List (List Nat)} (ho : OrdOk ops W) {tm : List V} {es : List Ent} {S0 : Nat → Prop}
    (hat : ∀ (i : Nat) (x : Oper), ops[i]? = some x → ∃ e, es[i]? = some e ∧ At P T w0 ops (tmB (fun j => decide (j < i)) 0 tm es) (hpB (fun j => decide (j < i)) 0 hp es) x e)
    (hlen : es.length = ops.size) (hap : apartF W 0 (es.map (·.f)) = true) {i : Nat} (hx : ops[i]? = some x) (hbi : b i = false)
    (hpre : ∀ j ∈ W.getD i [], b j = true) (hsuc : ∀ j, i ∈ W.getD j [] → j < ops.size → b j = false) {Q : Exit → Act → World → Prop} {K : Act → World → Prop}
    (hK : ∀ φ S a w, SLe w0.Z S0 S → Inv T w0 φ S (tmB (fun j => if j = i then true else b j) 0 tm es) (hpB (fun j => if j = i then true else b j) 0 hp es) a w → K a w)
    (hS : SLe w0.Z S0 S) (hi : Inv T w0 φ S (tmB b 0 tm es) (hpB b 0 hp es) a w) : wpOpIn (Fc w0.rd) 0 P ops Q i K a w := by
  obtain ⟨e, he, hA⟩ := hat i x hx
  have hin : i < ops.size := (Array.getElem?_eq_some_iff.1 hx).1
  have mem := @waits_in.memN_iff'
  -- another operation, and how it lies
  have other : ∀ (j : Nat) (f : Ent), es[j]? = some f → ∃ y, ops[j]? = some y ∧ At P T w0 ops (tmB (fun k => decide (k < j)) 0 tm es) (hpB (fun k => decide (k < j)) 0 hp es) y f := by
    intro j f hf
    have hj : j < ops.size := by rw [← hlen]; exact (List.getElem?_eq_some_iff.1 hf).1
    obtain ⟨f', h1, h2⟩ := hat j _ (Array.getElem?_eq_getElem hj)
    rw [hf] at h1; injection h1 with h1; subst h1
    exact ⟨_, Array.getElem?_eq_getElem hj, h2⟩
  have foot : ∀ (j : Nat) (f : Ent), es[j]? = some f → (es.map (·.f))[j]? = some f.f := fun j f hf => by rw [List.getElem?_map, hf]; rfl
  -- before it, and not listed
  have early : ∀ (j : Nat) (f : Ent) (y : Oper), es[j]? = some f → ops[j]? = some y → j < i → b j = false → y.apart ops x = true ∧ Free f.f e.f := by
    intro j f y hf hy hji hb
    have hn : memN j (W.getD i []) ≠ true := fun h => by rw [hpre j (mem.1 h)] at hb; cases hb
    refine ⟨(ho.apart i j x y hx hy hji).resolve_left hn, ?_⟩
    have := apartF_spec hap j i f.f e.f hji (foot j f hf) (foot i e he)
    simp only [Nat.zero_add] at this
    exact this.resolve_left hn
  -- behind it, and listed
  have late : ∀ (j : Nat) (f : Ent) (y : Oper), es[j]? = some f → ops[j]? = some y → i < j → b j = true → x.apart ops y = true ∧ Free e.f f.f := by
    intro j f y hf hy hij hb
    have hn : memN i (W.getD j []) ≠ true := fun h => by
      rw [hsuc j (mem.1 h) (Array.getElem?_eq_some_iff.1 hy).1] at hb; cases hb
    refine ⟨(ho.apart j i y x hy hx hij).resolve_left hn, ?_⟩
    have := apartF_spec hap i j e.f f.f hij (foot i e he) (foot j f hf)
    simp only [Nat.zero_add] at this
    exact this.resolve_left hn
  -- the slots that it looks at are as_ in the text's order
  have slot : ∀ t, t ∈ x.looksAt ops → (tmB b 0 tm es).getD t .dead = (tmB (fun j => decide (j < i)) 0 tm es).getD t .dead := by
    intro t ht
    refine tmB_congr rfl rfl (fun j f hf hd => ?_)
    simp only [Nat.zero_add]
    obtain ⟨y, hy, hAy⟩ := other j f hf
    have hyd : y.dst = some t := by rw [← hAy.1]; exact hd
    rcases Nat.lt_trichotomy j i with h | h | h
    · rw [decide_eq_true h]
      cases hb : b j with
      | true => rfl
      | false => exact absurd ht ((Oper.apart_spec (early j f y hf hy h hb).1).1 t hyd)
    · subst h
      rw [hbi]; simp
    · rw [decide_eq_false (by omega)]
      cases hb : b j with
      | false => rfl
      | true => exact absurd ht ((Oper.apart_spec (late j f y hf hy h hb).1).2.2 t hyd)
  -- so are the rows
  have row : ∀ n, (n ∈ e.f.rd ∨ n ∈ e.f.wr) → look (hpB (fun j => decide (j < i)) 0 hp es) n = look (hpB b 0 hp es) n := by
    intro n hn
    refine hpB_congr rfl (fun j f hf hd => ?_)
    simp only [Nat.zero_add]
    obtain ⟨y, hy, hAy⟩ := other j f hf
    have hw := wr_of hAy hd
    rcases Nat.lt_trichotomy j i with h | h | h
    · rw [decide_eq_true h]
      cases hb : b j with
      | true => rfl
      | false =>
        obtain ⟨g1, g2, g3⟩ := (early j f y hf hy h hb).2
        rcases hn with hn | hn
        · exact (meets_false g2 n hw hn).elim
        · exact (meets_false g1 n hw hn).elim
    · subst h
      rw [hbi]; simp
    · rw [decide_eq_false (by omega)]
      cases hb : b j with
      | false => rfl
      | true =>
        obtain ⟨g1, g2, g3⟩ := (late j f y hf hy h hb).2
        rcases hn with hn | hn
        · exact (meets_false g3 n hn hw).elim
        · exact (meets_false g1 n hn hw).elim
  have hev : ∀ o ∈ x.op.operands.toList, ev (tmB (fun j => decide (j < i)) 0 tm es) o = ev (tmB b 0 tm es) o := by
    intro o ho'
    cases o with
    | tmp t =>
      simp only [ev]
      refine (slot t ?_).symm
      unfold Oper.looksAt
      refine List.mem_append_left _ (List.mem_filterMap.2 ⟨.tmp t, ho', rfl⟩)
    | _ => rfl
  have hguard : ∀ {res}, GuardIs ops (tmB (fun j => decide (j < i)) 0 tm es) x res → GuardIs ops (tmB b 0 tm es) x res := by
    intro res hg
    unfold GuardIs at hg ⊢
    split at hg
    · exact hg
    · rename_i j want hgd
      obtain ⟨g, h1, h2⟩ := hg
      refine ⟨g, h1, ?_⟩
      rw [slot g ?_]
      · exact h2
      · unfold Oper.looksAt
        refine List.mem_append_right _ ?_
        rw [hgd]
        unfold guardT at h1
        simp [h1]
  -- what is told behind it
  have next : ∀ {φ S a w v E}, SLe w0.Z S0 S → e.v = v → e.E = E → Inv T w0 φ S (setD (tmB b 0 tm es) x.dst v) (E ++ hpB b 0 hp es) a w → K a w := by
    intro φ S a w v E hS hv hE hinv
    subst hv; subst hE
    refine hK φ S a w hS (hinv.congr (by rw [setD_length, tmB_length, tmB_length]) (fun t => ?_) (fun n => ?_))
    · rw [setD_get, tmB_length]
      split
      · rename_i hd
        refine (tmB_last he (by simp) (by rw [hA.1]; exact hd.1) hd.2 (fun j f hij hf hb => ?_)).symm
        simp only [Nat.zero_add] at hb
        rw [if_neg (by omega)] at hb
        obtain ⟨y, hy, hAy⟩ := other j f hf
        rw [hAy.1]
        exact (Oper.apart_spec (late j f y hf hy hij hb).1).2.1 t hd.1
      · rename_i hd
        by_cases hlt : t < tm.length
        · refine tmB_congr rfl rfl (fun j f hf hfd => ?_)
          simp only [Nat.zero_add]
          by_cases hji : j = i
          · subst hji
            rw [he] at hf; injection hf with hf; subst hf
            rw [hA.1] at hfd
            exact absurd ⟨hfd, hlt⟩ hd
          · rw [if_neg hji]
        · have e1 : ∀ (l : List V), l.length = tm.length → l.getD t .dead = .dead := fun l hl => by
            rw [List.getD_eq_getElem?_getD, List.getElem?_eq_none (by omega)]; rfl
          rw [e1 _ tmB_length, e1 _ tmB_length]
    · rw [look_app]
      cases hl : look e.E n with
      | some c =>
        refine (hpB_last he (by simp) hl (fun j f hij hf hb => ?_)).symm
        simp only [Nat.zero_add] at hb
        rw [if_neg (by omega)] at hb
        obtain ⟨y, hy, hAy⟩ := other j f hf
        cases hq : look f.E n with
        | none => rfl
        | some d =>
          exact (meets_false (late j f y hf hy hij hb).2.1 n (wr_of hA (by rw [hl]; simp)) (wr_of hAy (by rw [hq]; simp))).elim
      | none =>
        refine hpB_congr rfl (fun j f hf hfd => ?_)
        simp only [Nat.zero_add]
        by_cases hji : j = i
        · subst hji
          rw [he] at hf; injection hf with hf; subst hf
          exact absurd hl hfd
        · rw [if_neg hji]
  unfold wpOpIn
  rw [hx]
  simp only
  rcases hA.2 with ⟨g1, g2, g3⟩ | ⟨g1, g2, g3⟩
  · rw [wanted_of hi (hguard g1), if_pos rfl]
    have hfr : ∀ n, n ∈ e.f.rd ↔ ∃ o ∈ x.op.operands.toList, n ∈ names (ev (tmB (fun j => decide (j < i)) 0 tm es) o) := by
      intro n
      rw [g3]
      simp only [footOf, List.mem_flatten, List.mem_map]
      constructor
      · rintro ⟨l, ⟨o, h1, rfl⟩, h2⟩; exact ⟨o, h1, h2⟩
      · rintro ⟨o, h1, h2⟩; exact ⟨_, ⟨o, h1, rfl⟩, h2⟩
    have hres : Res P T (opF (real P T w0) T (tmB b 0 tm es) (hpB b 0 hp es) x) e.v e.E := by
      rw [← opF_tm hev]
      refine opF_congr (N := fun n => n ∈ e.f.rd ∨ n ∈ e.f.wr) row (fun o ho' n hn => .inl ((hfr n).2 ⟨o, ho', hn⟩)) (fun p hp => .inr ?_) g2
      rw [g3]
      exact List.mem_map.2 ⟨p, hp, rfl⟩
    refine opF_ok htok hi hres _ _ _ (fun xv w' hL => ?_)
    obtain ⟨φ', S', e1, e2⟩ := hL
    exact next (hS.trans e1.sle) rfl rfl (hi.step e1 e2)
  · rw [wanted_of hi (hguard g1), if_neg (by simp)]
    refine ⟨fun _ _ => trivial, ?_⟩
    exact next (E := []) hS g2 g3 (hi.step (Ext.refl hi.since hi.heap) (by simp only [rel, relL]; exact ⟨#[], rfl, rfl⟩))

theorem draw_any [GZ T w0] (htok : TyOk P T) {W : List (List Nat)} (ho : OrdOk ops W) {tm : List V} {es : List Ent} {S0 : Nat → Prop} {Q : Exit → Act → World → Prop}
    (hat : ∀ (i : Nat) (x : Oper), ops[i]? = some x → ∃ e, es[i]? = some e ∧ At P T w0 ops (tmB (fun j => decide (j < i)) 0 tm es) (hpB (fun j => decide (j < i)) 0 hp es) x e)
    (hlen : es.length = ops.size) (hap : apartF W 0 (es.map (·.f)) = true)
    (hend : ∀ b φ S a w, (∀ j, j < ops.size → b j = true) → SLe w0.Z S0 S → Inv T w0 φ S (tmB b 0 tm es) (hpB b 0 hp es) a w → Q .normal a w) :
    ∀ (fuel : Nat) (listed : Array Bool) (φ : Nat → Option Loc) (S : Nat → Prop) (a : Act) (w : World), listed.size = ops.size → unl listed.toList ≤ fuel → Cl ops (fun j => listed.getD j false) → SLe w0.Z S0 S →
      Inv T w0 φ S (tmB (fun j => listed.getD j false) 0 tm es) (hpB (fun j => listed.getD j false) 0 hp es) a w → wpAnyIn (Fc w0.rd) 0 P .any ops Q fuel listed a w := by
  have mem := @waits_in.memN_iff'
  have gd : ∀ {l : Array Bool} {i : Nat} {d : Bool}, i < l.size → l.getD i d = l.getD i false := by
    intro l i d h
    simp [Array.getD, h]
  have rdy : ∀ {l : Array Bool} {i : Nat}, l.size = ops.size → (i ∈ Region.ready .any ops l ↔ ∃ x, ops[i]? = some x ∧ l.getD i false = false ∧ ∀ e ∈ x.after.toList, Region.binds .any e = true → l.getD e.on false = true) := by
    intro l i hl
    unfold Region.ready
    rw [List.mem_filter, List.mem_range]
    constructor
    · rintro ⟨h1, h2⟩
      simp only [Bool.and_eq_true, Bool.not_eq_true'] at h2
      rw [Array.getElem?_eq_getElem h1] at h2
      refine ⟨_, Array.getElem?_eq_getElem h1, by rw [← gd (d := true) (by omega)]; exact h2.1, fun e he hb => ?_⟩
      have := h2.2
      simp only [Option.map_some, Option.getD_some] at this
      rw [Array.all_eq_true'] at this
      have := this e (by simpa using he)
      simpa [hb] using this
    · rintro ⟨x, h1, h2, h3⟩
      have hi := (Array.getElem?_eq_some_iff.1 h1).1
      refine ⟨hi, ?_⟩
      rw [gd (d := true) (by omega), h2, h1]
      simp only [Bool.not_false, Bool.true_and, Option.map_some, Option.getD_some]
      rw [Array.all_eq_true']
      intro e he
      cases hb : Region.binds .any e with
      | false => rfl
      | true => simpa using h3 e (by simpa using he) hb
  have all : ∀ {l : Array Bool}, l.size = ops.size → Region.ready .any ops l = [] → ∀ j, j < ops.size → l.getD j false = true := by
    intro l hl hr j
    induction j using Nat.strongRecOn with
    | _ j ih =>
      intro hj
      cases hb : l.getD j false with
      | true => rfl
      | false =>
        exfalso
        have : j ∈ Region.ready .any ops l := (rdy hl).2 ⟨_, Array.getElem?_eq_getElem hj, hb, fun e he hbi => by
          have := ho.edge j _ (Array.getElem?_eq_getElem hj) e he hbi
          exact ih e.on this (by omega)⟩
        rw [hr] at this
        cases this
  intro fuel
  induction fuel with
  | zero =>
    intro listed φ S a w hl hf hc hS hi
    have hall : ∀ j, j < ops.size → listed.getD j false = true := fun j hj => by
      have h1 : listed.toList[j]? = some (listed.getD j false) := by
        rw [Array.getElem?_toList, Array.getElem?_eq_getElem (by omega)]
        simp [Array.getD, show j < listed.size from by omega]
      exact unl_zero (by omega) j _ h1
    refine ⟨?_, hend _ φ S a w hall hS hi⟩
    cases hr : Region.ready .any ops listed with
    | nil => rfl
    | cons i r =>
      have : i ∈ Region.ready .any ops listed := by rw [hr]; simp
      obtain ⟨x, h1, h2, _⟩ := (rdy hl).1 this
      rw [hall i (Array.getElem?_eq_some_iff.1 h1).1] at h2
      cases h2
  | succ fuel ih =>
    intro listed φ S a w hl hf hc hS hi
    refine ⟨fun hr => hend _ φ S a w (all hl hr) hS hi, fun i hir => ?_⟩
    obtain ⟨x, hx, hb, hpre⟩ := (rdy hl).1 hir
    have hin : i < ops.size := (Array.getElem?_eq_some_iff.1 hx).1
    have hset : ∀ j, (listed.setIfInBounds i true).getD j false = if j = i then true else listed.getD j false := by
      intro j
      simp only [Array.getD_eq_getD_getElem?, Array.getElem?_setIfInBounds]
      by_cases h : j = i
      · subst h
        simp [show j < listed.size from by omega]
      · rw [if_neg (fun e => h e.symm), if_neg h]
    refine draw_step htok ho hat hlen hap hx hb (fun j hj => ?_) (fun j hj hjn => ?_) (fun φ S a w hS hi => ?_) hS hi
    · obtain ⟨e, he, h1, h2⟩ := ho.wait i x hx j hj
      have hbe := hpre e he h1
      rcases h2 with rfl | h2
      · exact hbe
      · have : e.on < ops.size := Nat.lt_trans (ho.edge i x hx e he h1) hin
        exact waits_in ho hc e.on e.on _ (Nat.le_refl _) (Array.getElem?_eq_getElem this) hbe j (mem.1 h2)
    · cases hbj : listed.getD j false with
      | false => rfl
      | true =>
        have := waits_in ho hc j j _ (Nat.le_refl _) (Array.getElem?_eq_getElem hjn) hbj i hj
        rw [hb] at this
        cases this
    · refine ih _ φ S a w (by simp [hl]) ?_ ?_ hS ?_
      · have h1 : listed.toList[i]? = some false := by
          rw [Array.getElem?_toList, Array.getElem?_eq_getElem (by omega)]
          have := hb
          simp only [Array.getD, show i < listed.size from by omega, dif_pos] at this
          simpa using this
        have := unl_set h1
        simp only [Array.toList_setIfInBounds]
        omega
      · intro j y hy hbj e he hbe
        have hbj : (listed.setIfInBounds i true).getD j false = true := hbj
        show (listed.setIfInBounds i true).getD e.on false = true
        rw [hset] at hbj ⊢
        by_cases hji : j = i
        · subst hji
          rw [hx] at hy; injection hy with hy; subst hy
          have := hpre e he hbe
          split
          · rfl
          · exact this
        · rw [if_neg hji] at hbj
          have := hc j y hy hbj e he hbe
          split
          · rfl
          · exact this
      · rw [show (fun j => (listed.setIfInBounds i true).getD j false) = fun j => if j = i then true else listed.getD j false from funext hset]
        exact hi

theorem draw_ok [GZ T w0] (htok : TyOk P T) {W : List (List Nat)} (hord : ordOk ops W = true) {K : List V → Hp → Prop} {id : Nat} {tm : List V} (h : runOps (real P T w0) T ops W true K ops.toList [] [] tm hp) (hi : Inv T w0 φ S tm hp a w) :
    (Code.region id ops true).wpIn (Fc w0.rd) 0 P (Post T w0 S fun e tm hp => e = .normal ∧ K tm hp) a w := by
  obtain ⟨es, tm', hp', as', h1, h2, h3, h4⟩ := trace_of h (fun p hp => by cases hp)
  have hap := h4 rfl
  simp only [List.reverse_nil, List.nil_append] at hap
  obtain ⟨t1, t2, t3⟩ := trace_at (k := 0) h1
  have hf : ∀ j, (Array.replicate ops.size false).getD j false = false := fun j => by
    simp only [Array.getD_eq_getD_getElem?, Array.getElem?_replicate]
    split <;> rfl
  refine wpIn_region_any htok.mixed (draw_any (w0 := w0) (S0 := S) htok (ordOk_spec hord) (es := es) (tm := tm) (hp := hp) (fun i x hx => ?_) (by simpa using t1) hap (fun b φ' S' a' w' hb hS hi' => ?_) ops.size _ φ S a _ (by simp) ?_ (fun i x hx hb => ?_) SLe.refl ?_)
  · obtain ⟨e, e1, e2⟩ := t2 i x (by simpa using hx)
    exact ⟨e, e1, by simpa using e2⟩
  · obtain ⟨k1, k2⟩ := t3 b (fun j hj => by rw [Nat.zero_add]; exact hb j (by simpa using hj))
    rw [← k1, ← k2] at hi'
    exact ⟨φ', S', _, _, hS, hi'.retell h2, ⟨rfl, h3⟩, trivial⟩
  · have : ∀ n, unl (List.replicate n false) = n := fun n => by
      induction n with
      | zero => rfl
      | succ n ih => simp [List.replicate_succ, unl, ih, Nat.add_comm]
    simp [this]
  · simp only [hf] at hb; cases hb
  · rw [show (fun j => (Array.replicate ops.size false).getD j false) = fun _ => false from funext hf, tmB_none (fun _ _ => rfl), hpB_none (fun _ _ => rfl)]
    exact ⟨hi.since.drew, hi.size, fun t => rel_mono (w := w) (w' := w.drew) (S := S) (S' := S) (LocLe.refl φ) (fun _ _ => rfl) (fun _ h => h) _ _ (hi.tms t), hi.dfr, hi.heap.drew, hi.anc⟩
end
end Go.Ab
end
section
namespace Go.Ab
open Go.RowKit

section
variable {P : Program} {T : Tr} {w0 : Base} {φ φ' φ2 : Nat → Option Loc} {w w' : World} {S S' S2 : Nat → Prop} {v : V} {hp : Hp} {b0 : Nat → Prop} {x : Oper} {a : Act} {ops : Array Oper}

theorem region_ok [GZ T w0] (htok : TyOk P T) {W : List (List Nat)} {K : List V → Hp → Prop} {id : Nat} {draw : Bool} {tm : List V} (hord : draw = true → ordOk ops W = true) (h : runOps (real P T w0) T ops W draw K ops.toList [] [] tm hp) (hi : Inv T w0 φ S tm hp a w) :
    (Code.region id ops draw).wpIn (Fc w0.rd) 0 P (Post T w0 S fun e tm hp => e = .normal ∧ K tm hp) a w := by
  cases draw with
  | true => exact draw_ok htok (hord rfl) h hi
  | false =>
    obtain ⟨es, tm', hp', as', h1, h2, h3, _⟩ := trace_of h (fun p hp => by cases hp)
    refine wpIn_region ?_
    have := seq_ok (k := 0) (S0 := S) (Q := Post T w0 S fun e tm hp => e = .normal ∧ K tm hp) htok h1 (fun j => by simp) (fun φ' S' a' w' hS hi' => ⟨φ', S', _, _, hS, hi'.retell h2, ⟨rfl, h3⟩, trivial⟩) SLe.refl hi
    rwa [Array.length_toList, ← List.range_eq_range'] at this

/-- Are the lists right in all regions of open order? -/
def codeOk (W : Nat → List (List Nat)) : Code → Bool
  | .region id ops draw => match draw with
    | true => ordOk ops (W id)
    | false => true
  | .seq x y => codeOk W x && codeOk W y
  | .cond _ x y => codeOk W x && codeOk W y
  | .block _ x => codeOk W x
  | .loop x => codeOk W x
  | _ => true

theorem Post.weaken {S0 S1 : Nat → Prop} {K K' : Exit → List V → Hp → Prop} {e : Exit} (h : Post T w0 S1 K e a w) (hS : SLe w0.Z S0 S1) (hK : ∀ tm hp, K e tm hp → K' e tm hp) : Post T w0 S0 K' e a w := by
  obtain ⟨φ, S, tm, hp, h1, h2, h3, h4⟩ := h
  exact ⟨φ, S, tm, hp, hS.trans h1, h2, hK _ _ h3, h4⟩

theorem vc_ok [GZ T w0] (htok : TyOk P T) {W : Nat → List (List Nat)} : ∀ (c : Code) {K : Exit → List V → Hp → Prop} {tm : List V} {hp : Hp}, codeOk W c = true → vc (real P T w0) T W c K tm hp → Sat P T w0 c K tm hp
  | .skip, K, tm, hp, ho, h => fun φ S a w hi => wpIn_skip ⟨φ, S, tm, hp, SLe.refl, hi, h, trivial⟩
  | .region id ops draw, K, tm, hp, ho, h => fun φ S a w hi =>
    wpIn_mono (region_ok htok (fun hd => by subst hd; exact ho) h hi) (fun e a w hp => hp.weaken SLe.refl (fun tm hp hk => by obtain ⟨rfl, hk⟩ := hk; exact hk))
  | .seq x y, K, tm, hp, ho, h => fun φ S a w hi => by
    simp only [codeOk, Bool.and_eq_true] at ho
    simp only [vc] at h
    split at h
    · exact h φ S a w hi
    · refine wpIn_seq (wpIn_mono (vc_ok htok x ho.1 h φ S a w hi) (fun e a' w' hp => ?_))
      obtain ⟨φ', S', tm', hp', h1, h2, h3, h4⟩ := hp
      cases e with
      | normal => exact wpIn_mono (vc_ok htok y ho.2 h3 φ' S' a' w' h2) (fun e a w hp => hp.weaken h1 (fun _ _ h => h))
      | exit i => exact ⟨φ', S', tm', hp', h1, h2, h3, h4⟩
      | ret => exact ⟨φ', S', tm', hp', h1, h2, h3, h4⟩
      | _ => exact h4.elim
  | .cond c x y, K, tm, hp, ho, h => fun φ S a w hi => by
    simp only [codeOk, Bool.and_eq_true] at ho
    have hr := ev_rel hi c
    simp only [vc] at h
    split at h
    · rename_i e
      exact wpIn_cond_true (asB_lit e hr) (vc_ok htok x ho.1 h φ S a w hi)
    · rename_i e
      exact wpIn_cond_false (asB_lit e hr) (vc_ok htok y ho.2 h φ S a w hi)
    · rename_i cb e
      have tell : ∀ {b}, cb = b → Inv T w0 φ S (condT tm c b) hp a w := by
        intro b hb
        subst hb
        cases c with
        | tmp t => exact hi.retell1 (by simp only [ev] at e; rw [e]; rfl)
        | _ => exact hi
      refine wpIn_cond_split (asB_sym e hr) (fun hb => ?_) (fun hb => ?_)
      · exact vc_ok htok x ho.1 (h.1 hb) φ S a w (tell hb)
      · exact vc_ok htok y ho.2 (h.2 hb) φ S a w (tell hb)
    · split at h
      · rename_i g es e
        have hq := hr
        rw [e] at hq
        simp only [rel] at hq
        obtain ⟨bb, hx, hbg⟩ := hq
        have tell : ∀ {b}, bb = b → Inv T w0 φ S (condT tm c b) hp a w := by
          intro b hb
          subst hb
          cases c with
          | tmp t =>
            refine ⟨hi.since, by simp [condT, hi.size], fun u => ?_, hi.dfr, hi.heap, hi.anc⟩
            simp only [condT]
            rw [getD_set]
            split
            · rename_i hu
              rw [← hu.1]
              have hx' : a.tmps.getD t undef = .bool bb := hx
              rw [hx']
              exact rel_sb bb
            · exact hi.tms u
          | _ => exact hi
        cases g with
        | true =>
          refine wpIn_cond_split hx (fun hb => ?_) (fun hb => ?_)
          · exact vc_ok htok x ho.1 (h.1 (hbg hb)) φ S a w (tell hb)
          · exact vc_ok htok y ho.2 h.2 φ S a w (tell hb)
        | false =>
          refine wpIn_cond_split hx (fun hb => ?_) (fun hb => ?_)
          · exact vc_ok htok x ho.1 h.2 φ S a w (tell hb)
          · exact vc_ok htok y ho.2 (h.1 (hbg hb)) φ S a w (tell hb)
      · exact h.elim
  | .block id b, K, tm, hp, ho, h => fun φ S a w hi => by
    refine wpIn_block (wpIn_mono (vc_ok htok b ho h φ S a w hi) (fun e a' w' hp => ?_))
    obtain ⟨φ', S', tm', hp', h1, h2, h3, h4⟩ := hp
    cases e with
    | normal => exact ⟨φ', S', tm', hp', h1, h2, h3, h4⟩
    | exit i =>
      simp only at h3
      simp only [Exit.inBlock]
      split at h3
      · rename_i e
        rw [if_pos (by simpa using e)]
        exact ⟨φ', S', tm', hp', h1, h2, h3, trivial⟩
      · rename_i e
        rw [if_neg (by simpa using e)]
        exact ⟨φ', S', tm', hp', h1, h2, h3, trivial⟩
    | ret => exact ⟨φ', S', tm', hp', h1, h2, h3, h4⟩
    | _ => exact h4.elim
  | .loop b, K, tm, hp, _, h => h
  | .exit id, K, tm, hp, ho, h => fun φ S a w hi => wpIn_exit ⟨φ, S, tm, hp, SLe.refl, hi, h, trivial⟩
  | .ret, K, tm, hp, ho, h => fun φ S a w hi => wpIn_ret ⟨φ, S, tm, hp, SLe.refl, hi, h, trivial⟩
  | .label _, _, _, _, _, h => h.elim
  | .rangeFunc _ _ _ _, _, _, _, _, h => h.elim
  | .scope _, _, _, _, _, h => h.elim
  | .goto _, _, _, _, _, h => h.elim
  | .refuse _, _, _, _, _, h => h.elim
end
end Go.Ab
end
section
namespace Go.Ab
open Go.RowKit

section
variable {P : Program} {T : Tr} {w0 : Base} {φ φ' φ2 : Nat → Option Loc} {w w' : World} {S S' S2 : Nat → Prop} {v : V} {hp : Hp} {b0 : Nat → Prop} {x : Value} {a : Act} {ops : Array Oper}

/-- What has been handed on so far: names of its own, apart from what is left. -/
structure Held (T : Tr) (φ φ' : Nat → Option Loc) (b0 : Nat → Prop) (w : World) (S : Nat → Prop) (hp h : Hp) : Prop where
  left : HOk T φ b0 w S hp
  gave : HOk T φ' b0 w S h
  apart : ∀ n m b c l k B, look hp n = some b → look h m = some c → b.own = true → c.own = true → φ n = some l → φ' m = some k → l.blk = some B → k.blk ≠ some B

theorem Held.nil (hh : HOk T φ b0 w S hp) : Held T φ (fun _ => none) b0 w S hp [] :=
  ⟨hh, ⟨fun n => (by simp [look]), fun n b h => (by cases h), fun n b l B h => (by cases h), fun n m b c l k B h => (by cases h), hh.old⟩, fun n m b c l k B _ h => (by cases h)⟩

theorem HOk.moreS {h : Hp} (hh : HOk T φ b0 w S h) (hS : ∀ k, S k → S' k) (hold : ∀ k, S' k → k < w.heap.size) (hown : ∀ n b l B, look h n = some b → b.own = true → φ n = some l → l.blk = some B → ¬ S' B) : HOk T φ b0 w S' h :=
  ⟨hh.dom, fun n b hb => (hh.blk n b hb).mono (LocLe.refl _) (fun _ _ => rfl) hS (fun _ _ _ _ _ => rfl), fun n b l B hb ho hl hB => ⟨(hh.own n b l B hb ho hl hB).1, (hh.own n b l B hb ho hl hB).2.1, hown n b l B hb ho hl hB⟩, hh.inj, hold⟩

/-- A row is shown. -/
theorem Held.freeze {h : Hp} {n et : Nat} {es : List V} (k : Held T φ φ' b0 w S hp h) (hl : look hp n = some (.row et es)) : ∃ S', SLe b0 S S' ∧ Held T φ φ' b0 w S' ((n, .ro et es) :: hp) h := by
  obtain ⟨S', s1, s2, s3⟩ := k.left.freeze hl
  refine ⟨S', ⟨s1, fun i hi => (s3 i hi).imp (fun h => h) (fun ⟨l, h1, h2⟩ => (k.left.own n _ l i hl rfl h1 h2).1)⟩, s2, k.gave.moreS s1 s2.old (fun m b l B hb ho hl' hB hS => ?_), fun m m' b c l l' B hm hm' hb hc hl1 hl2 hB1 hB2 => ?_⟩
  · rcases s3 B hS with hS | ⟨l', h1, h2⟩
    · exact (k.gave.own m b l B hb ho hl' hB).2.2 hS
    · exact k.apart n m _ b l' l B hl hb rfl ho h1 hl' h2 hB
  · rw [look_cons] at hm
    split at hm
    · injection hm with hm; subst hm; cases hb
    · exact k.apart m m' b c l l' B hm hm' hb hc hl1 hl2 hB1 hB2

/-- A map is shown. -/
theorem Held.freezeM {h : Hp} {n t : Nat} {L : List (Value × Value)} (q : Held T φ φ' b0 w S hp h) (hl : look hp n = some (.mb t L)) : ∃ S', SLe b0 S S' ∧ Held T φ φ' b0 w S' ((n, .gone) :: hp) h ∧ ∀ B, φ n = some (.box B) → S' B := by
  obtain ⟨B, es, c, g1, g2, g3⟩ := q.left.blk n _ hl
  obtain ⟨o1, o2, o3⟩ := q.left.own n _ _ B hl rfl g1 rfl
  have s2 : HOk T φ b0 w (fun k => S k ∨ k = B) ((n, .gone) :: hp) := by
    refine q.left.cons (LocLe.refl _) (fun _ _ => rfl) (by rw [g1]; simp) (fun _ _ => rfl) (fun k hk => .inl hk) (fun m c' l B' hm hc hc2 hl2 hB => ⟨rfl, fun hS => ?_⟩) (Nat.le_refl _) trivial (fun e => by cases e) (fun k hk => ?_)
    · rcases hS with hS | hS
      · exact (q.left.own m c' l B' hc hc2 hl2 hB).2.2 hS
      · subst hS; exact hm (q.left.inj m n c' _ l _ B' hc hl hc2 rfl hl2 g1 hB rfl)
    · rcases hk with hk | hk
      · exact q.left.old _ hk
      · subst hk; exact o2
  refine ⟨fun k => S k ∨ k = B, ⟨fun k hk => .inl hk, fun i hi => hi.imp (fun h => h) (fun h => by subst h; exact o1)⟩, ⟨s2, q.gave.moreS (fun k hk => .inl hk) s2.old (fun m b l B' hb ho hl' hB hS => ?_), fun m m' b c' l l' B' hm hm' hb hc hl1 hl2 hB1 hB2 => ?_⟩, fun B' hB' => by rw [g1] at hB'; injection hB' with hB'; injection hB' with hB'; exact .inr hB'.symm⟩
  · rcases hS with hS | hS
    · exact (q.gave.own m b l B' hb ho hl' hB).2.2 hS
    · subst hS
      exact q.apart n m _ b _ l B' hl hb rfl ho g1 hl' rfl hB
  · rw [look_cons] at hm
    split at hm
    · injection hm with hm; subst hm; cases hb
    · exact q.apart m m' b c' l l' B' hm hm' hb hc hl1 hl2 hB1 hB2

/-- A row is handed on. -/
theorem Held.give {h : Hp} {n et q : Nat} {es : List V} (k : Held T φ φ' b0 w S hp h) (hl : look hp n = some (.row et es)) (hq : look h q = none) : ∃ φ2, LocLe φ' φ2 ∧ φ2 q = φ n ∧ Held T φ φ2 b0 w S ((n, .gone) :: hp) ((q, .row et es) :: h) := by
  have hφq : φ' q = none := (k.gave.dom q).2 hq
  have hne : φ n ≠ none := fun e => by rw [(k.left.dom n).1 e] at hl; cases hl
  obtain ⟨l, hφ⟩ := Option.ne_none_iff_exists'.1 hne
  have hself : upd φ' q l q = some l := upd_self
  refine ⟨upd φ' q l, upd_le hφq, by rw [hself, hφ], k.left.drop hl rfl trivial, ?_, fun m m' b c l1 l2 B hm hm' hb hc hl1 hl2 hB1 hB2 => ?_⟩
  · refine k.gave.cons (upd_le hφq) (fun m hm => upd_ne hm) (by rw [hself]; simp) (fun _ _ => rfl) (fun _ h => h) (fun m c l' B hm hc hc2 hl' hB => ⟨rfl, (k.gave.own m c l' B hc hc2 hl' hB).2.2⟩) (Nat.le_refl _) ?_ (fun _ l' B hl' hB => ?_) k.gave.old
    · obtain ⟨hw, e, he, hz, hb⟩ := k.left.blk n _ hl
      refine ⟨hw, e, he, hz, ?_⟩
      rcases hb with ⟨B, off, room, arr, h1, h2, h3, h4, h5, h6⟩ | ⟨h1, h2⟩
      · refine .inl ⟨B, off, room, arr, by rw [hself, ← hφ]; exact h1, h2, h3, h4, h5, fun j c hj => ?_⟩
        obtain ⟨y, y1, y2⟩ := h6 j c hj
        exact ⟨y, wt_free c et y (wtL_iff.1 hw c (List.mem_of_getElem? hj)) y1, y2⟩
      · exact .inr ⟨by rw [hself, ← hφ]; exact h1, h2⟩
    · rw [hself] at hl'; injection hl' with hl'; subst hl'
      obtain ⟨o1, o2, o3⟩ := k.left.own n _ l B hl rfl hφ hB
      exact ⟨o1, o2, o3, fun m c l2 hm hc hc2 hl2 hB2 => k.apart n m _ c l l2 B hl hc rfl hc2 hφ hl2 hB hB2⟩
  · rw [look_cons] at hm hm'
    split at hm
    · injection hm with hm; subst hm; cases hb
    · rename_i hnm
      split at hm'
      · rename_i hqm
        subst hqm
        injection hm' with hm'; subst hm'
        rw [hself] at hl2; injection hl2 with hl2; subst hl2
        exact hnm (k.left.inj m n b _ l1 l B hm hl hb rfl hl1 hφ hB1 hB2).symm
      · rename_i hqm
        rw [upd_ne (fun e => hqm e.symm)] at hl2
        exact k.apart m m' b c l1 l2 B hm hm' hb hc hl1 hl2 hB1 hB2

/-- The given rows' numbers are below k. -/
def Below' (k : Nat) (h : Hp) : Prop := ∀ n, k ≤ n → look h n = none

theorem closeS_ok {k : Nat} {h E h' : Hp} {v' : V} (hd : Held T φ φ' b0 w S hp h) (hk : Below' k h) (hr : rel T φ w S v x) (hc : closeS (real P T w0) k hp v = some (v', E, h')) :
    ∃ φ2 S2, LocLe φ' φ2 ∧ SLe b0 S S2 ∧ Held T φ φ2 b0 w S2 (E ++ hp) (h' ++ h) ∧ Below' (k + h'.length) (h' ++ h) ∧ rel T φ2 w S2 v' x := by
  have same : ∀ {v'}, (∀ ψ : Nat → Option Loc, rel T ψ w S v' x) → ∃ φ2 S2, LocLe φ' φ2 ∧ SLe b0 S S2 ∧ Held T φ φ2 b0 w S2 hp h ∧ Below' k h ∧ rel T φ2 w S2 v' x :=
    fun h => ⟨φ', S, LocLe.refl _, SLe.refl, hd, hk, h φ'⟩
  have free : ∀ {et es}, rel T φ w S (.sl et es) x → ∀ ψ : Nat → Option Loc, rel T ψ w S (.sl et es) x := by
    intro et es hr ψ
    simp only [rel] at hr ⊢
    obtain ⟨A, cap, h1, h2, h3, h5, h6⟩ := hr
    refine ⟨A, cap, h1, h2, h3, h5, fun hne => ?_⟩
    obtain ⟨ad, e, ha, hl, hz, hs, he⟩ := h6 hne
    exact ⟨ad, e, ha, hl, hz, hs, wtL_free es et 0 ad e.size h5 he⟩
  cases v with
  | row n =>
    simp only [closeS] at hc
    split at hc
    · rename_i et es hl
      injection hc with hc; injection hc with e1 hc; injection hc with e2 e3
      subst e1; subst e2; subst e3
      obtain ⟨φ2, l1, l2, l3⟩ := hd.give hl (hk k (Nat.le_refl _))
      refine ⟨φ2, S, l1, SLe.refl, l3, fun n hn => ?_, ?_⟩
      · simp only [List.length_singleton] at hn
        rw [List.singleton_append, look_cons, if_neg (by omega)]
        exact hk n (by omega)
      · simp only [rel] at hr ⊢
        rw [l2]
        exact hr
    · rename_i et es hl
      injection hc with hc; injection hc with e1 hc; injection hc with e2 e3
      subst e1; subst e2; subst e3
      obtain ⟨hw, e, he, hz, hb⟩ := ro_form hd.left hl
      exact same (free (row_sl he hz hw (ro_S hd.left hl) hb hr))
    · cases hc
  | rowp n lo ln =>
    simp only [closeS] at hc
    have go : ∀ {hp : Hp} {S : Nat → Prop} {et es}, HOk T φ b0 w S hp → look hp n = some (.ro et es) → rel T φ w S (.rowp n lo ln) x → rel T φ w S (.sl et ((real P T w0).sub es lo ((real P T w0).pl lo ln))) x := by
      intro hp S et es hh hl hr
      have := expS_ok (P := P) (w0 := w0) hh hr
      simp only [expS, hl] at this
      refine rel_mono (LocLe.refl _) (fun _ _ => rfl) (fun i hi => ?_) _ _ this
      rcases hi with hi | ⟨n', hn', l, h1, h2⟩
      · exact hi
      · simp only [rowsS, List.mem_singleton] at hn'
        subst hn'
        exact ro_S hh hl l i h1 h2
    split at hc
    · rename_i et es hl
      injection hc with hc; injection hc with e1 hc; injection hc with e2 e3
      subst e1; subst e2; subst e3
      obtain ⟨S2, s1, s2⟩ := hd.freeze hl
      refine ⟨φ', S2, LocLe.refl _, s1, s2, hk, ?_⟩
      have hr2 := rel_mono (LocLe.refl φ) (fun _ _ => rfl) s1.1 _ _ hr
      have := go s2.left (by rw [look_cons, if_pos rfl]) hr2
      simp only [rel] at this ⊢
      obtain ⟨A, cap, h1, h2, h3, h5, h6⟩ := this
      refine ⟨A, cap, h1, h2, h3, h5, fun hne => ?_⟩
      obtain ⟨ad, e, ha, hl, hz, hs, he⟩ := h6 hne
      exact ⟨ad, e, ha, hl, hz, hs, wtL_free _ et 0 ad e.size h5 he⟩
    · rename_i et es hl
      injection hc with hc; injection hc with e1 hc; injection hc with e2 e3
      subst e1; subst e2; subst e3
      exact same (free (go hd.left hl hr))
    · cases hc
  | mrow n =>
    simp only [closeS] at hc
    split at hc
    · rename_i t L hl
      injection hc with hc; injection hc with e1 hc; injection hc with e2 e3
      subst e1; subst e2; subst e3
      obtain ⟨S2, s1, s2, s3⟩ := hd.freezeM hl
      refine ⟨φ', S2, LocLe.refl _, s1, s2, hk, ?_⟩
      simp only [rel] at hr ⊢
      obtain ⟨B, h1, rfl⟩ := hr
      obtain ⟨B', es, c, g1, g2, g3⟩ := hd.left.blk n _ hl
      rw [h1] at g1; injection g1 with g1; injection g1 with g1; subst g1
      exact ⟨B, es, c, rfl, s3 B h1, g2, g3⟩
    · cases hc
  | ptr _ _ => cases hc
  | ep _ _ _ => cases hc
  | rp _ _ _ _ => cases hc
  | agg _ => cases hc
  | tup _ => cases hc
  | fn _ _ _ => cases hc
  | s _ => simp only [closeS] at hc; injection hc with hc; injection hc with e1 hc; injection hc with e2 e3; subst e1; subst e2; subst e3; exact same (fun ψ => by simpa only [rel] using hr)
  | i _ _ => simp only [closeS] at hc; injection hc with hc; injection hc with e1 hc; injection hc with e2 e3; subst e1; subst e2; subst e3; exact same (fun ψ => by simpa only [rel] using hr)
  | b _ => simp only [closeS] at hc; injection hc with hc; injection hc with e1 hc; injection hc with e2 e3; subst e1; subst e2; subst e3; exact same (fun ψ => by simpa only [rel] using hr)
  | str _ => simp only [closeS] at hc; injection hc with hc; injection hc with e1 hc; injection hc with e2 e3; subst e1; subst e2; subst e3; exact same (fun ψ => by simpa only [rel] using hr)
  | nil => simp only [closeS] at hc; injection hc with hc; injection hc with e1 hc; injection hc with e2 e3; subst e1; subst e2; subst e3; exact same (fun ψ => by simpa only [rel] using hr)
  | nlq _ _ => cases hc
  | mp _ _ => simp only [closeS] at hc; injection hc with hc; injection hc with e1 hc; injection hc with e2 e3; subst e1; subst e2; subst e3; exact same (fun ψ => by simpa only [rel] using hr)
  | dead => simp only [closeS] at hc; injection hc with hc; injection hc with e1 hc; injection hc with e2 e3; subst e1; subst e2; subst e3; exact same (fun ψ => by simp only [rel])
  | sl et es => simp only [closeS] at hc; injection hc with hc; injection hc with e1 hc; injection hc with e2 e3; subst e1; subst e2; subst e3; exact same (free hr)

theorem closeL_ok : ∀ {vs : List V} {k : Nat} {hp h E h' : Hp} {vs' : List V} {xs : List Value} {φ' : Nat → Option Loc} {S : Nat → Prop}, Held T φ φ' b0 w S hp h → Below' k h → relL T φ w S vs xs → closeL (real P T w0) k hp vs = some (vs', E, h') →
    ∃ φ2 S2, LocLe φ' φ2 ∧ SLe b0 S S2 ∧ Held T φ φ2 b0 w S2 (E ++ hp) (h' ++ h) ∧ Below' (k + h'.length) (h' ++ h) ∧ relL T φ2 w S2 vs' xs
  | [], k, hp, h, E, h', vs', xs, φ', S, hd, hk, hr, hc => by
    simp only [closeL] at hc
    injection hc with hc; injection hc with e1 hc; injection hc with e2 e3
    subst e1; subst e2; subst e3
    exact ⟨φ', S, LocLe.refl _, SLe.refl, hd, hk, by simpa only [relL] using hr⟩
  | v :: r, k, hp, h, E, h', vs', xs, φ', S, hd, hk, hr, hc => by
    simp only [closeL] at hc
    split at hc
    · rename_i v1 E1 h1 hv
      split at hc
      · rename_i r2 E2 h2 hq
        injection hc with hc; injection hc with e1 hc; injection hc with e2 e3
        subst e1; subst e2; subst e3
        simp only [relL] at hr
        obtain ⟨x, xs', rfl, k1, k2⟩ := hr
        obtain ⟨φ2, S2, a1, a2, a3, a4, a5⟩ := closeS_ok hd hk k1 hv
        obtain ⟨φ3, S3, b1, b2, b3, b4, b5⟩ := closeL_ok a3 a4 (relL_mono (LocLe.refl _) (fun _ _ => rfl) a2.1 _ _ k2) hq
        refine ⟨φ3, S3, a1.trans b1, a2.trans b2, by rw [List.append_assoc, List.append_assoc]; exact b3, ?_, ?_⟩
        · rw [List.append_assoc, List.length_append, Nat.add_comm h2.length, ← Nat.add_assoc]; exact b4
        · simp only [relL]
          exact ⟨x, xs', rfl, rel_mono b1 (fun _ _ => rfl) b2.1 _ _ a5, b5⟩
      · cases hc
    · cases hc

theorem close1_ok {k : Nat} {h E h' : Hp} {v' : V} (hd : Held T φ φ' b0 w S hp h) (hk : Below' k h) (hr : rel T φ w S v x) (hc : close1 (real P T w0) k hp v = some (v', E, h')) :
    ∃ φ2 S2, LocLe φ' φ2 ∧ SLe b0 S S2 ∧ Held T φ φ2 b0 w S2 (E ++ hp) (h' ++ h) ∧ Below' (k + h'.length) (h' ++ h) ∧ rel T φ2 w S2 v' x := by
  unfold close1 at hc
  split at hc
  · rename_i cs
    split at hc
    · rename_i cs' E1 h1 hv
      injection hc with hc; injection hc with e1 hc; injection hc with e2 e3
      subst e1; subst e2; subst e3
      simp only [rel] at hr
      obtain ⟨a, rfl, k1, k2⟩ := hr
      obtain ⟨φ2, S2, a1, a2, a3, a4, a5⟩ := closeL_ok hd hk k1 hv
      refine ⟨φ2, S2, a1, a2, a3, a4, ?_⟩
      simp only [rel]
      exact ⟨a, rfl, a5, k2⟩
    · cases hc
  · exact closeS_ok hd hk hr hc

theorem close1L_ok : ∀ {vs : List V} {k : Nat} {hp h E h' : Hp} {vs' : List V} {xs : List Value} {φ' : Nat → Option Loc} {S : Nat → Prop}, Held T φ φ' b0 w S hp h → Below' k h → relL T φ w S vs xs → close1L (real P T w0) k hp vs = some (vs', E, h') →
    ∃ φ2 S2, LocLe φ' φ2 ∧ SLe b0 S S2 ∧ Held T φ φ2 b0 w S2 (E ++ hp) (h' ++ h) ∧ Below' (k + h'.length) (h' ++ h) ∧ relL T φ2 w S2 vs' xs
  | [], k, hp, h, E, h', vs', xs, φ', S, hd, hk, hr, hc => by
    simp only [close1L] at hc
    injection hc with hc; injection hc with e1 hc; injection hc with e2 e3
    subst e1; subst e2; subst e3
    exact ⟨φ', S, LocLe.refl _, SLe.refl, hd, hk, by simpa only [relL] using hr⟩
  | v :: r, k, hp, h, E, h', vs', xs, φ', S, hd, hk, hr, hc => by
    simp only [close1L] at hc
    split at hc
    · rename_i v1 E1 h1 hv
      split at hc
      · rename_i r2 E2 h2 hq
        injection hc with hc; injection hc with e1 hc; injection hc with e2 e3
        subst e1; subst e2; subst e3
        simp only [relL] at hr
        obtain ⟨x, xs', rfl, k1, k2⟩ := hr
        obtain ⟨φ2, S2, a1, a2, a3, a4, a5⟩ := close1_ok hd hk k1 hv
        obtain ⟨φ3, S3, b1, b2, b3, b4, b5⟩ := close1L_ok a3 a4 (relL_mono (LocLe.refl _) (fun _ _ => rfl) a2.1 _ _ k2) hq
        refine ⟨φ3, S3, a1.trans b1, a2.trans b2, by rw [List.append_assoc, List.append_assoc]; exact b3, ?_, ?_⟩
        · rw [List.append_assoc, List.length_append, Nat.add_comm h2.length, ← Nat.add_assoc]; exact b4
        · simp only [relL]
          exact ⟨x, xs', rfl, rel_mono b1 (fun _ _ => rfl) b2.1 _ _ a5, b5⟩
      · cases hc
    · cases hc
end
end Go.Ab
end
section
namespace Go.Ab
open Go.RowKit

section
variable {P : Program} {T : Tr} {w0 : Base} {φ φ' φ2 : Nat → Option Loc} {w w' : World} {S S' S2 : Nat → Prop} {v : V} {hp : Hp} {b0 : Nat → Prop} {x : Value} {a : Act} {ops : Array Oper}

def resM (tmps : Array Value) : ResultVar → Sem Value
  | .tmp t => pure (tmps.getD t undef)
  | .cell c t => do loadVar t (← asAddr (tmps.getD c undef))

theorem resL_ok (htok : TyOk P T) {tm : List V} (hi : Inv T w0 φ S tm hp a w) : ∀ {rs : List ResultVar} {vs : List V}, resL (real P T w0) T tm hp rs = some vs →
    ∃ xs : List Value, (rs.mapM (resM a.tmps)).run P w = .ok xs w ∧ relL T φ w S vs xs
  | [], vs, h => by
    simp only [resL, Option.some.injEq] at h
    subst h
    exact ⟨[], by simp, by simp [relL]⟩
  | .tmp t :: r, vs, h => by
    simp only [resL] at h
    split at h
    · rename_i l hl
      injection h with h; subst h
      obtain ⟨xs, h1, h2⟩ := resL_ok htok hi hl
      refine ⟨a.tmps.getD t undef :: xs, by simp [List.mapM_cons, h1, resM], ?_⟩
      simp only [relL]
      exact ⟨_, xs, rfl, hi.tms t, h2⟩
    · cases h
  | .cell c t :: r, vs, h => by
    simp only [resL] at h
    split at h
    · rename_i v E l hv hl
      injection h with h; subst h
      obtain ⟨xs, h1, h2⟩ := resL_ok htok hi hl
      have hres : Res P T (loadF (real P T w0) T hp t (tm.getD c .dead)) v E := by rw [hv]; exact .ok
      obtain ⟨_, xv, k1, k2⟩ := loadF_ok htok hi.heap hres (hi.tms c)
      have : ∃ ad, a.tmps.getD c undef = .pointer (some ad) := by
        have hr := hi.tms c
        have hv' := hv
        unfold loadF at hv'
        split at hv'
        · cases hv'
        · generalize tm.getD c .dead = p at hr hv'
          cases p with
          | ptr n off => simp only [rel] at hr; obtain ⟨B, _, e⟩ := hr; exact ⟨_, e⟩
          | ep n i j => simp only [rel] at hr; obtain ⟨B, off, len, room, sz, _, _, _, e⟩ := hr; exact ⟨_, e⟩
          | rp u es i j => simp only [rel] at hr; obtain ⟨ad, e, _, _, _, _, _, _, _, e⟩ := hr; exact ⟨_, e⟩
          | _ => cases hv'
      obtain ⟨ad, hA⟩ := this
      rw [hA] at k1
      refine ⟨xv :: xs, ?_, ?_⟩
      · rw [List.mapM_cons]
        have k2' : (resM a.tmps (.cell c t)).run P w = .ok xv w := by
          simp only [resM, hA]
          simpa [asAddr, Instr.loadAt, Instr.sureAddr] using k1
        simp [Sem.run_bind, k2', h1, Result.andThen]
      · simp only [relL]
        exact ⟨_, xs, rfl, k2, h2⟩
    · cases h

theorem results_ok (htok : TyOk P T) {fn : Func} {tm : List V} (hi : Inv T w0 φ S tm hp a w) {K : V → Hp → Prop} (h : retF (real P T w0) T fn.results.toList K tm hp) :
    ∃ x v φ' S' post, (results fn a.tmps).run P w = .ok x w ∧ SLe w0.Z S S' ∧ HOk T φ' w0.Z w S' post ∧ rel T φ' w S' v x ∧ K v post := by
  unfold retF at h
  split at h
  · rename_i vs hvs
    split at h
    · rename_i vs' E h' hcl
      obtain ⟨xs, h1, h2⟩ := resL_ok htok hi hvs
      obtain ⟨φ2, S2, a1, a2, a3, a4, a5⟩ := close1L_ok (Held.nil hi.heap) (fun n _ => rfl) h2 hcl
      have hlen := (relL_iff.1 a5).1
      refine ⟨if hx : xs.toArray.size = 1 then xs.toArray[0] else .tuple xs.toArray, normR (oneOf vs'), φ2, S2, h', ?_, a2, by simpa using a3.gave, ?_, h⟩
      · have hm : (fn.results.mapM (resM a.tmps)).run P w = .ok xs.toArray w := by
          rw [← Array.toArray_toList (xs := fn.results), List.mapM_toArray]
          simp [h1]
        show (do let vs ← fn.results.mapM (resM a.tmps); pure (if h : vs.size = 1 then vs[0] else .tuple vs) : Sem Value).run P w = _
        rw [Sem.run_bind, hm]
        simp [Result.andThen]
      · refine normR_rel ?_
        unfold oneOf
        split
        · rename_i v
          simp only [relL] at a5
          obtain ⟨y, ys, e1, e2, e3⟩ := a5
          subst e3; subst e1
          simpa using e2
        · rename_i hne
          rw [dif_neg (fun e => by
            simp only [List.size_toArray] at e
            rw [← hlen] at e
            match vs', e with
            | [v], _ => exact hne v rfl)]
          simp only [rel]
          exact ⟨_, rfl, by simpa using a5⟩
    · exact h.elim
  · exact h.elim

end
end Go.Ab
end
section
namespace Go.Ab
open Go.RowKit

def setAll (tm : List V) : List (Nat × V) → List V
  | [] => tm
  | (t, v) :: r => setAll (tm.set t v) r

/-- A state told by its live slots. -/
def mkS (n : Nat) (sl : List (Nat × V)) : List V := setAll (List.replicate n .dead) sl

def fitsS (ρ : List (Nat × Nat)) (tm : List V) : List (Nat × V) → Prop
  | [] => True
  | (t, v) :: r => fitV (normV (tm.getD t .dead)) (normV (renR ρ v)) ∧ fitsS ρ tm r

structure Fits (ns : List Nat) (n : Nat) (ρ : List (Nat × Nat)) (sl : List (Nat × V)) (hp' : Hp) (tm : List V) (hp : Hp) : Prop where
  len : tm.length = n
  slots : fitsS ρ tm sl
  rows : fitsH ρ hp hp'
  ok : okState ρ sl hp' = true
  anc : ancOk ρ hp' ns = true

section
variable {P : Program} {T : Tr} {w0 : Base} {φ φ' φ2 : Nat → Option Loc} {w w' : World} {S S' S2 : Nat → Prop} {v : V} {hp : Hp} {b0 : Nat → Prop} {x : Value} {a : Act} {ops : Array Oper}

theorem okNames_mem {hp' : Hp} : ∀ {sl : List (Nat × V)}, okNames hp' sl = true → ∀ p ∈ sl, allR hp' p.2 = true
  | (t, v) :: r, h, p, hp => by
    simp only [okNames] at h
    split at h
    · rename_i h0
      rcases List.mem_cons.1 hp with rfl | hp
      · exact h0
      · exact okNames_mem h p hp
    · cases h

theorem fitsS_mem {ρ : List (Nat × Nat)} {tm : List V} : ∀ {sl : List (Nat × V)}, fitsS ρ tm sl → ∀ p ∈ sl, fitV (normV (tm.getD p.1 .dead)) (normV (renR ρ p.2))
  | (t, v) :: r, h, p, hp => by
    rcases List.mem_cons.1 hp with rfl | hp
    · exact h.1
    · exact fitsS_mem h.2 p hp

theorem setAll_get : ∀ {sl : List (Nat × V)} {tm : List V} {t : Nat}, (setAll tm sl).getD t .dead = tm.getD t .dead ∨ (t, (setAll tm sl).getD t .dead) ∈ sl
  | [], tm, t => .inl rfl
  | (k, v) :: r, tm, t => by
    simp only [setAll]
    rcases setAll_get (sl := r) (tm := tm.set k v) (t := t) with h | h
    · rw [h, getD_set]
      split
      · rename_i e; rw [← e.1]; exact .inr List.mem_cons_self
      · exact .inl rfl
    · exact .inr (List.mem_cons_of_mem _ h)

theorem setAll_length : ∀ {sl : List (Nat × V)} {tm : List V}, (setAll tm sl).length = tm.length
  | [], tm => rfl
  | (k, v) :: r, tm => by simp only [setAll]; rw [setAll_length]; simp

/-- A state is told anew: under other names, less of it. -/
theorem ancOk_mem {ρ : List (Nat × Nat)} {hp : Hp} : ∀ {ns : List Nat}, ancOk ρ hp ns = true → ∀ n ∈ ns, hasN hp n = true ∧ nameR ρ n = n
  | m :: r, h, n, hn => by
    simp only [ancOk] at h
    split at h
    · rename_i h1
      split at h
      · rename_i h2
        rcases List.mem_cons.1 hn with rfl | hn
        · exact ⟨h1, by simpa using h2⟩
        · exact ancOk_mem h n hn
      · cases h
    · cases h

theorem Inv.fit {ρ : List (Nat × Nat)} {sl : List (Nat × V)} {hp hp' : Hp} {tm : List V} (h : Inv T w0 φ S tm hp a w) {n : Nat} {ns : List Nat} (hns : ∀ p ∈ w0.anc, p.1 ∈ ns) (hf : Fits ns n ρ sl hp' tm hp) : Inv T w0 (fitφ φ ρ hp') S (mkS n sl) hp' a w := by
  obtain ⟨f0, f1, f2, f3, f4⟩ := hf
  subst f0
  simp only [okState] at f3
  split at f3
  · rename_i n1
    split at f3
    · rename_i n2
      refine ⟨h.since, by rw [mkS, setAll_length]; simpa using h.size, fun t => ?_, h.dfr, h.heap.fit f2 n2 f3, fun p hp => ?_⟩
      · rcases setAll_get (sl := sl) (tm := List.replicate tm.length .dead) (t := t) with e | e
        · rw [mkS, e]
          simp only [List.getD_eq_getElem?_getD, List.getElem?_replicate]
          split <;> simp [rel]
        · have e1 := okNames_mem n1 _ e
          have e2 := fitsS_mem f1 _ e
          have := h.tms t
          simp only at e2
          have := fitV_rel e2 (norm_rel this)
          exact fit_rel _ _ e1 (norm_rel' this)
      · obtain ⟨a1, a2⟩ := ancOk_mem f4 _ (hns p hp)
        simp only [fitφ, if_pos a1, a2]
        exact h.anc p hp
    · cases f3
  · cases f3

theorem loop_ok [GZ T w0] (htok : TyOk P T) {ns : List Nat} (hns : ∀ p ∈ w0.anc, p.1 ∈ ns) {W : Nat → List (List Nat)} {b : Code} {K : Exit → List V → Hp → Prop} {tm : List V} {hp : Hp} {α : Type} (n : Nat) (sl : α → List (Nat × V)) (hs : α → Hp) (I : α → Prop) (μ : α → Nat) (a0 : α) (ρ0 : List (Nat × Nat)) (h0 : I a0) (hst : Fits ns n ρ0 (sl a0) (hs a0) tm hp) (hok : codeOk W b = true)
    (hstep : ∀ a, I a → ∀ L : List V → Hp → Prop, (∀ a' ρ tm hp, I a' → μ a' < μ a → Fits ns n ρ (sl a') (hs a') tm hp → L tm hp) → vc (real P T w0) T W b (fun e tm hp => match e with | .normal => L tm hp | e => K e tm hp) (mkS n (sl a)) (hs a)) :
    Sat P T w0 (.loop b) K tm hp := by
  intro φ S a w hi
  have key : ∀ (m : Nat) (a1 : α) (φ1 : Nat → Option Loc) (S1 : Nat → Prop) (act : Act) (w1 : World), μ a1 < m → I a1 → SLe w0.Z S S1 → Inv T w0 φ1 S1 (mkS n (sl a1)) (hs a1) act w1 → Code.roundsIn (Fc w0.rd) 0 P b (Post T w0 S K) m act w1 := by
    intro m
    induction m with
    | zero => intro a1 _ _ _ _ h; omega
    | succ m ih =>
      intro a1 φ1 S1 act w1 hm hI hS hinv
      rw [roundsIn_succ]
      have hvc := hstep a1 hI (fun tm hp => ∃ a' ρ, I a' ∧ μ a' < μ a1 ∧ Fits ns n ρ (sl a') (hs a') tm hp) (fun a' ρ tm hp h1 h2 h3 => ⟨a', ρ, h1, h2, h3⟩)
      refine wpIn_mono (vc_ok htok b hok hvc φ1 S1 act w1 hinv) (fun e act2 w2 hp => ?_)
      obtain ⟨φ2, S2, tm2, hp2, k1, k2, k3, k4⟩ := hp
      cases e with
      | normal =>
        obtain ⟨a', ρ, j1, j2, j3⟩ := k3
        have := k2.fit hns j3
        exact ih a' _ S2 act2 w2 (by omega) j1 (hS.trans k1) this
      | exit i => exact ⟨φ2, S2, tm2, hp2, hS.trans k1, k2, k3, k4⟩
      | ret => exact ⟨φ2, S2, tm2, hp2, hS.trans k1, k2, k3, k4⟩
      | _ => exact k4.elim
  have := hi.fit hns hst
  exact wpIn_loop_rounds _ (key _ a0 _ S a w (Nat.lt_succ_self _) h0 SLe.refl this)

/-- A slot that is nil is told as_ a row of nothing. -/
theorem Inv.born {tm : List V} {t n et : Nat} {e : TE} (h : Inv T w0 φ S tm hp a w) (ht : tm.getD t .dead = .nil) (hn : look hp n = none) (he : T.look et = some e) (hz : 0 < e.size) : ∃ φ', Inv T w0 φ' S (tm.set t (.row n)) ((n, .row et []) :: hp) a w := by
  have hφ : φ n = none := (h.heap.dom n).2 hn
  have hx := h.tms t
  rw [ht] at hx
  simp only [rel] at hx
  refine ⟨upd φ n .nilrow, h.since, by simp [h.size], fun u => ?_, h.dfr, ?_, fun p hp => upd_le hφ _ _ (h.anc p hp)⟩
  · rw [getD_set]
    split
    · rename_i hu
      rw [← hu.1, hx]
      simp only [rel]
      exact .inr ⟨upd_self, none, rfl⟩
    · exact rel_mono (upd_le hφ) (fun _ _ => rfl) (fun _ h => h) _ _ (h.tms u)
  · refine h.heap.cons (upd_le hφ) (fun k hk => upd_ne hk) (by rw [upd_self]; simp) (fun _ _ => rfl) (fun _ h => h) (fun k c l B hk hc hc2 hl hB => ⟨rfl, (h.heap.own k c l B hc hc2 hl hB).2.2⟩) (Nat.le_refl _) ?_ (fun _ l B hl hB => ?_) h.heap.old
    · exact ⟨by simp [wtL], e, he, hz, .inr ⟨upd_self, rfl⟩⟩
    · rw [upd_self] at hl; injection hl with hl; subst hl; cases hB

/-- The same of a slice in a box. -/
theorem Inv.bornC {tm : List V} {n0 j n et t0 : Nat} {cs : List V} {e : TE} (h : Inv T w0 φ S tm hp a w) (hc : look hp n0 = some (.cells t0 cs)) (hj : cs[j]? = some .nil) (hn : look hp n = none) (he : T.look et = some e) (hz : 0 < e.size) : ∃ φ', Inv T w0 φ' S tm ((n0, .cells t0 (cs.set j (.row n))) :: (n, .row et []) :: hp) a w := by
  have hφ : φ n = none := (h.heap.dom n).2 hn
  have hne : n0 ≠ n := fun e => by subst e; rw [hn] at hc; cases hc
  have h1 : HOk T (upd φ n .nilrow) w0.Z w S ((n, .row et []) :: hp) := by
    refine h.heap.cons (upd_le hφ) (fun k hk => upd_ne hk) (by rw [upd_self]; simp) (fun _ _ => rfl) (fun _ h => h) (fun k c l B hk hc hc2 hl hB => ⟨rfl, (h.heap.own k c l B hc hc2 hl hB).2.2⟩) (Nat.le_refl _) ?_ (fun _ l B hl hB => ?_) h.heap.old
    · exact ⟨by simp [wtL], e, he, hz, .inr ⟨upd_self, rfl⟩⟩
    · rw [upd_self] at hl; injection hl with hl; subst hl; cases hB
  have hl1 : look ((n, Blk.row et []) :: hp) n0 = some (.cells t0 cs) := by rw [look_cons, if_neg (fun e => hne e.symm)]; exact hc
  refine ⟨upd φ n .nilrow, h.since, h.size, fun u => rel_mono (upd_le hφ) (fun _ _ => rfl) (fun _ h => h) _ _ (h.tms u), h.dfr, ?_, fun p hp => upd_le hφ _ _ (h.anc p hp)⟩
  obtain ⟨B, arr, k1, k2, k3, k4⟩ := h1.blk _ _ hl1
  refine h1.cons (LocLe.refl _) (fun k hk => rfl) (by rw [k1]; simp) (fun _ _ => rfl) (fun _ h => h) (fun k c l B' hk hc hc2 hl hB => ⟨rfl, (h1.own k c l B' hc hc2 hl hB).2.2⟩) (Nat.le_refl _) ?_ (fun _ l B' hl hB => ?_) h1.old
  · refine ⟨B, arr, k1, k2, relL_iff.2 ⟨?_, fun i c x hi hx => ?_⟩, k4⟩
    · rw [List.length_set]; exact (relL_iff.1 k3).1
    · rw [List.getElem?_set] at hi
      split at hi
      · rename_i hij
        subst hij
        split at hi
        · injection hi with hi
          subst hi
          have := (relL_iff.1 k3).2 _ _ _ hj hx
          simp only [rel] at this ⊢
          exact .inr ⟨upd_self, none, this⟩
        · cases hi
      · exact (relL_iff.1 k3).2 _ _ _ hi hx
  · obtain ⟨o1, o2, o3⟩ := h1.own _ _ l B' hl1 rfl hl hB
    exact ⟨o1, o2, o3, fun m c k hm hc hc2 hk hB2 => hm (h1.inj _ _ _ _ k l B' hc hl1 hc2 rfl hk hl hB2 hB)⟩

theorem real_bornC {o : Ops} (ho : o = real P T w0) {b : Code} {K : Exit → List V → Hp → Prop} {tm : List V} {hp : Hp} {n0 j n et t0 : Nat} {cs : List V} {e : TE} (hc : look hp n0 = some (.cells t0 cs)) (hj : cs[j]? = some .nil) (hn : look hp n = none) (he : T.look et = some e) (hz : 0 < e.size) (h : o.loop b K tm ((n0, .cells t0 (cs.set j (.row n))) :: (n, .row et []) :: hp)) : o.loop b K tm hp := by
  subst ho
  intro φ S a w hi
  obtain ⟨φ', hi'⟩ := hi.bornC hc hj hn he hz
  exact h φ' S a w hi'

theorem real_born {o : Ops} (ho : o = real P T w0) {b : Code} {K : Exit → List V → Hp → Prop} {tm : List V} {hp : Hp} {t n et : Nat} {e : TE} (ht : tm.getD t .dead = .nil) (hn : look hp n = none) (he : T.look et = some e) (hz : 0 < e.size) (h : o.loop b K (tm.set t (.row n)) ((n, .row et []) :: hp)) : o.loop b K tm hp := by
  subst ho
  intro φ S a w hi
  obtain ⟨φ', hi'⟩ := hi.born ht hn he hz
  exact h φ' S a w hi'

theorem real_br {o : Ops} (ho : o = real P T w0) {c : Bool} {A B : Unit → Prop} (h1 : c = true → A ()) (h2 : c = false → B ()) : o.br c A B := by subst ho; exact ⟨h1, h2⟩
theorem real_need {o : Ops} (ho : o = real P T w0) {p q : Prop} (h1 : p) (h2 : q) : o.need p q := by subst ho; exact ⟨h1, h2⟩
theorem real_call {o : Ops} (ho : o = real P T w0) {f : Nat} {args : List V} {K : V → Hp → Prop} {v : V} {h : Hp} (h1 : Fn P T f args v h) (h2 : K v h) : o.call f args K := by subst ho; exact ⟨v, h, h1, h2⟩
theorem real_callb {o : Ops} (ho : o = real P T w0) {f : Nat} {args : List V} {hp : Hp} {K : V → Hp → Prop} {v : V} {E : Hp} (h1 : CallsB P T f args hp v E) (h2 : K v E) : o.callb f args hp K := by subst ho; exact ⟨v, E, h1, h2⟩
theorem real_loop_ok [GZ T w0] {o : Ops} (ho : o = real P T w0) (htok : TyOk P T) {ns : List Nat} (hns : ∀ p ∈ w0.anc, p.1 ∈ ns) {W : Nat → List (List Nat)} {b : Code} {K : Exit → List V → Hp → Prop} {tm : List V} {hp : Hp} {α : Type} (n : Nat) (sl : α → List (Nat × V)) (hs : α → Hp) (I : α → Prop) (μ : α → Nat) (a0 : α) (ρ0 : List (Nat × Nat)) (h0 : I a0) (hst : Fits ns n ρ0 (sl a0) (hs a0) tm hp) (hok : codeOk W b = true)
    (hstep : ∀ a, I a → ∀ L : List V → Hp → Prop, (∀ a' ρ tm hp, I a' → μ a' < μ a → Fits ns n ρ (sl a') (hs a') tm hp → L tm hp) → vc o T W b (fun e tm hp => match e with | .normal => L tm hp | e => K e tm hp) (mkS n (sl a)) (hs a)) :
    o.loop b K tm hp := by
  subst ho
  exact loop_ok htok hns n sl hs I μ a0 ρ0 h0 hst hok hstep
theorem real_nl {o : Ops} (ho : o = real P T w0) {es : List V} {A B : Unit → Prop} (h1 : es = [] → A ()) (h2 : B ()) : o.nl es A B := by subst ho; exact ⟨h1, h2⟩
theorem real_cut [GZ T w0] {o : Ops} (ho : o = real P T w0) (htok : TyOk P T) {W : Nat → List (List Nat)} {a b : Code} {K : Exit → List V → Hp → Prop} {tm : List V} {hp : Hp} (ha : codeOk W a = true) (hb : codeOk W b = true)
    (h : vc o T W a (fun e tm hp => match e with | .normal => vc o T W b K tm hp | e => K e tm hp) tm hp) : o.cut a b K tm hp := by
  subst ho
  intro φ S act w hi
  refine wpIn_seq (wpIn_mono (vc_ok htok a ha h φ S act w hi) (fun e a' w' hp => ?_))
  obtain ⟨φ', S', tm', hp', h1, h2, h3, h4⟩ := hp
  cases e with
  | normal => exact wpIn_mono (vc_ok htok b hb h3 φ' S' a' w' h2) (fun e a w hp => hp.weaken h1 (fun _ _ h => h))
  | exit i => exact ⟨φ', S', tm', hp', h1, h2, h3, h4⟩
  | ret => exact ⟨φ', S', tm', hp', h1, h2, h3, h4⟩
  | _ => exact h4.elim
theorem real_cutF [GZ T w0] {o : Ops} (ho : o = real P T w0) (htok : TyOk P T) {ns : List Nat} (hns : ∀ p ∈ w0.anc, p.1 ∈ ns) {W : Nat → List (List Nat)} {a b : Code} {K : Exit → List V → Hp → Prop} {tm : List V} {hp : Hp} (n : Nat) (sl : List (Nat × V)) (hs : Hp) (ha : codeOk W a = true) (hb : codeOk W b = true)
    (h : ∀ L : List V → Hp → Prop, (∀ ρ tm' hp', Fits ns n ρ sl hs tm' hp' → L tm' hp') → vc o T W a (fun e tm hp => match e with | .normal => L tm hp | e => K e tm hp) tm hp) (hk : vc o T W b K (mkS n sl) hs) : o.cut a b K tm hp := by
  subst ho
  intro φ S act w hi
  refine wpIn_seq (wpIn_mono (vc_ok htok a ha (h (fun tm' hp' => ∃ ρ, Fits ns n ρ sl hs tm' hp') (fun ρ tm' hp' hf => ⟨ρ, hf⟩)) φ S act w hi) (fun e a' w' hp => ?_))
  obtain ⟨φ', S', tm', hp', h1, h2, h3, h4⟩ := hp
  cases e with
  | normal =>
    obtain ⟨ρ, hf⟩ := h3
    exact wpIn_mono (vc_ok htok b hb hk _ S' a' w' (h2.fit hns hf)) (fun e a w hp => hp.weaken h1 (fun _ _ h => h))
  | exit i => exact ⟨φ', S', tm', hp', h1, h2, h3, h4⟩
  | ret => exact ⟨φ', S', tm', hp', h1, h2, h3, h4⟩
  | _ => exact h4.elim
end

/-- Lengths and bytes as_ Go's numbers (under names of their own: 'cbv' unfolds casts in what is known, too). -/
def lenI (es : List V) : Int := es.length
def slenI (s : ByteArray) : Int := s.size
def sbyteI (s : ByteArray) (i : Int) : Int := ((s[i.toNat]?).getD 0).toNat
/-- What the folded operations are. -/
structure Eqs (ar : BinOp → IntKind → Int → Int → Int) (un : UnOp → IntKind → Int → Int) (cv : IntKind → Int → Int) (mn : Int → Int → Int) (mx : Int → Int → Int) (pl : Int → Int → Int) (mi : Int → Int → Int) (cmp : BinOp → Int → Int → Bool) (nt : Bool → Bool) (beq : Bool → Bool → Bool) (an : Bool → Bool → Bool) (scmp : BinOp → ByteArray → ByteArray → Bool) (cat : ByteArray → ByteArray → ByteArray) (slen : ByteArray → Int) (sbyte : ByteArray → Int → Int) (ssub : ByteArray → Int → Int → ByteArray) (ofB : ByteArray → List V) (toB : List V → ByteArray) (len : List V → Int) (gi : List V → Int → Nat → Int) (gb : List V → Int → Nat → Bool) (gs : List V → Int → Nat → ByteArray) (gl : List V → Int → Nat → List V) (sub : List V → Int → Int → List V) (put : List V → Int → Nat → List V → List V) (app : List V → List V → List V) (ovl : List V → Int → List V → List V) (rep : Int → V → List V) (ne0 : Int → Prop) (ge0 : Int → Prop) (inb : Int → Int → Prop) (bnd : Int → Int → Int → Prop) (room : Int → Nat → Prop) (sroom : ByteArray → ByteArray → Prop) : Prop where
  har : ar = arReal
  hun : un = unReal
  hcv : ∀ k a, cv k a = k.wrap a
  hmn : ∀ a b, mn a b = if b < a then b else a
  hmx : ∀ a b, mx a b = if b > a then b else a
  hpl : ∀ a b, pl a b = a + b
  hmi : ∀ a b, mi a b = a - b
  hcmp : cmp = cmpLit
  hnt : ∀ b, nt b = !b
  hbeq : ∀ a b, beq a b = (a == b)
  han : ∀ a b, an a b = (a && b)
  hscmp : scmp = strCmp
  hcat : ∀ a b, cat a b = a ++ b
  hslen : ∀ s, slen s = slenI s
  hsbyte : ∀ s i, sbyte s i = sbyteI s i
  hssub : ∀ s l h, ssub s l h = s.extract l.toNat h.toNat
  hofB : ofB = strBytes
  htoB : ∀ es, toB es = ⟨(es.map fun e => UInt8.ofNat (Ab.asInt e).toNat).toArray⟩
  hlen : ∀ es, len es = lenI es
  hgi : ∀ es i j, gi es i j = Ab.asInt (elAt es i j)
  hgb : ∀ es i j, gb es i j = boolOf (elAt es i j)
  hgs : ∀ es i j, gs es i j = strOf (elAt es i j)
  hgl : ∀ es i j, gl es i j = listOf (elAt es i j)
  hsub : ∀ es l h, sub es l h = (es.take h.toNat).drop l.toNat
  hput : ∀ es i j cs, put es i j cs = es.set i.toNat (putCells (es.getD i.toNat .dead) j cs)
  happ : ∀ es xs, app es xs = es ++ xs
  hovl : ovl = ovlReal
  hrep : ∀ n v, rep n v = List.replicate n.toNat v
  hne0 : ∀ n, ne0 n = (n ≠ 0)
  hge0 : ∀ n, ge0 n = (0 ≤ n)
  hinb : ∀ i n, inb i n = (0 ≤ i ∧ i < n)
  hbnd : ∀ l h n, bnd l h n = (0 ≤ l ∧ l ≤ h ∧ h ≤ n)
  hroom : ∀ n b, room n b = (n ≤ 140737488355328 ∧ n.toNat * b ≤ 140737488355328)
  hsroom : ∀ a b, sroom a b = (a.size + b.size ≤ 9223372036854775807)

structure Rules (P : Program) (T : Tr) (W : Nat → List (List Nat)) (ns : List Nat) (ar : BinOp → IntKind → Int → Int → Int) (un : UnOp → IntKind → Int → Int) (cv : IntKind → Int → Int) (mn : Int → Int → Int) (mx : Int → Int → Int) (pl : Int → Int → Int) (mi : Int → Int → Int) (cmp : BinOp → Int → Int → Bool) (nt : Bool → Bool) (beq : Bool → Bool → Bool) (an : Bool → Bool → Bool) (scmp : BinOp → ByteArray → ByteArray → Bool) (cat : ByteArray → ByteArray → ByteArray) (slen : ByteArray → Int) (sbyte : ByteArray → Int → Int) (ssub : ByteArray → Int → Int → ByteArray) (ofB : ByteArray → List V) (toB : List V → ByteArray) (len : List V → Int) (gi : List V → Int → Nat → Int) (gb : List V → Int → Nat → Bool) (gs : List V → Int → Nat → ByteArray) (gl : List V → Int → Nat → List V) (sub : List V → Int → Int → List V) (put : List V → Int → Nat → List V → List V) (app : List V → List V → List V) (ovl : List V → Int → List V → List V) (rep : Int → V → List V) (ne0 : Int → Prop) (ge0 : Int → Prop) (inb : Int → Int → Prop) (bnd : Int → Int → Int → Prop) (room : Int → Nat → Prop) (sroom : ByteArray → ByteArray → Prop) (need : Prop → Prop → Prop) (br : Bool → (Unit → Prop) → (Unit → Prop) → Prop) (call : Nat → List V → (V → Hp → Prop) → Prop) (callb : Nat → List V → Hp → (V → Hp → Prop) → Prop) (loop : Code → (Exit → List V → Hp → Prop) → List V → Hp → Prop) (cut : Code → Code → (Exit → List V → Hp → Prop) → List V → Hp → Prop) (nl : List V → (Unit → Prop) → (Unit → Prop) → Prop) : Prop where
  need' : ∀ {p q : Prop}, p → q → need p q
  br' : ∀ {c : Bool} {A B : Unit → Prop}, (c = true → A ()) → (c = false → B ()) → br c A B
  call' : ∀ {f : Nat} {args args' : List V} {K : V → Hp → Prop} {v : V} {h : Hp}, Ab.Fn P T f args' v h → args = args' → K v h → call f args K
  callb' : ∀ {f : Nat} {args : List V} {hp : Hp} {K : V → Hp → Prop} {v : V} {E : Hp}, CallsB P T f args hp v E → K v E → callb f args hp K
  born' : ∀ {b : Code} {K : Exit → List V → Hp → Prop} {tm : List V} {hp : Hp} (t n et : Nat) {e : TE}, tm.getD t .dead = .nil → look hp n = none → T.look et = some e → 0 < e.size → loop b K (tm.set t (.row n)) ((n, .row et []) :: hp) → loop b K tm hp
  bornC' : ∀ {b : Code} {K : Exit → List V → Hp → Prop} {tm : List V} {hp : Hp} (n0 j n et : Nat) {t0 : Nat} {cs : List V} {e : TE}, look hp n0 = some (.cells t0 cs) → cs[j]? = some .nil → look hp n = none → T.look et = some e → 0 < e.size → loop b K tm ((n0, .cells t0 (cs.set j (.row n))) :: (n, .row et []) :: hp) → loop b K tm hp
  nl' : ∀ {es : List V} {A B : Unit → Prop}, (es = [] → A ()) → B () → nl es A B
  cut' : ∀ {a b : Code} {K : Exit → List V → Hp → Prop} {tm : List V} {hp : Hp}, codeOk W a = true → codeOk W b = true → vc ⟨ar, un, cv, mn, mx, pl, mi, cmp, nt, beq, an, scmp, cat, slen, sbyte, ssub, ofB, toB, len, gi, gb, gs, gl, sub, put, app, ovl, rep, ne0, ge0, inb, bnd, room, sroom, need, br, call, callb, loop, cut, nl⟩ T W a (fun e tm hp => match e with | .normal => vc ⟨ar, un, cv, mn, mx, pl, mi, cmp, nt, beq, an, scmp, cat, slen, sbyte, ssub, ofB, toB, len, gi, gb, gs, gl, sub, put, app, ovl, rep, ne0, ge0, inb, bnd, room, sroom, need, br, call, callb, loop, cut, nl⟩ T W b K tm hp | e => K e tm hp) tm hp → cut a b K tm hp
  cutF : ∀ {a b : Code} {K : Exit → List V → Hp → Prop} {tm : List V} {hp : Hp} (n : Nat) (sl : List (Nat × V)) (hs : Hp), codeOk W a = true → codeOk W b = true →
    (∀ L : List V → Hp → Prop, (∀ ρ tm' hp', Fits ns n ρ sl hs tm' hp' → L tm' hp') → vc ⟨ar, un, cv, mn, mx, pl, mi, cmp, nt, beq, an, scmp, cat, slen, sbyte, ssub, ofB, toB, len, gi, gb, gs, gl, sub, put, app, ovl, rep, ne0, ge0, inb, bnd, room, sroom, need, br, call, callb, loop, cut, nl⟩ T W a (fun e tm hp => match e with | .normal => L tm hp | e => K e tm hp) tm hp) →
    vc ⟨ar, un, cv, mn, mx, pl, mi, cmp, nt, beq, an, scmp, cat, slen, sbyte, ssub, ofB, toB, len, gi, gb, gs, gl, sub, put, app, ovl, rep, ne0, ge0, inb, bnd, room, sroom, need, br, call, callb, loop, cut, nl⟩ T W b K (mkS n sl) hs → cut a b K tm hp
  loop' : ∀ {b : Code} {K : Exit → List V → Hp → Prop} {tm : List V} {hp : Hp} {α : Type} (n : Nat) (sl : α → List (Nat × V)) (hs : α → Hp) (I : α → Prop) (μ : α → Nat) (a0 : α) (ρ0 : List (Nat × Nat)), I a0 → Fits ns n ρ0 (sl a0) (hs a0) tm hp → codeOk W b = true →
    (∀ a, I a → ∀ L : List V → Hp → Prop, (∀ a' ρ tm hp, I a' → μ a' < μ a → Fits ns n ρ (sl a') (hs a') tm hp → L tm hp) → vc ⟨ar, un, cv, mn, mx, pl, mi, cmp, nt, beq, an, scmp, cat, slen, sbyte, ssub, ofB, toB, len, gi, gb, gs, gl, sub, put, app, ovl, rep, ne0, ge0, inb, bnd, room, sroom, need, br, call, callb, loop, cut, nl⟩ T W b (fun e tm hp => match e with | .normal => L tm hp | e => K e tm hp) (mkS n (sl a)) (hs a)) → loop b K tm hp

section
variable {P : Program} {T : Tr} {w0 : Base}
end
end Go.Ab
end
section
namespace Go.Proofs.YtjcabmhnekcbgaaDoor
open Go.Ab
set_option maxRecDepth 100000
def te1 : TE := ⟨.func #[] #[] false, 1, 8, .nilFunc, false⟩
def te2 : TE := ⟨.int .i64, 1, 8, .int .i64 0, false⟩
def te3 : TE := ⟨.int .i64, 1, 8, .int .i64 0, false⟩
def te4 : TE := ⟨.bool, 1, 1, .bool false, false⟩
def te5 : TE := ⟨.int .u8, 1, 1, .int .u8 0, false⟩
def te9 : TE := ⟨.string, 1, 16, .string .empty, false⟩
def te21 : TE := ⟨.int .i32, 1, 4, .int .i32 0, false⟩
def te22 : TE := ⟨.struct #[⟨"Size", 3, 0, false, "", "", 0⟩, ⟨"Signed", 4, 1, false, "", "", 8⟩], 2, 16, .agg #[.int .i64 0, .bool false], true⟩
def te23 : TE := ⟨.struct #[⟨"Size", 3, 0, false, "", "", 0⟩, ⟨"Signed", 4, 1, false, "", "", 8⟩], 2, 16, .agg #[.int .i64 0, .bool false], true⟩
def te24 : TE := ⟨.array 2 3, 2, 16, .agg #[.int .i64 0, .int .i64 0], true⟩
def te25 : TE := ⟨.func #[] #[4] false, 1, 8, .nilFunc, false⟩
def te26 : TE := ⟨.int .i64, 1, 8, .int .i64 0, false⟩
def te28 : TE := ⟨.func #[23] #[23, 26] false, 1, 8, .nilFunc, false⟩
def te30 : TE := ⟨.func #[3, 23, 2, 23, 2] #[23, 2, 26] false, 1, 8, .nilFunc, false⟩
def te31 : TE := ⟨.func #[] #[23] false, 1, 8, .nilFunc, false⟩
def te32 : TE := ⟨.func #[23, 2] #[2] false, 1, 8, .nilFunc, false⟩
def te33 : TE := ⟨.func #[23, 2, 24] #[4] false, 1, 8, .nilFunc, false⟩
def te34 : TE := ⟨.array 2 23, 4, 32, .agg #[.int .i64 0, .bool false, .int .i64 0, .bool false], true⟩
def te35 : TE := ⟨.array 2 2, 2, 16, .agg #[.int .i64 0, .int .i64 0], true⟩
def te36 : TE := ⟨.func #[3, 23, 2] #[23, 2, 26] false, 1, 8, .nilFunc, false⟩
def te37 : TE := ⟨.struct #[⟨"T", 23, 0, false, "", "", 0⟩, ⟨"V", 2, 2, false, "", "", 16⟩, ⟨"E", 26, 3, false, "", "", 24⟩], 4, 32, .agg #[.int .i64 0, .bool false, .int .i64 0, .int .i64 0], true⟩
def te38 : TE := ⟨.struct #[⟨"T", 23, 0, false, "", "", 0⟩, ⟨"V", 2, 2, false, "", "", 16⟩, ⟨"E", 26, 3, false, "", "", 24⟩], 4, 32, .agg #[.int .i64 0, .bool false, .int .i64 0, .int .i64 0], true⟩
def te39 : TE := ⟨.func #[3, 23, 2] #[38] false, 1, 8, .nilFunc, false⟩
def te40 : TE := ⟨.func #[3, 23, 2, 23, 2] #[38] false, 1, 8, .nilFunc, false⟩
def te41 : TE := ⟨.func #[3, 34, 35] #[4] false, 1, 8, .nilFunc, false⟩
def te42 : TE := ⟨.array 3 2, 3, 24, .agg #[.int .i64 0, .int .i64 0, .int .i64 0], true⟩
def te43 : TE := ⟨.func #[23] #[26] false, 1, 8, .nilFunc, false⟩
def te45 : TE := ⟨.func #[23, 2, 2] #[3, 26] false, 1, 8, .nilFunc, false⟩
def te46 : TE := ⟨.array 6 4, 6, 6, .agg #[.bool false, .bool false, .bool false, .bool false, .bool false, .bool false], true⟩
def te48 : TE := ⟨.func #[3, 23, 2, 2] #[23, 2] false, 1, 8, .nilFunc, false⟩
def te50 : TE := ⟨.func #[23] #[2, 2, 26] false, 1, 8, .nilFunc, false⟩
def te51 : TE := ⟨.func #[23, 42] #[4] false, 1, 8, .nilFunc, false⟩
def te52 : TE := ⟨.func #[23, 23] #[23, 26] false, 1, 8, .nilFunc, false⟩
def te54 : TE := ⟨.func #[23, 2] #[2, 26] false, 1, 8, .nilFunc, false⟩
def te55 : TE := ⟨.func #[23, 23, 2] #[2, 26] false, 1, 8, .nilFunc, false⟩
def te56 : TE := ⟨.func #[23, 23, 2] #[4] false, 1, 8, .nilFunc, false⟩
def te57 : TE := ⟨.func #[3, 4] #[23] false, 1, 8, .nilFunc, false⟩
def te59 : TE := ⟨.func #[23, 2] #[9, 26] false, 1, 8, .nilFunc, false⟩
def te60 : TE := ⟨.func #[23, 9] #[2, 26] false, 1, 8, .nilFunc, false⟩
def te61 : TE := ⟨.func #[23] #[23] false, 1, 8, .nilFunc, false⟩
def te62 : TE := ⟨.func #[23, 23] #[26] false, 1, 8, .nilFunc, false⟩
def te63 : TE := ⟨.func #[23, 23] #[23] false, 1, 8, .nilFunc, false⟩
def te64 : TE := ⟨.func #[23, 2, 2] #[2] false, 1, 8, .nilFunc, false⟩
def te65 : TE := ⟨.func #[23, 2, 2] #[2] false, 1, 8, .nilFunc, false⟩
def te67 : TE := ⟨.map 3 65, 1, 8, .map none, false⟩
def te68 : TE := ⟨.func #[] #[67] false, 1, 8, .nilFunc, false⟩
def te69 : TE := ⟨.func #[3] #[4] false, 1, 8, .nilFunc, false⟩
def te71 : TE := ⟨.map 3 69, 1, 8, .map none, false⟩
def te72 : TE := ⟨.func #[] #[71] false, 1, 8, .nilFunc, false⟩
def te73 : TE := ⟨.func #[4] #[2] false, 1, 8, .nilFunc, false⟩
def te74 : TE := ⟨.func #[23, 2, 2] #[3] false, 1, 8, .nilFunc, false⟩
def te75 : TE := ⟨.func #[3, 23, 2, 76] #[2] false, 1, 8, .nilFunc, false⟩
def te76 : TE := ⟨.int .u64, 1, 8, .int .u64 0, false⟩
def te77 : TE := ⟨.func #[23] #[3] false, 1, 8, .nilFunc, false⟩
def te78 : TE := ⟨.array 4 23, 8, 64, .agg #[.int .i64 0, .bool false, .int .i64 0, .bool false, .int .i64 0, .bool false, .int .i64 0, .bool false], true⟩
def te79 : TE := ⟨.func #[4] #[38] false, 1, 8, .nilFunc, false⟩
def te80 : TE := ⟨.func #[3, 23, 2, 2] #[2] false, 1, 8, .nilFunc, false⟩
def te81 : TE := ⟨.func #[3, 23, 2, 2] #[38] false, 1, 8, .nilFunc, false⟩
def te82 : TE := ⟨.func #[2] #[2] false, 1, 8, .nilFunc, false⟩
def te84 : TE := ⟨.map 23 82, 1, 8, .map none, false⟩
def te85 : TE := ⟨.func #[] #[84] false, 1, 8, .nilFunc, false⟩
def te86 : TE := ⟨.func #[23, 2] #[9] false, 1, 8, .nilFunc, false⟩
def te88 : TE := ⟨.func #[9, 9] #[9, 4] false, 1, 8, .nilFunc, false⟩
def te89 : TE := ⟨.int .u64, 1, 8, .int .u64 0, false⟩
def te91 : TE := ⟨.func #[9, 89] #[89, 4] false, 1, 8, .nilFunc, false⟩
def te92 : TE := ⟨.func #[23] #[4] false, 1, 8, .nilFunc, false⟩
def te93 : TE := ⟨.func #[9, 9] #[9] false, 1, 8, .nilFunc, false⟩
def te94 : TE := ⟨.func #[9, 9] #[4] false, 1, 8, .nilFunc, false⟩
def te95 : TE := ⟨.func #[109] #[26] true, 1, 8, .nilFunc, false⟩
def te97 : TE := ⟨.func #[23, 2, 2] #[2, 2] false, 1, 8, .nilFunc, false⟩
def te98 : TE := ⟨.func #[89, 89] #[3] false, 1, 8, .nilFunc, false⟩
def te99 : TE := ⟨.func #[2, 2] #[3] false, 1, 8, .nilFunc, false⟩
def te100 : TE := ⟨.int .i8, 1, 1, .int .i8 0, false⟩
def te101 : TE := ⟨.int .i16, 1, 2, .int .i16 0, false⟩
def te102 : TE := ⟨.int .u16, 1, 2, .int .u16 0, false⟩
def te103 : TE := ⟨.int .u32, 1, 4, .int .u32 0, false⟩
def te104 : TE := ⟨.func #[89] #[9] false, 1, 8, .nilFunc, false⟩
def te105 : TE := ⟨.func #[5] #[89] false, 1, 8, .nilFunc, false⟩
def te107 : TE := ⟨.func #[89, 89] #[89, 89] false, 1, 8, .nilFunc, false⟩
def te108 : TE := ⟨.func #[89, 89, 89] #[89, 89] false, 1, 8, .nilFunc, false⟩
def te109 : TE := ⟨.slice 26, 1, 24, .slice none 0 0, false⟩
def te110 : TE := ⟨.func #[89] #[4] false, 1, 8, .nilFunc, false⟩
def te111 : TE := ⟨.func #[2] #[4] false, 1, 8, .nilFunc, false⟩
def te114 : TE := ⟨.func #[89] #[3] false, 1, 8, .nilFunc, false⟩
def te115 : TE := ⟨.pointer 132, 1, 8, .pointer none, false⟩
def te116 : TE := ⟨.func #[] #[9] false, 1, 8, .nilFunc, false⟩
def te117 : TE := ⟨.struct #[⟨"_interface", 17, 0, false, "", "runtime", 0⟩, ⟨"concrete", 17, 1, false, "", "runtime", 8⟩, ⟨"asserted", 17, 2, false, "", "runtime", 16⟩, ⟨"missingMethod", 9, 3, false, "", "runtime", 24⟩], 4, 40, .agg #[.pointer none, .pointer none, .pointer none, .string .empty], false⟩
def te118 : TE := ⟨.struct #[⟨"_interface", 17, 0, false, "", "runtime", 0⟩, ⟨"concrete", 17, 1, false, "", "runtime", 8⟩, ⟨"asserted", 17, 2, false, "", "runtime", 16⟩, ⟨"missingMethod", 9, 3, false, "", "runtime", 24⟩], 4, 40, .agg #[.pointer none, .pointer none, .pointer none, .string .empty], false⟩
def te119 : TE := ⟨.array 0 16, 0, 0, .agg #[], true⟩
def te120 : TE := ⟨.struct #[⟨"_", 119, 0, false, "", "runtime", 0⟩], 0, 0, .agg #[], false⟩
def te121 : TE := ⟨.struct #[⟨"_", 119, 0, false, "", "runtime", 0⟩], 0, 0, .agg #[], false⟩
def te122 : TE := ⟨.func #[] #[3] false, 1, 8, .nilFunc, false⟩
def te123 : TE := ⟨.int .u8, 1, 1, .int .u8 0, false⟩
def te124 : TE := ⟨.int .u8, 1, 1, .int .u8 0, false⟩
def te125 : TE := ⟨.func #[133, 133] #[4] false, 1, 8, .nilFunc, false⟩
def te126 : TE := ⟨.pointer 5, 1, 8, .pointer none, false⟩
def te127 : TE := ⟨.int .i32, 1, 4, .int .i32 0, false⟩
def te128 : TE := ⟨.int .i32, 1, 4, .int .i32 0, false⟩
def te129 : TE := ⟨.struct #[⟨"Size_", 12, 0, false, "", "", 0⟩, ⟨"PtrBytes", 12, 1, false, "", "", 8⟩, ⟨"Hash", 103, 2, false, "", "", 16⟩, ⟨"TFlag", 123, 3, false, "", "", 20⟩, ⟨"Align_", 5, 4, false, "", "", 21⟩, ⟨"FieldAlign_", 5, 5, false, "", "", 22⟩, ⟨"Kind_", 124, 6, false, "", "", 23⟩, ⟨"Equal", 125, 7, false, "", "", 24⟩, ⟨"GCData", 126, 8, false, "", "", 32⟩, ⟨"Str", 127, 9, false, "", "", 40⟩, ⟨"PtrToThis", 128, 10, false, "", "", 44⟩], 11, 48, .agg #[.int .u64 0, .int .u64 0, .int .u32 0, .int .u8 0, .int .u8 0, .int .u8 0, .int .u8 0, .nilFunc, .pointer none, .int .i32 0, .int .i32 0], false⟩
def te130 : TE := ⟨.struct #[⟨"Size_", 12, 0, false, "", "", 0⟩, ⟨"PtrBytes", 12, 1, false, "", "", 8⟩, ⟨"Hash", 103, 2, false, "", "", 16⟩, ⟨"TFlag", 123, 3, false, "", "", 20⟩, ⟨"Align_", 5, 4, false, "", "", 21⟩, ⟨"FieldAlign_", 5, 5, false, "", "", 22⟩, ⟨"Kind_", 124, 6, false, "", "", 23⟩, ⟨"Equal", 125, 7, false, "", "", 24⟩, ⟨"GCData", 126, 8, false, "", "", 32⟩, ⟨"Str", 127, 9, false, "", "", 40⟩, ⟨"PtrToThis", 128, 10, false, "", "", 44⟩], 11, 48, .agg #[.int .u64 0, .int .u64 0, .int .u32 0, .int .u8 0, .int .u8 0, .int .u8 0, .int .u8 0, .nilFunc, .pointer none, .int .i32 0, .int .i32 0], false⟩
def te131 : TE := ⟨.struct #[⟨"s", 9, 0, false, "", "errors", 0⟩], 1, 16, .agg #[.string .empty], true⟩
def te132 : TE := ⟨.struct #[⟨"s", 9, 0, false, "", "errors", 0⟩], 1, 16, .agg #[.string .empty], true⟩
def TT : Tr := .gl [(0, [.int .i64 4, .bool true, .int .i64 4, .bool false, .int .i64 8, .bool true, .int .i64 8, .bool false])] (.node 75 te75 (.node 42 te42 (.node 28 te28 (.node 21 te21 (.node 4 te4 (.node 2 te2 (.node 1 te1 .nil .nil) (.node 3 te3 .nil .nil)) (.node 9 te9 (.node 5 te5 .nil .nil) .nil)) (.node 24 te24 (.node 23 te23 (.node 22 te22 .nil .nil) .nil) (.node 26 te26 (.node 25 te25 .nil .nil) .nil))) (.node 36 te36 (.node 33 te33 (.node 31 te31 (.node 30 te30 .nil .nil) (.node 32 te32 .nil .nil)) (.node 35 te35 (.node 34 te34 .nil .nil) .nil)) (.node 39 te39 (.node 38 te38 (.node 37 te37 .nil .nil) .nil) (.node 41 te41 (.node 40 te40 .nil .nil) .nil)))) (.node 60 te60 (.node 52 te52 (.node 48 te48 (.node 45 te45 (.node 43 te43 .nil .nil) (.node 46 te46 .nil .nil)) (.node 51 te51 (.node 50 te50 .nil .nil) .nil)) (.node 56 te56 (.node 55 te55 (.node 54 te54 .nil .nil) .nil) (.node 59 te59 (.node 57 te57 .nil .nil) .nil))) (.node 68 te68 (.node 64 te64 (.node 62 te62 (.node 61 te61 .nil .nil) (.node 63 te63 .nil .nil)) (.node 67 te67 (.node 65 te65 .nil .nil) .nil)) (.node 72 te72 (.node 71 te71 (.node 69 te69 .nil .nil) .nil) (.node 74 te74 (.node 73 te73 .nil .nil) .nil))))) (.node 105 te105 (.node 91 te91 (.node 82 te82 (.node 79 te79 (.node 77 te77 (.node 76 te76 .nil .nil) (.node 78 te78 .nil .nil)) (.node 81 te81 (.node 80 te80 .nil .nil) .nil)) (.node 86 te86 (.node 85 te85 (.node 84 te84 .nil .nil) .nil) (.node 89 te89 (.node 88 te88 .nil .nil) .nil))) (.node 99 te99 (.node 95 te95 (.node 93 te93 (.node 92 te92 .nil .nil) (.node 94 te94 .nil .nil)) (.node 98 te98 (.node 97 te97 .nil .nil) .nil)) (.node 102 te102 (.node 101 te101 (.node 100 te100 .nil .nil) .nil) (.node 104 te104 (.node 103 te103 .nil .nil) .nil)))) (.node 121 te121 (.node 115 te115 (.node 110 te110 (.node 108 te108 (.node 107 te107 .nil .nil) (.node 109 te109 .nil .nil)) (.node 114 te114 (.node 111 te111 .nil .nil) .nil)) (.node 118 te118 (.node 117 te117 (.node 116 te116 .nil .nil) .nil) (.node 120 te120 (.node 119 te119 .nil .nil) .nil))) (.node 127 te127 (.node 124 te124 (.node 123 te123 (.node 122 te122 .nil .nil) .nil) (.node 126 te126 (.node 125 te125 .nil .nil) .nil)) (.node 130 te130 (.node 129 te129 (.node 128 te128 .nil .nil) .nil) (.node 132 te132 (.node 131 te131 .nil .nil) .nil))))))
theorem tk1 : TOk Tryd.prog 1 te1 := ⟨by kernel_rfl, TOk.info_of (by kernel_rfl), fun h => by cases h⟩
theorem tk2 : TOk Tryd.prog 2 te2 := ⟨by kernel_rfl, TOk.info_of (by kernel_rfl), fun h => by cases h⟩
theorem tk3 : TOk Tryd.prog 3 te3 := ⟨by kernel_rfl, TOk.info_of (by kernel_rfl), fun h => by cases h⟩
theorem tk4 : TOk Tryd.prog 4 te4 := ⟨by kernel_rfl, TOk.info_of (by kernel_rfl), fun h => by cases h⟩
theorem tk5 : TOk Tryd.prog 5 te5 := ⟨by kernel_rfl, TOk.info_of (by kernel_rfl), fun h => by cases h⟩
theorem tk9 : TOk Tryd.prog 9 te9 := ⟨by kernel_rfl, TOk.info_of (by kernel_rfl), fun h => by cases h⟩
theorem tk21 : TOk Tryd.prog 21 te21 := ⟨by kernel_rfl, TOk.info_of (by kernel_rfl), fun h => by cases h⟩
theorem tk22 : TOk Tryd.prog 22 te22 := ⟨by kernel_rfl, TOk.info_of (by kernel_rfl), fun _ => ⟨by kernel_rfl, by kernel_rfl⟩⟩
theorem tk23 : TOk Tryd.prog 23 te23 := ⟨by kernel_rfl, TOk.info_of (by kernel_rfl), fun _ => ⟨by kernel_rfl, by kernel_rfl⟩⟩
theorem tk24 : TOk Tryd.prog 24 te24 := ⟨by kernel_rfl, TOk.info_of (by kernel_rfl), fun _ => ⟨by kernel_rfl, by kernel_rfl⟩⟩
theorem tk25 : TOk Tryd.prog 25 te25 := ⟨by kernel_rfl, TOk.info_of (by kernel_rfl), fun h => by cases h⟩
theorem tk26 : TOk Tryd.prog 26 te26 := ⟨by kernel_rfl, TOk.info_of (by kernel_rfl), fun h => by cases h⟩
theorem tk28 : TOk Tryd.prog 28 te28 := ⟨by kernel_rfl, TOk.info_of (by kernel_rfl), fun h => by cases h⟩
theorem tk30 : TOk Tryd.prog 30 te30 := ⟨by kernel_rfl, TOk.info_of (by kernel_rfl), fun h => by cases h⟩
theorem tk31 : TOk Tryd.prog 31 te31 := ⟨by kernel_rfl, TOk.info_of (by kernel_rfl), fun h => by cases h⟩
theorem tk32 : TOk Tryd.prog 32 te32 := ⟨by kernel_rfl, TOk.info_of (by kernel_rfl), fun h => by cases h⟩
theorem tk33 : TOk Tryd.prog 33 te33 := ⟨by kernel_rfl, TOk.info_of (by kernel_rfl), fun h => by cases h⟩
theorem tk34 : TOk Tryd.prog 34 te34 := ⟨by kernel_rfl, TOk.info_of (by kernel_rfl), fun _ => ⟨by kernel_rfl, by kernel_rfl⟩⟩
theorem tk35 : TOk Tryd.prog 35 te35 := ⟨by kernel_rfl, TOk.info_of (by kernel_rfl), fun _ => ⟨by kernel_rfl, by kernel_rfl⟩⟩
theorem tk36 : TOk Tryd.prog 36 te36 := ⟨by kernel_rfl, TOk.info_of (by kernel_rfl), fun h => by cases h⟩
theorem tk37 : TOk Tryd.prog 37 te37 := ⟨by kernel_rfl, TOk.info_of (by kernel_rfl), fun _ => ⟨by kernel_rfl, by kernel_rfl⟩⟩
theorem tk38 : TOk Tryd.prog 38 te38 := ⟨by kernel_rfl, TOk.info_of (by kernel_rfl), fun _ => ⟨by kernel_rfl, by kernel_rfl⟩⟩
theorem tk39 : TOk Tryd.prog 39 te39 := ⟨by kernel_rfl, TOk.info_of (by kernel_rfl), fun h => by cases h⟩
theorem tk40 : TOk Tryd.prog 40 te40 := ⟨by kernel_rfl, TOk.info_of (by kernel_rfl), fun h => by cases h⟩
theorem tk41 : TOk Tryd.prog 41 te41 := ⟨by kernel_rfl, TOk.info_of (by kernel_rfl), fun h => by cases h⟩
theorem tk42 : TOk Tryd.prog 42 te42 := ⟨by kernel_rfl, TOk.info_of (by kernel_rfl), fun _ => ⟨by kernel_rfl, by kernel_rfl⟩⟩
theorem tk43 : TOk Tryd.prog 43 te43 := ⟨by kernel_rfl, TOk.info_of (by kernel_rfl), fun h => by cases h⟩
theorem tk45 : TOk Tryd.prog 45 te45 := ⟨by kernel_rfl, TOk.info_of (by kernel_rfl), fun h => by cases h⟩
theorem tk46 : TOk Tryd.prog 46 te46 := ⟨by kernel_rfl, TOk.info_of (by kernel_rfl), fun _ => ⟨by kernel_rfl, by kernel_rfl⟩⟩
theorem tk48 : TOk Tryd.prog 48 te48 := ⟨by kernel_rfl, TOk.info_of (by kernel_rfl), fun h => by cases h⟩
theorem tk50 : TOk Tryd.prog 50 te50 := ⟨by kernel_rfl, TOk.info_of (by kernel_rfl), fun h => by cases h⟩
theorem tk51 : TOk Tryd.prog 51 te51 := ⟨by kernel_rfl, TOk.info_of (by kernel_rfl), fun h => by cases h⟩
theorem tk52 : TOk Tryd.prog 52 te52 := ⟨by kernel_rfl, TOk.info_of (by kernel_rfl), fun h => by cases h⟩
theorem tk54 : TOk Tryd.prog 54 te54 := ⟨by kernel_rfl, TOk.info_of (by kernel_rfl), fun h => by cases h⟩
theorem tk55 : TOk Tryd.prog 55 te55 := ⟨by kernel_rfl, TOk.info_of (by kernel_rfl), fun h => by cases h⟩
theorem tk56 : TOk Tryd.prog 56 te56 := ⟨by kernel_rfl, TOk.info_of (by kernel_rfl), fun h => by cases h⟩
theorem tk57 : TOk Tryd.prog 57 te57 := ⟨by kernel_rfl, TOk.info_of (by kernel_rfl), fun h => by cases h⟩
theorem tk59 : TOk Tryd.prog 59 te59 := ⟨by kernel_rfl, TOk.info_of (by kernel_rfl), fun h => by cases h⟩
theorem tk60 : TOk Tryd.prog 60 te60 := ⟨by kernel_rfl, TOk.info_of (by kernel_rfl), fun h => by cases h⟩
theorem tk61 : TOk Tryd.prog 61 te61 := ⟨by kernel_rfl, TOk.info_of (by kernel_rfl), fun h => by cases h⟩
theorem tk62 : TOk Tryd.prog 62 te62 := ⟨by kernel_rfl, TOk.info_of (by kernel_rfl), fun h => by cases h⟩
theorem tk63 : TOk Tryd.prog 63 te63 := ⟨by kernel_rfl, TOk.info_of (by kernel_rfl), fun h => by cases h⟩
theorem tk64 : TOk Tryd.prog 64 te64 := ⟨by kernel_rfl, TOk.info_of (by kernel_rfl), fun h => by cases h⟩
theorem tk65 : TOk Tryd.prog 65 te65 := ⟨by kernel_rfl, TOk.info_of (by kernel_rfl), fun h => by cases h⟩
theorem tk67 : TOk Tryd.prog 67 te67 := ⟨by kernel_rfl, TOk.info_of (by kernel_rfl), fun h => by cases h⟩
theorem tk68 : TOk Tryd.prog 68 te68 := ⟨by kernel_rfl, TOk.info_of (by kernel_rfl), fun h => by cases h⟩
theorem tk69 : TOk Tryd.prog 69 te69 := ⟨by kernel_rfl, TOk.info_of (by kernel_rfl), fun h => by cases h⟩
theorem tk71 : TOk Tryd.prog 71 te71 := ⟨by kernel_rfl, TOk.info_of (by kernel_rfl), fun h => by cases h⟩
theorem tk72 : TOk Tryd.prog 72 te72 := ⟨by kernel_rfl, TOk.info_of (by kernel_rfl), fun h => by cases h⟩
theorem tk73 : TOk Tryd.prog 73 te73 := ⟨by kernel_rfl, TOk.info_of (by kernel_rfl), fun h => by cases h⟩
theorem tk74 : TOk Tryd.prog 74 te74 := ⟨by kernel_rfl, TOk.info_of (by kernel_rfl), fun h => by cases h⟩
theorem tk75 : TOk Tryd.prog 75 te75 := ⟨by kernel_rfl, TOk.info_of (by kernel_rfl), fun h => by cases h⟩
theorem tk76 : TOk Tryd.prog 76 te76 := ⟨by kernel_rfl, TOk.info_of (by kernel_rfl), fun h => by cases h⟩
theorem tk77 : TOk Tryd.prog 77 te77 := ⟨by kernel_rfl, TOk.info_of (by kernel_rfl), fun h => by cases h⟩
theorem tk78 : TOk Tryd.prog 78 te78 := ⟨by kernel_rfl, TOk.info_of (by kernel_rfl), fun _ => ⟨by kernel_rfl, by kernel_rfl⟩⟩
theorem tk79 : TOk Tryd.prog 79 te79 := ⟨by kernel_rfl, TOk.info_of (by kernel_rfl), fun h => by cases h⟩
theorem tk80 : TOk Tryd.prog 80 te80 := ⟨by kernel_rfl, TOk.info_of (by kernel_rfl), fun h => by cases h⟩
theorem tk81 : TOk Tryd.prog 81 te81 := ⟨by kernel_rfl, TOk.info_of (by kernel_rfl), fun h => by cases h⟩
theorem tk82 : TOk Tryd.prog 82 te82 := ⟨by kernel_rfl, TOk.info_of (by kernel_rfl), fun h => by cases h⟩
theorem tk84 : TOk Tryd.prog 84 te84 := ⟨by kernel_rfl, TOk.info_of (by kernel_rfl), fun h => by cases h⟩
theorem tk85 : TOk Tryd.prog 85 te85 := ⟨by kernel_rfl, TOk.info_of (by kernel_rfl), fun h => by cases h⟩
theorem tk86 : TOk Tryd.prog 86 te86 := ⟨by kernel_rfl, TOk.info_of (by kernel_rfl), fun h => by cases h⟩
theorem tk88 : TOk Tryd.prog 88 te88 := ⟨by kernel_rfl, TOk.info_of (by kernel_rfl), fun h => by cases h⟩
theorem tk89 : TOk Tryd.prog 89 te89 := ⟨by kernel_rfl, TOk.info_of (by kernel_rfl), fun h => by cases h⟩
theorem tk91 : TOk Tryd.prog 91 te91 := ⟨by kernel_rfl, TOk.info_of (by kernel_rfl), fun h => by cases h⟩
theorem tk92 : TOk Tryd.prog 92 te92 := ⟨by kernel_rfl, TOk.info_of (by kernel_rfl), fun h => by cases h⟩
theorem tk93 : TOk Tryd.prog 93 te93 := ⟨by kernel_rfl, TOk.info_of (by kernel_rfl), fun h => by cases h⟩
theorem tk94 : TOk Tryd.prog 94 te94 := ⟨by kernel_rfl, TOk.info_of (by kernel_rfl), fun h => by cases h⟩
theorem tk95 : TOk Tryd.prog 95 te95 := ⟨by kernel_rfl, TOk.info_of (by kernel_rfl), fun h => by cases h⟩
theorem tk97 : TOk Tryd.prog 97 te97 := ⟨by kernel_rfl, TOk.info_of (by kernel_rfl), fun h => by cases h⟩
theorem tk98 : TOk Tryd.prog 98 te98 := ⟨by kernel_rfl, TOk.info_of (by kernel_rfl), fun h => by cases h⟩
theorem tk99 : TOk Tryd.prog 99 te99 := ⟨by kernel_rfl, TOk.info_of (by kernel_rfl), fun h => by cases h⟩
theorem tk100 : TOk Tryd.prog 100 te100 := ⟨by kernel_rfl, TOk.info_of (by kernel_rfl), fun h => by cases h⟩
theorem tk101 : TOk Tryd.prog 101 te101 := ⟨by kernel_rfl, TOk.info_of (by kernel_rfl), fun h => by cases h⟩
theorem tk102 : TOk Tryd.prog 102 te102 := ⟨by kernel_rfl, TOk.info_of (by kernel_rfl), fun h => by cases h⟩
theorem tk103 : TOk Tryd.prog 103 te103 := ⟨by kernel_rfl, TOk.info_of (by kernel_rfl), fun h => by cases h⟩
theorem tk104 : TOk Tryd.prog 104 te104 := ⟨by kernel_rfl, TOk.info_of (by kernel_rfl), fun h => by cases h⟩
theorem tk105 : TOk Tryd.prog 105 te105 := ⟨by kernel_rfl, TOk.info_of (by kernel_rfl), fun h => by cases h⟩
theorem tk107 : TOk Tryd.prog 107 te107 := ⟨by kernel_rfl, TOk.info_of (by kernel_rfl), fun h => by cases h⟩
theorem tk108 : TOk Tryd.prog 108 te108 := ⟨by kernel_rfl, TOk.info_of (by kernel_rfl), fun h => by cases h⟩
theorem tk109 : TOk Tryd.prog 109 te109 := ⟨by kernel_rfl, TOk.info_of (by kernel_rfl), fun h => by cases h⟩
theorem tk110 : TOk Tryd.prog 110 te110 := ⟨by kernel_rfl, TOk.info_of (by kernel_rfl), fun h => by cases h⟩
theorem tk111 : TOk Tryd.prog 111 te111 := ⟨by kernel_rfl, TOk.info_of (by kernel_rfl), fun h => by cases h⟩
theorem tk114 : TOk Tryd.prog 114 te114 := ⟨by kernel_rfl, TOk.info_of (by kernel_rfl), fun h => by cases h⟩
theorem tk115 : TOk Tryd.prog 115 te115 := ⟨by kernel_rfl, TOk.info_of (by kernel_rfl), fun h => by cases h⟩
theorem tk116 : TOk Tryd.prog 116 te116 := ⟨by kernel_rfl, TOk.info_of (by kernel_rfl), fun h => by cases h⟩
theorem tk117 : TOk Tryd.prog 117 te117 := ⟨by kernel_rfl, TOk.info_of (by kernel_rfl), fun h => by cases h⟩
theorem tk118 : TOk Tryd.prog 118 te118 := ⟨by kernel_rfl, TOk.info_of (by kernel_rfl), fun h => by cases h⟩
theorem tk119 : TOk Tryd.prog 119 te119 := ⟨by kernel_rfl, TOk.info_of (by kernel_rfl), fun _ => ⟨by kernel_rfl, by kernel_rfl⟩⟩
theorem tk120 : TOk Tryd.prog 120 te120 := ⟨by kernel_rfl, TOk.info_of (by kernel_rfl), fun h => by cases h⟩
theorem tk121 : TOk Tryd.prog 121 te121 := ⟨by kernel_rfl, TOk.info_of (by kernel_rfl), fun h => by cases h⟩
theorem tk122 : TOk Tryd.prog 122 te122 := ⟨by kernel_rfl, TOk.info_of (by kernel_rfl), fun h => by cases h⟩
theorem tk123 : TOk Tryd.prog 123 te123 := ⟨by kernel_rfl, TOk.info_of (by kernel_rfl), fun h => by cases h⟩
theorem tk124 : TOk Tryd.prog 124 te124 := ⟨by kernel_rfl, TOk.info_of (by kernel_rfl), fun h => by cases h⟩
theorem tk125 : TOk Tryd.prog 125 te125 := ⟨by kernel_rfl, TOk.info_of (by kernel_rfl), fun h => by cases h⟩
theorem tk126 : TOk Tryd.prog 126 te126 := ⟨by kernel_rfl, TOk.info_of (by kernel_rfl), fun h => by cases h⟩
theorem tk127 : TOk Tryd.prog 127 te127 := ⟨by kernel_rfl, TOk.info_of (by kernel_rfl), fun h => by cases h⟩
theorem tk128 : TOk Tryd.prog 128 te128 := ⟨by kernel_rfl, TOk.info_of (by kernel_rfl), fun h => by cases h⟩
theorem tk129 : TOk Tryd.prog 129 te129 := ⟨by kernel_rfl, TOk.info_of (by kernel_rfl), fun h => by cases h⟩
theorem tk130 : TOk Tryd.prog 130 te130 := ⟨by kernel_rfl, TOk.info_of (by kernel_rfl), fun h => by cases h⟩
theorem tk131 : TOk Tryd.prog 131 te131 := ⟨by kernel_rfl, TOk.info_of (by kernel_rfl), fun _ => ⟨by kernel_rfl, by kernel_rfl⟩⟩
theorem tk132 : TOk Tryd.prog 132 te132 := ⟨by kernel_rfl, TOk.info_of (by kernel_rfl), fun _ => ⟨by kernel_rfl, by kernel_rfl⟩⟩
theorem tok : TyOk Tryd.prog TT := TyOk.of_all ⟨tk75, ⟨tk42, ⟨tk28, ⟨tk21, ⟨tk4, ⟨tk2, ⟨tk1, trivial, trivial⟩, ⟨tk3, trivial, trivial⟩⟩, ⟨tk9, ⟨tk5, trivial, trivial⟩, trivial⟩⟩, ⟨tk24, ⟨tk23, ⟨tk22, trivial, trivial⟩, trivial⟩, ⟨tk26, ⟨tk25, trivial, trivial⟩, trivial⟩⟩⟩, ⟨tk36, ⟨tk33, ⟨tk31, ⟨tk30, trivial, trivial⟩, ⟨tk32, trivial, trivial⟩⟩, ⟨tk35, ⟨tk34, trivial, trivial⟩, trivial⟩⟩, ⟨tk39, ⟨tk38, ⟨tk37, trivial, trivial⟩, trivial⟩, ⟨tk41, ⟨tk40, trivial, trivial⟩, trivial⟩⟩⟩⟩, ⟨tk60, ⟨tk52, ⟨tk48, ⟨tk45, ⟨tk43, trivial, trivial⟩, ⟨tk46, trivial, trivial⟩⟩, ⟨tk51, ⟨tk50, trivial, trivial⟩, trivial⟩⟩, ⟨tk56, ⟨tk55, ⟨tk54, trivial, trivial⟩, trivial⟩, ⟨tk59, ⟨tk57, trivial, trivial⟩, trivial⟩⟩⟩, ⟨tk68, ⟨tk64, ⟨tk62, ⟨tk61, trivial, trivial⟩, ⟨tk63, trivial, trivial⟩⟩, ⟨tk67, ⟨tk65, trivial, trivial⟩, trivial⟩⟩, ⟨tk72, ⟨tk71, ⟨tk69, trivial, trivial⟩, trivial⟩, ⟨tk74, ⟨tk73, trivial, trivial⟩, trivial⟩⟩⟩⟩⟩, ⟨tk105, ⟨tk91, ⟨tk82, ⟨tk79, ⟨tk77, ⟨tk76, trivial, trivial⟩, ⟨tk78, trivial, trivial⟩⟩, ⟨tk81, ⟨tk80, trivial, trivial⟩, trivial⟩⟩, ⟨tk86, ⟨tk85, ⟨tk84, trivial, trivial⟩, trivial⟩, ⟨tk89, ⟨tk88, trivial, trivial⟩, trivial⟩⟩⟩, ⟨tk99, ⟨tk95, ⟨tk93, ⟨tk92, trivial, trivial⟩, ⟨tk94, trivial, trivial⟩⟩, ⟨tk98, ⟨tk97, trivial, trivial⟩, trivial⟩⟩, ⟨tk102, ⟨tk101, ⟨tk100, trivial, trivial⟩, trivial⟩, ⟨tk104, ⟨tk103, trivial, trivial⟩, trivial⟩⟩⟩⟩, ⟨tk121, ⟨tk115, ⟨tk110, ⟨tk108, ⟨tk107, trivial, trivial⟩, ⟨tk109, trivial, trivial⟩⟩, ⟨tk114, ⟨tk111, trivial, trivial⟩, trivial⟩⟩, ⟨tk118, ⟨tk117, ⟨tk116, trivial, trivial⟩, trivial⟩, ⟨tk120, ⟨tk119, trivial, trivial⟩, trivial⟩⟩⟩, ⟨tk127, ⟨tk124, ⟨tk123, ⟨tk122, trivial, trivial⟩, trivial⟩, ⟨tk126, ⟨tk125, trivial, trivial⟩, trivial⟩⟩, ⟨tk130, ⟨tk129, ⟨tk128, trivial, trivial⟩, trivial⟩, ⟨tk132, ⟨tk131, trivial, trivial⟩, trivial⟩⟩⟩⟩⟩⟩ (by kernel_rfl)
end Go.Proofs.YtjcabmhnekcbgaaDoor
end
section
namespace Go.Proofs.YtjcabmhnekcbgaaDoor
open Go.Ab Go.RowKit Go.ChangeShapes Go.WideShapes
set_option maxRecDepth 100000
theorem gProm : Tryd.prog.globalNamed "tapline/taplineref01.promoted" = some 0 := by kernel_rfl
theorem tProm : (Tryd.prog.globals[0]?).map (·.type) = some 78 := by kernel_rfl
section
variable {H : Type} {enc : TypeId × Value → H} {W : World}
/-- A type that reads as_ this one holds its two cells. -/
theorem int_cells {sp : Nat → Bool} {held : Bool} {n : Nat} {cs : List Value} {a : Int} {b : Bool} {p : List MemPlace} (h : DataW.trod enc Tryd.prog W 0 sp held n 23 cs = some (.agg [.lit (.int .i64 a), .lit (.bool b)], p)) : cs = [.int .i64 a, .bool b] := by
  obtain ⟨xs, m, rfl, hx, hl, hn, hel⟩ := DataW.trod_struct Tryd.underlying23 h
  have c23 : Tryd.prog.cellsOf 23 = 2 := by kernel_rfl
  have c3 : Tryd.prog.cellsOf 3 = 1 := by kernel_rfl
  have c4 : Tryd.prog.cellsOf 4 = 1 := by kernel_rfl
  rw [c23] at hl
  have h0 := hel 0 _ rfl
  have h1 := hel 1 _ rfl
  match xs, hn, hx, h0, h1 with
  | [x0, x1], _, hx, h0, h1 =>
    match cs, hl with
    | [c0, c1], _ =>
      simp only [Prod.mk.injEq, DataW.agg.injEq, List.map_cons, List.map_nil, List.cons.injEq] at hx
      obtain ⟨k, e1, e2, _⟩ := DataW.trod_int Tryd.underlying3 (show DataW.trod enc Tryd.prog W 0 sp held m 3 [c0] = some x0 from h0)
      obtain ⟨k2, e3, e4⟩ := DataW.trod_bool Tryd.underlying4 (show DataW.trod enc Tryd.prog W 0 sp held m 4 [c1] = some x1 from h1)
      rw [e2, e4] at hx
      simp at hx e1 e3
      obtain ⟨⟨rfl, rfl⟩, _⟩ := hx
      rw [e1, e3]
theorem int_cells' {sp : Nat → Bool} {held : Bool} {n : Nat} {cs : List Value} {a : Int} {b : Bool} {x : DataW H × List MemPlace} (h : DataW.trod enc Tryd.prog W 0 sp held n 23 cs = some x) (hx : DataW.agg [.lit (.int .i64 a), .lit (.bool b)] = x.1) : cs = [.int .i64 a, .bool b] := by
  obtain ⟨d, p⟩ := x
  subst hx
  exact int_cells h
end
theorem gok_of {W : World} (h : laidMetH Tryd.prog [("tapline/taplineref01.promoted", Rows.laid_tapline_taplineref01_promoted)] W) : GOk TT W := by
  rw [MakeChecks.laidMetH_plain _ _ _ (by kernel_rfl)] at h
  obtain ⟨ps, ⟨g0, t0, cs0, f0, p0, q0, hg0, ht0, hv0, hd0, _, _⟩, _, _⟩ := h
  obtain rfl := Option.some.inj (gProm.symm.trans hg0)
  obtain rfl := Option.some.inj (tProm.symm.trans ht0)
  obtain ⟨xs, m, rfl, hx, hl, hn, hel⟩ := DataW.trod_array Tryd.underlying78 hd0
  have c78 : Tryd.prog.cellsOf 78 = 8 := by kernel_rfl
  have c23 : Tryd.prog.cellsOf 23 = 2 := by kernel_rfl
  rw [c78] at hl
  rw [c23] at hel
  have e0 := hel 0 (by decide)
  have e1 := hel 1 (by decide)
  have e2 := hel 2 (by decide)
  have e3 := hel 3 (by decide)
  have key : cs0.toList = [.int .i64 4, .bool true, .int .i64 4, .bool false, .int .i64 8, .bool true, .int .i64 8, .bool false] := by
    generalize cs0.toList = l at *
    match xs, hn, hx, e0, e1, e2, e3 with
    | [x0, x1, x2, x3], _, hx, e0, e1, e2, e3 =>
      match l, hl with
      | [a0, a1, a2, a3, a4, a5, a6, a7], _ =>
        simp only [Rows.laid_tapline_taplineref01_promoted, Prod.mk.injEq, DataW.agg.injEq, List.map_cons, List.map_nil, List.cons.injEq] at hx
        obtain ⟨⟨q0, q1, q2, q3, _⟩, _⟩ := hx
        have r0 : [a0, a1] = _ := int_cells' e0 q0
        have r1 : [a2, a3] = _ := int_cells' e1 q1
        have r2 : [a4, a5] = _ := int_cells' e2 q2
        have r3 : [a6, a7] = _ := int_cells' e3 q3
        simp at r0 r1 r2 r3
        obtain ⟨rfl, rfl⟩ := r0
        obtain ⟨rfl, rfl⟩ := r1
        obtain ⟨rfl, rfl⟩ := r2
        obtain ⟨rfl, rfl⟩ := r3
        rfl
  intro g cs hgv
  have hgv' : g = 0 ∧ cs = [.int .i64 4, .bool true, .int .i64 4, .bool false, .int .i64 8, .bool true, .int .i64 8, .bool false] := by
    unfold TT at hgv
    simp only [Tr.gv, glook] at hgv
    cases hb : (g == 0) with
    | true =>
      rw [hb] at hgv
      injection hgv with hgv
      exact ⟨by simpa using hb, hgv.symm⟩
    | false =>
      rw [hb] at hgv
      cases hgv
  obtain ⟨rfl, rfl⟩ := hgv'
  rw [← key]
  refine ⟨?_, fun u hu => ?_⟩
  · unfold World.var? at hv0
    rw [gProm] at hv0
    simp only [Option.bind_some] at hv0
    split at hv0
    · rename_i c t f hh
      injection hv0 with hv0
      subst hv0
      exact ⟨t, f, by rw [Array.toArray_toList]; exact hh⟩
    · cases hv0
  · rw [key] at hu
    simp at hu
    rcases hu with rfl | rfl | rfl | rfl | rfl | rfl | rfl | rfl <;> rfl
end Go.Proofs.YtjcabmhnekcbgaaDoor
end
section
namespace Go.Ab
open Go.RowKit Go.ChangeShapes Go.WideShapes Go.ChangeAt Go.Deep

section
variable {H : Type} {enc : TypeId × Value → H} {P : Program} {T : Tr} {w : World}

abbrev oldS (w : World) : Nat → Prop := fun k => k < w.heap.size

/-- What a reading of type t brings: cells of the types tys, told by mk. -/
def OpV (T : Tr) (enc : TypeId × Value → H) (P : Program) (w : World) {α : Type} (t : TypeId) (tys : List Nat) (mk : α → List V) (ok : α → Prop) : Prop :=
  ∀ fuel cs x, DataW.trod enc P w 0 (fun _ => true) true fuel t cs = some x → ∃ a, relL T (fun _ => none) w (oldS w) (mk a) cs ∧ (∀ u ∈ cs, u.oneCell' = true) ∧ wtC T tys (mk a) ∧ ok a

theorem wtC_one {t : Nat} {v : V} (hA : isAggT T t = false) (h : wt T v t) : wtC T [t] [v] := by
  simp only [wtC]
  exact ⟨t, [], rfl, hA, h, rfl⟩

theorem wtC_append : ∀ {a b : List V} {s t : List Nat}, wtC T s a → wtC T t b → wtC T (s ++ t) (a ++ b)
  | [], b, s, t, h, k => by simp only [wtC] at h; subst h; exact k
  | v :: r, b, s, t, h, k => by
    simp only [wtC, List.cons_append] at h ⊢
    obtain ⟨u, us, rfl, h1, h2, h3⟩ := h
    exact ⟨u, us ++ t, rfl, h1, h2, wtC_append h3 k⟩

theorem OpV.int (htok : TyOk P T) {t : Nat} {e : TE} {k : IntKind} (he : T.look t = some e) (hd : e.desc = .int k) : OpV T enc P w t [t] (fun n : Int => [.i k n]) (fun n => (Lit.int k n).wf = true) := by
  intro fuel cs x h
  have hu := htok.und _ _ he
  rw [hd] at hu
  obtain ⟨n, rfl, _, hw⟩ := DataW.trod_int hu h
  refine ⟨n, ?_, fun u hu => by simp at hu; subst hu; rfl, wtC_one (by rw [aggT_of he, hd]; rfl) (by simp only [wt]; exact ⟨e, he, hd⟩), hw⟩
  simp only [relL]; exact ⟨_, [], rfl, rel_i _ _, rfl⟩
theorem OpV.bool (htok : TyOk P T) {t : Nat} {e : TE} (he : T.look t = some e) (hd : e.desc = .bool) : OpV T enc P w t [t] (fun n : Bool => [.b n]) (fun _ => True) := by
  intro fuel cs x h
  have hu := htok.und _ _ he
  rw [hd] at hu
  obtain ⟨n, rfl, _⟩ := DataW.trod_bool hu h
  refine ⟨n, ?_, fun u hu => by simp at hu; subst hu; rfl, wtC_one (by rw [aggT_of he, hd]; rfl) (by simp only [wt]; exact ⟨e, he, hd⟩), trivial⟩
  simp only [relL]; exact ⟨_, [], rfl, rel_b _, rfl⟩
theorem list_of_each {α : Type} (p : Nat → α → Prop) : ∀ n, (∀ i, i < n → ∃ y, p i y) → ∃ l : List α, l.length = n ∧ ∀ i y, l[i]? = some y → p i y
  | 0, _ => ⟨[], rfl, by simp⟩
  | n + 1, h => by
    obtain ⟨l, hl, hp⟩ := list_of_each p n (fun i hi => h i (by omega))
    obtain ⟨y, hy⟩ := h n (by omega)
    refine ⟨l ++ [y], by simp [hl], fun i z hz => ?_⟩
    rcases Nat.lt_or_ge i n with hi | hi
    · rw [List.getElem?_append_left (by omega)] at hz
      exact hp i z hz
    · rw [List.getElem?_append_right (by omega), hl] at hz
      have : i = n := by
        rcases Nat.lt_or_ge (i - n) 1 with h1 | h1
        · omega
        · rw [List.getElem?_eq_none (by simpa using h1)] at hz; cases hz
      subst this
      simp at hz
      exact hz ▸ hy

theorem OpV.slice (htok : TyOk P T) {α : Type} {t e : Nat} {te eu : TE} {tys : List Nat} {mk : α → List V} {ok : α → Prop} (el : α → V) (ht : T.look t = some te) (hd : te.desc = .slice e) (he : T.look e = some eu) (hpos : 0 < eu.size) (hsz : P.cellsOf e = eu.size)
    (hel : (isAggT T e = true ∧ cellTys T 8 e = tys ∧ ∀ b, el b = .agg (mk b)) ∨ (isAggT T e = false ∧ tys = [e] ∧ ∀ b, mk b = [el b])) (ho : OpV T enc P w e tys mk ok) :
    OpV T enc P w t [t] (fun l : List α => [.sl e (l.map el)]) (fun l => l.length ≤ maxLen ∧ ∀ x ∈ l, ok x) := by
  intro fuel cs x h
  have hu := htok.und _ _ ht
  rw [hd] at hu
  have hA : isAggT T t = false := by rw [aggT_of ht, hd]; rfl
  have fin : ∀ {A : Option Addr} {cap : Nat} (l : List α), l.length ≤ cap → l.length ≤ maxLen → (∀ y ∈ l, ok y) → (∀ y ∈ l, wt T (el y) e) → (l ≠ [] → ∃ ad, A = some ad ∧ ad.block < w.heap.size ∧ relE T (fun _ => none) w (oldS w) ad eu.size 0 (l.map el)) →
      ∃ a : List α, relL T (fun _ => none) w (oldS w) [.sl e (a.map el)] [.slice A l.length cap] ∧ (∀ u ∈ [Value.slice A l.length cap], u.oneCell' = true) ∧ wtC T [t] [.sl e (a.map el)] ∧ (a.length ≤ maxLen ∧ ∀ x ∈ a, ok x) := by
    intro A cap l h1 h2 h3 h4 h5
    have hwt : wtL T e (l.map el) := wtL_iff.2 (fun v hv => by
      obtain ⟨y, hy, rfl⟩ := List.mem_map.1 hv
      exact h4 y hy)
    refine ⟨l, ?_, fun u hu => by simp at hu; subst hu; rfl, wtC_one hA (by simp only [wt]; exact ⟨⟨te, ht, hd⟩, hwt⟩), h2, h3⟩
    simp only [relL, rel]
    refine ⟨_, [], rfl, ⟨A, cap, by simp, by simpa using h1, by simpa using h2, hwt, fun hne => ?_⟩, rfl⟩
    obtain ⟨ad, e1, e2, e3⟩ := h5 (fun hn => hne (by rw [hn]; rfl))
    exact ⟨ad, eu, e1, he, hpos, e2, e3⟩
  rcases open_slice hu h with ⟨rfl, rfl⟩ | ⟨a, len, cap, m, n, D, Pl, rfl, hb, hl, hm, hmm, rfl, hle⟩
  · exact fin [] (by simp) (by simp) (by simp) (by simp) (fun h => absurd rfl h)
  · simp only [if_true] at hmm
    subst hmm
    obtain ⟨l, hll, hp⟩ := list_of_each (fun i y => ok y ∧ wt T (el y) e ∧ ∃ z : Value, rel T (fun _ => none) w (oldS w) (el y) z ∧ z.cells.size = eu.size ∧ (∀ u ∈ z.cells.toList, u.oneCell' = true) ∧ ∀ j u, z.cells[j]? = some u → w.cell? (a.add (i * eu.size + j)) = some u) len (fun i hi => by
      obtain ⟨cs', hc, ht'⟩ := hle i (by omega)
      obtain ⟨y, hr, h1, hwt, hok⟩ := ho _ _ _ ht'
      obtain ⟨_, hlen, hcell⟩ := World.cells?_some hc
      have hat : ∀ j u, cs'[j]? = some u → w.cell? (a.add (i * eu.size + j)) = some u := fun j u hu => by
        have hj : j < cs'.length := by
          rcases Nat.lt_or_ge j cs'.length with h | h
          · exact h
          · rw [List.getElem?_eq_none h] at hu; cases hu
        rw [← hu, ← hcell j (by omega), ← hsz, Go.Addr.add_add]
      refine ⟨y, hok, ?_⟩
      rcases hel with ⟨g1, g2, g3⟩ | ⟨g1, g2, g3⟩
      · refine ⟨by rw [g3]; simp only [wt]; exact ⟨g1, by rw [g2]; exact hwt⟩, .agg cs'.toArray, by rw [g3]; simp only [rel]; exact ⟨_, rfl, hr, h1⟩, by simp [Value.cells, hlen, hsz], h1, fun j u hu => hat j u (by simpa [Value.cells] using hu)⟩
      · rw [g3, g2] at hwt
        rw [g3] at hr
        simp only [relL] at hr
        obtain ⟨z, zs, e1, e2, e3⟩ := hr
        subst e3; subst e1
        have hz1 := h1 z (by simp)
        have hwt' : wt T (el y) e := by
          simp only [wtC] at hwt
          obtain ⟨u, us, e1, _, e3, _⟩ := hwt
          injection e1 with e1 _
          subst e1
          exact e3
        refine ⟨hwt', z, e2, by rw [cells_one hz1]; simp at hlen; simp; omega, by rw [cells_one hz1]; simpa using hz1, fun j u hu => hat j u (by rw [cells_one hz1] at hu; simpa using hu)⟩)
    have := fin (A := some a) (cap := m) l (by omega) (by have : maxLen = 9223372036854775807 := by decide
                                                          omega) (fun x hx => by
      obtain ⟨i, hi, rfl⟩ := List.mem_iff_getElem.mp hx
      exact (hp i _ (List.getElem?_eq_getElem hi)).1) (fun x hx => by
      obtain ⟨i, hi, rfl⟩ := List.mem_iff_getElem.mp hx
      exact (hp i _ (List.getElem?_eq_getElem hi)).2.1) (fun hne => ⟨a, rfl, ?_, relE_iff.2 (fun k c hk => ?_)⟩)
    · rw [hll] at this; exact this
    · cases l with
      | nil => exact absurd rfl hne
      | cons y r =>
        obtain ⟨_, _, z, _, hz2, _, hz4⟩ := hp 0 y rfl
        have h0 : 0 < z.cells.size := by omega
        have := hz4 0 _ (Array.getElem?_eq_getElem h0)
        have hbl : (a.add (0 * eu.size + 0)).block = a.block := by unfold Addr.add; split <;> rfl
        unfold World.cell? at this
        rw [hbl] at this
        cases hh : w.heap[a.block]? with
        | some o => exact (Array.getElem?_eq_some_iff.1 hh).1
        | none => rw [hh] at this; simp at this
    · rw [List.getElem?_map, Option.map_eq_some_iff] at hk
      obtain ⟨y, hy, rfl⟩ := hk
      rw [Nat.zero_add]
      exact (hp k y hy).2.2

/-- The same of the fields from one on. -/
def OpAt (T : Tr) (enc : TypeId × Value → H) (P : Program) (w : World) {α : Type} (fs : List Field) (off : Nat) (tys : List Nat) (mk : α → List V) (ok : α → Prop) : Prop :=
  ∀ cs : List Value, (∀ f ∈ fs, ∃ fuel y, DataW.trod enc P w 0 (fun _ => true) true fuel f.type ((cs.drop f.offset).take (P.cellsOf f.type)) = some y) → cs.length = off + tys.length → ∃ a, relL T (fun _ => none) w (oldS w) (mk a) (cs.drop off) ∧ (∀ u ∈ cs.drop off, u.oneCell' = true) ∧ wtC T tys (mk a) ∧ ok a

theorem OpAt.last {α : Type} {f : Field} {off : Nat} {tys : List Nat} {mk : α → List V} {ok : α → Prop} (ho : f.offset = off) (hsz : P.cellsOf f.type = tys.length) (hd : OpV T enc P w f.type tys mk ok) : OpAt T enc P w [f] off tys mk ok := by
  intro cs h hl
  obtain ⟨fuel, y, hy⟩ := h f (by simp)
  rw [ho, hsz, List.take_of_length_le (by simp; omega)] at hy
  exact hd _ _ _ hy
theorem OpAt.cons {α β : Type} {f : Field} {fs : List Field} {off : Nat} {tys tys' : List Nat} {mk : α → List V} {mk' : β → List V} {ok : α → Prop} {ok' : β → Prop} (ho : f.offset = off) (hsz : P.cellsOf f.type = tys.length) (hd : OpV T enc P w f.type tys mk ok) (hr : OpAt T enc P w fs (off + tys.length) tys' mk' ok') :
    OpAt T enc P w (f :: fs) off (tys ++ tys') (fun x : α × β => mk x.1 ++ mk' x.2) (fun x => ok x.1 ∧ ok' x.2) := by
  intro cs h hl
  obtain ⟨fuel, y, hy⟩ := h f (by simp)
  rw [ho, hsz] at hy
  obtain ⟨a, a1, a2, a3, a4⟩ := hd _ _ _ hy
  obtain ⟨b, b1, b2, b3, b4⟩ := hr cs (fun g hg => h g (by simp [hg])) (by rw [hl, List.length_append]; omega)
  have e : (cs.drop off).take tys.length ++ cs.drop (off + tys.length) = cs.drop off := by rw [← List.drop_drop, List.take_append_drop]
  refine ⟨(a, b), ?_, ?_, wtC_append a3 b3, a4, b4⟩
  · rw [← e]; exact relL_app a1 b1
  · rw [← e]; intro u hu; rcases List.mem_append.1 hu with hu | hu
    · exact a2 u hu
    · exact b2 u hu
theorem OpV.struct (htok : TyOk P T) {α : Type} {t : Nat} {te : TE} {fs : Array Field} {tys : List Nat} {mk : α → List V} {ok : α → Prop} (ht : T.look t = some te) (hd : te.desc = .struct fs) (hsz : P.cellsOf t = tys.length) (h0 : OpAt T enc P w fs.toList 0 tys mk ok) : OpV T enc P w t tys mk ok := by
  intro fuel cs x h
  have hu := htok.und _ _ ht
  rw [hd] at hu
  obtain ⟨xs, n, rfl, rfl, hl, hxl, hf⟩ := DataW.trod_struct hu h
  obtain ⟨a, a1, a2, a3, a4⟩ := h0 cs (fun f hf' => by
    obtain ⟨i, hi, rfl⟩ := List.mem_iff_getElem.mp hf'
    have h1 := hf i fs.toList[i] (by simp at hi ⊢)
    have h2 : i < xs.length := by simp at hi; omega
    rw [List.getElem?_eq_getElem h2] at h1
    exact ⟨_, _, h1⟩) (by rw [hl, hsz, Nat.zero_add])
  exact ⟨a, a1, a2, a3, a4⟩

/-- A law: its function answers true. -/
theorem law_calls {f : Nat} {args : List V} {vals : List Value} (hb : Body P f) (h : Ab.Fn P T f args (.b true) []) (hG : GOk T w) (hr : relL T (fun _ => none) w (oldS w) args vals) : Calls P f vals.toArray w fun e w' => e = .returned (.bool true) ∧ Below w.heap.size w w' :=
  Calls.weaken ((h w (oldS w) vals (fun _ h => h) hG hr).calls hb) (fun e w' ⟨x, φ, S, h1, h2, _, h4, _⟩ => by
    simp only [rel] at h4
    subst h4
    exact ⟨h1, h2.below⟩)

theorem args_nil : relL T (fun _ => none) w (oldS w) [] [] := by simp only [relL]
theorem args_i (n : Int) {k : IntKind} {vs : List V} {xs : List Value} (h : relL T (fun _ => none) w (oldS w) vs xs) : relL T (fun _ => none) w (oldS w) (.i k n :: vs) (.int k n :: xs) := by simp only [relL]; exact ⟨_, xs, rfl, rel_i _ _, h⟩
theorem args_agg {mk : List V} {cs : Array Value} {vs : List V} {xs : List Value} (h : relL T (fun _ => none) w (oldS w) mk cs.toList) (h1 : ∀ u ∈ cs.toList, u.oneCell' = true) (k : relL T (fun _ => none) w (oldS w) vs xs) : relL T (fun _ => none) w (oldS w) (.agg mk :: vs) (.agg cs :: xs) := by
  simp only [relL]
  exact ⟨_, xs, rfl, by simp only [rel]; exact ⟨cs, rfl, h, h1⟩, k⟩
end
end Go.Ab
end
section
-- PRINTED BY print.sh 35421559b90ae4d0a3588c463048766b98c2df88dd9212a6774a882060cdf62d: not written by this session

namespace Go.Proofs.YtjcabmhnekcbgaaDoorW.PrintLast

section
variable {P : Program} {ops : Array Oper} {Q : Exit → Act → World → Prop} {md : Region.Mode} {S : World → Prop} {ds : List Nat}

/-- Whatever order is picked from here on, AND 'S' HOLDS BEHIND EVERY OPERATION THAT IS CARRIED OUT, those of ds apart. -/
def wpAnyLast (P : Program) (md : Region.Mode) (ops : Array Oper) (Q : Exit → Act → World → Prop) (S : World → Prop) (ds : List Nat) : Nat → Array Bool → Act → World → Prop
  | 0, listed, a, w => Region.ready md ops listed = [] ∧ Q .normal a w
  | fuel + 1, listed, a, w =>
    (Region.ready md ops listed = [] → Q .normal a w) ∧
    ∀ i ∈ Region.ready md ops listed, wpOp P ops Q i (fun a' w' => (i ∉ ds → S w → S w') ∧ wpAnyLast P md ops Q S ds fuel (listed.setIfInBounds i true) a' w') a w

theorem wpAny_of_last : ∀ (fuel : Nat) (listed : Array Bool) (a : Act) (w : World), wpAnyLast P md ops Q S ds fuel listed a w → wpAny P md ops Q fuel listed a w
  | 0, _, _, _, h => h
  | fuel + 1, _, _, _, h => ⟨h.1, fun i hi => wpOp_mono (fun a' w' h' => wpAny_of_last fuel _ a' w' h'.2) (h.2 i hi)⟩

/-- Take number 'i' first, which yields whatever the world: no S is asked for, nor that anything waits for it. -/
theorem wpAnyLast_any {i : Nat} {oi : Oper} {v : Value} (hi : ops[i]? = some oi) (hsel : ∀ (j : Nat) (o : Oper) cs b, ops[j]? = some o → o.op ≠ .select cs b)
    (hQ : ∀ c a w, Q (.panic c) (a.put oi.dst v) w → Q (.panic c) a w) :
    ∀ (fuel : Nat) (listed : Array Bool) (a : Act) (w : World),
      (∀ j oj, ops[j]? = some oj → j ≠ i → listed.getD j true = false → (∀ e ∈ oj.after, Region.binds md e = true → e.on ≠ i) → oi.apart ops oj = true) →
      i ∈ Region.ready md ops listed → Yields P ops oi v a →
      wpAnyLast P md ops Q S ds fuel (listed.setIfInBounds i true) (a.put oi.dst v) w → wpAnyLast P md ops Q S ds (fuel + 1) listed a w := by
  intro fuel
  induction fuel with
  | zero =>
    intro listed a w _ hr hy H
    refine ⟨fun h => (by rw [h] at hr; cases hr), fun j hj => ?_⟩
    by_cases hji : j = i
    · subst hji; exact (hy.yieldsIf (S := fun _ => True)).wpOp hi trivial ⟨fun _ h => h, H⟩
    · have := ready_mono hj hji
      rw [H.1] at this
      cases this
  | succ fuel ih =>
    intro listed a w hfree hr hy H
    refine ⟨fun h => (by rw [h] at hr; cases hr), fun j hj => ?_⟩
    by_cases hji : j = i
    · subst hji; exact (hy.yieldsIf (S := fun _ => True)).wpOp hi trivial ⟨fun _ h => h, H⟩
    · have h1 := H.2 j (ready_mono hj hji)
      obtain ⟨hjun, oj, hoj, hall⟩ := mem_ready.1 hj
      have hiun := (mem_ready.1 hr).1
      have hnot : ∀ e ∈ oj.after, Region.binds md e = true → e.on ≠ i := fun e he hb heq => by
        have h1 := hall e he hb
        rw [heq] at h1
        rcases Nat.lt_or_ge i listed.size with h' | h'
        · simp [h'] at hiun h1; rw [hiun] at h1; cases h1
        · simp [Array.getElem?_eq_none h'] at h1
      have h2 := wpOp_put hoj (hfree j oj hoj hji hjun hnot) (fun cs b => hsel i oi cs b hi) (fun cs b => hsel j oj cs b hoj) hQ hy h1
      have hfree' : ∀ k ok, ops[k]? = some ok → k ≠ i → (listed.setIfInBounds j true).getD k true = false →
          (∀ e ∈ ok.after, Region.binds md e = true → e.on ≠ i) → oi.apart ops ok = true := fun k ok hk hki hun hno => by
        refine hfree k ok hk hki ?_ hno
        by_cases hjk : j = k
        · subst hjk; exact hjun
        · rw [getD_set_ne true hjk] at hun; exact hun
      refine wpOp_mono (fun a' w' h3 => ⟨h3.2.1, ih (listed.setIfInBounds j true) a' w' hfree' (ready_mono hr (Ne.symm hji)) h3.1 ?_⟩) h2
      rw [Array.setIfInBounds_comm _ _ hji]
      exact h3.2.2

theorem wpAnyLast_all {rs : List Nat} {fuel : Nat} {listed : Array Bool} {a : Act} {w : World} (hr : Region.ready md ops listed = rs) (hne : rs ≠ [])
    (h : ∀ i ∈ rs, wpOp P ops Q i (fun a' w' => (i ∉ ds → S w → S w') ∧ wpAnyLast P md ops Q S ds fuel (listed.setIfInBounds i true) a' w') a w) : wpAnyLast P md ops Q S ds (fuel + 1) listed a w :=
  ⟨fun h0 => absurd (hr ▸ h0) hne, hr ▸ h⟩

theorem wp_region_last {id : Nat} {a : Act} {w : World} (hm : P.follows .mixedOrders = true)
    (h : wpAnyLast P .any ops Q S ds ops.size (Array.replicate ops.size false) a { w with drawn := w.drawn + 1 }) : (Code.region id ops true).wp P Q a w :=
  wp_region_any hm (wpAny_of_last _ _ _ _ h)

end

section
variable {P : Program} {ops : Array Oper} {Q : Exit → Act → World → Prop} {md : Region.Mode} {S : World → Prop} {ds : List Nat}

def AllReadyL (P : Program) (md : Region.Mode) (ops : Array Oper) (Q : Exit → Act → World → Prop) (S : World → Prop) (ds : List Nat) (fuel : Nat) (listed : Array Bool) (a : Act) (w : World) (rs : List Nat) : Prop :=
  ∀ i ∈ rs, wpOp P ops Q i (fun a' w' => (i ∉ ds → S w → S w') ∧ wpAnyLast P md ops Q S ds fuel (listed.setIfInBounds i true) a' w') a w
theorem AllReadyL.nil {fuel : Nat} {listed : Array Bool} {a : Act} {w : World} : AllReadyL P md ops Q S ds fuel listed a w [] := fun _ h => by cases h
theorem AllReadyL.cons {fuel : Nat} {listed : Array Bool} {a : Act} {w : World} {i : Nat} {o : Oper} {rs : List Nat} (ho : ops[i]? = some o) (hd : i ∉ ds)
    (h : ∀ K' : Act → World → Prop, Shut (∀ a w, S w → (S w → wpAnyLast P md ops Q S ds fuel (listed.setIfInBounds i true) a w) → K' a w) → if Region.wanted o (yielded ops a.tmps) = true then Oper.wp P o a w K' Q else K' (a.put o.dst undef) w)
    (hs : AllReadyL P md ops Q S ds fuel listed a w rs) : AllReadyL P md ops Q S ds fuel listed a w (i :: rs) := fun j hj => by
  rcases List.mem_cons.1 hj with rfl | hj
  · exact wpOp_step ho (fun K' hK => h K' (fun a w hS hW => hK a w ⟨fun _ _ => hS, hW hS⟩))
  · exact hs j hj
theorem wpAnyLast_ready {rs : List Nat} {fuel : Nat} {listed : Array Bool} {a : Act} {w : World} (hr : Region.ready md ops listed = rs) (hne : rs ≠ [])
    (h : AllReadyL P md ops Q S ds fuel listed a w rs) : wpAnyLast P md ops Q S ds (fuel + 1) listed a w := wpAnyLast_all hr hne h
/-- THE SAME STEPS WITH WHAT HAS COME UP WRITTEN OUT (a literal array of Bools) and one check a step: quicker, and what is printed stays short. -/
theorem start_ {id n : Nat} {a : Act} {w : World} (l : Array Bool) (hm : P.follows .mixedOrders = true) (hn : ops.size = n) (hl : Array.replicate n false = l) (hS : S w.drew)
    (h : S w.drew → wpAnyLast P .any ops Q S ds n l a w.drew) : (Code.region id ops true).wp P Q a w := by
  subst hn
  subst hl
  exact wp_region_last hm (h hS)
def anyB (md : Region.Mode) (ops : Array Oper) (l l' : Array Bool) (i : Nat) : Bool :=
  Region.noSelect ops && Region.free md ops l i && (Region.ready md ops l).contains i && (l.setIfInBounds i true == l')
/-- An operation that yields in every world (a move, a number, an address): taken first wherever it may come up, behind a store too. -/
theorem pure_ {i : Nat} {N : Option Tmp} {oi : Oper} {v : Value} {fuel : Nat} {l : Array Bool} {a : Act} {w : World} (l' : Array Bool) (hi : ops[i]? = some oi) (hN : oi.dst = N) (hc : anyB md ops l l' i = true)
    (hQ : ∀ c a w, Q (.panic c) (a.put oi.dst v) w → Q (.panic c) a w) (hy : Yields P ops oi v a) {a' : Act} (ha : a.put N v = a')
    (h : wpAnyLast P md ops Q S ds fuel l' a' w) : wpAnyLast P md ops Q S ds (fuel + 1) l a w := by
  subst ha
  subst hN
  simp only [anyB, Bool.and_eq_true, beq_iff_eq] at hc
  obtain ⟨⟨⟨h1, h2⟩, h3⟩, h6⟩ := hc
  subst h6
  exact wpAnyLast_any hi (Region.noSelect_spec h1) hQ fuel l a w (Region.free_spec hi h2) (by simpa using h3) hy h
def readyB (md : Region.Mode) (ops : Array Oper) (l l' : Array Bool) (i : Nat) : Bool := (Region.ready md ops l == [i]) && (l.setIfInBounds i true == l')
/-- One operation alone may come up now (a call, a build, an append ..): it is run, S is shown behind it. -/
theorem one_ {i : Nat} {N : Option Tmp} {oi : Oper} {fuel : Nat} {l : Array Bool} {a : Act} {w : World} (l' : Array Bool) (hi : ops[i]? = some oi) (hN : oi.dst = N) (hc : readyB md ops l l' i = true) (hd : i ∉ ds)
    (h : ∀ K : Act → World → Prop, Shut (∀ a' w', S w' → (S w' → wpAnyLast P md ops Q S ds fuel l' a' w') → K a' w') → if Region.wanted oi (yielded ops a.tmps) = true then Oper.wp P oi a w K Q else K (a.put N undef) w) :
    wpAnyLast P md ops Q S ds (fuel + 1) l a w := by
  subst hN
  simp only [readyB, Bool.and_eq_true, beq_iff_eq] at hc
  obtain ⟨h1, h2⟩ := hc
  subst h2
  exact wpAnyLast_ready h1 (by simp) (AllReadyL.cons hi hd (fun K hK => h K hK) AllReadyL.nil)
/-- The act with some destinations filled. -/
def putAll : Act → List (Tmp × Value) → Act
  | a, [] => a
  | a, (n, v) :: r => putAll (a.put (some n) v) r
/-- The act written out. -/
theorem norm_ {fuel : Nat} {l : Array Bool} {a a' : Act} {w : World} (ha : a = a') (h : wpAnyLast P md ops Q S ds fuel l a' w) : wpAnyLast P md ops Q S ds fuel l a w := by
  subst ha
  exact h
/-- An operation that yields a value (and may make memory). -/
theorem value_ {oi : Oper} {N : Option Tmp} {a : Act} {w w1 : World} {v : Value} {K : Act → World → Prop} (hw : Region.wanted oi (yielded ops a.tmps) = true) (hN : oi.dst = N) (hrun : (execOp a.eval oi).run P w = .ok (.value v) w1)
    (h : K (a.put N v) w1) : if Region.wanted oi (yielded ops a.tmps) = true then Oper.wp P oi a w K Q else K (a.put N undef) w := by
  rw [if_pos hw]
  subst hN
  unfold Oper.wp
  rw [hrun]
  exact h
/-- A store. -/
theorem skip_ {oi : Oper} {a : Act} {w w1 : World} {K : Act → World → Prop} (hw : Region.wanted oi (yielded ops a.tmps) = true) (hN : oi.dst = none) (hrun : (execOp a.eval oi).run P w = .ok .skip w1)
    (h : K a w1) : if Region.wanted oi (yielded ops a.tmps) = true then Oper.wp P oi a w K Q else K (a.put none undef) w := by
  rw [if_pos hw]
  unfold Oper.wp
  rw [hrun]
  show K (a.put oi.dst undef) w1
  rw [hN]
  exact h
end
end Go.Proofs.YtjcabmhnekcbgaaDoorW.PrintLast
end
section
-- PRINTED BY print.sh 35421559b90ae4d0a3588c463048766b98c2df88dd9212a6774a882060cdf62d: not written by this session
-- PRINTED WORDS (module Derived/Print/Words.lean): go-wishes' parts 1 to 38 and go-gate-2's additions: AI agents of Go's test side, Mon Nov 16 2026; no person has read them. Plain theorems and definitions: no macro, no elab, no axiom.

namespace Go.Proofs.YtjcabmhnekcbgaaDoorW.PrintWords
open Go.RowKit

/-- A fact that the walk's simp doesn't look into. -/
structure Aside0 (p : Prop) : Prop where mk :: (out : p)
/-- The world is the old one, some orders having been drawn. -/
structure Drawn0 (w w' : World) : Prop where mk :: (out : ∃ n, w' = w.drewN n)
theorem Drawn0.refl (w : World) : Drawn0 w w := ⟨⟨0, rfl⟩⟩
theorem Drawn0.below {w w' : World} (h : Drawn0 w w') : Below w.heap.size w w' := by
  obtain ⟨n, rfl⟩ := h
  induction n with
  | zero => exact Below.refl _ _
  | succ n ih => rw [← World.drew_drewN]; exact ih.drew

theorem below_alloc {w W : World} (h : Below w.heap.size w W) (o : Obj) : Below w.heap.size w (W.alloc o) := h.alloc h.size o
theorem grown_of_below {w w1 : World} (h : Below w.heap.size w w1) (row : Option Nat) : w.grownBy w1 row := ⟨h.os, h.tape, h.output, h.size, fun i hi _ => h.block i hi⟩
theorem pw_cell_below {w w1 : World} (h : Below w.heap.size w w1) {a : Addr} {v : Value} (hc : w.cell? a = some v) : w1.cell? a = some v := (h.cell (World.block_lt_of_cell? w a hc)).trans hc

def ReadsInt (w : World) (k : IntKind) (A : Option Addr) (n : Nat) (xs : List Int) : Prop :=
  xs.length = n ∧ n ≤ 9223372036854775807 ∧ (0 < n → ∃ ad, A = some ad ∧ ∀ j, j < n → w.cell? (ad.add j) = some (.int k (xs.getD j 0)))
theorem ReadsInt.below {w w1 : World} {k : IntKind} {A : Option Addr} {n : Nat} {xs : List Int} (h : ReadsInt w k A n xs) (hb : Below w.heap.size w w1) : ReadsInt w1 k A n xs :=
  ⟨h.1, h.2.1, fun hn => by
    obtain ⟨ad, e, hc⟩ := h.2.2 hn
    exact ⟨ad, e, fun j hj => pw_cell_below hb (hc j hj)⟩⟩

theorem own_base {w : World} {base : Nat} {e : TypeId} {size n : Nat} {v : Value} {xs : List Value} (h : w.ownsRow base e size v n xs) (k : Nat) (hk : v.ownBlock = some k) : base ≤ k := by
  rcases h.2 with ⟨rfl, _⟩ | ⟨g, cap, cur, rfl, hb, _⟩
  · simp [Value.ownBlock] at hk
  · have : g = k := by simpa [Value.ownBlock] using hk
    omega
theorem own_lt {w : World} {base : Nat} {e : TypeId} {size n : Nat} {v : Value} {xs : List Value} (h : w.ownsRow base e size v n xs) (k : Nat) (hk : v.ownBlock = some k) : k < w.heap.size := by
  rcases h.2 with ⟨rfl, _⟩ | ⟨g, cap, cur, rfl, hb, hh, _⟩
  · simp [Value.ownBlock] at hk
  · have : g = k := by simpa [Value.ownBlock] using hk
    subst this
    exact (Array.getElem?_eq_some_iff.1 hh).1
theorem pw_own_below {w w1 : World} {base : Nat} {e : TypeId} {size n : Nat} {v : Value} {xs : List Value} (h : w.ownsRow base e size v n xs) (hb : Below w.heap.size w w1) : w1.ownsRow base e size v n xs :=
  h.kept (grown_of_below hb none) (by cases v.ownBlock <;> simp)
section
variable {P : Program} {ops : Array Oper} {rest : List Oper} {o : Oper} {a : Act} {Q : Exit → Act → World → Prop}

end

section
variable {P : Program}
end
section
variable {P : Program} {ops : Array Oper} {rest : List Oper} {o : Oper} {a : Act} {Q : Exit → Act → World → Prop}
end

/-- Where the first answers, the second answers the same. -/
def LeO {α : Type} (a b : Option α) : Prop := ∀ r, a = some r → b = some r
theorem LeO.refl {α : Type} (a : Option α) : LeO a a := fun _ h => h
theorem LeO.trans {α : Type} {a b c : Option α} (h : LeO a b) (k : LeO b c) : LeO a c := fun r hr => k r (h r hr)
theorem LeO.map {α β : Type} {a a' : Option α} (f : α → β) (h : LeO a a') : LeO (a.map f) (a'.map f) := by
  intro r hr
  obtain ⟨x, hx, hf⟩ := Option.map_eq_some_iff.1 hr
  exact Option.map_eq_some_iff.2 ⟨x, h x hx, hf⟩
def Reps {α : Type} (R : α → List Value → Prop) (size : Nat) (ps : List α) (cs : List Value) : Prop :=
  cs.length = ps.length * size ∧ ∀ j p, ps[j]? = some p → R p ((cs.drop (j * size)).take size)
theorem Reps.imp_ {α : Type} {R R' : α → List Value → Prop} {size : Nat} {ps : List α} {cs : List Value} (h : Reps R size ps cs) (hR : ∀ p c, R p c → R' p c) : Reps R' size ps cs := ⟨h.1, fun j p hj => hR _ _ (h.2 j p hj)⟩

def ReadsRow {α : Type} (R : α → List Value → Prop) (size : Nat) (w : World) (A : Option Addr) (n : Nat) (ps : List α) : Prop :=
  ps.length = n ∧ n ≤ 9223372036854775807 ∧ (0 < n → ∃ ad, A = some ad ∧ ∀ j p, ps[j]? = some p → ∃ c, c.length = size ∧ R p c ∧ ∀ i u, c[i]? = some u → w.cell? (ad.add (j * size + i)) = some u)
theorem ReadsRow.imp_ {α : Type} {R R' : α → List Value → Prop} {size : Nat} {w w1 : World} {A : Option Addr} {n : Nat} {ps : List α} (h : ReadsRow R size w A n ps) (hb : Below w.heap.size w w1) (hR : ∀ p c, R p c → R' p c) : ReadsRow R' size w1 A n ps :=
  ⟨h.1, h.2.1, fun hn => by
    obtain ⟨ad, e, hc⟩ := h.2.2 hn
    refine ⟨ad, e, fun j p hj => ?_⟩
    obtain ⟨c, hs, hr, hcell⟩ := hc j p hj
    exact ⟨c, hs, hR _ _ hr, fun i u hu => pw_cell_below hb (hcell i u hu)⟩⟩
theorem own_reads_row {α : Type} {R : α → List Value → Prop} {w : World} {base n size : Nat} {e : TypeId} {v : Value} {ps : List α} {cs : List Value} (h : w.ownsRow base e size v n cs) (hR : Reps R size ps cs) (hn : ps.length = n) :
    ∃ A c, v = .slice A n c ∧ ReadsRow R size w A n ps := by
  rcases Nat.eq_zero_or_pos n with h0 | h0
  · rcases h.2 with ⟨rfl, rfl⟩ | ⟨g, cap, cur, rfl, _⟩
    · exact ⟨none, 0, rfl, hn, by omega, fun hp => absurd hp (by omega)⟩
    · exact ⟨_, cap, rfl, hn, by omega, fun hp => absurd hp (by omega)⟩
  · obtain ⟨g, cap, rfl, _, _⟩ := h.form h0
    have hm : n ≤ 9223372036854775807 := by
      rcases h.2 with ⟨_, h1⟩ | ⟨g', cap', cur, he, _, _, h1, h2, _⟩
      · omega
      · simp only [maxLen] at h2
        omega
    refine ⟨_, cap, rfl, hn, hm, fun _ => ⟨_, rfl, fun j p hj => ⟨(cs.drop (j * size)).take size, ?_, hR.2 j p hj, fun i u hu => ?_⟩⟩⟩
    · have hjl := (List.getElem?_eq_some_iff.1 hj).1
      have h1 : j * size + size ≤ cs.length := by rw [hR.1, ← Nat.succ_mul]; exact Nat.mul_le_mul_right _ hjl
      rw [List.length_take, List.length_drop]
      omega
    · refine h.cells (g := g) rfl _ u ?_
      rw [List.getElem?_take] at hu
      split at hu
      · rw [List.getElem?_drop] at hu
        exact hu
      · cases hu
section
variable {P : Program} {ops : Array Oper} {rest : List Oper} {o : Oper} {a : Act} {Q : Exit → Act → World → Prop}
end

theorem blk_cell {w : World} {g : Nat} {t : TypeId} {cs : Array Value} (h : w.heap[g]? = some (.cells cs t (0, 0))) (i : Nat) : w.cell? ⟨g, i, none⟩ = cs[i]? := cell_of_row w g i cs t (0, 0) h
def KeepBut (w w' : World) (g : Nat) (row : Option Nat) : Prop := w.heap.size ≤ w'.heap.size ∧ ∀ i, i < w.heap.size → i ≠ g → some i ≠ row → w'.heap[i]? = w.heap[i]?
theorem KeepBut.refl (w : World) (g : Nat) (row : Option Nat) : KeepBut w w g row := ⟨Nat.le_refl _, fun _ _ _ _ => rfl⟩
theorem KeepBut.of_below {w w1 : World} (h : Below w.heap.size w w1) (g : Nat) (row : Option Nat) : KeepBut w w1 g row := ⟨h.size, fun i hi _ _ => h.block i hi⟩
theorem KeepBut.trans {w w1 w2 : World} {g : Nat} {row row1 : Option Nat} (h : KeepBut w w1 g row) (k : KeepBut w1 w2 g row1) (hr : row1 = row ∨ ∃ b, row1 = some b ∧ w.heap.size ≤ b) : KeepBut w w2 g row :=
  ⟨Nat.le_trans h.1 k.1, fun i hi hg hn => by
    refine (k.2 i (Nat.lt_of_lt_of_le hi h.1) hg ?_).trans (h.2 i hi hg hn)
    rcases hr with rfl | ⟨b, rfl, hb⟩
    · exact hn
    · intro e
      injection e with e
      omega⟩
section
variable {P : Program} {ops : Array Oper} {o : Oper} {a : Act} {Q : Exit → Act → World → Prop} {K : Act → World → Prop}
end
theorem own_weaken {w : World} {base base' : Nat} {e : TypeId} {size n : Nat} {v : Value} {xs : List Value} (h : w.ownsRow base e size v n xs) (hb : base' ≤ base) : w.ownsRow base' e size v n xs := by
  obtain ⟨h1, h2⟩ := h
  refine ⟨h1, ?_⟩
  rcases h2 with h2 | ⟨g, cap, cur, rfl, hg, r⟩
  · exact .inl h2
  · exact .inr ⟨g, cap, cur, rfl, Nat.le_trans hb hg, r⟩
section
variable {α : Type} {enc : α → Value} {d : α}
def ReadsOf (enc : α → Value) (d : α) (w : World) (A : Option Addr) (n : Nat) (xs : List α) : Prop :=
  xs.length = n ∧ n ≤ 9223372036854775807 ∧ (0 < n → ∃ ad, A = some ad ∧ ∀ j, j < n → w.cell? (ad.add j) = some (enc (xs.getD j d)))
theorem ReadsOf.below {w w1 : World} {A : Option Addr} {n : Nat} {xs : List α} (h : ReadsOf enc d w A n xs) (hb : Below w.heap.size w w1) : ReadsOf enc d w1 A n xs :=
  ⟨h.1, h.2.1, fun hn => by
    obtain ⟨ad, e, hc⟩ := h.2.2 hn
    exact ⟨ad, e, fun j hj => pw_cell_below hb (hc j hj)⟩⟩
end
section
variable {α : Type} {P : Program} {ops : Array Oper} {rest : List Oper} {o : Oper} {a : Act} {Q : Exit → Act → World → Prop}
end

section
variable {P : Program}
end
theorem own_le {w : World} {base n m c size : Nat} {e : TypeId} {A : Option Addr} {xs : List Value} (h : w.ownsRow base e size (.slice A m c) n xs) : m ≤ c := by
  rcases h.2 with ⟨he, _⟩ | ⟨g, cap, cur, he, _, _, hnc, _⟩
  · injection he with _ h2 h3
    omega
  · injection he with _ h2 h3
    omega
def OwnRow {α : Type} (R : α → List Value → Prop) (e : TypeId) (size : Nat) (w : World) (base : Nat) (v : Value) (ps : List α) : Prop :=
  ∃ inner, w.ownsRow base e size v ps.length inner ∧ Reps R size ps inner
section
variable {α : Type} {R R' : α → List Value → Prop} {e : TypeId} {size : Nat} {w w1 : World} {base : Nat} {v : Value} {ps : List α}
theorem OwnRow.imp_ (h : OwnRow R e size w base v ps) (hR : ∀ p c, R p c → R' p c) : OwnRow R' e size w base v ps := by
  obtain ⟨inner, ho, hr⟩ := h
  exact ⟨inner, ho, hr.imp_ hR⟩
theorem OwnRow.below (h : OwnRow R e size w base v ps) (hb : Below w.heap.size w w1) : OwnRow R e size w1 base v ps := by
  obtain ⟨inner, ho, hr⟩ := h
  exact ⟨inner, pw_own_below ho hb, hr⟩
theorem OwnRow.reads (h : OwnRow R e size w base v ps) : ∃ A c, v = .slice A ps.length c ∧ ps.length ≤ c ∧ ReadsRow R size w A ps.length ps := by
  obtain ⟨inner, ho, hr⟩ := h
  obtain ⟨A, c, rfl, hrow⟩ := own_reads_row ho hr rfl
  exact ⟨A, c, rfl, own_le ho, hrow⟩
end
section
variable {P : Program} {ops : Array Oper} {rest : List Oper} {o : Oper} {a : Act} {Q : Exit → Act → World → Prop} {α : Type} {R : α → List Value → Prop}
end
section
variable {P : Program} {ops : Array Oper} {o : Oper} {a : Act} {Q : Exit → Act → World → Prop} {K : Act → World → Prop} {α : Type} {R : α → List Value → Prop}
end
section
variable {α : Type} {P : Program}
theorem ReadsOf.len_ {enc : α → Value} {d : α} {w : World} {A : Option Addr} {n : Nat} {xs : List α} (h : ReadsOf enc d w A n xs) : ReadsOf enc d w A xs.length xs := by rw [h.1]; exact h
end

section
variable {P : Program} {ops : Array Oper} {rest : List Oper} {o : Oper} {a : Act} {Q : Exit → Act → World → Prop}
end
/-- ok: which blocks the rows inside may be ('not the row that is being written'). -/
structure Kd (α : Type) where
  sz : Nat
  E : List Nat
  K : World → α → List Value → Prop
  M : World → Nat → (Nat → Prop) → α → List Value → Prop
  K_len : ∀ {w x cs}, K w x cs → cs.length = sz
  K_one : ∀ {w x cs}, K w x cs → ∀ u ∈ cs, u.oneCell' = true
  K_below : ∀ {w w1 : World} {x cs}, Below w.heap.size w w1 → K w x cs → K w1 x cs
  K_of_M : ∀ {w base ok x cs}, M w base ok x cs → K w x cs
  M_mono : ∀ {w base ok ok' x cs}, (∀ k, ok k → ok' k) → M w base ok x cs → M w base ok' x cs
  M_bound : ∀ {w : World} {base ok x cs}, M w base ok x cs → M w base (fun k => ok k ∧ base ≤ k ∧ k < w.heap.size ∧ ∃ q, q ∈ E ∧ ∃ cells, w.heap[k]? = some (.cells cells q (0, 0))) x cs
  M_move : ∀ {w w1 : World} {base ok x cs}, (∀ k, ok k → w1.heap[k]? = w.heap[k]?) → M w base ok x cs → M w1 base ok x cs
  M_lower : ∀ {w base base' ok x cs}, base' ≤ base → M w base ok x cs → M w base' ok x cs

theorem own_move {w w1 : World} {base : Nat} {e : TypeId} {size n : Nat} {v : Value} {xs : List Value} (h : w.ownsRow base e size v n xs) (hm : ∀ k, v.ownBlock = some k → w1.heap[k]? = w.heap[k]?) : w1.ownsRow base e size v n xs := by
  obtain ⟨h1, h2⟩ := h
  refine ⟨h1, ?_⟩
  rcases h2 with h2 | ⟨g, cap, cur, rfl, hg, hh, r⟩
  · exact .inl h2
  · exact .inr ⟨g, cap, cur, rfl, hg, (hm g (by simp [Value.ownBlock])).trans hh, r⟩
theorem own_typed {w : World} {base : Nat} {e : TypeId} {size n : Nat} {v : Value} {xs : List Value} (h : w.ownsRow base e size v n xs) (k : Nat) (hk : v.ownBlock = some k) : ∃ cells, w.heap[k]? = some (.cells cells e (0, 0)) := by
  rcases h.2 with ⟨rfl, _⟩ | ⟨g, cap, cur, rfl, hg, hh, r⟩
  · simp [Value.ownBlock] at hk
  · have : g = k := by simpa [Value.ownBlock] using hk
    subst this
    exact ⟨cur, hh⟩

namespace Kd
/-- A row of elements that is read. -/
def C {α : Type} (d : Kd α) (w : World) (A : Option Addr) (n : Nat) (xs : List α) : Prop := ReadsRow (d.K w) d.sz w A n xs
/-- A row of elements (type e) of the call's own; the elements' rows are not this one. -/
def R {α : Type} (d : Kd α) (e : Nat) (w : World) (base : Nat) (ok : Nat → Prop) (v : Value) (xs : List α) : Prop :=
  (∀ k, v.ownBlock = some k → ok k) ∧ OwnRow (d.M w base (fun k => ok k ∧ some k ≠ v.ownBlock)) e d.sz w base v xs
section
variable {α : Type} {d : Kd α} {e : Nat} {w w1 : World} {base : Nat} {ok ok' : Nat → Prop} {v : Value} {xs : List α}
theorem C_below {A : Option Addr} {n : Nat} (h : d.C w A n xs) (hb : Below w.heap.size w w1) : d.C w1 A n xs := ReadsRow.imp_ h hb (fun _ _ hp => d.K_below hb hp)
theorem R_mono (h : d.R e w base ok v xs) (hok : ∀ k, ok k → ok' k) : d.R e w base ok' v xs := ⟨fun k hk => hok k (h.1 k hk), h.2.imp_ (fun _ _ hp => d.M_mono (fun k hk => ⟨hok k hk.1, hk.2⟩) hp)⟩
theorem R_bound (h : d.R e w base ok v xs) : d.R e w base (fun k => ok k ∧ base ≤ k ∧ k < w.heap.size ∧ ∃ q, q ∈ e :: d.E ∧ ∃ cells, w.heap[k]? = some (.cells cells q (0, 0))) v xs := by
  obtain ⟨h0, inner, ho, hr⟩ := h
  refine ⟨fun k hk => ?_, inner, ho, hr.imp_ (fun _ _ hp => d.M_mono (fun k hk => ?_) (d.M_bound hp))⟩
  · obtain ⟨cells, hc⟩ := own_typed ho k hk
    exact ⟨h0 k hk, own_base ho k hk, own_lt ho k hk, e, List.mem_cons_self, cells, hc⟩
  · obtain ⟨⟨h1, h2⟩, h3, h4, q, hq, hc⟩ := hk
    exact ⟨⟨h1, h3, h4, q, List.mem_cons_of_mem _ hq, hc⟩, h2⟩
theorem R_move (h : d.R e w base ok v xs) (hm : ∀ k, ok k → w1.heap[k]? = w.heap[k]?) : d.R e w1 base ok v xs := by
  obtain ⟨h0, inner, ho, hr⟩ := h
  exact ⟨h0, inner, own_move ho (fun k hk => hm k (h0 k hk)), hr.imp_ (fun _ _ hp => d.M_move (fun k hk => hm k hk.1) hp)⟩
theorem R_lower {base' : Nat} (h : d.R e w base ok v xs) (hb : base' ≤ base) : d.R e w base' ok v xs := by
  obtain ⟨h0, inner, ho, hr⟩ := h
  exact ⟨h0, inner, own_weaken ho hb, hr.imp_ (fun _ _ hp => d.M_lower hb hp)⟩
theorem R_reads (h : d.R e w base ok v xs) : ∃ A c, v = .slice A xs.length c ∧ xs.length ≤ c ∧ d.C w A xs.length xs := by
  obtain ⟨A, c, he, hl, hr⟩ := OwnRow.reads h.2
  exact ⟨A, c, he, hl, hr.imp_ (Below.refl _ _) (fun _ _ hp => d.K_of_M hp)⟩
end

def scalar {α : Type} (enc : α → Value) (h1 : ∀ x, (enc x).oneCell' = true) : Kd α where
  sz := 1
  E := []
  K := fun _ x cs => cs = [enc x]
  M := fun _ _ _ x cs => cs = [enc x]
  K_len := fun h => by rw [h]; rfl
  K_one := fun h u hu => by
    rw [h] at hu
    rw [List.mem_singleton.1 hu]
    exact h1 _
  K_below := fun _ h => h
  K_of_M := fun h => h
  M_mono := fun _ h => h
  M_bound := fun h => h
  M_move := fun _ h => h
  M_lower := fun _ h => h
def int (k : IntKind) : Kd Int := scalar (Value.int k) (fun _ => rfl)
def bool : Kd Bool := scalar Value.bool (fun _ => rfl)
def slice {α : Type} (e : Nat) (d : Kd α) : Kd (List α) where
  sz := 1
  E := e :: d.E
  K := fun w xs cs => ∃ A c, cs = [.slice A xs.length c] ∧ xs.length ≤ c ∧ d.C w A xs.length xs
  M := fun w base ok xs cs => ∃ v, cs = [v] ∧ d.R e w base ok v xs
  K_len := by
    rintro w x cs ⟨A, c, rfl, _⟩
    rfl
  K_one := by
    rintro w x cs ⟨A, c, rfl, _⟩ u hu
    rw [List.mem_singleton.1 hu]
    rfl
  K_below := by
    rintro w w1 x cs hb ⟨A, c, rfl, hl, hr⟩
    exact ⟨A, c, rfl, hl, C_below hr hb⟩
  K_of_M := by
    rintro w base ok x cs ⟨v, rfl, h⟩
    obtain ⟨A, c, rfl, hl, hr⟩ := R_reads h
    exact ⟨A, c, rfl, hl, hr⟩
  M_mono := by
    rintro w base ok ok' x cs hok ⟨v, rfl, h⟩
    exact ⟨v, rfl, R_mono h hok⟩
  M_bound := by
    rintro w base ok x cs ⟨v, rfl, h⟩
    exact ⟨v, rfl, R_bound h⟩
  M_move := by
    rintro w w1 base ok x cs hm ⟨v, rfl, h⟩
    exact ⟨v, rfl, R_move h hm⟩
  M_lower := by
    rintro w base base' ok x cs hb ⟨v, rfl, h⟩
    exact ⟨v, rfl, R_lower h hb⟩
/-- Nothing is of this kind: where the nesting's depth is used up. -/
def bot {α : Type} (sz : Nat) (E : List Nat) : Kd α where
  sz := sz
  E := E
  K := fun _ _ _ => False
  M := fun _ _ _ _ _ => False
  K_len := fun h => h.elim
  K_one := fun h => h.elim
  K_below := fun _ h => h
  K_of_M := fun h => h
  M_mono := fun _ h => h
  M_bound := fun h => h
  M_move := fun _ h => h
  M_lower := fun _ h => h
/-- A type nested in itself: nested at most n deep .. -/
def upto {α : Type} (F : Kd α → Kd α) (sz : Nat) (E : List Nat) : Nat → Kd α
  | 0 => bot sz E
  | n + 1 => F (upto F sz E n)
section
variable {P : Program} {ops : Array Oper} {rest : List Oper} {o : Oper} {a : Act} {Q : Exit → Act → World → Prop} {α : Type}
end
section
variable {P : Program} {ops : Array Oper} {o : Oper} {a : Act} {Q : Exit → Act → World → Prop} {Kc : Act → World → Prop} {α : Type}
end
end Kd
namespace Kd
section
variable {α : Type} {F : Kd α → Kd α} {sz : Nat} {E : List Nat} {hs : ∀ n, (upto F sz E n).sz = sz} {hE : ∀ n q, q ∈ (upto F sz E n).E → q ∈ E}
end
end Kd
namespace Kd
end Kd
namespace Kd
section
variable {α β : Type} {d : Kd α} {d' : Kd β} {e e' : Nat} {w w1 W : World} {base b b' : Nat} {ok ok' okv oku : Nat → Prop} {v u : Value} {xs : List α} {ys : List β}
end
section
variable {w W : World} {A : Option Addr} {n : Nat}
variable {α : Type} {enc : α → Value} {h1 : ∀ x, (enc x).oneCell' = true} {e base g cap : Nat} {ok : Nat → Prop} {xs : List α}
end

section
variable {P : Program} {ops : Array Oper} {rest : List Oper} {o : Oper} {a : Act} {Q : Exit → Act → World → Prop}
variable {α : Type}
end
end Kd
section
variable {P : Program}
end
/-- A row of one's own that may begin inside its block. -/
def QRow (w : World) (base : Nat) (e : TypeId) (size : Nat) (v : Value) (n : Nat) (xs : List Value) : Prop :=
  xs.length = n * size ∧
  ((n = 0 ∧ ∃ A, v = .slice A 0 0 ∧ ∀ a, A = some a → base ≤ a.block ∧ ∃ cur, w.heap[a.block]? = some (.cells cur e (0, 0))) ∨
   ∃ g off cap cur, v = .slice (some ⟨g, off * size, none⟩) n cap ∧ base ≤ g ∧ w.heap[g]? = some (.cells cur e (0, 0)) ∧ n ≤ cap ∧ off + cap ≤ maxLen ∧ cur.size = (off + cap) * size ∧ (cur.toList.drop (off * size)).take (n * size) = xs)
section
variable {w w1 : World} {base n size : Nat} {e : TypeId} {v : Value} {xs : List Value}
end
section
variable {P : Program}
end
namespace Kd
def Q {α : Type} (d : Kd α) (e : Nat) (w : World) (base : Nat) (ok : Nat → Prop) (v : Value) (xs : List α) : Prop :=
  (∀ k, v.ownBlock = some k → ok k) ∧ ∃ inner, QRow w base e d.sz v xs.length inner ∧ Reps (d.M w base (fun k => ok k ∧ some k ≠ v.ownBlock)) d.sz xs inner
section
variable {α : Type} {d : Kd α} {e : Nat} {w w1 W : World} {base : Nat} {ok ok' : Nat → Prop} {v : Value} {xs : List α}
end
section
variable {P : Program} {ops : Array Oper} {rest : List Oper} {o : Oper} {a : Act} {Q' : Exit → Act → World → Prop} {Kc : Act → World → Prop} {α : Type}
end
end Kd
namespace Kd
section
variable {α : Type} {d : Kd α} {e e' : Nat} {w w1 W : World} {base : Nat} {ok : Nat → Prop} {u v : Value} {xs : List α}
end
end Kd
namespace Kd
section
variable {α : Type} {d : Kd α} {e base g n cap : Nat} {ok okp : Nat → Prop} {W : World} {xs : List α}
end
end Kd
namespace Kd
section
variable {α : Type} {F : Kd α → Kd α} {sz : Nat} {E : List Nat} {hs : ∀ n, (upto F sz E n).sz = sz} {hE : ∀ n q, q ∈ (upto F sz E n).E → q ∈ E}
end
end Kd
namespace Kd
section
variable {P : Program} {ops : Array Oper} {rest : List Oper} {o : Oper} {a : Act} {Q : Exit → Act → World → Prop} {α : Type}
end
end Kd
namespace Kd
section
variable {P : Program} {ops : Array Oper} {rest : List Oper} {o : Oper} {a : Act} {Q : Exit → Act → World → Prop} {α : Type}
end
end Kd
theorem add_add (a : Addr) (i j : Nat) : (a.add i).add j = a.add (i + j) := by
  unfold Addr.add
  by_cases h1 : i = 0 <;> by_cases h2 : j = 0 <;> simp [h1, h2, Nat.add_assoc]
namespace Kd
section
variable {α : Type} {k : Kd α} {w : World} {A : Option Addr} {xs : List α} {m c : Nat}
end
end Kd
section
variable {P : Program}
end
theorem ReadsInt.drewN {W : World} {k : IntKind} {A : Option Addr} {n : Nat} {xs : List Int} (h : ReadsInt W k A n xs) (m : Nat) : ReadsInt (W.drewN m) k A n xs := h
theorem ReadsOf.drewN {α : Type} {enc : α → Value} {d : α} {W : World} {A : Option Addr} {n : Nat} {xs : List α} (h : ReadsOf enc d W A n xs) (m : Nat) : ReadsOf enc d (W.drewN m) A n xs := h
namespace Kd
section
variable {α β : Type} {d : Kd α} {d' : Kd β} {e e' base base' n : Nat} {ok ok' : Nat → Prop} {w W w1 W1 : World} {v u : Value} {xs : List α} {ys : List β} {A : Option Addr} {c : Nat}
end
section
variable {α : Type} {enc : α → Value} {h1 : ∀ x, (enc x).oneCell' = true} {w W : World} {A : Option Addr} {n g : Nat} {xs : List α}
end
end Kd
namespace Kd
section
variable {α : Type} {d : Kd α} {e base g : Nat} {ok : Nat → Prop} {w w1 : World} {v : Value} {xs : List α} {o : Obj}
end
end Kd
section
variable {P : Program} {ops : Array Oper} {rest : List Oper} {o : Oper} {a : Act} {Q : Exit → Act → World → Prop}
end
namespace Kd
section
variable {α : Type} {enc : α → Value} {h1 : ∀ x, (enc x).oneCell' = true} {e base g n cap : Nat} {ok : Nat → Prop} {W : World} {xs : List α}
end
end Kd
section
variable {P : Program} {ops : Array Oper} {rest : List Oper} {o : Oper} {a : Act} {Q : Exit → Act → World → Prop}
end
namespace Kd
section
variable {α : Type} {enc : α → Value} {h1 : ∀ x, (enc x).oneCell' = true} {e base g n cap : Nat} {ok : Nat → Prop} {W : World} {xs : List α}
end
end Kd
section
variable {P : Program} {ops : Array Oper} {rest : List Oper} {o : Oper} {a : Act} {Q : Exit → Act → World → Prop} {W : World}
end
section
variable {P : Program} {ops : Array Oper} {o : Oper} {a : Act} {Q : Exit → Act → World → Prop} {Kc : Act → World → Prop}
namespace Kd
variable {α : Type}
end Kd
end
section
variable {P : Program} {tmps : Array Value} {w : World}
end
namespace Kd
section
variable {P : Program} {α : Type}
end
section
variable {P : Program} {ops : Array Oper} {rest : List Oper} {o : Oper} {a : Act} {Q : Exit → Act → World → Prop} {Kc : Act → World → Prop} {α : Type}
end
end Kd

end Go.Proofs.YtjcabmhnekcbgaaDoorW.PrintWords
end
section
-- PRINTED BY print.sh 35421559b90ae4d0a3588c463048766b98c2df88dd9212a6774a882060cdf62d: not written by this session

namespace Go.Proofs.YtjcabmhnekcbgaaDoorW.PrintLast
open Go.Proofs.YtjcabmhnekcbgaaDoorW.PrintWords (Aside0)
def needsOf (md : Region.Mode) (o : Oper) : List Nat := (o.after.toList.filter (fun e => Region.binds md e)).map (fun e => e.on)
def clashOf (md : Region.Mode) (ops : Array Oper) (i : Nat) (oi : Oper) : List Nat := (List.range ops.size).filter fun j => !(j == i) && match ops[j]? with
  | some oj => !(oj.after.any (fun e => Region.binds md e && e.on == i) || oi.apart ops oj)
  | none => false
/-- No select in it; for each operation: what must have come up before it, and what may not come up behind it if it is taken first. -/
def rtab (md : Region.Mode) (ops : Array Oper) : Bool × List (List Nat × List Nat) := (Region.noSelect ops, (List.range ops.size).map fun i => match ops[i]? with
  | some o => (needsOf md o, clashOf md ops i o)
  | none => ([], []))
def readyAt (T : List (List Nat × List Nat)) (l : List Bool) (i : Nat) : Bool := !l.getD i true && match T[i]? with
  | some r => r.1.all (fun j => l.getD j false)
  | none => false
def readyT (T : List (List Nat × List Nat)) (l : List Bool) : List Nat := (List.range T.length).filter (readyAt T l)
def freeT (T : List (List Nat × List Nat)) (l : List Bool) (i : Nat) : Bool := match T[i]? with
  | some r => r.2.all (fun j => l.getD j true)
  | none => false
section
variable {md : Region.Mode} {ops : Array Oper} {T : Bool × List (List Nat × List Nat)} {l l' li lj lk : Array Bool} {ds : List Nat} {i j k : Nat}
theorem gd (l : Array Bool) (j : Nat) (b : Bool) : l.getD j b = l.toList.getD j b := by simp [Array.getD_eq_getD_getElem?, List.getD_eq_getElem?_getD]
theorem needs_all (o : Oper) (p : Nat → Bool) : o.after.all (fun e => !Region.binds md e || p e.on) = (needsOf md o).all p := by
  unfold needsOf
  rw [← Array.all_toList]
  induction o.after.toList with
  | nil => rfl
  | cons e r ih =>
    rw [List.all_cons, ih, List.filter_cons]
    cases h : Region.binds md e <;> simp
theorem rtab_length : (rtab md ops).2.length = ops.size := by simp [rtab]
theorem rtab_some {o : Oper} (h : ops[i]? = some o) : (rtab md ops).2[i]? = some (needsOf md o, clashOf md ops i o) := by
  have hi := (Array.getElem?_eq_some_iff.1 h).1
  unfold rtab
  rw [List.getElem?_map, List.getElem?_range hi, Option.map_some, h]
theorem rtab_none (h : ops[i]? = none) : (rtab md ops).2[i]? = none := by
  have hi : ops.size ≤ i := Array.getElem?_eq_none_iff.1 h
  exact List.getElem?_eq_none (by rw [rtab_length]; exact hi)
theorem readyAt_eq : readyAt (rtab md ops).2 l.toList i = (!l.getD i true && ((ops[i]?).map (·.after.all fun e => !Region.binds md e || l.getD e.on false)).getD false) := by
  unfold readyAt
  rw [gd]
  cases h : ops[i]? with
  | none => rw [rtab_none h]; rfl
  | some o =>
    rw [rtab_some h]
    simp only [Option.map_some, Option.getD_some]
    rw [← needs_all]
    simp only [gd]
theorem ready_eq : Region.ready md ops l = readyT (rtab md ops).2 l.toList := by
  unfold Region.ready readyT
  rw [rtab_length]
  refine List.filter_congr (fun i _ => ?_)
  rw [readyAt_eq]
theorem free_eq : Region.free md ops l i = freeT (rtab md ops).2 l.toList i := by
  unfold Region.free freeT
  cases h : ops[i]? with
  | none => rw [rtab_none h]
  | some oi =>
    rw [rtab_some h]
    simp only [clashOf]
    rw [List.all_filter]
    congr 1
    funext j
    rw [gd]
    cases hj : ops[j]? with
    | none => cases (j == i) <;> cases (l.toList.getD j true) <;> simp
    | some oj =>
      cases (j == i) <;> cases (l.toList.getD j true) <;> cases (oj.after.any (fun e => Region.binds md e && e.on == i) || oi.apart ops oj) <;> simp_all
theorem readyAt_mem (h : readyAt T.2 l.toList i = true) (hT : rtab md ops = T) : (Region.ready md ops l).contains i = true := by
  subst hT
  rw [ready_eq]
  unfold readyT
  rw [List.contains_iff_mem, List.mem_filter, List.mem_range]
  refine ⟨?_, h⟩
  unfold readyAt at h
  rw [Bool.and_eq_true] at h
  cases hq : (rtab md ops).2[i]? with
  | none => rw [hq] at h; simp at h
  | some r => exact (List.getElem?_eq_some_iff.1 hq).1
theorem set_of (h : (l.toList.set i true == l'.toList) = true) : (l.setIfInBounds i true == l') = true := by
  rw [beq_iff_eq] at h ⊢
  apply Array.ext'
  rw [Array.toList_setIfInBounds]
  exact h
def anyT (T : Bool × List (List Nat × List Nat)) (l l' : List Bool) (i : Nat) : Bool := T.1 && freeT T.2 l i && readyAt T.2 l i && (l.set i true == l')
/-- pure_'s condition out of the table. -/
theorem any_of (hT : rtab md ops = T) (h : anyT T l.toList l'.toList i = true) : anyB md ops l l' i = true := by
  simp only [anyT, Bool.and_eq_true] at h
  obtain ⟨⟨⟨h1, h2⟩, h3⟩, h4⟩ := h
  have h5 := readyAt_mem h3 hT
  have h6 := set_of h4
  subst hT
  simp only [anyB, Bool.and_eq_true]
  exact ⟨⟨⟨h1, by rw [free_eq]; exact h2⟩, h5⟩, h6⟩
/-- one_'s and last_'s. -/
theorem one_of (hT : rtab md ops = T) (h : (readyT T.2 l.toList == [i] && l.toList.set i true == l'.toList) = true) : readyB md ops l l' i = true := by
  simp only [Bool.and_eq_true] at h
  obtain ⟨h1, h2⟩ := h
  subst hT
  simp only [readyB, Bool.and_eq_true]
  exact ⟨by rw [ready_eq]; exact h1, set_of h2⟩
/-- What d waits for, as_ bits: told in the table (B), checked in one pass: each bit is a need of d, or a bit of an earlier need's. -/
def upM (B : List Nat) (d : Nat) : List Nat → Nat
  | [] => 0
  | n :: r => (2 ^ n ||| (if n < d then B.getD n 0 else 0)) ||| upM B d r
def waitsOk (T : List (List Nat × List Nat)) (B : List Nat) : Bool := (List.range T.length).all fun d => match T[d]? with
  | some r => (B.getD d 0 ||| upM B d r.1) == upM B d r.1
  | none => false
theorem upM_bit {B : List Nat} {d i : Nat} : ∀ {ns : List Nat}, (upM B d ns).testBit i = true → ∃ n ∈ ns, n = i ∨ (n < d ∧ (B.getD n 0).testBit i = true)
  | [], h => by simp [upM] at h
  | n :: r, h => by
    unfold upM at h
    rw [Nat.testBit_or, Nat.testBit_or, Bool.or_eq_true, Bool.or_eq_true] at h
    rcases h with (h | h) | h
    · rw [Nat.testBit_two_pow] at h
      exact ⟨n, List.mem_cons_self, .inl (by simpa using h)⟩
    · by_cases hn : n < d
      · rw [if_pos hn] at h
        exact ⟨n, List.mem_cons_self, .inr ⟨hn, h⟩⟩
      · rw [if_neg hn] at h
        simp at h
    · obtain ⟨m, hm, h2⟩ := upM_bit h
      exact ⟨m, List.mem_cons_of_mem _ hm, h2⟩
theorem with_tabW {P : Program} {Q : Exit → Act → World → Prop} {S : World → Prop} {n : Nat} {a : Act} {w : World} {B : List Nat} (hT : rtab md ops = T) (hB : waitsOk T.2 B = true) (h : Aside0 (rtab md ops = T) → Aside0 (waitsOk T.2 B = true) → wpAnyLast P md ops Q S ds n l a w) : wpAnyLast P md ops Q S ds n l a w := h ⟨hT⟩ ⟨hB⟩
end
/-- The operations of a region, by its number. -/
def opsIn : Code → Nat → Option (Array Oper)
  | .region id ops _, k => if id == k then some ops else none
  | .seq a b, k => match opsIn a k with
    | some o => some o
    | none => opsIn b k
  | .cond _ a b, k => match opsIn a k with
    | some o => some o
    | none => opsIn b k
  | .block _ c, k => opsIn c k
  | .loop c, k => opsIn c k
  | .scope c, k => opsIn c k
  | .rangeFunc _ _ a b, k => match opsIn a k with
    | some o => some o
    | none => opsIn b k
  | _, _ => none
def opsOf (f : Func) (k : Nat) : Array Oper := ((f.body.bind fun c => opsIn c k)).getD #[]
end Go.Proofs.YtjcabmhnekcbgaaDoorW.PrintLast
end
section
-- PRINTED BY print.sh 35421559b90ae4d0a3588c463048766b98c2df88dd9212a6774a882060cdf62d: not written by this session

namespace Go.Proofs.YtjcabmhnekcbgaaDoorW.PrintLast
/-- Number i is listed too. -/
def up (b : Nat → Bool) (i : Nat) : Nat → Bool := fun j => if j = i then true else b j
theorem up_self (b : Nat → Bool) (i : Nat) : up b i i = true := by simp [up]
theorem up_ne {b : Nat → Bool} {i j : Nat} (h : j ≠ i) : up b i j = b j := by simp [up, h]
/-- What is listed: O's operations by b, all else already. -/
def lof (n : Nat) (O : List Nat) (b : Nat → Bool) : List Bool := (List.range n).map fun j => if O.contains j then b j else true
/-- The destinations of what is listed are filled. -/
def putSel (a : Act) (b : Nat → Bool) : List (Nat × Tmp × Value) → Act
  | [] => a
  | e :: r => putSel (if b e.1 = true then a.put (some e.2.1) e.2.2 else a) b r
section
variable {P : Program} {ops : Array Oper} {Q : Exit → Act → World → Prop} {md : Region.Mode} {T : Bool × List (List Nat × List Nat)} {B : List Nat} {O : List Nat} {b : Nat → Bool} {i j n : Nat}
theorem lof_length : (lof n O b).length = n := by simp [lof]
theorem lof_get {d : Bool} (hj : j < n) : (lof n O b).getD j d = if O.contains j then b j else true := by
  simp [lof, List.getD_eq_getElem?_getD, hj]
theorem lof_up (hi : O.contains i = true) : (lof n O b).set i true = lof n O (up b i) := by
  apply List.ext_getElem?
  intro j
  by_cases hj : j < n
  · by_cases hij : i = j
    · subst hij
      have hl : i < (lof n O b).length := by rw [lof_length]; exact hj
      rw [List.getElem?_set_self hl]
      simp only [lof, List.getElem?_map, List.getElem?_range hj, Option.map_some, hi, if_true, up_self]
    · rw [List.getElem?_set_ne hij]
      simp only [lof, List.getElem?_map, List.getElem?_range hj, Option.map_some]
      rw [up_ne (Ne.symm hij)]
  · rw [List.getElem?_eq_none (by simp [lof]; omega), List.getElem?_eq_none (by simp [lof]; omega)]
/-- The step of operation i: out of the relation, it not being listed, all it waits for being so, and nothing that waits for it. -/
def StepAt (P : Program) (ops : Array Oper) (Q : Exit → Act → World → Prop) (B : List Nat) (O : List Nat) (I : (Nat → Bool) → Act → World → Prop) (i : Nat) : Prop :=
  ∀ b a w, I b a w → b i = false → (∀ j, (O.contains j && (B.getD i 0).testBit j) = true → b j = true) → (∀ d, (O.contains d && (B.getD d 0).testBit i) = true → b d = false) →
    ∃ oi, ops[i]? = some oi ∧ ∀ K : Act → World → Prop, Shut (∀ a' w', I (up b i) a' w' → K a' w') → if Region.wanted oi (yielded ops a.tmps) = true then Oper.wp P oi a w K Q else K (a.put oi.dst undef) w
theorem steps_nil {I : (Nat → Bool) → Act → World → Prop} : ∀ i ∈ ([] : List Nat), StepAt P ops Q B O I i := fun _ h => by cases h
theorem steps_cons {I : (Nat → Bool) → Act → World → Prop} {rs : List Nat} (h : StepAt P ops Q B O I i) (hs : ∀ j ∈ rs, StepAt P ops Q B O I j) : ∀ j ∈ i :: rs, StepAt P ops Q B O I j := fun j hj => by
  rcases List.mem_cons.1 hj with rfl | hj
  · exact h
  · exact hs j hj
/-- Every edge goes to an earlier operation; what is listed already waits for nothing of O; O's numbers are the region's, each once. -/
def baseOk (T : List (List Nat × List Nat)) (O : List Nat) : Bool :=
  (List.range T.length).all (fun d => match T[d]? with
    | some r => (O.contains d || r.1.all fun n => !O.contains n) && r.1.all fun n => decide (n < d)
    | none => false) && O.all (fun i => decide (i < T.length)) && decide O.Nodup
theorem baseOk_row {T : List (List Nat × List Nat)} (h : baseOk T O = true) {d : Nat} {r : List Nat × List Nat} (hr : T[d]? = some r) : (O.contains d = false → ∀ n ∈ r.1, O.contains n = false) ∧ ∀ n ∈ r.1, n < d := by
  simp only [baseOk, Bool.and_eq_true] at h
  have h1 := List.all_eq_true.1 h.1.1 d (List.mem_range.2 (List.getElem?_eq_some_iff.1 hr).1)
  rw [hr] at h1
  simp only [Bool.and_eq_true, Bool.or_eq_true, List.all_eq_true, decide_eq_true_eq] at h1
  refine ⟨fun hd n hn => ?_, h1.2⟩
  rcases h1.1 with h2 | h2
  · rw [hd] at h2; cases h2
  · simpa using h2 n hn
theorem baseOk_lt {T : List (List Nat × List Nat)} (h : baseOk T O = true) {i : Nat} (hi : i ∈ O) : i < T.length := by
  simp only [baseOk, Bool.and_eq_true] at h
  simpa using List.all_eq_true.1 h.1.2 i hi
theorem baseOk_nodup {T : List (List Nat × List Nat)} (h : baseOk T O = true) : O.Nodup := by
  simp only [baseOk, Bool.and_eq_true] at h
  exact of_decide_eq_true h.2
def Closed (T : List (List Nat × List Nat)) (O : List Nat) (b : Nat → Bool) : Prop := ∀ d r, T[d]? = some r → O.contains d = true → b d = true → ∀ n ∈ r.1, O.contains n = true → b n = true
/-- What waits for nothing of O has none of it in its bits. -/
theorem bits_out {T : List (List Nat × List Nat)} (hw : waitsOk T B = true) (hk : baseOk T O = true) : ∀ (m d : Nat), d ≤ m → d < T.length → O.contains d = false → ∀ j, (B.getD d 0).testBit j = true → O.contains j = false := by
  intro m
  induction m with
  | zero =>
    intro d hd hl hO j hj
    have hd0 : d = 0 := by omega
    subst hd0
    have hr : T[0]? = some T[0] := List.getElem?_eq_getElem hl
    have h1 := List.all_eq_true.1 hw 0 (List.mem_range.2 hl)
    rw [hr] at h1
    simp only [beq_iff_eq] at h1
    have h2 : (upM B 0 T[0].1).testBit j = true := by rw [← h1, Nat.testBit_or, hj, Bool.true_or]
    obtain ⟨n, hn, h3⟩ := upM_bit h2
    have := (baseOk_row hk hr).2 n hn
    omega
  | succ m ih =>
    intro d hd hl hO j hj
    have hr : T[d]? = some T[d] := List.getElem?_eq_getElem hl
    have h1 := List.all_eq_true.1 hw d (List.mem_range.2 hl)
    rw [hr] at h1
    simp only [beq_iff_eq] at h1
    have h2 : (upM B d T[d].1).testBit j = true := by rw [← h1, Nat.testBit_or, hj, Bool.true_or]
    obtain ⟨n, hn, h3⟩ := upM_bit h2
    have hO2 := (baseOk_row hk hr).1 hO n hn
    rcases h3 with rfl | ⟨h4, h5⟩
    · exact hO2
    · exact ih n (by omega) (by omega) hO2 j h5
theorem closed_bits {T : List (List Nat × List Nat)} (hw : waitsOk T B = true) (hk : baseOk T O = true) (hc : Closed T O b) : ∀ (m d : Nat), d ≤ m → d < T.length → O.contains d = true → b d = true → ∀ j, O.contains j = true → (B.getD d 0).testBit j = true → b j = true := by
  intro m
  induction m with
  | zero =>
    intro d hd hl hO hb j hjO hj
    have hd0 : d = 0 := by omega
    subst hd0
    have hr : T[0]? = some T[0] := List.getElem?_eq_getElem hl
    have h1 := List.all_eq_true.1 hw 0 (List.mem_range.2 hl)
    rw [hr] at h1
    simp only [beq_iff_eq] at h1
    have h2 : (upM B 0 T[0].1).testBit j = true := by rw [← h1, Nat.testBit_or, hj, Bool.true_or]
    obtain ⟨n, hn, h3⟩ := upM_bit h2
    have := (baseOk_row hk hr).2 n hn
    omega
  | succ m ih =>
    intro d hd hl hO hb j hjO hj
    have hr : T[d]? = some T[d] := List.getElem?_eq_getElem hl
    have h1 := List.all_eq_true.1 hw d (List.mem_range.2 hl)
    rw [hr] at h1
    simp only [beq_iff_eq] at h1
    have h2 : (upM B d T[d].1).testBit j = true := by rw [← h1, Nat.testBit_or, hj, Bool.true_or]
    obtain ⟨n, hn, h3⟩ := upM_bit h2
    rcases h3 with rfl | ⟨h4, h5⟩
    · exact hc d _ hr hO hb n hn hjO
    · cases hO2 : O.contains n with
      | true => exact ih n (by omega) (by omega) hO2 (hc d _ hr hO hb n hn hO2) j hjO h5
      | false =>
        have := bits_out hw hk n n (Nat.le_refl _) (by omega) hO2 j h5
        rw [hjO] at this
        cases this
theorem up_count : ∀ {O : List Nat}, O.Nodup → i ∈ O → b i = false → (O.filter fun j => !up b i j).length + 1 = (O.filter fun j => !b j).length
  | [], _, hi, _ => by cases hi
  | x :: r, hn, hi, hb => by
    rw [List.nodup_cons] at hn
    rcases List.mem_cons.1 hi with rfl | hi
    · have h1 : (r.filter fun j => !up b i j) = r.filter fun j => !b j := by
        refine List.filter_congr (fun j hj => ?_)
        rw [up_ne (fun e => hn.1 (by rw [← e]; exact hj))]
      rw [List.filter_cons, List.filter_cons]
      simp [up_self, hb, h1]
    · have hxi : x ≠ i := fun e => hn.1 (e ▸ hi)
      have h1 := up_count hn.2 hi hb
      rw [List.filter_cons, List.filter_cons, up_ne hxi]
      cases hbx : b x
      · simp only [Bool.not_false, if_true, List.length_cons]
        omega
      · simpa using h1
theorem inv_all (hT : rtab md ops = T) (hw : waitsOk T.2 B = true) (hk : baseOk T.2 O = true) (I : (Nat → Bool) → Act → World → Prop) (hs : ∀ i ∈ O, StepAt P ops Q B O I i)
    (hend : ∀ b a w, (∀ j, O.contains j = true → b j = true) → I b a w → Q .normal a w) :
    ∀ (m : Nat) (b : Nat → Bool) (a : Act) (w : World), (O.filter fun j => !b j).length = m → Closed T.2 O b → I b a w → wpAnyLast P md ops Q (fun _ => True) [] m (lof T.2.length O b).toArray a w := by
  subst hT
  have mem_ready' : ∀ {b : Nat → Bool} {i : Nat}, i ∈ Region.ready md ops (lof (rtab md ops).2.length O b).toArray → i < (rtab md ops).2.length ∧ O.contains i = true ∧ b i = false ∧ ∀ r, (rtab md ops).2[i]? = some r → ∀ n ∈ r.1, n < (rtab md ops).2.length → O.contains n = true → b n = true := by
    intro b i hi
    rw [ready_eq] at hi
    unfold readyT at hi
    rw [List.mem_filter, List.mem_range] at hi
    obtain ⟨hl, h1⟩ := hi
    unfold readyAt at h1
    rw [Bool.and_eq_true, lof_get hl] at h1
    obtain ⟨h2, h3⟩ := h1
    have h4 : O.contains i = true := by
      cases h : O.contains i with
      | true => rfl
      | false => rw [h] at h2; simp at h2
    rw [h4] at h2
    refine ⟨hl, h4, by simpa using h2, fun r hr n hn hnl hO => ?_⟩
    rw [hr] at h3
    simp only [List.all_eq_true] at h3
    have h5 := h3 n hn
    rw [lof_get hnl, hO] at h5
    simpa using h5
  intro m
  induction m with
  | zero =>
    intro b a w hm hc hI
    have hall : ∀ j, O.contains j = true → b j = true := by
      intro j hj
      cases hb : b j with
      | true => rfl
      | false =>
        have : j ∈ O.filter fun j => !b j := List.mem_filter.2 ⟨List.contains_iff_mem.1 hj, by simp [hb]⟩
        rw [List.eq_nil_of_length_eq_zero hm] at this
        cases this
    refine ⟨?_, hend b a w hall hI⟩
    refine List.eq_nil_iff_forall_not_mem.2 (fun i hi => ?_)
    obtain ⟨_, h1, h2, _⟩ := mem_ready' hi
    rw [hall i h1] at h2
    cases h2
  | succ m ih =>
    intro b a w hm hc hI
    refine ⟨fun hr => ?_, fun i hi => ?_⟩
    · exfalso
      -- the smallest number that isn't listed is ready
      have hex : ∃ i, O.contains i = true ∧ b i = false := by
        cases hf : O.filter (fun j => !b j) with
        | nil => rw [hf] at hm; simp at hm
        | cons x r =>
          have hx : x ∈ O.filter (fun j => !b j) := by rw [hf]; exact List.mem_cons_self
          rw [List.mem_filter] at hx
          exact ⟨x, List.contains_iff_mem.2 hx.1, by simpa using hx.2⟩
      have hmin : ∀ k, (∃ i, i ≤ k ∧ O.contains i = true ∧ b i = false) → ∃ i, O.contains i = true ∧ b i = false ∧ ∀ j, j < i → O.contains j = true → b j = true := by
        intro k
        induction k with
        | zero =>
          rintro ⟨i, hi, h1, h2⟩
          exact ⟨i, h1, h2, fun j hj => by omega⟩
        | succ k ihk =>
          rintro ⟨i, hi, h1, h2⟩
          by_cases hlow : ∃ j, j ≤ k ∧ O.contains j = true ∧ b j = false
          · exact ihk hlow
          · refine ⟨i, h1, h2, fun j hj hO => ?_⟩
            cases hb : b j with
            | true => rfl
            | false => exact absurd ⟨j, by omega, hO, hb⟩ hlow
      obtain ⟨i0, h1, h2⟩ := hex
      obtain ⟨i, hO, hb, hlow⟩ := hmin i0 ⟨i0, Nat.le_refl _, h1, h2⟩
      have hl := baseOk_lt hk (List.contains_iff_mem.1 hO)
      have hin : i ∈ Region.ready md ops (lof (rtab md ops).2.length O b).toArray := by
        rw [ready_eq]
        unfold readyT
        rw [List.mem_filter, List.mem_range]
        refine ⟨hl, ?_⟩
        unfold readyAt
        rw [lof_get hl, hO, hb]
        have hr2 : (rtab md ops).2[i]? = some (rtab md ops).2[i] := List.getElem?_eq_getElem hl
        rw [hr2]
        simp only [if_true, Bool.not_false, Bool.true_and, List.all_eq_true]
        intro n hn
        have hni := (baseOk_row hk hr2).2 n hn
        rw [lof_get (by omega)]
        cases hOn : O.contains n with
        | true => simpa using hlow n hni hOn
        | false => simp
      rw [hr] at hin
      cases hin
    · obtain ⟨hl, hO, hb, hneed⟩ := mem_ready' hi
      have hon : ∀ j, (O.contains j && (B.getD i 0).testBit j) = true → b j = true := by
        intro j hj
        rw [Bool.and_eq_true] at hj
        have hr2 : (rtab md ops).2[i]? = some (rtab md ops).2[i] := List.getElem?_eq_getElem hl
        have h1 := List.all_eq_true.1 hw i (List.mem_range.2 hl)
        rw [hr2] at h1
        simp only [beq_iff_eq] at h1
        have h2 : (upM B i (rtab md ops).2[i].1).testBit j = true := by rw [← h1, Nat.testBit_or, hj.2, Bool.true_or]
        obtain ⟨n, hn, h3⟩ := upM_bit h2
        have hni := (baseOk_row hk hr2).2 n hn
        rcases h3 with rfl | ⟨h4, h5⟩
        · exact hneed _ hr2 n hn (by omega) hj.1
        · cases hO2 : O.contains n with
          | true => exact closed_bits hw hk hc n n (Nat.le_refl _) (by omega) hO2 (hneed _ hr2 n hn (by omega) hO2) j hj.1 h5
          | false =>
            have := bits_out hw hk n n (Nat.le_refl _) (by omega) hO2 j h5
            rw [hj.1] at this
            cases this
      have hoff : ∀ d, (O.contains d && (B.getD d 0).testBit i) = true → b d = false := by
        intro d hd
        rw [Bool.and_eq_true] at hd
        cases hbd : b d with
        | false => rfl
        | true =>
          have hdl := baseOk_lt hk (List.contains_iff_mem.1 hd.1)
          have := closed_bits hw hk hc d d (Nat.le_refl _) hdl hd.1 hbd i hO hd.2
          rw [hb] at this
          cases this
      obtain ⟨oi, hoi, hK⟩ := hs i (List.contains_iff_mem.1 hO) b a w hI hb hon hoff
      refine wpOp_step hoi (fun K' hK' => hK K' (fun a' w' hI' => hK' a' w' ⟨fun _ _ => trivial, ?_⟩))
      have hset : (lof (rtab md ops).2.length O b).toArray.setIfInBounds i true = (lof (rtab md ops).2.length O (up b i)).toArray := by
        apply Array.ext'
        rw [Array.toList_setIfInBounds]
        exact lof_up hO
      rw [hset]
      refine ih (up b i) a' w' ?_ ?_ hI'
      · have := up_count (baseOk_nodup hk) (List.contains_iff_mem.1 hO) hb
        omega
      · intro d r hr hOd hbd n hn hOn
        by_cases hni : n = i
        · rw [hni, up_self]
        · rw [up_ne hni]
          by_cases hdi : d = i
          · subst hdi
            exact hneed r hr n hn (by have := (baseOk_row hk hr).2 n hn; omega) hOn
          · rw [up_ne hdi] at hbd
            exact hc d r hr hOd hbd n hn hOn
/-- A slot that no operation of the list fills. -/
theorem putSel_off {b : Nat → Bool} {t : Tmp} : ∀ {L : List (Nat × Tmp × Value)} {a : Act}, (L.all fun e => !(e.2.1 == t)) = true → (putSel a b L).tmps[t]? = a.tmps[t]?
  | [], _, _ => rfl
  | e :: r, a, h => by
    rw [List.all_cons, Bool.and_eq_true] at h
    have he : e.2.1 ≠ t := by simpa using h.1
    unfold putSel
    by_cases hb : b e.1 = true
    · rw [if_pos hb, putSel_off h.2]
      simp [Act.put, Array.getElem?_setIfInBounds_ne he]
    · rw [if_neg hb]
      exact putSel_off h.2
/-- A slot of a listed operation: k is its place in the list. -/
theorem putSel_on {b : Nat → Bool} {e : Nat × Tmp × Value} : ∀ {L : List (Nat × Tmp × Value)} {a : Act} (k : Nat), L[k]? = some e → ((L.drop (k + 1)).all fun x => !(x.2.1 == e.2.1)) = true → b e.1 = true → Nat.ble (e.2.1 + 1) a.tmps.size = true → (putSel a b L).tmps[e.2.1]? = some e.2.2
  | [], _, _, h, _, _, _ => by cases h
  | x :: r, a, 0, h, hd, hb, ht => by
    simp only [List.getElem?_cons_zero, Option.some.injEq] at h
    subst h
    unfold putSel
    rw [if_pos hb, putSel_off (by simpa using hd)]
    have ht2 : x.2.1 < a.tmps.size := Nat.le_of_ble_eq_true ht
    simp [Act.put, ht2]
  | x :: r, a, k + 1, h, hd, hb, ht => by
    unfold putSel
    refine putSel_on k (by simpa using h) (by simpa using hd) hb ?_
    by_cases hx : b x.1 = true
    · rw [if_pos hx]
      simpa [Act.put] using ht
    · rw [if_neg hx]
      exact ht
theorem put_comm {a : Act} {s t : Tmp} {u v : Value} (h : s ≠ t) : (a.put (some s) u).put (some t) v = (a.put (some t) v).put (some s) u := by
  simp only [Act.put]
  rw [Array.setIfInBounds_comm _ _ h]
theorem putSel_put {b : Nat → Bool} {t : Tmp} {v : Value} : ∀ {L : List (Nat × Tmp × Value)} {a : Act}, (L.all fun e => !(e.2.1 == t)) = true → (putSel a b L).put (some t) v = putSel (a.put (some t) v) b L
  | [], _, _ => rfl
  | e :: r, a, h => by
    rw [List.all_cons, Bool.and_eq_true] at h
    have he : e.2.1 ≠ t := by simpa using h.1
    unfold putSel
    by_cases hb : b e.1 = true
    · rw [if_pos hb, if_pos hb, putSel_put h.2, put_comm he]
    · rw [if_neg hb, if_neg hb]
      exact putSel_put h.2
theorem putSel_same {b : Nat → Bool} {i : Nat} : ∀ {L : List (Nat × Tmp × Value)} {a : Act}, (L.all fun e => !(e.1 == i)) = true → putSel a (up b i) L = putSel a b L
  | [], _, _ => rfl
  | e :: r, a, h => by
    rw [List.all_cons, Bool.and_eq_true] at h
    have he : e.1 ≠ i := by simpa using h.1
    unfold putSel
    rw [up_ne he]
    exact putSel_same h.2
/-- Operation i (its entry stands between L1 and L2) is listed: its destination is filled with v, whatever stood in its entry. -/
theorem putSel_up {b : Nat → Bool} {i : Nat} {t : Tmp} {v0 v : Value} : ∀ {L1 L2 : List (Nat × Tmp × Value)} {a : Act}, b i = false → ((L1 ++ L2).all fun e => !(e.1 == i) && !(e.2.1 == t)) = true →
    (putSel a b (L1 ++ (i, t, v0) :: L2)).put (some t) v = putSel a (up b i) (L1 ++ (i, t, v) :: L2)
  | [], L2, a, hb, h => by
    simp only [List.nil_append] at h ⊢
    have h1 : (L2.all fun e => !(e.1 == i)) = true := List.all_eq_true.2 (fun e he => by have := List.all_eq_true.1 h e he; simp only [Bool.and_eq_true] at this; exact this.1)
    have h2 : (L2.all fun e => !(e.2.1 == t)) = true := List.all_eq_true.2 (fun e he => by have := List.all_eq_true.1 h e he; simp only [Bool.and_eq_true] at this; exact this.2)
    unfold putSel
    rw [if_neg (by rw [hb]; decide), if_pos (up_self b i), putSel_put h2, putSel_same h1]
  | e :: r, L2, a, hb, h => by
    simp only [List.cons_append, List.all_cons, Bool.and_eq_true] at h
    have he : e.1 ≠ i := by simpa using h.1.1
    simp only [List.cons_append]
    unfold putSel
    rw [up_ne he]
    exact putSel_up hb h.2
/-- The same by its place k in the list. -/
theorem putSel_upk {b : Nat → Bool} {i : Nat} {t : Tmp} {v0 v : Value} {a : Act} {L L' : List (Nat × Tmp × Value)} (k : Nat) (hb : b i = false) (hL : L[k]? = some (i, t, v0)) (hL' : L.set k (i, t, v) = L') (hd : ((L.take k ++ L.drop (k + 1)).all fun e => !(e.1 == i) && !(e.2.1 == t)) = true) :
    (putSel a b L).put (some t) v = putSel a (up b i) L' := by
  have hk := (List.getElem?_eq_some_iff.1 hL).1
  have h1 : L = L.take k ++ (i, t, v0) :: L.drop (k + 1) := by
    have h2 : L[k] = (i, t, v0) := (List.getElem?_eq_some_iff.1 hL).2
    rw [← h2, List.getElem_cons_drop, List.take_append_drop]
  have h3 : L' = L.take k ++ (i, t, v) :: L.drop (k + 1) := by rw [← hL', List.set_eq_take_append_cons_drop, if_pos hk]
  rw [h3]
  conv => lhs; rw [h1]
  exact putSel_up hb hd
/-- An operation without a destination. -/
theorem putSel_none {b : Nat → Bool} {i : Nat} {L : List (Nat × Tmp × Value)} {a : Act} {v : Value} (h : (L.all fun e => !(e.1 == i)) = true) : (putSel a b L).put none v = putSel a (up b i) L := (putSel_same h).symm
/-- THE REGION FROM HERE TO ITS END, by one relation I: l has all listed but O's operations; I holds with none of them listed; each step; with all listed what follows. -/
theorem inv_ {l : Array Bool} {fuel : Nat} {a : Act} {w : World} (O : List Nat) (I : (Nat → Bool) → Act → World → Prop) (hT : rtab md ops = T) (hw : waitsOk T.2 B = true) (hk : baseOk T.2 O = true)
    (hl : (lof T.2.length O (fun _ => false) == l.toList && O.length == fuel) = true) (h0 : I (fun _ => false) a w) (hs : ∀ i ∈ O, StepAt P ops Q B O I i)
    (hend : ∀ b a w, (∀ j, O.contains j = true → b j = true) → I b a w → Q .normal a w) : wpAnyLast P md ops Q (fun _ => True) [] fuel l a w := by
  rw [Bool.and_eq_true, beq_iff_eq, beq_iff_eq] at hl
  have h1 := inv_all hT hw hk I hs hend fuel (fun _ => false) a w (by rw [← hl.2]; simp) (fun d r _ _ hb => by cases hb) h0
  have h2 : (lof T.2.length O (fun _ => false)).toArray = l := by apply Array.ext'; exact hl.1
  rw [h2] at h1
  exact h1
/-- inv_ with the relation told from the frame that stands now (a0_). -/
theorem inv_at {l : Array Bool} {fuel : Nat} {a : Act} {w : World} (O : List Nat) (I : Act → (Nat → Bool) → Act → World → Prop) (hT : rtab md ops = T) (hw : waitsOk T.2 B = true) (hk : baseOk T.2 O = true)
    (hl : (lof T.2.length O (fun _ => false) == l.toList && O.length == fuel) = true) (h0 : I a (fun _ => false) a w) (hs : ∀ i ∈ O, StepAt P ops Q B O (I a) i)
    (hend : ∀ b a' w, (∀ j, O.contains j = true → b j = true) → I a b a' w → Q .normal a' w) : wpAnyLast P md ops Q (fun _ => True) [] fuel l a w := inv_ O (I a) hT hw hk hl h0 hs hend
end
end Go.Proofs.YtjcabmhnekcbgaaDoorW.PrintLast
end
section
-- PRINTED BY print.sh 35421559b90ae4d0a3588c463048766b98c2df88dd9212a6774a882060cdf62d: not written by this session

namespace Go.Proofs.YtjcabmhnekcbgaaDoorW.PrintWords
open Go.RowKit
namespace Kd
/-- An element with its index: its blocks are those that f gives to it. -/
def tag {α : Type} (f : Nat → Nat) (d : Kd α) : Kd (α × Nat) where
  sz := d.sz
  E := d.E
  K := fun w x cs => d.K w x.1 cs
  M := fun w base ok x cs => d.M w base (fun k => ok k ∧ f k = x.2) x.1 cs
  K_len := fun h => d.K_len h
  K_one := fun h => d.K_one h
  K_below := fun hb h => d.K_below hb h
  K_of_M := fun h => d.K_of_M h
  M_mono := fun hok h => d.M_mono (fun k hk => ⟨hok k hk.1, hk.2⟩) h
  M_bound := fun h => d.M_mono (fun _ hk => ⟨⟨hk.1.1, hk.2⟩, hk.1.2⟩) (d.M_bound h)
  M_move := fun hm h => d.M_move (fun k hk => hm k hk.1) h
  M_lower := fun hb h => d.M_lower hb h
/-- The cells themselves. -/
def raw (sz : Nat) : Kd (List Value) where
  sz := sz
  E := []
  K := fun _ x cs => cs = x ∧ cs.length = sz ∧ ∀ u ∈ cs, u.oneCell' = true
  M := fun _ _ _ x cs => cs = x ∧ cs.length = sz ∧ ∀ u ∈ cs, u.oneCell' = true
  K_len := fun h => h.2.1
  K_one := fun h => h.2.2
  K_below := fun _ h => h
  K_of_M := fun h => h
  M_mono := fun _ h => h
  M_bound := fun h => h
  M_move := fun _ h => h
  M_lower := fun _ h => h
/-- A row of elements (type e) of the call's own, no two of which lead to one block. -/
def S {α : Type} (d : Kd α) (e : Nat) (w : World) (base : Nat) (ok : Nat → Prop) (v : Value) (xs : List α) : Prop := ∃ f, (tag f d).R e w base ok v xs.zipIdx
section
variable {α β : Type} {d : Kd α} {d' : Kd β} {e e' : Nat} {w w1 W : World} {base b : Nat} {ok ok' okv oku : Nat → Prop} {u v : Value} {xs : List α} {ys : List β}
end
section
variable {α β : Type} {d : Kd α} {d' : Kd β} {e e' g : Nat} {w w1 W : World} {base b : Nat} {ok ok' okv oku : Nat → Prop} {u v : Value} {xs : List α} {ys : List β}
end
section
open Classical in
variable {P : Program} {ops : Array Oper} {rest : List Oper} {o : Oper} {a : Act} {Q : Exit → Act → World → Prop} {Kc : Act → World → Prop} {α : Type}
end
/-- Element i is these cells; the others are d's. -/
def gap {α : Type} (f : Nat → Nat) (d : Kd α) (i : Nat) (c : List Value) : Kd (α × Nat) where
  sz := d.sz
  E := d.E
  K := fun w x cs => (x.2 = i → cs = c ∧ cs.length = d.sz ∧ ∀ u ∈ cs, u.oneCell' = true) ∧ (x.2 ≠ i → d.K w x.1 cs)
  M := fun w base ok x cs => (x.2 = i → cs = c ∧ cs.length = d.sz ∧ ∀ u ∈ cs, u.oneCell' = true) ∧ (x.2 ≠ i → d.M w base (fun k => ok k ∧ f k = x.2) x.1 cs)
  K_len := fun {w x cs} h => by
    by_cases hx : x.2 = i
    · exact (h.1 hx).2.1
    · exact d.K_len (h.2 hx)
  K_one := fun {w x cs} h => by
    by_cases hx : x.2 = i
    · exact (h.1 hx).2.2
    · exact d.K_one (h.2 hx)
  K_below := fun hb h => ⟨h.1, fun hx => d.K_below hb (h.2 hx)⟩
  K_of_M := fun h => ⟨h.1, fun hx => d.K_of_M (h.2 hx)⟩
  M_mono := fun hok h => ⟨h.1, fun hx => d.M_mono (fun k hk => ⟨hok k hk.1, hk.2⟩) (h.2 hx)⟩
  M_bound := fun h => ⟨h.1, fun hx => d.M_mono (fun _ hk => ⟨⟨hk.1.1, hk.2⟩, hk.1.2⟩) (d.M_bound (h.2 hx))⟩
  M_move := fun hm h => ⟨h.1, fun hx => d.M_move (fun k hk => hm k hk.1) (h.2 hx)⟩
  M_lower := fun hb h => ⟨h.1, fun hx => d.M_lower hb (h.2 hx)⟩
def H {α : Type} (d : Kd α) (e : Nat) (w : World) (base : Nat) (ok : Nat → Prop) (v : Value) (xs : List α) (i : Int) (oki : Nat → Prop) (c : List Value) : Prop :=
  (∀ k, oki k → ok k) ∧ ∃ f, (gap f d i.toNat c).R e w base (fun k => ok k ∧ ¬ oki k) v xs.zipIdx
section
variable {α β : Type} {d : Kd α} {e e' g n cap : Nat} {w w1 W : World} {base : Nat} {ok ok' oki okp : Nat → Prop} {u v : Value} {xs : List α} {i : Int} {c : List Value}
open Classical in
end
section
variable {P : Program} {ops : Array Oper} {rest : List Oper} {o : Oper} {a : Act} {Q : Exit → Act → World → Prop} {α : Type}
end
end Kd
end Go.Proofs.YtjcabmhnekcbgaaDoorW.PrintWords
end
section
-- PRINTED BY print.sh 35421559b90ae4d0a3588c463048766b98c2df88dd9212a6774a882060cdf62d: not written by this session

namespace Go.Proofs.YtjcabmhnekcbgaaDoorW.PrintWords
open Go.RowKit
namespace Kd
/-- What a kind reads lies in the blocks: nothing else of the world is looked at. -/
structure Heap {α : Type} (d : Kd α) : Prop where
  K : ∀ {w w1 : World} {x : α} {cs : List Value}, (∀ k, k < w.heap.size → w1.heap[k]? = w.heap[k]?) → d.K w x cs → d.K w1 x cs
theorem cell_heap {w w1 : World} (hb : ∀ k, k < w.heap.size → w1.heap[k]? = w.heap[k]?) {a : Addr} {v : Value} (h : w.cell? a = some v) : w1.cell? a = some v := by
  have := hb a.block (World.block_lt_of_cell? w a h)
  simpa [World.cell?, this] using h
theorem Heap.C {α : Type} {d : Kd α} (hd : Heap d) {w w1 : World} {A : Option Addr} {n : Nat} {xs : List α} (hb : ∀ k, k < w.heap.size → w1.heap[k]? = w.heap[k]?) (h : d.C w A n xs) : d.C w1 A n xs :=
  ⟨h.1, h.2.1, fun hn => by
    obtain ⟨ad, e, hc⟩ := h.2.2 hn
    refine ⟨ad, e, fun j p hj => ?_⟩
    obtain ⟨c, hs, hr, hcell⟩ := hc j p hj
    exact ⟨c, hs, hd.K hb hr, fun i u hu => cell_heap hb (hcell i u hu)⟩⟩
section
variable {α : Type} {d : Kd α} {e base g n c : Nat} {ok : Nat → Prop} {w w0 W : World} {A : Option Addr} {xs : List α}
end
end Kd
end Go.Proofs.YtjcabmhnekcbgaaDoorW.PrintWords
end
section
-- PRINTED BY print.sh 35421559b90ae4d0a3588c463048766b98c2df88dd9212a6774a882060cdf62d: not written by this session

namespace Go.Proofs.YtjcabmhnekcbgaaDoorW.PrintWords
open Go.RowKit
def Kept (w W : World) (S : Nat → Prop) : Prop := w.heap.size ≤ W.heap.size ∧ ∀ i, i < w.heap.size → ¬ S i → W.heap[i]? = w.heap[i]?
section
variable {w W W2 : World} {S S2 S' : Nat → Prop}
theorem Kept.refl (w : World) (S : Nat → Prop) : Kept w w S := ⟨Nat.le_refl _, fun _ _ _ => rfl⟩
theorem Kept.of_below (h : Below w.heap.size w W) (S : Nat → Prop) : Kept w W S := ⟨h.size, fun i hi _ => h.block i hi⟩
theorem Kept.then_ (h : Kept w W S) (k : Kept W W2 S2) (hs : ∀ k, S2 k → S k ∨ w.heap.size ≤ k) : Kept w W2 S :=
  ⟨Nat.le_trans h.1 k.1, fun i hi hn => (k.2 i (Nat.lt_of_lt_of_le hi h.1) (fun h2 => (hs i h2).elim hn (fun h3 => by omega))).trans (h.2 i hi hn)⟩
theorem Kept.below (h : Kept w W S) (hb : Below W.heap.size W W2) : Kept w W2 S := h.then_ (Kept.of_below hb (fun _ => False)) (fun _ hk => hk.elim)
theorem Kept.alloc (h : Kept w W S) (o : Obj) : Kept w (W.alloc o) S := h.below (below_alloc (Below.refl _ _) o)
theorem Kept.drew (h : Kept w W S) : Kept w W.drew S := h
theorem Kept.drewN (h : Kept w W S) (m : Nat) : Kept w (W.drewN m) S := h
end
namespace Kd
section
variable {α : Type} {d : Kd α} {e base n c : Nat} {ok oki S S2 : Nat → Prop} {w w0 W W1 W2 : World} {v : Value} {A : Option Addr} {xs : List α} {i : Int} {cs : List Value}
end
end Kd
end Go.Proofs.YtjcabmhnekcbgaaDoorW.PrintWords
end
section
-- PRINTED BY print.sh 35421559b90ae4d0a3588c463048766b98c2df88dd9212a6774a882060cdf62d: not written by this session

namespace Go.Proofs.YtjcabmhnekcbgaaDoorW.PrintWords
open Go.RowKit
/-- P holds in W and in every world that has W's blocks of ok. -/
def Foot (P : World → Prop) (W : World) (ok : Nat → Prop) : Prop := ∀ W' : World, (∀ k, ok k → k < W.heap.size → W'.heap[k]? = W.heap[k]?) → P W'
theorem heap_lt {W W1 : World} {k : Nat} (h : W1.heap[k]? = W.heap[k]?) (hlt : k < W.heap.size) : k < W1.heap.size := by
  rw [Array.getElem?_eq_getElem hlt] at h
  exact (Array.getElem?_eq_some_iff.1 h).1
namespace Foot
variable {P Q : World → Prop} {W W1 : World} {ok ok' : Nat → Prop}
theorem bound (h : Foot P W ok) : Foot P W (fun k => ok k ∧ k < W.heap.size) := fun W' hW => h W' (fun k hk hlt => hW k ⟨hk, hlt⟩ hlt)
theorem step (h : Foot P W ok) (hm : ∀ k, ok k → k < W.heap.size → W1.heap[k]? = W.heap[k]?) : Foot P W1 ok := fun W' hW => h W' (fun k hk hlt => (hW k hk (heap_lt (hm k hk hlt) hlt)).trans (hm k hk hlt))
/-- Moved, and still elder than what is new since W. -/
theorem old (h : Foot P W ok) (hb : Below W.heap.size W W1) : Foot P W1 (fun k => ok k ∧ k < W.heap.size) := (h.bound).step (fun k _ hlt => hb.block k hlt)
end Foot
namespace Kd
/-- A row that is only read: what it leads to lies in ok. -/
def F {α : Type} (d : Kd α) (W : World) (ok : Nat → Prop) (A : Option Addr) (n : Nat) (xs : List α) : Prop := Foot (fun W => d.C W A n xs) W ok
/-- An element's cells: what they lead to lies in ok. -/
def FK {α : Type} (d : Kd α) (W : World) (ok : Nat → Prop) (x : α) (c : List Value) : Prop := Foot (fun W => d.K W x c) W ok
section
variable {α β : Type} {d : Kd α} {e base n n' cc g N : Nat} {ok ok' okp S : Nat → Prop} {w w0 w1 W W1 : World} {A A' : Option Addr} {u v v1 : Value} {xs : List α} {xs' : List β} {d' : Kd β} {x : α} {c : List Value}
end
end Kd
end Go.Proofs.YtjcabmhnekcbgaaDoorW.PrintWords
end
section
-- PRINTED BY print.sh 35421559b90ae4d0a3588c463048766b98c2df88dd9212a6774a882060cdf62d: not written by this session

namespace Go.Proofs.YtjcabmhnekcbgaaDoorW.PrintWords
open Go.RowKit
namespace Kd
section
variable {α : Type} {d : Kd α} {e base n cc g : Nat} {ok ok' okp S : Nat → Prop} {w w1 W W1 : World} {A : Option Addr} {u v v1 : Value} {xs : List α} {x : α} {c : List Value}
/-- A row of elements (type e) of the call's own; what the elements lead to is only read, and is not this row. -/
def N {α : Type} (d : Kd α) (e : Nat) (w : World) (base : Nat) (ok : Nat → Prop) (v : Value) (xs : List α) : Prop :=
  (∀ k, v.ownBlock = some k → ok k) ∧ ∃ rows : List (List Value), rows.length = xs.length ∧ (raw d.sz).R e w base (fun k => some k = v.ownBlock) v rows ∧ ∀ (j : Nat) (x : α) (c : List Value), xs[j]? = some x → rows[j]? = some c → FK d w (fun k => ok k ∧ some k ≠ v.ownBlock) x c
end
end Kd
end Go.Proofs.YtjcabmhnekcbgaaDoorW.PrintWords
end
section
-- PRINTED BY print.sh 35421559b90ae4d0a3588c463048766b98c2df88dd9212a6774a882060cdf62d: not written by this session
-- PRINTED WORDS (module Derived/Print/More.lean): go-gate-2's additions: an AI agent of Go's test side, Tue Nov 17 2026; no person has read it. Lean checks it.

namespace Go.Proofs.YtjcabmhnekcbgaaDoorW.PrintMore
open Go.RowKit Go.Proofs.YtjcabmhnekcbgaaDoorW.PrintWords
namespace Kd
open Go.Proofs.YtjcabmhnekcbgaaDoorW.PrintWords.Kd
end Kd

namespace Kd
open Go.Proofs.YtjcabmhnekcbgaaDoorW.PrintWords.Kd
section
variable {α : Type} {d : Kd α} {e base g N : Nat} {ok : Nat → Prop} {W w1 : World} {u v : Value} {xs : List α}
end
end Kd
end Go.Proofs.YtjcabmhnekcbgaaDoorW.PrintMore
namespace Go.Proofs.YtjcabmhnekcbgaaDoorW.PrintWords
open Go.RowKit
section
variable {P : Program} {ops : Array Oper} {rest : List Oper} {o : Oper} {a : Act} {Q : Exit → Act → World → Prop} {W : World}
end
/-- The greater of two whole numbers, as_ Go's max tells it. -/
def mx (a b : Int) : Int := if a < b then b else a
/-- The smaller of two whole numbers, as_ Go's min tells it. -/
def mn (a b : Int) : Int := if b < a then b else a
namespace Kd
section
variable {α : Type} {d : Kd α} {e base : Nat} {ok : Nat → Prop} {W w1 : World} {v : Value} {xs : List α}
end
section
variable {α : Type} {d : Kd α} {e base g n cap : Nat} {ok oki okp : Nat → Prop} {W : World} {xs : List α} {i : Int} {c : List Value}
end
section
variable {α : Type} {d : Kd α} {e base b b' g N : Nat} {ok ok1 : Nat → Prop} {W W2 w1 : World} {u v : Value} {xs ys : List α} {S : Nat → Prop}
end
end Kd
end Go.Proofs.YtjcabmhnekcbgaaDoorW.PrintWords
namespace Go.Proofs.YtjcabmhnekcbgaaDoorW.PrintWords
open Go.RowKit
namespace Kd
/-- A row that is only read, told by its value: its form, its length, what it leads to (in ok). e and base say nothing; they make it as_ the others are. -/
def V {α : Type} (d : Kd α) (_e : Nat) (W : World) (_base : Nat) (ok : Nat → Prop) (v : Value) (xs : List α) : Prop := ∃ A c, v = .slice A xs.length c ∧ xs.length ≤ c ∧ F d W ok A xs.length xs
section
variable {α β : Type} {d : Kd α} {e base base' n m c g N' lo hi : Nat} {ok ok' S : Nat → Prop} {w W w1 : World} {A : Option Addr} {ad : Addr} {u v v1 : Value} {xs : List α}
end
end Kd
end Go.Proofs.YtjcabmhnekcbgaaDoorW.PrintWords
end
section
namespace Go.Proofs.YtjcabmhnekcbgaaDoor.G
open Go.RowKit Go.Proofs.YtjcabmhnekcbgaaDoorW.PrintWords Go.Proofs.YtjcabmhnekcbgaaDoorW.PrintLast Go.ChangeMaps

/-- The first entry whose key meets eqv. -/
def firstBy (eqv : Value → Bool) : List MapEntry → Nat → Option (Nat × Value)
  | [], _ => none
  | e :: es, i => if eqv e.key = true then some (i, e.val) else firstBy eqv es (i + 1)

/-- Looking x up among keys of K goes by eqv. -/
def Finds (P : Program) (kt : TypeId) (x : Value) (eqv : Value → Bool) (K : Value → Prop) : Prop :=
  (∀ w em, (Instr.checkKey em 10000 kt x).run P w = .ok () w) ∧
  ∀ (w : World) (es : List MapEntry), (∀ e ∈ es, K e.key) → (Instr.findKey kt x es).run P w = .ok (firstBy eqv es 0) w

theorem findAsking_by {P : Program} {kt : TypeId} {x : Value} {eqv : Value → Bool} {w : World} : ∀ (es : List MapEntry) (i : Nat), (∀ e ∈ es, (Op.equal kt x e.key).run P w = .ok (eqv e.key) w) →
    (Instr.findAsking kt x es i).run P w = .ok (firstBy eqv es i) w
  | [], _, _ => by simp [Instr.findAsking, firstBy]
  | e :: es, i, h => by
    have h1 := h e (by simp)
    have ih := findAsking_by es (i + 1) (fun e' he => h e' (by simp [he]))
    unfold Instr.findAsking firstBy
    simp only [Sem.run_bind, h1, Result.andThen_ok]
    cases hb : eqv e.key
    · simp [ih]
    · simp

theorem finds_struct {P : Program} {kt : TypeId} {x : Value} {eqv : Value → Bool} {K : Value → Prop} {fs : Array Field} (hk : P.underlying kt = some (.struct fs)) (hc : ∀ w em, (Instr.checkKey em 10000 kt x).run P w = .ok () w)
    (heq : ∀ w k, K k → (Op.equal kt x k).run P w = .ok (eqv k) w) : Finds P kt x eqv K := by
  refine ⟨hc, fun w es hes => ?_⟩
  unfold Instr.findKey
  simp only [Sem.run_bind, run_underlying hk, Result.andThen_ok]
  cases es with
  | nil => simp [Instr.findNow, firstBy]
  | cons e es =>
    have : Instr.findNow (.struct fs) x (e :: es) 0 = none := by
      unfold Instr.findNow
      rfl
    rw [this]
    exact findAsking_by _ _ (fun e' he => heq w _ (hes e' he))

/-- Is it this number? -/
def isInt (x : Int) : Value → Bool
  | .int _ n => x == n
  | _ => false

theorem findNow_by {k : IntKind} {x : Int} : ∀ (es : List MapEntry) (i : Nat), (∀ e ∈ es, ∃ n, e.key = .int k n) → Instr.findNow (.int k) (.int k x) es i = some (firstBy (isInt x) es i)
  | [], _, _ => rfl
  | e :: es, i, h => by
    obtain ⟨n, hn⟩ := h e (by simp)
    have ih := findNow_by (x := x) es (i + 1) (fun e' he => h e' (by simp [he]))
    have e1 : Instr.sameNow (.int k) (.int k x) (.int k n) = some (isInt x (.int k n)) := by simp [Instr.sameNow, isInt]
    unfold Instr.findNow firstBy
    rw [hn, e1]
    cases isInt x (.int k n) <;> simp [ih]

theorem finds_int {P : Program} {kt : TypeId} {k : IntKind} {x : Int} {K : Value → Prop} (hk : P.underlying kt = some (.int k)) (hK : ∀ v, K v → ∃ n, v = .int k n) : Finds P kt (.int k x) (isInt x) K := by
  refine ⟨fun w em => ?_, fun w es hes => ?_⟩
  · unfold Instr.checkKey
    simp [run_underlying hk]
  · unfold Instr.findKey
    simp only [Sem.run_bind, run_underlying hk, Result.andThen_ok]
    rw [findNow_by es 0 (fun e he => hK _ (hes e he))]
    simp

/-- Block g of w is a map that holds just the rows of L whose number is listed in b: (number, key, value). -/
def MapOf (w : World) (g : Nat) (L : List (Nat × Value × Value)) (b : Nat → Bool) : Prop :=
  ∃ es clock, w.heap[g]? = some (.map es clock) ∧ (∀ e ∈ es.toList, ∃ l ∈ L, b l.1 = true ∧ l.2 = (e.key, e.val)) ∧ ∀ l ∈ L, b l.1 = true → ∃ e ∈ es.toList, l.2 = (e.key, e.val)

theorem MapOf.block {w w' : World} {g : Nat} {L : List (Nat × Value × Value)} {b : Nat → Bool} (h : MapOf w g L b) (he : w'.heap[g]? = w.heap[g]?) : MapOf w' g L b := by
  obtain ⟨es, c, h1, h2⟩ := h
  exact ⟨es, c, he.trans h1, h2⟩

theorem MapOf.lt {w : World} {g : Nat} {L : List (Nat × Value × Value)} {b : Nat → Bool} (h : MapOf w g L b) : g < w.heap.size := by
  obtain ⟨es, c, h1, _⟩ := h
  exact (Array.getElem?_eq_some_iff.1 h1).1

theorem MapOf.made (w : World) (L : List (Nat × Value × Value)) (b : Nat → Bool) (hb : ∀ l ∈ L, b l.1 = false) : MapOf (w.alloc (.map #[] 0)) w.heap.size L b :=
  ⟨#[], 0, (MapKept.heap_alloc w _).1, by simp, fun l hl h => by rw [hb l hl] at h; cases h⟩

theorem MapOf.same {w : World} {g : Nat} {L : List (Nat × Value × Value)} {b b' : Nat → Bool} (h : MapOf w g L b) (he : ∀ l ∈ L, b' l.1 = b l.1) : MapOf w g L b' := by
  obtain ⟨es, c, h1, h2, h3⟩ := h
  refine ⟨es, c, h1, fun e he' => ?_, fun l hl hb => h3 l hl (by rw [← he l hl]; exact hb)⟩
  obtain ⟨l, hl, hb, e1⟩ := h2 e he'
  exact ⟨l, hl, by rw [he l hl]; exact hb, e1⟩

theorem firstBy_none {eqv : Value → Bool} : ∀ {es : List MapEntry} {i : Nat}, (∀ e ∈ es, eqv e.key = false) → firstBy eqv es i = none
  | [], _, _ => rfl
  | e :: es, i, h => by
    unfold firstBy
    rw [if_neg (by rw [h e (by simp)]; decide)]
    exact firstBy_none (fun e' he => h e' (by simp [he]))

theorem firstBy_some {eqv : Value → Bool} : ∀ {es : List MapEntry} {i : Nat}, (∃ e ∈ es, eqv e.key = true) → ∃ j e, e ∈ es ∧ eqv e.key = true ∧ firstBy eqv es i = some (j, e.val)
  | [], _, ⟨_, h, _⟩ => by cases h
  | e :: es, i, h => by
    unfold firstBy
    by_cases hb : eqv e.key = true
    · rw [if_pos hb]
      exact ⟨i, e, by simp, hb, rfl⟩
    · rw [if_neg hb]
      obtain ⟨e', he', hb'⟩ := h
      rcases List.mem_cons.1 he' with rfl | he'
      · exact absurd hb' hb
      obtain ⟨j, e1, h1, h2, h3⟩ := firstBy_some (i := i + 1) ⟨e', he', hb'⟩
      exact ⟨j, e1, by simp [h1], h2, h3⟩

/-- A row is put into the map. -/
theorem MapOf.put {P : Program} {w : World} {g t kt et : Nat} {L : List (Nat × Value × Value)} {b : Nat → Bool} (h : MapOf w g L b) (ht : P.underlying t = some (.map kt et)) {i : Nat} {x v : Value} (hi : (i, x, v) ∈ L)
    {eqv : Value → Bool} (hF : Finds P kt x eqv (fun k => ∃ l ∈ L, l.2.1 = k)) (hne : ∀ l ∈ L, b l.1 = true → eqv l.2.1 = false) (huniq : ∀ l ∈ L, l.1 = i → l = (i, x, v)) :
    ∃ w', (Instr.mapUpdate t (.map (some g)) x v).run P w = .ok () w' ∧ MapOf w' g L (up b i) ∧ w.grownBy w' (some g) := by
  obtain ⟨es, c, h1, h2, h3⟩ := h
  have hf := hF.2 w es.toList (fun e he => by
    obtain ⟨l, hl, _, e1⟩ := h2 e he
    exact ⟨l, hl, by rw [e1]⟩)
  rw [firstBy_none (fun e he => by
    obtain ⟨l, hl, hb, e1⟩ := h2 e he
    have := hne l hl hb
    rwa [e1] at this)] at hf
  refine ⟨setBlock w g (.map (es.push ⟨x, v, c⟩) (c + 1)), ?_, ⟨es.push ⟨x, v, c⟩, c + 1, heap_setBlock_same h1 _, fun e he => ?_, fun l hl hb => ?_⟩, ⟨rfl, rfl, rfl, by simp [setBlock], fun i _ hi => heap_setBlock_other h1 _ (fun e => hi (by rw [e]))⟩⟩
  · simp [Instr.mapUpdate, run_underlying ht, MapKept.run_getObj_map h1, hF.1 w false, hf, MapKept.run_setObj_map _ h1, Result.andThen, setBlock]
  · simp only [Array.toList_push, List.mem_append, List.mem_singleton] at he
    rcases he with he | rfl
    · obtain ⟨l, hl, hb, e1⟩ := h2 e he
      refine ⟨l, hl, ?_, e1⟩
      unfold up
      split
      · rfl
      · exact hb
    · exact ⟨_, hi, up_self b i, rfl⟩
  · by_cases hli : l.1 = i
    · rw [huniq l hl hli]
      exact ⟨⟨x, v, c⟩, by simp, rfl⟩
    · rw [up_ne hli] at hb
      obtain ⟨e, he, e1⟩ := h3 l hl hb
      exact ⟨e, by simp [he], e1⟩

/-- What a key finds: the value of the one row that it meets, or nothing. -/
theorem MapOf.find {P : Program} {w : World} {g kt : Nat} {L : List (Nat × Value × Value)} {b : Nat → Bool} {x : Value} {eqv : Value → Bool} (h : MapOf w g L b) (hall : ∀ l ∈ L, b l.1 = true) (hF : Finds P kt x eqv (fun k => ∃ l ∈ L, l.2.1 = k)) :
    ∃ es clock, w.heap[g]? = some (.map es clock) ∧ (((∀ l ∈ L, eqv l.2.1 = false) ∧ (Instr.findKey kt x es.toList).run P w = .ok none w) ∨
      ∃ j l, l ∈ L ∧ eqv l.2.1 = true ∧ (Instr.findKey kt x es.toList).run P w = .ok (some (j, l.2.2)) w) := by
  obtain ⟨es, c, h1, h2, h3⟩ := h
  refine ⟨es, c, h1, ?_⟩
  have hf := hF.2 w es.toList (fun e he => by
    obtain ⟨l, hl, _, e1⟩ := h2 e he
    exact ⟨l, hl, by rw [e1]⟩)
  by_cases hex : ∃ l ∈ L, eqv l.2.1 = true
  · obtain ⟨l, hl, hb⟩ := hex
    obtain ⟨e, he, e1⟩ := h3 l hl (hall l hl)
    obtain ⟨j, e', he', hb', hj⟩ := firstBy_some (eqv := eqv) (i := 0) ⟨e, he, by rw [e1] at hb; exact hb⟩
    obtain ⟨l', hl', _, e1'⟩ := h2 e' he'
    refine .inr ⟨j, l', hl', by rw [e1']; exact hb', ?_⟩
    rw [hf, hj, e1']
  · have hn : ∀ l ∈ L, eqv l.2.1 = false := fun l hl => by
      cases hb : eqv l.2.1
      · rfl
      · exact absurd ⟨l, hl, hb⟩ hex
    refine .inl ⟨hn, ?_⟩
    rw [hf, firstBy_none (fun e he => by
      obtain ⟨l, hl, _, e1⟩ := h2 e he
      have := hn l hl
      rwa [e1] at this)]

/-- 'v, ok := m[x]' and 'm[x]', the key there. -/
theorem MapOf.look {P : Program} {w : World} {g t kt et : Nat} {L : List (Nat × Value × Value)} {b : Nat → Bool} {x : Value} {eqv : Value → Bool} (h : MapOf w g L b) (hall : ∀ l ∈ L, b l.1 = true) (ht : P.underlying t = some (.map kt et))
    (hF : Finds P kt x eqv (fun k => ∃ l ∈ L, l.2.1 = k)) {v : Value} (hex : ∃ l ∈ L, eqv l.2.1 = true) (hv : ∀ l ∈ L, eqv l.2.1 = true → l.2.2 = v) (c : Bool) :
    (Instr.lookup t (.map (some g)) x c).run P w = .ok (if c = true then .tuple #[v, .bool true] else v) w := by
  obtain ⟨es, clk, h1, h2⟩ := h.find hall hF
  obtain ⟨l0, hl0, hb0⟩ := hex
  rcases h2 with ⟨hn, _⟩ | ⟨j, l, hl, hb, hrun⟩
  · rw [hn l0 hl0] at hb0
    cases hb0
  · have := hv l hl hb
    subst this
    cases c <;> simp [Instr.lookup, run_underlying ht, MapKept.run_getObj_map h1, hF.1 w _, hrun, Result.andThen]

end Go.Proofs.YtjcabmhnekcbgaaDoor.G
end
section
-- PRINTED BY print.sh 35421559b90ae4d0a3588c463048766b98c2df88dd9212a6774a882060cdf62d: not written by this session

namespace Go.Proofs.YtjcabmhnekcbgaaDoorW.PrintWords
open Go.RowKit
section
variable {P : Program} {d : Nat} {xs ys : Array Value} {f : Field} {fs : List Field} {a b : Value} {r s : Bool} {w : World}
/-- The last field that counts. -/
theorem eqf_last (hn : (f.name == "_") = false) (ha : (part f.type xs f.offset).run P w = .ok a w) (hb : (part f.type ys f.offset).run P w = .ok b w) (he : (Op.equalIn d f.type a b).run P w = .ok r w) : (Op.eqFields d xs ys [f]).run P w = .ok r w := by
  have hn' : f.name ≠ "_" := by simpa using hn
  simp only [Op.eqFields, if_pos hn', Sem.run_bind, ha, hb, he, Result.andThen_ok]
  cases r <;> simp
theorem eqf_cons (hn : (f.name == "_") = false) (ha : (part f.type xs f.offset).run P w = .ok a w) (hb : (part f.type ys f.offset).run P w = .ok b w) (he : (Op.equalIn d f.type a b).run P w = .ok r w) (hr : (Op.eqFields d xs ys fs).run P w = .ok s w) : (Op.eqFields d xs ys (f :: fs)).run P w = .ok (r && s) w := by
  have hn' : f.name ≠ "_" := by simpa using hn
  rw [Op.eqFields]
  simp only [if_pos hn', Sem.run_bind, ha, hb, he, Result.andThen_ok]
  cases r
  · simp
  · simpa using hr
theorem eqA_of {t : TypeId} {fs : Array Field} (hu : P.underlying t = some (.struct fs)) (hp : P.stoodInHeld t = false) (h : (Op.eqFields d xs ys fs.toList).run P w = .ok r w) : (Op.equalIn (d + 1) t (.agg xs) (.agg ys)).run P w = .ok r w := by
  have hf : P.fieldsOf t = fs := by simp [Program.fieldsOf, hu]
  rw [run_equalIn_struct (P := P) w d t xs ys (by rw [hf]; exact hu) hp, hf]
  exact h
end
end Go.Proofs.YtjcabmhnekcbgaaDoorW.PrintWords
end
section
namespace Go.Proofs.YtjcabmhnekcbgaaDoor.G
open Go.RowKit Go.Proofs.YtjcabmhnekcbgaaDoorW.PrintWords Go.Proofs.YtjcabmhnekcbgaaDoorW.PrintLast Go.Proofs.YtjcabmhnekcbgaaDoorW.PrintMore Go.ChangeMaps
theorem eqA23 (d : Nat) (w : World) (x0 y0 : Int) (x1 y1 : Bool) :
    (Op.equalIn (d + 2) 23 (.agg #[.int .i64 x0, .bool x1]) (.agg #[.int .i64 y0, .bool y1])).run Tryd.prog w = .ok (x0 == y0 && (x1 == y1)) w := by
  refine eqA_of Tryd.underlying23 (by kernel_rfl) ?_
  refine eqf_cons (by rfl) (by go_simp; rfl) (by go_simp; rfl) (by go_simp) ?_
  exact eqf_last (by rfl) (by go_simp; rfl) (by go_simp; rfl) (by go_simp)
/-- Is it this type? -/
def isTy (s : Int) (b : Bool) : Value → Bool
  | .agg ⟨[.int _ n, .bool c]⟩ => s == n && b == c
  | _ => false
def conversions.L : List (Nat × Value × Value) := [(2, (.agg #[.int .i64 1, .bool true]), (.func (.func 77) #[] #[])), (4, (.agg #[.int .i64 1, .bool false]), (.func (.func 78) #[] #[])), (6, (.agg #[.int .i64 2, .bool true]), (.func (.func 79) #[] #[])), (8, (.agg #[.int .i64 2, .bool false]), (.func (.func 80) #[] #[])), (10, (.agg #[.int .i64 4, .bool true]), (.func (.func 81) #[] #[])), (12, (.agg #[.int .i64 4, .bool false]), (.func (.func 82) #[] #[])), (14, (.agg #[.int .i64 8, .bool true]), (.func (.func 83) #[] #[])), (16, (.agg #[.int .i64 8, .bool false]), (.func (.func 84) #[] #[]))]
theorem conversions.ht : Tryd.prog.underlying 84 = some (.map 23 82) := Tryd.underlying84
theorem conversions.keys (v : Value) (h : ∃ l ∈ conversions.L, l.2.1 = v) : ∃ n c, v = .agg #[.int .i64 n, .bool c] := by
  obtain ⟨l, hl, rfl⟩ := h
  simp [conversions.L] at hl
  rcases hl with rfl | rfl | rfl | rfl | rfl | rfl | rfl | rfl <;> exact ⟨_, _, rfl⟩
theorem conversions.finds (s : Int) (b : Bool) : Finds Tryd.prog 23 (.agg #[.int .i64 s, .bool b]) (isTy s b) (fun k => ∃ l ∈ conversions.L, l.2.1 = k) := by
  refine finds_struct Tryd.underlying23 (fun w em => by
    unfold Instr.checkKey
    have h1 : ∀ (em : Bool) w, (Instr.checkKey em 9999 3 (.int .i64 s)).run Tryd.prog w = .ok () w := fun em w => by unfold Instr.checkKey; simp [run_underlying Tryd.underlying3]
    have h2 : ∀ (em : Bool) w, (Instr.checkKey em 9999 4 (.bool b)).run Tryd.prog w = .ok () w := fun em w => by unfold Instr.checkKey; simp [run_underlying Tryd.underlying4]
    go_simp
    done) ?_
  intro w k hk
  obtain ⟨n, c, rfl⟩ := conversions.keys k hk
  exact eqA23 _ w s n b c
theorem conversions.apart2 (b : Nat → Bool) (hb : b 2 = false) : ∀ l ∈ conversions.L, b l.1 = true → isTy 1 true l.2.1 = false := by
  intro l hl h
  simp [conversions.L] at hl
  rcases hl with rfl | rfl | rfl | rfl | rfl | rfl | rfl | rfl <;> first | rfl | (simp only at h; rw [hb] at h; cases h)
theorem conversions.apart4 (b : Nat → Bool) (hb : b 4 = false) : ∀ l ∈ conversions.L, b l.1 = true → isTy 1 false l.2.1 = false := by
  intro l hl h
  simp [conversions.L] at hl
  rcases hl with rfl | rfl | rfl | rfl | rfl | rfl | rfl | rfl <;> first | rfl | (simp only at h; rw [hb] at h; cases h)
theorem conversions.apart6 (b : Nat → Bool) (hb : b 6 = false) : ∀ l ∈ conversions.L, b l.1 = true → isTy 2 true l.2.1 = false := by
  intro l hl h
  simp [conversions.L] at hl
  rcases hl with rfl | rfl | rfl | rfl | rfl | rfl | rfl | rfl <;> first | rfl | (simp only at h; rw [hb] at h; cases h)
theorem conversions.apart8 (b : Nat → Bool) (hb : b 8 = false) : ∀ l ∈ conversions.L, b l.1 = true → isTy 2 false l.2.1 = false := by
  intro l hl h
  simp [conversions.L] at hl
  rcases hl with rfl | rfl | rfl | rfl | rfl | rfl | rfl | rfl <;> first | rfl | (simp only at h; rw [hb] at h; cases h)
theorem conversions.apart10 (b : Nat → Bool) (hb : b 10 = false) : ∀ l ∈ conversions.L, b l.1 = true → isTy 4 true l.2.1 = false := by
  intro l hl h
  simp [conversions.L] at hl
  rcases hl with rfl | rfl | rfl | rfl | rfl | rfl | rfl | rfl <;> first | rfl | (simp only at h; rw [hb] at h; cases h)
theorem conversions.apart12 (b : Nat → Bool) (hb : b 12 = false) : ∀ l ∈ conversions.L, b l.1 = true → isTy 4 false l.2.1 = false := by
  intro l hl h
  simp [conversions.L] at hl
  rcases hl with rfl | rfl | rfl | rfl | rfl | rfl | rfl | rfl <;> first | rfl | (simp only at h; rw [hb] at h; cases h)
theorem conversions.apart14 (b : Nat → Bool) (hb : b 14 = false) : ∀ l ∈ conversions.L, b l.1 = true → isTy 8 true l.2.1 = false := by
  intro l hl h
  simp [conversions.L] at hl
  rcases hl with rfl | rfl | rfl | rfl | rfl | rfl | rfl | rfl <;> first | rfl | (simp only at h; rw [hb] at h; cases h)
theorem conversions.apart16 (b : Nat → Bool) (hb : b 16 = false) : ∀ l ∈ conversions.L, b l.1 = true → isTy 8 false l.2.1 = false := by
  intro l hl h
  simp [conversions.L] at hl
  rcases hl with rfl | rfl | rfl | rfl | rfl | rfl | rfl | rfl <;> first | rfl | (simp only at h; rw [hb] at h; cases h)
def conversions.T1 : Bool × List (List Nat × List Nat) := (true, [([], []), ([], []), ([0, 1], [0, 1]), ([], []), ([0, 3], [0, 3]), ([], []), ([0, 5], [0, 5]), ([], []), ([0, 7], [0, 7]), ([], []), ([0, 9], [0, 9]), ([], []), ([0, 11], [0, 11]), ([], []), ([0, 13], [0, 13]), ([], []), ([0, 15], [0, 15]), ([0, 1, 2, 3, 4, 5, 6, 7, 8, 9, 10, 11, 12, 13, 14, 15, 16], [0]), ([17, 0, 1, 2, 3, 4, 5, 6, 7, 8, 9, 10, 11, 12, 13, 14, 15, 16, 17], [17])])
def conversions.B1 : List Nat := [0, 0, 3, 0, 9, 0, 33, 0, 129, 0, 513, 0, 2049, 0, 8193, 0, 32769, 131071, 262143]
theorem conversions.tab1 : rtab .any (opsOf Tryd.f50 1) = conversions.T1 := by kernel_rfl
theorem conversions.bits1 : waitsOk conversions.T1.2 conversions.B1 = true := by kernel_rfl
set_option maxHeartbeats 2000000 in
set_option maxRecDepth 100000 in
theorem conversions.calls (w : World) : Calls Tryd.prog 50 #[] w fun e w' => ∃ g, e = .returned (.map (some g)) ∧ w.heap.size ≤ g ∧ MapOf w' g conversions.L (fun _ => true) ∧ Below w.heap.size w w' := by
  go_enter Tryd.func50, Tryd.ntmps50
  go_wp2
  refine start_ (n := 19) (S := fun w' => True) (ds := []) #[false, false, false, false, false, false, false, false, false, false, false, false, false, false, false, false, false, false, false] (by kernel_rfl) rfl rfl trivial (fun hHeld => ?_)
  refine with_tabW conversions.tab1 conversions.bits1 (fun HT_ HW_ => ?_)
  refine pure_ (i := 1) (N := some 2) (v := (.agg #[.int .i64 1, .bool true])) #[false, true, false, false, false, false, false, false, false, false, false, false, false, false, false, false, false, false, false] rfl rfl (any_of HT_.out (by kernel_rfl)) (fun _ _ _ h => h) (Or.inl ⟨by rfl, fun w' => by first | (go_simp; done) | (go_simp; rfl)⟩) rfl ?_
  refine pure_ (i := 3) (N := some 3) (v := (.agg #[.int .i64 1, .bool false])) #[false, true, false, true, false, false, false, false, false, false, false, false, false, false, false, false, false, false, false] rfl rfl (any_of HT_.out (by kernel_rfl)) (fun _ _ _ h => h) (Or.inl ⟨by rfl, fun w' => by first | (go_simp; done) | (go_simp; rfl)⟩) rfl ?_
  refine pure_ (i := 5) (N := some 4) (v := (.agg #[.int .i64 2, .bool true])) #[false, true, false, true, false, true, false, false, false, false, false, false, false, false, false, false, false, false, false] rfl rfl (any_of HT_.out (by kernel_rfl)) (fun _ _ _ h => h) (Or.inl ⟨by rfl, fun w' => by first | (go_simp; done) | (go_simp; rfl)⟩) rfl ?_
  refine pure_ (i := 7) (N := some 5) (v := (.agg #[.int .i64 2, .bool false])) #[false, true, false, true, false, true, false, true, false, false, false, false, false, false, false, false, false, false, false] rfl rfl (any_of HT_.out (by kernel_rfl)) (fun _ _ _ h => h) (Or.inl ⟨by rfl, fun w' => by first | (go_simp; done) | (go_simp; rfl)⟩) rfl ?_
  refine pure_ (i := 9) (N := some 6) (v := (.agg #[.int .i64 4, .bool true])) #[false, true, false, true, false, true, false, true, false, true, false, false, false, false, false, false, false, false, false] rfl rfl (any_of HT_.out (by kernel_rfl)) (fun _ _ _ h => h) (Or.inl ⟨by rfl, fun w' => by first | (go_simp; done) | (go_simp; rfl)⟩) rfl ?_
  refine pure_ (i := 11) (N := some 7) (v := (.agg #[.int .i64 4, .bool false])) #[false, true, false, true, false, true, false, true, false, true, false, true, false, false, false, false, false, false, false] rfl rfl (any_of HT_.out (by kernel_rfl)) (fun _ _ _ h => h) (Or.inl ⟨by rfl, fun w' => by first | (go_simp; done) | (go_simp; rfl)⟩) rfl ?_
  refine pure_ (i := 13) (N := some 8) (v := (.agg #[.int .i64 8, .bool true])) #[false, true, false, true, false, true, false, true, false, true, false, true, false, true, false, false, false, false, false] rfl rfl (any_of HT_.out (by kernel_rfl)) (fun _ _ _ h => h) (Or.inl ⟨by rfl, fun w' => by first | (go_simp; done) | (go_simp; rfl)⟩) rfl ?_
  refine pure_ (i := 15) (N := some 9) (v := (.agg #[.int .i64 8, .bool false])) #[false, true, false, true, false, true, false, true, false, true, false, true, false, true, false, true, false, false, false] rfl rfl (any_of HT_.out (by kernel_rfl)) (fun _ _ _ h => h) (Or.inl ⟨by rfl, fun w' => by first | (go_simp; done) | (go_simp; rfl)⟩) rfl ?_
  refine one_ (i := 0) (N := some 1) #[true, true, false, true, false, true, false, true, false, true, false, true, false, true, false, true, false, false, false] rfl rfl (one_of HT_.out (by kernel_rfl)) (by decide) (fun K hK => ?_)
  refine value_ (w1 := w.drew.alloc (.map #[] 0)) (v := .map (some w.heap.size)) (by rfl) rfl (by first | rfl | (go_simp; rfl)) ?_
  refine hK.out _ _ trivial (fun _ => ?_)
  refine norm_ (by simp only [Act.put, List.setIfInBounds_toArray, List.set_cons_zero, List.set_cons_succ]; rfl) ?_
  refine inv_at [2, 4, 6, 8, 10, 12, 14, 16, 17, 18] (fun a0_ b a w' => a = putSel a0_ b [(17, 10, .map (some w.heap.size)), (18, 0, .map (some w.heap.size))] ∧ MapOf w' w.heap.size conversions.L b ∧ Below w.heap.size w w') HT_.out HW_.out (by kernel_rfl) (by kernel_rfl) ?_ ?_ ?_
  · exact ⟨by simp only [putSel, Bool.false_eq_true, if_false], MapOf.made w.drew _ _ (by intros; rfl), ((Below.refl _ _).drew).alloc (Nat.le_refl _) _⟩
  · skip
    refine steps_cons ?_ ?_
    · rintro b a w' ⟨ha, hM, hB⟩ hb_ hon hoff
      refine ⟨_, rfl, fun K hK => ?_⟩
      have e1 : a.tmps[1]? = some (.map (some w.heap.size)) := by rw [ha]; exact (putSel_off rfl).trans rfl
      have e2 : a.tmps[2]? = some ((.agg #[.int .i64 1, .bool true])) := by rw [ha]; exact (putSel_off rfl).trans rfl
      obtain ⟨w1, hrun, hM1, hgr⟩ := hM.put (P := Tryd.prog) conversions.ht (i := 2) (x := (.agg #[.int .i64 1, .bool true])) (v := (.func (.func 77) #[] #[])) (by simp [conversions.L]) (conversions.finds 1 true) (by exact conversions.apart2 b hb_) (by intro l hl hi; simp [conversions.L] at hl; rcases hl with rfl | rfl | rfl | rfl | rfl | rfl | rfl | rfl <;> first | rfl | (simp at hi))
      refine skip_ (w1 := w1) (by rfl) rfl ?_ ?_
      · unfold execOp
        simp [Act.eval, e1, e2, hrun]
      refine hK.out _ _ ⟨?_, hM1, hB.grown hgr (hB.size) (fun k hk => by cases hk; exact Nat.le_refl _)⟩
      rw [ha]; exact putSel_none (v := undef) rfl
    refine steps_cons ?_ ?_
    · rintro b a w' ⟨ha, hM, hB⟩ hb_ hon hoff
      refine ⟨_, rfl, fun K hK => ?_⟩
      have e1 : a.tmps[1]? = some (.map (some w.heap.size)) := by rw [ha]; exact (putSel_off rfl).trans rfl
      have e3 : a.tmps[3]? = some ((.agg #[.int .i64 1, .bool false])) := by rw [ha]; exact (putSel_off rfl).trans rfl
      obtain ⟨w1, hrun, hM1, hgr⟩ := hM.put (P := Tryd.prog) conversions.ht (i := 4) (x := (.agg #[.int .i64 1, .bool false])) (v := (.func (.func 78) #[] #[])) (by simp [conversions.L]) (conversions.finds 1 false) (by exact conversions.apart4 b hb_) (by intro l hl hi; simp [conversions.L] at hl; rcases hl with rfl | rfl | rfl | rfl | rfl | rfl | rfl | rfl <;> first | rfl | (simp at hi))
      refine skip_ (w1 := w1) (by rfl) rfl ?_ ?_
      · unfold execOp
        simp [Act.eval, e1, e3, hrun]
      refine hK.out _ _ ⟨?_, hM1, hB.grown hgr (hB.size) (fun k hk => by cases hk; exact Nat.le_refl _)⟩
      rw [ha]; exact putSel_none (v := undef) rfl
    refine steps_cons ?_ ?_
    · rintro b a w' ⟨ha, hM, hB⟩ hb_ hon hoff
      refine ⟨_, rfl, fun K hK => ?_⟩
      have e1 : a.tmps[1]? = some (.map (some w.heap.size)) := by rw [ha]; exact (putSel_off rfl).trans rfl
      have e4 : a.tmps[4]? = some ((.agg #[.int .i64 2, .bool true])) := by rw [ha]; exact (putSel_off rfl).trans rfl
      obtain ⟨w1, hrun, hM1, hgr⟩ := hM.put (P := Tryd.prog) conversions.ht (i := 6) (x := (.agg #[.int .i64 2, .bool true])) (v := (.func (.func 79) #[] #[])) (by simp [conversions.L]) (conversions.finds 2 true) (by exact conversions.apart6 b hb_) (by intro l hl hi; simp [conversions.L] at hl; rcases hl with rfl | rfl | rfl | rfl | rfl | rfl | rfl | rfl <;> first | rfl | (simp at hi))
      refine skip_ (w1 := w1) (by rfl) rfl ?_ ?_
      · unfold execOp
        simp [Act.eval, e1, e4, hrun]
      refine hK.out _ _ ⟨?_, hM1, hB.grown hgr (hB.size) (fun k hk => by cases hk; exact Nat.le_refl _)⟩
      rw [ha]; exact putSel_none (v := undef) rfl
    refine steps_cons ?_ ?_
    · rintro b a w' ⟨ha, hM, hB⟩ hb_ hon hoff
      refine ⟨_, rfl, fun K hK => ?_⟩
      have e1 : a.tmps[1]? = some (.map (some w.heap.size)) := by rw [ha]; exact (putSel_off rfl).trans rfl
      have e5 : a.tmps[5]? = some ((.agg #[.int .i64 2, .bool false])) := by rw [ha]; exact (putSel_off rfl).trans rfl
      obtain ⟨w1, hrun, hM1, hgr⟩ := hM.put (P := Tryd.prog) conversions.ht (i := 8) (x := (.agg #[.int .i64 2, .bool false])) (v := (.func (.func 80) #[] #[])) (by simp [conversions.L]) (conversions.finds 2 false) (by exact conversions.apart8 b hb_) (by intro l hl hi; simp [conversions.L] at hl; rcases hl with rfl | rfl | rfl | rfl | rfl | rfl | rfl | rfl <;> first | rfl | (simp at hi))
      refine skip_ (w1 := w1) (by rfl) rfl ?_ ?_
      · unfold execOp
        simp [Act.eval, e1, e5, hrun]
      refine hK.out _ _ ⟨?_, hM1, hB.grown hgr (hB.size) (fun k hk => by cases hk; exact Nat.le_refl _)⟩
      rw [ha]; exact putSel_none (v := undef) rfl
    refine steps_cons ?_ ?_
    · rintro b a w' ⟨ha, hM, hB⟩ hb_ hon hoff
      refine ⟨_, rfl, fun K hK => ?_⟩
      have e1 : a.tmps[1]? = some (.map (some w.heap.size)) := by rw [ha]; exact (putSel_off rfl).trans rfl
      have e6 : a.tmps[6]? = some ((.agg #[.int .i64 4, .bool true])) := by rw [ha]; exact (putSel_off rfl).trans rfl
      obtain ⟨w1, hrun, hM1, hgr⟩ := hM.put (P := Tryd.prog) conversions.ht (i := 10) (x := (.agg #[.int .i64 4, .bool true])) (v := (.func (.func 81) #[] #[])) (by simp [conversions.L]) (conversions.finds 4 true) (by exact conversions.apart10 b hb_) (by intro l hl hi; simp [conversions.L] at hl; rcases hl with rfl | rfl | rfl | rfl | rfl | rfl | rfl | rfl <;> first | rfl | (simp at hi))
      refine skip_ (w1 := w1) (by rfl) rfl ?_ ?_
      · unfold execOp
        simp [Act.eval, e1, e6, hrun]
      refine hK.out _ _ ⟨?_, hM1, hB.grown hgr (hB.size) (fun k hk => by cases hk; exact Nat.le_refl _)⟩
      rw [ha]; exact putSel_none (v := undef) rfl
    refine steps_cons ?_ ?_
    · rintro b a w' ⟨ha, hM, hB⟩ hb_ hon hoff
      refine ⟨_, rfl, fun K hK => ?_⟩
      have e1 : a.tmps[1]? = some (.map (some w.heap.size)) := by rw [ha]; exact (putSel_off rfl).trans rfl
      have e7 : a.tmps[7]? = some ((.agg #[.int .i64 4, .bool false])) := by rw [ha]; exact (putSel_off rfl).trans rfl
      obtain ⟨w1, hrun, hM1, hgr⟩ := hM.put (P := Tryd.prog) conversions.ht (i := 12) (x := (.agg #[.int .i64 4, .bool false])) (v := (.func (.func 82) #[] #[])) (by simp [conversions.L]) (conversions.finds 4 false) (by exact conversions.apart12 b hb_) (by intro l hl hi; simp [conversions.L] at hl; rcases hl with rfl | rfl | rfl | rfl | rfl | rfl | rfl | rfl <;> first | rfl | (simp at hi))
      refine skip_ (w1 := w1) (by rfl) rfl ?_ ?_
      · unfold execOp
        simp [Act.eval, e1, e7, hrun]
      refine hK.out _ _ ⟨?_, hM1, hB.grown hgr (hB.size) (fun k hk => by cases hk; exact Nat.le_refl _)⟩
      rw [ha]; exact putSel_none (v := undef) rfl
    refine steps_cons ?_ ?_
    · rintro b a w' ⟨ha, hM, hB⟩ hb_ hon hoff
      refine ⟨_, rfl, fun K hK => ?_⟩
      have e1 : a.tmps[1]? = some (.map (some w.heap.size)) := by rw [ha]; exact (putSel_off rfl).trans rfl
      have e8 : a.tmps[8]? = some ((.agg #[.int .i64 8, .bool true])) := by rw [ha]; exact (putSel_off rfl).trans rfl
      obtain ⟨w1, hrun, hM1, hgr⟩ := hM.put (P := Tryd.prog) conversions.ht (i := 14) (x := (.agg #[.int .i64 8, .bool true])) (v := (.func (.func 83) #[] #[])) (by simp [conversions.L]) (conversions.finds 8 true) (by exact conversions.apart14 b hb_) (by intro l hl hi; simp [conversions.L] at hl; rcases hl with rfl | rfl | rfl | rfl | rfl | rfl | rfl | rfl <;> first | rfl | (simp at hi))
      refine skip_ (w1 := w1) (by rfl) rfl ?_ ?_
      · unfold execOp
        simp [Act.eval, e1, e8, hrun]
      refine hK.out _ _ ⟨?_, hM1, hB.grown hgr (hB.size) (fun k hk => by cases hk; exact Nat.le_refl _)⟩
      rw [ha]; exact putSel_none (v := undef) rfl
    refine steps_cons ?_ ?_
    · rintro b a w' ⟨ha, hM, hB⟩ hb_ hon hoff
      refine ⟨_, rfl, fun K hK => ?_⟩
      have e1 : a.tmps[1]? = some (.map (some w.heap.size)) := by rw [ha]; exact (putSel_off rfl).trans rfl
      have e9 : a.tmps[9]? = some ((.agg #[.int .i64 8, .bool false])) := by rw [ha]; exact (putSel_off rfl).trans rfl
      obtain ⟨w1, hrun, hM1, hgr⟩ := hM.put (P := Tryd.prog) conversions.ht (i := 16) (x := (.agg #[.int .i64 8, .bool false])) (v := (.func (.func 84) #[] #[])) (by simp [conversions.L]) (conversions.finds 8 false) (by exact conversions.apart16 b hb_) (by intro l hl hi; simp [conversions.L] at hl; rcases hl with rfl | rfl | rfl | rfl | rfl | rfl | rfl | rfl <;> first | rfl | (simp at hi))
      refine skip_ (w1 := w1) (by rfl) rfl ?_ ?_
      · unfold execOp
        simp [Act.eval, e1, e9, hrun]
      refine hK.out _ _ ⟨?_, hM1, hB.grown hgr (hB.size) (fun k hk => by cases hk; exact Nat.le_refl _)⟩
      rw [ha]; exact putSel_none (v := undef) rfl
    refine steps_cons ?_ ?_
    · rintro b a w' ⟨ha, hM, hB⟩ hb_ hon hoff
      refine ⟨_, rfl, fun K hK => ?_⟩
      have e1 : a.tmps[1]? = some (.map (some w.heap.size)) := by rw [ha]; exact (putSel_off rfl).trans rfl
      refine value_ (w1 := w') (v := .map (some w.heap.size)) (by rfl) rfl ?_ ?_
      · unfold execOp
        simp [Act.eval, e1]
      refine hK.out _ _ ⟨?_, hM.same (by intro l hl; simp [conversions.L] at hl; rcases hl with rfl | rfl | rfl | rfl | rfl | rfl | rfl | rfl <;> rfl), hB⟩
      rw [ha]; exact putSel_upk 0 hb_ rfl rfl rfl
    refine steps_cons ?_ ?_
    · rintro b a w' ⟨ha, hM, hB⟩ hb_ hon hoff
      refine ⟨_, rfl, fun K hK => ?_⟩
      have e10 : a.tmps[10]? = some (.map (some w.heap.size)) := by rw [ha]; exact putSel_on (e := (17, 10, .map (some w.heap.size))) 0 rfl rfl (hon 17 (by kernel_rfl)) rfl
      refine value_ (w1 := w') (v := .map (some w.heap.size)) (by rfl) rfl ?_ ?_
      · unfold execOp
        simp [Act.eval, e10]
      refine hK.out _ _ ⟨?_, hM.same (by intro l hl; simp [conversions.L] at hl; rcases hl with rfl | rfl | rfl | rfl | rfl | rfl | rfl | rfl <;> rfl), hB⟩
      rw [ha]; exact putSel_upk 1 hb_ rfl rfl rfl
    exact steps_nil
  · clear HT_ HW_ hHeld
    rintro b a w1 hall ⟨ha, hM, hB⟩
    have hb17_ := hall 17 (by kernel_rfl)
    have hb18_ := hall 18 (by kernel_rfl)
    replace hM : MapOf w1 w.heap.size conversions.L (fun _ => true) := hM.same (by intro l hl; simp [conversions.L] at hl; rcases hl with rfl | rfl | rfl | rfl | rfl | rfl | rfl | rfl <;> exact (hall _ (by kernel_rfl)).symm)
    subst ha
    simp only [putSel, hb17_, hb18_, if_true, Act.put, List.setIfInBounds_toArray, List.set_cons_zero, List.set_cons_succ]
    go_wp2
    go_ret
    exact ⟨_, rfl, Nat.le_refl _, hM, hB⟩
def arithmetic.L : List (Nat × Value × Value) := [(1, (.int .i64 1), (.func (.func 58) #[] #[])), (2, (.int .i64 2), (.func (.func 59) #[] #[])), (3, (.int .i64 3), (.func (.func 60) #[] #[])), (4, (.int .i64 6), (.func (.func 61) #[] #[])), (5, (.int .i64 7), (.func (.func 62) #[] #[])), (6, (.int .i64 8), (.func (.func 63) #[] #[])), (7, (.int .i64 4), (.func (.func 64) #[] #[])), (8, (.int .i64 5), (.func (.func 66) #[] #[]))]
theorem arithmetic.ht : Tryd.prog.underlying 67 = some (.map 3 65) := Tryd.underlying67
theorem arithmetic.finds (x : Int) : Finds Tryd.prog 3 (.int .i64 x) (isInt x) (fun k => ∃ l ∈ arithmetic.L, l.2.1 = k) := by
  refine finds_int Tryd.underlying3 (fun v h => ?_)
  obtain ⟨l, hl, rfl⟩ := h
  simp [arithmetic.L] at hl
  rcases hl with rfl | rfl | rfl | rfl | rfl | rfl | rfl | rfl <;> exact ⟨_, rfl⟩
set_option maxHeartbeats 2000000 in
set_option maxRecDepth 100000 in
theorem arithmetic.calls (w : World) : Calls Tryd.prog 35 #[] w fun e w' => ∃ g, e = .returned (.map (some g)) ∧ w.heap.size ≤ g ∧ MapOf w' g arithmetic.L (fun _ => true) ∧ Below w.heap.size w w' := by
  go_enter Tryd.func35, Tryd.ntmps35
  go_wp2
  rename_i Q0 K0 hK0 Km hKm
  have hm : (Instr.makeMap 67 none).run Tryd.prog w = .ok (.map (some w.heap.size)) (w.alloc (.map #[] 0)) := by first | rfl | (go_simp; rfl)
  rw [hm]
  refine hKm _ _ ?_
  have hM0 : MapOf (w.alloc (.map #[] 0)) w.heap.size arithmetic.L (fun _ => false) := MapOf.made w _ _ (fun _ _ => rfl)
  have hB0 : Below w.heap.size w (w.alloc (.map #[] 0)) := (Below.refl _ _).alloc (Nat.le_refl _) _
  go_wp2
  rename_i K1 hK1
  obtain ⟨w1, hr1, hM1, hg1⟩ := hM0.put (P := Tryd.prog) arithmetic.ht (i := 1) (x := (.int .i64 1)) (v := (.func (.func 58) #[] #[])) (by simp [arithmetic.L]) (arithmetic.finds 1) (by intro l hl h; simp [arithmetic.L] at hl; rcases hl with rfl | rfl | rfl | rfl | rfl | rfl | rfl | rfl <;> first | rfl | (simp [up] at h)) (by intro l hl hi; simp [arithmetic.L] at hl; rcases hl with rfl | rfl | rfl | rfl | rfl | rfl | rfl | rfl <;> first | rfl | (simp at hi))
  have hB1 := hB0.grown hg1 hB0.size (fun k hk => by cases hk; exact Nat.le_refl _)
  rw [hr1]
  refine hK1 _ _ ?_
  go_wp2
  rename_i K2 hK2
  obtain ⟨w2, hr2, hM2, hg2⟩ := hM1.put (P := Tryd.prog) arithmetic.ht (i := 2) (x := (.int .i64 2)) (v := (.func (.func 59) #[] #[])) (by simp [arithmetic.L]) (arithmetic.finds 2) (by intro l hl h; simp [arithmetic.L] at hl; rcases hl with rfl | rfl | rfl | rfl | rfl | rfl | rfl | rfl <;> first | rfl | (simp [up] at h)) (by intro l hl hi; simp [arithmetic.L] at hl; rcases hl with rfl | rfl | rfl | rfl | rfl | rfl | rfl | rfl <;> first | rfl | (simp at hi))
  have hB2 := hB1.grown hg2 hB1.size (fun k hk => by cases hk; exact Nat.le_refl _)
  rw [hr2]
  refine hK2 _ _ ?_
  go_wp2
  rename_i K3 hK3
  obtain ⟨w3, hr3, hM3, hg3⟩ := hM2.put (P := Tryd.prog) arithmetic.ht (i := 3) (x := (.int .i64 3)) (v := (.func (.func 60) #[] #[])) (by simp [arithmetic.L]) (arithmetic.finds 3) (by intro l hl h; simp [arithmetic.L] at hl; rcases hl with rfl | rfl | rfl | rfl | rfl | rfl | rfl | rfl <;> first | rfl | (simp [up] at h)) (by intro l hl hi; simp [arithmetic.L] at hl; rcases hl with rfl | rfl | rfl | rfl | rfl | rfl | rfl | rfl <;> first | rfl | (simp at hi))
  have hB3 := hB2.grown hg3 hB2.size (fun k hk => by cases hk; exact Nat.le_refl _)
  rw [hr3]
  refine hK3 _ _ ?_
  go_wp2
  rename_i K4 hK4
  obtain ⟨w4, hr4, hM4, hg4⟩ := hM3.put (P := Tryd.prog) arithmetic.ht (i := 4) (x := (.int .i64 6)) (v := (.func (.func 61) #[] #[])) (by simp [arithmetic.L]) (arithmetic.finds 6) (by intro l hl h; simp [arithmetic.L] at hl; rcases hl with rfl | rfl | rfl | rfl | rfl | rfl | rfl | rfl <;> first | rfl | (simp [up] at h)) (by intro l hl hi; simp [arithmetic.L] at hl; rcases hl with rfl | rfl | rfl | rfl | rfl | rfl | rfl | rfl <;> first | rfl | (simp at hi))
  have hB4 := hB3.grown hg4 hB3.size (fun k hk => by cases hk; exact Nat.le_refl _)
  rw [hr4]
  refine hK4 _ _ ?_
  go_wp2
  rename_i K5 hK5
  obtain ⟨w5, hr5, hM5, hg5⟩ := hM4.put (P := Tryd.prog) arithmetic.ht (i := 5) (x := (.int .i64 7)) (v := (.func (.func 62) #[] #[])) (by simp [arithmetic.L]) (arithmetic.finds 7) (by intro l hl h; simp [arithmetic.L] at hl; rcases hl with rfl | rfl | rfl | rfl | rfl | rfl | rfl | rfl <;> first | rfl | (simp [up] at h)) (by intro l hl hi; simp [arithmetic.L] at hl; rcases hl with rfl | rfl | rfl | rfl | rfl | rfl | rfl | rfl <;> first | rfl | (simp at hi))
  have hB5 := hB4.grown hg5 hB4.size (fun k hk => by cases hk; exact Nat.le_refl _)
  rw [hr5]
  refine hK5 _ _ ?_
  go_wp2
  rename_i K6 hK6
  obtain ⟨w6, hr6, hM6, hg6⟩ := hM5.put (P := Tryd.prog) arithmetic.ht (i := 6) (x := (.int .i64 8)) (v := (.func (.func 63) #[] #[])) (by simp [arithmetic.L]) (arithmetic.finds 8) (by intro l hl h; simp [arithmetic.L] at hl; rcases hl with rfl | rfl | rfl | rfl | rfl | rfl | rfl | rfl <;> first | rfl | (simp [up] at h)) (by intro l hl hi; simp [arithmetic.L] at hl; rcases hl with rfl | rfl | rfl | rfl | rfl | rfl | rfl | rfl <;> first | rfl | (simp at hi))
  have hB6 := hB5.grown hg6 hB5.size (fun k hk => by cases hk; exact Nat.le_refl _)
  rw [hr6]
  refine hK6 _ _ ?_
  go_wp2
  rename_i K7 hK7
  obtain ⟨w7, hr7, hM7, hg7⟩ := hM6.put (P := Tryd.prog) arithmetic.ht (i := 7) (x := (.int .i64 4)) (v := (.func (.func 64) #[] #[])) (by simp [arithmetic.L]) (arithmetic.finds 4) (by intro l hl h; simp [arithmetic.L] at hl; rcases hl with rfl | rfl | rfl | rfl | rfl | rfl | rfl | rfl <;> first | rfl | (simp [up] at h)) (by intro l hl hi; simp [arithmetic.L] at hl; rcases hl with rfl | rfl | rfl | rfl | rfl | rfl | rfl | rfl <;> first | rfl | (simp at hi))
  have hB7 := hB6.grown hg7 hB6.size (fun k hk => by cases hk; exact Nat.le_refl _)
  rw [hr7]
  refine hK7 _ _ ?_
  go_wp2
  rename_i K8 hK8
  obtain ⟨w8, hr8, hM8, hg8⟩ := hM7.put (P := Tryd.prog) arithmetic.ht (i := 8) (x := (.int .i64 5)) (v := (.func (.func 66) #[] #[])) (by simp [arithmetic.L]) (arithmetic.finds 5) (by intro l hl h; simp [arithmetic.L] at hl; rcases hl with rfl | rfl | rfl | rfl | rfl | rfl | rfl | rfl <;> first | rfl | (simp [up] at h)) (by intro l hl hi; simp [arithmetic.L] at hl; rcases hl with rfl | rfl | rfl | rfl | rfl | rfl | rfl | rfl <;> first | rfl | (simp at hi))
  have hB8 := hB7.grown hg8 hB7.size (fun k hk => by cases hk; exact Nat.le_refl _)
  rw [hr8]
  refine hK8 _ _ ?_
  go_wp2
  have hM := hM8.same (b' := fun _ => true) (by intro l hl; simp [arithmetic.L] at hl; rcases hl with rfl | rfl | rfl | rfl | rfl | rfl | rfl | rfl <;> rfl)
  go_wp2
  go_ret
  exact ⟨_, rfl, Nat.le_refl _, hM, hB8⟩
def relations.L : List (Nat × Value × Value) := [(1, (.int .i64 11), (.func (.func 67) #[] #[])), (2, (.int .i64 12), (.func (.func 68) #[] #[])), (3, (.int .i64 13), (.func (.func 69) #[] #[])), (4, (.int .i64 14), (.func (.func 70) #[] #[])), (5, (.int .i64 15), (.func (.func 71) #[] #[])), (6, (.int .i64 16), (.func (.func 72) #[] #[]))]
theorem relations.ht : Tryd.prog.underlying 71 = some (.map 3 69) := Tryd.underlying71
theorem relations.finds (x : Int) : Finds Tryd.prog 3 (.int .i64 x) (isInt x) (fun k => ∃ l ∈ relations.L, l.2.1 = k) := by
  refine finds_int Tryd.underlying3 (fun v h => ?_)
  obtain ⟨l, hl, rfl⟩ := h
  simp [relations.L] at hl
  rcases hl with rfl | rfl | rfl | rfl | rfl | rfl <;> exact ⟨_, rfl⟩
set_option maxHeartbeats 2000000 in
set_option maxRecDepth 100000 in
theorem relations.calls (w : World) : Calls Tryd.prog 36 #[] w fun e w' => ∃ g, e = .returned (.map (some g)) ∧ w.heap.size ≤ g ∧ MapOf w' g relations.L (fun _ => true) ∧ Below w.heap.size w w' := by
  go_enter Tryd.func36, Tryd.ntmps36
  go_wp2
  rename_i Q0 K0 hK0 Km hKm
  have hm : (Instr.makeMap 71 none).run Tryd.prog w = .ok (.map (some w.heap.size)) (w.alloc (.map #[] 0)) := by first | rfl | (go_simp; rfl)
  rw [hm]
  refine hKm _ _ ?_
  have hM0 : MapOf (w.alloc (.map #[] 0)) w.heap.size relations.L (fun _ => false) := MapOf.made w _ _ (fun _ _ => rfl)
  have hB0 : Below w.heap.size w (w.alloc (.map #[] 0)) := (Below.refl _ _).alloc (Nat.le_refl _) _
  go_wp2
  rename_i K1 hK1
  obtain ⟨w1, hr1, hM1, hg1⟩ := hM0.put (P := Tryd.prog) relations.ht (i := 1) (x := (.int .i64 11)) (v := (.func (.func 67) #[] #[])) (by simp [relations.L]) (relations.finds 11) (by intro l hl h; simp [relations.L] at hl; rcases hl with rfl | rfl | rfl | rfl | rfl | rfl <;> first | rfl | (simp [up] at h)) (by intro l hl hi; simp [relations.L] at hl; rcases hl with rfl | rfl | rfl | rfl | rfl | rfl <;> first | rfl | (simp at hi))
  have hB1 := hB0.grown hg1 hB0.size (fun k hk => by cases hk; exact Nat.le_refl _)
  rw [hr1]
  refine hK1 _ _ ?_
  go_wp2
  rename_i K2 hK2
  obtain ⟨w2, hr2, hM2, hg2⟩ := hM1.put (P := Tryd.prog) relations.ht (i := 2) (x := (.int .i64 12)) (v := (.func (.func 68) #[] #[])) (by simp [relations.L]) (relations.finds 12) (by intro l hl h; simp [relations.L] at hl; rcases hl with rfl | rfl | rfl | rfl | rfl | rfl <;> first | rfl | (simp [up] at h)) (by intro l hl hi; simp [relations.L] at hl; rcases hl with rfl | rfl | rfl | rfl | rfl | rfl <;> first | rfl | (simp at hi))
  have hB2 := hB1.grown hg2 hB1.size (fun k hk => by cases hk; exact Nat.le_refl _)
  rw [hr2]
  refine hK2 _ _ ?_
  go_wp2
  rename_i K3 hK3
  obtain ⟨w3, hr3, hM3, hg3⟩ := hM2.put (P := Tryd.prog) relations.ht (i := 3) (x := (.int .i64 13)) (v := (.func (.func 69) #[] #[])) (by simp [relations.L]) (relations.finds 13) (by intro l hl h; simp [relations.L] at hl; rcases hl with rfl | rfl | rfl | rfl | rfl | rfl <;> first | rfl | (simp [up] at h)) (by intro l hl hi; simp [relations.L] at hl; rcases hl with rfl | rfl | rfl | rfl | rfl | rfl <;> first | rfl | (simp at hi))
  have hB3 := hB2.grown hg3 hB2.size (fun k hk => by cases hk; exact Nat.le_refl _)
  rw [hr3]
  refine hK3 _ _ ?_
  go_wp2
  rename_i K4 hK4
  obtain ⟨w4, hr4, hM4, hg4⟩ := hM3.put (P := Tryd.prog) relations.ht (i := 4) (x := (.int .i64 14)) (v := (.func (.func 70) #[] #[])) (by simp [relations.L]) (relations.finds 14) (by intro l hl h; simp [relations.L] at hl; rcases hl with rfl | rfl | rfl | rfl | rfl | rfl <;> first | rfl | (simp [up] at h)) (by intro l hl hi; simp [relations.L] at hl; rcases hl with rfl | rfl | rfl | rfl | rfl | rfl <;> first | rfl | (simp at hi))
  have hB4 := hB3.grown hg4 hB3.size (fun k hk => by cases hk; exact Nat.le_refl _)
  rw [hr4]
  refine hK4 _ _ ?_
  go_wp2
  rename_i K5 hK5
  obtain ⟨w5, hr5, hM5, hg5⟩ := hM4.put (P := Tryd.prog) relations.ht (i := 5) (x := (.int .i64 15)) (v := (.func (.func 71) #[] #[])) (by simp [relations.L]) (relations.finds 15) (by intro l hl h; simp [relations.L] at hl; rcases hl with rfl | rfl | rfl | rfl | rfl | rfl <;> first | rfl | (simp [up] at h)) (by intro l hl hi; simp [relations.L] at hl; rcases hl with rfl | rfl | rfl | rfl | rfl | rfl <;> first | rfl | (simp at hi))
  have hB5 := hB4.grown hg5 hB4.size (fun k hk => by cases hk; exact Nat.le_refl _)
  rw [hr5]
  refine hK5 _ _ ?_
  go_wp2
  rename_i K6 hK6
  obtain ⟨w6, hr6, hM6, hg6⟩ := hM5.put (P := Tryd.prog) relations.ht (i := 6) (x := (.int .i64 16)) (v := (.func (.func 72) #[] #[])) (by simp [relations.L]) (relations.finds 16) (by intro l hl h; simp [relations.L] at hl; rcases hl with rfl | rfl | rfl | rfl | rfl | rfl <;> first | rfl | (simp [up] at h)) (by intro l hl hi; simp [relations.L] at hl; rcases hl with rfl | rfl | rfl | rfl | rfl | rfl <;> first | rfl | (simp at hi))
  have hB6 := hB5.grown hg6 hB5.size (fun k hk => by cases hk; exact Nat.le_refl _)
  rw [hr6]
  refine hK6 _ _ ?_
  go_wp2
  have hM := hM6.same (b' := fun _ => true) (by intro l hl; simp [relations.L] at hl; rcases hl with rfl | rfl | rfl | rfl | rfl | rfl <;> rfl)
  go_wp2
  go_ret
  exact ⟨_, rfl, Nat.le_refl _, hM, hB6⟩
end Go.Proofs.YtjcabmhnekcbgaaDoor.G
end
section
namespace Go.Ab
open Go.RowKit

section
variable {P : Program} {T : Tr} {w w' : World} {φ : Nat → Option Loc} {S : Nat → Prop} {hp : Hp} {b0 : Nat → Prop} {x : Value}

theorem HOk.empty (hold : ∀ k, S k → k < w.heap.size) : HOk T (fun _ => none) b0 w S [] :=
  ⟨fun n => (by simp [look]), fun n b h => (by cases h), fun n b l B h => (by cases h), fun n m b c l k B h => (by cases h), hold⟩

end
end Go.Ab
end
section
namespace Go.Ab
open Go.RowKit

/-- May the value v (its rows: h) be told as_ v', a value without rows? -/
def pleS (h : Hp) (v v' : V) : Prop := match v' with
  | .sl u es => match v with
    | .nil => es = []
    | .row n => match look h n with
      | some (.row u' es') => u' = u ∧ es' = es
      | some (.ro u' es') => u' = u ∧ es' = es
      | _ => False
    | .sl u' es' => u' = u ∧ es' = es
    | _ => False
  | .i k n => match v with
    | .i k' n' => k' = k ∧ n' = n
    | _ => False
  | .b c => match v with
    | .b c' => c' = c
    | _ => False
  | .str s => match v with
    | .str s' => s' = s
    | _ => False
  | .nil => match v with
    | .nil => True
    | _ => False
  | _ => False

def pleL (h : Hp) : List V → List V → Prop
  | [], [] => True
  | v :: r, v' :: r' => pleS h v v' ∧ pleL h r r'
  | _, _ => False

def ple1 (h : Hp) (v v' : V) : Prop := match v' with
  | .agg ds => match v with
    | .agg cs => pleL h cs ds
    | _ => False
  | v' => pleS h v v'

def ple1L (h : Hp) : List V → List V → Prop
  | [], [] => True
  | v :: r, v' :: r' => ple1 h v v' ∧ ple1L h r r'
  | _, _ => False

def ple (h : Hp) (v v' : V) : Prop := match v' with
  | .tup ds => match v with
    | .tup cs => ple1L h cs ds
    | _ => False
  | v' => ple1 h v v'

section
variable {P : Program} {T : Tr} {w0 : Base} {φ : Nat → Option Loc} {w w' : World} {S S' : Nat → Prop} {v v' : V} {hp h : Hp} {b0 : Nat → Prop} {x : Value}

/-- All that the rows hold may be read. -/
def allS (φ : Nat → Option Loc) (S : Nat → Prop) (h : Hp) (k : Nat) : Prop := S k ∨ ∃ n u es l, look h n = some (.row u es) ∧ φ n = some l ∧ l.blk = some k

theorem pleS_rel (P : Program) (w0 : Base) (hh : HOk T φ b0 w S h) (hr : rel T φ w S v x) (hp : pleS h v v') : rel T (fun _ => none) w (allS φ S h) v' x := by
  have free : ∀ {S1 : Nat → Prop} {et es}, (∀ k, S1 k → allS φ S h k) → rel T φ w S1 (.sl et es) x → rel T (fun _ => none) w (allS φ S h) (.sl et es) x := by
    intro S1 et es hS hr
    have hr := rel_mono (LocLe.refl φ) (w' := w) (fun _ _ => rfl) hS _ _ hr
    simp only [rel] at hr ⊢
    obtain ⟨A, cap, h1, h2, h3, h5, h6⟩ := hr
    refine ⟨A, cap, h1, h2, h3, h5, fun hne => ?_⟩
    obtain ⟨ad, e, ha, hl, hz, hs, he⟩ := h6 hne
    exact ⟨ad, e, ha, hl, hz, hs, wtL_free es et 0 ad e.size h5 he⟩
  cases v' with
  | sl u es =>
    simp only [pleS] at hp
    split at hp
    · subst hp
      simp only [rel] at hr ⊢
      subst hr
      exact ⟨none, 0, rfl, Nat.le_refl _, Nat.zero_le _, by simp [wtL], fun hne => absurd rfl hne⟩
    · rename_i n
      have hx := expS_ok (P := P) (w0 := w0) hh hr
      split at hp
      · rename_i u' es' hl
        obtain ⟨rfl, rfl⟩ := hp
        simp only [expS, hl] at hx
        refine free (fun k hk => ?_) hx
        rcases hk with hk | ⟨m, hm, l, h1, h2⟩
        · exact .inl hk
        · simp only [rowsS, List.mem_singleton] at hm
          subst hm
          exact .inr ⟨m, _, _, l, hl, h1, h2⟩
      · rename_i u' es' hl
        obtain ⟨rfl, rfl⟩ := hp
        simp only [expS, hl] at hx
        refine free (fun k hk => ?_) hx
        rcases hk with hk | ⟨m, hm, l, h1, h2⟩
        · exact .inl hk
        · simp only [rowsS, List.mem_singleton] at hm
          subst hm
          exact .inl (ro_S hh hl l k h1 h2)
      · exact hp.elim
    · obtain ⟨rfl, rfl⟩ := hp
      exact free (fun k hk => .inl hk) hr
    · exact hp.elim
  | i k n =>
    simp only [pleS] at hp
    split at hp
    · obtain ⟨rfl, rfl⟩ := hp; simpa only [rel] using hr
    · exact hp.elim
  | b c =>
    simp only [pleS] at hp
    split at hp
    · subst hp; simpa only [rel] using hr
    · exact hp.elim
  | str s =>
    simp only [pleS] at hp
    split at hp
    · subst hp; simpa only [rel] using hr
    · exact hp.elim
  | nil =>
    simp only [pleS] at hp
    split at hp
    · simpa only [rel] using hr
    · exact hp.elim
  | _ => exact hp.elim

theorem pleL_rel (P : Program) (w0 : Base) (hh : HOk T φ b0 w S h) : ∀ {cs ds : List V} {xs : List Value}, relL T φ w S cs xs → pleL h cs ds → relL T (fun _ => none) w (allS φ S h) ds xs
  | [], [], xs, hr, _ => by simpa only [relL] using hr
  | v :: r, v' :: r', xs, hr, hp => by
    simp only [relL, pleL] at hr hp ⊢
    obtain ⟨x, xs', h1, h2, h3⟩ := hr
    exact ⟨x, xs', h1, pleS_rel P w0 hh h2 hp.1, pleL_rel P w0 hh h3 hp.2⟩
  | [], _ :: _, _, _, hp => hp.elim
  | _ :: _, [], _, _, hp => hp.elim

theorem ple1_rel (P : Program) (w0 : Base) (hh : HOk T φ b0 w S h) (hr : rel T φ w S v x) (hp : ple1 h v v') : rel T (fun _ => none) w (allS φ S h) v' x := by
  cases v' with
  | agg ds =>
    simp only [ple1] at hp
    split at hp
    · simp only [rel] at hr ⊢
      obtain ⟨a, h1, h2, h3⟩ := hr
      exact ⟨a, h1, pleL_rel P w0 hh h2 hp, h3⟩
    · exact hp.elim
  | _ => exact pleS_rel P w0 hh hr (by simpa only [ple1] using hp)

theorem ple1L_rel (P : Program) (w0 : Base) (hh : HOk T φ b0 w S h) : ∀ {cs ds : List V} {xs : List Value}, relL T φ w S cs xs → ple1L h cs ds → relL T (fun _ => none) w (allS φ S h) ds xs
  | [], [], xs, hr, _ => by simpa only [relL] using hr
  | v :: r, v' :: r', xs, hr, hp => by
    simp only [relL, ple1L] at hr hp ⊢
    obtain ⟨x, xs', h1, h2, h3⟩ := hr
    exact ⟨x, xs', h1, ple1_rel P w0 hh h2 hp.1, ple1L_rel P w0 hh h3 hp.2⟩
  | [], _ :: _, _, _, hp => hp.elim
  | _ :: _, [], _, _, hp => hp.elim

theorem ple_rel (P : Program) (w0 : Base) (hh : HOk T φ b0 w S h) (hr : rel T φ w S v x) (hp : ple h v v') : rel T (fun _ => none) w (allS φ S h) v' x := by
  cases v' with
  | tup ds =>
    simp only [ple] at hp
    split at hp
    · simp only [rel] at hr ⊢
      obtain ⟨a, h1, h2⟩ := hr
      exact ⟨a, h1, ple1L_rel P w0 hh h2 hp⟩
    · exact hp.elim
  | _ => exact ple1_rel P w0 hh hr (by simpa only [ple] using hp)

/-- An answer of which only so much is known. -/
def FnR (P : Program) (T : Tr) (f : Nat) (args : List V) (R : V → Hp → Prop) : Prop :=
  ∀ (w : World) (S : Nat → Prop) (vals : List Value), (∀ k, S k → k < w.heap.size) → GOk T w → relL T (fun _ => none) w S args vals →
    Goes P f vals.toArray w fun e w' => ∃ x φ' S' v post, e = .returned x ∧ Since (.of w) w' ∧ HOk T φ' (oldZ w) w' S' post ∧ rel T φ' w' S' v x ∧ (∀ k, S' k → S k ∨ w.heap.size ≤ k) ∧ R v post

theorem FnR.pure {f : Nat} {args : List V} {res : V} (hf : FnR P T f args fun v h => ple h v res) : Fn P T f args res [] := by
  refine fun w S vals hold hG hr => Goes.weaken (hf w S vals hold hG hr) (fun e w' hq => ?_)
  obtain ⟨x, φ', S', v, post, he, h1, h2, h3, h4, h5⟩ := hq
  have hx := ple_rel P (.of w) h2 h3 h5
  refine ⟨x, fun _ => none, allS φ' S' post, he, h1, HOk.empty (fun k hk => ?_), hx, fun k hk => ?_⟩
  · rcases hk with hk | ⟨n, u, es, l, g1, g2, g3⟩
    · exact h2.old k hk
    · exact (h2.own n _ l k g1 rfl g2 g3).2.1
  · rcases hk with hk | ⟨n, u, es, l, g1, g2, g3⟩
    · exact h4 k hk
    · exact .inr (Nat.not_lt.1 (h2.own n _ l k g1 rfl g2 g3).1)

theorem fnr_of_vc (htok : TyOk P T) {f : Nat} {fn : Func} {c : Code} {W : Nat → List (List Nat)} {args : List V} {R : V → Hp → Prop} (hf : P.funcs[f]? = some fn) (hname : (fn.name == "runtime.NumGoroutine") = false) (hb : fn.body = some c) (hok : codeOk W c = true)
    (h : ∀ w : World, GZ T (.of w) → vc (real P T (.of w)) T W c (retK (real P T (.of w)) T fn.results.toList R) (args ++ List.replicate (fn.ntmps - args.length) .dead) []) : FnR P T f args R := by
  refine fun w S vals hold hG hr => .inl ⟨⟨fn, c, hf, hname, hb⟩, ?_⟩
  haveI := GZ.of_ok hG
  have hlen := (relL_iff.1 hr).1
  refine (callsIn_wide (n := 0)).1 (callsIn_of_wp hf hb trivial ?_)
  have hi : Inv T (.of w) (fun _ => none) S (args ++ List.replicate (fn.ntmps - args.length) .dead) [] { tmps := vals.toArray ++ Array.replicate (fn.ntmps - vals.toArray.size) undef, defers := [] } w := by
    refine ⟨Since.refl w, by simp [hlen], fun t => ?_, rfl, ⟨fun n => by simp [look], fun n b h => (by cases h), fun n b l B h => (by cases h), fun n m b c l k B h => (by cases h), hold⟩, fun p hp => by cases hp⟩
    by_cases ht : t < args.length
    · obtain ⟨u, h1, h2⟩ := relL_get hr ht
      have e1 : (args ++ List.replicate (fn.ntmps - args.length) V.dead).getD t .dead = args.getD t .dead := by
        simp only [List.getD_eq_getElem?_getD, List.getElem?_append_left ht]
      have e2 : (vals.toArray ++ Array.replicate (fn.ntmps - vals.toArray.size) undef).getD t undef = u := by
        rw [Array.getD_eq_getD_getElem?, Array.getElem?_append_left (by simp; omega)]
        simp [h1]
      rw [e1, e2]
      exact h2
    · have e1 : (args ++ List.replicate (fn.ntmps - args.length) V.dead).getD t .dead = .dead := by
        simp only [List.getD_eq_getElem?_getD, List.getElem?_append_right (by omega : args.length ≤ t), List.getElem?_replicate]
        split <;> rfl
      rw [e1]
      simp only [rel]
  have key : ∀ {tm hp φ S' a w'}, SLe (oldZ w) S S' → Inv T (.of w) φ S' tm hp a w' → retF (real P T (.of w)) T fn.results.toList R tm hp →
      a.defers = [] ∧ ∃ v, (results fn a.tmps).run P w' = .ok v w' ∧ ∃ x φ' S' r post, Ending.returned v = .returned x ∧ Since (.of w) w' ∧ HOk T φ' (oldZ w) w' S' post ∧ rel T φ' w' S' r x ∧ (∀ k, S' k → S k ∨ w.heap.size ≤ k) ∧ R r post := by
    intro tm hp φ S' a w' hS hi h
    obtain ⟨x, v, φ', S2, post', h1, h2, h3, h4, h5⟩ := results_ok htok hi h
    exact ⟨hi.dfr, x, h1, x, φ', S2, v, post', rfl, hi.since, h3, h4, fun k hk => ((hS.trans h2).2 k hk).imp id Nat.not_lt.1, h5⟩
  refine wpIn_mono (vc_ok htok c hok (h w this) _ _ _ _ hi) (fun e a' w' hp => ?_)
  obtain ⟨φ', S', tm', hp', h1, h2, h3, h4⟩ := hp
  cases e with
  | normal => exact key h1 h2 h3
  | ret => exact key h1 h2 h3
  | exit i => exact h3.elim
  | _ => exact h4.elim

/-- As 'fn_rules', where the answer is told by values alone. -/
theorem fn_pure (htok : TyOk P T) {f : Nat} {fn : Func} {c : Code} (W : Nat → List (List Nat)) {args : List V} {res : V} (hf : P.funcs[f]? = some fn) (hname : (fn.name == "runtime.NumGoroutine") = false) (hb : fn.body = some c) (hok : codeOk W c = true)
    (h : ∀ ar un cv mn mx pl mi cmp nt beq an scmp cat slen sbyte ssub ofB toB len gi gb gs gl sub put app ovl rep ne0 ge0 inb bnd room sroom need br call callb loop cut nl, Eqs ar un cv mn mx pl mi cmp nt beq an scmp cat slen sbyte ssub ofB toB len gi gb gs gl sub put app ovl rep ne0 ge0 inb bnd room sroom → Rules P T W [] ar un cv mn mx pl mi cmp nt beq an scmp cat slen sbyte ssub ofB toB len gi gb gs gl sub put app ovl rep ne0 ge0 inb bnd room sroom need br call callb loop cut nl → ∀ K : V → Hp → Prop, (∀ v h, ple h v res → K v h) → vc ⟨ar, un, cv, mn, mx, pl, mi, cmp, nt, beq, an, scmp, cat, slen, sbyte, ssub, ofB, toB, len, gi, gb, gs, gl, sub, put, app, ovl, rep, ne0, ge0, inb, bnd, room, sroom, need, br, call, callb, loop, cut, nl⟩ T W c (retK ⟨ar, un, cv, mn, mx, pl, mi, cmp, nt, beq, an, scmp, cat, slen, sbyte, ssub, ofB, toB, len, gi, gb, gs, gl, sub, put, app, ovl, rep, ne0, ge0, inb, bnd, room, sroom, need, br, call, callb, loop, cut, nl⟩ T fn.results.toList K) (args ++ List.replicate (fn.ntmps - args.length) .dead) []) : Ab.Fn P T f args res [] := by
  refine FnR.pure (fnr_of_vc htok hf hname hb hok (fun w g => ?_))
  generalize ho : real P T (.of w) = o
  have ho := ho.symm
  obtain ⟨ar, un, cv, mn, mx, pl, mi, cmp, nt, beq, an, scmp, cat, slen, sbyte, ssub, ofB, toB, len, gi, gb, gs, gl, sub, put, app, ovl, rep, ne0, ge0, inb, bnd, room, sroom, need, br, call, callb, loop, cut, nl⟩ := o
  refine h _ _ _ _ _ _ _ _ _ _ _ _ _ _ _ _ _ _ _ _ _ _ _ _ _ _ _ _ _ _ _ _ _ _ _ _ _ _ _ _ _ ?_ ?_ _ (fun v h hp => hp)
  · have e := ho.symm
    unfold real at e
    injection e with e_ar e_un e_cv e_mn e_mx e_pl e_mi e_cmp e_nt e_beq e_an e_scmp e_cat e_slen e_sbyte e_ssub e_ofB e_toB e_len e_gi e_gb e_gs e_gl e_sub e_put e_app e_ovl e_rep e_ne0 e_ge0 e_inb e_bnd e_room e_sroom e_need e_br e_call e_callb e_loop e_cut e_nl
    subst e_ar e_un e_cv e_mn e_mx e_pl e_mi e_cmp e_nt e_beq e_an e_scmp e_cat e_slen e_sbyte e_ssub e_ofB e_toB e_len e_gi e_gb e_gs e_gl e_sub e_put e_app e_ovl e_rep e_ne0 e_ge0 e_inb e_bnd e_room e_sroom e_need e_br e_call e_callb e_loop e_cut e_nl
    constructor <;> intros <;> rfl
  · exact ⟨fun h1 h2 => real_need ho h1 h2, fun h1 h2 => real_br ho h1 h2, fun h1 h2 h3 => by subst h2; exact real_call ho h1 h3, fun h1 h2 => real_callb ho h1 h2, fun t n et _ h1 h2 h3 h4 h5 => real_born ho h1 h2 h3 h4 h5, fun n0 j n et _ _ _ h0 h1 h2 h3 h4 h5 => real_bornC ho h0 h1 h2 h3 h4 h5, fun h1 h2 => real_nl ho h1 h2, fun ha hb h => real_cut ho htok ha hb h, fun n sl hs ha hb h hk => real_cutF ho htok (fun p hp => by cases hp) n sl hs ha hb h hk, fun n sl hs I μ a0 ρ0 h0 h1 h2 h3 => real_loop_ok ho htok (fun p hp => by cases hp) n sl hs I μ a0 ρ0 h0 h1 h2 h3⟩
end
end Go.Ab
end
section
namespace Go.Ab
open Go.RowKit

def dstsOf : List Oper → List Nat
  | [] => []
  | x :: r => match x.dst with
    | some t => t :: dstsOf r
    | none => dstsOf r

/-- The slots that a code writes. -/
def asgs : Code → List Nat
  | .region _ ops _ => dstsOf ops.toList
  | .seq a b => asgs a ++ asgs b
  | .cond _ a b => asgs a ++ asgs b
  | .block _ b => asgs b
  | .loop b => asgs b
  | .scope b => asgs b
  | .rangeFunc _ ps a b => ps.toList ++ (asgs a ++ asgs b)
  | _ => []

def anyN : List Nat → List Nat → Bool
  | [], _ => false
  | n :: r, l => match memN n l with
    | true => true
    | false => anyN r l

/-- The slots that stay: written nowhere in the loop, and without the names that change. -/
def stays (as_ ns : List Nat) : Nat → List V → List (Nat × V)
  | _, [] => []
  | t, v :: r => match memN t as_ with
    | true => stays as_ ns (t + 1) r
    | false => match v with
      | .dead => stays as_ ns (t + 1) r
      | v => match anyN (names v) ns with
        | true => stays as_ ns (t + 1) r
        | false => (t, v) :: stays as_ ns (t + 1) r

def namesU : List (Nat × V) → List Nat
  | [] => []
  | (_, v) :: r => names v ++ namesU r

def keysOf {α : Type} : List (Nat × α) → List Nat
  | [] => []
  | (n, _) :: r => n :: keysOf r

/-- The slots of a loop's state: what changes, and what stays. -/
def slotsU (b : Code) (dr : List Nat) (tm : List V) (up : List (Nat × V)) : List (Nat × V) := up ++ stays (keysOf up ++ asgs b) (namesU up ++ dr) 0 tm

/-- The rows that stay. -/
def restH (seen : List Nat) : Hp → Hp
  | [] => []
  | (n, b) :: r => match memN n seen with
    | true => restH seen r
    | false => match b with
      | .gone => restH (n :: seen) r
      | b => (n, b) :: restH (n :: seen) r

def heapU (dr : List Nat) (hp uh : Hp) : Hp := uh ++ restH (keysOf uh ++ dr) hp

def matV : V → V → List (Nat × Nat)
  | .row n, .row m => [(n, m)]
  | .rowp n _ _, .rowp m _ _ => [(n, m)]
  | .ptr n _, .ptr m _ => [(n, m)]
  | .ep n _ _, .ep m _ _ => [(n, m)]
  | _, _ => []

def matL : List V → List V → List (Nat × Nat)
  | a :: r, b :: s => matV a b ++ matL r s
  | _, _ => []

def mat1 : V → V → List (Nat × Nat)
  | .agg cs, .agg ds => matL cs ds
  | a, b => matV a b

/-- The names that the state's names have just now: of the slots .. -/
def matU : List (Nat × V) → List V → List (Nat × Nat)
  | [], _ => []
  | (t, v) :: r, tm => mat1 v (tm.getD t .dead) ++ matU r tm

/-- .. and of the boxes. -/
def matH : Hp → Hp → List (Nat × Nat)
  | [], _ => []
  | (n, b) :: r, hp => (match b, look hp n with
    | .cells _ cs, some (.cells _ ds) => matL cs ds
    | _, _ => []) ++ matH r hp

def rhoU (up : List (Nat × V)) (uh : Hp) (tm : List V) (hp : Hp) : List (Nat × Nat) := matU up tm ++ matH uh hp

/-- A loop's state, told by what changes. -/
structure FitsU (ns : List Nat) (b : Code) (dr : List Nat) (tm0 : List V) (hp0 : Hp) (up : List (Nat × V)) (uh : Hp) (tm : List V) (hp : Hp) : Prop where
  len : tm.length = tm0.length
  slots : fitsS (rhoU up uh tm hp) tm (slotsU b dr tm0 up)
  rows : fitsH (rhoU up uh tm hp) hp (heapU dr hp0 uh)
  ok : okState (rhoU up uh tm hp) (slotsU b dr tm0 up) (heapU dr hp0 uh) = true
  anc : ancOk (rhoU up uh tm hp) (heapU dr hp0 uh) ns = true

theorem FitsU.fits {ns : List Nat} {b : Code} {dr : List Nat} {tm0 : List V} {hp0 : Hp} {up : List (Nat × V)} {uh : Hp} {tm : List V} {hp : Hp} (h : FitsU ns b dr tm0 hp0 up uh tm hp) : Fits ns tm0.length (rhoU up uh tm hp) (slotsU b dr tm0 up) (heapU dr hp0 uh) tm hp :=
  ⟨h.len, h.slots, h.rows, h.ok, h.anc⟩

section
variable {P : Program} {T : Tr} {W : Nat → List (List Nat)} {ns : List Nat} {ar : BinOp → IntKind → Int → Int → Int} {un : UnOp → IntKind → Int → Int} {cv : IntKind → Int → Int} {mn : Int → Int → Int} {mx : Int → Int → Int} {pl : Int → Int → Int} {mi : Int → Int → Int} {cmp : BinOp → Int → Int → Bool} {nt : Bool → Bool} {beq : Bool → Bool → Bool} {an : Bool → Bool → Bool} {scmp : BinOp → ByteArray → ByteArray → Bool} {cat : ByteArray → ByteArray → ByteArray} {slen : ByteArray → Int} {sbyte : ByteArray → Int → Int} {ssub : ByteArray → Int → Int → ByteArray} {ofB : ByteArray → List V} {toB : List V → ByteArray} {len : List V → Int} {gi : List V → Int → Nat → Int} {gb : List V → Int → Nat → Bool} {gs : List V → Int → Nat → ByteArray} {gl : List V → Int → Nat → List V} {sub : List V → Int → Int → List V} {put : List V → Int → Nat → List V → List V} {app : List V → List V → List V} {ovl : List V → Int → List V → List V} {rep : Int → V → List V} {ne0 : Int → Prop} {ge0 : Int → Prop} {inb : Int → Int → Prop} {bnd : Int → Int → Int → Prop} {room : Int → Nat → Prop} {sroom : ByteArray → ByteArray → Prop} {need : Prop → Prop → Prop} {br : Bool → (Unit → Prop) → (Unit → Prop) → Prop} {call : Nat → List V → (V → Hp → Prop) → Prop} {callb : Nat → List V → Hp → (V → Hp → Prop) → Prop} {loop : Code → (Exit → List V → Hp → Prop) → List V → Hp → Prop} {cut : Code → Code → (Exit → List V → Hp → Prop) → List V → Hp → Prop} {nl : List V → (Unit → Prop) → (Unit → Prop) → Prop}

theorem Rules.loopU (R : Rules P T W ns ar un cv mn mx pl mi cmp nt beq an scmp cat slen sbyte ssub ofB toB len gi gb gs gl sub put app ovl rep ne0 ge0 inb bnd room sroom need br call callb loop cut nl)
    {b : Code} {K : Exit → List V → Hp → Prop} {tm : List V} {hp : Hp} {α : Type} (dr : List Nat) (up : α → List (Nat × V)) (uh : α → Hp) (I : α → Prop) (μ : α → Nat) (a0 : α) (h0 : I a0) (hf : FitsU ns b dr tm hp (up a0) (uh a0) tm hp) (hok : codeOk W b = true)
    (hs : ∀ a, I a → ∀ L : List V → Hp → Prop, (∀ a' tm' hp', I a' → μ a' < μ a → FitsU ns b dr tm hp (up a') (uh a') tm' hp' → L tm' hp') → vc ⟨ar, un, cv, mn, mx, pl, mi, cmp, nt, beq, an, scmp, cat, slen, sbyte, ssub, ofB, toB, len, gi, gb, gs, gl, sub, put, app, ovl, rep, ne0, ge0, inb, bnd, room, sroom, need, br, call, callb, loop, cut, nl⟩ T W b (fun e tm hp => match e with | .normal => L tm hp | e => K e tm hp) (mkS tm.length (slotsU b dr tm (up a))) (heapU dr hp (uh a))) : loop b K tm hp := by
  refine R.loop' tm.length (fun a => slotsU b dr tm (up a)) (fun a => heapU dr hp (uh a)) I (fun a => μ a) a0 _ h0 hf.fits hok (fun a ha L hL => ?_)
  exact hs a ha L (fun a' tm' hp' h1 h2 h3 => hL a' _ tm' hp' h1 h2 h3.fits)
end
end Go.Ab
end
section
namespace Go.Ab
open Go.RowKit

section
variable {S R : Type}

/-- At most so many rounds: on to the next state, or out with an answer. -/
def iterN (f : S → Option (S ⊕ R)) : Nat → S → Option R
  | 0, _ => none
  | n + 1, s => match f s with
    | none => none
    | some (.inl s') => iterN f n s'
    | some (.inr r) => some r

theorem iterN_more {f : S → Option (S ⊕ R)} {r : R} : ∀ {n m : Nat} {s : S}, iterN f n s = some r → n ≤ m → iterN f m s = some r
  | 0, _, _, h, _ => by cases h
  | n + 1, 0, _, _, hm => by omega
  | n + 1, m + 1, s, h, hm => by
    simp only [iterN] at h ⊢
    split at h
    · cases h
    · exact iterN_more h (by omega)
    · exact h

open Classical in
noncomputable def iter (f : S → Option (S ⊕ R)) (s : S) : Option R := if h : ∃ r, ∃ n, iterN f n s = some r then some h.choose else none

theorem iter_iff {f : S → Option (S ⊕ R)} {s : S} {r : R} : iter f s = some r ↔ ∃ n, iterN f n s = some r := by
  unfold iter
  constructor
  · intro h
    split at h
    · rename_i hx
      injection h with h
      rw [← h]
      exact hx.choose_spec
    · cases h
  · rintro ⟨n, hn⟩
    have hx : ∃ r, ∃ n, iterN f n s = some r := ⟨r, n, hn⟩
    rw [dif_pos hx]
    obtain ⟨m, hm⟩ := hx.choose_spec
    have h1 := iterN_more hn (Nat.le_max_left n m)
    have h2 := iterN_more hm (Nat.le_max_right n m)
    rw [h1] at h2
    exact h2.symm

theorem iter_inl {f : S → Option (S ⊕ R)} {s s' : S} (h : f s = some (.inl s')) : iter f s = iter f s' := by
  cases hx : iter f s' with
  | some r =>
    obtain ⟨n, hn⟩ := iter_iff.1 hx
    exact iter_iff.2 ⟨n + 1, by simp only [iterN, h]; exact hn⟩
  | none =>
    cases hy : iter f s with
    | none => rfl
    | some r =>
      obtain ⟨n, hn⟩ := iter_iff.1 hy
      cases n with
      | zero => cases hn
      | succ n =>
        simp only [iterN, h] at hn
        rw [iter_iff.2 ⟨n, hn⟩] at hx
        cases hx

theorem iter_inr {f : S → Option (S ⊕ R)} {s : S} {r : R} (h : f s = some (.inr r)) : iter f s = some r := iter_iff.2 ⟨1, by simp only [iterN, h]⟩

/-- What the rounds come to: a function that each round keeps. -/
theorem iter_fun {f : S → Option (S ⊕ R)} (I : S → Prop) (μ : S → Nat) (g : S → R) (h : ∀ s, I s → (∃ s', f s = some (.inl s') ∧ I s' ∧ μ s' < μ s ∧ g s' = g s) ∨ f s = some (.inr (g s))) (s : S) (h0 : I s) : iter f s = some (g s) := by
  have key : ∀ n s, μ s < n → I s → iter f s = some (g s) := by
    intro n
    induction n with
    | zero => intro s hs; omega
    | succ n ih =>
      intro s hs hi
      rcases h s hi with ⟨s', h1, h2, h3, h4⟩ | h1
      · rw [iter_inl h1, ih s' (by omega) h2, h4]
      · exact iter_inr h1
  exact key _ s (Nat.lt_succ_self _) h0

theorem iterN_succ {f : S → Option (S ⊕ R)} {n : Nat} {s : S} {r : R} (h : iterN f n s = some r) : ∃ m, n = m + 1 ∧ ∃ y, f s = some y ∧ (match y with | .inl s' => iterN f m s' = some r | .inr q => q = r) := by
  cases n with
  | zero => cases h
  | succ m =>
    simp only [iterN] at h
    refine ⟨m, rfl, ?_⟩
    split at h
    · cases h
    · rename_i s' e; exact ⟨_, e, h⟩
    · rename_i q e; injection h with h; exact ⟨_, e, h⟩
end

theorem need_some {α : Type} {p : Prop} [Decidable p] {x : Option α} {r : α} (h : (if p then x else none) = some r) : p ∧ x = some r := by
  by_cases hp : p
  · rw [if_pos hp] at h; exact ⟨hp, h⟩
  · rw [if_neg hp] at h; cases h

theorem bind_some' {α β : Type} {x : Option α} {f : α → Option β} {r : β} (h : x.bind f = some r) : ∃ a, x = some a ∧ f a = some r := Option.bind_eq_some_iff.1 h

section
variable {P : Program} {T : Tr} {w0 : Base} {φ : Nat → Option Loc} {w w' : World} {S S' : Nat → Prop} {v v' : V} {hp h post : Hp} {b0 : Nat → Prop} {x : Value}

end
end Go.Ab
end
