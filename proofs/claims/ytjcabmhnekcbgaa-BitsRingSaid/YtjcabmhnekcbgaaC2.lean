/- Texts of this seat, merged in build order. No statement of its own. -/
import Derived.Great.BuildSlice
import Derived.Laws.IdiomStrings
import Derived.Laws.BytesString
import Derived.Laws.MakeOwn
import Derived.Test.YtjcabmhnekcbgaaC1
set_option linter.unusedVariables false
set_option linter.unusedSimpArgs false
section
/- How the calculus' rows go on in memory that changes. No statement of its own. -/

namespace Go.Ab
open Go.RowKit

section
variable {P : Program} {T : Tr} {w0 : Base} {φ φ' : Nat → Option Loc} {w w' : World} {S S' : Nat → Prop} {v : V} {x : Value} {hp : Hp} {b0 : Nat → Prop}

theorem inRow_mono {arr : Array Value} {off sz : Nat} {es : List V} (hφ : LocLe φ φ') (hw : ∀ k, S k → w'.heap[k]? = w.heap[k]?) (hS : ∀ k, S k → S' k) (h : inRow T φ w S arr off sz es) : inRow T φ' w' S' arr off sz es := by
  intro k e hk
  obtain ⟨x, h1, h2⟩ := h k e hk
  exact ⟨x, rel_mono hφ hw hS _ _ h1, h2⟩

theorem BlkOk.mono {n : Nat} {b : Blk} (hφ : LocLe φ φ') (hw : ∀ k, S k → w'.heap[k]? = w.heap[k]?) (hS : ∀ k, S k → S' k)
    (ho : b.own = true → ∀ l B, φ n = some l → l.blk = some B → w'.heap[B]? = w.heap[B]?) (h : BlkOk T φ w S n b) : BlkOk T φ' w' S' n b := by
  cases b with
  | cells t cs =>
    obtain ⟨B, arr, h1, h2, h3, h4⟩ := h
    exact ⟨B, arr, hφ _ _ h1, (ho rfl _ _ h1 rfl).trans h2, relL_mono hφ hw hS _ _ h3, h4⟩
  | row et es =>
    obtain ⟨h0, e, he, hz, h⟩ := h
    refine ⟨h0, e, he, hz, ?_⟩
    rcases h with ⟨B, off, room, arr, h1, h2, h0', h3, h4, h5⟩ | ⟨h1, h2⟩
    · exact .inl ⟨B, off, room, arr, hφ _ _ h1, (ho rfl _ _ h1 rfl).trans h2, h0', h3, h4, inRow_mono hφ hw hS h5⟩
    · exact .inr ⟨hφ _ _ h1, h2⟩
  | ro et es =>
    obtain ⟨h0, e, he, hz, h⟩ := h
    refine ⟨h0, e, he, hz, ?_⟩
    rcases h with ⟨B, off, room, arr, fz, h1, hs, h2, h3, h4, h5⟩ | ⟨h1, h2⟩
    · exact .inl ⟨B, off, room, arr, fz, hφ _ _ h1, hS _ hs, (hw _ hs).trans h2, h3, h4, inRow_mono hφ hw hS h5⟩
    · exact .inr ⟨hφ _ _ h1, h2⟩
  | gone => trivial

theorem look_cons {n m : Nat} {b : Blk} {hp : Hp} : look ((n, b) :: hp) m = if n = m then some b else look hp m := by
  simp only [look]
  by_cases h : n = m
  · subst h; simp
  · have : (n == m) = false := by simpa using h
    rw [this, if_neg h]

theorem HOk.cons {n : Nat} {b : Blk} (h : HOk T φ b0 w S hp) (hle : LocLe φ φ') (hne : ∀ m, m ≠ n → φ' m = φ m) (hn : φ' n ≠ none)
    (hw : ∀ k, S k → w'.heap[k]? = w.heap[k]?) (hS : ∀ k, S k → S' k)
    (ho : ∀ m c l B, m ≠ n → look hp m = some c → c.own = true → φ m = some l → l.blk = some B → w'.heap[B]? = w.heap[B]? ∧ ¬ S' B)
    (hsz : w.heap.size ≤ w'.heap.size) (hb : BlkOk T φ' w' S' n b)
    (hown : b.own = true → ∀ l B, φ' n = some l → l.blk = some B → ¬ b0 B ∧ B < w'.heap.size ∧ ¬ S' B ∧ ∀ m c k, m ≠ n → look hp m = some c → c.own = true → φ m = some k → k.blk ≠ some B)
    (hold : ∀ k, S' k → k < w'.heap.size) : HOk T φ' b0 w' S' ((n, b) :: hp) := by
  refine ⟨fun m => ?_, fun m c hm => ?_, fun m c l B hm hc hl hB => ?_, fun m m' c c' l k B hm hm' hc hc' hl hk hB hB' => ?_, hold⟩
  · rw [look_cons]
    by_cases e : n = m
    · subst e; rw [if_pos rfl]; simp [hn]
    · rw [if_neg e, hne m (fun h => e h.symm)]; exact h.dom m
  · rw [look_cons] at hm
    by_cases e : n = m
    · subst e; rw [if_pos rfl] at hm; injection hm with hm; subst hm; exact hb
    · rw [if_neg e] at hm
      exact (h.blk m c hm).mono hle hw hS (fun hc l B hl hB => (ho m c l B (fun h => e h.symm) hm hc hl hB).1)
  · rw [look_cons] at hm
    by_cases e : n = m
    · subst e; rw [if_pos rfl] at hm; injection hm with hm; subst hm
      obtain ⟨h1, h2, h3, _⟩ := hown hc l B hl hB
      exact ⟨h1, h2, h3⟩
    · rw [if_neg e] at hm
      rw [hne m (fun h => e h.symm)] at hl
      obtain ⟨h1, h2, _⟩ := h.own m c l B hm hc hl hB
      exact ⟨h1, Nat.lt_of_lt_of_le h2 hsz, (ho m c l B (fun h => e h.symm) hm hc hl hB).2⟩
  · rw [look_cons] at hm hm'
    by_cases e : n = m
    · subst e; rw [if_pos rfl] at hm; injection hm with hm; subst hm
      by_cases e' : n = m'
      · exact e'
      · rw [if_neg e'] at hm'
        rw [hne m' (fun h => e' h.symm)] at hk
        obtain ⟨_, _, _, h4⟩ := hown hc l B hl hB
        exact absurd hB' (h4 m' c' k (fun h => e' h.symm) hm' hc' hk)
    · rw [if_neg e] at hm
      rw [hne m (fun h => e h.symm)] at hl
      by_cases e' : n = m'
      · subst e'; rw [if_pos rfl] at hm'; injection hm' with hm'; subst hm'
        obtain ⟨_, _, _, h4⟩ := hown hc' k B hk hB'
        exact absurd hB (h4 m c l (fun h => e h.symm) hm hc hl)
      · rw [if_neg e'] at hm'
        rw [hne m' (fun h => e' h.symm)] at hk
        exact h.inj m m' c c' l k B hm hm' hc hc' hl hk hB hB'

theorem HOk.drop {n : Nat} {b b' : Blk} (h : HOk T φ b0 w S hp) (hl : look hp n = some b) (ho : b'.own = false) (hb : BlkOk T φ w S n b') : HOk T φ b0 w S ((n, b') :: hp) := by
  refine h.cons (LocLe.refl _) (fun _ _ => rfl) (fun e => ?_) (fun _ _ => rfl) (fun _ h => h) (fun m c l B hm hc hc2 hl2 hB => ⟨rfl, (h.own m c l B hc hc2 hl2 hB).2.2⟩) (Nat.le_refl _) hb (fun e => by rw [ho] at e; cases e) h.old
  have := (h.dom n).1 e
  rw [hl] at this
  cases this

theorem HOk.freeze {n et : Nat} {es : List V} (h : HOk T φ b0 w S hp) (hl : look hp n = some (.row et es)) : ∃ S', (∀ k, S k → S' k) ∧ HOk T φ b0 w S' ((n, .ro et es) :: hp) ∧ (∀ k, S' k → S k ∨ ∃ l, φ n = some l ∧ l.blk = some k) := by
  obtain ⟨hw, e, he, hz, hb⟩ := h.blk n _ hl
  rcases hb with ⟨B, off, room, arr, h1, h2, h0', h3, h4, h5⟩ | ⟨h1, h2⟩
  · refine ⟨fun k => S k ∨ k = B, fun k hk => .inl hk, ?_, fun k hk => ?_⟩
    · obtain ⟨o1, o2, o3⟩ := h.own n _ _ B hl rfl h1 rfl
      refine h.cons (LocLe.refl _) (fun _ _ => rfl) (by rw [h1]; simp) (fun _ _ => rfl) (fun k hk => .inl hk) (fun m c l B' hm hc hc2 hl2 hB => ⟨rfl, fun hS => ?_⟩) (Nat.le_refl _) ?_ (fun e => by cases e) (fun k hk => ?_)
      · rcases hS with hS | hS
        · exact (h.own m c l B' hc hc2 hl2 hB).2.2 hS
        · subst hS; exact hm (h.inj m n c _ l _ B' hc hl hc2 rfl hl2 h1 hB rfl)
      · exact ⟨hw, e, he, hz, .inl ⟨B, off, room, arr, (0, 0), h1, .inr rfl, h2, h3, h4, inRow_mono (LocLe.refl _) (fun _ _ => rfl) (fun k hk => .inl hk) h5⟩⟩
      · rcases hk with hk | hk
        · exact h.old k hk
        · subst hk; exact o2
    · rcases hk with hk | hk
      · exact .inl hk
      · subst hk; exact .inr ⟨_, h1, rfl⟩
  · exact ⟨S, fun k hk => hk, h.drop hl rfl ⟨hw, e, he, hz, .inr ⟨h1, h2⟩⟩, fun k hk => .inl hk⟩

theorem HOk.perm {hp' : Hp} (h : HOk T φ b0 w S hp) (he : ∀ k, look hp k = look hp' k) : HOk T φ b0 w S hp' :=
  ⟨fun n => by rw [← he]; exact h.dom n, fun n b hb => h.blk n b (by rw [he]; exact hb), fun n b l B hb => h.own n b l B (by rw [he]; exact hb), fun n m b c l k B hb hc => h.inj n m b c l k B (by rw [he]; exact hb) (by rw [he]; exact hc), h.old⟩

def upd (φ : Nat → Option Loc) (n : Nat) (l : Loc) : Nat → Option Loc := fun m => if m = n then some l else φ m
theorem upd_self {n : Nat} {l : Loc} : upd φ n l n = some l := by simp [upd]
theorem upd_ne {n m : Nat} {l : Loc} (h : m ≠ n) : upd φ n l m = φ m := by simp [upd, h]
theorem upd_le {n : Nat} {l : Loc} (h : φ n = none) : LocLe φ (upd φ n l) := fun m k hm => by
  by_cases e : m = n
  · subst e; rw [h] at hm; cases hm
  · rw [upd_ne e]; exact hm

theorem Since.alloc {w0 : Base} {w : World} (h : Since w0 w) (o : Obj) : Since w0 (w.alloc o) :=
  ⟨h.os, h.tape, h.output, by simp; exact Nat.le_succ_of_le h.size, fun k hk => (Below.heap_alloc w o k (Nat.lt_of_lt_of_le (w0.lt k hk) h.size)).trans (h.block k hk)⟩
theorem Since.drew {w0 : Base} {w : World} (h : Since w0 w) : Since w0 w.drew := ⟨h.os, h.tape, h.output, h.size, h.block⟩
theorem Since.setRow {w0 : Base} {w : World} (h : Since w0 w) {B : Nat} (hB : ¬ w0.Z B) (cs : Array Value) : Since w0 (w.setRow B cs) :=
  ⟨h.os, h.tape, h.output, by simp; exact h.size, fun k hk => (setRow_other w B k cs (fun e => hB (e ▸ hk))).trans (h.block k hk)⟩

theorem HOk.new {n t : Nat} {b : Blk} {l : Loc} {arr : Array Value} (h : HOk T φ b0 w S hp) (hn : look hp n = none) (hl : l.blk = some w.heap.size) (hb0 : ¬ b0 w.heap.size)
    (hb : BlkOk T (upd φ n l) (w.alloc (.cells arr t)) S n b) : HOk T (upd φ n l) b0 (w.alloc (.cells arr t)) S ((n, b) :: hp) := by
  have hφ : φ n = none := (h.dom n).2 hn
  refine h.cons (upd_le hφ) (fun m hm => upd_ne hm) (by rw [upd_self]; simp) (fun k hk => Below.heap_alloc w _ k (h.old k hk)) (fun _ h => h) (fun m c l' B hm hc hc2 hl2 hB => ?_) (by simp) hb (fun _ l' B hl' hB => ?_) (fun k hk => by simp; exact Nat.lt_succ_of_lt (h.old k hk))
  · obtain ⟨_, o2, o3⟩ := h.own m c l' B hc hc2 hl2 hB
    exact ⟨Below.heap_alloc w _ B o2, o3⟩
  · rw [upd_self] at hl'; injection hl' with hl'; subst hl'
    rw [hl] at hB; injection hB with hB; subst hB
    refine ⟨hb0, by simp, fun hS => absurd (h.old _ hS) (Nat.lt_irrefl _), fun m c k hm hc hc2 hk hB => ?_⟩
    exact absurd (h.own m c k _ hc hc2 hk hB).2.1 (Nat.lt_irrefl _)

theorem HOk.drew (h : HOk T φ b0 w S hp) : HOk T φ b0 w.drew S hp := by
  exact ⟨h.dom, fun n b hb => BlkOk.mono (w := w) (LocLe.refl _) (fun _ _ => rfl) (fun _ h => h) (fun _ _ _ _ _ => rfl) (h.blk n b hb), h.own, h.inj, h.old⟩

theorem Ext.new {n t : Nat} {b : Blk} {l : Loc} {arr : Array Value} (hs : Since w0 w) (h : HOk T φ w0.Z w S hp) (hn : look hp n = none) (hl : l.blk = some w.heap.size)
    (hb : BlkOk T (upd φ n l) (w.alloc (.cells arr t)) S n b) : Ext T w0 φ S hp w (upd φ n l) S [(n, b)] (w.alloc (.cells arr t)) :=
  ⟨upd_le ((h.dom n).2 hn), SLe.refl, fun k hk => Below.heap_alloc w _ k (h.old k hk), hs.alloc _, h.new hn hl hs.fresh hb⟩

theorem stor_cells (hs : stor v = true) (hr : rel T φ w S v x) : relL T φ w S (cellsOf v) x.cells.toList ∧ ∀ u ∈ x.cells.toList, u.oneCell' = true := by
  have one : x.oneCell' = true → cellsOf v = [v] → relL T φ w S (cellsOf v) x.cells.toList ∧ ∀ u ∈ x.cells.toList, u.oneCell' = true := by
    intro h1 h2
    rw [h2, cells_one h1]
    simp only [relL]
    exact ⟨⟨x, [], rfl, hr, rfl⟩, fun u hu => by simp at hu; subst hu; exact h1⟩
  cases v with
  | nlq g es => cases hs
  | mp t L => refine one ?_ rfl; simp only [rel] at hr; obtain ⟨g, es, c, rfl, _⟩ := hr; rfl
  | dead => cases hs
  | tup cs => cases hs
  | agg cs => simp only [rel] at hr; obtain ⟨a, rfl, h2, h3⟩ := hr; exact ⟨h2, h3⟩
  | s v => refine one ?_ rfl; simp only [rel] at hr; obtain ⟨rfl, h⟩ := hr; exact h
  | i k n => refine one ?_ rfl; simp only [rel] at hr; subst hr; rfl
  | b c => refine one ?_ rfl; simp only [rel] at hr; subst hr; rfl
  | str c => refine one ?_ rfl; simp only [rel] at hr; subst hr; rfl
  | nil => refine one ?_ rfl; simp only [rel] at hr; subst hr; rfl
  | sl et es => refine one ?_ rfl; simp only [rel] at hr; obtain ⟨A, cap, rfl, _⟩ := hr; rfl
  | ptr n j => refine one ?_ rfl; simp only [rel] at hr; obtain ⟨B, _, rfl⟩ := hr; rfl
  | ep n i j => refine one ?_ rfl; simp only [rel] at hr; obtain ⟨B, off, len, room, sz, _, _, _, rfl⟩ := hr; rfl
  | rp et es i j => refine one ?_ rfl; simp only [rel] at hr; obtain ⟨ad, e, _, _, _, _, _, _, _, rfl⟩ := hr; rfl
  | row n => refine one ?_ rfl; simp only [rel] at hr; rcases hr with ⟨B, off, len, room, sz, cap, _, rfl, _⟩ | ⟨_, _, rfl⟩ <;> rfl
  | rowp n lo ln => refine one ?_ rfl; simp only [rel] at hr; rcases hr with ⟨B, off, len, room, sz, cap, A, _, rfl, _⟩ | ⟨_, ⟨_, rfl⟩, _⟩ <;> rfl
  | fn f fs cs => refine one ?_ rfl; simp only [rel] at hr; obtain ⟨a, b, rfl, _⟩ := hr; rfl

theorem box_left {t n : Nat} (hs : Since w0 w) (h : HOk T φ w0.Z w S hp) (hn : look hp n = none) (hst : stor v = true) (hr : rel T φ w S v x) :
    Left T w0 φ S hp w (.ptr n 0) [(n, .cells t (cellsOf v))] (.pointer (some ⟨w.heap.size, 0, none⟩)) (w.alloc (.cells x.cells t)) := by
  obtain ⟨h1, h2⟩ := stor_cells hst hr
  refine ⟨_, _, Ext.new (l := .box w.heap.size) hs h hn rfl ?_, ?_⟩
  · exact ⟨w.heap.size, x.cells, upd_self, heap_alloc_new w _, relL_mono (upd_le ((h.dom n).2 hn)) (fun k hk => Below.heap_alloc w _ k (h.old k hk)) (fun _ h => h) _ _ h1, h2⟩
  · simp only [rel]; exact ⟨_, upd_self, rfl⟩

theorem zero_rel (e : TE) : rel T φ w S (zeroV e) e.zero := ofV_rel _
theorem zeroN_rel (e : TE) : rel T φ w S (zeroN e) e.zero := norm_rel (zero_rel e)

theorem unNilS_rel {t : Nat} {v : V} {x : Value} (h : rel T φ w S v x) : rel T φ w S (unNilS T t v) x := by
  unfold unNilS
  split
  · split
    · split
      · simp only [rel] at h ⊢
        subst h
        exact ⟨none, 0, rfl, Nat.le_refl _, Nat.zero_le _, by simp [wtL], fun hne => absurd rfl hne⟩
      · exact h
    · exact h
  · exact h
theorem unNilL_rel : ∀ {ts : List Nat} {cs : List V} {xs : List Value}, relL T φ w S cs xs → relL T φ w S (unNilL T ts cs) xs
  | [], cs, xs, h => by simpa only [unNilL] using h
  | t :: ts, [], xs, h => by simpa only [unNilL] using h
  | t :: ts, v :: r, xs, h => by
    simp only [relL, unNilL] at h ⊢
    obtain ⟨x, xs', h1, h2, h3⟩ := h
    exact ⟨x, xs', h1, unNilS_rel h2, unNilL_rel h3⟩
theorem unNil_rel {t : Nat} {v : V} {x : Value} (h : rel T φ w S v x) : rel T φ w S (unNil T t v) x := by
  unfold unNil
  split
  · simp only [rel] at h ⊢
    obtain ⟨a, h1, h2, h3⟩ := h
    exact ⟨a, h1, unNilL_rel h2, h3⟩
  · exact unNilS_rel h
theorem unNilP_fst {t : Nat} : ∀ {ps : List (Nat × V)}, (unNilP T t ps).map (·.1) = ps.map (·.1)
  | [] => rfl
  | (i, v) :: r => by simp [unNilP, unNilP_fst (ps := r)]
theorem unNilP_rel {t : Nat} : ∀ {ps : List (Nat × V)} {xs : List Value}, relL T φ w S (ps.map (·.2)) xs → relL T φ w S ((unNilP T t ps).map (·.2)) xs
  | [], xs, h => by simpa only [unNilP] using h
  | (i, v) :: r, xs, h => by
    simp only [relL, unNilP, List.map_cons] at h ⊢
    obtain ⟨x, xs', h1, h2, h3⟩ := h
    exact ⟨x, xs', h1, unNil_rel h2, unNilP_rel h3⟩
theorem zeroT_rel (t : Nat) (e : TE) : rel T φ w S (zeroT T t e) e.zero := unNil_rel (zeroN_rel e)
end
end Go.Ab
end
section
/- Each operation does what the calculus says: stores. No statement of its own. -/

namespace Go.Ab
open Go.RowKit

section
variable {P : Program} {T : Tr} {w0 : Base} {φ φ' : Nat → Option Loc} {w w' : World} {S S' : Nat → Prop} {v : V} {x : Value} {hp : Hp} {b0 : Nat → Prop}

def LeftS (T : Tr) (w0 : Base) (φ : Nat → Option Loc) (S : Nat → Prop) (hp : Hp) (w : World) (E : Hp) (w' : World) : Prop :=
  ∃ φ' S', Ext T w0 φ S hp w φ' S' E w'

theorem relL_app {a b : List V} {c d : List Value} (h : relL T φ w S a c) (k : relL T φ w S b d) : relL T φ w S (a ++ b) (c ++ d) := by
  obtain ⟨h1, h2⟩ := relL_iff.1 h
  obtain ⟨k1, k2⟩ := relL_iff.1 k
  refine relL_iff.2 ⟨by simp [h1, k1], fun j p q hp hq => ?_⟩
  rw [List.getElem?_append] at hp hq
  rw [← h1] at hq
  split at hp
  · rename_i hlt
    rw [if_pos hlt] at hq
    exact h2 _ _ _ hp hq
  · rename_i hlt
    rw [if_neg hlt] at hq
    exact k2 _ _ _ hp hq

theorem relL_drop {a : List V} {c : List Value} (h : relL T φ w S a c) (n : Nat) : relL T φ w S (a.drop n) (c.drop n) := by
  obtain ⟨h1, h2⟩ := relL_iff.1 h
  exact relL_iff.2 ⟨by simp [h1], fun j p q hp hq => h2 _ _ _ (by simpa using hp) (by simpa using hq)⟩
theorem relL_take {a : List V} {c : List Value} (h : relL T φ w S a c) (n : Nat) : relL T φ w S (a.take n) (c.take n) := by
  have := relL_sub h 0 n
  simpa using this

theorem run_storeVar {t : TypeId} {i : TypeInfo} (hi : P.info? t = some i) {B off : Nat} {arr : Array Value} {t0 : TypeId} (hB : w.heap[B]? = some (.cells arr t0 (0, 0))) {xv : Value} (hs : xv.cells.size = i.size) (hle : off + xv.cells.size ≤ arr.size)
    (h1 : ∀ u ∈ xv.cells.toList, u.oneCell' = true) : (Instr.storeAt t (.pointer (some ⟨B, off, none⟩)) xv).run P w = .ok () (w.setRow B (arr.toList.take off ++ xv.cells.toList ++ arr.toList.drop (off + xv.cells.size)).toArray) := by
  have hst := run_storeCells_at P B off t0 xv.cells.toList 0 arr w hB (by simpa using hle) h1
  simp only [Nat.add_zero, Array.length_toList] at hst
  simp [Instr.storeAt, Instr.sureAddr, storeVar, sizeOf, run_typeInfo w hi, hs]
  rw [hst, hs, List.append_assoc]

theorem sizeT_pos_look {t n : Nat} (h : sizeT T t = n) (hn : n ≠ 0) : ∃ e, T.look t = some e ∧ e.size = n := by
  unfold sizeT at h
  split at h
  · rename_i e he; exact ⟨e, he, h⟩
  · exact absurd h.symm hn

theorem HOk.write {n B : Nat} {b b' : Blk} {l : Loc} {arr : Array Value} (h : HOk T φ b0 w S hp) (hl : look hp n = some b) (ho : b.own = true) (ho' : b'.own = true) (hφ : φ n = some l) (hlB : l.blk = some B)
    (hb : BlkOk T φ (w.setRow B arr) S n b') : HOk T φ b0 (w.setRow B arr) S ((n, b') :: hp) := by
  obtain ⟨o1, o2, o3⟩ := h.own n b l B hl ho hφ hlB
  refine h.cons (LocLe.refl _) (fun _ _ => rfl) (by rw [hφ]; simp) (fun k hk => setRow_other w B k arr (fun e => o3 (e ▸ hk))) (fun _ h => h) (fun m c l' B' hm hc hc2 hl2 hB => ?_) (by simp) hb (fun _ l' B' hl' hB' => ?_) (fun k hk => by simp; exact h.old k hk)
  · refine ⟨setRow_other w B B' arr (fun e => ?_), (h.own m c l' B' hc hc2 hl2 hB).2.2⟩
    subst e
    exact hm (h.inj m n c b l' l B' hc hl hc2 ho hl2 hφ hB hlB)
  · rw [hφ] at hl'; injection hl' with hl'; subst hl'
    rw [hlB] at hB'; injection hB' with hB'; subst hB'
    refine ⟨o1, by simp; exact o2, o3, fun m c k hm hc hc2 hk hB => ?_⟩
    exact hm (h.inj m n c b k l B hc hl hc2 ho hk hφ hB hlB)

theorem Ext.write {n B : Nat} {b b' : Blk} {l : Loc} {arr : Array Value} (hs : Since w0 w) (h : HOk T φ w0.Z w S hp) (hl : look hp n = some b) (ho : b.own = true) (ho' : b'.own = true) (hφ : φ n = some l) (hlB : l.blk = some B)
    (hb : BlkOk T φ (w.setRow B arr) S n b') : Ext T w0 φ S hp w φ S [(n, b')] (w.setRow B arr) := by
  obtain ⟨o1, o2, o3⟩ := h.own n b l B hl ho hφ hlB
  exact ⟨LocLe.refl _, SLe.refl, fun k hk => setRow_other w B k arr (fun e => o3 (e ▸ hk)), hs.setRow o1 arr, h.write hl ho ho' hφ hlB hb⟩

theorem Ext.trans {φ1 φ2 : Nat → Option Loc} {S1 S2 : Nat → Prop} {w1 w2 : World} {E1 E2 : Hp} (h : Ext T w0 φ S hp w φ1 S1 E1 w1) (k : Ext T w0 φ1 S1 (E1 ++ hp) w1 φ2 S2 E2 w2) : Ext T w0 φ S hp w φ2 S2 (E2 ++ E1) w2 :=
  ⟨h.loc.trans k.loc, h.sle.trans k.sle, fun x hx => (k.keep x (h.sle.1 x hx)).trans (h.keep x hx), k.since, by rw [List.append_assoc]; exact k.heap⟩

theorem storeBox_ok (htok : TyOk P T) (hs : Since w0 w) (hh : HOk T φ w0.Z w S hp) {t n off u : Nat} {cs : List V} {a : Value} (hl : look hp n = some (.cells u cs))
    (ha : rel T φ w S (.ptr n off) a) (hr : rel T φ w S v x) (hst : stor v = true) (hsz : (cellsOf v).length = sizeT T t) (hz : sizeT T t ≠ 0) (hle : off + (cellsOf v).length ≤ cs.length) :
    ∃ w', (Instr.storeAt t a x).run P w = .ok () w' ∧ LeftS T w0 φ S hp w [(n, .cells u (place cs off (cellsOf v)))] w' := by
  simp only [rel] at ha
  obtain ⟨B, hB, rfl⟩ := ha
  obtain ⟨h1, h2⟩ := stor_cells hst hr
  obtain ⟨B', arr, b1, b2, b3, b4⟩ := hh.blk _ _ hl
  rw [hB] at b1; injection b1 with b1; injection b1 with b1; subst b1
  obtain ⟨hl1, _⟩ := relL_iff.1 h1
  obtain ⟨hl3, _⟩ := relL_iff.1 b3
  have hcs : (cellsOf v).length = x.cells.size := by simpa using hl1
  have harr : cs.length = arr.size := by simpa using hl3
  obtain ⟨i0, hi, hsi⟩ := sizeT_info htok hz
  refine ⟨_, run_storeVar hi b2 (by omega) (by omega) h2, φ, S, Ext.write hs hh hl rfl rfl hB rfl ?_⟩
  refine ⟨B, _, hB, setRow_heap w B arr _ u (0, 0) b2, ?_, ?_⟩
  · have hkeep : ∀ k, S k → (w.setRow B (arr.toList.take off ++ x.cells.toList ++ arr.toList.drop (off + x.cells.size)).toArray).heap[k]? = w.heap[k]? := fun k hk => setRow_other w B k _ (fun e => (hh.own n _ _ B hl rfl hB rfl).2.2 (e ▸ hk))
    refine relL_mono (LocLe.refl _) hkeep (fun _ h => h) _ _ ?_
    simp only [place]
    rw [hcs]
    exact relL_app (relL_app (relL_take b3 off) h1) (relL_drop b3 _)
  · intro q hq
    simp only [List.mem_append] at hq
    rcases hq with (hq | hq) | hq
    · exact b4 q (List.mem_of_mem_take hq)
    · exact h2 q hq
    · exact b4 q (List.mem_of_mem_drop hq)

theorem splice_get {α : Type} (L N : List α) (p : Nat) (h : p + N.length ≤ L.length) (q : Nat) : (L.take p ++ N ++ L.drop (p + N.length))[q]? = if q < p then L[q]? else if q < p + N.length then N[q - p]? else L[q]? := by
  rw [List.append_assoc, List.getElem?_append, List.length_take, Nat.min_eq_left (by omega)]
  by_cases h1 : q < p
  · rw [if_pos h1, if_pos h1, List.getElem?_take, if_pos h1]
  · rw [if_neg h1, if_neg h1, List.getElem?_append]
    by_cases h2 : q < p + N.length
    · rw [if_pos (by omega), if_pos h2]
    · rw [if_neg (by omega), if_neg h2, List.getElem?_drop]
      congr 1
      omega

theorem chkS_wt {t : Nat} (h : chkS T t v = true) (hr : rel T φ w S v x) : wt T v t ∧ isAggT T t = false := by
  unfold chkS at h
  split at h
  · cases h
  · rename_i e he
    rw [aggT_of he]
    split at h
    · rename_i hd; rw [kinds_eq h] at hd; simp only [wt]; exact ⟨⟨e, he, hd⟩, by rw [hd]; rfl⟩
    · rename_i hd; simp only [wt]; exact ⟨⟨e, he, by rw [hd]; exact kinds_eq h⟩, by rw [hd]; rfl⟩
    · rename_i hd; simp only [wt]; exact ⟨⟨e, he, hd⟩, by rw [hd]; rfl⟩
    · rename_i hd; simp only [wt]; exact ⟨⟨e, he, by rw [hd]; trivial⟩, by rw [hd]; rfl⟩
    · rename_i hd; simp only [wt]; exact ⟨⟨e, he, hd⟩, by rw [hd]; rfl⟩
    · rename_i hd; simp only [wt]; exact ⟨⟨e, he, by rw [hd]; trivial⟩, by rw [hd]; rfl⟩
    · rename_i hd; simp only [wt]; exact ⟨⟨e, _, he, hd⟩, by rw [hd]; rfl⟩
    · rename_i u u' es hd
      have : u = u' := by simpa using h
      subst this
      simp only [rel] at hr
      obtain ⟨A, cap, _, _, _, hw, _⟩ := hr
      simp only [wt]
      exact ⟨⟨⟨e, he, hd⟩, hw⟩, by rw [hd]; rfl⟩
    · cases h

theorem chkL_wt : ∀ {ts : List Nat} {vs : List V} {xs : List Value}, chkL T ts vs = true → relL T φ w S vs xs → wtC T ts vs
  | [], [], _, _, _ => by simp only [wtC]
  | [], _ :: _, _, h, _ => by simp [chkL] at h
  | _ :: _, [], _, h, _ => by simp [chkL] at h
  | t :: ts, v :: vs, xs, h, hr => by
    simp only [chkL, Bool.and_eq_true] at h
    simp only [relL] at hr
    obtain ⟨x, xs', rfl, h1, h2⟩ := hr
    obtain ⟨k1, k2⟩ := chkS_wt h.1 h1
    simp only [wtC]
    exact ⟨t, ts, rfl, k2, k1, chkL_wt h.2 h2⟩

theorem chk_wt {t : Nat} (h : chk T t v = true) (hr : rel T φ w S v x) : wt T v t := by
  unfold chk at h
  split at h
  · cases h
  · rename_i e he
    split at h
    · rename_i cs hd
      simp only [rel] at hr
      obtain ⟨a, rfl, h2, _⟩ := hr
      simp only [wt]
      exact ⟨by rw [aggT_of he, hd], chkL_wt h h2⟩
    · exact (chkS_wt h hr).1
    · cases h

theorem wt_agg {et : Nat} {e : V} (h : wt T e et) (hA : isAggT T et = true) : ∃ cs, e = .agg cs ∧ wtC T (cellTys T 8 et) cs := by
  cases e with
  | agg cs => simp only [wt] at h; exact ⟨cs, rfl, h.2⟩
  | i k n => simp only [wt] at h; obtain ⟨e', h2, h3⟩ := h; rw [aggT_of h2, h3] at hA; cases hA
  | s v =>
    simp only [wt] at h
    obtain ⟨e', h2, h3⟩ := h
    rw [aggT_of h2] at hA
    split at h3
    · rename_i hd; rw [hd] at hA; cases hA
    · rename_i hd; rw [hd] at hA; cases hA
    · rename_i hd; rw [hd] at hA; cases hA
    · exact h3.elim
  | b c => simp only [wt] at h; obtain ⟨e', h2, h3⟩ := h; rw [aggT_of h2, h3] at hA; cases hA
  | str s => simp only [wt] at h; obtain ⟨e', h2, h3⟩ := h; rw [aggT_of h2, h3] at hA; cases hA
  | nil => simp only [wt] at h; obtain ⟨e', u, h2, h3⟩ := h; rw [aggT_of h2, h3] at hA; cases hA
  | sl u es' => simp only [wt] at h; obtain ⟨⟨e', h2, h3⟩, _⟩ := h; rw [aggT_of h2, h3] at hA; cases hA
  | _ => simp only [wt] at h

theorem wt_one {et : Nat} {e : V} (h : wt T e et) (hA : isAggT T et = false) (hr : rel T φ w S e x) : x.oneCell' = true ∧ cellsOf e = [e] := by
  cases e with
  | agg cs => simp only [wt] at h; rw [hA] at h; exact absurd h.1 (by simp)
  | i k n => simp only [rel] at hr; subst hr; exact ⟨rfl, rfl⟩
  | s v => simp only [rel] at hr; obtain ⟨rfl, hr2⟩ := hr; exact ⟨hr2, rfl⟩
  | b c => simp only [rel] at hr; subst hr; exact ⟨rfl, rfl⟩
  | str s => simp only [rel] at hr; subst hr; exact ⟨rfl, rfl⟩
  | nil => simp only [rel] at hr; subst hr; exact ⟨rfl, rfl⟩
  | sl u es' => simp only [rel] at hr; obtain ⟨A, cap, rfl, _⟩ := hr; exact ⟨rfl, rfl⟩
  | _ => simp only [wt] at h

theorem put_el {et t j : Nat} {e : V} {xe : Value} (hwe : wt T e et) (hre : rel T φ w S e xe) (h1e : ∀ u ∈ xe.cells.toList, u.oneCell' = true) (hf : fits T et t j = true) (hc : chk T t v = true) (hr : rel T φ w S v x) (hsz : sizeT T t ≠ 0) :
    ∃ x', wt T (putCells e j (cellsOf v)) et ∧ rel T φ w S (putCells e j (cellsOf v)) x' ∧ x'.cells.size = xe.cells.size ∧ (∀ u ∈ x'.cells.toList, u.oneCell' = true) ∧ j + x.cells.size ≤ xe.cells.size ∧
      x'.cells.toList = xe.cells.toList.take j ++ x.cells.toList ++ xe.cells.toList.drop (j + x.cells.size) := by
  have hwv := chk_wt hc hr
  cases hA : isAggT T et with
  | true =>
    obtain ⟨ds, rfl, hwc⟩ := wt_agg hwe hA
    simp only [rel] at hre
    obtain ⟨a, rfl, hra, _⟩ := hre
    obtain ⟨l1, g1⟩ := wtC_iff hwc
    obtain ⟨l2, g2⟩ := relL_iff.1 hra
    have key : ∀ (vs : List V) (us : Array Value) (ts : List Nat), wtC T ts vs → relL T φ w S vs us.toList → (∀ u ∈ us.toList, u.oneCell' = true) → ((cellTys T 8 et).drop j).take ts.length = ts → j + ts.length ≤ (cellTys T 8 et).length →
        ∃ x', wt T (.agg (place ds j vs)) et ∧ rel T φ w S (.agg (place ds j vs)) x' ∧ x'.cells.size = a.size ∧ (∀ u ∈ x'.cells.toList, u.oneCell' = true) ∧ j + us.size ≤ a.size ∧ x'.cells.toList = a.toList.take j ++ us.toList ++ a.toList.drop (j + us.size) := by
      intro vs us ts hwv' hrv h1 hts hle
      obtain ⟨l3, g3⟩ := wtC_iff hwv'
      obtain ⟨l4, g4⟩ := relL_iff.1 hrv
      have e1 : vs.length = us.size := by simpa using l4
      have e2 : ds.length = a.size := by simpa using l2
      refine ⟨.agg (a.toList.take j ++ us.toList ++ a.toList.drop (j + us.size)).toArray, ?_, ?_, ?_, ?_, by omega, rfl⟩
      · simp only [wt]
        refine ⟨hA, wtC_of ?_ (fun q c hq => ?_)⟩
        · simp only [place, List.length_append, List.length_take, List.length_drop]; omega
        · simp only [place] at hq
          rw [splice_get _ _ _ (by omega)] at hq
          by_cases q1 : q < j
          · rw [if_pos q1] at hq; exact g1 q c hq
          · rw [if_neg q1] at hq
            by_cases q2 : q < j + vs.length
            · rw [if_pos q2] at hq
              obtain ⟨t', k1, k2⟩ := g3 (q - j) c hq
              refine ⟨t', ?_, k2⟩
              rw [← hts, List.getElem?_take, if_pos (by omega), List.getElem?_drop] at k1
              rwa [show j + (q - j) = q from by omega] at k1
            · rw [if_neg q2] at hq; exact g1 q c hq
      · simp only [rel]
        refine ⟨_, rfl, ?_, ?_⟩
        · simp only [place, e1]
          exact relL_app (relL_app (relL_take hra j) hrv) (relL_drop hra _)
        · intro u hu
          simp only [List.mem_append] at hu
          rcases hu with (hu | hu) | hu
          · exact h1e u (List.mem_of_mem_take hu)
          · exact h1 u hu
          · exact h1e u (List.mem_of_mem_drop hu)
      · simp [Value.cells]; omega
      · intro u hu
        simp only [Value.cells, List.mem_append] at hu
        rcases hu with (hu | hu) | hu
        · exact h1e u (List.mem_of_mem_take hu)
        · exact h1 u hu
        · exact h1e u (List.mem_of_mem_drop hu)
    unfold fits at hf
    cases hT : isAggT T t with
    | true =>
      rw [hT] at hf
      simp only [Bool.and_eq_true, beq_iff_eq] at hf
      obtain ⟨⟨_, hf2⟩, hf3, hf4⟩ := hf
      obtain ⟨vs, rfl, hwv2⟩ := wt_agg hwv hT
      simp only [rel] at hr
      obtain ⟨us, rfl, hrv, h1v⟩ := hr
      have hts := eqN_eq hf2
      have hpos : 0 < (cellTys T 8 t).length := by rw [hf3]; omega
      have hlen := congrArg List.length hts
      simp only [List.length_take, List.length_drop] at hlen
      exact key vs us _ hwv2 hrv h1v hts (by omega)
    | false =>
      rw [hT, hA] at hf
      simp only [Bool.and_eq_true, beq_iff_eq] at hf
      obtain ⟨hf1, hf2⟩ := hf
      obtain ⟨o1, o2⟩ := wt_one hwv hT hr
      have hj : j < (cellTys T 8 et).length := by simp [Nat.blt] at hf2; omega
      have hgj : (cellTys T 8 et)[j]? = some t := by
        rw [← hf1]; exact getD_some hj
      rw [o2, cells_one o1]
      refine key [v] #[x] [t] (by simp only [wtC]; exact ⟨t, [], rfl, hT, hwv, rfl⟩) (by simp only [relL]; exact ⟨x, [], rfl, hr, rfl⟩) (fun u hu => by simp at hu; subst hu; exact o1) ?_ (by simp; omega)
      apply List.ext_getElem?
      intro q
      rw [List.getElem?_take]
      by_cases hq : q < 1
      · have : q = 0 := by omega
        subst this
        simp [hgj]
      · have : ¬ (q < [t].length) := hq
        rw [if_neg this, List.getElem?_eq_none (by simp; omega)]
  | false =>
    unfold fits at hf
    have hT : isAggT T t = false := by
      cases hT : isAggT T t with
      | false => rfl
      | true => rw [hT, hA] at hf; simp at hf
    rw [hT, hA] at hf
    simp only [Bool.and_eq_true, beq_iff_eq] at hf
    obtain ⟨rfl, rfl⟩ := hf
    obtain ⟨o1, o2⟩ := wt_one hwv hT hr
    obtain ⟨p1, p2⟩ := wt_one hwe hA hre
    have hput : putCells e 0 [v] = v := by
      cases e <;> first | rfl | (simp only [wt] at hwe; rw [hA] at hwe; exact absurd hwe.1 (by simp))
    rw [o2, hput]
    refine ⟨x, hwv, hr, by rw [cells_one o1, cells_one p1]; rfl, fun u hu => by rw [cells_one o1] at hu; simp at hu; subst hu; exact o1, by rw [cells_one o1, cells_one p1]; simp, by rw [cells_one o1, cells_one p1]; simp⟩

theorem chkS_stor {t : Nat} (h : chkS T t v = true) : stor v = true := by
  unfold chkS at h
  split at h
  · cases h
  · split at h <;> first | rfl | cases h
theorem chk_stor {t : Nat} (h : chk T t v = true) : stor v = true := by
  unfold chk at h
  split at h
  · cases h
  · split at h
    · rfl
    · exact chkS_stor h
    · cases h

theorem storeRow_ok (htok : TyOk P T) (hs : Since w0 w) (hh : HOk T φ w0.Z w S hp) {t n et j : Nat} {i : Int} {es : List V} {a : Value} (hl : look hp n = some (.row et es))
    (ha : rel T φ w S (.ep n i j) a) (hr : rel T φ w S v x) (hf : fits T et t j = true) (hc : chk T t v = true) (hz : sizeT T t ≠ 0) (hcl : (cellsOf v).length = sizeT T t) :
    ∃ w', (Instr.storeAt t a x).run P w = .ok () w' ∧ LeftS T w0 φ S hp w [(n, .row et ((real P T w0).put es i j (cellsOf v)))] w' := by
  simp only [rel] at ha
  obtain ⟨B, off, len, room, sz, hφ, h0, hlt, rfl⟩ := ha
  obtain ⟨hwt, e, he, hze, hb⟩ := hh.blk _ _ hl
  rcases hb with ⟨B', off', room', arr, b1, b2, b0', b3, b4, b5⟩ | ⟨b1, _⟩
  case inr => rw [hφ] at b1; cases b1
  rw [hφ] at b1; injection b1 with b1; injection b1 with a1 a2 a3 a4 a5; subst a1; subst a2; subst a3; subst a4; subst a5
  have hk : i.toNat < es.length := by omega
  have hel : es[i.toNat]? = some (es.getD i.toNat .dead) := getD_some hk
  obtain ⟨xe, e1, e2, e3, e4⟩ := b5 i.toNat _ hel
  obtain ⟨x', p1, p2, p3, p4, p5, p6⟩ := put_el (wt_get hwt hk) e1 e3 hf hc hr hz
  obtain ⟨i0, hi, hsi⟩ := sizeT_info htok hz
  have hxs : x.cells.size = i0.size := by
    have := (relL_iff.1 (stor_cells (chk_stor hc) hr).1).1
    rw [hsi, ← hcl, this]; simp
  have hfit : off + i.toNat * e.size + j + x.cells.size ≤ arr.size := by
    have : (i.toNat + 1) * e.size ≤ es.length * e.size := Nat.mul_le_mul_right _ hk
    rw [Nat.add_mul, Nat.one_mul] at this
    rw [e2] at p5
    omega
  have hone : ∀ u ∈ x.cells.toList, u.oneCell' = true := by
    intro u hu
    refine p4 u ?_
    rw [p6]
    simp [hu]
  refine ⟨_, run_storeVar hi b2 hxs hfit hone, φ, S, Ext.write hs hh hl rfl rfl hφ rfl ?_⟩
  have hkeep : ∀ k, S k → (w.setRow B (arr.toList.take (off + i.toNat * e.size + j) ++ x.cells.toList ++ arr.toList.drop (off + i.toNat * e.size + j + x.cells.size)).toArray).heap[k]? = w.heap[k]? := fun k hk => setRow_other w B k _ (fun h => (hh.own n _ _ B hl rfl hφ rfl).2.2 (h ▸ hk))
  have hlen : ((real P T w0).put es i j (cellsOf v)).length = es.length := by simp [real]
  have hput : ∀ q, ((real P T w0).put es i j (cellsOf v))[q]? = if i.toNat = q then some (putCells (es.getD i.toNat .dead) j (cellsOf v)) else es[q]? := by
    intro q
    simp only [real, List.getElem?_set]
    by_cases hq : i.toNat = q
    · subst hq; rw [if_pos rfl, if_pos rfl, if_pos hk]
    · rw [if_neg hq, if_neg hq]
  refine ⟨wtL_iff.2 (fun q hq => ?_), e, he, hze, .inl ⟨B, off, room, _, by rw [hlen]; exact hφ, setRow_heap w B arr _ et (0, 0) b2, b0', ?_, by rw [hlen]; exact b4, ?_⟩⟩
  · simp only [real] at hq
    rcases List.mem_or_eq_of_mem_set hq with hq | hq
    · exact wtL_iff.1 hwt q hq
    · subst hq; exact p1
  · simp; omega
  · intro q c hq
    rw [hput] at hq
    by_cases hqi : i.toNat = q
    · rw [if_pos hqi] at hq
      injection hq with hq
      subst hq; subst hqi
      refine ⟨x', rel_mono (LocLe.refl _) hkeep (fun _ h => h) _ _ p2, by rw [p3, e2], p4, fun r u hu => ?_⟩
      rw [List.getElem?_toArray, ← Array.length_toList (xs := x.cells), splice_get _ _ _ (by simpa using hfit)]
      have hu' : x'.cells.toList[r]? = some u := by simpa using hu
      rw [p6, ← Array.length_toList (xs := x.cells), splice_get _ _ _ (by simpa using p5)] at hu'
      by_cases r1 : r < j
      · rw [if_pos r1] at hu'
        rw [if_pos (by omega)]
        simpa using e4 r u (by simpa using hu')
      · rw [if_neg r1] at hu'
        by_cases r2 : r < j + x.cells.toList.length
        · rw [if_pos r2] at hu'
          rw [if_neg (by omega), if_pos (by omega)]
          rwa [show off + i.toNat * e.size + r - (off + i.toNat * e.size + j) = r - j from by omega]
        · rw [if_neg r2] at hu'
          rw [if_neg (by omega), if_neg (by omega)]
          simpa using e4 r u (by simpa using hu')
    · rw [if_neg hqi] at hq
      obtain ⟨y, y1, y2, y3, y4⟩ := b5 q c hq
      refine ⟨y, rel_mono (LocLe.refl _) hkeep (fun _ h => h) _ _ y1, y2, y3, fun r u hu => ?_⟩
      rw [List.getElem?_toArray, ← Array.length_toList (xs := x.cells), splice_get _ _ _ (by simpa using hfit)]
      have hr : r < e.size := by
        have := (Array.getElem?_eq_some_iff.1 hu).1
        omega
      have hold : arr.toList[off + q * e.size + r]? = some u := by simpa using y4 r u hu
      rw [e2] at p5
      have p5' : j + x.cells.toList.length ≤ e.size := by simpa using p5
      rcases Nat.lt_or_gt_of_ne hqi with hlt | hgt
      · have : (i.toNat + 1) * e.size ≤ q * e.size := Nat.mul_le_mul_right _ hlt
        rw [Nat.add_mul, Nat.one_mul] at this
        rw [if_neg (by omega), if_neg (by omega)]
        exact hold
      · have : (q + 1) * e.size ≤ i.toNat * e.size := Nat.mul_le_mul_right _ hgt
        rw [Nat.add_mul, Nat.one_mul] at this
        rw [if_pos (by omega)]
        exact hold
end
end Go.Ab
end
section
/- Each operation does what the calculus says: rows told as_ lists, appends, copies. No statement of its own. -/

namespace Go.Ab
open Go.RowKit

section
variable {P : Program} {T : Tr} {w0 : Base} {φ φ' : Nat → Option Loc} {w w' : World} {S S' : Nat → Prop} {v : V} {x : Value} {hp : Hp} {b0 : Nat → Prop}

theorem row_sl {n et : Nat} {es : List V} {e : TE} (he : T.look et = some e) (hz : 0 < e.size) (hw : wtL T et es) (hS : ∀ l B, φ n = some l → l.blk = some B → S B)
    (hb : (∃ B off room arr fz, φ n = some (.rw B off es.length room e.size) ∧ w.heap[B]? = some (.cells arr et fz) ∧ inRow T φ w S arr off e.size es) ∨ (φ n = some .nilrow ∧ es = []))
    (hr : rel T φ w S (.row n) x) : rel T φ w S (.sl et es) x := by
  simp only [rel] at hr ⊢
  rcases hb with ⟨B, off, room, arr, fz, h1, h2, h3⟩ | ⟨h1, rfl⟩
  · rcases hr with ⟨B', off', len, room', sz, cap, k1, k2, k3, k4, k5⟩ | ⟨k1, _⟩
    · rw [h1] at k1; injection k1 with k1; injection k1 with a1 a2 a3 a4 a5; subst a1; subst a2; subst a3; subst a4; subst a5
      refine ⟨_, cap, k2, k3, Nat.le_trans k3 k4, hw, fun hne => ⟨⟨B, off, none⟩, e, rfl, he, hz, hS _ _ h1 rfl, relE_iff.2 (fun k c hk => ?_)⟩⟩
      obtain ⟨y, y1, y2, y3, y4⟩ := h3 k c hk
      refine ⟨y, y1, y2, y3, fun j u hu => ?_⟩
      rw [add_at0, cell_of_row w B _ arr et fz h2, Nat.zero_add, ← Nat.add_assoc]
      exact y4 j u hu
    · rw [h1] at k1; cases k1
  · rcases hr with ⟨B', off', len, room', sz, cap, k1, _⟩ | ⟨_, A, k2⟩
    · rw [h1] at k1; cases k1
    · exact ⟨A, 0, k2, by simp, by simp [maxLen], by simp [wtL], fun h => absurd rfl h⟩

theorem row_form {n et : Nat} {es : List V} (hh : HOk T φ b0 w S hp) (hl : look hp n = some (.row et es)) : wtL T et es ∧ ∃ e, T.look et = some e ∧ 0 < e.size ∧ ((∃ B off room arr fz, φ n = some (.rw B off es.length room e.size) ∧ w.heap[B]? = some (.cells arr et fz) ∧ inRow T φ w S arr off e.size es) ∨ (φ n = some .nilrow ∧ es = [])) := by
  obtain ⟨h0, e, he, hz, hb⟩ := hh.blk _ _ hl
  refine ⟨h0, e, he, hz, ?_⟩
  rcases hb with ⟨B, off, room, arr, h1, h2, _, _, _, h3⟩ | hb
  · exact .inl ⟨B, off, room, arr, (0, 0), h1, h2, h3⟩
  · exact .inr hb
theorem ro_form {n et : Nat} {es : List V} (hh : HOk T φ b0 w S hp) (hl : look hp n = some (.ro et es)) : wtL T et es ∧ ∃ e, T.look et = some e ∧ 0 < e.size ∧ ((∃ B off room arr fz, φ n = some (.rw B off es.length room e.size) ∧ w.heap[B]? = some (.cells arr et fz) ∧ inRow T φ w S arr off e.size es) ∨ (φ n = some .nilrow ∧ es = [])) := by
  obtain ⟨h0, e, he, hz, hb⟩ := hh.blk _ _ hl
  refine ⟨h0, e, he, hz, ?_⟩
  rcases hb with ⟨B, off, room, arr, fz, h1, _, h2, _, _, h3⟩ | hb
  · exact .inl ⟨B, off, room, arr, fz, h1, h2, h3⟩
  · exact .inr hb
theorem ro_S {n et : Nat} {es : List V} (hh : HOk T φ b0 w S hp) (hl : look hp n = some (.ro et es)) : ∀ l B, φ n = some l → l.blk = some B → S B := by
  intro l B h1 h2
  obtain ⟨h0, e, he, hz, hb⟩ := hh.blk _ _ hl
  rcases hb with ⟨B', off, room, arr, fz, k1, k2, _⟩ | ⟨k1, _⟩
  · rw [h1] at k1; injection k1 with k1; subst k1
    injection h2 with h2; subst h2; exact k2
  · rw [h1] at k1; injection k1 with k1; subst k1; cases h2

theorem frzS_ok {v' : V} {E : Hp} (hh : HOk T φ b0 w S hp) (hr : rel T φ w S v x) (h : frzS hp v = (v', E)) : ∃ S', SLe b0 S S' ∧ HOk T φ b0 w S' (E ++ hp) ∧ rel T φ w S' v' x := by
  have id : ∀ {v' : V} {E : Hp}, (v', ([] : Hp)) = (v', E) → rel T φ w S v' x → ∃ S', SLe b0 S S' ∧ HOk T φ b0 w S' (E ++ hp) ∧ rel T φ w S' v' x := by
    intro v' E h1 h2
    injection h1 with h1 h3
    subst h3
    exact ⟨S, SLe.refl, hh, h2⟩
  have dd : ∀ {v' : V} {E : Hp}, (V.dead, ([] : Hp)) = (v', E) → ∃ S', SLe b0 S S' ∧ HOk T φ b0 w S' (E ++ hp) ∧ rel T φ w S' v' x := by
    intro v' E h1
    injection h1 with h1 h3
    subst h3; subst h1
    exact ⟨S, SLe.refl, hh, by simp only [rel]⟩
  cases v with
  | row n =>
    simp only [frzS] at h
    split at h
    · rename_i et es hl
      injection h with h1 h2
      subst h1; subst h2
      obtain ⟨S', s1, s2, s3⟩ := hh.freeze hl
      refine ⟨S', ⟨s1, fun k hk => (s3 k hk).imp (fun h => h) (fun ⟨l, hl1, hl2⟩ => (hh.own n _ l k hl rfl hl1 hl2).1)⟩, s2, ?_⟩
      have hl' : look ((n, Blk.ro et es) :: hp) n = some (.ro et es) := by rw [look_cons, if_pos rfl]
      obtain ⟨hw, e, he, hz, hb⟩ := ro_form s2 hl'
      exact row_sl he hz hw (ro_S s2 hl') hb (rel_mono (LocLe.refl _) (fun _ _ => rfl) s1 _ _ hr)
    · rename_i et es hl
      injection h with h1 h2
      subst h1; subst h2
      obtain ⟨hw, e, he, hz, hb⟩ := ro_form hh hl
      exact ⟨S, SLe.refl, hh, row_sl he hz hw (ro_S hh hl) hb hr⟩
    · exact dd h
  | ptr _ _ => exact dd h
  | ep _ _ _ => exact dd h
  | rowp _ _ _ => exact dd h
  | agg _ => exact dd h
  | tup _ => exact dd h
  | fn _ _ _ => exact dd h
  | s _ => simp only [frzS] at h; injection h with h1 h2; subst h1; subst h2; exact id rfl hr
  | i _ _ => simp only [frzS] at h; injection h with h1 h2; subst h1; subst h2; exact id rfl hr
  | b _ => simp only [frzS] at h; injection h with h1 h2; subst h1; subst h2; exact id rfl hr
  | str _ => simp only [frzS] at h; injection h with h1 h2; subst h1; subst h2; exact id rfl hr
  | nil => simp only [frzS] at h; injection h with h1 h2; subst h1; subst h2; exact id rfl hr
  | sl _ _ => simp only [frzS] at h; injection h with h1 h2; subst h1; subst h2; exact id rfl hr
  | rp _ _ _ _ => simp only [frzS] at h; injection h with h1 h2; subst h1; subst h2; exact id rfl hr
  | nlq g es => exact dd h
  | mp _ _ => simp only [frzS] at h; injection h with h1 h2; subst h1; subst h2; exact id rfl hr
  | dead => exact dd h

theorem frzL_ok : ∀ {cs cs' : List V} {xs : List Value} {E : Hp} {hp : Hp} {S : Nat → Prop}, HOk T φ b0 w S hp → relL T φ w S cs xs → frzL hp cs = (cs', E) → ∃ S', SLe b0 S S' ∧ HOk T φ b0 w S' (E ++ hp) ∧ relL T φ w S' cs' xs
  | [], cs', xs, E, hp, S, hh, hr, h => by
    simp only [frzL] at h
    injection h with h1 h2
    subst h1; subst h2
    exact ⟨S, SLe.refl, hh, hr⟩
  | v :: r, cs', xs, E, hp, S, hh, hr, h => by
    simp only [frzL] at h
    cases hv : frzS hp v with
    | mk v1 E1 =>
      rw [hv] at h
      simp only at h
      cases hq : frzL (E1 ++ hp) r with
      | mk r2 E2 =>
        rw [hq] at h
        simp only at h
        injection h with h1 h2
        subst h1; subst h2
        simp only [relL] at hr
        obtain ⟨x, xs', rfl, k1, k2⟩ := hr
        obtain ⟨S1, s1, s2, s3⟩ := frzS_ok hh k1 hv
        obtain ⟨S2, t1, t2, t3⟩ := frzL_ok s2 (relL_mono (LocLe.refl _) (fun _ _ => rfl) s1.1 _ _ k2) hq
        refine ⟨S2, s1.trans t1, by rw [List.append_assoc]; exact t2, ?_⟩
        simp only [relL]
        exact ⟨x, xs', rfl, rel_mono (LocLe.refl _) (fun _ _ => rfl) t1.1 _ _ s3, t3⟩

theorem frz_ok {v' : V} {E : Hp} (hh : HOk T φ b0 w S hp) (hr : rel T φ w S v x) (h : frz hp v = (v', E)) : ∃ S', SLe b0 S S' ∧ HOk T φ b0 w S' (E ++ hp) ∧ rel T φ w S' v' x := by
  unfold frz at h
  split at h
  · rename_i cs
    cases hq : frzL hp cs with
    | mk cs' E' =>
      rw [hq] at h
      simp only at h
      injection h with h1 h2
      subst h1; subst h2
      simp only [rel] at hr
      obtain ⟨a, rfl, k1, k2⟩ := hr
      obtain ⟨S', s1, s2, s3⟩ := frzL_ok hh k1 hq
      refine ⟨S', s1, s2, ?_⟩
      simp only [rel]
      exact ⟨a, rfl, s3, k2⟩
  · exact frzS_ok hh hr h

theorem frzP_ok : ∀ {ps ps' : List (Nat × V)} {qs : List (Nat × Value)} {E : Hp} {hp : Hp} {S : Nat → Prop}, HOk T φ b0 w S hp → ps.map (·.1) = qs.map (·.1) → relL T φ w S (ps.map (·.2)) (qs.map (·.2)) → frzP hp ps = (ps', E) →
    ∃ S', SLe b0 S S' ∧ HOk T φ b0 w S' (E ++ hp) ∧ ps'.map (·.1) = qs.map (·.1) ∧ relL T φ w S' (ps'.map (·.2)) (qs.map (·.2))
  | [], ps', qs, E, hp, S, hh, he, hr, h => by
    simp only [frzP] at h
    injection h with h1 h2
    subst h1; subst h2
    exact ⟨S, SLe.refl, hh, he, hr⟩
  | (i, v) :: r, ps', qs, E, hp, S, hh, he, hr, h => by
    simp only [frzP] at h
    cases hv : frz hp v with
    | mk v1 E1 =>
      rw [hv] at h
      simp only at h
      cases hq : frzP (E1 ++ hp) r with
      | mk r2 E2 =>
        rw [hq] at h
        simp only at h
        injection h with h1 h2
        subst h1; subst h2
        cases qs with
        | nil => simp at he
        | cons q qs =>
          simp only [List.map_cons, relL] at hr
          obtain ⟨x, xs', e1, k1, k2⟩ := hr
          injection e1 with e1 e2
          subst e1; subst e2
          simp only [List.map_cons, List.cons.injEq] at he
          obtain ⟨S1, s1, s2, s3⟩ := frz_ok hh k1 hv
          obtain ⟨S2, t1, t2, t3, t4⟩ := frzP_ok s2 he.2 (relL_mono (LocLe.refl _) (fun _ _ => rfl) s1.1 _ _ k2) hq
          refine ⟨S2, s1.trans t1, by rw [List.append_assoc]; exact t2, by simp [he.1, t3], ?_⟩
          simp only [List.map_cons, relL]
          exact ⟨_, _, rfl, norm_rel (rel_mono (LocLe.refl _) (fun _ _ => rfl) t1.1 _ _ s3), t4⟩

def OB (φ : Nat → Option Loc) (ns : List Nat) (k : Nat) : Prop := ∃ n ∈ ns, ∃ l, φ n = some l ∧ l.blk = some k

theorem relE_sub {ad : Addr} {sz : Nat} {es : List V} {l h : Nat} (hr : relE T φ w S ad sz 0 es) : relE T φ w S (ad.add (l * sz)) sz 0 ((es.take h).drop l) := by
  refine relE_iff.2 (fun k e hk => ?_)
  rw [List.getElem?_drop, List.getElem?_take] at hk
  split at hk
  · obtain ⟨x, x1, x2, x3, x4⟩ := relE_iff.1 hr (l + k) e hk
    refine ⟨x, x1, x2, x3, fun j u hu => ?_⟩
    rw [add_add, show l * sz + ((0 + k) * sz + j) = (0 + (l + k)) * sz + j from by rw [Nat.zero_add, Nat.zero_add, Nat.add_mul]; omega]
    exact x4 j u hu
  · cases hk

theorem wtL_sub {et : Nat} {es : List V} (l h : Nat) (hw : wtL T et es) : wtL T et ((es.take h).drop l) :=
  wtL_iff.2 fun e he => wtL_iff.1 hw e (List.mem_of_mem_take (List.mem_of_mem_drop he))

theorem expS_ok (hh : HOk T φ b0 w S hp) (hr : rel T φ w S v x) : rel T φ w (fun k => S k ∨ OB φ (rowsS v) k) (expS (real P T w0) hp v) x := by
  have up : ∀ v, rel T φ w S v x → rel T φ w (fun k => S k ∨ OB φ (rowsS v) k) v x := fun v h => rel_mono (LocLe.refl _) (fun _ _ => rfl) (fun k hk => .inl hk) _ _ h
  cases v with
  | row n =>
    simp only [expS]
    have hS : ∀ l B, φ n = some l → l.blk = some B → (S B ∨ OB φ (rowsS (.row n)) B) := fun l B h1 h2 => .inr ⟨n, by simp [rowsS], l, h1, h2⟩
    have go : ∀ {et es}, (wtL T et es ∧ ∃ e, T.look et = some e ∧ 0 < e.size ∧ ((∃ B off room arr fz, φ n = some (.rw B off es.length room e.size) ∧ w.heap[B]? = some (.cells arr et fz) ∧ inRow T φ w S arr off e.size es) ∨ (φ n = some .nilrow ∧ es = []))) → rel T φ w (fun k => S k ∨ OB φ (rowsS (.row n)) k) (.sl et es) x := by
      intro et es ⟨hw, e, he, hz, hb⟩
      refine row_sl he hz hw hS ?_ (up _ hr)
      rcases hb with ⟨B, off, room, arr, fz, h1, h2, h3⟩ | hb
      · exact .inl ⟨B, off, room, arr, fz, h1, h2, inRow_mono (LocLe.refl _) (fun _ _ => rfl) (fun k hk => .inl hk) h3⟩
      · exact .inr hb
    split
    · rename_i et es hl; exact go (row_form hh hl)
    · rename_i et es hl; exact go (ro_form hh hl)
    · simp only [rel]
  | rowp n lo ln =>
    simp only [expS]
    have go : ∀ {et es}, (wtL T et es ∧ ∃ e, T.look et = some e ∧ 0 < e.size ∧ ((∃ B off room arr fz, φ n = some (.rw B off es.length room e.size) ∧ w.heap[B]? = some (.cells arr et fz) ∧ inRow T φ w S arr off e.size es) ∨ (φ n = some .nilrow ∧ es = []))) → rel T φ w (fun k => S k ∨ OB φ (rowsS (.rowp n lo ln)) k) (.sl et ((real P T w0).sub es lo ((real P T w0).pl lo ln))) x := by
      intro et es ⟨hw, e, he, hz, hb⟩
      simp only [rel] at hr ⊢
      rcases hb with ⟨B, off, room, arr, fz, h1, h2, h3⟩ | ⟨h1, rfl⟩
      · rcases hr with ⟨B', off', len, room', sz, cap, A, k1, k2, k3, k4, k5, k6, k7, k8, k9⟩ | ⟨k1, _⟩
        · rw [h1] at k1; injection k1 with k1; injection k1 with a1 a2 a3 a4 a5; subst a1; subst a2; subst a3; subst a4; subst a5
          have hlen : ((es.take (lo + ln).toNat).drop lo.toNat).length = ln.toNat := by simp; omega
          refine ⟨some A, cap, by simp only [real]; rw [hlen]; exact k2, by simp only [real]; rw [hlen]; omega, by simp only [real]; rw [hlen]; omega, by simp only [real]; exact wtL_sub _ _ hw, fun hne => ?_⟩
          have hpos : 0 < cap := by
            rcases Nat.eq_zero_or_pos cap with h | h
            · exfalso; apply hne; simp only [real]; apply List.eq_nil_of_length_eq_zero; rw [hlen]; omega
            · exact h
          obtain rfl := k9 hpos
          refine ⟨_, e, rfl, he, hz, .inr ⟨n, by simp [rowsS], _, h1, rfl⟩, ?_⟩
          have hE : relE T φ w (fun k => S k ∨ OB φ (rowsS (.rowp n lo ln)) k) ⟨B, off, none⟩ e.size 0 es := relE_iff.2 (fun k c hk => by
            obtain ⟨y, y1, y2, y3, y4⟩ := h3 k c hk
            refine ⟨y, rel_mono (LocLe.refl _) (fun _ _ => rfl) (fun k hk => .inl hk) _ _ y1, y2, y3, fun j u hu => ?_⟩
            rw [add_at0, cell_of_row w B _ arr et fz h2, Nat.zero_add, ← Nat.add_assoc]
            exact y4 j u hu)
          have := relE_sub (l := lo.toNat) (h := (lo + ln).toNat) hE
          rw [add_at0] at this
          exact this
        · rw [h1] at k1; cases k1
      · rcases hr with ⟨B', off', len, room', sz, cap, A, k1, _⟩ | ⟨_, ⟨A, k2⟩, k3, k4⟩
        · rw [h1] at k1; cases k1
        · subst k2
          refine ⟨A, 0, by simp [real], by simp [real], by simp [real, maxLen], by simp [real, wtL], fun h => absurd (by simp [real]) h⟩
    split
    · rename_i et es hl; exact go (row_form hh hl)
    · rename_i et es hl; exact go (ro_form hh hl)
    · simp only [rel]
  | ptr n j => simp only [expS, rel]
  | nlq g es => simp only [expS, rel]
  | ep n i j => simp only [expS, rel]
  | agg cs => simp only [expS, rel]
  | tup cs => simp only [expS, rel]
  | fn f fs cs =>
    cases fs with
    | nil => cases cs with
      | nil => simp only [expS]; exact up _ hr
      | cons c cs => simp only [expS, rel]
    | cons c fs => simp only [expS, rel]
  | _ => exact up _ hr

theorem expL_ok (hh : HOk T φ b0 w S hp) : ∀ {cs : List V} {xs : List Value}, relL T φ w S cs xs → relL T φ w (fun k => S k ∨ OB φ ((cs.map rowsS).flatten) k) (cs.map (expS (real P T w0) hp)) xs
  | [], xs, h => by simpa only [relL, List.map_nil] using h
  | v :: r, xs, h => by
    simp only [relL, List.map_cons] at h ⊢
    obtain ⟨x, xs', h1, h2, h3⟩ := h
    have sub : ∀ {a b : List Nat}, (∀ n ∈ a, n ∈ b) → ∀ k, (S k ∨ OB φ a k) → (S k ∨ OB φ b k) := by
      intro a b hab k hk
      rcases hk with hk | ⟨n, hn, r⟩
      · exact .inl hk
      · exact .inr ⟨n, hab n hn, r⟩
    refine ⟨x, xs', h1, rel_mono (LocLe.refl _) (fun _ _ => rfl) (sub (fun n hn => ?_)) _ _ (expS_ok hh h2), relL_mono (LocLe.refl _) (fun _ _ => rfl) (sub (fun n hn => ?_)) _ _ (expL_ok hh h3)⟩
    · simp only [List.flatten_cons, List.mem_append]; exact .inl hn
    · simp only [List.flatten_cons, List.mem_append]; exact .inr hn

theorem exp_ok (hh : HOk T φ b0 w S hp) (hr : rel T φ w S v x) : rel T φ w (fun k => S k ∨ OB φ (rowsOf v) k) (Ab.exp (real P T w0) hp v) x := by
  unfold Ab.exp
  split
  · rename_i cs
    simp only [rel] at hr ⊢
    obtain ⟨a, rfl, h1, h2⟩ := hr
    exact ⟨a, rfl, expL_ok hh h1, h2⟩
  · rename_i hne
    have : rowsOf v = rowsS v := by
      unfold rowsOf
      split
      · exact absurd rfl (hne _)
      · rfl
    rw [this]
    exact expS_ok hh hr
end
end Go.Ab
end
section
/- Each operation does what the calculus says: append and copy. No statement of its own. -/

namespace Go.Ab
open Go.RowKit

section
variable {P : Program} {T : Tr} {w0 : Base} {φ φ' : Nat → Option Loc} {w w' : World} {S S' : Nat → Prop} {v : V} {x : Value} {hp : Hp} {b0 : Nat → Prop}

theorem cells_of_relE {ad : Addr} {sz : Nat} : ∀ {es : List V} {i : Nat}, relE T φ w S ad sz i es → ∃ news : List Value, news.length = es.length * sz ∧ (∀ j u, news[j]? = some u → w.cell? (ad.add (i * sz + j)) = some u) ∧ (∀ u ∈ news, u.oneCell' = true) ∧ inRow T φ w S news.toArray 0 sz es
  | [], i, _ => ⟨[], by simp, by simp, by simp, fun k e hk => by simp at hk⟩
  | e :: es, i, h => by
    simp only [relE] at h
    obtain ⟨⟨y, y1, y2, y3, y4⟩, h2⟩ := h
    obtain ⟨news, n1, n2, n3, n4⟩ := cells_of_relE h2
    refine ⟨y.cells.toList ++ news, by simp [n1, y2, Nat.add_mul]; omega, fun j u hu => ?_, fun u hu => ?_, fun k c hk => ?_⟩
    · rw [List.getElem?_append] at hu
      split at hu
      · exact y4 j u (by simpa using hu)
      · rename_i hlt
        have := n2 _ u hu
        simp only [Array.length_toList, y2] at hlt this
        rwa [show (i + 1) * sz + (j - sz) = i * sz + j from by rw [Nat.add_mul]; omega] at this
    · rcases List.mem_append.1 hu with hu | hu
      · exact y3 u hu
      · exact n3 u hu
    · cases k with
      | zero =>
        simp at hk; subst hk
        refine ⟨y, y1, y2, y3, fun j u hu => ?_⟩
        have hj : j < y.cells.size := (Array.getElem?_eq_some_iff.1 hu).1
        simp only [Nat.zero_mul, Nat.zero_add, List.getElem?_toArray]
        rw [List.getElem?_append, if_pos (by simpa using hj)]
        simpa using hu
      | succ k =>
        simp at hk
        obtain ⟨z, z1, z2, z3, z4⟩ := n4 k c hk
        refine ⟨z, z1, z2, z3, fun j u hu => ?_⟩
        have := z4 j u hu
        simp only [Nat.zero_add, List.getElem?_toArray] at this ⊢
        rw [List.getElem?_append, if_neg (by simp [y2, Nat.add_mul]; omega)]
        simp only [Array.length_toList, y2]
        rwa [show (k + 1) * sz + j - sz = k * sz + j from by rw [Nat.add_mul]; omega]

theorem relE_of_inRow {B off sz : Nat} {arr : Array Value} {et : Nat} {fz : Nat × Nat} {es : List V} (h2 : w.heap[B]? = some (.cells arr et fz)) (h : inRow T φ w S arr off sz es) : relE T φ w S ⟨B, off, none⟩ sz 0 es :=
  relE_iff.2 (fun k c hk => by
    obtain ⟨y, y1, y2, y3, y4⟩ := h k c hk
    refine ⟨y, y1, y2, y3, fun j u hu => ?_⟩
    rw [add_at0, cell_of_row w B _ arr et fz h2, Nat.zero_add, ← Nat.add_assoc]
    exact y4 j u hu)

structure Src (P : Program) (T : Tr) (φ : Nat → Option Loc) (w : World) (S : Nat → Prop) (u sz : Nat) (xs : List V) (x : Value) (news : List Value) : Prop where
  wt : wtL T u xs
  nl : news.length = xs.length * sz
  one : ∀ u ∈ news, u.oneCell' = true
  row : inRow T φ w S news.toArray 0 sz xs
  len : ∀ w1, (Builtin.lenOf x).run P w1 = .ok xs.length w1
  first : ∀ w1 m, w1.heap = w.heap → m ≤ xs.length → (Builtin.firstCells sz m x).run P w1 = .ok (news.take (m * sz)).toArray w1
  max : xs.length ≤ maxLen ∨ True

theorem cell_heap {w1 : World} (h : w1.heap = w.heap) (a : Addr) : w1.cell? a = w.cell? a := by unfold World.cell?; rw [h]

theorem src_sl {u : Nat} {e : TE} {es : List V} {A : Option Addr} {cap : Nat} (hw : wtL T u es) (hE : es ≠ [] → ∃ ad, A = some ad ∧ relE T φ w S ad e.size 0 es) :
    ∃ news, Src P T φ w S u e.size es (.slice A es.length cap) news := by
  by_cases hne : es = []
  · subst hne
    refine ⟨[], hw, by simp, by simp, fun k e hk => by simp at hk, fun w1 => by simp [Builtin.lenOf], fun w1 m _ hm => ?_, .inr trivial⟩
    obtain rfl : m = 0 := by simpa using hm
    cases A with
    | none => simp [Builtin.firstCells]
    | some ad => simp [Builtin.firstCells, loadCells, loadCellsFrom]
  · obtain ⟨ad, rfl, hE2⟩ := hE hne
    obtain ⟨news, n1, n2, n3, n4⟩ := cells_of_relE hE2
    refine ⟨news, hw, n1, n3, n4, fun w1 => by simp [Builtin.lenOf], fun w1 m hh hm => ?_, .inr trivial⟩
    have hle : m * e.size ≤ news.length := by rw [n1]; exact Nat.mul_le_mul_right _ hm
    refine run_firstCells_some (P := P) w1 e.size m ad es.length cap _ (by simp; omega) (fun j q hq => ?_)
    rw [List.getElem?_take] at hq
    split at hq
    · rw [cell_heap hh]
      have := n2 j q hq
      rwa [Nat.zero_mul, Nat.zero_add] at this
    · cases hq

theorem isU8_of {u : Nat} (h : isU8 T u = true) : ∃ e, T.look u = some e ∧ e.desc = .int .u8 := by
  unfold isU8 at h
  split at h
  · rename_i e he
    split at h
    · rename_i hd; exact ⟨e, he, hd⟩
    · cases h
  · cases h

theorem strBytes_wt {u : Nat} {s : ByteArray} (h : isU8 T u = true) : wtL T u (strBytes s) := by
  obtain ⟨e, he, hd⟩ := isU8_of h
  refine wtL_iff.2 (fun v hv => ?_)
  simp only [strBytes, List.mem_map] at hv
  obtain ⟨b, _, rfl⟩ := hv
  simp only [wt]
  exact ⟨e, he, hd⟩

theorem src_str {u : Nat} {s : ByteArray} (h : isU8 T u = true) : ∃ news, Src P T φ w S u 1 (strBytes s) (.string s) news := by
  refine ⟨s.data.toList.map fun b => .int .u8 b.toNat, strBytes_wt h, by simp [strBytes], fun u hu => ?_, fun k e hk => ?_, fun w1 => ?_, fun w1 m _ hm => ?_, .inr trivial⟩
  · simp only [List.mem_map] at hu
    obtain ⟨b, _, rfl⟩ := hu
    rfl
  · simp only [strBytes, List.getElem?_map, Option.map_eq_some_iff] at hk
    obtain ⟨b, hb, rfl⟩ := hk
    refine ⟨.int .u8 b.toNat, by simp only [rel], rfl, fun u hu => by simp [Value.cells] at hu; subst hu; rfl, fun j u hu => ?_⟩
    cases j with
    | zero => simp [Value.cells] at hu; subst hu; simp at hb; simp [hb]
    | succ j => simp [Value.cells] at hu
  · simp [Builtin.lenOf, strBytes]
  · simp only [Builtin.firstCells, Sem.run_pure, Nat.mul_one]
    congr 1
    simp only [strBytes, List.length_map, Array.length_toList] at hm
    apply Array.ext'
    simp [ByteArray.data_extract, List.map_take]

theorem src_ok (htok : TyOk P T) (hh : HOk T φ b0 w S hp) {u : Nat} {eu : TE} {xs : List V} (he : T.look u = some eu) (h : srcL (real P T w0) hp v = some xs) (hk : okSrc T hp u v = true) (hr : rel T φ w S v x) :
    ∃ news, Src P T φ w S u eu.size xs x news := by
  have hrow : ∀ {n et es}, (wtL T et es ∧ ∃ e, T.look et = some e ∧ 0 < e.size ∧ ((∃ B off room arr fz, φ n = some (.rw B off es.length room e.size) ∧ w.heap[B]? = some (.cells arr et fz) ∧ inRow T φ w S arr off e.size es) ∨ (φ n = some .nilrow ∧ es = []))) → u = et →
      (rel T φ w S (.row n) x → ∃ news, Src P T φ w S u eu.size es x news) ∧ (∀ lo ln, rel T φ w S (.rowp n lo ln) x → ∃ news, Src P T φ w S u eu.size ((es.take (lo + ln).toNat).drop lo.toNat) x news) := by
    intro n et es ⟨hw, e, he', hz, hb⟩ hue
    subst hue
    rw [he] at he'; injection he' with he'; subst he'
    constructor
    · intro hr
      simp only [rel] at hr
      rcases hb with ⟨B, off, room, arr, fz, h1, h2, h3⟩ | ⟨h1, rfl⟩
      · rcases hr with ⟨B', off', len, room', sz, cap, k1, k2, _⟩ | ⟨k1, _⟩
        · rw [h1] at k1; injection k1 with k1; injection k1 with a1 a2 a3 a4 a5; subst a1; subst a2; subst a3; subst a4; subst a5
          subst k2
          exact src_sl hw (fun _ => ⟨_, rfl, relE_of_inRow h2 h3⟩)
        · rw [h1] at k1; cases k1
      · rcases hr with ⟨B', off', len, room', sz, cap, k1, _⟩ | ⟨_, A, k2⟩
        · rw [h1] at k1; cases k1
        · subst k2
          exact src_sl (es := []) hw (fun h => absurd rfl h)
    · intro lo ln hr
      simp only [rel] at hr
      rcases hb with ⟨B, off, room, arr, fz, h1, h2, h3⟩ | ⟨h1, rfl⟩
      · rcases hr with ⟨B', off', len, room', sz, cap, A, k1, k2, k3, k4, k5, k6, k7, k8, k9⟩ | ⟨k1, _⟩
        · rw [h1] at k1; injection k1 with k1; injection k1 with a1 a2 a3 a4 a5; subst a1; subst a2; subst a3; subst a4; subst a5
          subst k2
          have hlen : ((es.take (lo + ln).toNat).drop lo.toNat).length = ln.toNat := by simp; omega
          rw [← hlen]
          refine src_sl (wtL_sub _ _ hw) (fun hne => ?_)
          have hpos : 0 < cap := by
            rcases Nat.eq_zero_or_pos cap with h | h
            · exfalso; apply hne; apply List.eq_nil_of_length_eq_zero; rw [hlen]; omega
            · exact h
          obtain rfl := k9 hpos
          have := relE_sub (l := lo.toNat) (h := (lo + ln).toNat) (relE_of_inRow h2 h3)
          rw [add_at0] at this
          exact ⟨_, rfl, this⟩
        · rw [h1] at k1; cases k1
      · rcases hr with ⟨B', off', len, room', sz, cap, A, k1, _⟩ | ⟨_, ⟨A, k2⟩, k3, k4⟩
        · rw [h1] at k1; cases k1
        · subst k2
          have : (([] : List V).take (lo + ln).toNat).drop lo.toNat = [] := by simp
          rw [this]
          exact src_sl (es := []) hw (fun h => absurd rfl h)
  unfold srcL at h
  split at h
  · injection h with h; subst h
    simp only [rel] at hr; subst hr
    exact src_sl (es := []) (by simp [wtL]) (fun h => absurd rfl h)
  · injection h with h; subst h
    simp only [okSrc, Bool.and_eq_true, beq_iff_eq] at hk
    simp only [rel] at hr; subst hr
    have : eu.size = 1 := by have := hk.2; simpa [sizeT, he] using this
    rw [this]
    exact src_str hk.1
  · injection h with h; subst h
    simp only [okSrc, Bool.and_eq_true, beq_iff_eq] at hk
    simp only [rel] at hr
    obtain ⟨rfl, _⟩ := hr
    have : eu.size = 1 := by have := hk.2; simpa [sizeT, he] using this
    rw [this]
    exact src_str hk.1
  · split at h
    · rename_i et es heq
      injection h with h; subst h
      cases v with
      | sl u' es' =>
        simp only [Ab.exp, expS] at heq
        injection heq with h1 h2
        subst h1; subst h2
        simp only [okSrc, srcT, beq_iff_eq] at hk
        subst hk
        simp only [rel] at hr
        obtain ⟨A, cap, rfl, k2, k3, k4, k5⟩ := hr
        refine src_sl k4 (fun hne => ?_)
        obtain ⟨ad, e, k6, k7, _, _, k8⟩ := k5 hne
        rw [he] at k7; injection k7 with k7; subst k7
        exact ⟨ad, k6, k8⟩
      | row n =>
        simp only [Ab.exp, expS] at heq
        split at heq
        · rename_i et' es' hl
          injection heq with h1 h2
          subst h1; subst h2
          simp only [okSrc, srcT, hl, beq_iff_eq] at hk
          exact (hrow (row_form hh hl) hk).1 hr
        · rename_i et' es' hl
          injection heq with h1 h2
          subst h1; subst h2
          simp only [okSrc, srcT, hl, beq_iff_eq] at hk
          exact (hrow (ro_form hh hl) hk).1 hr
        · cases heq
      | rowp n lo ln =>
        simp only [Ab.exp, expS] at heq
        split at heq
        · rename_i et' es' hl
          injection heq with h1 h2
          subst h1; subst h2
          simp only [okSrc, srcT, hl, beq_iff_eq] at hk
          exact (hrow (row_form hh hl) hk).2 lo ln hr
        · rename_i et' es' hl
          injection heq with h1 h2
          subst h1; subst h2
          simp only [okSrc, srcT, hl, beq_iff_eq] at hk
          exact (hrow (ro_form hh hl) hk).2 lo ln hr
        · cases heq
      | agg cs => simp only [Ab.exp] at heq; cases heq
      | fn f fs cs =>
        simp only [Ab.exp, expS] at heq
        split at heq <;> cases heq
      | _ => simp only [Ab.exp, expS] at heq; cases heq
    · cases h
end
end Go.Ab
end
section
/- Each operation does what the calculus says: append, copy, make. No statement of its own. -/

namespace Go.Ab
open Go.RowKit

section
variable {P : Program} {T : Tr} {w0 : Base} {φ φ' : Nat → Option Loc} {w w' : World} {S S' : Nat → Prop} {v : V} {x : Value} {hp : Hp} {b0 : Nat → Prop}

/-! ### the runs -/
theorem run_app_none {A : Option Addr} {t ty e : TypeId} {i : TypeInfo} (ht : P.underlying t = some (.slice e)) (hi : P.info? e = some i) {x : Value} (hlen : ∀ w1, (Builtin.lenOf x).run P w1 = .ok 0 w1) (hf : (Builtin.firstCells i.size 0 x).run P w = .ok #[] w) :
    (Builtin.append_ #[t, t] ty #[.slice A 0 0, x]).run P w = .ok (.slice A 0 0) w := by
  cases A <;> simp [Builtin.append_, run_underlying ht, sizeOf, typeInfo, hi, hlen, hf, storeCells]

theorem run_app_room {t ty e : TypeId} {i : TypeInfo} (ht : P.underlying t = some (.slice e)) (hi : P.info? e = some i) {x : Value} {m g sLen sCap : Nat} {news : List Value} {cur : Array Value} (hlen : ∀ w1, (Builtin.lenOf x).run P w1 = .ok m w1)
    (hf : (Builtin.firstCells i.size m x).run P w = .ok news.toArray w) (hg : w.heap[g]? = some (.cells cur e (0, 0))) (h1 : ∀ u ∈ news, u.oneCell' = true) (hroom : sLen + m ≤ sCap) (hfit : sLen * i.size + news.length ≤ cur.size) :
    (Builtin.append_ #[t, t] ty #[.slice (some ⟨g, 0, none⟩) sLen sCap, x]).run P w = .ok (.slice (some ⟨g, 0, none⟩) (sLen + m) sCap) (w.setRow g (cur.toList.take (sLen * i.size) ++ news ++ cur.toList.drop (sLen * i.size + news.length)).toArray) := by
  have hst := run_storeCells_at P g (sLen * i.size) e news 0 cur w hg (by simpa using hfit) h1
  simp only [Nat.add_zero] at hst
  simp [Builtin.append_, run_underlying ht, sizeOf, typeInfo, hi, hlen, hroom, hf, add_at0, hst]

theorem run_app_grow {t ty e : TypeId} {i : TypeInfo} {z : Value} (ht : P.underlying t = some (.slice e)) (hi : P.info? e = some i) (hz : i.zero = some z) {x : Value} {m sLen sCap : Nat} {base : Option Addr} {olds news : List Value} (hlen : ∀ w1, (Builtin.lenOf x).run P w1 = .ok m w1)
    (ho : (Builtin.firstCells i.size sLen (.slice base sLen sCap)).run P w.drew = .ok olds.toArray w.drew) (hf : (Builtin.firstCells i.size m x).run P w.drew = .ok news.toArray w.drew)
    (hg : sCap < sLen + m) (h63 : ((sLen + m : Nat) : Int) ≤ 9223372036854775807) (hfit : Builtin.nextslicecap (sLen + m) sCap * i.bytes ≤ 281474976710656) :
    (Builtin.append_ #[t, t] ty #[.slice base sLen sCap, x]).run P w = .ok (.slice (some ⟨w.heap.size, 0, none⟩) (sLen + m) (grownCap w (sLen + m) sCap e))
        (w.drew.alloc (.cells (olds ++ news ++ (Builtin.zeroCells z.cells (grownCap w (sLen + m) sCap e - (sLen + m))).toList).toArray e)) := by
  have hn : ¬ (sLen + m ≤ sCap) := by omega
  have h63' : ¬ (9223372036854775807 < ((sLen : Int) + (m : Int))) := by omega
  have h48' : ¬ (281474976710656 < Builtin.nextslicecap (sLen + m) sCap * i.bytes) := by omega
  simp [Builtin.append_, run_underlying ht, sizeOf, typeInfo, zeroValue, hi, hz, hlen, hn, h63', h48', Question.forced, hf, ho, newRow, grownCap]
  congr 2
  apply Array.ext'
  simp

/-! ### the rows behind -/
theorem inRow_app {sz : Nat} {es xs : List V} {arr : Array Value} {news : List Value} {rest : List Value} (h : inRow T φ w S arr 0 sz es) (hl : es.length * sz ≤ arr.size) (hn : inRow T φ w S news.toArray 0 sz xs) (hnl : news.length = xs.length * sz) :
    inRow T φ w S (arr.toList.take (es.length * sz) ++ news ++ rest).toArray 0 sz (es ++ xs) := by
  intro k e hk
  rw [List.getElem?_append] at hk
  split at hk
  · rename_i hlt
    obtain ⟨y, y1, y2, y3, y4⟩ := h k e hk
    refine ⟨y, y1, y2, y3, fun j u hu => ?_⟩
    have hj : j < sz := by have := (Array.getElem?_eq_some_iff.1 hu).1; omega
    have hle : (k + 1) * sz ≤ es.length * sz := Nat.mul_le_mul_right _ hlt
    rw [Nat.add_mul, Nat.one_mul] at hle
    have := y4 j u hu
    simp only [Nat.zero_add, List.getElem?_toArray] at this ⊢
    rw [List.append_assoc, List.getElem?_append, if_pos (by simp; omega), List.getElem?_take, if_pos (by omega)]
    simpa using this
  · rename_i hlt
    obtain ⟨y, y1, y2, y3, y4⟩ := hn (k - es.length) e hk
    refine ⟨y, y1, y2, y3, fun j u hu => ?_⟩
    have hj : j < sz := by have := (Array.getElem?_eq_some_iff.1 hu).1; omega
    have hkx : k - es.length < xs.length := (List.getElem?_eq_some_iff.1 hk).1
    have hle : (k - es.length + 1) * sz ≤ xs.length * sz := Nat.mul_le_mul_right _ hkx
    rw [Nat.add_mul, Nat.one_mul] at hle
    have := y4 j u hu
    simp only [Nat.zero_add, List.getElem?_toArray] at this ⊢
    have hks : k * sz = es.length * sz + (k - es.length) * sz := by rw [← Nat.add_mul]; congr 1; omega
    have htk : (arr.toList.take (es.length * sz)).length = es.length * sz := by simp; omega
    rw [List.append_assoc, List.getElem?_append, if_neg (by rw [htk]; omega), List.getElem?_append, htk, if_pos (by omega)]
    rwa [show k * sz + j - es.length * sz = (k - es.length) * sz + j from by omega]

theorem wtL_app {u : Nat} {es xs : List V} (h : wtL T u es) (k : wtL T u xs) : wtL T u (es ++ xs) :=
  wtL_iff.2 fun e he => by
    rcases List.mem_append.1 he with he | he
    · exact wtL_iff.1 h e he
    · exact wtL_iff.1 k e he

theorem newRow_left {m u : Nat} {eu : TE} {es : List V} {arr : Array Value} {cap : Nat} {w1 : World} (hs : Since w0 w1) (hh : HOk T φ w0.Z w1 S hp) (hw1 : ∀ k, S k → w1.heap[k]? = w.heap[k]?) (hm : look hp m = none) (he : T.look u = some eu) (hz : 0 < eu.size) (hwt : wtL T u es)
    (hsz : arr.size = cap * eu.size) (hle : es.length ≤ cap) (hc : cap ≤ maxLen) (hrow : inRow T φ w1 S arr 0 eu.size es) :
    Left T w0 φ S hp w (.row m) [(m, .row u es)] (.slice (some ⟨w1.heap.size, 0, none⟩) es.length cap) (w1.alloc (.cells arr u)) := by
  have hφ : φ m = none := (hh.dom m).2 hm
  have hkeep : ∀ k, S k → (w1.alloc (.cells arr u)).heap[k]? = w1.heap[k]? := fun k hk => Below.heap_alloc w1 _ k (hh.old k hk)
  refine ⟨upd φ m (.rw w1.heap.size 0 es.length arr.size eu.size), S, ⟨upd_le hφ, SLe.refl, fun k hk => (hkeep k hk).trans (hw1 k hk), hs.alloc _, hh.new hm rfl hs.fresh ?_⟩, ?_⟩
  · refine ⟨hwt, eu, he, hz, .inl ⟨w1.heap.size, 0, arr.size, arr, upd_self, heap_alloc_new w1 _, rfl, rfl, ?_, inRow_mono (upd_le hφ) hkeep (fun _ h => h) hrow⟩⟩
    rw [hsz]
    have := Nat.mul_le_mul_right eu.size hle
    omega
  · simp only [rel]
    exact .inl ⟨w1.heap.size, 0, es.length, arr.size, eu.size, cap, upd_self, rfl, hle, hc, by omega⟩

theorem nilRow_left {A : Option Addr} {m u : Nat} {eu : TE} (hs : Since w0 w) (hh : HOk T φ w0.Z w S hp) (hm : look hp m = none) (he : T.look u = some eu) (hz : 0 < eu.size) :
    Left T w0 φ S hp w (.row m) [(m, .row u [])] (.slice A 0 0) w := by
  have hφ : φ m = none := (hh.dom m).2 hm
  refine ⟨upd φ m .nilrow, S, ⟨upd_le hφ, SLe.refl, fun _ _ => rfl, hs, ?_⟩, ?_⟩
  · refine hh.cons (upd_le hφ) (fun k hk => upd_ne hk) (by rw [upd_self]; simp) (fun _ _ => rfl) (fun _ h => h) (fun k c l B hk hc hc2 hl hB => ⟨rfl, (hh.own k c l B hc hc2 hl hB).2.2⟩) (Nat.le_refl _) ?_ (fun _ l B hl hB => ?_) hh.old
    · exact ⟨by simp [wtL], eu, he, hz, .inr ⟨upd_self, rfl⟩⟩
    · rw [upd_self] at hl; injection hl with hl; subst hl; cases hB
  · simp only [rel]; exact .inr ⟨upd_self, _, rfl⟩

theorem Left.after {E1 E2 : Hp} {φ1 : Nat → Option Loc} {S1 : Nat → Prop} {w1 w2 : World} (h : Ext T w0 φ S hp w φ1 S1 E1 w1) (k : Left T w0 φ1 S1 (E1 ++ hp) w1 v E2 x w2) : Left T w0 φ S hp w v (E2 ++ E1) x w2 := by
  obtain ⟨φ2, S2, k1, k2⟩ := k
  exact ⟨φ2, S2, h.trans k1, k2⟩

theorem gone_ext {n : Nat} {b : Blk} (hs : Since w0 w) (hh : HOk T φ w0.Z w S hp) (hl : look hp n = some b) : Ext T w0 φ S hp w φ S [(n, .gone)] w :=
  ⟨LocLe.refl _, SLe.refl, fun _ _ => rfl, hs, hh.drop hl rfl trivial⟩

theorem appCore (hs : Since w0 w) (hh : HOk T φ w0.Z w S hp) {t t2 ty u' m : Nat} {eu' : TE} {vs : V} {ys yx : Value} {v : V} {E : Hp} {xs : List V} {news : List Value} (heu : T.look u' = some eu') (hpos' : 0 < eu'.size) (hzok : zok eu' = true) (hmn : look hp m = none)
    (xwt : wtL T u' xs) (xnl : news.length = xs.length * eu'.size) (xone : ∀ q ∈ news, q.oneCell' = true) (xrow : inRow T φ w S news.toArray 0 eu'.size xs)
    (R0 : ∀ {A : Option Addr}, xs.length = 0 → (Builtin.append_ #[t, t2] ty #[.slice A 0 0, yx]).run P w = .ok (.slice A 0 0) w)
    (R1 : ∀ {g sLen sCap : Nat} {cur : Array Value}, w.heap[g]? = some (.cells cur u' (0, 0)) → sLen + xs.length ≤ sCap → sLen * eu'.size + news.length ≤ cur.size → (Builtin.append_ #[t, t2] ty #[.slice (some ⟨g, 0, none⟩) sLen sCap, yx]).run P w = .ok (.slice (some ⟨g, 0, none⟩) (sLen + xs.length) sCap) (w.setRow g (cur.toList.take (sLen * eu'.size) ++ news ++ cur.toList.drop (sLen * eu'.size + news.length)).toArray))
    (R2 : ∀ {sLen sCap : Nat} {base : Option Addr} {olds : List Value}, (Builtin.firstCells eu'.size sLen (.slice base sLen sCap)).run P w.drew = .ok olds.toArray w.drew → sCap < sLen + xs.length → ((sLen + xs.length : Nat) : Int) ≤ 9223372036854775807 → Builtin.nextslicecap (sLen + xs.length) sCap * eu'.bytes ≤ 281474976710656 →
      (Builtin.append_ #[t, t2] ty #[.slice base sLen sCap, yx]).run P w = .ok (.slice (some ⟨w.heap.size, 0, none⟩) (sLen + xs.length) (grownCap w (sLen + xs.length) sCap u')) (w.drew.alloc (.cells (olds ++ news ++ (Builtin.zeroCells eu'.zero.cells (grownCap w (sLen + xs.length) sCap u' - (sLen + xs.length))).toList).toArray u')))
    (h : Res P T (match vs with
      | .nil => .need ((real P T w0).room ((real P T w0).len xs) eu'.bytes) (.ok (.row m) [(m, .row u' xs)])
      | .row n => match look hp n with
        | some (.row u2 es) => match u' == u2 with
          | true => .need ((real P T w0).room ((real P T w0).len ((real P T w0).app es xs)) eu'.bytes) (.ok (.row m) [(m, .row u' ((real P T w0).app es xs)), (n, .gone)])
          | false => .fail
        | _ => .fail
      | _ => .fail) v E)
    (hrs : rel T φ w S vs ys) : ∃ xv w', (Builtin.append_ #[t, t2] ty #[ys, yx]).run P w = .ok xv w' ∧ Left T w0 φ S hp w v E xv w' := by
  -- the case in which a new block is made
  have grow : ∀ (es : List V) (sCap : Nat) (base : Option Addr) (olds : List Value), wtL T u' es → olds.length = es.length * eu'.size → inRow T φ w S olds.toArray 0 eu'.size es → sCap < es.length + xs.length →
      ((es ++ xs).length ≤ 140737488355328 ∧ (es ++ xs).length * eu'.bytes ≤ 140737488355328) → (Builtin.firstCells eu'.size es.length (.slice base es.length sCap)).run P w.drew = .ok olds.toArray w.drew →
      ∃ xv w', (Builtin.append_ #[t, t2] ty #[.slice base es.length sCap, yx]).run P w = .ok xv w' ∧ Left T w0 φ S hp w (.row m) [(m, .row u' (es ++ xs))] xv w' := by
    intro es sCap base olds hwt hol hor hlt hroom hof
    have hlen2 : (es ++ xs).length = es.length + xs.length := by simp
    rw [hlen2] at hroom
    have hnl : (news.take (xs.length * eu'.size)) = news := by rw [← xnl]; exact List.take_length
    have hrun := R2 hof hlt (by omega) (growslice_fits hlt hroom.2)
    have hge := grownCap_ge w (es.length + xs.length) sCap u'
    have hcm : grownCap w (es.length + xs.length) sCap u' ≤ maxLen := grownCap_le_maxLen w _ sCap u' (by simp only [maxLen]; omega)
    refine ⟨_, _, hrun, ?_⟩
    have hzs : eu'.zero.cells.size = eu'.size := by simpa [zok] using hzok
    have hrow := inRow_app (rest := (Builtin.zeroCells eu'.zero.cells (grownCap w (es.length + xs.length) sCap u' - (es.length + xs.length))).toList) hor (by simp [hol]) xrow xnl
    rw [show (olds.toArray.toList.take (es.length * eu'.size)) = olds from by rw [← hol]; simp] at hrow
    have := newRow_left (w := w) (w1 := w.drew) (m := m) (cap := grownCap w (es.length + xs.length) sCap u') hs.drew hh.drew (fun _ _ => rfl) hmn heu hpos' (wtL_app hwt xwt) (by
      simp only [List.size_toArray, List.length_append, Array.length_toList, size_zeroCells, hol, xnl, hzs, ← Nat.add_mul]
      congr 1
      omega) (by rw [hlen2]; exact hge) hcm (inRow_mono (w := w) (w' := w.drew) (LocLe.refl _) (fun _ _ => rfl) (fun _ h => h) hrow)
    rw [hlen2] at this
    exact this
  have none : ∀ {A : Option Addr}, ((xs.length : Int) ≤ 140737488355328 ∧ (xs.length : Int).toNat * eu'.bytes ≤ 140737488355328) → ∃ xv w', (Builtin.append_ #[t, t2] ty #[.slice A 0 0, yx]).run P w = .ok xv w' ∧ Left T w0 φ S hp w (.row m) [(m, .row u' xs)] xv w' := by
    intro A hroom
    by_cases h0 : xs.length = 0
    · have hxs0 : xs = [] := List.eq_nil_of_length_eq_zero h0
      refine ⟨_, _, R0 h0, ?_⟩
      rw [hxs0]
      exact nilRow_left hs hh hmn heu hpos'
    · have := grow [] 0 A [] (by simp [wtL]) (by simp) (fun k e hk => by simp at hk) (by simp; omega) ⟨by simp; omega, by simpa using hroom.2⟩ (by cases A <;> simp [Builtin.firstCells, loadCells, loadCellsFrom])
      simpa using this
  split at h
  · -- nil
    obtain ⟨hroom, h⟩ := res_need h
    obtain ⟨rfl, rfl⟩ := res_ok h
    simp only [rel] at hrs
    subst hrs
    exact none hroom
  · -- a row
    rename_i n
    split at h
    · rename_i u2 es hl
      split at h
      · rename_i hu
        obtain rfl : u' = u2 := by simpa using hu
        obtain ⟨hroom, h⟩ := res_need h
        obtain ⟨rfl, rfl⟩ := res_ok h
        obtain ⟨hwt, e', he', hz', hb⟩ := hh.blk _ _ hl
        rw [heu] at he'; injection he' with he'; subst he'
        have hmn2 : m ≠ n := fun e => by subst e; rw [hl] at hmn; cases hmn
        have hmn' : look ((n, Blk.gone) :: hp) m = Option.none := by rw [look_cons, if_neg (fun e => hmn2 e.symm)]; exact hmn
        simp only [rel] at hrs
        rcases hb with ⟨B, off, room, arr, h1, h2, h3, h4, h5, h6⟩ | ⟨h1, h2⟩
        · rcases hrs with ⟨B', off', len', room', sz', cap, k1, k2, k3, k4, k5⟩ | ⟨k1, _⟩
          · rw [h1] at k1; injection k1 with k1; injection k1 with a1 a2 a3 a4 a5; subst a1; subst a2; subst a3; subst a4; subst a5
            subst h3; subst k2
            simp only [real, List.length_append] at hroom
            have hroom2 : (es.length + xs.length) * eu'.bytes ≤ 140737488355328 := by
              have := hroom.2
              rwa [show ((es.length + xs.length : Nat) : Int).toNat = es.length + xs.length from by omega] at this
            by_cases hfit : es.length + xs.length ≤ cap
            · -- in place
              have hnl : (news.take (xs.length * eu'.size)) = news := by rw [← xnl]; exact List.take_length
              have hfc : es.length * eu'.size + news.length ≤ arr.size := by
                rw [xnl, ← Nat.add_mul, h4, ← k5, Nat.zero_add]; exact Nat.mul_le_mul_right _ hfit
              have hrun := R1 h2 hfit hfc
              refine ⟨_, _, hrun, Left.after (E2 := [(m, .row u' (es ++ xs))]) (gone_ext hs hh hl) ?_⟩
              have hh1 : HOk T φ w0.Z w S ((n, .gone) :: hp) := hh.drop hl rfl trivial
              obtain ⟨o1, o2, o3⟩ := hh.own n _ _ B hl rfl h1 rfl
              have hφm : φ m = Option.none := (hh.dom m).2 hmn
              have hkeep : ∀ k, S k → (w.setRow B (arr.toList.take (es.length * eu'.size) ++ news ++ arr.toList.drop (es.length * eu'.size + news.length)).toArray).heap[k]? = w.heap[k]? := fun k hk => setRow_other w B k _ (fun e => o3 (e ▸ hk))
              refine ⟨upd φ m (.rw B 0 (es ++ xs).length room eu'.size), S, ⟨upd_le hφm, SLe.refl, hkeep, hs.setRow o1 _, ?_⟩, ?_⟩
              · refine hh1.cons (upd_le hφm) (fun k hk => upd_ne hk) (by rw [upd_self]; simp) hkeep (fun _ h => h) (fun k c l B' hk hc hc2 hl2 hB => ?_) (by simp) ?_ (fun _ l B' hl2 hB => ?_) (fun k hk => by simp; exact hh.old k hk)
                · rw [look_cons] at hc
                  by_cases en : n = k
                  · rw [if_pos en] at hc; injection hc with hc; subst hc; cases hc2
                  · rw [if_neg en] at hc
                    exact ⟨setRow_other w B B' _ (fun e => en (by subst e; exact hh.inj n k _ c _ l B' hl hc rfl hc2 h1 hl2 rfl hB)), (hh.own k c l B' hc hc2 hl2 hB).2.2⟩
                · refine ⟨wtL_app hwt xwt, eu', heu, hpos', .inl ⟨B, 0, room, _, upd_self, setRow_heap w B arr _ u' (0, 0) h2, rfl, ?_, ?_, ?_⟩⟩
                  · simp; omega
                  · simp only [List.length_append]; rw [Nat.zero_add, ← k5, Nat.zero_add]; exact Nat.mul_le_mul_right _ hfit
                  · exact inRow_mono (upd_le hφm) hkeep (fun _ h => h) (inRow_app h6 (by omega) xrow xnl)
                · rw [upd_self] at hl2; injection hl2 with hl2; subst hl2; injection hB with hB; subst hB
                  refine ⟨o1, by simp; exact o2, o3, fun k c l hk hc hc2 hl2 hB => ?_⟩
                  rw [look_cons] at hc
                  by_cases en : n = k
                  · rw [if_pos en] at hc; injection hc with hc; subst hc; cases hc2
                  · rw [if_neg en] at hc
                    exact en (hh.inj n k _ c _ l B hl hc rfl hc2 h1 hl2 rfl hB)
              · simp only [rel]
                exact .inl ⟨B, 0, (es ++ xs).length, room, eu'.size, cap, upd_self, by simp, by simp; exact hfit, k4, k5⟩
            · -- a new block
              have hol : (arr.toList.take (es.length * eu'.size)).length = es.length * eu'.size := by simp; omega
              have hor : inRow T φ w S (arr.toList.take (es.length * eu'.size)).toArray 0 eu'.size es := by
                intro k e hk
                obtain ⟨y, y1, y2, y3, y4⟩ := h6 k e hk
                refine ⟨y, y1, y2, y3, fun j q hq => ?_⟩
                have hj : j < eu'.size := by have := (Array.getElem?_eq_some_iff.1 hq).1; omega
                have hkx := (List.getElem?_eq_some_iff.1 hk).1
                have hle : (k + 1) * eu'.size ≤ es.length * eu'.size := Nat.mul_le_mul_right _ hkx
                rw [Nat.add_mul, Nat.one_mul] at hle
                have := y4 j q hq
                simp only [Nat.zero_add, List.getElem?_toArray] at this ⊢
                rw [List.getElem?_take, if_pos (by omega)]
                simpa using this
              have := grow es cap (some ⟨B, 0, Option.none⟩) (arr.toList.take (es.length * eu'.size)) hwt hol hor (by omega) (by simp only [List.length_append]; exact ⟨by omega, hroom2⟩)
                (run_firstCells_some (P := P) w.drew eu'.size es.length ⟨B, 0, Option.none⟩ es.length cap _ hol (fun j q hq => by
                  rw [List.getElem?_take] at hq
                  split at hq
                  · rw [add_at0, cell_of_row w.drew B _ arr u' (0, 0) h2, Nat.zero_add]; simpa using hq
                  · cases hq))
              obtain ⟨xv, w', hrun, φ', S', hE, hr⟩ := this
              refine ⟨xv, w', hrun, φ', S', ⟨hE.loc, hE.sle, hE.keep, hE.since, ?_⟩, hr⟩
              -- the old row goes
              have hl' : look ([(m, Blk.row u' (es ++ xs))] ++ hp) n = some (.row u' es) := by
                show look ((m, Blk.row u' (es ++ xs)) :: hp) n = _
                rw [look_cons, if_neg hmn2]; exact hl
              have hd1 := hE.heap.drop hl' (b' := .gone) rfl trivial
              refine hd1.perm (fun k => ?_)
              show look ((n, Blk.gone) :: (m, Blk.row u' (es ++ xs)) :: hp) k = look ((m, Blk.row u' (es ++ xs)) :: (n, Blk.gone) :: hp) k
              simp only [look_cons]
              by_cases e1 : n = k
              · by_cases e2 : m = k
                · exact absurd (e2.trans e1.symm) hmn2
                · rw [if_pos e1, if_neg e2, if_pos e1]
              · rw [if_neg e1, if_neg e1]
          · rw [h1] at k1; cases k1
        · rcases hrs with ⟨B', off', len', room', sz', cap, k1, _⟩ | ⟨_, A, k2⟩
          · rw [h1] at k1; cases k1
          · subst h2; subst k2
            simp only [real, List.nil_append] at hroom
            obtain ⟨xv, w', hrun, φ', S', hE, hr⟩ := none hroom
            refine ⟨xv, w', hrun, φ', S', ⟨hE.loc, hE.sle, hE.keep, hE.since, ?_⟩, hr⟩
            have hl' : look ([(m, Blk.row u' xs)] ++ hp) n = some (.row u' []) := by
              show look ((m, Blk.row u' xs) :: hp) n = _
              rw [look_cons, if_neg hmn2]; exact hl
            have hd1 := hE.heap.drop hl' (b' := .gone) rfl trivial
            refine hd1.perm (fun k => ?_)
            show look ((n, Blk.gone) :: (m, Blk.row u' xs) :: hp) k = look ((m, Blk.row u' ((real P T w0).app [] xs)) :: (n, Blk.gone) :: hp) k
            simp only [look_cons, real, List.nil_append]
            by_cases e1 : n = k
            · by_cases e2 : m = k
              · exact absurd (e2.trans e1.symm) hmn2
              · rw [if_pos e1, if_neg e2, if_pos e1]
            · rw [if_neg e1, if_neg e1]
      · exact (res_fail h).elim
    · exact (res_fail h).elim
  · exact (res_fail h).elim

theorem appF_ok (htok : TyOk P T) (hs : Since w0 w) (hh : HOk T φ w0.Z w S hp) {t ty : Nat} {vs vx : V} {ys yx : Value} {dm : Option Nat} {v : V} {E : Hp} (hm : ∀ m, dm = some m → look hp m = none) (h : Res P T (appF (real P T w0) T hp t vs vx dm) v E)
    (hrs : rel T φ w S vs ys) (hrx : rel T φ w S vx yx) : ∃ xv w', (Builtin.append_ #[t, t] ty #[ys, yx]).run P w = .ok xv w' ∧ Left T w0 φ S hp w v E xv w' := by
  unfold appF at h
  split at h
  · rename_i u eu m xs hel hxs
    have hmn := hm m rfl
    unfold elemT at hel
    split at hel
    · rename_i et het
      split at hel
      · rename_i u' hd
        split at hel
        · rename_i eu' heu
          injection hel with hel
          injection hel with e1 e2
          subst e1; subst e2
          have ht := htok.und _ _ het
          rw [hd] at ht
          obtain ⟨i, hi, hsz, hby, hzz⟩ := htok.info _ _ heu
          split at h
          · rename_i hok
            rw [Bool.and_eq_true, Bool.and_eq_true] at hok
            obtain ⟨⟨hok, hzok⟩, hpos⟩ := hok
            have hpos' : 0 < eu'.size := by simp [Nat.blt] at hpos; omega
            obtain ⟨news, hsrc⟩ := src_ok htok hh heu hxs hok hrx
            have hlen := hsrc.len
            exact appCore hs hh heu hpos' hzok hmn hsrc.wt hsrc.nl hsrc.one hsrc.row
              (fun h0 => run_app_none (ty := ty) ht hi (fun w1 => by rw [hlen w1, h0]) (by rw [hsz, hsrc.first w 0 rfl (Nat.zero_le _)]; simp))
              (fun hg hfit hfc => by
                have hnf := hsrc.first w xs.length rfl (Nat.le_refl _)
                rw [show news.take (xs.length * eu'.size) = news from by rw [← hsrc.nl]; exact List.take_length] at hnf
                have hrun := run_app_room (ty := ty) ht hi hlen (by rw [hsz]; exact hnf) hg hsrc.one hfit (by rw [hsz]; exact hfc)
                rw [hsz] at hrun
                exact hrun)
              (fun hof hlt h63 hfit => by
                have hnf := hsrc.first w.drew xs.length rfl (Nat.le_refl _)
                rw [show news.take (xs.length * eu'.size) = news from by rw [← hsrc.nl]; exact List.take_length] at hnf
                exact run_app_grow (ty := ty) ht hi hzz hlen (by rw [hsz]; exact hof) (by rw [hsz]; exact hnf) hlt h63 (by rw [hby]; exact hfit)) h hrs
          · exact (res_fail h).elim
        · cases hel
      · cases hel
    · cases hel
  · exact (res_fail h).elim
end
end Go.Ab
end
section
/- Each operation does what the calculus says: copy, make, literals, slices, conversions. No statement of its own. -/

namespace Go.Ab
open Go.RowKit

section
variable {P : Program} {T : Tr} {w0 : Base} {φ φ' : Nat → Option Loc} {w w' : World} {S S' : Nat → Prop} {v : V} {x : Value} {hp : Hp} {b0 : Nat → Prop}

/-! ### copy -/
theorem run_copy {t t' ty e : TypeId} {i : TypeInfo} (ht : P.underlying t = some (.slice e)) (hi : P.info? e = some i) {x : Value} {m n : Nat} {g off dLen dCap : Nat} {news : List Value} {cur : Array Value} (hlen : ∀ w1, (Builtin.lenOf x).run P w1 = .ok m w1)
    (hn : n = Nat.min m dLen) (hf : (Builtin.firstCells i.size n x).run P w = .ok news.toArray w) (hg : w.heap[g]? = some (.cells cur e (0, 0))) (h1 : ∀ u ∈ news, u.oneCell' = true) (hfit : off + news.length ≤ cur.size) :
    (Builtin.copy_ #[t, t'] ty #[.slice (some ⟨g, off, none⟩) dLen dCap, x]).run P w = .ok (.int .i64 n) (w.setRow g (cur.toList.take off ++ news ++ cur.toList.drop (off + news.length)).toArray) := by
  have hst := run_storeCells_at P g off e news 0 cur w hg (by simpa using hfit) h1
  simp only [Nat.add_zero] at hst
  subst hn
  simp [Builtin.copy_, run_underlying ht, sizeOf, typeInfo, hi, hlen, hf, hst, goInt]

theorem run_copy_nil {A : Option Addr} {t t' ty e : TypeId} {i : TypeInfo} (ht : P.underlying t = some (.slice e)) (hi : P.info? e = some i) {x : Value} {m : Nat} (hlen : ∀ w1, (Builtin.lenOf x).run P w1 = .ok m w1) (hf : (Builtin.firstCells i.size 0 x).run P w = .ok #[] w) :
    (Builtin.copy_ #[t, t'] ty #[.slice A 0 0, x]).run P w = .ok (.int .i64 0) w := by
  cases A <;> simp [Builtin.copy_, run_underlying ht, sizeOf, typeInfo, hi, hlen, hf, goInt, storeCells]

theorem inRow_over {sz lo n : Nat} {es xs : List V} {arr : Array Value} {news : List Value} (h : inRow T φ w S arr 0 sz es) (hl : es.length * sz ≤ arr.size) (hn : inRow T φ w S news.toArray 0 sz xs) (hnl : news.length = xs.length * sz) (hle : lo + xs.length ≤ es.length) :
    inRow T φ w S (arr.toList.take (lo * sz) ++ news ++ arr.toList.drop (lo * sz + news.length)).toArray 0 sz (es.take lo ++ xs ++ es.drop (lo + xs.length)) := by
  have hfit : lo * sz + news.length ≤ arr.toList.length := by
    rw [hnl, ← Nat.add_mul, Array.length_toList]
    exact Nat.le_trans (Nat.mul_le_mul_right _ hle) hl
  intro k e hk
  rw [splice_get _ _ _ hle] at hk
  have old : es[k]? = some e → (k < lo ∨ lo + xs.length ≤ k) → ∃ y, rel T φ w S e y ∧ y.cells.size = sz ∧ (∀ u ∈ y.cells.toList, u.oneCell' = true) ∧ ∀ j u, y.cells[j]? = some u → (arr.toList.take (lo * sz) ++ news ++ arr.toList.drop (lo * sz + news.length)).toArray[0 + k * sz + j]? = some u := by
    intro hk hpos
    obtain ⟨y, y1, y2, y3, y4⟩ := h k e hk
    refine ⟨y, y1, y2, y3, fun j u hu => ?_⟩
    have hj : j < sz := by have := (Array.getElem?_eq_some_iff.1 hu).1; omega
    have := y4 j u hu
    simp only [Nat.zero_add, List.getElem?_toArray] at this ⊢
    rw [splice_get _ _ _ hfit]
    rcases hpos with hpos | hpos
    · have : (k + 1) * sz ≤ lo * sz := Nat.mul_le_mul_right _ hpos
      rw [Nat.add_mul, Nat.one_mul] at this
      rw [if_pos (by omega)]
      simpa using y4 j u hu
    · have : (lo + xs.length) * sz ≤ k * sz := Nat.mul_le_mul_right _ hpos
      rw [Nat.add_mul] at this
      rw [if_neg (by omega), if_neg (by omega)]
      simpa using y4 j u hu
  by_cases k1 : k < lo
  · rw [if_pos k1] at hk; exact old hk (.inl k1)
  · rw [if_neg k1] at hk
    by_cases k2 : k < lo + xs.length
    · rw [if_pos k2] at hk
      obtain ⟨y, y1, y2, y3, y4⟩ := hn (k - lo) e hk
      refine ⟨y, y1, y2, y3, fun j u hu => ?_⟩
      have hj : j < sz := by have := (Array.getElem?_eq_some_iff.1 hu).1; omega
      have := y4 j u hu
      simp only [Nat.zero_add, List.getElem?_toArray] at this ⊢
      have e1 : k * sz = lo * sz + (k - lo) * sz := by rw [← Nat.add_mul]; congr 1; omega
      have e2 : (k - lo + 1) * sz ≤ xs.length * sz := Nat.mul_le_mul_right _ (by omega)
      rw [Nat.add_mul, Nat.one_mul] at e2
      rw [splice_get _ _ _ hfit, if_neg (by omega), if_pos (by omega)]
      rwa [show k * sz + j - lo * sz = (k - lo) * sz + j from by omega]
    · rw [if_neg k2] at hk; exact old hk (.inr (by omega))

theorem Src.take {u sz m : Nat} {xs : List V} {news : List Value} (h : Src P T φ w S u sz xs x news) (hm : m ≤ xs.length) : inRow T φ w S (news.take (m * sz)).toArray 0 sz (xs.take m) ∧ (news.take (m * sz)).length = (xs.take m).length * sz ∧ wtL T u (xs.take m) := by
  refine ⟨fun k e hk => ?_, ?_, ?_⟩
  · rw [List.getElem?_take] at hk
    split at hk
    · rename_i hkm
      obtain ⟨y, y1, y2, y3, y4⟩ := h.row k e hk
      refine ⟨y, y1, y2, y3, fun j q hq => ?_⟩
      have hj : j < sz := by have := (Array.getElem?_eq_some_iff.1 hq).1; omega
      have := y4 j q hq
      simp only [Nat.zero_add, List.getElem?_toArray] at this ⊢
      have e2 : (k + 1) * sz ≤ m * sz := Nat.mul_le_mul_right _ hkm
      rw [Nat.add_mul, Nat.one_mul] at e2
      rw [List.getElem?_take, if_pos (by omega)]
      exact this
    · cases hk
  · rw [List.length_take, h.nl, List.length_take, Nat.min_eq_left hm, Nat.min_eq_left (Nat.mul_le_mul_right _ hm)]
  · exact wtL_iff.2 fun e he => wtL_iff.1 h.wt e (List.mem_of_mem_take he)

theorem elemT_of {t : Nat} {u : Nat} {eu : TE} (h : elemT T t = some (u, eu)) : ∃ e, T.look t = some e ∧ e.desc = .slice u ∧ T.look u = some eu := by
  unfold elemT at h
  split at h
  · rename_i e he
    split at h
    · rename_i u' hd
      split at h
      · rename_i eu' heu
        injection h with h; injection h with h1 h2; subst h1; subst h2
        exact ⟨e, he, hd, heu⟩
      · cases h
    · cases h
  · cases h

theorem copyF_ok (htok : TyOk P T) (hs : Since w0 w) (hh : HOk T φ w0.Z w S hp) {t t' ty : Nat} {vd vx : V} {yd yx : Value} {v : V} {E : Hp} (h : Res P T (copyF (real P T w0) T hp t vd vx) v E)
    (hrd : rel T φ w S vd yd) (hrx : rel T φ w S vx yx) : ∃ xv w', (Builtin.copy_ #[t, t'] ty #[yd, yx]).run P w = .ok xv w' ∧ Left T w0 φ S hp w v E xv w' := by
  unfold copyF at h
  split at h
  · rename_i u eu xs hel hxs
    obtain ⟨et, het, hd, heu⟩ := elemT_of hel
    have ht := htok.und _ _ het
    rw [hd] at ht
    obtain ⟨i, hi, hsz, hby, hzz⟩ := htok.info _ _ heu
    split at h
    · rename_i hok
      obtain ⟨news, hsrc⟩ := src_ok htok hh heu hxs hok hrx
      have nilcase : ∀ {A : Option Addr}, yd = .slice A 0 0 → (Builtin.copy_ #[t, t'] ty #[yd, yx]).run P w = .ok (.int .i64 0) w := by
        intro A e
        subst e
        exact run_copy_nil ht hi hsrc.len (by rw [hsz, hsrc.first w 0 rfl (Nat.zero_le _)]; simp)
      -- the row is written
      have main : ∀ (n : Nat) (es : List V) (lo dl cap B room : Nat) (arr : Array Value), look hp n = some (.row u es) → φ n = some (.rw B 0 es.length room eu.size) → w.heap[B]? = some (.cells arr u (0, 0)) → arr.size = room → es.length * eu.size ≤ room → inRow T φ w S arr 0 eu.size es → wtL T u es → 0 < eu.size → lo + dl ≤ es.length →
          yd = .slice (some ⟨B, lo * eu.size, none⟩) dl cap →
          ∃ w', (Builtin.copy_ #[t, t'] ty #[yd, yx]).run P w = .ok (.int .i64 (Nat.min xs.length dl)) w' ∧ LeftS T w0 φ S hp w [(n, .row u (es.take lo ++ xs.take (Nat.min xs.length dl) ++ es.drop (lo + (xs.take (Nat.min xs.length dl)).length)))] w' := by
        intro n es lo dl cap B room arr hl hφ hB hroom hfit hrow hwt hpos hlo hyd
        have hmin : Nat.min xs.length dl ≤ xs.length := Nat.min_le_left _ _
        have hmin2 : Nat.min xs.length dl ≤ dl := Nat.min_le_right _ _
        obtain ⟨s1, s2, s3⟩ := hsrc.take hmin
        have hxl : (xs.take (Nat.min xs.length dl)).length = Nat.min xs.length dl := by rw [List.length_take]; exact Nat.min_eq_left hmin
        have hlo2 : lo + (xs.take (Nat.min xs.length dl)).length ≤ es.length := by rw [hxl]; omega
        have hfc : lo * eu.size + (news.take (Nat.min xs.length dl * eu.size)).length ≤ arr.size := by
          rw [s2, ← Nat.add_mul, hroom]
          exact Nat.le_trans (Nat.mul_le_mul_right _ hlo2) hfit
        subst hyd
        have hrun := run_copy (t' := t') (ty := ty) (n := Nat.min xs.length dl) (off := lo * eu.size) (dLen := dl) (dCap := cap) ht hi hsrc.len rfl (by rw [hsz]; exact hsrc.first w _ rfl hmin) hB (fun q hq => hsrc.one q (List.mem_of_mem_take hq)) hfc
        have o3 := (hh.own n _ _ B hl rfl hφ rfl).2.2
        have hkeep : ∀ k, S k → (w.setRow B (arr.toList.take (lo * eu.size) ++ news.take (Nat.min xs.length dl * eu.size) ++ arr.toList.drop (lo * eu.size + (news.take (Nat.min xs.length dl * eu.size)).length)).toArray).heap[k]? = w.heap[k]? := fun k hk => setRow_other w B k _ (fun e => o3 (e ▸ hk))
        have hlen : (es.take lo ++ xs.take (Nat.min xs.length dl) ++ es.drop (lo + (xs.take (Nat.min xs.length dl)).length)).length = es.length := by
          simp only [List.length_append, List.length_take, List.length_drop] at hlo2 ⊢
          omega
        refine ⟨_, hrun, φ, S, Ext.write hs hh hl rfl rfl hφ rfl ⟨?_, eu, heu, hpos, .inl ⟨B, 0, room, _, by rw [hlen]; exact hφ, setRow_heap w B arr _ u (0, 0) hB, rfl, ?_, by rw [hlen, Nat.zero_add]; exact hfit, ?_⟩⟩⟩
        · refine wtL_iff.2 (fun e he => ?_)
          simp only [List.mem_append] at he
          rcases he with (he | he) | he
          · exact wtL_iff.1 hwt e (List.mem_of_mem_take he)
          · exact wtL_iff.1 s3 e he
          · exact wtL_iff.1 hwt e (List.mem_of_mem_drop he)
        · simp only [List.size_toArray, List.length_append, List.length_take, List.length_drop, Array.length_toList] at hfc ⊢
          omega
        · exact inRow_mono (LocLe.refl _) hkeep (fun _ h => h) (inRow_over (n := 0) hrow (by omega) s1 s2 hlo2)
      split at h
      · -- nil
        obtain ⟨rfl, rfl⟩ := res_ok h
        simp only [rel] at hrd
        exact ⟨_, w, nilcase hrd, φ, S, Ext.refl hs hh, rel_si _ _⟩
      · rename_i n
        split at h
        · rename_i u2 es hl
          split at h
          · rename_i hu
            obtain rfl : u = u2 := by simpa using hu
            obtain ⟨rfl, rfl⟩ := res_ok h
            obtain ⟨hwt, e', he', hz', hb⟩ := hh.blk _ _ hl
            rw [heu] at he'; injection he' with he'; subst he'
            simp only [rel] at hrd
            rcases hb with ⟨B, off, room, arr, h1, h2, h3, h4, h5, h6⟩ | ⟨h1, h2⟩
            · rcases hrd with ⟨B', off', len', room', sz', cap, k1, k2, k3, k4, k5⟩ | ⟨k1, _⟩
              · rw [h1] at k1; injection k1 with k1; injection k1 with a1 a2 a3 a4 a5; subst a1; subst a2; subst a3; subst a4; subst a5
                subst h3
                obtain ⟨w', hrun, hL⟩ := main n es 0 es.length cap B room arr hl h1 h2 h4 (by omega) h6 hwt hz' (by omega) (by rw [k2]; simp)
                refine ⟨_, w', hrun, ?_⟩
                obtain ⟨φ', S', hE⟩ := hL
                refine ⟨φ', S', ?_, ?_⟩
                · have : (real P T w0).ovl es 0 xs = es.take 0 ++ xs.take (Nat.min xs.length es.length) ++ es.drop (0 + (xs.take (Nat.min xs.length es.length)).length) := by
                    simp only [real, ovlReal, Int.toNat_zero, Nat.sub_zero]
                    have : xs.take es.length = xs.take (Nat.min xs.length es.length) := by
                      rcases Nat.le_total xs.length es.length with h | h
                      · rw [show Nat.min xs.length es.length = xs.length from Nat.min_eq_left h, List.take_length, List.take_of_length_le h]
                      · rw [show Nat.min xs.length es.length = es.length from Nat.min_eq_right h]
                    rw [this]
                  rw [this]; exact hE
                · simp only [rel, real]
                  congr 1
                  have : (Nat.min xs.length es.length : Nat) = if (es.length : Int) < xs.length then es.length else xs.length := by
                    rcases Nat.lt_or_ge es.length xs.length with h | h
                    · rw [if_pos (by omega)]; exact Nat.min_eq_right (by omega)
                    · rw [if_neg (by omega)]; exact Nat.min_eq_left h
                  rw [this]
                  split <;> rfl
              · rw [h1] at k1; cases k1
            · rcases hrd with ⟨B', off', len', room', sz', cap, k1, _⟩ | ⟨_, _, k2⟩
              · rw [h1] at k1; cases k1
              · subst h2
                refine ⟨_, w, nilcase k2, φ, S, ?_, ?_⟩
                · have hh2 : HOk T φ w0.Z w S ((n, .row u []) :: hp) := hh.perm (fun k => by
                    rw [look_cons]
                    split
                    · rename_i e; subst e; exact hl
                    · rfl)
                  have : (real P T w0).ovl [] 0 xs = [] := by simp [real, ovlReal]
                  rw [this]
                  exact ⟨LocLe.refl _, SLe.refl, fun _ _ => rfl, hs, hh2⟩
                · simp only [rel, real, List.length_nil]
                  congr 1
                  split
                  · rfl
                  · omega
          · exact (res_fail h).elim
        · exact (res_fail h).elim
      · rename_i n lo ln
        split at h
        · rename_i u2 es hl
          split at h
          · rename_i hu
            obtain rfl : u = u2 := by simpa using hu
            obtain ⟨rfl, rfl⟩ := res_ok h
            obtain ⟨hwt, e', he', hz', hb⟩ := hh.blk _ _ hl
            rw [heu] at he'; injection he' with he'; subst he'
            simp only [rel] at hrd
            -- the number that is copied
            have hmn : ∀ (dl : Nat), ln = dl → ((real P T w0).mn ((real P T w0).len xs) ln) = ((Nat.min xs.length dl : Nat) : Int) := by
              intro dl hdl
              subst hdl
              simp only [real]
              rcases Nat.lt_or_ge dl xs.length with h | h
              · rw [if_pos (by omega), show Nat.min xs.length dl = dl from Nat.min_eq_right (by omega)]
              · rw [if_neg (by omega), show Nat.min xs.length dl = xs.length from Nat.min_eq_left h]
            rcases hb with ⟨B, off, room, arr, h1, h2, h3, h4, h5, h6⟩ | ⟨h1, h2⟩
            · rcases hrd with ⟨B', off', len', room', sz', cap, A, k1, k2, k3, k4, k5, k6, k7, k8, k9⟩ | ⟨k1, _⟩
              · rw [h1] at k1; injection k1 with k1; injection k1 with a1 a2 a3 a4 a5; subst a1; subst a2; subst a3; subst a4; subst a5
                subst h3
                have hln : ln = (ln.toNat : Int) := by omega
                have hovl : (real P T w0).ovl es lo ((real P T w0).sub xs 0 ((real P T w0).mn ((real P T w0).len xs) ln)) = es.take lo.toNat ++ xs.take (Nat.min xs.length ln.toNat) ++ es.drop (lo.toNat + (xs.take (Nat.min xs.length ln.toNat)).length) := by
                  rw [hmn ln.toNat hln]
                  simp only [real, ovlReal, Int.toNat_natCast, Int.toNat_zero, List.drop_zero]
                  have hle : (xs.take (Nat.min xs.length ln.toNat)).length ≤ es.length - lo.toNat := by
                    have hq : Nat.min xs.length ln.toNat ≤ ln.toNat := Nat.min_le_right _ _
                    have hq2 : Nat.min xs.length ln.toNat ≤ xs.length := Nat.min_le_left _ _
                    rw [List.length_take, Nat.min_eq_left hq2]
                    omega
                  rw [List.take_of_length_le hle]
                rw [hovl, hmn ln.toNat hln]
                by_cases hcap : 0 < cap
                · obtain rfl := k9 hcap
                  obtain ⟨w', hrun, hL⟩ := main n es lo.toNat ln.toNat cap B room arr hl h1 h2 h4 (by omega) h6 hwt hz' (by omega) (by rw [k2, Nat.zero_add])
                  obtain ⟨φ', S', hE⟩ := hL
                  exact ⟨_, w', hrun, φ', S', hE, by simp only [rel]⟩
                · -- nothing is copied
                  have hl0 : ln.toNat = 0 := by omega
                  rw [hl0]
                  rw [hl0] at k2
                  have hm0 : Nat.min xs.length 0 = 0 := Nat.min_eq_right (Nat.zero_le _)
                  rw [hm0]
                  refine ⟨.int .i64 0, w, ?_, φ, S, ?_, by simp [rel]⟩
                  · subst k2
                    have hf := hsrc.first w 0 rfl (Nat.zero_le _)
                    simp [Builtin.copy_, run_underlying ht, sizeOf, typeInfo, hi, hsrc.len, hsz, hm0, hf, goInt, storeCells]
                  · have : es.take lo.toNat ++ xs.take 0 ++ es.drop (lo.toNat + (xs.take 0).length) = es := by simp
                    rw [this]
                    have hh2 : HOk T φ w0.Z w S ((n, .row u es) :: hp) := hh.perm (fun k => by
                    rw [look_cons]
                    split
                    · rename_i e; subst e; exact hl
                    · rfl)
                    exact ⟨LocLe.refl _, SLe.refl, fun _ _ => rfl, hs, hh2⟩
              · rw [h1] at k1; cases k1
            · rcases hrd with ⟨B', off', len', room', sz', cap, A, k1, _⟩ | ⟨_, ⟨_, k2⟩, k3, k4⟩
              · rw [h1] at k1; cases k1
              · subst h2; subst k3; subst k4
                refine ⟨_, w, nilcase k2, φ, S, ?_, ?_⟩
                · have hh2 : HOk T φ w0.Z w S ((n, .row u []) :: hp) := hh.perm (fun k => by
                    rw [look_cons]
                    split
                    · rename_i e; subst e; exact hl
                    · rfl)
                  have : (real P T w0).ovl [] 0 ((real P T w0).sub xs 0 ((real P T w0).mn ((real P T w0).len xs) 0)) = [] := by simp [real, ovlReal]
                  rw [this]
                  exact ⟨LocLe.refl _, SLe.refl, fun _ _ => rfl, hs, hh2⟩
                · simp only [rel, real]
                  congr 1
                  split
                  · rfl
                  · omega
          · exact (res_fail h).elim
        · exact (res_fail h).elim
      · exact (res_fail h).elim
    · exact (res_fail h).elim
  · exact (res_fail h).elim
end
end Go.Ab
end
section
/- Each operation does what the calculus says: make, literals, slices, conversions. No statement of its own. -/

namespace Go.Ab
open Go.RowKit

section
variable {P : Program} {T : Tr} {w0 : Base} {φ φ' : Nat → Option Loc} {w w' : World} {S S' : Nat → Prop} {v : V} {x : Value} {hp : Hp} {b0 : Nat → Prop}

/-! ### fill -/
theorem fold_get (off : Nat) : ∀ (vs : List Value) (k : Nat) (cells : Array Value), ((vs.zipIdx k).foldl (fun cs p => cs.setIfInBounds (off + p.2) p.1) cells).size = cells.size ∧
    ∀ q, ((vs.zipIdx k).foldl (fun cs p => cs.setIfInBounds (off + p.2) p.1) cells)[q]? = if off + k ≤ q ∧ q < off + k + vs.length ∧ q < cells.size then vs[q - (off + k)]? else cells[q]?
  | [], k, cells => ⟨rfl, fun q => by
      rw [if_neg (by simp; omega)]; rfl⟩
  | v :: vs, k, cells => by
    obtain ⟨h1, h2⟩ := fold_get off vs (k + 1) (cells.setIfInBounds (off + k) v)
    simp only [List.zipIdx_cons, List.foldl_cons]
    refine ⟨by rw [h1]; simp, fun q => ?_⟩
    rw [h2]
    simp only [Array.size_setIfInBounds, List.length_cons]
    by_cases hq : q = off + k
    · subst hq
      rw [if_neg (by omega)]
      by_cases hs : off + k < cells.size
      · rw [if_pos (by omega)]
        simp [hs]
      · rw [if_neg (by omega)]
        rw [Array.getElem?_eq_none (by simp; omega), Array.getElem?_eq_none (by omega)]
    · by_cases hin : off + (k + 1) ≤ q ∧ q < off + (k + 1) + vs.length ∧ q < cells.size
      · rw [if_pos hin, if_pos (by omega), show q - (off + k) = (q - (off + (k + 1))) + 1 from by omega, List.getElem?_cons_succ]
      · rw [if_neg hin, if_neg (by omega), Array.getElem?_setIfInBounds_ne (by omega)]

theorem fold_splice {off : Nat} {vs cells : Array Value} (h : off + vs.size ≤ cells.size) : (vs.zipIdx.foldl (fun cs (c, j) => cs.setIfInBounds (off + j) c) cells).toList = cells.toList.take off ++ vs.toList ++ cells.toList.drop (off + vs.size) := by
  have e : (vs.zipIdx.foldl (fun cs (c, j) => cs.setIfInBounds (off + j) c) cells) = ((vs.toList.zipIdx 0).foldl (fun cs p => cs.setIfInBounds (off + p.2) p.1) cells) := by
    rw [← Array.foldl_toList, Array.toList_zipIdx]
  rw [e]
  obtain ⟨h1, h2⟩ := fold_get off vs.toList 0 cells
  apply List.ext_getElem?
  intro q
  rw [← Array.length_toList (xs := vs), splice_get _ _ _ (by simpa using h), Array.getElem?_toList, h2]
  simp only [Nat.add_zero, Array.length_toList]
  by_cases q1 : q < off
  · rw [if_neg (by omega), if_pos q1, Array.getElem?_toList]
  · rw [if_neg q1]
    by_cases q2 : q < off + vs.size
    · rw [if_pos (by omega), if_pos q2]
    · rw [if_neg (by omega), if_neg q2, Array.getElem?_toList]

theorem fill_cons {place : Nat → Option (Nat × Nat)} {cells : Array Value} {i off sz : Nat} {v : Value} {rest : List (Nat × Value)} (hp : place i = some (off, sz)) (h1 : v.cells.size = sz) (h2 : off + v.cells.size ≤ cells.size) :
    Instr.fill place cells ((i, v) :: rest) = Instr.fill place (cells.toList.take off ++ v.cells.toList ++ cells.toList.drop (off + v.cells.size)).toArray rest := by
  rw [Instr.fill, hp]
  simp only
  rw [if_neg (by simp [h1]; omega)]
  congr 1
  apply Array.ext'
  rw [fold_splice h2]

theorem relL_place {cs vs : List V} {c d : List Value} {off : Nat} (h : relL T φ w S cs c) (k : relL T φ w S vs d) : relL T φ w S (place cs off vs) (c.take off ++ d ++ c.drop (off + d.length)) := by
  have := (relL_iff.1 k).1
  simp only [place, this]
  exact relL_app (relL_app (relL_take h off) k) (relL_drop h _)

/-! ### struct and array literals -/
def partPlace (T : Tr) (d : TypeDesc) (i : Nat) : Option (Nat × Nat) :=
  match d with
  | .struct fs => (fs[i]?).map fun f => (f.offset, sizeT T f.type)
  | .array _ u => some (i * sizeT T u, sizeT T u)
  | _ => none

theorem placeAll_ok {e : TE} {pl : Nat → Option (Nat × Nat)} : ∀ {ps : List (Nat × V)} {qs : List (Nat × Value)} {cs cs' : List V} {c : Array Value}, placeAll T e cs ps = some cs' → ps.map (·.1) = qs.map (·.1) → relL T φ w S (ps.map (·.2)) (qs.map (·.2)) →
    (∀ i off sz, partPlace T e.desc i = some (off, sz) → 0 < sz → pl i = some (off, sz)) → relL T φ w S cs c.toList → (∀ u ∈ c.toList, u.oneCell' = true) →
    ∃ c', Instr.fill pl c qs = some c' ∧ relL T φ w S cs' c'.toList ∧ ∀ u ∈ c'.toList, u.oneCell' = true
  | [], qs, cs, cs', c, h, he, hr, hpl, hc, h1 => by
    simp only [placeAll] at h
    injection h with h; subst h
    cases qs with
    | nil => exact ⟨c, rfl, hc, h1⟩
    | cons q qs => simp at he
  | (i, v) :: r, qs, cs, cs', c, h, he, hr, hpl, hc, h1 => by
    cases qs with
    | nil => simp at he
    | cons q qs =>
      obtain ⟨qi, qv⟩ := q
      simp only [List.map_cons, List.cons.injEq] at he
      obtain ⟨rfl, he⟩ := he
      simp only [List.map_cons, relL] at hr
      obtain ⟨x, xs', e1, k1, k2⟩ := hr
      injection e1 with e1 e2
      subst e1; subst e2
      simp only [placeAll] at h
      split at h
      · rename_i off sz hpp
        split at h
        · rename_i g1 g2
          rw [Bool.and_eq_true, Bool.and_eq_true, beq_iff_eq] at g1
          obtain ⟨⟨g1, g3⟩, g4⟩ := g1
          have g4' : 0 < sz := by simp [Nat.blt] at g4; omega
          obtain ⟨k3, k4⟩ := stor_cells g3 k1
          have l1 := (relL_iff.1 k3).1
          have l2 := (relL_iff.1 hc).1
          have l1' : (cellsOf v).length = qv.cells.size := by simpa using l1
          have l2' : cs.length = c.size := by simpa using l2
          have g2' := Nat.le_of_ble_eq_true g2
          have hpos := hpl i off sz (by unfold partPlace; exact hpp) g4'
          rw [fill_cons hpos (by omega) (by omega)]
          refine placeAll_ok h he k2 hpl ?_ ?_
          · have := relL_place (off := off) hc k3
            simpa using this
          · intro u hu
            simp only [List.mem_append] at hu
            rcases hu with (hu | hu) | hu
            · exact h1 u (List.mem_of_mem_take hu)
            · exact k4 u hu
            · exact h1 u (List.mem_of_mem_drop hu)
        · cases h
      · cases h

theorem evL_rel {tm : List V} {a : Act} (h : Inv T w0 φ S tm hp a w) (ps : List (Nat × Operand)) : (ps.map fun p => (p.1, ev tm p.2)).map (·.1) = (ps.map fun p => (p.1, a.eval p.2)).map (·.1) ∧ relL T φ w S ((ps.map fun p => (p.1, ev tm p.2)).map (·.2)) ((ps.map fun p => (p.1, a.eval p.2)).map (·.2)) := by
  refine ⟨by simp, ?_⟩
  induction ps with
  | nil => simp only [List.map_nil, relL]
  | cons p ps ih => simp only [List.map_cons, relL]; exact ⟨_, _, rfl, ev_rel h _, ih⟩

theorem argsL_rel {tm : List V} {a : Act} (h : Inv T w0 φ S tm hp a w) (xs : Array Operand) : relL T φ w S (argsL tm xs) (xs.map a.eval).toList := by
  unfold argsL
  rw [Array.toList_map]
  induction xs.toList with
  | nil => simp only [List.map_nil, relL]
  | cons p ps ih => simp only [List.map_cons, relL]; exact ⟨_, _, rfl, ev_rel h _, ih⟩

theorem run_places (htok : TyOk P T) : ∀ {fs : List Field}, knowsF T fs = true → (fs.mapM fun f => (do pure (f.offset, ← sizeOf f.type) : Sem (Nat × Nat))).run P w = .ok (fs.map fun f => (f.offset, sizeT T f.type)) w
  | [], _ => by simp
  | f :: fs, h => by
    simp only [knowsF, Bool.and_eq_true] at h
    obtain ⟨h1, h2⟩ := h
    split at h1
    · rename_i e he
      obtain ⟨i, hi, hs, _⟩ := htok.info _ _ he
      have ih := run_places htok h2
      simp only [List.mapM_cons, Sem.run_bind, sizeOf, run_typeInfo w hi, Result.andThen_ok, Sem.run_pure, List.map_cons]
      simp only [sizeOf] at ih
      rw [ih]
      simp [sizeT, he, hs]
    · cases h1

theorem buildF_ok (htok : TyOk P T) {tm : List V} {a : Act} (hi : Inv T w0 φ S tm hp a w) {t : Nat} {ps : Array (Nat × Operand)} {v : V} {E : Hp}
    (h : Res P T (match T.look t with
    | some e => match okBuild T e, placeAll T e (cellsOf (zeroV e)) (ps.toList.map fun p => (p.1, ev tm p.2)) with
      | true, some cs => .ok (.agg cs) []
      | _, _ => .fail
    | none => .fail) v E) : Gives P T φ w S (Instr.build t (ps.map fun (i, x) => (i, a.eval x))) v E := by
  split at h
  · rename_i e he
    split at h
    · rename_i cs hok hpl
      obtain ⟨rfl, rfl⟩ := res_ok h
      have hu := htok.und _ _ he
      obtain ⟨i, hin, hsz, _, hz⟩ := htok.info _ _ he
      obtain ⟨k1, k2⟩ := evL_rel hi ps.toList
      unfold okBuild at hok
      rw [Bool.and_eq_true] at hok
      obtain ⟨z1, z2⟩ := stor_cells (x := e.zero) (φ := φ) (w := w) (S := S) hok.1 (zero_rel (T := T) e)
      have hps : (ps.map fun (i, x) => (i, a.eval x)).toList = ps.toList.map fun p => (p.1, a.eval p.2) := by simp
      cases hd : e.desc with
      | struct fs =>
        rw [hd] at hu
        have hkn : knowsF T fs.toList = true := by
          have := hok.2; rw [hd] at this; exact this
        obtain ⟨c', f1, f2, f3⟩ := placeAll_ok (e := e) (pl := fun i => (fs.toList.map fun f => (f.offset, sizeT T f.type)).toArray[i]?) hpl k1 k2 (fun i off sz hpp _ => by
          rw [hd] at hpp
          simp only [partPlace] at hpp
          simpa using hpp) z1 z2
        refine ⟨rfl, .agg c', ?_, by simp only [rel]; exact ⟨c', rfl, f2, f3⟩⟩
        have hm : (fs.mapM fun f => (do pure (f.offset, ← sizeOf f.type) : Sem (Nat × Nat))).run P w = .ok (fs.toList.map fun f => (f.offset, sizeT T f.type)).toArray w := by
          rw [Array.mapM_eq_mapM_toList, Sem.run_map, run_places htok hkn]
          rfl
        simp only [Instr.build, Sem.run_bind, zeroValue, run_typeInfo w hin, Result.andThen_ok, hz, Sem.run_pure, run_underlying hu]
        rw [hm]
        simp only [Result.andThen_ok, hps]
        rw [f1]
        rfl
      | array n u =>
        rw [hd] at hu
        have hkn : ∃ eu, T.look u = some eu := by
          have := hok.2; rw [hd] at this
          simp only at this
          split at this
          · rename_i eu heu; exact ⟨eu, heu⟩
          · cases this
        obtain ⟨eu, heu⟩ := hkn
        obtain ⟨iu, hiu, hsu, _⟩ := htok.info _ _ heu
        have hsu2 : sizeT T u = iu.size := by simp [sizeT, heu, hsu]
        obtain ⟨c', f1, f2, f3⟩ := placeAll_ok (e := e) (pl := fun i => some (i * iu.size, iu.size)) hpl k1 k2 (fun i off sz hpp _ => by
          rw [hd] at hpp
          simp only [partPlace, hsu2] at hpp
          exact hpp) z1 z2
        refine ⟨rfl, .agg c', ?_, by simp only [rel]; exact ⟨c', rfl, f2, f3⟩⟩
        simp only [Instr.build, Sem.run_bind, zeroValue, run_typeInfo w hin, Result.andThen_ok, hz, Sem.run_pure, run_underlying hu, sizeOf, run_typeInfo w hiu, hps]
        rw [f1]
        rfl
      | _ => have := hok.2; rw [hd] at this; cases this
    · exact (res_fail h).elim
  · exact (res_fail h).elim

/-! ### make -/
theorem madeCells_get {z : Value} {n sz : Nat} (hz : z.cells.size = sz) (hpos : 0 < sz) {k j : Nat} {u : Value} (hk : k < n) (hu : z.cells[j]? = some u) : (madeCells z.cells (n * sz))[k * sz + j]? = some u := by
  have hj : j < sz := by have := (Array.getElem?_eq_some_iff.1 hu).1; omega
  have hle : (k + 1) * sz ≤ n * sz := Nat.mul_le_mul_right _ hk
  rw [Nat.add_mul, Nat.one_mul] at hle
  simp only [madeCells, Array.getElem?_map, Array.getElem?_range, if_pos (show k * sz + j < n * sz by omega), Option.map_some]
  rw [hz, show (k * sz + j) % sz = j from by rw [Nat.mul_comm, Nat.mul_add_mod]; exact Nat.mod_eq_of_lt hj]
  obtain ⟨h1, h2⟩ := Array.getElem?_eq_some_iff.1 hu
  simp [h1, h2]

theorem made_row {u n : Nat} {eu : TE} (hzs : eu.zero.cells.size = eu.size) (hpos : 0 < eu.size) (hst : stor (zeroT T u eu) = true) : inRow T φ w S (madeCells eu.zero.cells (n * eu.size)) 0 eu.size (List.replicate n (zeroT T u eu)) := by
  intro k e hk
  rw [List.getElem?_replicate] at hk
  split at hk
  · rename_i hkn
    injection hk with hk
    subst hk
    exact ⟨eu.zero, zeroT_rel u eu, hzs, (stor_cells hst (zeroT_rel (T := T) (φ := φ) (w := w) (S := S) u eu)).2, fun j q hq => by rw [Nat.zero_add]; exact madeCells_get hzs hpos hkn hq⟩
  · cases hk

theorem makeF_ok (htok : TyOk P T) (hs : Since w0 w) (hh : HOk T φ w0.Z w S hp) {t u m : Nat} {eu : TE} {k : IntKind} {n : Int} (hel : elemT T t = some (u, eu)) (hm : look hp m = none) (hck : chk T u (zeroT T u eu) = true) (hzk : zok eu = true) (hpos : 0 < eu.size)
    (h0 : 0 ≤ n) (hroom : n ≤ 140737488355328 ∧ n.toNat * eu.bytes ≤ 140737488355328) :
    ∃ xv w', (Instr.makeSlice t (.int k n) (.int k n)).run P w = .ok xv w' ∧ Left T w0 φ S hp w (.row m) [(m, .row u (List.replicate n.toNat (zeroT T u eu)))] xv w' := by
  obtain ⟨et, het, hd, heu⟩ := elemT_of hel
  have ht := htok.und _ _ het
  rw [hd] at ht
  obtain ⟨i, hi, hsz, hby, hzz⟩ := htok.info _ _ heu
  have hzs : eu.zero.cells.size = eu.size := by simpa [zok] using hzk
  have hb : (i.bytes : Int) * n ≤ 281474976710656 := by
    have h2 : ((n.toNat * eu.bytes : Nat) : Int) ≤ 140737488355328 := Int.ofNat_le.2 hroom.2
    rw [Int.natCast_mul, Int.toNat_of_nonneg h0] at h2
    rw [hby, Int.mul_comm]
    omega
  have hrun := run_make (P := P) w t u i eu.zero ht hi hzz k k n n h0 (Int.le_refl _) hb (by omega)
  rw [hsz] at hrun
  refine ⟨_, _, hrun, ?_⟩
  have hrow := made_row (T := T) (φ := φ) (w := w) (S := S) (u := u) (n := n.toNat) hzs hpos (chk_stor hck)
  have hwt : wtL T u (List.replicate n.toNat (zeroT T u eu)) := wtL_iff.2 (fun e he => by rw [(List.mem_replicate.1 he).2]; exact chk_wt (x := eu.zero) (φ := φ) (w := w) (S := S) hck (zeroT_rel u eu))
  have := newRow_left (w := w) (w1 := w) (m := m) (cap := n.toNat) hs hh (fun _ _ => rfl) hm heu hpos hwt (size_madeCells _ _) (by rw [List.length_replicate]; exact Nat.le_refl _) (by unfold maxLen; omega) hrow
  rwa [List.length_replicate] at this

/-! ### slice literals -/
theorem putAll_ok {u sz : Nat} (hsz : 0 < sz) : ∀ {ps : List (Nat × V)} {qs : List (Nat × Value)} {es es' : List V} {c : Array Value}, putAll es ps = some es' → ps.map (·.1) = qs.map (·.1) → relL T φ w S (ps.map (·.2)) (qs.map (·.2)) → (∀ p ∈ ps, stor p.2 = true ∧ (cellsOf p.2).length = sz) →
    inRow T φ w S c 0 sz es → c.size = es.length * sz → ∃ c', Instr.fill (fun i => some (i * sz, sz)) c qs = some c' ∧ inRow T φ w S c' 0 sz es' ∧ c'.size = es'.length * sz ∧ es'.length = es.length
  | [], qs, es, es', c, h, he, hr, hst, hc, hcs => by
    simp only [putAll] at h
    injection h with h; subst h
    cases qs with
    | nil => exact ⟨c, rfl, hc, hcs, rfl⟩
    | cons q qs => simp at he
  | (i, v) :: r, qs, es, es', c, h, he, hr, hst, hc, hcs => by
    cases qs with
    | nil => simp at he
    | cons q qs =>
      obtain ⟨qi, qv⟩ := q
      simp only [List.map_cons, List.cons.injEq] at he
      obtain ⟨rfl, he⟩ := he
      simp only [List.map_cons, relL] at hr
      obtain ⟨x, xs', e1, k1, k2⟩ := hr
      injection e1 with e1 e2
      subst e1; subst e2
      simp only [putAll] at h
      split at h
      · rename_i hlt
        have hlt' : i < es.length := by simp [Nat.blt] at hlt; omega
        obtain ⟨s1, s2⟩ := hst (i, v) (List.mem_cons_self)
        obtain ⟨k3, k4⟩ := stor_cells s1 k1
        have l1 : (cellsOf v).length = qv.cells.size := by simpa using (relL_iff.1 k3).1
        simp only at s2
        have hfit : (i + 1) * sz ≤ es.length * sz := Nat.mul_le_mul_right _ hlt'
        rw [Nat.add_mul, Nat.one_mul] at hfit
        rw [fill_cons (off := i * sz) (sz := sz) rfl (by omega) (by omega)]
        have hnew : inRow T φ w S qv.cells.toList.toArray 0 sz [v] := by
          intro k e hk
          cases k with
          | zero =>
            simp at hk; subst hk
            exact ⟨qv, k1, by omega, k4, fun j u hu => by simpa using hu⟩
          | succ k => simp at hk
        have hover := inRow_over (n := 0) (lo := i) hc (by omega) hnew (by simp; omega) (by simp; omega)
        have hset : es.take i ++ [v] ++ es.drop (i + [v].length) = es.set i v := by
          apply List.ext_getElem?
          intro q
          rw [splice_get _ _ _ (by simp; omega), List.getElem?_set]
          by_cases q1 : q < i
          · rw [if_pos q1, if_neg (by omega)]
          · rw [if_neg q1]
            by_cases q2 : q < i + [v].length
            · have : q = i := by simp at q2; omega
              subst this
              rw [if_pos q2, if_pos rfl, if_pos hlt']
              simp
            · rw [if_neg q2, if_neg (by simp at q2; omega)]
        rw [hset] at hover
        have hsize : (c.toList.take (i * sz) ++ qv.cells.toList ++ c.toList.drop (i * sz + qv.cells.size)).toArray.size = (es.set i v).length * sz := by
          simp only [List.size_toArray, List.length_append, List.length_take, List.length_drop, Array.length_toList, List.length_set]
          omega
        have := putAll_ok (u := u) hsz (c := (c.toList.take (i * sz) ++ qv.cells.toList ++ c.toList.drop (i * sz + qv.cells.size)).toArray) h he k2 (fun p hp => hst p (List.mem_cons_of_mem _ hp)) (by simpa using hover) hsize
        rwa [List.length_set] at this
      · cases h

theorem chkAll_wt {u : Nat} : ∀ {es : List V} {c : Array Value} {sz : Nat}, chkAll T u es = true → inRow T φ w S c 0 sz es → wtL T u es
  | es, c, sz, h, hr => by
    refine wtL_iff.2 (fun e he => ?_)
    obtain ⟨k, hk, rfl⟩ := List.getElem_of_mem he
    obtain ⟨y, y1, _⟩ := hr k _ (List.getElem?_eq_getElem hk)
    have : ∀ {l : List V}, chkAll T u l = true → ∀ e ∈ l, chk T u e = true := by
      intro l
      induction l with
      | nil => intro _ e he; cases he
      | cons a l ih =>
        intro h e he
        simp only [chkAll, Bool.and_eq_true] at h
        rcases List.mem_cons.1 he with rfl | he
        · exact h.1
        · exact ih h.2 e he
    exact chk_wt (this h _ he) y1

theorem frz_stor {E : Hp} {v' : V} {u : Nat} (h : chk T u v' = true) : stor v' = true := chk_stor h

theorem okParts_of {sz : Nat} : ∀ {ps : List (Nat × V)}, okParts sz ps = true → ∀ p ∈ ps, stor p.2 = true ∧ (cellsOf p.2).length = sz
  | [], _, p, hp => by cases hp
  | (i, v) :: r, h, p, hp => by
    simp only [okParts, Bool.and_eq_true, beq_iff_eq] at h
    rcases List.mem_cons.1 hp with rfl | hp
    · exact ⟨h.1.1, h.1.2⟩
    · exact okParts_of h.2 p hp

theorem Left.of_ext {E1 E2 : Hp} {S1 : Nat → Prop} (hs : Since w0 w) (hS : SLe w0.Z S S1) (h : HOk T φ w0.Z w S1 (E1 ++ hp)) {w2 : World} (k : Left T w0 φ S1 (E1 ++ hp) w v E2 x w2) : Left T w0 φ S hp w v (E2 ++ E1) x w2 :=
  Left.after (w1 := w) ⟨LocLe.refl _, hS, fun _ _ => rfl, hs, h⟩ k

theorem buildSliceF_ok (htok : TyOk P T) {tm : List V} {a : Act} (hi : Inv T w0 φ S tm hp a w) {t n : Nat} {ps : Array (Nat × Operand)} {v : V} {E : Hp} {xo : Oper}
    (h : Res P T (match elemT T t, frzP hp (ps.toList.map fun p => (p.1, ev tm p.2)) with
    | some (u, eu), (ps', E) => match dstN (E ++ hp) xo, putAll (List.replicate n (zeroT T u eu)) (unNilP T u ps') with
      | some m, some es => match chkAll T u es && (n * eu.size).ble 16777216 && Nat.blt 0 eu.size && zok eu && chk T u (zeroT T u eu) && okParts eu.size (unNilP T u ps') with
        | true => .ok (.row m) ((m, .row u es) :: E)
        | false => .fail
      | _, _ => .fail
    | _, _ => .fail) v E) :
    ∃ xv w', (Instr.buildSlice t n (ps.map fun (i, x) => (i, a.eval x))).run P w = .ok xv w' ∧ Left T w0 φ S hp w v E xv w' := by
  split at h
  · rename_i u eu ps' E1 hel hfz
    split at h
    · rename_i m es hm hput
      split at h
      · rename_i hok
        obtain ⟨rfl, rfl⟩ := res_ok h
        simp only [Bool.and_eq_true] at hok
        obtain ⟨⟨⟨⟨⟨o1, o2⟩, o3⟩, o4⟩, o5⟩, o6⟩ := hok
        obtain ⟨et, het, hd, heu⟩ := elemT_of hel
        have ht := htok.und _ _ het
        rw [hd] at ht
        obtain ⟨i, hin, hsz, hby, hzz⟩ := htok.info _ _ heu
        have hpos : 0 < eu.size := by simp [Nat.blt] at o3; omega
        have hzs : eu.zero.cells.size = eu.size := by simpa [zok] using o4
        obtain ⟨k1, k2⟩ := evL_rel hi ps.toList
        obtain ⟨S1, s1, s2, s3, s4⟩ := frzP_ok hi.heap k1 k2 hfz
        have hm' : look (E1 ++ hp) m = none := by
          unfold dstN at hm
          split at hm
          · split at hm
            · rename_i hl; injection hm with hm; rw [← hm]; exact hl
            · cases hm
          · cases hm
        have hps : (ps.map fun (i, x) => (i, a.eval x)).toList = ps.toList.map fun p => (p.1, a.eval p.2) := by simp
        have hrow0 := made_row (T := T) (φ := φ) (w := w) (S := S1) (u := u) (n := n) hzs hpos (chk_stor o5)
        obtain ⟨c', f1, f2, f3, f4⟩ := putAll_ok (u := u) (c := madeCells eu.zero.cells (n * eu.size)) hpos hput (unNilP_fst.trans s3) (unNilP_rel s4) (okParts_of o6) hrow0 (by rw [size_madeCells, List.length_replicate])
        rw [List.length_replicate] at f4
        have hwt := chkAll_wt o1 f2
        by_cases hn : n = 0
        · -- nothing in it
          have hes : es = [] := List.eq_nil_of_length_eq_zero (by rw [f4, hn])
          have hc' : c' = #[] := Array.eq_empty_of_size_eq_zero (by rw [f3, hes]; simp)
          have hrun : (Instr.buildSlice t n (ps.map fun (i, x) => (i, a.eval x))).run P w = .ok (.slice (some ⟨w.heap.size, 0, none⟩) n n) (w.alloc (.cells c' u)) := by
            rw [hn] at f1 ⊢
            have hf1 : Instr.fill (fun i => some (i * eu.size, eu.size)) #[] (ps.toList.map fun p => (p.1, a.eval p.2)) = some c' := by
              have : madeCells eu.zero.cells (0 * eu.size) = #[] := Array.eq_empty_of_size_eq_zero (by rw [size_madeCells]; simp)
              rw [this] at f1
              exact f1
            simp [Instr.buildSlice, run_underlying ht, sizeOf, run_typeInfo w hin, hsz, newRow, hf1, Array.range_zero']
          refine ⟨_, _, hrun, ?_⟩
          have hl := newRow_left (w := w) (w1 := w) (m := m) (u := u) (cap := n) hi.since s2 (fun _ _ => rfl) hm' heu hpos hwt (by rw [f3, f4]) (by rw [f4]; exact Nat.le_refl _) (by rw [hn]; unfold maxLen; omega) f2
          rw [f4] at hl
          exact Left.of_ext hi.since s1 s2 hl
        · have hle : n * eu.size ≤ 16777216 := Nat.le_of_ble_eq_true o2
          have hne : ¬ n * i.size = 0 := by rw [hsz]; have := Nat.mul_pos (Nat.pos_of_ne_zero hn) hpos; omega
          have hrun := run_buildSlice (P := P) w t u n (ps.map fun (i, x) => (i, a.eval x)) c' i eu.zero ht hin hzz (by rw [hsz]; omega) hne (by rw [hps, hsz]; exact f1)
          refine ⟨_, _, hrun, ?_⟩
          have hn2 : n ≤ n * eu.size := Nat.le_mul_of_pos_right _ hpos
          have hl := newRow_left (w := w) (w1 := w) (m := m) (u := u) (cap := n) hi.since s2 (fun _ _ => rfl) hm' heu hpos hwt (by rw [f3, f4]) (by rw [f4]; exact Nat.le_refl _) (by unfold maxLen; omega) f2
          rw [f4] at hl
          exact Left.of_ext hi.since s1 s2 hl
      · exact (res_fail h).elim
    · exact (res_fail h).elim
  · exact (res_fail h).elim
end
end Go.Ab
end
section
/- Each operation does what the calculus says: slices, conversions, the lesser and the greater. No statement of its own. -/

namespace Go.Ab
open Go.RowKit

section
variable {P : Program} {T : Tr} {w0 : Base} {φ φ' : Nat → Option Loc} {w w' : World} {S S' : Nat → Prop} {v : V} {x : Value} {hp : Hp} {b0 : Nat → Prop}

theorem run_bounds {tm : List V} {a : Act} (hi : Inv T w0 φ S tm hp a w) {isS : Bool} {len cap : Nat} {lo hi' : Option Operand} {l h : Int} (hl : hiOf 0 (lo.map (ev tm)) = some l) (hh : hiOf len (hi'.map (ev tm)) = some h) (h0 : 0 ≤ l) (h1 : l ≤ h) (h2 : h ≤ len) (hc : len ≤ cap) :
    (Instr.sliceBounds isS len cap (lo.map a.eval) (hi'.map a.eval) none).run P w = .ok (l.toNat, h.toNat, cap) w := by
  have e1 : ((h.toNat : Nat) : Int) = h := Int.toNat_of_nonneg (by omega)
  have H : ∀ code, h.toNat ≤ cap := fun _ => by omega
  cases lo with
  | none =>
    simp only [Option.map_none, hiOf, Option.some.injEq] at hl
    subst hl
    cases hi' with
    | none =>
      simp only [Option.map_none, hiOf, Option.some.injEq] at hh
      subst hh
      simp [Instr.sliceBounds]
    | some o =>
      simp only [Option.map_some, hiOf] at hh
      obtain ⟨k, hk⟩ := asZ_some hh (ev_rel hi o)
      simp only [Option.map_some, Option.map_none, hk]
      simp [Instr.sliceBounds, run_sliceBound w k h cap _ (by omega) (by omega)]
  | some ol =>
    simp only [Option.map_some, hiOf] at hl
    obtain ⟨kl, hkl⟩ := asZ_some hl (ev_rel hi ol)
    cases hi' with
    | none =>
      simp only [Option.map_none, hiOf, Option.some.injEq] at hh
      subst hh
      simp only [Option.map_some, Option.map_none, hkl]
      simp [Instr.sliceBounds, run_sliceBound w kl l len _ h0 h1]
    | some o =>
      simp only [Option.map_some, hiOf] at hh
      obtain ⟨k, hk⟩ := asZ_some hh (ev_rel hi o)
      simp only [Option.map_some, hk, hkl]
      simp [Instr.sliceBounds, run_sliceBound w k h cap _ (by omega) (by omega), run_sliceBound w kl l h.toNat _ h0 (by omega)]

theorem run_slice_at {t u : Nat} {i0 : TypeInfo} (ht : P.underlying t = some (.slice u)) (hi : P.info? u = some i0) {A : Option Addr} {len cap : Nat} {lo hi' : Option Value} {l h m : Nat} (hb : (Instr.sliceBounds true len cap lo hi' none).run P w = .ok (l, h, m) w) :
    (Instr.sliceAt t (.slice A len cap) lo hi' none).run P w = .ok (.slice (if m = l then A else A.map (·.add (l * i0.size))) (h - l) (m - l)) w := by
  simp [Instr.sliceAt, Instr.slice, run_underlying ht, hb, sizeOf, typeInfo, hi]

theorem run_slice_str {t : Nat} (ht : P.underlying t = some .string) {s : ByteArray} {lo hi' : Option Value} {l h m : Nat} (hb : (Instr.sliceBounds false s.size s.size lo hi' none).run P w = .ok (l, h, m) w) :
    (Instr.sliceAt t (.string s) lo hi' none).run P w = .ok (.string (s.extract l h)) w := by
  simp [Instr.sliceAt, Instr.slice, run_underlying ht, hb]

theorem sl_sub {u : Nat} {e : TE} {es : List V} {A : Option Addr} {cap : Nat} {l h : Int} (he : T.look u = some e) (hz : 0 < e.size) (hw : wtL T u es) (hc : es.length ≤ cap) (hm : es.length ≤ maxLen) (h0 : 0 ≤ l) (h1 : l ≤ h) (h2 : h ≤ es.length)
    (hE : es ≠ [] → ∃ ad, A = some ad ∧ S ad.block ∧ relE T φ w S ad e.size 0 es) :
    rel T φ w S (.sl u ((es.take h.toNat).drop l.toNat)) (.slice (if cap = l.toNat then A else A.map (·.add (l.toNat * e.size))) (h.toNat - l.toNat) (cap - l.toNat)) := by
  have hlen : ((es.take h.toNat).drop l.toNat).length = h.toNat - l.toNat := by simp; omega
  simp only [rel]
  refine ⟨_, _, by rw [hlen], by rw [hlen]; omega, by rw [hlen]; omega, wtL_sub _ _ hw, fun hne => ?_⟩
  have hlt : l.toNat < h.toNat := by
    rcases Nat.lt_or_ge l.toNat h.toNat with k | k
    · exact k
    · exact absurd (List.eq_nil_of_length_eq_zero (by rw [hlen]; omega)) hne
  obtain ⟨ad, rfl, hS, hE2⟩ := hE (fun hn => by subst hn; simp at h2; omega)
  refine ⟨ad.add (l.toNat * e.size), e, ?_, he, hz, ?_, relE_sub hE2⟩
  · rw [if_neg (by omega)]; rfl
  · have hb : (ad.add (l.toNat * e.size)).block = ad.block := by unfold Addr.add; split <;> rfl
    rw [hb]; exact hS

theorem rowp_sub {n B off len room sz cap : Nat} {lo ln l h : Int} {A : Addr} (hφ : φ n = some (.rw B off len room sz)) (h0 : 0 ≤ lo) (h1 : lo + ln ≤ len) (h2 : ln ≤ cap) (h3 : cap ≤ maxLen) (h4 : off + lo.toNat * sz + cap * sz ≤ room) (h5 : 0 < cap → A = ⟨B, off + lo.toNat * sz, none⟩) (l0 : 0 ≤ l) (l1 : l ≤ h) (l2 : h ≤ ln) :
    rel T φ w S (.rowp n (lo + l) (h - l)) (.slice (if cap = l.toNat then some A else (some A).map (·.add (l.toNat * sz))) (h.toNat - l.toNat) (cap - l.toNat)) := by
  simp only [rel]
  have hmul : (lo + l).toNat * sz = lo.toNat * sz + l.toNat * sz := by rw [Int.toNat_add h0 l0, Nat.add_mul]
  have hsub : (cap - l.toNat) * sz = cap * sz - l.toNat * sz := Nat.sub_mul _ _ _
  have hle : l.toNat * sz ≤ cap * sz := Nat.mul_le_mul_right _ (by omega)
  refine .inl ⟨B, off, len, room, sz, cap - l.toNat, (if cap = l.toNat then A else A.add (l.toNat * sz)), hφ, ?_, by omega, by omega, by omega, by omega, by omega, by omega, fun hp => ?_⟩
  · rw [show (h - l).toNat = h.toNat - l.toNat from by omega]
    split <;> rfl
  · rw [if_neg (by omega), h5 (by omega), add_at0, hmul, Nat.add_assoc]

theorem sliceF_ok (htok : TyOk P T) {tm : List V} {a : Act} (hi : Inv T w0 φ S tm hp a w) {t : Nat} {va : V} {lo hi' : Option Operand} {v : V} {E : Hp} (h : Res P T (sliceF (real P T w0) T hp t va (lo.map (ev tm)) (hi'.map (ev tm))) v E) (hr : rel T φ w S va x) :
    Gives P T φ w S (Instr.sliceAt t x (lo.map a.eval) (hi'.map a.eval) none) v E := by
  have hh := hi.heap
  unfold sliceF at h
  split at h
  · rename_i e l he hl
    have ht := htok.und _ _ he
    split at h
    · rename_i hd
      rw [hd] at ht
      split at h
      · rename_i s hs
        obtain rfl := asS_some hs hr
        split at h
        · rename_i hh' hhi
          obtain ⟨⟨h0, h1, h2⟩, h⟩ := res_need h
          obtain ⟨rfl, rfl⟩ := res_ok h
          refine ⟨rfl, _, run_slice_str ht (run_bounds hi hl hhi h0 h1 h2 (Nat.le_refl _)), ?_⟩
          simp only [rel, real]
        · exact (res_fail h).elim
      · exact (res_fail h).elim
    · rename_i u hd
      rw [hd] at ht
      split at h
      · exact (res_fail h).elim
      · rename_i eu heu
        obtain ⟨i0, hi0, hs, _⟩ := htok.info _ _ heu
        split at h
        · rename_i u' es
          split at h
          · rename_i hh' hU hhi
            obtain rfl : u = u' := by simpa using hU
            obtain ⟨⟨h0, h1, h2⟩, h⟩ := res_need h
            obtain ⟨rfl, rfl⟩ := res_ok h
            simp only [rel] at hr
            obtain ⟨A, cap, rfl, k1, k2, k3, k4⟩ := hr
            refine ⟨rfl, _, run_slice_at ht hi0 (run_bounds hi hl hhi h0 h1 h2 k1), ?_⟩
            by_cases hne : es = []
            · subst hne
              simp only [real, List.length_nil, Int.ofNat_zero, Int.natCast_zero] at h2
              obtain rfl : l = 0 := by omega
              obtain rfl : hh' = 0 := by omega
              simp only [rel, real, List.take_nil, List.drop_nil]
              exact ⟨_, _, rfl, by simp, by simp, by simp [wtL], fun hn => absurd rfl hn⟩
            · obtain ⟨ad, e', hA, he', hz, hS, hE⟩ := k4 hne
              rw [heu] at he'; injection he' with he'; subst he'
              rw [hs]
              exact sl_sub heu hz k3 k1 k2 h0 h1 h2 (fun _ => ⟨ad, hA, hS, hE⟩)
          · exact (res_fail h).elim
        · rename_i n
          split at h
          · rename_i u' es hlk
            split at h
            · rename_i hh' hU hhi
              obtain rfl : u = u' := by simpa using hU
              obtain ⟨⟨h0, h1, h2⟩, h⟩ := res_need h
              obtain ⟨rfl, rfl⟩ := res_ok h
              obtain ⟨hw, e', he', hz, hb⟩ := row_form hh hlk
              rw [heu] at he'; injection he' with he'; subst he'
              simp only [rel] at hr
              rcases hr with ⟨B, off, len, room, sz, cap, k1, rfl, k3, k4, k5⟩ | ⟨k1, _, rfl⟩
              · rcases hb with ⟨B', off', room', arr, fz, f1, f2, f3⟩ | ⟨f1, _⟩
                · rw [k1] at f1; injection f1 with f1; injection f1 with a1 a2 a3 a4 a5; subst a1; subst a2; subst a3; subst a4; subst a5
                  refine ⟨rfl, _, run_slice_at ht hi0 (run_bounds hi hl hhi h0 h1 h2 k3), ?_⟩
                  rw [hs]
                  have := rowp_sub (T := T) (w := w) (S := S) (lo := 0) (ln := es.length) (A := ⟨B, off, none⟩) k1 (Int.le_refl 0) (by omega) (by omega) k4 (by simp; omega) (fun _ => by simp) h0 h1 h2
                  rw [Int.zero_add] at this
                  exact this
                · rw [k1] at f1; cases f1
              · rcases hb with ⟨B', off', room', arr, fz, f1, f2, f3⟩ | ⟨f1, rfl⟩
                · rw [k1] at f1; cases f1
                · simp only [real, List.length_nil, Int.ofNat_zero, Int.natCast_zero] at h2
                  obtain rfl : l = 0 := by omega
                  obtain rfl : hh' = 0 := by omega
                  refine ⟨rfl, _, run_slice_at ht hi0 (run_bounds (len := 0) hi hl hhi h0 h1 (by simp) (Nat.le_refl _)), ?_⟩
                  simp only [rel]
                  refine .inr ⟨k1, ?_⟩
                  simp [real]
            · exact (res_fail h).elim
          · rename_i u' es hlk
            split at h
            · rename_i hh' hU hhi
              obtain rfl : u = u' := by simpa using hU
              obtain ⟨⟨h0, h1, h2⟩, h⟩ := res_need h
              obtain ⟨rfl, rfl⟩ := res_ok h
              obtain ⟨hw, e', he', hz, hb⟩ := ro_form hh hlk
              rw [heu] at he'; injection he' with he'; subst he'
              have hx := row_sl heu hz hw (ro_S hh hlk) hb hr
              simp only [rel] at hx
              obtain ⟨A, cap, rfl, k1, k2, k3, k4⟩ := hx
              refine ⟨rfl, _, run_slice_at ht hi0 (run_bounds hi hl hhi h0 h1 h2 k1), ?_⟩
              rw [hs]
              refine sl_sub heu hz hw k1 k2 h0 h1 h2 (fun hne => ?_)
              obtain ⟨ad, e', hA, he', hz, hS, hE⟩ := k4 hne
              rw [heu] at he'; injection he' with he'; subst he'
              exact ⟨ad, hA, hS, hE⟩
            · exact (res_fail h).elim
          · exact (res_fail h).elim
        · rename_i n lo0 ln
          split at h
          · rename_i u' es hlk
            split at h
            · rename_i hh' hU hhi
              obtain rfl : u = u' := by simpa using hU
              obtain ⟨⟨h0, h1, h2⟩, h⟩ := res_need h
              obtain ⟨rfl, rfl⟩ := res_ok h
              obtain ⟨hw, e', he', hz, hb⟩ := row_form hh hlk
              rw [heu] at he'; injection he' with he'; subst he'
              simp only [rel] at hr
              rcases hr with ⟨B, off, len, room, sz, cap, A, k1, rfl, k3, k3', k4, k5, k6, k7, k8⟩ | ⟨k1, ⟨_, rfl⟩, rfl, rfl⟩
              · rcases hb with ⟨B', off', room', arr, fz, f1, f2, f3⟩ | ⟨f1, _⟩
                · rw [k1] at f1; injection f1 with f1; injection f1 with a1 a2 a3 a4 a5; subst a1; subst a2; subst a3; subst a4; subst a5
                  have hln : ((ln.toNat : Nat) : Int) = ln := Int.toNat_of_nonneg k3'
                  refine ⟨rfl, _, run_slice_at ht hi0 (run_bounds (len := ln.toNat) hi hl (by rw [hln]; exact hhi) h0 h1 (by omega) (by omega)), ?_⟩
                  rw [hs]
                  exact rowp_sub k1 k3 k4 k5 k6 k7 k8 h0 h1 h2
                · rw [k1] at f1; cases f1
              · obtain rfl : l = 0 := by omega
                obtain rfl : hh' = 0 := by omega
                refine ⟨rfl, _, run_slice_at ht hi0 (run_bounds (len := 0) hi hl hhi h0 h1 (by simp) (Nat.le_refl _)), ?_⟩
                simp only [rel, real]
                refine .inr ⟨k1, ?_⟩
                simp
            · exact (res_fail h).elim
          · exact (res_fail h).elim
        · split at h
          · rename_i hh' hhi
            obtain ⟨⟨h0, h1, h2⟩, h⟩ := res_need h
            obtain ⟨rfl, rfl⟩ := res_ok h
            simp only [rel] at hr
            subst hr
            obtain rfl : l = 0 := by omega
            obtain rfl : hh' = 0 := by omega
            refine ⟨rfl, _, run_slice_at ht hi0 (run_bounds (len := 0) hi hl hhi h0 h1 (by simp) (Nat.le_refl _)), ?_⟩
            simp [rel]
          · exact (res_fail h).elim
        · exact (res_fail h).elim
    · exact (res_fail h).elim
  · exact (res_fail h).elim
end
end Go.Ab
end
section
/- Each operation does what the calculus says: conversions, the lesser and the greater. No statement of its own. -/

namespace Go.Ab
open Go.RowKit

section
variable {P : Program} {T : Tr} {w0 : Base} {φ φ' : Nat → Option Loc} {w w' : World} {S S' : Nat → Prop} {v : V} {x : Value} {hp : Hp} {b0 : Nat → Prop}

theorem Gives.left {m : Sem Value} {E : Hp} (hs : Since w0 w) (hh : HOk T φ w0.Z w S hp) (h : Gives P T φ w S m v E) : ∃ xv w', m.run P w = .ok xv w' ∧ Left T w0 φ S hp w v E xv w' := by
  obtain ⟨rfl, xv, h1, h2⟩ := h
  exact ⟨xv, w, h1, φ, S, Ext.refl hs hh, h2⟩

theorem u8_el {u : Nat} {e : V} {y : Value} (hu : isU8 T u = true) (hw : wt T e u) (hr : rel T φ w S e y) : y = .int .u8 (asInt e) := by
  obtain ⟨te, hte, hd⟩ := isU8_of hu
  cases e with
  | i k n =>
    simp only [wt] at hw
    obtain ⟨e', he', hk⟩ := hw
    rw [hte] at he'; injection he' with he'; subst he'
    rw [hd] at hk; injection hk with hk; subst hk
    simp only [rel] at hr
    exact hr
  | s v =>
    simp only [wt] at hw
    obtain ⟨e', he', hk⟩ := hw
    rw [hte] at he'; injection he' with he'; subst he'
    rw [hd] at hk
    cases v <;> simp only at hk
    subst hk
    simp only [rel] at hr
    exact hr.1
  | b c => simp only [wt] at hw; obtain ⟨e', he', hk⟩ := hw; rw [hte] at he'; injection he' with he'; subst he'; rw [hd] at hk; cases hk
  | str c => simp only [wt] at hw; obtain ⟨e', he', hk⟩ := hw; rw [hte] at he'; injection he' with he'; subst he'; rw [hd] at hk; cases hk
  | nil => simp only [wt] at hw; obtain ⟨e', u', he', hk⟩ := hw; rw [hte] at he'; injection he' with he'; subst he'; rw [hd] at hk; cases hk
  | sl et es => simp only [wt] at hw; obtain ⟨⟨e', he', hk⟩, _⟩ := hw; rw [hte] at he'; injection he' with he'; subst he'; rw [hd] at hk; cases hk
  | agg cs => simp only [wt] at hw; obtain ⟨h1, _⟩ := hw; simp [isAggT, hte, hd, isAggD] at h1
  | _ => simp only [wt] at hw

theorem foldl_push : ∀ (ns : List Int) (r : ByteArray), ns.foldl (fun r n => r.push (UInt8.ofNat n.toNat)) r = ⟨r.data ++ (ns.map fun n => UInt8.ofNat n.toNat).toArray⟩
  | [], r => by simp
  | b :: l, r => by
    simp only [List.map_cons, List.foldl_cons]
    rw [foldl_push l]
    simp [ByteArray.push]

theorem run_sl_string {s d u : Nat} (hs : P.underlying s = some (.slice u)) (hu : P.underlying u = some (.int .u8)) (hd : P.underlying d = some .string) (h8 : isU8 T u = true) {es : List V} (hr : rel T φ w S (.sl u es) x) (hsz : ∀ e, T.look u = some e → es ≠ [] → e.size = 1) :
    (convert s d x).run P w = .ok (.string ⟨(es.map fun e => UInt8.ofNat (asInt e).toNat).toArray⟩) w := by
  simp only [rel] at hr
  obtain ⟨A, cap, rfl, h1, h2, h3, h4⟩ := hr
  rw [run_convert_bytes_string w s d u A es.length cap hs hu hd]
  by_cases hne : es = []
  · subst hne
    cases A with
    | none => simp [Conv.bytesToString]; rfl
    | some a =>
      have := run_bytesToString (P := P) w a 0 cap [] (by simp [loadCells, loadCellsFrom])
      simp only [List.length_nil] at this ⊢
      rw [this]
      rfl
  · obtain ⟨ad, e, rfl, he, hz, hS, hE⟩ := h4 hne
    have h1 := hsz e he hne
    have hl := run_loadCells_list (P := P) w ad ((es.map asInt).map (Value.int .u8)) (fun j v hj => by
      simp only [List.map_map, List.getElem?_map, Option.map_eq_some_iff] at hj
      obtain ⟨c, hc, rfl⟩ := hj
      obtain ⟨y, y1, y2, y3, y4⟩ := relE_iff.1 hE j c hc
      have hy := u8_el h8 (wtL_iff.1 h3 c (List.mem_of_getElem? hc)) y1
      subst hy
      have := y4 0 _ rfl
      rw [h1, Nat.zero_add, Nat.mul_one, Nat.add_zero] at this
      exact this)
    simp only [List.length_map] at hl
    rw [run_bytesToString w ad es.length cap _ hl, foldl_push]
    simp [List.map_map, Function.comp_def]

theorem strRow_in {s : ByteArray} {arr : Array Value} (hpre : ∀ j (h : j < s.size), arr[j]? = some (.int .u8 (s.data[j]'h).toNat)) : inRow T φ w S arr 0 1 (strBytes s) := by
  intro k e hk
  simp only [strBytes, List.getElem?_map, Option.map_eq_some_iff] at hk
  obtain ⟨b, hb, rfl⟩ := hk
  refine ⟨.int .u8 b.toNat, by simp only [rel], rfl, fun u hu => by simp [Value.cells] at hu; subst hu; rfl, fun j u hu => ?_⟩
  cases j with
  | zero =>
    simp [Value.cells] at hu; subst hu
    simp only [Array.getElem?_toList] at hb
    obtain ⟨h1, h2⟩ := Array.getElem?_eq_some_iff.1 hb
    rw [show 0 + k * 1 + 0 = k from by omega, hpre k h1, h2]
  | succ j => simp [Value.cells] at hu

theorem bytes_left {m u : Nat} {s : ByteArray} {e : TE} (hs : Since w0 w) (hh : HOk T φ w0.Z w S hp) (hm : look hp m = none) (he : T.look u = some e) (h1 : e.size = 1) (h8 : isU8 T u = true) (hmax : s.size ≤ maxLen) :
    Left T w0 φ S hp w (.row m) [(m, .ro u (strBytes s))] (.slice (some ⟨w.heap.size, 0, none⟩) s.size (grownCap w s.size 0 u))
      (w.drew.alloc (.cells (bytesRow s (grownCap w s.size 0 u)) u ((bytesRow s (grownCap w s.size 0 u)).size, (bytesRow s (grownCap w s.size 0 u)).size + 1))) := by
  have hφ : φ m = none := (hh.dom m).2 hm
  have hge := grownCap_ge w s.size 0 u
  have hcm := grownCap_le_maxLen w s.size 0 u hmax
  generalize grownCap w s.size 0 u = cap at *
  have hsz : (bytesRow s cap).size = cap := by
    have : s.data.size = s.size := rfl
    simp [bytesRow]; omega
  have hlen : (strBytes s).length = s.size := by
    have : s.data.size = s.size := rfl
    simp [strBytes]
  generalize ho : Obj.cells (bytesRow s cap) u ((bytesRow s cap).size, (bytesRow s cap).size + 1) = ob
  have hkeep : ∀ k, k < w.heap.size → (w.drew.alloc ob).heap[k]? = w.heap[k]? := fun k hk => Below.heap_alloc w.drew ob k hk
  have hnew : (w.drew.alloc ob).heap[w.heap.size]? = some ob := heap_alloc_new w.drew ob
  refine ⟨upd φ m (.rw w.heap.size 0 s.size cap 1), fun k => S k ∨ k = w.heap.size, ⟨upd_le hφ, ⟨fun _ h => .inl h, fun k hk => hk.imp id (fun e => by subst e; exact hs.fresh)⟩, fun k hk => hkeep k (hh.old k hk), hs.drew.alloc ob, ?_⟩, ?_⟩
  · refine hh.cons (upd_le hφ) (fun k hk => upd_ne hk) (by rw [upd_self]; simp) (fun k hk => hkeep k (hh.old k hk)) (fun _ h => .inl h) (fun k c l B hk hc hc2 hl hB => ?_) (by simp) ?_ (fun hb => by cases hb) (fun k hk => ?_)
    · obtain ⟨o1, o2, o3⟩ := hh.own k c l B hc hc2 hl hB
      exact ⟨hkeep B o2, fun hS => hS.elim o3 (fun h => by omega)⟩
    · refine ⟨strBytes_wt h8, e, he, by omega, .inl ⟨w.heap.size, 0, cap, bytesRow s cap, _, by rw [upd_self, hlen, h1], .inr rfl, by rw [hnew, ← ho], hsz, by rw [hlen, h1]; omega, ?_⟩⟩
      rw [h1]
      refine strRow_in (fun j hj => ?_)
      simp only [bytesRow]
      rw [Array.getElem?_append_left (by simpa using hj)]
      simp [hj]
    · rcases hk with hk | rfl
      · have := hh.old k hk
        simp; omega
      · simp
  · simp only [rel]
    exact .inl ⟨w.heap.size, 0, s.size, cap, 1, cap, upd_self, rfl, hge, hcm, by omega⟩

theorem convF_ok (htok : TyOk P T) (hs : Since w0 w) (hh : HOk T φ w0.Z w S hp) {s d : Nat} {va : V} {n : Option Nat} {v : V} {E : Hp} (hn : ∀ m, n = some m → look hp m = none) (h : Res P T (convF (real P T w0) T hp s d va n) v E) (hr : rel T φ w S va x) :
    ∃ xv w', (convert s d x).run P w = .ok xv w' ∧ Left T w0 φ S hp w v E xv w' := by
  have stay : ∀ {v xv}, (convert s d x).run P w = .ok xv w → rel T φ w S v xv → ∃ xv w', (convert s d x).run P w = .ok xv w' ∧ Left T w0 φ S hp w v [] xv w' := fun h1 h2 => ⟨_, w, h1, φ, S, Ext.refl hs hh, h2⟩
  unfold convF at h
  split at h
  · rename_i es ed hes hed
    have us := htok.und _ _ hes
    have ud := htok.und _ _ hed
    split at h
    · rename_i ks k hks hk
      rw [hks] at us; rw [hk] at ud
      split at h
      · rename_i k' a ha
        obtain rfl := asI_lit ha hr
        obtain ⟨rfl, rfl⟩ := res_ok h
        exact stay (by simp [convert, run_underlying us, run_underlying ud, Conv.intToInt]) (rel_si _ _)
      · rename_i k' a ha
        obtain rfl := asI_sym ha hr
        obtain ⟨rfl, rfl⟩ := res_ok h
        exact stay (by simp [convert, run_underlying us, run_underlying ud, Conv.intToInt]; rfl) (rel_i _ _)
      · exact (res_fail h).elim
    · rename_i hks hk
      rw [hks] at us; rw [hk] at ud
      split at h
      · rename_i c hc
        obtain rfl := asS_some hc hr
        obtain ⟨rfl, rfl⟩ := res_ok h
        exact stay (by simp [convert, run_underlying us, run_underlying ud]) hr
      · exact (res_fail h).elim
    · rename_i u hks hk
      rw [hks] at us; rw [hk] at ud
      split at h
      · rename_i h8
        simp only [Bool.and_eq_true, beq_iff_eq] at h8
        obtain ⟨h8, h1⟩ := h8
        obtain ⟨te, hte, htd⟩ := isU8_of h8
        have uu := htok.und _ _ hte
        rw [htd] at uu
        split at h
        · rename_i u' l hex
          split at h
          · rename_i hU
            obtain rfl : u = u' := by simpa using hU
            obtain ⟨rfl, rfl⟩ := res_ok h
            have hx := exp_ok (P := P) (w0 := w0) hh hr
            rw [hex] at hx
            exact stay (run_sl_string us uu ud h8 hx (fun e he _ => by simpa [sizeT, he] using h1)) (rel_str _)
          · exact (res_fail h).elim
        · rename_i hex
          obtain ⟨rfl, rfl⟩ := res_ok h
          have hx := exp_ok (P := P) (w0 := w0) hh hr
          rw [hex] at hx
          simp only [rel] at hx
          subst hx
          exact stay (by rw [run_convert_bytes_string w s d u none 0 0 us uu ud]; simp [Conv.bytesToString]) (rel_ss _)
        · exact (res_fail h).elim
      · exact (res_fail h).elim
    · rename_i u hks hk
      rw [hks] at us; rw [hk] at ud
      split at h
      · rename_i h8
        simp only [Bool.and_eq_true, beq_iff_eq] at h8
        obtain ⟨h8, h1⟩ := h8
        obtain ⟨te, hte, htd⟩ := isU8_of h8
        have uu := htok.und _ _ hte
        rw [htd] at uu
        split at h
        · rename_i c m hm'
          obtain rfl := asS_some hm' hr
          obtain ⟨hmax, h⟩ := res_need h
          obtain ⟨rfl, rfl⟩ := res_ok h
          refine ⟨_, _, run_bytes_of_string w s d u _ us ud uu, bytes_left hs hh (hn _ rfl) hte (by simpa [sizeT, hte] using h1) h8 ?_⟩
          simp only [real] at hmax
          simp only [maxLen]
          omega
        · exact (res_fail h).elim
      · exact (res_fail h).elim
    · exact (res_fail h).elim
  · exact (res_fail h).elim

theorem minmax_ok {l : Array Value} {vs : List V} {v : V} {E : Hp} {f : Int → Int → Int} {m : Sem Value} (h : Res P T (minmax f vs) v E) (hr : relL T φ w S vs l.toList)
    (hm : ∀ k k' a b, l = #[.int k a, .int k' b] → m.run P w = .ok (.int k (f a b)) w) : Gives P T φ w S m v E := by
  unfold minmax at h
  split at h
  · rename_i x y
    simp only [relL] at hr
    obtain ⟨x', xs, e1, r1, y', ys, e2, r2, e3⟩ := hr
    subst e3; subst e2
    have el : l = #[x', y'] := by
      apply Array.ext'
      simpa using e1
    have fin : ∀ {k k' a b}, x' = .int k a → y' = .int k' b → Res P T (.ok (.i k (f a b)) []) v E → Gives P T φ w S m v E := by
      intro k k' a b h1 h2 h3
      obtain ⟨rfl, rfl⟩ := res_ok h3
      exact ⟨rfl, _, hm k k' a b (by rw [el, h1, h2]), rel_i _ _⟩
    split at h
    · rename_i h1 h2; exact fin (asI_lit h1 r1) (asI_lit h2 r2) h
    · rename_i h1 h2; exact fin (asI_lit h1 r1) (asI_sym h2 r2) h
    · rename_i h1 h2; exact fin (asI_sym h1 r1) (asI_lit h2 r2) h
    · rename_i h1 h2; exact fin (asI_sym h1 r1) (asI_sym h2 r2) h
    · exact (res_fail h).elim
  · exact (res_fail h).elim
end
end Go.Ab
end
