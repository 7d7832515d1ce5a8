/- Texts of this seat, merged in build order. No statement of its own. -/
import Derived.Below
import Derived.Deep.Draws
import Derived.Deep.AppendLies
import Derived.Maps.AppendAt
import Derived.OwnWalk
import Derived.Laws.BytesArg
import Derived.Laws.MakeOwn
import Derived.Laws.OwnMore
import Derived.Deep.OwnRows
import Derived.Tactics
import Derived.Lib.ConvBytes
import Derived.Laws.Slices
import Derived.WalkKit
import Derived.KernelRfl
import Derived.RowKit3
import Derived.Deep.LoopGhost
import Derived.Deep.QuietTactic
import Derived.BigQuiet
import Derived.WideLaws
import Derived.Deep.DeepCutAuto
import Derived.Deep.CutBlock
import Derived.Deep.RegionHeld3
import Derived.Laws.Rows
import Derived.Lib.AppendStr
import Derived.ArgAppend
import Derived.Laws.IdiomCopy
import Derived.RowKit
import Derived.Maps.Own
import Derived.WideMake
import Derived.Laws.StructEq
import Derived.Test.YtjcabmhnekcbgaaProg
import Derived.Laws.BitsAllLaws
import Derived.Laws.Bits64
import Derived.Test.YtjcabmhnekcbgaaC4
set_option linter.unusedVariables false
set_option linter.unusedSimpArgs false
section
-- PRINTED BY print.sh 35421559b90ae4d0a3588c463048766b98c2df88dd9212a6774a882060cdf62d: not written by this session
-- PRINTED WORDS (module Derived/Print/Words.lean): go-wishes' parts 1 to 38 and go-gate-2's additions: AI agents of Go's test side, Mon Nov 16 2026; no person has read them. Plain theorems and definitions: no macro, no elab, no axiom.

namespace Go.Proofs.YtjcabmhnekcbgaaW.PrintWords
open Go.RowKit

/-- A fact that the walk's simp doesn't look into. -/
structure Aside0 (p : Prop) : Prop where mk :: (out : p)
/-- The world is the old one, some orders having been drawn. -/
structure Drawn0 (w w' : World) : Prop where mk :: (out : ∃ n, w' = w.drewN n)
theorem Drawn0.refl (w : World) : Drawn0 w w := ⟨⟨0, rfl⟩⟩
theorem Drawn0.step {w w' : World} (h : Drawn0 w w') (n : Nat) : Drawn0 w (w'.drewN n) := by
  obtain ⟨m, rfl⟩ := h
  exact ⟨⟨m + n, World.drewN_drewN ..⟩⟩
theorem Drawn0.below {w w' : World} (h : Drawn0 w w') : Below w.heap.size w w' := by
  obtain ⟨n, rfl⟩ := h
  induction n with
  | zero => exact Below.refl _ _
  | succ n ih => rw [← World.drew_drewN]; exact ih.drew

theorem below_alloc {w W : World} (h : Below w.heap.size w W) (o : Obj) : Below w.heap.size w (W.alloc o) := h.alloc h.size o
theorem grown_of_below {w w1 : World} (h : Below w.heap.size w w1) (row : Option Nat) : w.grownBy w1 row := ⟨h.os, h.tape, h.output, h.size, fun i hi _ => h.block i hi⟩
theorem pw_cell_below {w w1 : World} (h : Below w.heap.size w w1) {a : Addr} {v : Value} (hc : w.cell? a = some v) : w1.cell? a = some v := (h.cell (World.block_lt_of_cell? w a hc)).trans hc

def ReadsInt (w : World) (k : IntKind) (A : Option Addr) (n : Nat) (xs : List Int) : Prop :=
  xs.length = n ∧ n ≤ 9223372036854775807 ∧ (0 < n → ∃ ad, A = some ad ∧ ∀ j, j < n → w.cell? (ad.add j) = some (.int k (xs.getD j 0)))
theorem ReadsInt.below {w w1 : World} {k : IntKind} {A : Option Addr} {n : Nat} {xs : List Int} (h : ReadsInt w k A n xs) (hb : Below w.heap.size w w1) : ReadsInt w1 k A n xs :=
  ⟨h.1, h.2.1, fun hn => by
    obtain ⟨ad, e, hc⟩ := h.2.2 hn
    exact ⟨ad, e, fun j hj => pw_cell_below hb (hc j hj)⟩⟩

theorem own_base {w : World} {base : Nat} {e : TypeId} {size n : Nat} {v : Value} {xs : List Value} (h : w.ownsRow base e size v n xs) (k : Nat) (hk : v.ownBlock = some k) : base ≤ k := by
  rcases h.2 with ⟨rfl, _⟩ | ⟨g, cap, cur, rfl, hb, _⟩
  · simp [Value.ownBlock] at hk
  · have : g = k := by simpa [Value.ownBlock] using hk
    omega
theorem own_lt {w : World} {base : Nat} {e : TypeId} {size n : Nat} {v : Value} {xs : List Value} (h : w.ownsRow base e size v n xs) (k : Nat) (hk : v.ownBlock = some k) : k < w.heap.size := by
  rcases h.2 with ⟨rfl, _⟩ | ⟨g, cap, cur, rfl, hb, hh, _⟩
  · simp [Value.ownBlock] at hk
  · have : g = k := by simpa [Value.ownBlock] using hk
    subst this
    exact (Array.getElem?_eq_some_iff.1 hh).1
theorem pw_own_below {w w1 : World} {base : Nat} {e : TypeId} {size n : Nat} {v : Value} {xs : List Value} (h : w.ownsRow base e size v n xs) (hb : Below w.heap.size w w1) : w1.ownsRow base e size v n xs :=
  h.kept (grown_of_below hb none) (by cases v.ownBlock <;> simp)
section
variable {P : Program} {ops : Array Oper} {rest : List Oper} {o : Oper} {a : Act} {Q : Exit → Act → World → Prop}

end

section
variable {P : Program}
end
section
variable {P : Program} {ops : Array Oper} {rest : List Oper} {o : Oper} {a : Act} {Q : Exit → Act → World → Prop}
end

/-- Where the first answers, the second answers the same. -/
def LeO {α : Type} (a b : Option α) : Prop := ∀ r, a = some r → b = some r
theorem LeO.refl {α : Type} (a : Option α) : LeO a a := fun _ h => h
theorem LeO.trans {α : Type} {a b c : Option α} (h : LeO a b) (k : LeO b c) : LeO a c := fun r hr => k r (h r hr)
theorem LeO.map {α β : Type} {a a' : Option α} (f : α → β) (h : LeO a a') : LeO (a.map f) (a'.map f) := by
  intro r hr
  obtain ⟨x, hx, hf⟩ := Option.map_eq_some_iff.1 hr
  exact Option.map_eq_some_iff.2 ⟨x, h x hx, hf⟩
def Reps {α : Type} (R : α → List Value → Prop) (size : Nat) (ps : List α) (cs : List Value) : Prop :=
  cs.length = ps.length * size ∧ ∀ j p, ps[j]? = some p → R p ((cs.drop (j * size)).take size)
theorem Reps.imp_ {α : Type} {R R' : α → List Value → Prop} {size : Nat} {ps : List α} {cs : List Value} (h : Reps R size ps cs) (hR : ∀ p c, R p c → R' p c) : Reps R' size ps cs := ⟨h.1, fun j p hj => hR _ _ (h.2 j p hj)⟩

def ReadsRow {α : Type} (R : α → List Value → Prop) (size : Nat) (w : World) (A : Option Addr) (n : Nat) (ps : List α) : Prop :=
  ps.length = n ∧ n ≤ 9223372036854775807 ∧ (0 < n → ∃ ad, A = some ad ∧ ∀ j p, ps[j]? = some p → ∃ c, c.length = size ∧ R p c ∧ ∀ i u, c[i]? = some u → w.cell? (ad.add (j * size + i)) = some u)
theorem ReadsRow.imp_ {α : Type} {R R' : α → List Value → Prop} {size : Nat} {w w1 : World} {A : Option Addr} {n : Nat} {ps : List α} (h : ReadsRow R size w A n ps) (hb : Below w.heap.size w w1) (hR : ∀ p c, R p c → R' p c) : ReadsRow R' size w1 A n ps :=
  ⟨h.1, h.2.1, fun hn => by
    obtain ⟨ad, e, hc⟩ := h.2.2 hn
    refine ⟨ad, e, fun j p hj => ?_⟩
    obtain ⟨c, hs, hr, hcell⟩ := hc j p hj
    exact ⟨c, hs, hR _ _ hr, fun i u hu => pw_cell_below hb (hcell i u hu)⟩⟩
theorem own_reads_row {α : Type} {R : α → List Value → Prop} {w : World} {base n size : Nat} {e : TypeId} {v : Value} {ps : List α} {cs : List Value} (h : w.ownsRow base e size v n cs) (hR : Reps R size ps cs) (hn : ps.length = n) :
    ∃ A c, v = .slice A n c ∧ ReadsRow R size w A n ps := by
  rcases Nat.eq_zero_or_pos n with h0 | h0
  · rcases h.2 with ⟨rfl, rfl⟩ | ⟨g, cap, cur, rfl, _⟩
    · exact ⟨none, 0, rfl, hn, by omega, fun hp => absurd hp (by omega)⟩
    · exact ⟨_, cap, rfl, hn, by omega, fun hp => absurd hp (by omega)⟩
  · obtain ⟨g, cap, rfl, _, _⟩ := h.form h0
    have hm : n ≤ 9223372036854775807 := by
      rcases h.2 with ⟨_, h1⟩ | ⟨g', cap', cur, he, _, _, h1, h2, _⟩
      · omega
      · simp only [maxLen] at h2
        omega
    refine ⟨_, cap, rfl, hn, hm, fun _ => ⟨_, rfl, fun j p hj => ⟨(cs.drop (j * size)).take size, ?_, hR.2 j p hj, fun i u hu => ?_⟩⟩⟩
    · have hjl := (List.getElem?_eq_some_iff.1 hj).1
      have h1 : j * size + size ≤ cs.length := by rw [hR.1, ← Nat.succ_mul]; exact Nat.mul_le_mul_right _ hjl
      rw [List.length_take, List.length_drop]
      omega
    · refine h.cells (g := g) rfl _ u ?_
      rw [List.getElem?_take] at hu
      split at hu
      · rw [List.getElem?_drop] at hu
        exact hu
      · cases hu
section
variable {P : Program} {ops : Array Oper} {rest : List Oper} {o : Oper} {a : Act} {Q : Exit → Act → World → Prop}
end

theorem blk_lt {w : World} {g : Nat} {o : Obj} (h : w.heap[g]? = some o) : g < w.heap.size := (Array.getElem?_eq_some_iff.1 h).1
theorem blk_cell {w : World} {g : Nat} {t : TypeId} {cs : Array Value} (h : w.heap[g]? = some (.cells cs t (0, 0))) (i : Nat) : w.cell? ⟨g, i, none⟩ = cs[i]? := cell_of_row w g i cs t (0, 0) h
def KeepBut (w w' : World) (g : Nat) (row : Option Nat) : Prop := w.heap.size ≤ w'.heap.size ∧ ∀ i, i < w.heap.size → i ≠ g → some i ≠ row → w'.heap[i]? = w.heap[i]?
theorem KeepBut.refl (w : World) (g : Nat) (row : Option Nat) : KeepBut w w g row := ⟨Nat.le_refl _, fun _ _ _ _ => rfl⟩
theorem KeepBut.of_below {w w1 : World} (h : Below w.heap.size w w1) (g : Nat) (row : Option Nat) : KeepBut w w1 g row := ⟨h.size, fun i hi _ _ => h.block i hi⟩
theorem KeepBut.trans {w w1 w2 : World} {g : Nat} {row row1 : Option Nat} (h : KeepBut w w1 g row) (k : KeepBut w1 w2 g row1) (hr : row1 = row ∨ ∃ b, row1 = some b ∧ w.heap.size ≤ b) : KeepBut w w2 g row :=
  ⟨Nat.le_trans h.1 k.1, fun i hi hg hn => by
    refine (k.2 i (Nat.lt_of_lt_of_le hi h.1) hg ?_).trans (h.2 i hi hg hn)
    rcases hr with rfl | ⟨b, rfl, hb⟩
    · exact hn
    · intro e
      injection e with e
      omega⟩
/-- Another block, another row: they live on. -/
theorem KeepBut.blk {w w1 : World} {g g' : Nat} {row : Option Nat} {o : Obj} (h : KeepBut w w1 g row) (hb : w.heap[g']? = some o) (hg : g' ≠ g) (hr : some g' ≠ row) : w1.heap[g']? = some o := (h.2 g' (blk_lt hb) hg hr).trans hb
theorem KeepBut.own {w w1 : World} {g : Nat} {row : Option Nat} {base : Nat} {e : TypeId} {size n : Nat} {v : Value} {xs : List Value} (h : KeepBut w w1 g row) (ho : w.ownsRow base e size v n xs) (hg : v.ownBlock ≠ some g) (hr : v.ownBlock = none ∨ v.ownBlock ≠ row) : w1.ownsRow base e size v n xs := by
  obtain ⟨h1, h2⟩ := ho
  refine ⟨h1, ?_⟩
  rcases h2 with h2 | ⟨b, cap, cur, rfl, hb, hh, r⟩
  · exact .inl h2
  · refine .inr ⟨b, cap, cur, rfl, hb, h.blk hh ?_ ?_, r⟩
    · intro e
      exact hg (by rw [← e]; rfl)
    · rcases hr with hr | hr
      · simp [Value.ownBlock] at hr
      · exact hr
def Ev {α : Type} (g : Nat → Option α) (r : α) : Prop := ∃ K, ∀ k, K ≤ k → g k = some r
/-- One round of a loop. -/
theorem Ev.step {α : Type} {g f : Nat → Option α} {r : α} (h : ∀ k, g (k + 1) = f k) (k : Ev f r) : Ev g r := by
  obtain ⟨K, k⟩ := k
  refine ⟨K + 1, fun n hn => ?_⟩
  obtain ⟨m, rfl⟩ : ∃ m, n = m + 1 := ⟨n - 1, by omega⟩
  rw [h]
  exact k m (by omega)
section
variable {P : Program} {ops : Array Oper} {o : Oper} {a : Act} {Q : Exit → Act → World → Prop} {K : Act → World → Prop}
end
theorem own_weaken {w : World} {base base' : Nat} {e : TypeId} {size n : Nat} {v : Value} {xs : List Value} (h : w.ownsRow base e size v n xs) (hb : base' ≤ base) : w.ownsRow base' e size v n xs := by
  obtain ⟨h1, h2⟩ := h
  refine ⟨h1, ?_⟩
  rcases h2 with h2 | ⟨g, cap, cur, rfl, hg, r⟩
  · exact .inl h2
  · exact .inr ⟨g, cap, cur, rfl, Nat.le_trans hb hg, r⟩
section
variable {α : Type} {enc : α → Value} {d : α}
def ReadsOf (enc : α → Value) (d : α) (w : World) (A : Option Addr) (n : Nat) (xs : List α) : Prop :=
  xs.length = n ∧ n ≤ 9223372036854775807 ∧ (0 < n → ∃ ad, A = some ad ∧ ∀ j, j < n → w.cell? (ad.add j) = some (enc (xs.getD j d)))
theorem ReadsOf.below {w w1 : World} {A : Option Addr} {n : Nat} {xs : List α} (h : ReadsOf enc d w A n xs) (hb : Below w.heap.size w w1) : ReadsOf enc d w1 A n xs :=
  ⟨h.1, h.2.1, fun hn => by
    obtain ⟨ad, e, hc⟩ := h.2.2 hn
    exact ⟨ad, e, fun j hj => pw_cell_below hb (hc j hj)⟩⟩
end
section
variable {α : Type} {P : Program} {ops : Array Oper} {rest : List Oper} {o : Oper} {a : Act} {Q : Exit → Act → World → Prop}
end

section
variable {P : Program}
end
theorem own_le {w : World} {base n m c size : Nat} {e : TypeId} {A : Option Addr} {xs : List Value} (h : w.ownsRow base e size (.slice A m c) n xs) : m ≤ c := by
  rcases h.2 with ⟨he, _⟩ | ⟨g, cap, cur, he, _, _, hnc, _⟩
  · injection he with _ h2 h3
    omega
  · injection he with _ h2 h3
    omega
def OwnRow {α : Type} (R : α → List Value → Prop) (e : TypeId) (size : Nat) (w : World) (base : Nat) (v : Value) (ps : List α) : Prop :=
  ∃ inner, w.ownsRow base e size v ps.length inner ∧ Reps R size ps inner
section
variable {α : Type} {R R' : α → List Value → Prop} {e : TypeId} {size : Nat} {w w1 : World} {base : Nat} {v : Value} {ps : List α}
theorem OwnRow.imp_ (h : OwnRow R e size w base v ps) (hR : ∀ p c, R p c → R' p c) : OwnRow R' e size w base v ps := by
  obtain ⟨inner, ho, hr⟩ := h
  exact ⟨inner, ho, hr.imp_ hR⟩
theorem OwnRow.below (h : OwnRow R e size w base v ps) (hb : Below w.heap.size w w1) : OwnRow R e size w1 base v ps := by
  obtain ⟨inner, ho, hr⟩ := h
  exact ⟨inner, pw_own_below ho hb, hr⟩
theorem OwnRow.reads (h : OwnRow R e size w base v ps) : ∃ A c, v = .slice A ps.length c ∧ ps.length ≤ c ∧ ReadsRow R size w A ps.length ps := by
  obtain ⟨inner, ho, hr⟩ := h
  obtain ⟨A, c, rfl, hrow⟩ := own_reads_row ho hr rfl
  exact ⟨A, c, rfl, own_le ho, hrow⟩
end
section
variable {P : Program} {ops : Array Oper} {rest : List Oper} {o : Oper} {a : Act} {Q : Exit → Act → World → Prop} {α : Type} {R : α → List Value → Prop}
end
section
variable {P : Program} {ops : Array Oper} {o : Oper} {a : Act} {Q : Exit → Act → World → Prop} {K : Act → World → Prop} {α : Type} {R : α → List Value → Prop}
end
section
variable {α : Type} {P : Program}
theorem ReadsOf.len_ {enc : α → Value} {d : α} {w : World} {A : Option Addr} {n : Nat} {xs : List α} (h : ReadsOf enc d w A n xs) : ReadsOf enc d w A xs.length xs := by rw [h.1]; exact h
end

section
variable {P : Program} {ops : Array Oper} {rest : List Oper} {o : Oper} {a : Act} {Q : Exit → Act → World → Prop}
end
/-- ok: which blocks the rows inside may be ('not the row that is being written'). -/
structure Kd (α : Type) where
  sz : Nat
  E : List Nat
  K : World → α → List Value → Prop
  M : World → Nat → (Nat → Prop) → α → List Value → Prop
  K_len : ∀ {w x cs}, K w x cs → cs.length = sz
  K_one : ∀ {w x cs}, K w x cs → ∀ u ∈ cs, u.oneCell' = true
  K_below : ∀ {w w1 : World} {x cs}, Below w.heap.size w w1 → K w x cs → K w1 x cs
  K_of_M : ∀ {w base ok x cs}, M w base ok x cs → K w x cs
  M_mono : ∀ {w base ok ok' x cs}, (∀ k, ok k → ok' k) → M w base ok x cs → M w base ok' x cs
  M_bound : ∀ {w : World} {base ok x cs}, M w base ok x cs → M w base (fun k => ok k ∧ base ≤ k ∧ k < w.heap.size ∧ ∃ q, q ∈ E ∧ ∃ cells, w.heap[k]? = some (.cells cells q (0, 0))) x cs
  M_move : ∀ {w w1 : World} {base ok x cs}, (∀ k, ok k → w1.heap[k]? = w.heap[k]?) → M w base ok x cs → M w1 base ok x cs
  M_lower : ∀ {w base base' ok x cs}, base' ≤ base → M w base ok x cs → M w base' ok x cs

theorem own_move {w w1 : World} {base : Nat} {e : TypeId} {size n : Nat} {v : Value} {xs : List Value} (h : w.ownsRow base e size v n xs) (hm : ∀ k, v.ownBlock = some k → w1.heap[k]? = w.heap[k]?) : w1.ownsRow base e size v n xs := by
  obtain ⟨h1, h2⟩ := h
  refine ⟨h1, ?_⟩
  rcases h2 with h2 | ⟨g, cap, cur, rfl, hg, hh, r⟩
  · exact .inl h2
  · exact .inr ⟨g, cap, cur, rfl, hg, (hm g (by simp [Value.ownBlock])).trans hh, r⟩
theorem own_typed {w : World} {base : Nat} {e : TypeId} {size n : Nat} {v : Value} {xs : List Value} (h : w.ownsRow base e size v n xs) (k : Nat) (hk : v.ownBlock = some k) : ∃ cells, w.heap[k]? = some (.cells cells e (0, 0)) := by
  rcases h.2 with ⟨rfl, _⟩ | ⟨g, cap, cur, rfl, hg, hh, r⟩
  · simp [Value.ownBlock] at hk
  · have : g = k := by simpa [Value.ownBlock] using hk
    subst this
    exact ⟨cur, hh⟩

namespace Kd
/-- A row of elements that is read. -/
def C {α : Type} (d : Kd α) (w : World) (A : Option Addr) (n : Nat) (xs : List α) : Prop := ReadsRow (d.K w) d.sz w A n xs
/-- A row of elements (type e) of the call's own; the elements' rows are not this one. -/
def R {α : Type} (d : Kd α) (e : Nat) (w : World) (base : Nat) (ok : Nat → Prop) (v : Value) (xs : List α) : Prop :=
  (∀ k, v.ownBlock = some k → ok k) ∧ OwnRow (d.M w base (fun k => ok k ∧ some k ≠ v.ownBlock)) e d.sz w base v xs
section
variable {α : Type} {d : Kd α} {e : Nat} {w w1 : World} {base : Nat} {ok ok' : Nat → Prop} {v : Value} {xs : List α}
theorem C_below {A : Option Addr} {n : Nat} (h : d.C w A n xs) (hb : Below w.heap.size w w1) : d.C w1 A n xs := ReadsRow.imp_ h hb (fun _ _ hp => d.K_below hb hp)
theorem R_mono (h : d.R e w base ok v xs) (hok : ∀ k, ok k → ok' k) : d.R e w base ok' v xs := ⟨fun k hk => hok k (h.1 k hk), h.2.imp_ (fun _ _ hp => d.M_mono (fun k hk => ⟨hok k hk.1, hk.2⟩) hp)⟩
theorem R_bound (h : d.R e w base ok v xs) : d.R e w base (fun k => ok k ∧ base ≤ k ∧ k < w.heap.size ∧ ∃ q, q ∈ e :: d.E ∧ ∃ cells, w.heap[k]? = some (.cells cells q (0, 0))) v xs := by
  obtain ⟨h0, inner, ho, hr⟩ := h
  refine ⟨fun k hk => ?_, inner, ho, hr.imp_ (fun _ _ hp => d.M_mono (fun k hk => ?_) (d.M_bound hp))⟩
  · obtain ⟨cells, hc⟩ := own_typed ho k hk
    exact ⟨h0 k hk, own_base ho k hk, own_lt ho k hk, e, List.mem_cons_self, cells, hc⟩
  · obtain ⟨⟨h1, h2⟩, h3, h4, q, hq, hc⟩ := hk
    exact ⟨⟨h1, h3, h4, q, List.mem_cons_of_mem _ hq, hc⟩, h2⟩
theorem R_move (h : d.R e w base ok v xs) (hm : ∀ k, ok k → w1.heap[k]? = w.heap[k]?) : d.R e w1 base ok v xs := by
  obtain ⟨h0, inner, ho, hr⟩ := h
  exact ⟨h0, inner, own_move ho (fun k hk => hm k (h0 k hk)), hr.imp_ (fun _ _ hp => d.M_move (fun k hk => hm k hk.1) hp)⟩
theorem R_lower {base' : Nat} (h : d.R e w base ok v xs) (hb : base' ≤ base) : d.R e w base' ok v xs := by
  obtain ⟨h0, inner, ho, hr⟩ := h
  exact ⟨h0, inner, own_weaken ho hb, hr.imp_ (fun _ _ hp => d.M_lower hb hp)⟩
theorem R_reads (h : d.R e w base ok v xs) : ∃ A c, v = .slice A xs.length c ∧ xs.length ≤ c ∧ d.C w A xs.length xs := by
  obtain ⟨A, c, he, hl, hr⟩ := OwnRow.reads h.2
  exact ⟨A, c, he, hl, hr.imp_ (Below.refl _ _) (fun _ _ hp => d.K_of_M hp)⟩
end

def scalar {α : Type} (enc : α → Value) (h1 : ∀ x, (enc x).oneCell' = true) : Kd α where
  sz := 1
  E := []
  K := fun _ x cs => cs = [enc x]
  M := fun _ _ _ x cs => cs = [enc x]
  K_len := fun h => by rw [h]; rfl
  K_one := fun h u hu => by
    rw [h] at hu
    rw [List.mem_singleton.1 hu]
    exact h1 _
  K_below := fun _ h => h
  K_of_M := fun h => h
  M_mono := fun _ h => h
  M_bound := fun h => h
  M_move := fun _ h => h
  M_lower := fun _ h => h
def int (k : IntKind) : Kd Int := scalar (Value.int k) (fun _ => rfl)
def bool : Kd Bool := scalar Value.bool (fun _ => rfl)
def string : Kd ByteArray := scalar Value.string (fun _ => rfl)
def slice {α : Type} (e : Nat) (d : Kd α) : Kd (List α) where
  sz := 1
  E := e :: d.E
  K := fun w xs cs => ∃ A c, cs = [.slice A xs.length c] ∧ xs.length ≤ c ∧ d.C w A xs.length xs
  M := fun w base ok xs cs => ∃ v, cs = [v] ∧ d.R e w base ok v xs
  K_len := by
    rintro w x cs ⟨A, c, rfl, _⟩
    rfl
  K_one := by
    rintro w x cs ⟨A, c, rfl, _⟩ u hu
    rw [List.mem_singleton.1 hu]
    rfl
  K_below := by
    rintro w w1 x cs hb ⟨A, c, rfl, hl, hr⟩
    exact ⟨A, c, rfl, hl, C_below hr hb⟩
  K_of_M := by
    rintro w base ok x cs ⟨v, rfl, h⟩
    obtain ⟨A, c, rfl, hl, hr⟩ := R_reads h
    exact ⟨A, c, rfl, hl, hr⟩
  M_mono := by
    rintro w base ok ok' x cs hok ⟨v, rfl, h⟩
    exact ⟨v, rfl, R_mono h hok⟩
  M_bound := by
    rintro w base ok x cs ⟨v, rfl, h⟩
    exact ⟨v, rfl, R_bound h⟩
  M_move := by
    rintro w w1 base ok x cs hm ⟨v, rfl, h⟩
    exact ⟨v, rfl, R_move h hm⟩
  M_lower := by
    rintro w base base' ok x cs hb ⟨v, rfl, h⟩
    exact ⟨v, rfl, R_lower h hb⟩
/-- Nothing is of this kind: where the nesting's depth is used up. -/
def bot {α : Type} (sz : Nat) (E : List Nat) : Kd α where
  sz := sz
  E := E
  K := fun _ _ _ => False
  M := fun _ _ _ _ _ => False
  K_len := fun h => h.elim
  K_one := fun h => h.elim
  K_below := fun _ h => h
  K_of_M := fun h => h
  M_mono := fun _ h => h
  M_bound := fun h => h
  M_move := fun _ h => h
  M_lower := fun _ h => h
/-- A type nested in itself: nested at most n deep .. -/
def upto {α : Type} (F : Kd α → Kd α) (sz : Nat) (E : List Nat) : Nat → Kd α
  | 0 => bot sz E
  | n + 1 => F (upto F sz E n)
section
variable {P : Program} {ops : Array Oper} {rest : List Oper} {o : Oper} {a : Act} {Q : Exit → Act → World → Prop} {α : Type}
end
section
variable {P : Program} {ops : Array Oper} {o : Oper} {a : Act} {Q : Exit → Act → World → Prop} {Kc : Act → World → Prop} {α : Type}
end
end Kd
namespace Kd
section
variable {α : Type} {F : Kd α → Kd α} {sz : Nat} {E : List Nat} {hs : ∀ n, (upto F sz E n).sz = sz} {hE : ∀ n q, q ∈ (upto F sz E n).E → q ∈ E}
end
end Kd
namespace Kd
end Kd
namespace Kd
section
variable {α β : Type} {d : Kd α} {d' : Kd β} {e e' : Nat} {w w1 W : World} {base b b' : Nat} {ok ok' okv oku : Nat → Prop} {v u : Value} {xs : List α} {ys : List β}
end
section
variable {w W : World} {A : Option Addr} {n : Nat}
variable {α : Type} {enc : α → Value} {h1 : ∀ x, (enc x).oneCell' = true} {e base g cap : Nat} {ok : Nat → Prop} {xs : List α}
end

section
variable {P : Program} {ops : Array Oper} {rest : List Oper} {o : Oper} {a : Act} {Q : Exit → Act → World → Prop}
variable {α : Type}
end
end Kd
section
variable {P : Program}
end
/-- A row of one's own that may begin inside its block. -/
def QRow (w : World) (base : Nat) (e : TypeId) (size : Nat) (v : Value) (n : Nat) (xs : List Value) : Prop :=
  xs.length = n * size ∧
  ((n = 0 ∧ ∃ A, v = .slice A 0 0 ∧ ∀ a, A = some a → base ≤ a.block ∧ ∃ cur, w.heap[a.block]? = some (.cells cur e (0, 0))) ∨
   ∃ g off cap cur, v = .slice (some ⟨g, off * size, none⟩) n cap ∧ base ≤ g ∧ w.heap[g]? = some (.cells cur e (0, 0)) ∧ n ≤ cap ∧ off + cap ≤ maxLen ∧ cur.size = (off + cap) * size ∧ (cur.toList.drop (off * size)).take (n * size) = xs)
section
variable {w w1 : World} {base n size : Nat} {e : TypeId} {v : Value} {xs : List Value}
end
section
variable {P : Program}
end
namespace Kd
def Q {α : Type} (d : Kd α) (e : Nat) (w : World) (base : Nat) (ok : Nat → Prop) (v : Value) (xs : List α) : Prop :=
  (∀ k, v.ownBlock = some k → ok k) ∧ ∃ inner, QRow w base e d.sz v xs.length inner ∧ Reps (d.M w base (fun k => ok k ∧ some k ≠ v.ownBlock)) d.sz xs inner
section
variable {α : Type} {d : Kd α} {e : Nat} {w w1 W : World} {base : Nat} {ok ok' : Nat → Prop} {v : Value} {xs : List α}
end
section
variable {P : Program} {ops : Array Oper} {rest : List Oper} {o : Oper} {a : Act} {Q' : Exit → Act → World → Prop} {Kc : Act → World → Prop} {α : Type}
end
end Kd
namespace Kd
section
variable {α : Type} {d : Kd α} {e e' : Nat} {w w1 W : World} {base : Nat} {ok : Nat → Prop} {u v : Value} {xs : List α}
end
end Kd
namespace Kd
section
variable {α : Type} {d : Kd α} {e base g n cap : Nat} {ok okp : Nat → Prop} {W : World} {xs : List α}
end
end Kd
namespace Kd
section
variable {α : Type} {F : Kd α → Kd α} {sz : Nat} {E : List Nat} {hs : ∀ n, (upto F sz E n).sz = sz} {hE : ∀ n q, q ∈ (upto F sz E n).E → q ∈ E}
end
end Kd
namespace Kd
section
variable {P : Program} {ops : Array Oper} {rest : List Oper} {o : Oper} {a : Act} {Q : Exit → Act → World → Prop} {α : Type}
end
end Kd
namespace Kd
section
variable {P : Program} {ops : Array Oper} {rest : List Oper} {o : Oper} {a : Act} {Q : Exit → Act → World → Prop} {α : Type}
end
end Kd
theorem add_add (a : Addr) (i j : Nat) : (a.add i).add j = a.add (i + j) := by
  unfold Addr.add
  by_cases h1 : i = 0 <;> by_cases h2 : j = 0 <;> simp [h1, h2, Nat.add_assoc]
namespace Kd
section
variable {α : Type} {k : Kd α} {w : World} {A : Option Addr} {xs : List α} {m c : Nat}
end
end Kd
section
variable {P : Program}
end
theorem ReadsInt.drewN {W : World} {k : IntKind} {A : Option Addr} {n : Nat} {xs : List Int} (h : ReadsInt W k A n xs) (m : Nat) : ReadsInt (W.drewN m) k A n xs := h
theorem ReadsOf.drewN {α : Type} {enc : α → Value} {d : α} {W : World} {A : Option Addr} {n : Nat} {xs : List α} (h : ReadsOf enc d W A n xs) (m : Nat) : ReadsOf enc d (W.drewN m) A n xs := h
namespace Kd
section
variable {α β : Type} {d : Kd α} {d' : Kd β} {e e' base base' n : Nat} {ok ok' : Nat → Prop} {w W w1 W1 : World} {v u : Value} {xs : List α} {ys : List β} {A : Option Addr} {c : Nat}
end
section
variable {α : Type} {enc : α → Value} {h1 : ∀ x, (enc x).oneCell' = true} {w W : World} {A : Option Addr} {n g : Nat} {xs : List α}
end
end Kd
namespace Kd
section
variable {α : Type} {d : Kd α} {e base g : Nat} {ok : Nat → Prop} {w w1 : World} {v : Value} {xs : List α} {o : Obj}
end
end Kd
section
variable {P : Program} {ops : Array Oper} {rest : List Oper} {o : Oper} {a : Act} {Q : Exit → Act → World → Prop}
end
namespace Kd
section
variable {α : Type} {enc : α → Value} {h1 : ∀ x, (enc x).oneCell' = true} {e base g n cap : Nat} {ok : Nat → Prop} {W : World} {xs : List α}
end
end Kd
section
variable {P : Program} {ops : Array Oper} {rest : List Oper} {o : Oper} {a : Act} {Q : Exit → Act → World → Prop}
end
namespace Kd
section
variable {α : Type} {enc : α → Value} {h1 : ∀ x, (enc x).oneCell' = true} {e base g n cap : Nat} {ok : Nat → Prop} {W : World} {xs : List α}
end
end Kd
section
variable {P : Program} {ops : Array Oper} {rest : List Oper} {o : Oper} {a : Act} {Q : Exit → Act → World → Prop} {W : World}
end
section
variable {P : Program} {ops : Array Oper} {o : Oper} {a : Act} {Q : Exit → Act → World → Prop} {Kc : Act → World → Prop}
namespace Kd
variable {α : Type}
end Kd
end
section
variable {P : Program} {tmps : Array Value} {w : World}
end
namespace Kd
section
variable {P : Program} {α : Type}
end
section
variable {P : Program} {ops : Array Oper} {rest : List Oper} {o : Oper} {a : Act} {Q : Exit → Act → World → Prop} {Kc : Act → World → Prop} {α : Type}
end
end Kd

end Go.Proofs.YtjcabmhnekcbgaaW.PrintWords
end
section
-- PRINTED BY print.sh 35421559b90ae4d0a3588c463048766b98c2df88dd9212a6774a882060cdf62d: not written by this session

namespace Go.Proofs.YtjcabmhnekcbgaaW.PrintLast
open Go.Proofs.YtjcabmhnekcbgaaW.PrintWords (Aside0)
def needsOf (md : Region.Mode) (o : Oper) : List Nat := (o.after.toList.filter (fun e => Region.binds md e)).map (fun e => e.on)
def clashOf (md : Region.Mode) (ops : Array Oper) (i : Nat) (oi : Oper) : List Nat := (List.range ops.size).filter fun j => !(j == i) && match ops[j]? with
  | some oj => !(oj.after.any (fun e => Region.binds md e && e.on == i) || oi.apart ops oj)
  | none => false
/-- No select in it; for each operation: what must have come up before it, and what may not come up behind it if it is taken first. -/
def rtab (md : Region.Mode) (ops : Array Oper) : Bool × List (List Nat × List Nat) := (Region.noSelect ops, (List.range ops.size).map fun i => match ops[i]? with
  | some o => (needsOf md o, clashOf md ops i o)
  | none => ([], []))
def readyAt (T : List (List Nat × List Nat)) (l : List Bool) (i : Nat) : Bool := !l.getD i true && match T[i]? with
  | some r => r.1.all (fun j => l.getD j false)
  | none => false
def readyT (T : List (List Nat × List Nat)) (l : List Bool) : List Nat := (List.range T.length).filter (readyAt T l)
def freeT (T : List (List Nat × List Nat)) (l : List Bool) (i : Nat) : Bool := match T[i]? with
  | some r => r.2.all (fun j => l.getD j true)
  | none => false
section
variable {md : Region.Mode} {ops : Array Oper} {T : Bool × List (List Nat × List Nat)} {l l' li lj lk : Array Bool} {ds : List Nat} {i j k : Nat}
theorem gd (l : Array Bool) (j : Nat) (b : Bool) : l.getD j b = l.toList.getD j b := by simp [Array.getD_eq_getD_getElem?, List.getD_eq_getElem?_getD]
theorem needs_all (o : Oper) (p : Nat → Bool) : o.after.all (fun e => !Region.binds md e || p e.on) = (needsOf md o).all p := by
  unfold needsOf
  rw [← Array.all_toList]
  induction o.after.toList with
  | nil => rfl
  | cons e r ih =>
    rw [List.all_cons, ih, List.filter_cons]
    cases h : Region.binds md e <;> simp
theorem rtab_length : (rtab md ops).2.length = ops.size := by simp [rtab]
theorem rtab_some {o : Oper} (h : ops[i]? = some o) : (rtab md ops).2[i]? = some (needsOf md o, clashOf md ops i o) := by
  have hi := (Array.getElem?_eq_some_iff.1 h).1
  unfold rtab
  rw [List.getElem?_map, List.getElem?_range hi, Option.map_some, h]
theorem rtab_none (h : ops[i]? = none) : (rtab md ops).2[i]? = none := by
  have hi : ops.size ≤ i := Array.getElem?_eq_none_iff.1 h
  exact List.getElem?_eq_none (by rw [rtab_length]; exact hi)
theorem readyAt_eq : readyAt (rtab md ops).2 l.toList i = (!l.getD i true && ((ops[i]?).map (·.after.all fun e => !Region.binds md e || l.getD e.on false)).getD false) := by
  unfold readyAt
  rw [gd]
  cases h : ops[i]? with
  | none => rw [rtab_none h]; rfl
  | some o =>
    rw [rtab_some h]
    simp only [Option.map_some, Option.getD_some]
    rw [← needs_all]
    simp only [gd]
theorem ready_eq : Region.ready md ops l = readyT (rtab md ops).2 l.toList := by
  unfold Region.ready readyT
  rw [rtab_length]
  refine List.filter_congr (fun i _ => ?_)
  rw [readyAt_eq]
theorem free_eq : Region.free md ops l i = freeT (rtab md ops).2 l.toList i := by
  unfold Region.free freeT
  cases h : ops[i]? with
  | none => rw [rtab_none h]
  | some oi =>
    rw [rtab_some h]
    simp only [clashOf]
    rw [List.all_filter]
    congr 1
    funext j
    rw [gd]
    cases hj : ops[j]? with
    | none => cases (j == i) <;> cases (l.toList.getD j true) <;> simp
    | some oj =>
      cases (j == i) <;> cases (l.toList.getD j true) <;> cases (oj.after.any (fun e => Region.binds md e && e.on == i) || oi.apart ops oj) <;> simp_all
theorem readyAt_mem (h : readyAt T.2 l.toList i = true) (hT : rtab md ops = T) : (Region.ready md ops l).contains i = true := by
  subst hT
  rw [ready_eq]
  unfold readyT
  rw [List.contains_iff_mem, List.mem_filter, List.mem_range]
  refine ⟨?_, h⟩
  unfold readyAt at h
  rw [Bool.and_eq_true] at h
  cases hq : (rtab md ops).2[i]? with
  | none => rw [hq] at h; simp at h
  | some r => exact (List.getElem?_eq_some_iff.1 hq).1
theorem set_of (h : (l.toList.set i true == l'.toList) = true) : (l.setIfInBounds i true == l') = true := by
  rw [beq_iff_eq] at h ⊢
  apply Array.ext'
  rw [Array.toList_setIfInBounds]
  exact h
def anyT (T : Bool × List (List Nat × List Nat)) (l l' : List Bool) (i : Nat) : Bool := T.1 && freeT T.2 l i && readyAt T.2 l i && (l.set i true == l')
/-- pure_'s condition out of the table. -/
theorem any_of (hT : rtab md ops = T) (h : anyT T l.toList l'.toList i = true) : anyB md ops l l' i = true := by
  simp only [anyT, Bool.and_eq_true] at h
  obtain ⟨⟨⟨h1, h2⟩, h3⟩, h4⟩ := h
  have h5 := readyAt_mem h3 hT
  have h6 := set_of h4
  subst hT
  simp only [anyB, Bool.and_eq_true]
  exact ⟨⟨⟨h1, by rw [free_eq]; exact h2⟩, h5⟩, h6⟩
/-- one_'s and last_'s. -/
theorem one_of (hT : rtab md ops = T) (h : (readyT T.2 l.toList == [i] && l.toList.set i true == l'.toList) = true) : readyB md ops l l' i = true := by
  simp only [Bool.and_eq_true] at h
  obtain ⟨h1, h2⟩ := h
  subst hT
  simp only [readyB, Bool.and_eq_true]
  exact ⟨by rw [ready_eq]; exact h1, set_of h2⟩
/-- What d waits for, as_ bits: told in the table (B), checked in one pass: each bit is a need of d, or a bit of an earlier need's. -/
def upM (B : List Nat) (d : Nat) : List Nat → Nat
  | [] => 0
  | n :: r => (2 ^ n ||| (if n < d then B.getD n 0 else 0)) ||| upM B d r
def waitsOk (T : List (List Nat × List Nat)) (B : List Nat) : Bool := (List.range T.length).all fun d => match T[d]? with
  | some r => (B.getD d 0 ||| upM B d r.1) == upM B d r.1
  | none => false
theorem upM_bit {B : List Nat} {d i : Nat} : ∀ {ns : List Nat}, (upM B d ns).testBit i = true → ∃ n ∈ ns, n = i ∨ (n < d ∧ (B.getD n 0).testBit i = true)
  | [], h => by simp [upM] at h
  | n :: r, h => by
    unfold upM at h
    rw [Nat.testBit_or, Nat.testBit_or, Bool.or_eq_true, Bool.or_eq_true] at h
    rcases h with (h | h) | h
    · rw [Nat.testBit_two_pow] at h
      exact ⟨n, List.mem_cons_self, .inl (by simpa using h)⟩
    · by_cases hn : n < d
      · rw [if_pos hn] at h
        exact ⟨n, List.mem_cons_self, .inr ⟨hn, h⟩⟩
      · rw [if_neg hn] at h
        simp at h
    · obtain ⟨m, hm, h2⟩ := upM_bit h
      exact ⟨m, List.mem_cons_of_mem _ hm, h2⟩
theorem with_tabW {P : Program} {Q : Exit → Act → World → Prop} {S : World → Prop} {n : Nat} {a : Act} {w : World} {B : List Nat} (hT : rtab md ops = T) (hB : waitsOk T.2 B = true) (h : Aside0 (rtab md ops = T) → Aside0 (waitsOk T.2 B = true) → wpAnyLast P md ops Q S ds n l a w) : wpAnyLast P md ops Q S ds n l a w := h ⟨hT⟩ ⟨hB⟩
end
/-- The operations of a region, by its number. -/
def opsIn : Code → Nat → Option (Array Oper)
  | .region id ops _, k => if id == k then some ops else none
  | .seq a b, k => match opsIn a k with
    | some o => some o
    | none => opsIn b k
  | .cond _ a b, k => match opsIn a k with
    | some o => some o
    | none => opsIn b k
  | .block _ c, k => opsIn c k
  | .loop c, k => opsIn c k
  | .scope c, k => opsIn c k
  | .rangeFunc _ _ a b, k => match opsIn a k with
    | some o => some o
    | none => opsIn b k
  | _, _ => none
def opsOf (f : Func) (k : Nat) : Array Oper := ((f.body.bind fun c => opsIn c k)).getD #[]
end Go.Proofs.YtjcabmhnekcbgaaW.PrintLast
end
section
-- PRINTED BY print.sh 35421559b90ae4d0a3588c463048766b98c2df88dd9212a6774a882060cdf62d: not written by this session

namespace Go.Proofs.YtjcabmhnekcbgaaW.PrintLast
/-- Number i is listed too. -/
def up (b : Nat → Bool) (i : Nat) : Nat → Bool := fun j => if j = i then true else b j
theorem up_self (b : Nat → Bool) (i : Nat) : up b i i = true := by simp [up]
theorem up_ne {b : Nat → Bool} {i j : Nat} (h : j ≠ i) : up b i j = b j := by simp [up, h]
/-- What is listed: O's operations by b, all else already. -/
def lof (n : Nat) (O : List Nat) (b : Nat → Bool) : List Bool := (List.range n).map fun j => if O.contains j then b j else true
/-- The destinations of what is listed are filled. -/
def putSel (a : Act) (b : Nat → Bool) : List (Nat × Tmp × Value) → Act
  | [] => a
  | e :: r => putSel (if b e.1 = true then a.put (some e.2.1) e.2.2 else a) b r
section
variable {P : Program} {ops : Array Oper} {Q : Exit → Act → World → Prop} {md : Region.Mode} {T : Bool × List (List Nat × List Nat)} {B : List Nat} {O : List Nat} {b : Nat → Bool} {i j n : Nat}
theorem lof_length : (lof n O b).length = n := by simp [lof]
theorem lof_get {d : Bool} (hj : j < n) : (lof n O b).getD j d = if O.contains j then b j else true := by
  simp [lof, List.getD_eq_getElem?_getD, hj]
theorem lof_up (hi : O.contains i = true) : (lof n O b).set i true = lof n O (up b i) := by
  apply List.ext_getElem?
  intro j
  by_cases hj : j < n
  · by_cases hij : i = j
    · subst hij
      have hl : i < (lof n O b).length := by rw [lof_length]; exact hj
      rw [List.getElem?_set_self hl]
      simp only [lof, List.getElem?_map, List.getElem?_range hj, Option.map_some, hi, if_true, up_self]
    · rw [List.getElem?_set_ne hij]
      simp only [lof, List.getElem?_map, List.getElem?_range hj, Option.map_some]
      rw [up_ne (Ne.symm hij)]
  · rw [List.getElem?_eq_none (by simp [lof]; omega), List.getElem?_eq_none (by simp [lof]; omega)]
/-- The step of operation i: out of the relation, it not being listed, all it waits for being so, and nothing that waits for it. -/
def StepAt (P : Program) (ops : Array Oper) (Q : Exit → Act → World → Prop) (B : List Nat) (O : List Nat) (I : (Nat → Bool) → Act → World → Prop) (i : Nat) : Prop :=
  ∀ b a w, I b a w → b i = false → (∀ j, (O.contains j && (B.getD i 0).testBit j) = true → b j = true) → (∀ d, (O.contains d && (B.getD d 0).testBit i) = true → b d = false) →
    ∃ oi, ops[i]? = some oi ∧ ∀ K : Act → World → Prop, Shut (∀ a' w', I (up b i) a' w' → K a' w') → if Region.wanted oi (yielded ops a.tmps) = true then Oper.wp P oi a w K Q else K (a.put oi.dst undef) w
theorem steps_nil {I : (Nat → Bool) → Act → World → Prop} : ∀ i ∈ ([] : List Nat), StepAt P ops Q B O I i := fun _ h => by cases h
theorem steps_cons {I : (Nat → Bool) → Act → World → Prop} {rs : List Nat} (h : StepAt P ops Q B O I i) (hs : ∀ j ∈ rs, StepAt P ops Q B O I j) : ∀ j ∈ i :: rs, StepAt P ops Q B O I j := fun j hj => by
  rcases List.mem_cons.1 hj with rfl | hj
  · exact h
  · exact hs j hj
/-- Every edge goes to an earlier operation; what is listed already waits for nothing of O; O's numbers are the region's, each once. -/
def baseOk (T : List (List Nat × List Nat)) (O : List Nat) : Bool :=
  (List.range T.length).all (fun d => match T[d]? with
    | some r => (O.contains d || r.1.all fun n => !O.contains n) && r.1.all fun n => decide (n < d)
    | none => false) && O.all (fun i => decide (i < T.length)) && decide O.Nodup
theorem baseOk_row {T : List (List Nat × List Nat)} (h : baseOk T O = true) {d : Nat} {r : List Nat × List Nat} (hr : T[d]? = some r) : (O.contains d = false → ∀ n ∈ r.1, O.contains n = false) ∧ ∀ n ∈ r.1, n < d := by
  simp only [baseOk, Bool.and_eq_true] at h
  have h1 := List.all_eq_true.1 h.1.1 d (List.mem_range.2 (List.getElem?_eq_some_iff.1 hr).1)
  rw [hr] at h1
  simp only [Bool.and_eq_true, Bool.or_eq_true, List.all_eq_true, decide_eq_true_eq] at h1
  refine ⟨fun hd n hn => ?_, h1.2⟩
  rcases h1.1 with h2 | h2
  · rw [hd] at h2; cases h2
  · simpa using h2 n hn
theorem baseOk_lt {T : List (List Nat × List Nat)} (h : baseOk T O = true) {i : Nat} (hi : i ∈ O) : i < T.length := by
  simp only [baseOk, Bool.and_eq_true] at h
  simpa using List.all_eq_true.1 h.1.2 i hi
theorem baseOk_nodup {T : List (List Nat × List Nat)} (h : baseOk T O = true) : O.Nodup := by
  simp only [baseOk, Bool.and_eq_true] at h
  exact of_decide_eq_true h.2
def Closed (T : List (List Nat × List Nat)) (O : List Nat) (b : Nat → Bool) : Prop := ∀ d r, T[d]? = some r → O.contains d = true → b d = true → ∀ n ∈ r.1, O.contains n = true → b n = true
/-- What waits for nothing of O has none of it in its bits. -/
theorem bits_out {T : List (List Nat × List Nat)} (hw : waitsOk T B = true) (hk : baseOk T O = true) : ∀ (m d : Nat), d ≤ m → d < T.length → O.contains d = false → ∀ j, (B.getD d 0).testBit j = true → O.contains j = false := by
  intro m
  induction m with
  | zero =>
    intro d hd hl hO j hj
    have hd0 : d = 0 := by omega
    subst hd0
    have hr : T[0]? = some T[0] := List.getElem?_eq_getElem hl
    have h1 := List.all_eq_true.1 hw 0 (List.mem_range.2 hl)
    rw [hr] at h1
    simp only [beq_iff_eq] at h1
    have h2 : (upM B 0 T[0].1).testBit j = true := by rw [← h1, Nat.testBit_or, hj, Bool.true_or]
    obtain ⟨n, hn, h3⟩ := upM_bit h2
    have := (baseOk_row hk hr).2 n hn
    omega
  | succ m ih =>
    intro d hd hl hO j hj
    have hr : T[d]? = some T[d] := List.getElem?_eq_getElem hl
    have h1 := List.all_eq_true.1 hw d (List.mem_range.2 hl)
    rw [hr] at h1
    simp only [beq_iff_eq] at h1
    have h2 : (upM B d T[d].1).testBit j = true := by rw [← h1, Nat.testBit_or, hj, Bool.true_or]
    obtain ⟨n, hn, h3⟩ := upM_bit h2
    have hO2 := (baseOk_row hk hr).1 hO n hn
    rcases h3 with rfl | ⟨h4, h5⟩
    · exact hO2
    · exact ih n (by omega) (by omega) hO2 j h5
theorem closed_bits {T : List (List Nat × List Nat)} (hw : waitsOk T B = true) (hk : baseOk T O = true) (hc : Closed T O b) : ∀ (m d : Nat), d ≤ m → d < T.length → O.contains d = true → b d = true → ∀ j, O.contains j = true → (B.getD d 0).testBit j = true → b j = true := by
  intro m
  induction m with
  | zero =>
    intro d hd hl hO hb j hjO hj
    have hd0 : d = 0 := by omega
    subst hd0
    have hr : T[0]? = some T[0] := List.getElem?_eq_getElem hl
    have h1 := List.all_eq_true.1 hw 0 (List.mem_range.2 hl)
    rw [hr] at h1
    simp only [beq_iff_eq] at h1
    have h2 : (upM B 0 T[0].1).testBit j = true := by rw [← h1, Nat.testBit_or, hj, Bool.true_or]
    obtain ⟨n, hn, h3⟩ := upM_bit h2
    have := (baseOk_row hk hr).2 n hn
    omega
  | succ m ih =>
    intro d hd hl hO hb j hjO hj
    have hr : T[d]? = some T[d] := List.getElem?_eq_getElem hl
    have h1 := List.all_eq_true.1 hw d (List.mem_range.2 hl)
    rw [hr] at h1
    simp only [beq_iff_eq] at h1
    have h2 : (upM B d T[d].1).testBit j = true := by rw [← h1, Nat.testBit_or, hj, Bool.true_or]
    obtain ⟨n, hn, h3⟩ := upM_bit h2
    rcases h3 with rfl | ⟨h4, h5⟩
    · exact hc d _ hr hO hb n hn hjO
    · cases hO2 : O.contains n with
      | true => exact ih n (by omega) (by omega) hO2 (hc d _ hr hO hb n hn hO2) j hjO h5
      | false =>
        have := bits_out hw hk n n (Nat.le_refl _) (by omega) hO2 j h5
        rw [hjO] at this
        cases this
theorem up_count : ∀ {O : List Nat}, O.Nodup → i ∈ O → b i = false → (O.filter fun j => !up b i j).length + 1 = (O.filter fun j => !b j).length
  | [], _, hi, _ => by cases hi
  | x :: r, hn, hi, hb => by
    rw [List.nodup_cons] at hn
    rcases List.mem_cons.1 hi with rfl | hi
    · have h1 : (r.filter fun j => !up b i j) = r.filter fun j => !b j := by
        refine List.filter_congr (fun j hj => ?_)
        rw [up_ne (fun e => hn.1 (by rw [← e]; exact hj))]
      rw [List.filter_cons, List.filter_cons]
      simp [up_self, hb, h1]
    · have hxi : x ≠ i := fun e => hn.1 (e ▸ hi)
      have h1 := up_count hn.2 hi hb
      rw [List.filter_cons, List.filter_cons, up_ne hxi]
      cases hbx : b x
      · simp only [Bool.not_false, if_true, List.length_cons]
        omega
      · simpa using h1
theorem inv_all (hT : rtab md ops = T) (hw : waitsOk T.2 B = true) (hk : baseOk T.2 O = true) (I : (Nat → Bool) → Act → World → Prop) (hs : ∀ i ∈ O, StepAt P ops Q B O I i)
    (hend : ∀ b a w, (∀ j, O.contains j = true → b j = true) → I b a w → Q .normal a w) :
    ∀ (m : Nat) (b : Nat → Bool) (a : Act) (w : World), (O.filter fun j => !b j).length = m → Closed T.2 O b → I b a w → wpAnyLast P md ops Q (fun _ => True) [] m (lof T.2.length O b).toArray a w := by
  subst hT
  have mem_ready' : ∀ {b : Nat → Bool} {i : Nat}, i ∈ Region.ready md ops (lof (rtab md ops).2.length O b).toArray → i < (rtab md ops).2.length ∧ O.contains i = true ∧ b i = false ∧ ∀ r, (rtab md ops).2[i]? = some r → ∀ n ∈ r.1, n < (rtab md ops).2.length → O.contains n = true → b n = true := by
    intro b i hi
    rw [ready_eq] at hi
    unfold readyT at hi
    rw [List.mem_filter, List.mem_range] at hi
    obtain ⟨hl, h1⟩ := hi
    unfold readyAt at h1
    rw [Bool.and_eq_true, lof_get hl] at h1
    obtain ⟨h2, h3⟩ := h1
    have h4 : O.contains i = true := by
      cases h : O.contains i with
      | true => rfl
      | false => rw [h] at h2; simp at h2
    rw [h4] at h2
    refine ⟨hl, h4, by simpa using h2, fun r hr n hn hnl hO => ?_⟩
    rw [hr] at h3
    simp only [List.all_eq_true] at h3
    have h5 := h3 n hn
    rw [lof_get hnl, hO] at h5
    simpa using h5
  intro m
  induction m with
  | zero =>
    intro b a w hm hc hI
    have hall : ∀ j, O.contains j = true → b j = true := by
      intro j hj
      cases hb : b j with
      | true => rfl
      | false =>
        have : j ∈ O.filter fun j => !b j := List.mem_filter.2 ⟨List.contains_iff_mem.1 hj, by simp [hb]⟩
        rw [List.eq_nil_of_length_eq_zero hm] at this
        cases this
    refine ⟨?_, hend b a w hall hI⟩
    refine List.eq_nil_iff_forall_not_mem.2 (fun i hi => ?_)
    obtain ⟨_, h1, h2, _⟩ := mem_ready' hi
    rw [hall i h1] at h2
    cases h2
  | succ m ih =>
    intro b a w hm hc hI
    refine ⟨fun hr => ?_, fun i hi => ?_⟩
    · exfalso
      -- the smallest number that isn't listed is ready
      have hex : ∃ i, O.contains i = true ∧ b i = false := by
        cases hf : O.filter (fun j => !b j) with
        | nil => rw [hf] at hm; simp at hm
        | cons x r =>
          have hx : x ∈ O.filter (fun j => !b j) := by rw [hf]; exact List.mem_cons_self
          rw [List.mem_filter] at hx
          exact ⟨x, List.contains_iff_mem.2 hx.1, by simpa using hx.2⟩
      have hmin : ∀ k, (∃ i, i ≤ k ∧ O.contains i = true ∧ b i = false) → ∃ i, O.contains i = true ∧ b i = false ∧ ∀ j, j < i → O.contains j = true → b j = true := by
        intro k
        induction k with
        | zero =>
          rintro ⟨i, hi, h1, h2⟩
          exact ⟨i, h1, h2, fun j hj => by omega⟩
        | succ k ihk =>
          rintro ⟨i, hi, h1, h2⟩
          by_cases hlow : ∃ j, j ≤ k ∧ O.contains j = true ∧ b j = false
          · exact ihk hlow
          · refine ⟨i, h1, h2, fun j hj hO => ?_⟩
            cases hb : b j with
            | true => rfl
            | false => exact absurd ⟨j, by omega, hO, hb⟩ hlow
      obtain ⟨i0, h1, h2⟩ := hex
      obtain ⟨i, hO, hb, hlow⟩ := hmin i0 ⟨i0, Nat.le_refl _, h1, h2⟩
      have hl := baseOk_lt hk (List.contains_iff_mem.1 hO)
      have hin : i ∈ Region.ready md ops (lof (rtab md ops).2.length O b).toArray := by
        rw [ready_eq]
        unfold readyT
        rw [List.mem_filter, List.mem_range]
        refine ⟨hl, ?_⟩
        unfold readyAt
        rw [lof_get hl, hO, hb]
        have hr2 : (rtab md ops).2[i]? = some (rtab md ops).2[i] := List.getElem?_eq_getElem hl
        rw [hr2]
        simp only [if_true, Bool.not_false, Bool.true_and, List.all_eq_true]
        intro n hn
        have hni := (baseOk_row hk hr2).2 n hn
        rw [lof_get (by omega)]
        cases hOn : O.contains n with
        | true => simpa using hlow n hni hOn
        | false => simp
      rw [hr] at hin
      cases hin
    · obtain ⟨hl, hO, hb, hneed⟩ := mem_ready' hi
      have hon : ∀ j, (O.contains j && (B.getD i 0).testBit j) = true → b j = true := by
        intro j hj
        rw [Bool.and_eq_true] at hj
        have hr2 : (rtab md ops).2[i]? = some (rtab md ops).2[i] := List.getElem?_eq_getElem hl
        have h1 := List.all_eq_true.1 hw i (List.mem_range.2 hl)
        rw [hr2] at h1
        simp only [beq_iff_eq] at h1
        have h2 : (upM B i (rtab md ops).2[i].1).testBit j = true := by rw [← h1, Nat.testBit_or, hj.2, Bool.true_or]
        obtain ⟨n, hn, h3⟩ := upM_bit h2
        have hni := (baseOk_row hk hr2).2 n hn
        rcases h3 with rfl | ⟨h4, h5⟩
        · exact hneed _ hr2 n hn (by omega) hj.1
        · cases hO2 : O.contains n with
          | true => exact closed_bits hw hk hc n n (Nat.le_refl _) (by omega) hO2 (hneed _ hr2 n hn (by omega) hO2) j hj.1 h5
          | false =>
            have := bits_out hw hk n n (Nat.le_refl _) (by omega) hO2 j h5
            rw [hj.1] at this
            cases this
      have hoff : ∀ d, (O.contains d && (B.getD d 0).testBit i) = true → b d = false := by
        intro d hd
        rw [Bool.and_eq_true] at hd
        cases hbd : b d with
        | false => rfl
        | true =>
          have hdl := baseOk_lt hk (List.contains_iff_mem.1 hd.1)
          have := closed_bits hw hk hc d d (Nat.le_refl _) hdl hd.1 hbd i hO hd.2
          rw [hb] at this
          cases this
      obtain ⟨oi, hoi, hK⟩ := hs i (List.contains_iff_mem.1 hO) b a w hI hb hon hoff
      refine wpOp_step hoi (fun K' hK' => hK K' (fun a' w' hI' => hK' a' w' ⟨fun _ _ => trivial, ?_⟩))
      have hset : (lof (rtab md ops).2.length O b).toArray.setIfInBounds i true = (lof (rtab md ops).2.length O (up b i)).toArray := by
        apply Array.ext'
        rw [Array.toList_setIfInBounds]
        exact lof_up hO
      rw [hset]
      refine ih (up b i) a' w' ?_ ?_ hI'
      · have := up_count (baseOk_nodup hk) (List.contains_iff_mem.1 hO) hb
        omega
      · intro d r hr hOd hbd n hn hOn
        by_cases hni : n = i
        · rw [hni, up_self]
        · rw [up_ne hni]
          by_cases hdi : d = i
          · subst hdi
            exact hneed r hr n hn (by have := (baseOk_row hk hr).2 n hn; omega) hOn
          · rw [up_ne hdi] at hbd
            exact hc d r hr hOd hbd n hn hOn
/-- A slot that no operation of the list fills. -/
theorem putSel_off {b : Nat → Bool} {t : Tmp} : ∀ {L : List (Nat × Tmp × Value)} {a : Act}, (L.all fun e => !(e.2.1 == t)) = true → (putSel a b L).tmps[t]? = a.tmps[t]?
  | [], _, _ => rfl
  | e :: r, a, h => by
    rw [List.all_cons, Bool.and_eq_true] at h
    have he : e.2.1 ≠ t := by simpa using h.1
    unfold putSel
    by_cases hb : b e.1 = true
    · rw [if_pos hb, putSel_off h.2]
      simp [Act.put, Array.getElem?_setIfInBounds_ne he]
    · rw [if_neg hb]
      exact putSel_off h.2
/-- A slot of a listed operation: k is its place in the list. -/
theorem putSel_on {b : Nat → Bool} {e : Nat × Tmp × Value} : ∀ {L : List (Nat × Tmp × Value)} {a : Act} (k : Nat), L[k]? = some e → ((L.drop (k + 1)).all fun x => !(x.2.1 == e.2.1)) = true → b e.1 = true → Nat.ble (e.2.1 + 1) a.tmps.size = true → (putSel a b L).tmps[e.2.1]? = some e.2.2
  | [], _, _, h, _, _, _ => by cases h
  | x :: r, a, 0, h, hd, hb, ht => by
    simp only [List.getElem?_cons_zero, Option.some.injEq] at h
    subst h
    unfold putSel
    rw [if_pos hb, putSel_off (by simpa using hd)]
    have ht2 : x.2.1 < a.tmps.size := Nat.le_of_ble_eq_true ht
    simp [Act.put, ht2]
  | x :: r, a, k + 1, h, hd, hb, ht => by
    unfold putSel
    refine putSel_on k (by simpa using h) (by simpa using hd) hb ?_
    by_cases hx : b x.1 = true
    · rw [if_pos hx]
      simpa [Act.put] using ht
    · rw [if_neg hx]
      exact ht
theorem put_comm {a : Act} {s t : Tmp} {u v : Value} (h : s ≠ t) : (a.put (some s) u).put (some t) v = (a.put (some t) v).put (some s) u := by
  simp only [Act.put]
  rw [Array.setIfInBounds_comm _ _ h]
theorem putSel_put {b : Nat → Bool} {t : Tmp} {v : Value} : ∀ {L : List (Nat × Tmp × Value)} {a : Act}, (L.all fun e => !(e.2.1 == t)) = true → (putSel a b L).put (some t) v = putSel (a.put (some t) v) b L
  | [], _, _ => rfl
  | e :: r, a, h => by
    rw [List.all_cons, Bool.and_eq_true] at h
    have he : e.2.1 ≠ t := by simpa using h.1
    unfold putSel
    by_cases hb : b e.1 = true
    · rw [if_pos hb, if_pos hb, putSel_put h.2, put_comm he]
    · rw [if_neg hb, if_neg hb]
      exact putSel_put h.2
theorem putSel_same {b : Nat → Bool} {i : Nat} : ∀ {L : List (Nat × Tmp × Value)} {a : Act}, (L.all fun e => !(e.1 == i)) = true → putSel a (up b i) L = putSel a b L
  | [], _, _ => rfl
  | e :: r, a, h => by
    rw [List.all_cons, Bool.and_eq_true] at h
    have he : e.1 ≠ i := by simpa using h.1
    unfold putSel
    rw [up_ne he]
    exact putSel_same h.2
/-- Operation i (its entry stands between L1 and L2) is listed: its destination is filled with v, whatever stood in its entry. -/
theorem putSel_up {b : Nat → Bool} {i : Nat} {t : Tmp} {v0 v : Value} : ∀ {L1 L2 : List (Nat × Tmp × Value)} {a : Act}, b i = false → ((L1 ++ L2).all fun e => !(e.1 == i) && !(e.2.1 == t)) = true →
    (putSel a b (L1 ++ (i, t, v0) :: L2)).put (some t) v = putSel a (up b i) (L1 ++ (i, t, v) :: L2)
  | [], L2, a, hb, h => by
    simp only [List.nil_append] at h ⊢
    have h1 : (L2.all fun e => !(e.1 == i)) = true := List.all_eq_true.2 (fun e he => by have := List.all_eq_true.1 h e he; simp only [Bool.and_eq_true] at this; exact this.1)
    have h2 : (L2.all fun e => !(e.2.1 == t)) = true := List.all_eq_true.2 (fun e he => by have := List.all_eq_true.1 h e he; simp only [Bool.and_eq_true] at this; exact this.2)
    unfold putSel
    rw [if_neg (by rw [hb]; decide), if_pos (up_self b i), putSel_put h2, putSel_same h1]
  | e :: r, L2, a, hb, h => by
    simp only [List.cons_append, List.all_cons, Bool.and_eq_true] at h
    have he : e.1 ≠ i := by simpa using h.1.1
    simp only [List.cons_append]
    unfold putSel
    rw [up_ne he]
    exact putSel_up hb h.2
/-- The same by its place k in the list. -/
theorem putSel_upk {b : Nat → Bool} {i : Nat} {t : Tmp} {v0 v : Value} {a : Act} {L L' : List (Nat × Tmp × Value)} (k : Nat) (hb : b i = false) (hL : L[k]? = some (i, t, v0)) (hL' : L.set k (i, t, v) = L') (hd : ((L.take k ++ L.drop (k + 1)).all fun e => !(e.1 == i) && !(e.2.1 == t)) = true) :
    (putSel a b L).put (some t) v = putSel a (up b i) L' := by
  have hk := (List.getElem?_eq_some_iff.1 hL).1
  have h1 : L = L.take k ++ (i, t, v0) :: L.drop (k + 1) := by
    have h2 : L[k] = (i, t, v0) := (List.getElem?_eq_some_iff.1 hL).2
    rw [← h2, List.getElem_cons_drop, List.take_append_drop]
  have h3 : L' = L.take k ++ (i, t, v) :: L.drop (k + 1) := by rw [← hL', List.set_eq_take_append_cons_drop, if_pos hk]
  rw [h3]
  conv => lhs; rw [h1]
  exact putSel_up hb hd
/-- An operation without a destination. -/
theorem putSel_none {b : Nat → Bool} {i : Nat} {L : List (Nat × Tmp × Value)} {a : Act} {v : Value} (h : (L.all fun e => !(e.1 == i)) = true) : (putSel a b L).put none v = putSel a (up b i) L := (putSel_same h).symm
/-- THE REGION FROM HERE TO ITS END, by one relation I: l has all listed but O's operations; I holds with none of them listed; each step; with all listed what follows. -/
theorem inv_ {l : Array Bool} {fuel : Nat} {a : Act} {w : World} (O : List Nat) (I : (Nat → Bool) → Act → World → Prop) (hT : rtab md ops = T) (hw : waitsOk T.2 B = true) (hk : baseOk T.2 O = true)
    (hl : (lof T.2.length O (fun _ => false) == l.toList && O.length == fuel) = true) (h0 : I (fun _ => false) a w) (hs : ∀ i ∈ O, StepAt P ops Q B O I i)
    (hend : ∀ b a w, (∀ j, O.contains j = true → b j = true) → I b a w → Q .normal a w) : wpAnyLast P md ops Q (fun _ => True) [] fuel l a w := by
  rw [Bool.and_eq_true, beq_iff_eq, beq_iff_eq] at hl
  have h1 := inv_all hT hw hk I hs hend fuel (fun _ => false) a w (by rw [← hl.2]; simp) (fun d r _ _ hb => by cases hb) h0
  have h2 : (lof T.2.length O (fun _ => false)).toArray = l := by apply Array.ext'; exact hl.1
  rw [h2] at h1
  exact h1
/-- inv_ with the relation told from the frame that stands now (a0_). -/
theorem inv_at {l : Array Bool} {fuel : Nat} {a : Act} {w : World} (O : List Nat) (I : Act → (Nat → Bool) → Act → World → Prop) (hT : rtab md ops = T) (hw : waitsOk T.2 B = true) (hk : baseOk T.2 O = true)
    (hl : (lof T.2.length O (fun _ => false) == l.toList && O.length == fuel) = true) (h0 : I a (fun _ => false) a w) (hs : ∀ i ∈ O, StepAt P ops Q B O (I a) i)
    (hend : ∀ b a' w, (∀ j, O.contains j = true → b j = true) → I a b a' w → Q .normal a' w) : wpAnyLast P md ops Q (fun _ => True) [] fuel l a w := inv_ O (I a) hT hw hk hl h0 hs hend
end
end Go.Proofs.YtjcabmhnekcbgaaW.PrintLast
end
section
-- PRINTED BY print.sh 35421559b90ae4d0a3588c463048766b98c2df88dd9212a6774a882060cdf62d: not written by this session

namespace Go.Proofs.YtjcabmhnekcbgaaW.PrintWords
open Go.RowKit
namespace Kd
/-- An element with its index: its blocks are those that f gives to it. -/
def tag {α : Type} (f : Nat → Nat) (d : Kd α) : Kd (α × Nat) where
  sz := d.sz
  E := d.E
  K := fun w x cs => d.K w x.1 cs
  M := fun w base ok x cs => d.M w base (fun k => ok k ∧ f k = x.2) x.1 cs
  K_len := fun h => d.K_len h
  K_one := fun h => d.K_one h
  K_below := fun hb h => d.K_below hb h
  K_of_M := fun h => d.K_of_M h
  M_mono := fun hok h => d.M_mono (fun k hk => ⟨hok k hk.1, hk.2⟩) h
  M_bound := fun h => d.M_mono (fun _ hk => ⟨⟨hk.1.1, hk.2⟩, hk.1.2⟩) (d.M_bound h)
  M_move := fun hm h => d.M_move (fun k hk => hm k hk.1) h
  M_lower := fun hb h => d.M_lower hb h
/-- The cells themselves. -/
def raw (sz : Nat) : Kd (List Value) where
  sz := sz
  E := []
  K := fun _ x cs => cs = x ∧ cs.length = sz ∧ ∀ u ∈ cs, u.oneCell' = true
  M := fun _ _ _ x cs => cs = x ∧ cs.length = sz ∧ ∀ u ∈ cs, u.oneCell' = true
  K_len := fun h => h.2.1
  K_one := fun h => h.2.2
  K_below := fun _ h => h
  K_of_M := fun h => h
  M_mono := fun _ h => h
  M_bound := fun h => h
  M_move := fun _ h => h
  M_lower := fun _ h => h
/-- A row of elements (type e) of the call's own, no two of which lead to one block. -/
def S {α : Type} (d : Kd α) (e : Nat) (w : World) (base : Nat) (ok : Nat → Prop) (v : Value) (xs : List α) : Prop := ∃ f, (tag f d).R e w base ok v xs.zipIdx
section
variable {α β : Type} {d : Kd α} {d' : Kd β} {e e' : Nat} {w w1 W : World} {base b : Nat} {ok ok' okv oku : Nat → Prop} {u v : Value} {xs : List α} {ys : List β}
end
section
variable {α β : Type} {d : Kd α} {d' : Kd β} {e e' g : Nat} {w w1 W : World} {base b : Nat} {ok ok' okv oku : Nat → Prop} {u v : Value} {xs : List α} {ys : List β}
end
section
open Classical in
variable {P : Program} {ops : Array Oper} {rest : List Oper} {o : Oper} {a : Act} {Q : Exit → Act → World → Prop} {Kc : Act → World → Prop} {α : Type}
end
/-- Element i is these cells; the others are d's. -/
def gap {α : Type} (f : Nat → Nat) (d : Kd α) (i : Nat) (c : List Value) : Kd (α × Nat) where
  sz := d.sz
  E := d.E
  K := fun w x cs => (x.2 = i → cs = c ∧ cs.length = d.sz ∧ ∀ u ∈ cs, u.oneCell' = true) ∧ (x.2 ≠ i → d.K w x.1 cs)
  M := fun w base ok x cs => (x.2 = i → cs = c ∧ cs.length = d.sz ∧ ∀ u ∈ cs, u.oneCell' = true) ∧ (x.2 ≠ i → d.M w base (fun k => ok k ∧ f k = x.2) x.1 cs)
  K_len := fun {w x cs} h => by
    by_cases hx : x.2 = i
    · exact (h.1 hx).2.1
    · exact d.K_len (h.2 hx)
  K_one := fun {w x cs} h => by
    by_cases hx : x.2 = i
    · exact (h.1 hx).2.2
    · exact d.K_one (h.2 hx)
  K_below := fun hb h => ⟨h.1, fun hx => d.K_below hb (h.2 hx)⟩
  K_of_M := fun h => ⟨h.1, fun hx => d.K_of_M (h.2 hx)⟩
  M_mono := fun hok h => ⟨h.1, fun hx => d.M_mono (fun k hk => ⟨hok k hk.1, hk.2⟩) (h.2 hx)⟩
  M_bound := fun h => ⟨h.1, fun hx => d.M_mono (fun _ hk => ⟨⟨hk.1.1, hk.2⟩, hk.1.2⟩) (d.M_bound (h.2 hx))⟩
  M_move := fun hm h => ⟨h.1, fun hx => d.M_move (fun k hk => hm k hk.1) (h.2 hx)⟩
  M_lower := fun hb h => ⟨h.1, fun hx => d.M_lower hb (h.2 hx)⟩
def H {α : Type} (d : Kd α) (e : Nat) (w : World) (base : Nat) (ok : Nat → Prop) (v : Value) (xs : List α) (i : Int) (oki : Nat → Prop) (c : List Value) : Prop :=
  (∀ k, oki k → ok k) ∧ ∃ f, (gap f d i.toNat c).R e w base (fun k => ok k ∧ ¬ oki k) v xs.zipIdx
section
variable {α β : Type} {d : Kd α} {e e' g n cap : Nat} {w w1 W : World} {base : Nat} {ok ok' oki okp : Nat → Prop} {u v : Value} {xs : List α} {i : Int} {c : List Value}
open Classical in
end
section
variable {P : Program} {ops : Array Oper} {rest : List Oper} {o : Oper} {a : Act} {Q : Exit → Act → World → Prop} {α : Type}
end
end Kd
end Go.Proofs.YtjcabmhnekcbgaaW.PrintWords
end
section
-- PRINTED BY print.sh 35421559b90ae4d0a3588c463048766b98c2df88dd9212a6774a882060cdf62d: not written by this session

namespace Go.Proofs.YtjcabmhnekcbgaaW.PrintWords
open Go.RowKit
namespace Kd
/-- What a kind reads lies in the blocks: nothing else of the world is looked at. -/
structure Heap {α : Type} (d : Kd α) : Prop where
  K : ∀ {w w1 : World} {x : α} {cs : List Value}, (∀ k, k < w.heap.size → w1.heap[k]? = w.heap[k]?) → d.K w x cs → d.K w1 x cs
theorem cell_heap {w w1 : World} (hb : ∀ k, k < w.heap.size → w1.heap[k]? = w.heap[k]?) {a : Addr} {v : Value} (h : w.cell? a = some v) : w1.cell? a = some v := by
  have := hb a.block (World.block_lt_of_cell? w a h)
  simpa [World.cell?, this] using h
theorem Heap.C {α : Type} {d : Kd α} (hd : Heap d) {w w1 : World} {A : Option Addr} {n : Nat} {xs : List α} (hb : ∀ k, k < w.heap.size → w1.heap[k]? = w.heap[k]?) (h : d.C w A n xs) : d.C w1 A n xs :=
  ⟨h.1, h.2.1, fun hn => by
    obtain ⟨ad, e, hc⟩ := h.2.2 hn
    refine ⟨ad, e, fun j p hj => ?_⟩
    obtain ⟨c, hs, hr, hcell⟩ := hc j p hj
    exact ⟨c, hs, hd.K hb hr, fun i u hu => cell_heap hb (hcell i u hu)⟩⟩
section
variable {α : Type} {d : Kd α} {e base g n c : Nat} {ok : Nat → Prop} {w w0 W : World} {A : Option Addr} {xs : List α}
end
end Kd
end Go.Proofs.YtjcabmhnekcbgaaW.PrintWords
end
section
-- PRINTED BY print.sh 35421559b90ae4d0a3588c463048766b98c2df88dd9212a6774a882060cdf62d: not written by this session

namespace Go.Proofs.YtjcabmhnekcbgaaW.PrintWords
open Go.RowKit
def Kept (w W : World) (S : Nat → Prop) : Prop := w.heap.size ≤ W.heap.size ∧ ∀ i, i < w.heap.size → ¬ S i → W.heap[i]? = w.heap[i]?
section
variable {w W W2 : World} {S S2 S' : Nat → Prop}
theorem Kept.refl (w : World) (S : Nat → Prop) : Kept w w S := ⟨Nat.le_refl _, fun _ _ _ => rfl⟩
theorem Kept.of_below (h : Below w.heap.size w W) (S : Nat → Prop) : Kept w W S := ⟨h.size, fun i hi _ => h.block i hi⟩
theorem Kept.then_ (h : Kept w W S) (k : Kept W W2 S2) (hs : ∀ k, S2 k → S k ∨ w.heap.size ≤ k) : Kept w W2 S :=
  ⟨Nat.le_trans h.1 k.1, fun i hi hn => (k.2 i (Nat.lt_of_lt_of_le hi h.1) (fun h2 => (hs i h2).elim hn (fun h3 => by omega))).trans (h.2 i hi hn)⟩
theorem Kept.below (h : Kept w W S) (hb : Below W.heap.size W W2) : Kept w W2 S := h.then_ (Kept.of_below hb (fun _ => False)) (fun _ hk => hk.elim)
theorem Kept.alloc (h : Kept w W S) (o : Obj) : Kept w (W.alloc o) S := h.below (below_alloc (Below.refl _ _) o)
theorem Kept.drew (h : Kept w W S) : Kept w W.drew S := h
theorem Kept.drewN (h : Kept w W S) (m : Nat) : Kept w (W.drewN m) S := h
end
namespace Kd
section
variable {α : Type} {d : Kd α} {e base n c : Nat} {ok oki S S2 : Nat → Prop} {w w0 W W1 W2 : World} {v : Value} {A : Option Addr} {xs : List α} {i : Int} {cs : List Value}
end
end Kd
end Go.Proofs.YtjcabmhnekcbgaaW.PrintWords
end
section
-- PRINTED BY print.sh 35421559b90ae4d0a3588c463048766b98c2df88dd9212a6774a882060cdf62d: not written by this session

namespace Go.Proofs.YtjcabmhnekcbgaaW.PrintWords
open Go.RowKit
/-- P holds in W and in every world that has W's blocks of ok. -/
def Foot (P : World → Prop) (W : World) (ok : Nat → Prop) : Prop := ∀ W' : World, (∀ k, ok k → k < W.heap.size → W'.heap[k]? = W.heap[k]?) → P W'
theorem heap_lt {W W1 : World} {k : Nat} (h : W1.heap[k]? = W.heap[k]?) (hlt : k < W.heap.size) : k < W1.heap.size := by
  rw [Array.getElem?_eq_getElem hlt] at h
  exact (Array.getElem?_eq_some_iff.1 h).1
namespace Foot
variable {P Q : World → Prop} {W W1 : World} {ok ok' : Nat → Prop}
theorem bound (h : Foot P W ok) : Foot P W (fun k => ok k ∧ k < W.heap.size) := fun W' hW => h W' (fun k hk hlt => hW k ⟨hk, hlt⟩ hlt)
theorem step (h : Foot P W ok) (hm : ∀ k, ok k → k < W.heap.size → W1.heap[k]? = W.heap[k]?) : Foot P W1 ok := fun W' hW => h W' (fun k hk hlt => (hW k hk (heap_lt (hm k hk hlt) hlt)).trans (hm k hk hlt))
theorem imp (h : Foot P W ok) (hi : ∀ W', P W' → Q W') : Foot Q W ok := fun W' hW => hi W' (h W' hW)
/-- Moved, and still elder than what is new since W. -/
theorem old (h : Foot P W ok) (hb : Below W.heap.size W W1) : Foot P W1 (fun k => ok k ∧ k < W.heap.size) := (h.bound).step (fun k _ hlt => hb.block k hlt)
end Foot
namespace Kd
/-- A row that is only read: what it leads to lies in ok. -/
def F {α : Type} (d : Kd α) (W : World) (ok : Nat → Prop) (A : Option Addr) (n : Nat) (xs : List α) : Prop := Foot (fun W => d.C W A n xs) W ok
/-- An element's cells: what they lead to lies in ok. -/
def FK {α : Type} (d : Kd α) (W : World) (ok : Nat → Prop) (x : α) (c : List Value) : Prop := Foot (fun W => d.K W x c) W ok
section
variable {α β : Type} {d : Kd α} {e base n n' cc g N : Nat} {ok ok' okp S : Nat → Prop} {w w0 w1 W W1 : World} {A A' : Option Addr} {u v v1 : Value} {xs : List α} {xs' : List β} {d' : Kd β} {x : α} {c : List Value}
end
end Kd
end Go.Proofs.YtjcabmhnekcbgaaW.PrintWords
end
section
-- PRINTED BY print.sh 35421559b90ae4d0a3588c463048766b98c2df88dd9212a6774a882060cdf62d: not written by this session

namespace Go.Proofs.YtjcabmhnekcbgaaW.PrintWords
open Go.RowKit
namespace Kd
section
variable {α : Type} {d : Kd α} {e base n cc g : Nat} {ok ok' okp S : Nat → Prop} {w w1 W W1 : World} {A : Option Addr} {u v v1 : Value} {xs : List α} {x : α} {c : List Value}
/-- A row of elements (type e) of the call's own; what the elements lead to is only read, and is not this row. -/
def N {α : Type} (d : Kd α) (e : Nat) (w : World) (base : Nat) (ok : Nat → Prop) (v : Value) (xs : List α) : Prop :=
  (∀ k, v.ownBlock = some k → ok k) ∧ ∃ rows : List (List Value), rows.length = xs.length ∧ (raw d.sz).R e w base (fun k => some k = v.ownBlock) v rows ∧ ∀ (j : Nat) (x : α) (c : List Value), xs[j]? = some x → rows[j]? = some c → FK d w (fun k => ok k ∧ some k ≠ v.ownBlock) x c
end
end Kd
end Go.Proofs.YtjcabmhnekcbgaaW.PrintWords
end
section
-- PRINTED BY print.sh 35421559b90ae4d0a3588c463048766b98c2df88dd9212a6774a882060cdf62d: not written by this session
-- PRINTED WORDS (module Derived/Print/More.lean): go-gate-2's additions: an AI agent of Go's test side, Tue Nov 17 2026; no person has read it. Lean checks it.

namespace Go.Proofs.YtjcabmhnekcbgaaW.PrintMore
open Go.RowKit Go.Proofs.YtjcabmhnekcbgaaW.PrintWords
namespace Kd
open Go.Proofs.YtjcabmhnekcbgaaW.PrintWords.Kd
end Kd

namespace Kd
open Go.Proofs.YtjcabmhnekcbgaaW.PrintWords.Kd
section
variable {α : Type} {d : Kd α} {e base g N : Nat} {ok : Nat → Prop} {W w1 : World} {u v : Value} {xs : List α}
end
end Kd
end Go.Proofs.YtjcabmhnekcbgaaW.PrintMore
namespace Go.Proofs.YtjcabmhnekcbgaaW.PrintWords
open Go.RowKit
section
variable {P : Program} {ops : Array Oper} {rest : List Oper} {o : Oper} {a : Act} {Q : Exit → Act → World → Prop} {W : World}
end
/-- The greater of two whole numbers, as_ Go's max tells it. -/
def mx (a b : Int) : Int := if a < b then b else a
/-- The smaller of two whole numbers, as_ Go's min tells it. -/
def mn (a b : Int) : Int := if b < a then b else a
namespace Kd
section
variable {α : Type} {d : Kd α} {e base : Nat} {ok : Nat → Prop} {W w1 : World} {v : Value} {xs : List α}
end
section
variable {α : Type} {d : Kd α} {e base g n cap : Nat} {ok oki okp : Nat → Prop} {W : World} {xs : List α} {i : Int} {c : List Value}
end
section
variable {α : Type} {d : Kd α} {e base b b' g N : Nat} {ok ok1 : Nat → Prop} {W W2 w1 : World} {u v : Value} {xs ys : List α} {S : Nat → Prop}
end
end Kd
end Go.Proofs.YtjcabmhnekcbgaaW.PrintWords
namespace Go.Proofs.YtjcabmhnekcbgaaW.PrintWords
open Go.RowKit
namespace Kd
/-- A row that is only read, told by its value: its form, its length, what it leads to (in ok). e and base say nothing; they make it as_ the others are. -/
def V {α : Type} (d : Kd α) (_e : Nat) (W : World) (_base : Nat) (ok : Nat → Prop) (v : Value) (xs : List α) : Prop := ∃ A c, v = .slice A xs.length c ∧ xs.length ≤ c ∧ F d W ok A xs.length xs
section
variable {α β : Type} {d : Kd α} {e base base' n m c g N' lo hi : Nat} {ok ok' S : Nat → Prop} {w W w1 : World} {A : Option Addr} {ad : Addr} {u v v1 : Value} {xs : List α}
end
end Kd
end Go.Proofs.YtjcabmhnekcbgaaW.PrintWords
end
section
namespace Go.Proofs.Ytjcabmhnekcbgaa.G
open Go.RowKit Go.Proofs.YtjcabmhnekcbgaaW.PrintWords Go.Proofs.YtjcabmhnekcbgaaW.PrintLast Go.ChangeMaps

/-- The first entry whose key meets eqv. -/
def firstBy (eqv : Value → Bool) : List MapEntry → Nat → Option (Nat × Value)
  | [], _ => none
  | e :: es, i => if eqv e.key = true then some (i, e.val) else firstBy eqv es (i + 1)

/-- Looking x up among keys of K goes by eqv. -/
def Finds (P : Program) (kt : TypeId) (x : Value) (eqv : Value → Bool) (K : Value → Prop) : Prop :=
  (∀ w em, (Instr.checkKey em 10000 kt x).run P w = .ok () w) ∧
  ∀ (w : World) (es : List MapEntry), (∀ e ∈ es, K e.key) → (Instr.findKey kt x es).run P w = .ok (firstBy eqv es 0) w

theorem findAsking_by {P : Program} {kt : TypeId} {x : Value} {eqv : Value → Bool} {w : World} : ∀ (es : List MapEntry) (i : Nat), (∀ e ∈ es, (Op.equal kt x e.key).run P w = .ok (eqv e.key) w) →
    (Instr.findAsking kt x es i).run P w = .ok (firstBy eqv es i) w
  | [], _, _ => by simp [Instr.findAsking, firstBy]
  | e :: es, i, h => by
    have h1 := h e (by simp)
    have ih := findAsking_by es (i + 1) (fun e' he => h e' (by simp [he]))
    unfold Instr.findAsking firstBy
    simp only [Sem.run_bind, h1, Result.andThen_ok]
    cases hb : eqv e.key
    · simp [ih]
    · simp

theorem finds_struct {P : Program} {kt : TypeId} {x : Value} {eqv : Value → Bool} {K : Value → Prop} {fs : Array Field} (hk : P.underlying kt = some (.struct fs)) (hc : ∀ w em, (Instr.checkKey em 10000 kt x).run P w = .ok () w)
    (heq : ∀ w k, K k → (Op.equal kt x k).run P w = .ok (eqv k) w) : Finds P kt x eqv K := by
  refine ⟨hc, fun w es hes => ?_⟩
  unfold Instr.findKey
  simp only [Sem.run_bind, run_underlying hk, Result.andThen_ok]
  cases es with
  | nil => simp [Instr.findNow, firstBy]
  | cons e es =>
    have : Instr.findNow (.struct fs) x (e :: es) 0 = none := by
      unfold Instr.findNow
      rfl
    rw [this]
    exact findAsking_by _ _ (fun e' he => heq w _ (hes e' he))

/-- Is it this number? -/
def isInt (x : Int) : Value → Bool
  | .int _ n => x == n
  | _ => false

theorem findNow_by {k : IntKind} {x : Int} : ∀ (es : List MapEntry) (i : Nat), (∀ e ∈ es, ∃ n, e.key = .int k n) → Instr.findNow (.int k) (.int k x) es i = some (firstBy (isInt x) es i)
  | [], _, _ => rfl
  | e :: es, i, h => by
    obtain ⟨n, hn⟩ := h e (by simp)
    have ih := findNow_by (x := x) es (i + 1) (fun e' he => h e' (by simp [he]))
    have e1 : Instr.sameNow (.int k) (.int k x) (.int k n) = some (isInt x (.int k n)) := by simp [Instr.sameNow, isInt]
    unfold Instr.findNow firstBy
    rw [hn, e1]
    cases isInt x (.int k n) <;> simp [ih]

theorem finds_int {P : Program} {kt : TypeId} {k : IntKind} {x : Int} {K : Value → Prop} (hk : P.underlying kt = some (.int k)) (hK : ∀ v, K v → ∃ n, v = .int k n) : Finds P kt (.int k x) (isInt x) K := by
  refine ⟨fun w em => ?_, fun w es hes => ?_⟩
  · unfold Instr.checkKey
    simp [run_underlying hk]
  · unfold Instr.findKey
    simp only [Sem.run_bind, run_underlying hk, Result.andThen_ok]
    rw [findNow_by es 0 (fun e he => hK _ (hes e he))]
    simp

/-- Block g of w is a map that holds just the rows of L whose number is listed in b: (number, key, value). -/
def MapOf (w : World) (g : Nat) (L : List (Nat × Value × Value)) (b : Nat → Bool) : Prop :=
  ∃ es clock, w.heap[g]? = some (.map es clock) ∧ (∀ e ∈ es.toList, ∃ l ∈ L, b l.1 = true ∧ l.2 = (e.key, e.val)) ∧ ∀ l ∈ L, b l.1 = true → ∃ e ∈ es.toList, l.2 = (e.key, e.val)

theorem MapOf.block {w w' : World} {g : Nat} {L : List (Nat × Value × Value)} {b : Nat → Bool} (h : MapOf w g L b) (he : w'.heap[g]? = w.heap[g]?) : MapOf w' g L b := by
  obtain ⟨es, c, h1, h2⟩ := h
  exact ⟨es, c, he.trans h1, h2⟩

theorem MapOf.lt {w : World} {g : Nat} {L : List (Nat × Value × Value)} {b : Nat → Bool} (h : MapOf w g L b) : g < w.heap.size := by
  obtain ⟨es, c, h1, _⟩ := h
  exact (Array.getElem?_eq_some_iff.1 h1).1

theorem MapOf.made (w : World) (L : List (Nat × Value × Value)) (b : Nat → Bool) (hb : ∀ l ∈ L, b l.1 = false) : MapOf (w.alloc (.map #[] 0)) w.heap.size L b :=
  ⟨#[], 0, (MapKept.heap_alloc w _).1, by simp, fun l hl h => by rw [hb l hl] at h; cases h⟩

theorem MapOf.same {w : World} {g : Nat} {L : List (Nat × Value × Value)} {b b' : Nat → Bool} (h : MapOf w g L b) (he : ∀ l ∈ L, b' l.1 = b l.1) : MapOf w g L b' := by
  obtain ⟨es, c, h1, h2, h3⟩ := h
  refine ⟨es, c, h1, fun e he' => ?_, fun l hl hb => h3 l hl (by rw [← he l hl]; exact hb)⟩
  obtain ⟨l, hl, hb, e1⟩ := h2 e he'
  exact ⟨l, hl, by rw [he l hl]; exact hb, e1⟩

theorem firstBy_none {eqv : Value → Bool} : ∀ {es : List MapEntry} {i : Nat}, (∀ e ∈ es, eqv e.key = false) → firstBy eqv es i = none
  | [], _, _ => rfl
  | e :: es, i, h => by
    unfold firstBy
    rw [if_neg (by rw [h e (by simp)]; decide)]
    exact firstBy_none (fun e' he => h e' (by simp [he]))

theorem firstBy_some {eqv : Value → Bool} : ∀ {es : List MapEntry} {i : Nat}, (∃ e ∈ es, eqv e.key = true) → ∃ j e, e ∈ es ∧ eqv e.key = true ∧ firstBy eqv es i = some (j, e.val)
  | [], _, ⟨_, h, _⟩ => by cases h
  | e :: es, i, h => by
    unfold firstBy
    by_cases hb : eqv e.key = true
    · rw [if_pos hb]
      exact ⟨i, e, by simp, hb, rfl⟩
    · rw [if_neg hb]
      obtain ⟨e', he', hb'⟩ := h
      rcases List.mem_cons.1 he' with rfl | he'
      · exact absurd hb' hb
      obtain ⟨j, e1, h1, h2, h3⟩ := firstBy_some (i := i + 1) ⟨e', he', hb'⟩
      exact ⟨j, e1, by simp [h1], h2, h3⟩

/-- A row is put into the map. -/
theorem MapOf.put {P : Program} {w : World} {g t kt et : Nat} {L : List (Nat × Value × Value)} {b : Nat → Bool} (h : MapOf w g L b) (ht : P.underlying t = some (.map kt et)) {i : Nat} {x v : Value} (hi : (i, x, v) ∈ L)
    {eqv : Value → Bool} (hF : Finds P kt x eqv (fun k => ∃ l ∈ L, l.2.1 = k)) (hne : ∀ l ∈ L, b l.1 = true → eqv l.2.1 = false) (huniq : ∀ l ∈ L, l.1 = i → l = (i, x, v)) :
    ∃ w', (Instr.mapUpdate t (.map (some g)) x v).run P w = .ok () w' ∧ MapOf w' g L (up b i) ∧ w.grownBy w' (some g) := by
  obtain ⟨es, c, h1, h2, h3⟩ := h
  have hf := hF.2 w es.toList (fun e he => by
    obtain ⟨l, hl, _, e1⟩ := h2 e he
    exact ⟨l, hl, by rw [e1]⟩)
  rw [firstBy_none (fun e he => by
    obtain ⟨l, hl, hb, e1⟩ := h2 e he
    have := hne l hl hb
    rwa [e1] at this)] at hf
  refine ⟨setBlock w g (.map (es.push ⟨x, v, c⟩) (c + 1)), ?_, ⟨es.push ⟨x, v, c⟩, c + 1, heap_setBlock_same h1 _, fun e he => ?_, fun l hl hb => ?_⟩, ⟨rfl, rfl, rfl, by simp [setBlock], fun i _ hi => heap_setBlock_other h1 _ (fun e => hi (by rw [e]))⟩⟩
  · simp [Instr.mapUpdate, run_underlying ht, MapKept.run_getObj_map h1, hF.1 w false, hf, MapKept.run_setObj_map _ h1, Result.andThen, setBlock]
  · simp only [Array.toList_push, List.mem_append, List.mem_singleton] at he
    rcases he with he | rfl
    · obtain ⟨l, hl, hb, e1⟩ := h2 e he
      refine ⟨l, hl, ?_, e1⟩
      unfold up
      split
      · rfl
      · exact hb
    · exact ⟨_, hi, up_self b i, rfl⟩
  · by_cases hli : l.1 = i
    · rw [huniq l hl hli]
      exact ⟨⟨x, v, c⟩, by simp, rfl⟩
    · rw [up_ne hli] at hb
      obtain ⟨e, he, e1⟩ := h3 l hl hb
      exact ⟨e, by simp [he], e1⟩

/-- What a key finds: the value of the one row that it meets, or nothing. -/
theorem MapOf.find {P : Program} {w : World} {g kt : Nat} {L : List (Nat × Value × Value)} {b : Nat → Bool} {x : Value} {eqv : Value → Bool} (h : MapOf w g L b) (hall : ∀ l ∈ L, b l.1 = true) (hF : Finds P kt x eqv (fun k => ∃ l ∈ L, l.2.1 = k)) :
    ∃ es clock, w.heap[g]? = some (.map es clock) ∧ (((∀ l ∈ L, eqv l.2.1 = false) ∧ (Instr.findKey kt x es.toList).run P w = .ok none w) ∨
      ∃ j l, l ∈ L ∧ eqv l.2.1 = true ∧ (Instr.findKey kt x es.toList).run P w = .ok (some (j, l.2.2)) w) := by
  obtain ⟨es, c, h1, h2, h3⟩ := h
  refine ⟨es, c, h1, ?_⟩
  have hf := hF.2 w es.toList (fun e he => by
    obtain ⟨l, hl, _, e1⟩ := h2 e he
    exact ⟨l, hl, by rw [e1]⟩)
  by_cases hex : ∃ l ∈ L, eqv l.2.1 = true
  · obtain ⟨l, hl, hb⟩ := hex
    obtain ⟨e, he, e1⟩ := h3 l hl (hall l hl)
    obtain ⟨j, e', he', hb', hj⟩ := firstBy_some (eqv := eqv) (i := 0) ⟨e, he, by rw [e1] at hb; exact hb⟩
    obtain ⟨l', hl', _, e1'⟩ := h2 e' he'
    refine .inr ⟨j, l', hl', by rw [e1']; exact hb', ?_⟩
    rw [hf, hj, e1']
  · have hn : ∀ l ∈ L, eqv l.2.1 = false := fun l hl => by
      cases hb : eqv l.2.1
      · rfl
      · exact absurd ⟨l, hl, hb⟩ hex
    refine .inl ⟨hn, ?_⟩
    rw [hf, firstBy_none (fun e he => by
      obtain ⟨l, hl, _, e1⟩ := h2 e he
      have := hn l hl
      rwa [e1] at this)]

/-- 'v, ok := m[x]' and 'm[x]', the key there. -/
theorem MapOf.look {P : Program} {w : World} {g t kt et : Nat} {L : List (Nat × Value × Value)} {b : Nat → Bool} {x : Value} {eqv : Value → Bool} (h : MapOf w g L b) (hall : ∀ l ∈ L, b l.1 = true) (ht : P.underlying t = some (.map kt et))
    (hF : Finds P kt x eqv (fun k => ∃ l ∈ L, l.2.1 = k)) {v : Value} (hex : ∃ l ∈ L, eqv l.2.1 = true) (hv : ∀ l ∈ L, eqv l.2.1 = true → l.2.2 = v) (c : Bool) :
    (Instr.lookup t (.map (some g)) x c).run P w = .ok (if c = true then .tuple #[v, .bool true] else v) w := by
  obtain ⟨es, clk, h1, h2⟩ := h.find hall hF
  obtain ⟨l0, hl0, hb0⟩ := hex
  rcases h2 with ⟨hn, _⟩ | ⟨j, l, hl, hb, hrun⟩
  · rw [hn l0 hl0] at hb0
    cases hb0
  · have := hv l hl hb
    subst this
    cases c <;> simp [Instr.lookup, run_underlying ht, MapKept.run_getObj_map h1, hF.1 w _, hrun, Result.andThen]

end Go.Proofs.Ytjcabmhnekcbgaa.G
end
section
-- PRINTED BY print.sh 35421559b90ae4d0a3588c463048766b98c2df88dd9212a6774a882060cdf62d: not written by this session

namespace Go.Proofs.YtjcabmhnekcbgaaW.PrintWords
open Go.RowKit
section
variable {P : Program} {d : Nat} {xs ys : Array Value} {f : Field} {fs : List Field} {a b : Value} {r s : Bool} {w : World}
/-- The last field that counts. -/
theorem eqf_last (hn : (f.name == "_") = false) (ha : (part f.type xs f.offset).run P w = .ok a w) (hb : (part f.type ys f.offset).run P w = .ok b w) (he : (Op.equalIn d f.type a b).run P w = .ok r w) : (Op.eqFields d xs ys [f]).run P w = .ok r w := by
  have hn' : f.name ≠ "_" := by simpa using hn
  simp only [Op.eqFields, if_pos hn', Sem.run_bind, ha, hb, he, Result.andThen_ok]
  cases r <;> simp
theorem eqf_cons (hn : (f.name == "_") = false) (ha : (part f.type xs f.offset).run P w = .ok a w) (hb : (part f.type ys f.offset).run P w = .ok b w) (he : (Op.equalIn d f.type a b).run P w = .ok r w) (hr : (Op.eqFields d xs ys fs).run P w = .ok s w) : (Op.eqFields d xs ys (f :: fs)).run P w = .ok (r && s) w := by
  have hn' : f.name ≠ "_" := by simpa using hn
  rw [Op.eqFields]
  simp only [if_pos hn', Sem.run_bind, ha, hb, he, Result.andThen_ok]
  cases r
  · simp
  · simpa using hr
theorem eqA_of {t : TypeId} {fs : Array Field} (hu : P.underlying t = some (.struct fs)) (hp : P.stoodInHeld t = false) (h : (Op.eqFields d xs ys fs.toList).run P w = .ok r w) : (Op.equalIn (d + 1) t (.agg xs) (.agg ys)).run P w = .ok r w := by
  have hf : P.fieldsOf t = fs := by simp [Program.fieldsOf, hu]
  rw [run_equalIn_struct (P := P) w d t xs ys (by rw [hf]; exact hu) hp, hf]
  exact h
end
end Go.Proofs.YtjcabmhnekcbgaaW.PrintWords
end
section
namespace Go.Proofs.Ytjcabmhnekcbgaa.G
open Go.RowKit Go.Proofs.YtjcabmhnekcbgaaW.PrintWords Go.Proofs.YtjcabmhnekcbgaaW.PrintLast Go.Proofs.YtjcabmhnekcbgaaW.PrintMore Go.ChangeMaps
theorem eqA23 (d : Nat) (w : World) (x0 y0 : Int) (x1 y1 : Bool) :
    (Op.equalIn (d + 2) 23 (.agg #[.int .i64 x0, .bool x1]) (.agg #[.int .i64 y0, .bool y1])).run Try.prog w = .ok (x0 == y0 && (x1 == y1)) w := by
  refine eqA_of Try.underlying23 (by kernel_rfl) ?_
  refine eqf_cons (by rfl) (by go_simp; rfl) (by go_simp; rfl) (by go_simp) ?_
  exact eqf_last (by rfl) (by go_simp; rfl) (by go_simp; rfl) (by go_simp)
/-- Is it this type? -/
def isTy (s : Int) (b : Bool) : Value → Bool
  | .agg ⟨[.int _ n, .bool c]⟩ => s == n && b == c
  | _ => false
def conversions.L : List (Nat × Value × Value) := [(2, (.agg #[.int .i64 1, .bool true]), (.func (.func 52) #[] #[])), (4, (.agg #[.int .i64 1, .bool false]), (.func (.func 53) #[] #[])), (6, (.agg #[.int .i64 2, .bool true]), (.func (.func 54) #[] #[])), (8, (.agg #[.int .i64 2, .bool false]), (.func (.func 55) #[] #[])), (10, (.agg #[.int .i64 4, .bool true]), (.func (.func 56) #[] #[])), (12, (.agg #[.int .i64 4, .bool false]), (.func (.func 57) #[] #[])), (14, (.agg #[.int .i64 8, .bool true]), (.func (.func 58) #[] #[])), (16, (.agg #[.int .i64 8, .bool false]), (.func (.func 59) #[] #[]))]
theorem conversions.ht : Try.prog.underlying 59 = some (.map 23 57) := Try.underlying59
theorem conversions.keys (v : Value) (h : ∃ l ∈ conversions.L, l.2.1 = v) : ∃ n c, v = .agg #[.int .i64 n, .bool c] := by
  obtain ⟨l, hl, rfl⟩ := h
  simp [conversions.L] at hl
  rcases hl with rfl | rfl | rfl | rfl | rfl | rfl | rfl | rfl <;> exact ⟨_, _, rfl⟩
theorem conversions.finds (s : Int) (b : Bool) : Finds Try.prog 23 (.agg #[.int .i64 s, .bool b]) (isTy s b) (fun k => ∃ l ∈ conversions.L, l.2.1 = k) := by
  refine finds_struct Try.underlying23 (fun w em => by
    unfold Instr.checkKey
    have h1 : ∀ (em : Bool) w, (Instr.checkKey em 9999 3 (.int .i64 s)).run Try.prog w = .ok () w := fun em w => by unfold Instr.checkKey; simp [run_underlying Try.underlying3]
    have h2 : ∀ (em : Bool) w, (Instr.checkKey em 9999 4 (.bool b)).run Try.prog w = .ok () w := fun em w => by unfold Instr.checkKey; simp [run_underlying Try.underlying4]
    go_simp
    done) ?_
  intro w k hk
  obtain ⟨n, c, rfl⟩ := conversions.keys k hk
  exact eqA23 _ w s n b c
theorem conversions.apart2 (b : Nat → Bool) (hb : b 2 = false) : ∀ l ∈ conversions.L, b l.1 = true → isTy 1 true l.2.1 = false := by
  intro l hl h
  simp [conversions.L] at hl
  rcases hl with rfl | rfl | rfl | rfl | rfl | rfl | rfl | rfl <;> first | rfl | (simp only at h; rw [hb] at h; cases h)
theorem conversions.apart4 (b : Nat → Bool) (hb : b 4 = false) : ∀ l ∈ conversions.L, b l.1 = true → isTy 1 false l.2.1 = false := by
  intro l hl h
  simp [conversions.L] at hl
  rcases hl with rfl | rfl | rfl | rfl | rfl | rfl | rfl | rfl <;> first | rfl | (simp only at h; rw [hb] at h; cases h)
theorem conversions.apart6 (b : Nat → Bool) (hb : b 6 = false) : ∀ l ∈ conversions.L, b l.1 = true → isTy 2 true l.2.1 = false := by
  intro l hl h
  simp [conversions.L] at hl
  rcases hl with rfl | rfl | rfl | rfl | rfl | rfl | rfl | rfl <;> first | rfl | (simp only at h; rw [hb] at h; cases h)
theorem conversions.apart8 (b : Nat → Bool) (hb : b 8 = false) : ∀ l ∈ conversions.L, b l.1 = true → isTy 2 false l.2.1 = false := by
  intro l hl h
  simp [conversions.L] at hl
  rcases hl with rfl | rfl | rfl | rfl | rfl | rfl | rfl | rfl <;> first | rfl | (simp only at h; rw [hb] at h; cases h)
theorem conversions.apart10 (b : Nat → Bool) (hb : b 10 = false) : ∀ l ∈ conversions.L, b l.1 = true → isTy 4 true l.2.1 = false := by
  intro l hl h
  simp [conversions.L] at hl
  rcases hl with rfl | rfl | rfl | rfl | rfl | rfl | rfl | rfl <;> first | rfl | (simp only at h; rw [hb] at h; cases h)
theorem conversions.apart12 (b : Nat → Bool) (hb : b 12 = false) : ∀ l ∈ conversions.L, b l.1 = true → isTy 4 false l.2.1 = false := by
  intro l hl h
  simp [conversions.L] at hl
  rcases hl with rfl | rfl | rfl | rfl | rfl | rfl | rfl | rfl <;> first | rfl | (simp only at h; rw [hb] at h; cases h)
theorem conversions.apart14 (b : Nat → Bool) (hb : b 14 = false) : ∀ l ∈ conversions.L, b l.1 = true → isTy 8 true l.2.1 = false := by
  intro l hl h
  simp [conversions.L] at hl
  rcases hl with rfl | rfl | rfl | rfl | rfl | rfl | rfl | rfl <;> first | rfl | (simp only at h; rw [hb] at h; cases h)
theorem conversions.apart16 (b : Nat → Bool) (hb : b 16 = false) : ∀ l ∈ conversions.L, b l.1 = true → isTy 8 false l.2.1 = false := by
  intro l hl h
  simp [conversions.L] at hl
  rcases hl with rfl | rfl | rfl | rfl | rfl | rfl | rfl | rfl <;> first | rfl | (simp only at h; rw [hb] at h; cases h)
def conversions.T1 : Bool × List (List Nat × List Nat) := (true, [([], []), ([], []), ([0, 1], [0, 1]), ([], []), ([0, 3], [0, 3]), ([], []), ([0, 5], [0, 5]), ([], []), ([0, 7], [0, 7]), ([], []), ([0, 9], [0, 9]), ([], []), ([0, 11], [0, 11]), ([], []), ([0, 13], [0, 13]), ([], []), ([0, 15], [0, 15]), ([0, 1, 2, 3, 4, 5, 6, 7, 8, 9, 10, 11, 12, 13, 14, 15, 16], [0]), ([17, 0, 1, 2, 3, 4, 5, 6, 7, 8, 9, 10, 11, 12, 13, 14, 15, 16, 17], [17])])
def conversions.B1 : List Nat := [0, 0, 3, 0, 9, 0, 33, 0, 129, 0, 513, 0, 2049, 0, 8193, 0, 32769, 131071, 262143]
theorem conversions.tab1 : rtab .any (opsOf Try.f29 1) = conversions.T1 := by kernel_rfl
theorem conversions.bits1 : waitsOk conversions.T1.2 conversions.B1 = true := by kernel_rfl
set_option maxHeartbeats 2000000 in
set_option maxRecDepth 100000 in
theorem conversions.calls (w : World) : Calls Try.prog 29 #[] w fun e w' => ∃ g, e = .returned (.map (some g)) ∧ w.heap.size ≤ g ∧ MapOf w' g conversions.L (fun _ => true) ∧ Below w.heap.size w w' := by
  go_enter Try.func29, Try.ntmps29
  go_wp2
  refine start_ (n := 19) (S := fun w' => True) (ds := []) #[false, false, false, false, false, false, false, false, false, false, false, false, false, false, false, false, false, false, false] (by kernel_rfl) rfl rfl trivial (fun hHeld => ?_)
  refine with_tabW conversions.tab1 conversions.bits1 (fun HT_ HW_ => ?_)
  refine pure_ (i := 1) (N := some 2) (v := (.agg #[.int .i64 1, .bool true])) #[false, true, false, false, false, false, false, false, false, false, false, false, false, false, false, false, false, false, false] rfl rfl (any_of HT_.out (by kernel_rfl)) (fun _ _ _ h => h) (Or.inl ⟨by rfl, fun w' => by first | (go_simp; done) | (go_simp; rfl)⟩) rfl ?_
  refine pure_ (i := 3) (N := some 3) (v := (.agg #[.int .i64 1, .bool false])) #[false, true, false, true, false, false, false, false, false, false, false, false, false, false, false, false, false, false, false] rfl rfl (any_of HT_.out (by kernel_rfl)) (fun _ _ _ h => h) (Or.inl ⟨by rfl, fun w' => by first | (go_simp; done) | (go_simp; rfl)⟩) rfl ?_
  refine pure_ (i := 5) (N := some 4) (v := (.agg #[.int .i64 2, .bool true])) #[false, true, false, true, false, true, false, false, false, false, false, false, false, false, false, false, false, false, false] rfl rfl (any_of HT_.out (by kernel_rfl)) (fun _ _ _ h => h) (Or.inl ⟨by rfl, fun w' => by first | (go_simp; done) | (go_simp; rfl)⟩) rfl ?_
  refine pure_ (i := 7) (N := some 5) (v := (.agg #[.int .i64 2, .bool false])) #[false, true, false, true, false, true, false, true, false, false, false, false, false, false, false, false, false, false, false] rfl rfl (any_of HT_.out (by kernel_rfl)) (fun _ _ _ h => h) (Or.inl ⟨by rfl, fun w' => by first | (go_simp; done) | (go_simp; rfl)⟩) rfl ?_
  refine pure_ (i := 9) (N := some 6) (v := (.agg #[.int .i64 4, .bool true])) #[false, true, false, true, false, true, false, true, false, true, false, false, false, false, false, false, false, false, false] rfl rfl (any_of HT_.out (by kernel_rfl)) (fun _ _ _ h => h) (Or.inl ⟨by rfl, fun w' => by first | (go_simp; done) | (go_simp; rfl)⟩) rfl ?_
  refine pure_ (i := 11) (N := some 7) (v := (.agg #[.int .i64 4, .bool false])) #[false, true, false, true, false, true, false, true, false, true, false, true, false, false, false, false, false, false, false] rfl rfl (any_of HT_.out (by kernel_rfl)) (fun _ _ _ h => h) (Or.inl ⟨by rfl, fun w' => by first | (go_simp; done) | (go_simp; rfl)⟩) rfl ?_
  refine pure_ (i := 13) (N := some 8) (v := (.agg #[.int .i64 8, .bool true])) #[false, true, false, true, false, true, false, true, false, true, false, true, false, true, false, false, false, false, false] rfl rfl (any_of HT_.out (by kernel_rfl)) (fun _ _ _ h => h) (Or.inl ⟨by rfl, fun w' => by first | (go_simp; done) | (go_simp; rfl)⟩) rfl ?_
  refine pure_ (i := 15) (N := some 9) (v := (.agg #[.int .i64 8, .bool false])) #[false, true, false, true, false, true, false, true, false, true, false, true, false, true, false, true, false, false, false] rfl rfl (any_of HT_.out (by kernel_rfl)) (fun _ _ _ h => h) (Or.inl ⟨by rfl, fun w' => by first | (go_simp; done) | (go_simp; rfl)⟩) rfl ?_
  refine one_ (i := 0) (N := some 1) #[true, true, false, true, false, true, false, true, false, true, false, true, false, true, false, true, false, false, false] rfl rfl (one_of HT_.out (by kernel_rfl)) (by decide) (fun K hK => ?_)
  refine value_ (w1 := w.drew.alloc (.map #[] 0)) (v := .map (some w.heap.size)) (by rfl) rfl (by first | rfl | (go_simp; rfl)) ?_
  refine hK.out _ _ trivial (fun _ => ?_)
  refine norm_ (by simp only [Act.put, List.setIfInBounds_toArray, List.set_cons_zero, List.set_cons_succ]; rfl) ?_
  refine inv_at [2, 4, 6, 8, 10, 12, 14, 16, 17, 18] (fun a0_ b a w' => a = putSel a0_ b [(17, 10, .map (some w.heap.size)), (18, 0, .map (some w.heap.size))] ∧ MapOf w' w.heap.size conversions.L b ∧ Below w.heap.size w w') HT_.out HW_.out (by kernel_rfl) (by kernel_rfl) ?_ ?_ ?_
  · exact ⟨by simp only [putSel, Bool.false_eq_true, if_false], MapOf.made w.drew _ _ (by intros; rfl), ((Below.refl _ _).drew).alloc (Nat.le_refl _) _⟩
  · skip
    refine steps_cons ?_ ?_
    · rintro b a w' ⟨ha, hM, hB⟩ hb_ hon hoff
      refine ⟨_, rfl, fun K hK => ?_⟩
      have e1 : a.tmps[1]? = some (.map (some w.heap.size)) := by rw [ha]; exact (putSel_off rfl).trans rfl
      have e2 : a.tmps[2]? = some ((.agg #[.int .i64 1, .bool true])) := by rw [ha]; exact (putSel_off rfl).trans rfl
      obtain ⟨w1, hrun, hM1, hgr⟩ := hM.put (P := Try.prog) conversions.ht (i := 2) (x := (.agg #[.int .i64 1, .bool true])) (v := (.func (.func 52) #[] #[])) (by simp [conversions.L]) (conversions.finds 1 true) (by exact conversions.apart2 b hb_) (by intro l hl hi; simp [conversions.L] at hl; rcases hl with rfl | rfl | rfl | rfl | rfl | rfl | rfl | rfl <;> first | rfl | (simp at hi))
      refine skip_ (w1 := w1) (by rfl) rfl ?_ ?_
      · unfold execOp
        simp [Act.eval, e1, e2, hrun]
      refine hK.out _ _ ⟨?_, hM1, hB.grown hgr (hB.size) (fun k hk => by cases hk; exact Nat.le_refl _)⟩
      rw [ha]; exact putSel_none (v := undef) rfl
    refine steps_cons ?_ ?_
    · rintro b a w' ⟨ha, hM, hB⟩ hb_ hon hoff
      refine ⟨_, rfl, fun K hK => ?_⟩
      have e1 : a.tmps[1]? = some (.map (some w.heap.size)) := by rw [ha]; exact (putSel_off rfl).trans rfl
      have e3 : a.tmps[3]? = some ((.agg #[.int .i64 1, .bool false])) := by rw [ha]; exact (putSel_off rfl).trans rfl
      obtain ⟨w1, hrun, hM1, hgr⟩ := hM.put (P := Try.prog) conversions.ht (i := 4) (x := (.agg #[.int .i64 1, .bool false])) (v := (.func (.func 53) #[] #[])) (by simp [conversions.L]) (conversions.finds 1 false) (by exact conversions.apart4 b hb_) (by intro l hl hi; simp [conversions.L] at hl; rcases hl with rfl | rfl | rfl | rfl | rfl | rfl | rfl | rfl <;> first | rfl | (simp at hi))
      refine skip_ (w1 := w1) (by rfl) rfl ?_ ?_
      · unfold execOp
        simp [Act.eval, e1, e3, hrun]
      refine hK.out _ _ ⟨?_, hM1, hB.grown hgr (hB.size) (fun k hk => by cases hk; exact Nat.le_refl _)⟩
      rw [ha]; exact putSel_none (v := undef) rfl
    refine steps_cons ?_ ?_
    · rintro b a w' ⟨ha, hM, hB⟩ hb_ hon hoff
      refine ⟨_, rfl, fun K hK => ?_⟩
      have e1 : a.tmps[1]? = some (.map (some w.heap.size)) := by rw [ha]; exact (putSel_off rfl).trans rfl
      have e4 : a.tmps[4]? = some ((.agg #[.int .i64 2, .bool true])) := by rw [ha]; exact (putSel_off rfl).trans rfl
      obtain ⟨w1, hrun, hM1, hgr⟩ := hM.put (P := Try.prog) conversions.ht (i := 6) (x := (.agg #[.int .i64 2, .bool true])) (v := (.func (.func 54) #[] #[])) (by simp [conversions.L]) (conversions.finds 2 true) (by exact conversions.apart6 b hb_) (by intro l hl hi; simp [conversions.L] at hl; rcases hl with rfl | rfl | rfl | rfl | rfl | rfl | rfl | rfl <;> first | rfl | (simp at hi))
      refine skip_ (w1 := w1) (by rfl) rfl ?_ ?_
      · unfold execOp
        simp [Act.eval, e1, e4, hrun]
      refine hK.out _ _ ⟨?_, hM1, hB.grown hgr (hB.size) (fun k hk => by cases hk; exact Nat.le_refl _)⟩
      rw [ha]; exact putSel_none (v := undef) rfl
    refine steps_cons ?_ ?_
    · rintro b a w' ⟨ha, hM, hB⟩ hb_ hon hoff
      refine ⟨_, rfl, fun K hK => ?_⟩
      have e1 : a.tmps[1]? = some (.map (some w.heap.size)) := by rw [ha]; exact (putSel_off rfl).trans rfl
      have e5 : a.tmps[5]? = some ((.agg #[.int .i64 2, .bool false])) := by rw [ha]; exact (putSel_off rfl).trans rfl
      obtain ⟨w1, hrun, hM1, hgr⟩ := hM.put (P := Try.prog) conversions.ht (i := 8) (x := (.agg #[.int .i64 2, .bool false])) (v := (.func (.func 55) #[] #[])) (by simp [conversions.L]) (conversions.finds 2 false) (by exact conversions.apart8 b hb_) (by intro l hl hi; simp [conversions.L] at hl; rcases hl with rfl | rfl | rfl | rfl | rfl | rfl | rfl | rfl <;> first | rfl | (simp at hi))
      refine skip_ (w1 := w1) (by rfl) rfl ?_ ?_
      · unfold execOp
        simp [Act.eval, e1, e5, hrun]
      refine hK.out _ _ ⟨?_, hM1, hB.grown hgr (hB.size) (fun k hk => by cases hk; exact Nat.le_refl _)⟩
      rw [ha]; exact putSel_none (v := undef) rfl
    refine steps_cons ?_ ?_
    · rintro b a w' ⟨ha, hM, hB⟩ hb_ hon hoff
      refine ⟨_, rfl, fun K hK => ?_⟩
      have e1 : a.tmps[1]? = some (.map (some w.heap.size)) := by rw [ha]; exact (putSel_off rfl).trans rfl
      have e6 : a.tmps[6]? = some ((.agg #[.int .i64 4, .bool true])) := by rw [ha]; exact (putSel_off rfl).trans rfl
      obtain ⟨w1, hrun, hM1, hgr⟩ := hM.put (P := Try.prog) conversions.ht (i := 10) (x := (.agg #[.int .i64 4, .bool true])) (v := (.func (.func 56) #[] #[])) (by simp [conversions.L]) (conversions.finds 4 true) (by exact conversions.apart10 b hb_) (by intro l hl hi; simp [conversions.L] at hl; rcases hl with rfl | rfl | rfl | rfl | rfl | rfl | rfl | rfl <;> first | rfl | (simp at hi))
      refine skip_ (w1 := w1) (by rfl) rfl ?_ ?_
      · unfold execOp
        simp [Act.eval, e1, e6, hrun]
      refine hK.out _ _ ⟨?_, hM1, hB.grown hgr (hB.size) (fun k hk => by cases hk; exact Nat.le_refl _)⟩
      rw [ha]; exact putSel_none (v := undef) rfl
    refine steps_cons ?_ ?_
    · rintro b a w' ⟨ha, hM, hB⟩ hb_ hon hoff
      refine ⟨_, rfl, fun K hK => ?_⟩
      have e1 : a.tmps[1]? = some (.map (some w.heap.size)) := by rw [ha]; exact (putSel_off rfl).trans rfl
      have e7 : a.tmps[7]? = some ((.agg #[.int .i64 4, .bool false])) := by rw [ha]; exact (putSel_off rfl).trans rfl
      obtain ⟨w1, hrun, hM1, hgr⟩ := hM.put (P := Try.prog) conversions.ht (i := 12) (x := (.agg #[.int .i64 4, .bool false])) (v := (.func (.func 57) #[] #[])) (by simp [conversions.L]) (conversions.finds 4 false) (by exact conversions.apart12 b hb_) (by intro l hl hi; simp [conversions.L] at hl; rcases hl with rfl | rfl | rfl | rfl | rfl | rfl | rfl | rfl <;> first | rfl | (simp at hi))
      refine skip_ (w1 := w1) (by rfl) rfl ?_ ?_
      · unfold execOp
        simp [Act.eval, e1, e7, hrun]
      refine hK.out _ _ ⟨?_, hM1, hB.grown hgr (hB.size) (fun k hk => by cases hk; exact Nat.le_refl _)⟩
      rw [ha]; exact putSel_none (v := undef) rfl
    refine steps_cons ?_ ?_
    · rintro b a w' ⟨ha, hM, hB⟩ hb_ hon hoff
      refine ⟨_, rfl, fun K hK => ?_⟩
      have e1 : a.tmps[1]? = some (.map (some w.heap.size)) := by rw [ha]; exact (putSel_off rfl).trans rfl
      have e8 : a.tmps[8]? = some ((.agg #[.int .i64 8, .bool true])) := by rw [ha]; exact (putSel_off rfl).trans rfl
      obtain ⟨w1, hrun, hM1, hgr⟩ := hM.put (P := Try.prog) conversions.ht (i := 14) (x := (.agg #[.int .i64 8, .bool true])) (v := (.func (.func 58) #[] #[])) (by simp [conversions.L]) (conversions.finds 8 true) (by exact conversions.apart14 b hb_) (by intro l hl hi; simp [conversions.L] at hl; rcases hl with rfl | rfl | rfl | rfl | rfl | rfl | rfl | rfl <;> first | rfl | (simp at hi))
      refine skip_ (w1 := w1) (by rfl) rfl ?_ ?_
      · unfold execOp
        simp [Act.eval, e1, e8, hrun]
      refine hK.out _ _ ⟨?_, hM1, hB.grown hgr (hB.size) (fun k hk => by cases hk; exact Nat.le_refl _)⟩
      rw [ha]; exact putSel_none (v := undef) rfl
    refine steps_cons ?_ ?_
    · rintro b a w' ⟨ha, hM, hB⟩ hb_ hon hoff
      refine ⟨_, rfl, fun K hK => ?_⟩
      have e1 : a.tmps[1]? = some (.map (some w.heap.size)) := by rw [ha]; exact (putSel_off rfl).trans rfl
      have e9 : a.tmps[9]? = some ((.agg #[.int .i64 8, .bool false])) := by rw [ha]; exact (putSel_off rfl).trans rfl
      obtain ⟨w1, hrun, hM1, hgr⟩ := hM.put (P := Try.prog) conversions.ht (i := 16) (x := (.agg #[.int .i64 8, .bool false])) (v := (.func (.func 59) #[] #[])) (by simp [conversions.L]) (conversions.finds 8 false) (by exact conversions.apart16 b hb_) (by intro l hl hi; simp [conversions.L] at hl; rcases hl with rfl | rfl | rfl | rfl | rfl | rfl | rfl | rfl <;> first | rfl | (simp at hi))
      refine skip_ (w1 := w1) (by rfl) rfl ?_ ?_
      · unfold execOp
        simp [Act.eval, e1, e9, hrun]
      refine hK.out _ _ ⟨?_, hM1, hB.grown hgr (hB.size) (fun k hk => by cases hk; exact Nat.le_refl _)⟩
      rw [ha]; exact putSel_none (v := undef) rfl
    refine steps_cons ?_ ?_
    · rintro b a w' ⟨ha, hM, hB⟩ hb_ hon hoff
      refine ⟨_, rfl, fun K hK => ?_⟩
      have e1 : a.tmps[1]? = some (.map (some w.heap.size)) := by rw [ha]; exact (putSel_off rfl).trans rfl
      refine value_ (w1 := w') (v := .map (some w.heap.size)) (by rfl) rfl ?_ ?_
      · unfold execOp
        simp [Act.eval, e1]
      refine hK.out _ _ ⟨?_, hM.same (by intro l hl; simp [conversions.L] at hl; rcases hl with rfl | rfl | rfl | rfl | rfl | rfl | rfl | rfl <;> rfl), hB⟩
      rw [ha]; exact putSel_upk 0 hb_ rfl rfl rfl
    refine steps_cons ?_ ?_
    · rintro b a w' ⟨ha, hM, hB⟩ hb_ hon hoff
      refine ⟨_, rfl, fun K hK => ?_⟩
      have e10 : a.tmps[10]? = some (.map (some w.heap.size)) := by rw [ha]; exact putSel_on (e := (17, 10, .map (some w.heap.size))) 0 rfl rfl (hon 17 (by kernel_rfl)) rfl
      refine value_ (w1 := w') (v := .map (some w.heap.size)) (by rfl) rfl ?_ ?_
      · unfold execOp
        simp [Act.eval, e10]
      refine hK.out _ _ ⟨?_, hM.same (by intro l hl; simp [conversions.L] at hl; rcases hl with rfl | rfl | rfl | rfl | rfl | rfl | rfl | rfl <;> rfl), hB⟩
      rw [ha]; exact putSel_upk 1 hb_ rfl rfl rfl
    exact steps_nil
  · clear HT_ HW_ hHeld
    rintro b a w1 hall ⟨ha, hM, hB⟩
    have hb17_ := hall 17 (by kernel_rfl)
    have hb18_ := hall 18 (by kernel_rfl)
    replace hM : MapOf w1 w.heap.size conversions.L (fun _ => true) := hM.same (by intro l hl; simp [conversions.L] at hl; rcases hl with rfl | rfl | rfl | rfl | rfl | rfl | rfl | rfl <;> exact (hall _ (by kernel_rfl)).symm)
    subst ha
    simp only [putSel, hb17_, hb18_, if_true, Act.put, List.setIfInBounds_toArray, List.set_cons_zero, List.set_cons_succ]
    go_wp2
    go_ret
    exact ⟨_, rfl, Nat.le_refl _, hM, hB⟩

def arithmetic.L : List (Nat × Value × Value) := [(1, (.int .i64 1), (.func (.func 61) #[] #[])), (2, (.int .i64 2), (.func (.func 62) #[] #[])), (3, (.int .i64 3), (.func (.func 63) #[] #[])), (4, (.int .i64 6), (.func (.func 64) #[] #[])), (5, (.int .i64 7), (.func (.func 65) #[] #[])), (6, (.int .i64 8), (.func (.func 66) #[] #[])), (7, (.int .i64 4), (.func (.func 67) #[] #[])), (8, (.int .i64 5), (.func (.func 69) #[] #[]))]
theorem arithmetic.ht : Try.prog.underlying 67 = some (.map 3 65) := Try.underlying67
theorem arithmetic.finds (x : Int) : Finds Try.prog 3 (.int .i64 x) (isInt x) (fun k => ∃ l ∈ arithmetic.L, l.2.1 = k) := by
  refine finds_int Try.underlying3 (fun v h => ?_)
  obtain ⟨l, hl, rfl⟩ := h
  simp [arithmetic.L] at hl
  rcases hl with rfl | rfl | rfl | rfl | rfl | rfl | rfl | rfl <;> exact ⟨_, rfl⟩
set_option maxHeartbeats 2000000 in
set_option maxRecDepth 100000 in
theorem arithmetic.calls (w : World) : Calls Try.prog 34 #[] w fun e w' => ∃ g, e = .returned (.map (some g)) ∧ w.heap.size ≤ g ∧ MapOf w' g arithmetic.L (fun _ => true) ∧ Below w.heap.size w w' := by
  go_enter Try.func34, Try.ntmps34
  go_wp2
  rename_i Q0 K0 hK0 Km hKm
  have hm : (Instr.makeMap 67 none).run Try.prog w = .ok (.map (some w.heap.size)) (w.alloc (.map #[] 0)) := by first | rfl | (go_simp; rfl)
  rw [hm]
  refine hKm _ _ ?_
  have hM0 : MapOf (w.alloc (.map #[] 0)) w.heap.size arithmetic.L (fun _ => false) := MapOf.made w _ _ (fun _ _ => rfl)
  have hB0 : Below w.heap.size w (w.alloc (.map #[] 0)) := (Below.refl _ _).alloc (Nat.le_refl _) _
  go_wp2
  rename_i K1 hK1
  obtain ⟨w1, hr1, hM1, hg1⟩ := hM0.put (P := Try.prog) arithmetic.ht (i := 1) (x := (.int .i64 1)) (v := (.func (.func 61) #[] #[])) (by simp [arithmetic.L]) (arithmetic.finds 1) (by intro l hl h; simp [arithmetic.L] at hl; rcases hl with rfl | rfl | rfl | rfl | rfl | rfl | rfl | rfl <;> first | rfl | (simp [up] at h)) (by intro l hl hi; simp [arithmetic.L] at hl; rcases hl with rfl | rfl | rfl | rfl | rfl | rfl | rfl | rfl <;> first | rfl | (simp at hi))
  have hB1 := hB0.grown hg1 hB0.size (fun k hk => by cases hk; exact Nat.le_refl _)
  rw [hr1]
  refine hK1 _ _ ?_
  go_wp2
  rename_i K2 hK2
  obtain ⟨w2, hr2, hM2, hg2⟩ := hM1.put (P := Try.prog) arithmetic.ht (i := 2) (x := (.int .i64 2)) (v := (.func (.func 62) #[] #[])) (by simp [arithmetic.L]) (arithmetic.finds 2) (by intro l hl h; simp [arithmetic.L] at hl; rcases hl with rfl | rfl | rfl | rfl | rfl | rfl | rfl | rfl <;> first | rfl | (simp [up] at h)) (by intro l hl hi; simp [arithmetic.L] at hl; rcases hl with rfl | rfl | rfl | rfl | rfl | rfl | rfl | rfl <;> first | rfl | (simp at hi))
  have hB2 := hB1.grown hg2 hB1.size (fun k hk => by cases hk; exact Nat.le_refl _)
  rw [hr2]
  refine hK2 _ _ ?_
  go_wp2
  rename_i K3 hK3
  obtain ⟨w3, hr3, hM3, hg3⟩ := hM2.put (P := Try.prog) arithmetic.ht (i := 3) (x := (.int .i64 3)) (v := (.func (.func 63) #[] #[])) (by simp [arithmetic.L]) (arithmetic.finds 3) (by intro l hl h; simp [arithmetic.L] at hl; rcases hl with rfl | rfl | rfl | rfl | rfl | rfl | rfl | rfl <;> first | rfl | (simp [up] at h)) (by intro l hl hi; simp [arithmetic.L] at hl; rcases hl with rfl | rfl | rfl | rfl | rfl | rfl | rfl | rfl <;> first | rfl | (simp at hi))
  have hB3 := hB2.grown hg3 hB2.size (fun k hk => by cases hk; exact Nat.le_refl _)
  rw [hr3]
  refine hK3 _ _ ?_
  go_wp2
  rename_i K4 hK4
  obtain ⟨w4, hr4, hM4, hg4⟩ := hM3.put (P := Try.prog) arithmetic.ht (i := 4) (x := (.int .i64 6)) (v := (.func (.func 64) #[] #[])) (by simp [arithmetic.L]) (arithmetic.finds 6) (by intro l hl h; simp [arithmetic.L] at hl; rcases hl with rfl | rfl | rfl | rfl | rfl | rfl | rfl | rfl <;> first | rfl | (simp [up] at h)) (by intro l hl hi; simp [arithmetic.L] at hl; rcases hl with rfl | rfl | rfl | rfl | rfl | rfl | rfl | rfl <;> first | rfl | (simp at hi))
  have hB4 := hB3.grown hg4 hB3.size (fun k hk => by cases hk; exact Nat.le_refl _)
  rw [hr4]
  refine hK4 _ _ ?_
  go_wp2
  rename_i K5 hK5
  obtain ⟨w5, hr5, hM5, hg5⟩ := hM4.put (P := Try.prog) arithmetic.ht (i := 5) (x := (.int .i64 7)) (v := (.func (.func 65) #[] #[])) (by simp [arithmetic.L]) (arithmetic.finds 7) (by intro l hl h; simp [arithmetic.L] at hl; rcases hl with rfl | rfl | rfl | rfl | rfl | rfl | rfl | rfl <;> first | rfl | (simp [up] at h)) (by intro l hl hi; simp [arithmetic.L] at hl; rcases hl with rfl | rfl | rfl | rfl | rfl | rfl | rfl | rfl <;> first | rfl | (simp at hi))
  have hB5 := hB4.grown hg5 hB4.size (fun k hk => by cases hk; exact Nat.le_refl _)
  rw [hr5]
  refine hK5 _ _ ?_
  go_wp2
  rename_i K6 hK6
  obtain ⟨w6, hr6, hM6, hg6⟩ := hM5.put (P := Try.prog) arithmetic.ht (i := 6) (x := (.int .i64 8)) (v := (.func (.func 66) #[] #[])) (by simp [arithmetic.L]) (arithmetic.finds 8) (by intro l hl h; simp [arithmetic.L] at hl; rcases hl with rfl | rfl | rfl | rfl | rfl | rfl | rfl | rfl <;> first | rfl | (simp [up] at h)) (by intro l hl hi; simp [arithmetic.L] at hl; rcases hl with rfl | rfl | rfl | rfl | rfl | rfl | rfl | rfl <;> first | rfl | (simp at hi))
  have hB6 := hB5.grown hg6 hB5.size (fun k hk => by cases hk; exact Nat.le_refl _)
  rw [hr6]
  refine hK6 _ _ ?_
  go_wp2
  rename_i K7 hK7
  obtain ⟨w7, hr7, hM7, hg7⟩ := hM6.put (P := Try.prog) arithmetic.ht (i := 7) (x := (.int .i64 4)) (v := (.func (.func 67) #[] #[])) (by simp [arithmetic.L]) (arithmetic.finds 4) (by intro l hl h; simp [arithmetic.L] at hl; rcases hl with rfl | rfl | rfl | rfl | rfl | rfl | rfl | rfl <;> first | rfl | (simp [up] at h)) (by intro l hl hi; simp [arithmetic.L] at hl; rcases hl with rfl | rfl | rfl | rfl | rfl | rfl | rfl | rfl <;> first | rfl | (simp at hi))
  have hB7 := hB6.grown hg7 hB6.size (fun k hk => by cases hk; exact Nat.le_refl _)
  rw [hr7]
  refine hK7 _ _ ?_
  go_wp2
  rename_i K8 hK8
  obtain ⟨w8, hr8, hM8, hg8⟩ := hM7.put (P := Try.prog) arithmetic.ht (i := 8) (x := (.int .i64 5)) (v := (.func (.func 69) #[] #[])) (by simp [arithmetic.L]) (arithmetic.finds 5) (by intro l hl h; simp [arithmetic.L] at hl; rcases hl with rfl | rfl | rfl | rfl | rfl | rfl | rfl | rfl <;> first | rfl | (simp [up] at h)) (by intro l hl hi; simp [arithmetic.L] at hl; rcases hl with rfl | rfl | rfl | rfl | rfl | rfl | rfl | rfl <;> first | rfl | (simp at hi))
  have hB8 := hB7.grown hg8 hB7.size (fun k hk => by cases hk; exact Nat.le_refl _)
  rw [hr8]
  refine hK8 _ _ ?_
  go_wp2
  have hM := hM8.same (b' := fun _ => true) (by intro l hl; simp [arithmetic.L] at hl; rcases hl with rfl | rfl | rfl | rfl | rfl | rfl | rfl | rfl <;> rfl)
  go_wp2
  go_ret
  exact ⟨_, rfl, Nat.le_refl _, hM, hB8⟩
def relations.L : List (Nat × Value × Value) := [(1, (.int .i64 11), (.func (.func 70) #[] #[])), (2, (.int .i64 12), (.func (.func 71) #[] #[])), (3, (.int .i64 13), (.func (.func 72) #[] #[])), (4, (.int .i64 14), (.func (.func 73) #[] #[])), (5, (.int .i64 15), (.func (.func 74) #[] #[])), (6, (.int .i64 16), (.func (.func 75) #[] #[]))]
theorem relations.ht : Try.prog.underlying 71 = some (.map 3 69) := Try.underlying71
theorem relations.finds (x : Int) : Finds Try.prog 3 (.int .i64 x) (isInt x) (fun k => ∃ l ∈ relations.L, l.2.1 = k) := by
  refine finds_int Try.underlying3 (fun v h => ?_)
  obtain ⟨l, hl, rfl⟩ := h
  simp [relations.L] at hl
  rcases hl with rfl | rfl | rfl | rfl | rfl | rfl <;> exact ⟨_, rfl⟩
set_option maxHeartbeats 2000000 in
set_option maxRecDepth 100000 in
theorem relations.calls (w : World) : Calls Try.prog 35 #[] w fun e w' => ∃ g, e = .returned (.map (some g)) ∧ w.heap.size ≤ g ∧ MapOf w' g relations.L (fun _ => true) ∧ Below w.heap.size w w' := by
  go_enter Try.func35, Try.ntmps35
  go_wp2
  rename_i Q0 K0 hK0 Km hKm
  have hm : (Instr.makeMap 71 none).run Try.prog w = .ok (.map (some w.heap.size)) (w.alloc (.map #[] 0)) := by first | rfl | (go_simp; rfl)
  rw [hm]
  refine hKm _ _ ?_
  have hM0 : MapOf (w.alloc (.map #[] 0)) w.heap.size relations.L (fun _ => false) := MapOf.made w _ _ (fun _ _ => rfl)
  have hB0 : Below w.heap.size w (w.alloc (.map #[] 0)) := (Below.refl _ _).alloc (Nat.le_refl _) _
  go_wp2
  rename_i K1 hK1
  obtain ⟨w1, hr1, hM1, hg1⟩ := hM0.put (P := Try.prog) relations.ht (i := 1) (x := (.int .i64 11)) (v := (.func (.func 70) #[] #[])) (by simp [relations.L]) (relations.finds 11) (by intro l hl h; simp [relations.L] at hl; rcases hl with rfl | rfl | rfl | rfl | rfl | rfl <;> first | rfl | (simp [up] at h)) (by intro l hl hi; simp [relations.L] at hl; rcases hl with rfl | rfl | rfl | rfl | rfl | rfl <;> first | rfl | (simp at hi))
  have hB1 := hB0.grown hg1 hB0.size (fun k hk => by cases hk; exact Nat.le_refl _)
  rw [hr1]
  refine hK1 _ _ ?_
  go_wp2
  rename_i K2 hK2
  obtain ⟨w2, hr2, hM2, hg2⟩ := hM1.put (P := Try.prog) relations.ht (i := 2) (x := (.int .i64 12)) (v := (.func (.func 71) #[] #[])) (by simp [relations.L]) (relations.finds 12) (by intro l hl h; simp [relations.L] at hl; rcases hl with rfl | rfl | rfl | rfl | rfl | rfl <;> first | rfl | (simp [up] at h)) (by intro l hl hi; simp [relations.L] at hl; rcases hl with rfl | rfl | rfl | rfl | rfl | rfl <;> first | rfl | (simp at hi))
  have hB2 := hB1.grown hg2 hB1.size (fun k hk => by cases hk; exact Nat.le_refl _)
  rw [hr2]
  refine hK2 _ _ ?_
  go_wp2
  rename_i K3 hK3
  obtain ⟨w3, hr3, hM3, hg3⟩ := hM2.put (P := Try.prog) relations.ht (i := 3) (x := (.int .i64 13)) (v := (.func (.func 72) #[] #[])) (by simp [relations.L]) (relations.finds 13) (by intro l hl h; simp [relations.L] at hl; rcases hl with rfl | rfl | rfl | rfl | rfl | rfl <;> first | rfl | (simp [up] at h)) (by intro l hl hi; simp [relations.L] at hl; rcases hl with rfl | rfl | rfl | rfl | rfl | rfl <;> first | rfl | (simp at hi))
  have hB3 := hB2.grown hg3 hB2.size (fun k hk => by cases hk; exact Nat.le_refl _)
  rw [hr3]
  refine hK3 _ _ ?_
  go_wp2
  rename_i K4 hK4
  obtain ⟨w4, hr4, hM4, hg4⟩ := hM3.put (P := Try.prog) relations.ht (i := 4) (x := (.int .i64 14)) (v := (.func (.func 73) #[] #[])) (by simp [relations.L]) (relations.finds 14) (by intro l hl h; simp [relations.L] at hl; rcases hl with rfl | rfl | rfl | rfl | rfl | rfl <;> first | rfl | (simp [up] at h)) (by intro l hl hi; simp [relations.L] at hl; rcases hl with rfl | rfl | rfl | rfl | rfl | rfl <;> first | rfl | (simp at hi))
  have hB4 := hB3.grown hg4 hB3.size (fun k hk => by cases hk; exact Nat.le_refl _)
  rw [hr4]
  refine hK4 _ _ ?_
  go_wp2
  rename_i K5 hK5
  obtain ⟨w5, hr5, hM5, hg5⟩ := hM4.put (P := Try.prog) relations.ht (i := 5) (x := (.int .i64 15)) (v := (.func (.func 74) #[] #[])) (by simp [relations.L]) (relations.finds 15) (by intro l hl h; simp [relations.L] at hl; rcases hl with rfl | rfl | rfl | rfl | rfl | rfl <;> first | rfl | (simp [up] at h)) (by intro l hl hi; simp [relations.L] at hl; rcases hl with rfl | rfl | rfl | rfl | rfl | rfl <;> first | rfl | (simp at hi))
  have hB5 := hB4.grown hg5 hB4.size (fun k hk => by cases hk; exact Nat.le_refl _)
  rw [hr5]
  refine hK5 _ _ ?_
  go_wp2
  rename_i K6 hK6
  obtain ⟨w6, hr6, hM6, hg6⟩ := hM5.put (P := Try.prog) relations.ht (i := 6) (x := (.int .i64 16)) (v := (.func (.func 75) #[] #[])) (by simp [relations.L]) (relations.finds 16) (by intro l hl h; simp [relations.L] at hl; rcases hl with rfl | rfl | rfl | rfl | rfl | rfl <;> first | rfl | (simp [up] at h)) (by intro l hl hi; simp [relations.L] at hl; rcases hl with rfl | rfl | rfl | rfl | rfl | rfl <;> first | rfl | (simp at hi))
  have hB6 := hB5.grown hg6 hB5.size (fun k hk => by cases hk; exact Nat.le_refl _)
  rw [hr6]
  refine hK6 _ _ ?_
  go_wp2
  have hM := hM6.same (b' := fun _ => true) (by intro l hl; simp [relations.L] at hl; rcases hl with rfl | rfl | rfl | rfl | rfl | rfl <;> rfl)
  go_wp2
  go_ret
  exact ⟨_, rfl, Nat.le_refl _, hM, hB6⟩
end Go.Proofs.Ytjcabmhnekcbgaa.G
end
section
/- Contracts that were proved by hand, as_ the calculus tells them. No statement of its own. -/

namespace Go.Ab
open Go.RowKit

section
variable {P : Program} {T : Tr} {w w' : World} {φ : Nat → Option Loc} {S : Nat → Prop} {hp : Hp} {b0 : Nat → Prop} {x : Value}

theorem HOk.empty (hold : ∀ k, S k → k < w.heap.size) : HOk T (fun _ => none) b0 w S [] :=
  ⟨fun n => (by simp [look]), fun n b h => (by cases h), fun n b l B h => (by cases h), fun n m b c l k B h => (by cases h), hold⟩

theorem addRow {n et g cap : Nat} {es : List V} {cur : Array Value} {te : TE} (h : HOk T φ b0 w S hp) (hn : look hp n = none) (he : T.look et = some te) (h1 : te.size = 1) (hg : ¬ b0 g) (hheap : w.heap[g]? = some (.cells cur et (0, 0))) (hS : ¬ S g) (hwt : wtL T et es) (hlen : es.length ≤ cap) (hcap : cap ≤ maxLen) (hcur : cur.size = cap) (hin : inRow T φ w S cur 0 1 es)
    (hother : ∀ m c l, look hp m = some c → c.own = true → φ m = some l → l.blk ≠ some g) :
    ∃ φ', LocLe φ φ' ∧ HOk T φ' b0 w S ((n, .row et es) :: hp) ∧ rel T φ' w S (.row n) (.slice (some ⟨g, 0, none⟩) es.length cap) ∧ ∀ m l, φ' m = some l → m = n ∧ l.blk = some g ∨ φ m = some l := by
  have hφ : φ n = none := (h.dom n).2 hn
  refine ⟨upd φ n (.rw g 0 es.length cap 1), upd_le hφ, ?_, ?_, fun m l hm => ?_⟩
  · refine h.cons (upd_le hφ) (fun m hm => upd_ne hm) (by rw [upd_self]; simp) (fun _ _ => rfl) (fun _ h => h) (fun m c l B hm hc hc2 hl hB => ⟨rfl, (h.own m c l B hc hc2 hl hB).2.2⟩) (Nat.le_refl _) ?_ (fun _ l B hl hB => ?_) h.old
    · refine ⟨hwt, te, he, by omega, .inl ⟨g, 0, cap, cur, by rw [upd_self, h1], hheap, rfl, hcur, by rw [h1]; omega, ?_⟩⟩
      rw [h1]
      exact inRow_mono (upd_le hφ) (fun _ _ => rfl) (fun _ h => h) hin
    · rw [upd_self] at hl; injection hl with hl; subst hl
      injection hB with hB; subst hB
      exact ⟨hg, (Array.getElem?_eq_some_iff.1 hheap).1, hS, fun m c k hm hc hc2 hk => hother m c k hc hc2 hk⟩
  · simp only [rel]
    exact .inl ⟨g, 0, es.length, cap, 1, cap, upd_self, rfl, hlen, hcap, by omega⟩
  · by_cases e : m = n
    · subst e; rw [upd_self] at hm; injection hm with hm; subst hm; exact .inl ⟨rfl, rfl⟩
    · rw [upd_ne e] at hm; exact .inr hm

theorem addNil {n et : Nat} {te : TE} (h : HOk T φ b0 w S hp) (hn : look hp n = none) (he : T.look et = some te) (h1 : te.size = 1) :
    ∃ φ', LocLe φ φ' ∧ HOk T φ' b0 w S ((n, .row et []) :: hp) ∧ rel T φ' w S (.row n) (.slice none 0 0) ∧ ∀ m l, φ' m = some l → m = n ∧ l.blk = none ∨ φ m = some l := by
  have hφ : φ n = none := (h.dom n).2 hn
  refine ⟨upd φ n .nilrow, upd_le hφ, ?_, ?_, fun m l hm => ?_⟩
  · refine h.cons (upd_le hφ) (fun k hk => upd_ne hk) (by rw [upd_self]; simp) (fun _ _ => rfl) (fun _ h => h) (fun k c l B hk hc hc2 hl hB => ⟨rfl, (h.own k c l B hc hc2 hl hB).2.2⟩) (Nat.le_refl _) ?_ (fun _ l B hl hB => ?_) h.old
    · exact ⟨by simp [wtL], te, he, by omega, .inr ⟨upd_self, rfl⟩⟩
    · rw [upd_self] at hl; injection hl with hl; subst hl; cases hB
  · simp only [rel]; exact .inr ⟨upd_self, none, rfl⟩
  · by_cases e : m = n
    · subst e; rw [upd_self] at hm; injection hm with hm; subst hm; exact .inl ⟨rfl, rfl⟩
    · rw [upd_ne e] at hm; exact .inr hm

theorem nums_wt {et : Nat} {te : TE} {k : IntKind} {l : List Int} (he : T.look et = some te) (hd : te.desc = .int k) : wtL T et (l.map fun n => V.i k n) :=
  wtL_iff.2 (fun v hv => by
    obtain ⟨n, _, rfl⟩ := List.mem_map.1 hv
    simp only [wt]
    exact ⟨te, he, hd⟩)

theorem nums_in {k : IntKind} {l : List Int} {cur : Array Value} (h : ∀ (j : Nat) (n : Int), l[j]? = some n → cur[j]? = some (Value.int k n)) : inRow T φ w S cur 0 1 (l.map fun n => V.i k n) := by
  intro j e hj
  rw [List.getElem?_map, Option.map_eq_some_iff] at hj
  obtain ⟨n, hn, rfl⟩ := hj
  refine ⟨.int k n, rel_i _ _, rfl, fun u hu => by simp [Value.cells] at hu; subst hu; rfl, fun q u hu => ?_⟩
  cases q with
  | zero => simp [Value.cells] at hu; subst hu; rw [show 0 + j * 1 + 0 = j from by omega]; exact h j n hn
  | succ q => simp [Value.cells] at hu

theorem nums_of {et : Nat} {te : TE} {k : IntKind} {l : List Int} (he : T.look et = some te) (h1 : te.size = 1) (h : rel T φ w S (.sl et (l.map fun n => V.i k n)) x) :
    ∃ A c, x = .slice A l.length c ∧ l.length ≤ c ∧ l.length ≤ maxLen ∧ (0 < l.length → ∃ ad, A = some ad ∧ ∀ (j : Nat) (n : Int), l[j]? = some n → w.cell? (ad.add j) = some (Value.int k n)) := by
  simp only [rel] at h
  obtain ⟨A, c, rfl, h2, h3, _, h4⟩ := h
  simp only [List.length_map] at h2 h3 ⊢
  refine ⟨A, c, rfl, h2, h3, fun hpos => ?_⟩
  obtain ⟨ad, e, rfl, he', hz, hS, hE⟩ := h4 (fun hn => by have := congrArg List.length hn; simp at this; subst this; simp at hpos)
  rw [he] at he'; injection he' with he'; subst he'
  refine ⟨ad, rfl, fun j n hj => ?_⟩
  obtain ⟨y, y1, y2, y3, y4⟩ := relE_iff.1 hE j (.i k n) (by rw [List.getElem?_map, hj]; rfl)
  simp only [rel] at y1
  subst y1
  have := y4 0 (.int k n) rfl
  rw [h1] at this
  simpa using this
end
end Go.Ab
end
section
/- Answers told by values alone: what a caller that only reads needs. No statement of its own. -/

namespace Go.Ab
open Go.RowKit

def pleS (h : Hp) (v v' : V) : Prop := match v' with
  | .sl u es => match v with
    | .nil => es = []
    | .row n => match look h n with
      | some (.row u' es') => u' = u ∧ es' = es
      | some (.ro u' es') => u' = u ∧ es' = es
      | _ => False
    | .sl u' es' => u' = u ∧ es' = es
    | _ => False
  | .i k n => match v with
    | .i k' n' => k' = k ∧ n' = n
    | _ => False
  | .b c => match v with
    | .b c' => c' = c
    | _ => False
  | .str s => match v with
    | .str s' => s' = s
    | _ => False
  | .nil => match v with
    | .nil => True
    | _ => False
  | _ => False

def pleL (h : Hp) : List V → List V → Prop
  | [], [] => True
  | v :: r, v' :: r' => pleS h v v' ∧ pleL h r r'
  | _, _ => False

def ple1 (h : Hp) (v v' : V) : Prop := match v' with
  | .agg ds => match v with
    | .agg cs => pleL h cs ds
    | _ => False
  | v' => pleS h v v'

def ple1L (h : Hp) : List V → List V → Prop
  | [], [] => True
  | v :: r, v' :: r' => ple1 h v v' ∧ ple1L h r r'
  | _, _ => False

def ple (h : Hp) (v v' : V) : Prop := match v' with
  | .tup ds => match v with
    | .tup cs => ple1L h cs ds
    | _ => False
  | v' => ple1 h v v'

section
variable {P : Program} {T : Tr} {w0 : Base} {φ : Nat → Option Loc} {w w' : World} {S S' : Nat → Prop} {v v' : V} {hp h : Hp} {b0 : Nat → Prop} {x : Value}

def allS (φ : Nat → Option Loc) (S : Nat → Prop) (h : Hp) (k : Nat) : Prop := S k ∨ ∃ n u es l, look h n = some (.row u es) ∧ φ n = some l ∧ l.blk = some k

theorem pleS_rel (P : Program) (w0 : Base) (hh : HOk T φ b0 w S h) (hr : rel T φ w S v x) (hp : pleS h v v') : rel T (fun _ => none) w (allS φ S h) v' x := by
  have free : ∀ {S1 : Nat → Prop} {et es}, (∀ k, S1 k → allS φ S h k) → rel T φ w S1 (.sl et es) x → rel T (fun _ => none) w (allS φ S h) (.sl et es) x := by
    intro S1 et es hS hr
    have hr := rel_mono (LocLe.refl φ) (w' := w) (fun _ _ => rfl) hS _ _ hr
    simp only [rel] at hr ⊢
    obtain ⟨A, cap, h1, h2, h3, h5, h6⟩ := hr
    refine ⟨A, cap, h1, h2, h3, h5, fun hne => ?_⟩
    obtain ⟨ad, e, ha, hl, hz, hs, he⟩ := h6 hne
    exact ⟨ad, e, ha, hl, hz, hs, wtL_free es et 0 ad e.size h5 he⟩
  cases v' with
  | sl u es =>
    simp only [pleS] at hp
    split at hp
    · subst hp
      simp only [rel] at hr ⊢
      subst hr
      exact ⟨none, 0, rfl, Nat.le_refl _, Nat.zero_le _, by simp [wtL], fun hne => absurd rfl hne⟩
    · rename_i n
      have hx := expS_ok (P := P) (w0 := w0) hh hr
      split at hp
      · rename_i u' es' hl
        obtain ⟨rfl, rfl⟩ := hp
        simp only [expS, hl] at hx
        refine free (fun k hk => ?_) hx
        rcases hk with hk | ⟨m, hm, l, h1, h2⟩
        · exact .inl hk
        · simp only [rowsS, List.mem_singleton] at hm
          subst hm
          exact .inr ⟨m, _, _, l, hl, h1, h2⟩
      · rename_i u' es' hl
        obtain ⟨rfl, rfl⟩ := hp
        simp only [expS, hl] at hx
        refine free (fun k hk => ?_) hx
        rcases hk with hk | ⟨m, hm, l, h1, h2⟩
        · exact .inl hk
        · simp only [rowsS, List.mem_singleton] at hm
          subst hm
          exact .inl (ro_S hh hl l k h1 h2)
      · exact hp.elim
    · obtain ⟨rfl, rfl⟩ := hp
      exact free (fun k hk => .inl hk) hr
    · exact hp.elim
  | i k n =>
    simp only [pleS] at hp
    split at hp
    · obtain ⟨rfl, rfl⟩ := hp; simpa only [rel] using hr
    · exact hp.elim
  | b c =>
    simp only [pleS] at hp
    split at hp
    · subst hp; simpa only [rel] using hr
    · exact hp.elim
  | str s =>
    simp only [pleS] at hp
    split at hp
    · subst hp; simpa only [rel] using hr
    · exact hp.elim
  | nil =>
    simp only [pleS] at hp
    split at hp
    · simpa only [rel] using hr
    · exact hp.elim
  | _ => exact hp.elim

theorem pleL_rel (P : Program) (w0 : Base) (hh : HOk T φ b0 w S h) : ∀ {cs ds : List V} {xs : List Value}, relL T φ w S cs xs → pleL h cs ds → relL T (fun _ => none) w (allS φ S h) ds xs
  | [], [], xs, hr, _ => by simpa only [relL] using hr
  | v :: r, v' :: r', xs, hr, hp => by
    simp only [relL, pleL] at hr hp ⊢
    obtain ⟨x, xs', h1, h2, h3⟩ := hr
    exact ⟨x, xs', h1, pleS_rel P w0 hh h2 hp.1, pleL_rel P w0 hh h3 hp.2⟩
  | [], _ :: _, _, _, hp => hp.elim
  | _ :: _, [], _, _, hp => hp.elim

theorem ple1_rel (P : Program) (w0 : Base) (hh : HOk T φ b0 w S h) (hr : rel T φ w S v x) (hp : ple1 h v v') : rel T (fun _ => none) w (allS φ S h) v' x := by
  cases v' with
  | agg ds =>
    simp only [ple1] at hp
    split at hp
    · simp only [rel] at hr ⊢
      obtain ⟨a, h1, h2, h3⟩ := hr
      exact ⟨a, h1, pleL_rel P w0 hh h2 hp, h3⟩
    · exact hp.elim
  | _ => exact pleS_rel P w0 hh hr (by simpa only [ple1] using hp)

theorem ple1L_rel (P : Program) (w0 : Base) (hh : HOk T φ b0 w S h) : ∀ {cs ds : List V} {xs : List Value}, relL T φ w S cs xs → ple1L h cs ds → relL T (fun _ => none) w (allS φ S h) ds xs
  | [], [], xs, hr, _ => by simpa only [relL] using hr
  | v :: r, v' :: r', xs, hr, hp => by
    simp only [relL, ple1L] at hr hp ⊢
    obtain ⟨x, xs', h1, h2, h3⟩ := hr
    exact ⟨x, xs', h1, ple1_rel P w0 hh h2 hp.1, ple1L_rel P w0 hh h3 hp.2⟩
  | [], _ :: _, _, _, hp => hp.elim
  | _ :: _, [], _, _, hp => hp.elim

theorem ple_rel (P : Program) (w0 : Base) (hh : HOk T φ b0 w S h) (hr : rel T φ w S v x) (hp : ple h v v') : rel T (fun _ => none) w (allS φ S h) v' x := by
  cases v' with
  | tup ds =>
    simp only [ple] at hp
    split at hp
    · simp only [rel] at hr ⊢
      obtain ⟨a, h1, h2⟩ := hr
      exact ⟨a, h1, ple1L_rel P w0 hh h2 hp⟩
    · exact hp.elim
  | _ => exact ple1_rel P w0 hh hr (by simpa only [ple] using hp)

def FnR (P : Program) (T : Tr) (f : Nat) (args : List V) (R : V → Hp → Prop) : Prop :=
  ∀ (w : World) (S : Nat → Prop) (vals : List Value), (∀ k, S k → k < w.heap.size) → relL T (fun _ => none) w S args vals →
    Goes P f vals.toArray w fun e w' => ∃ x φ' S' v post, e = .returned x ∧ Since (.of w) w' ∧ HOk T φ' (oldZ w) w' S' post ∧ rel T φ' w' S' v x ∧ (∀ k, S' k → S k ∨ w.heap.size ≤ k) ∧ R v post

theorem FnR.pure {f : Nat} {args : List V} {res : V} (hf : FnR P T f args fun v h => ple h v res) : Fn P T f args res [] := by
  refine fun w S vals hold hr => Goes.weaken (hf w S vals hold hr) (fun e w' hq => ?_)
  obtain ⟨x, φ', S', v, post, he, h1, h2, h3, h4, h5⟩ := hq
  have hx := ple_rel P (.of w) h2 h3 h5
  refine ⟨x, fun _ => none, allS φ' S' post, he, h1, HOk.empty (fun k hk => ?_), hx, fun k hk => ?_⟩
  · rcases hk with hk | ⟨n, u, es, l, g1, g2, g3⟩
    · exact h2.old k hk
    · exact (h2.own n _ l k g1 rfl g2 g3).2.1
  · rcases hk with hk | ⟨n, u, es, l, g1, g2, g3⟩
    · exact h4 k hk
    · exact .inr (Nat.not_lt.1 (h2.own n _ l k g1 rfl g2 g3).1)

theorem FnR.of {f : Nat} {args : List V} {res : V} {post : Hp} {R : V → Hp → Prop} (hf : Fn P T f args res post) (hR : R res post) : FnR P T f args R :=
  fun w S vals hold hr => Goes.weaken (hf w S vals hold hr) (fun e w' ⟨x, φ', S', he, h1, h2, h3, h4⟩ => ⟨x, φ', S', res, post, he, h1, h2, h3, h4, hR⟩)

theorem Fn.pure {f : Nat} {args : List V} {res res' : V} {post : Hp} (hf : Fn P T f args res post) (hp : ple post res res') : Fn P T f args res' [] :=
  FnR.pure (FnR.of hf hp)

theorem fnr_of_vc (htok : TyOk P T) {f : Nat} {fn : Func} {c : Code} {W : Nat → List (List Nat)} {args : List V} {R : V → Hp → Prop} (hf : P.funcs[f]? = some fn) (hname : (fn.name == "runtime.NumGoroutine") = false) (hb : fn.body = some c) (hok : codeOk W c = true)
    (h : ∀ w : World, vc (real P T (.of w)) T W c (retK (real P T (.of w)) T fn.results.toList R) (args ++ List.replicate (fn.ntmps - args.length) .dead) []) : FnR P T f args R := by
  refine fun w S vals hold hr => .inl ⟨⟨fn, c, hf, hname, hb⟩, ?_⟩
  have hlen := (relL_iff.1 hr).1
  refine calls_of_wp hf hb ?_
  have hi : Inv T (.of w) (fun _ => none) S (args ++ List.replicate (fn.ntmps - args.length) .dead) [] { tmps := vals.toArray ++ Array.replicate (fn.ntmps - vals.toArray.size) undef, defers := [] } w := by
    refine ⟨Since.refl w, by simp [hlen], fun t => ?_, rfl, ⟨fun n => by simp [look], fun n b h => (by cases h), fun n b l B h => (by cases h), fun n m b c l k B h => (by cases h), hold⟩, fun p hp => by cases hp⟩
    by_cases ht : t < args.length
    · obtain ⟨u, h1, h2⟩ := relL_get hr ht
      have e1 : (args ++ List.replicate (fn.ntmps - args.length) V.dead).getD t .dead = args.getD t .dead := by
        simp only [List.getD_eq_getElem?_getD, List.getElem?_append_left ht]
      have e2 : (vals.toArray ++ Array.replicate (fn.ntmps - vals.toArray.size) undef).getD t undef = u := by
        rw [Array.getD_eq_getD_getElem?, Array.getElem?_append_left (by simp; omega)]
        simp [h1]
      rw [e1, e2]
      exact h2
    · have e1 : (args ++ List.replicate (fn.ntmps - args.length) V.dead).getD t .dead = .dead := by
        simp only [List.getD_eq_getElem?_getD, List.getElem?_append_right (by omega : args.length ≤ t), List.getElem?_replicate]
        split <;> rfl
      rw [e1]
      simp only [rel]
  have key : ∀ {tm hp φ S' a w'}, SLe (oldZ w) S S' → Inv T (.of w) φ S' tm hp a w' → retF (real P T (.of w)) T fn.results.toList R tm hp →
      a.defers = [] ∧ ∃ v, (results fn a.tmps).run P w' = .ok v w' ∧ ∃ x φ' S' r post, Ending.returned v = .returned x ∧ Since (.of w) w' ∧ HOk T φ' (oldZ w) w' S' post ∧ rel T φ' w' S' r x ∧ (∀ k, S' k → S k ∨ w.heap.size ≤ k) ∧ R r post := by
    intro tm hp φ S' a w' hS hi h
    obtain ⟨x, v, φ', S2, post', h1, h2, h3, h4, h5⟩ := results_ok htok hi h
    exact ⟨hi.dfr, x, h1, x, φ', S2, v, post', rfl, hi.since, h3, h4, fun k hk => ((hS.trans h2).2 k hk).imp id Nat.not_lt.1, h5⟩
  refine wp_mono (vc_ok htok c hok (h w) _ _ _ _ hi) (fun e a' w' hp => ?_)
  obtain ⟨φ', S', tm', hp', h1, h2, h3, h4⟩ := hp
  cases e with
  | normal => exact key h1 h2 h3
  | ret => exact key h1 h2 h3
  | exit i => exact h3.elim
  | _ => exact h4.elim

theorem fn_pure (htok : TyOk P T) {f : Nat} {fn : Func} {c : Code} (W : Nat → List (List Nat)) {args : List V} {res : V} (hf : P.funcs[f]? = some fn) (hname : (fn.name == "runtime.NumGoroutine") = false) (hb : fn.body = some c) (hok : codeOk W c = true)
    (h : ∀ ar un cv mn mx pl mi cmp nt beq an scmp cat slen sbyte ssub ofB toB len gi gb gs gl sub put app ovl rep ne0 ge0 inb bnd room sroom need br call loop cut nl, Eqs ar un cv mn mx pl mi cmp nt beq an scmp cat slen sbyte ssub ofB toB len gi gb gs gl sub put app ovl rep ne0 ge0 inb bnd room sroom → Rules P T W [] ar un cv mn mx pl mi cmp nt beq an scmp cat slen sbyte ssub ofB toB len gi gb gs gl sub put app ovl rep ne0 ge0 inb bnd room sroom need br call loop cut nl → ∀ K : V → Hp → Prop, (∀ v h, ple h v res → K v h) → vc ⟨ar, un, cv, mn, mx, pl, mi, cmp, nt, beq, an, scmp, cat, slen, sbyte, ssub, ofB, toB, len, gi, gb, gs, gl, sub, put, app, ovl, rep, ne0, ge0, inb, bnd, room, sroom, need, br, call, loop, cut, nl⟩ T W c (retK ⟨ar, un, cv, mn, mx, pl, mi, cmp, nt, beq, an, scmp, cat, slen, sbyte, ssub, ofB, toB, len, gi, gb, gs, gl, sub, put, app, ovl, rep, ne0, ge0, inb, bnd, room, sroom, need, br, call, loop, cut, nl⟩ T fn.results.toList K) (args ++ List.replicate (fn.ntmps - args.length) .dead) []) : Ab.Fn P T f args res [] := by
  refine FnR.pure (fnr_of_vc htok hf hname hb hok (fun w => ?_))
  generalize ho : real P T (.of w) = o
  have ho := ho.symm
  obtain ⟨ar, un, cv, mn, mx, pl, mi, cmp, nt, beq, an, scmp, cat, slen, sbyte, ssub, ofB, toB, len, gi, gb, gs, gl, sub, put, app, ovl, rep, ne0, ge0, inb, bnd, room, sroom, need, br, call, loop, cut, nl⟩ := o
  refine h _ _ _ _ _ _ _ _ _ _ _ _ _ _ _ _ _ _ _ _ _ _ _ _ _ _ _ _ _ _ _ _ _ _ _ _ _ _ _ _ ?_ ?_ _ (fun v h hp => hp)
  · have e := ho.symm
    unfold real at e
    injection e with e_ar e_un e_cv e_mn e_mx e_pl e_mi e_cmp e_nt e_beq e_an e_scmp e_cat e_slen e_sbyte e_ssub e_ofB e_toB e_len e_gi e_gb e_gs e_gl e_sub e_put e_app e_ovl e_rep e_ne0 e_ge0 e_inb e_bnd e_room e_sroom e_need e_br e_call e_loop e_cut e_nl
    subst e_ar e_un e_cv e_mn e_mx e_pl e_mi e_cmp e_nt e_beq e_an e_scmp e_cat e_slen e_sbyte e_ssub e_ofB e_toB e_len e_gi e_gb e_gs e_gl e_sub e_put e_app e_ovl e_rep e_ne0 e_ge0 e_inb e_bnd e_room e_sroom e_need e_br e_call e_loop e_cut e_nl
    constructor <;> intros <;> rfl
  · exact ⟨fun h1 h2 => real_need ho h1 h2, fun h1 h2 => real_br ho h1 h2, fun h1 h2 h3 => by subst h2; exact real_call ho h1 h3, fun t n et _ h1 h2 h3 h4 h5 => real_born ho h1 h2 h3 h4 h5, fun n0 j n et _ _ _ h0 h1 h2 h3 h4 h5 => real_bornC ho h0 h1 h2 h3 h4 h5, fun h1 h2 => real_nl ho h1 h2, fun ha hb h => real_cut ho htok ha hb h, fun n sl hs ha hb h hk => real_cutF ho htok (fun p hp => by cases hp) n sl hs ha hb h hk, fun n sl hs I μ a0 ρ0 h0 h1 h2 h3 => real_loop_ok ho htok (fun p hp => by cases hp) n sl hs I μ a0 ρ0 h0 h1 h2 h3⟩
end
end Go.Ab
end
section
/- Loops told by what changes in them. No statement of its own. -/

namespace Go.Ab
open Go.RowKit

def dstsOf : List Oper → List Nat
  | [] => []
  | x :: r => match x.dst with
    | some t => t :: dstsOf r
    | none => dstsOf r

def asgs : Code → List Nat
  | .region _ ops _ => dstsOf ops.toList
  | .seq a b => asgs a ++ asgs b
  | .cond _ a b => asgs a ++ asgs b
  | .block _ b => asgs b
  | .loop b => asgs b
  | .scope b => asgs b
  | .rangeFunc _ ps a b => ps.toList ++ (asgs a ++ asgs b)
  | _ => []

def anyN : List Nat → List Nat → Bool
  | [], _ => false
  | n :: r, l => match memN n l with
    | true => true
    | false => anyN r l

def stays (as_ ns : List Nat) : Nat → List V → List (Nat × V)
  | _, [] => []
  | t, v :: r => match memN t as_ with
    | true => stays as_ ns (t + 1) r
    | false => match v with
      | .dead => stays as_ ns (t + 1) r
      | v => match anyN (names v) ns with
        | true => stays as_ ns (t + 1) r
        | false => (t, v) :: stays as_ ns (t + 1) r

def namesU : List (Nat × V) → List Nat
  | [] => []
  | (_, v) :: r => names v ++ namesU r

def keysOf {α : Type} : List (Nat × α) → List Nat
  | [] => []
  | (n, _) :: r => n :: keysOf r

def slotsU (b : Code) (dr : List Nat) (tm : List V) (up : List (Nat × V)) : List (Nat × V) := up ++ stays (keysOf up ++ asgs b) (namesU up ++ dr) 0 tm

def restH (seen : List Nat) : Hp → Hp
  | [] => []
  | (n, b) :: r => match memN n seen with
    | true => restH seen r
    | false => match b with
      | .gone => restH (n :: seen) r
      | b => (n, b) :: restH (n :: seen) r

def heapU (dr : List Nat) (hp uh : Hp) : Hp := uh ++ restH (keysOf uh ++ dr) hp

def matV : V → V → List (Nat × Nat)
  | .row n, .row m => [(n, m)]
  | .rowp n _ _, .rowp m _ _ => [(n, m)]
  | .ptr n _, .ptr m _ => [(n, m)]
  | .ep n _ _, .ep m _ _ => [(n, m)]
  | _, _ => []

def matL : List V → List V → List (Nat × Nat)
  | a :: r, b :: s => matV a b ++ matL r s
  | _, _ => []

def mat1 : V → V → List (Nat × Nat)
  | .agg cs, .agg ds => matL cs ds
  | a, b => matV a b

def matU : List (Nat × V) → List V → List (Nat × Nat)
  | [], _ => []
  | (t, v) :: r, tm => mat1 v (tm.getD t .dead) ++ matU r tm

def matH : Hp → Hp → List (Nat × Nat)
  | [], _ => []
  | (n, b) :: r, hp => (match b, look hp n with
    | .cells _ cs, some (.cells _ ds) => matL cs ds
    | _, _ => []) ++ matH r hp

def rhoU (up : List (Nat × V)) (uh : Hp) (tm : List V) (hp : Hp) : List (Nat × Nat) := matU up tm ++ matH uh hp

structure FitsU (ns : List Nat) (b : Code) (dr : List Nat) (tm0 : List V) (hp0 : Hp) (up : List (Nat × V)) (uh : Hp) (tm : List V) (hp : Hp) : Prop where
  len : tm.length = tm0.length
  slots : fitsS (rhoU up uh tm hp) tm (slotsU b dr tm0 up)
  rows : fitsH (rhoU up uh tm hp) hp (heapU dr hp0 uh)
  ok : okState (rhoU up uh tm hp) (slotsU b dr tm0 up) (heapU dr hp0 uh) = true
  anc : ancOk (rhoU up uh tm hp) (heapU dr hp0 uh) ns = true

theorem FitsU.fits {ns : List Nat} {b : Code} {dr : List Nat} {tm0 : List V} {hp0 : Hp} {up : List (Nat × V)} {uh : Hp} {tm : List V} {hp : Hp} (h : FitsU ns b dr tm0 hp0 up uh tm hp) : Fits ns tm0.length (rhoU up uh tm hp) (slotsU b dr tm0 up) (heapU dr hp0 uh) tm hp :=
  ⟨h.len, h.slots, h.rows, h.ok, h.anc⟩

section
variable {P : Program} {T : Tr} {W : Nat → List (List Nat)} {ns : List Nat} {ar : BinOp → IntKind → Int → Int → Int} {un : UnOp → IntKind → Int → Int} {cv : IntKind → Int → Int} {mn : Int → Int → Int} {mx : Int → Int → Int} {pl : Int → Int → Int} {mi : Int → Int → Int} {cmp : BinOp → Int → Int → Bool} {nt : Bool → Bool} {beq : Bool → Bool → Bool} {an : Bool → Bool → Bool} {scmp : BinOp → ByteArray → ByteArray → Bool} {cat : ByteArray → ByteArray → ByteArray} {slen : ByteArray → Int} {sbyte : ByteArray → Int → Int} {ssub : ByteArray → Int → Int → ByteArray} {ofB : ByteArray → List V} {toB : List V → ByteArray} {len : List V → Int} {gi : List V → Int → Nat → Int} {gb : List V → Int → Nat → Bool} {gs : List V → Int → Nat → ByteArray} {gl : List V → Int → Nat → List V} {sub : List V → Int → Int → List V} {put : List V → Int → Nat → List V → List V} {app : List V → List V → List V} {ovl : List V → Int → List V → List V} {rep : Int → V → List V} {ne0 : Int → Prop} {ge0 : Int → Prop} {inb : Int → Int → Prop} {bnd : Int → Int → Int → Prop} {room : Int → Nat → Prop} {sroom : ByteArray → ByteArray → Prop} {need : Prop → Prop → Prop} {br : Bool → (Unit → Prop) → (Unit → Prop) → Prop} {call : Nat → List V → (V → Hp → Prop) → Prop} {loop : Code → (Exit → List V → Hp → Prop) → List V → Hp → Prop} {cut : Code → Code → (Exit → List V → Hp → Prop) → List V → Hp → Prop} {nl : List V → (Unit → Prop) → (Unit → Prop) → Prop}

theorem Rules.loopU (R : Rules P T W ns ar un cv mn mx pl mi cmp nt beq an scmp cat slen sbyte ssub ofB toB len gi gb gs gl sub put app ovl rep ne0 ge0 inb bnd room sroom need br call loop cut nl)
    {b : Code} {K : Exit → List V → Hp → Prop} {tm : List V} {hp : Hp} {α : Type} (dr : List Nat) (up : α → List (Nat × V)) (uh : α → Hp) (I : α → Prop) (μ : α → Nat) (a0 : α) (h0 : I a0) (hf : FitsU ns b dr tm hp (up a0) (uh a0) tm hp) (hok : codeOk W b = true)
    (hs : ∀ a, I a → ∀ L : List V → Hp → Prop, (∀ a' tm' hp', I a' → μ a' < μ a → FitsU ns b dr tm hp (up a') (uh a') tm' hp' → L tm' hp') → vc ⟨ar, un, cv, mn, mx, pl, mi, cmp, nt, beq, an, scmp, cat, slen, sbyte, ssub, ofB, toB, len, gi, gb, gs, gl, sub, put, app, ovl, rep, ne0, ge0, inb, bnd, room, sroom, need, br, call, loop, cut, nl⟩ T W b (fun e tm hp => match e with | .normal => L tm hp | e => K e tm hp) (mkS tm.length (slotsU b dr tm (up a))) (heapU dr hp (uh a))) : loop b K tm hp := by
  refine R.loop' tm.length (fun a => slotsU b dr tm (up a)) (fun a => heapU dr hp (uh a)) I (fun a => μ a) a0 _ h0 hf.fits hok (fun a ha L hL => ?_)
  exact hs a ha L (fun a' tm' hp' h1 h2 h3 => hL a' _ tm' hp' h1 h2 h3.fits)
end
end Go.Ab
end
