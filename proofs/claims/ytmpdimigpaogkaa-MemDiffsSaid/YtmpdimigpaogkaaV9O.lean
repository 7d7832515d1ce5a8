/- A text of the proof of MemDiffs: what of it that proof uses. No statement of its own. -/
import Derived.Test.YtmpdimigpaogkaaV9WWords
import Derived.Deep.Slices
import Derived.OpenShut
import Derived.ProofKit
import Derived.WalkKit
namespace Go.Proofs.Ytmpdimigpaogkaa.O
open Go.RowKit Go.ChangeShapes Go.WideShapes Go.ChangeAt Go.Deep Go.Proofs.YtmpdimigpaogkaaW.PrintWords
set_option linter.unusedVariables false
set_option linter.unusedSimpArgs false
section
variable {H : Type} (enc : TypeId × Value → H) (P : Program) (w : World)
/-- What a reading of type t brings: a value of the kind d. -/
def Opens {α : Type} (d : Kd α) (t : TypeId) (ok : α → Prop) : Prop := ∀ fuel cs x, DataW.trod enc P w 0 (fun _ => true) true fuel t cs = some x → ∃ a, d.K w a cs ∧ ok a
theorem Opens.int {t : TypeId} {k : IntKind} (ht : P.underlying t = some (.int k)) : Opens enc P w (Kd.int k) t (fun n => (Lit.int k n).wf = true) := by
  intro fuel cs x h
  obtain ⟨n, rfl, _, hw⟩ := DataW.trod_int ht h
  exact ⟨n, rfl, hw⟩
variable {enc P w}
theorem list_of_each {α : Type} (p : Nat → α → Prop) : ∀ n, (∀ i, i < n → ∃ y, p i y) → ∃ l : List α, l.length = n ∧ ∀ i y, l[i]? = some y → p i y
  | 0, _ => ⟨[], rfl, by simp⟩
  | n + 1, h => by
    obtain ⟨l, hl, hp⟩ := list_of_each p n (fun i hi => h i (by omega))
    obtain ⟨y, hy⟩ := h n (by omega)
    refine ⟨l ++ [y], by simp [hl], fun i z hz => ?_⟩
    rcases Nat.lt_or_ge i n with hi | hi
    · rw [List.getElem?_append_left (by omega)] at hz
      exact hp i z hz
    · rw [List.getElem?_append_right (by omega), hl] at hz
      have : i = n := by
        rcases Nat.lt_or_ge (i - n) 1 with h1 | h1
        · omega
        · rw [List.getElem?_eq_none (by simpa using h1)] at hz; cases hz
      subst this
      simp at hz
      exact hz ▸ hy
theorem Opens.slice {α : Type} {d : Kd α} {ok : α → Prop} {t e : TypeId} (ht : P.underlying t = some (.slice e)) (hsz : P.cellsOf e = d.sz) (hd : Opens enc P w d e ok) : Opens enc P w (Kd.slice e d) t (fun l => l.length ≤ maxLen ∧ ∀ x ∈ l, ok x) := by
  intro fuel cs x h
  rcases open_slice ht h with ⟨rfl, rfl⟩ | ⟨a, len, cap, m, n, D, Pl, rfl, hb, hl, hm, hmm, rfl, hel⟩
  · exact ⟨[], ⟨none, 0, rfl, Nat.le_refl _, rfl, by simp, by simp⟩, by simp, by simp⟩
  · simp only [if_true] at hmm
    subst hmm
    obtain ⟨l, hll, hp⟩ := list_of_each (fun i y => ok y ∧ ∃ c, c.length = d.sz ∧ d.K w y c ∧ ∀ j u, c[j]? = some u → w.cell? (a.add (i * d.sz + j)) = some u) len (fun i hi => by
      obtain ⟨cs', hc, ht'⟩ := hel i (by omega)
      obtain ⟨y, hK, hok⟩ := hd _ _ _ ht'
      obtain ⟨_, hlen, hcell⟩ := World.cells?_some hc
      refine ⟨y, hok, cs', by rw [hlen, hsz], hK, fun j u hu => ?_⟩
      have hj : j < cs'.length := by
        rcases Nat.lt_or_ge j cs'.length with h | h
        · exact h
        · rw [List.getElem?_eq_none h] at hu; cases hu
      rw [← hu, ← hcell j (by omega), ← hsz, Go.Addr.add_add])
    refine ⟨l, ⟨some a, m, by rw [hll], by omega, rfl, ?_, fun _ => ⟨a, rfl, fun j p hj => (hp j p hj).2⟩⟩, by omega, fun x hx => ?_⟩
    · have : maxLen = 9223372036854775807 := by decide
      omega
    · obtain ⟨i, hi, rfl⟩ := List.mem_iff_getElem.mp hx
      exact (hp i _ (List.getElem?_eq_getElem hi)).1
/-- The same of the fields from one on. -/
def OpensAt (enc : TypeId × Value → H) (P : Program) (w : World) {α : Type} (d : Kd α) (fs : List Field) (off : Nat) (ok : α → Prop) : Prop :=
  ∀ cs : List Value, cs.length = off + d.sz → (∀ f ∈ fs, ∃ fuel y, DataW.trod enc P w 0 (fun _ => true) true fuel f.type ((cs.drop f.offset).take (P.cellsOf f.type)) = some y) → ∃ a, d.K w a (cs.drop off) ∧ ok a
theorem OpensAt.last {α : Type} {d : Kd α} {ok : α → Prop} {f : Field} {off : Nat} (ho : f.offset = off) (hsz : P.cellsOf f.type = d.sz) (hd : Opens enc P w d f.type ok) : OpensAt enc P w d [f] off ok := by
  intro cs hl h
  obtain ⟨fuel, y, hy⟩ := h f (by simp)
  rw [ho, hsz, List.take_of_length_le (by simp; omega)] at hy
  exact hd _ _ _ hy
theorem OpensAt.cons {α β : Type} {d : Kd α} {d' : Kd β} {ok : α → Prop} {ok' : β → Prop} {f : Field} {fs : List Field} {off : Nat} (ho : f.offset = off) (hsz : P.cellsOf f.type = d.sz) (hd : Opens enc P w d f.type ok) (hr : OpensAt enc P w d' fs (off + d.sz) ok') :
    OpensAt enc P w (Kd.pair d d') (f :: fs) off (fun x => ok x.1 ∧ ok' x.2) := by
  intro cs hl h
  obtain ⟨fuel, y, hy⟩ := h f (by simp)
  rw [ho, hsz] at hy
  obtain ⟨a, hK, hoka⟩ := hd _ _ _ hy
  have hl2 : cs.length = off + d.sz + d'.sz := by rw [hl]; show off + (d.sz + d'.sz) = _; omega
  obtain ⟨b, hKb, hokb⟩ := hr cs hl2 (fun g hg => h g (by simp [hg]))
  refine ⟨(a, b), ⟨_, _, ?_, hK, hKb⟩, hoka, hokb⟩
  rw [← List.drop_drop, List.take_append_drop]
theorem Opens.struct {α : Type} {d : Kd α} {ok : α → Prop} {t : TypeId} {fs : Array Field} (ht : P.underlying t = some (.struct fs)) (hsz : P.cellsOf t = d.sz) (h0 : OpensAt enc P w d fs.toList 0 ok) : Opens enc P w d t ok := by
  intro fuel cs x h
  obtain ⟨xs, n, rfl, rfl, hl, hxl, hf⟩ := DataW.trod_struct ht h
  obtain ⟨a, hK, hok⟩ := h0 cs (by rw [hl, hsz, Nat.zero_add]) (fun f hf' => by
    obtain ⟨i, hi, rfl⟩ := List.mem_iff_getElem.mp hf'
    have h1 := hf i fs.toList[i] (by simp at hi ⊢)
    have h2 : i < xs.length := by simp at hi; omega
    rw [List.getElem?_eq_getElem h2] at h1
    exact ⟨_, _, h1⟩)
  exact ⟨a, hK, hok⟩
end
end Go.Proofs.Ytmpdimigpaogkaa.O
