/- A range over a function whose iterator writes no memory of the caller's: any invariant of the caller's goes through. -/
import Derived.RangeFuncKeeps
import Derived.RangeFuncLeaves
namespace Go.Proofs.Ytmpdimigpaogkaa.G
open Go.RowKit

/-- How a round's body may be left. -/
def roundEnds {α : Type} (J : List α → World → Prop) (Jx : Code → List α → World → Prop) (xs : List α) (W : World) : Exit → Act → World → Prop
  | .normal, _, W' => KeepsOthers W W' ∧ J xs W'
  | .ret, _, W' => KeepsOthers W W' ∧ Jx .ret xs W'
  | .exit id, _, W' => KeepsOthers W W' ∧ Jx (.exit id) xs W'
  | _, _, _ => False

/-- What an iterator promises: St pre x: x may come behind pre; S: all that came; Sp ch pre: it panics behind pre. -/
def IterGives {α : Type} (F : Fence) (n : Nat) (P : Program) (g : Nat) (lb : Array Value) (encs : α → Array Value) (R : World → Prop) (St : List α → α → Prop) (S : List α → Prop) (Sp : List PanicEntry → List α → Prop) : Prop :=
  ∀ (l : Nat) (J Jx : List α → World → Prop) (W : World), (∀ pre W, J pre W → R W) → (∀ pre W W', J pre W → Below W.heap.size W W' → J pre W') →
    (∀ pre x W1, J pre W1 → St pre x → YieldAt F (n - 1) P l (encs x) W1 fun e W' => (e = .returned (.bool true) ∧ J (pre ++ [x]) W') ∨ (e = .returned (.bool false) ∧ Jx (pre ++ [x]) W')) →
    J [] W → CallsIn F n P g (#[.func (.yield l) #[] #[]] ++ lb) W fun e W' =>
      (∃ v, e = .returned v ∧ ∃ xs, S xs ∧ J xs W') ∨ (∃ v, e = .returned v ∧ ∃ pre W2, Jx pre W2 ∧ Below W2.heap.size W2 W') ∨ (∃ ch pre, e = .panicked ch ∧ Sp ch pre ∧ J pre W')

theorem rangeFunc_law {α : Type} {F : Fence} {n : Nat} {P : Program} {g : Operand} {ps : Array Tmp} {assign body : Code} {Q : Exit → Act → World → Prop} {a : Act} {w : World}
    (hro : F.round = none) (h1 : 1 ≤ n) {gf : Nat} {lb : Array Value} (hg : a.eval g = .func (.func gf) #[] lb) (hFg : F.fn gf) (eg : ∀ args w, (callFunc gf args).run P w = .ok (.enter gf args) w)
    {encs : α → Array Value} {R : World → Prop} {St : List α → α → Prop} {S : List α → Prop} {Sp : List PanicEntry → List α → Prop} (hseq : IterGives F (n - 1) P gf lb encs R St S Sp) (hps : ∀ x, (encs x).size = ps.size)
    (J : List α → World → Prop) (Jx : Code → List α → World → Prop) (hR : ∀ pre W, J pre W → R W)
    (hJp : ∀ pre W o, J pre W → J pre (W.putObj (w.heap.size + 1) o)) (hJb : ∀ pre W W', J pre W → Below W.heap.size W W' → J pre W')
    (hXp : ∀ c pre W o, Jx c pre W → Jx c pre (W.putObj (w.heap.size + 1) o)) (hXb : ∀ c pre W W', Jx c pre W → Below W.heap.size W W' → Jx c pre W')
    (h0 : ∀ r, J [] ((w.alloc (.deferred (some []))).alloc (.loop r))) (J1 : List α → α → Act → World → Prop) (h1p : ∀ pre x a1 W o, J1 pre x a1 W → J1 pre x a1 (W.putObj (w.heap.size + 1) o))
    (hassign : ∀ (l : Nat) (pre : List α) (x : α) (W : World), J pre W → St pre x →
      assign.wpIn (F.inRound l) (n - 1 - 1) P (Exit.then (fun a1 W1 => KeepsOthers W W1 ∧ J1 pre x a1 W1) (fun _ _ _ => False)) { tmps := (ps.zip (encs x)).foldl (fun t (p, v) => t.setIfInBounds p v) a.tmps, defers := [] } W)
    (hbody : ∀ (l : Nat) (pre : List α) (x : α) (a1 : Act) (W : World), J1 pre x a1 W → body.wpIn (F.inRound l) (n - 1 - 1) P (roundEnds J Jx (pre ++ [x]) W) a1 W)
    (hdone : ∀ (D : Nat) (xs : List α) (W : World), S xs → J xs W → W.heap[D]? = some (.deferred (some [])) → w.heap.size ≤ D → Q .normal { a with defers := { target := .collected D, args := #[] } :: a.defers } W)
    (hstop : ∀ (D : Nat) (c : Code) (pre : List α) (W : World), Jx c pre W → W.heap[D]? = some (.deferred (some [])) → w.heap.size ≤ D → c.wpIn F n P Q { a with defers := { target := .collected D, args := #[] } :: a.defers } W)
    (hpanic : ∀ (D : Nat) (ch : List PanicEntry) (pre : List α) (W : World), Sp ch pre → J pre W → W.heap[D]? = some (.deferred (some [])) → w.heap.size ≤ D → Q (.panic ch) { a with defers := { target := .collected D, args := #[] } :: a.defers } W) :
    (Code.rangeFunc g ps assign body).wpIn F n P Q a w := by
  refine wpIn_rangeFunc ?_
  intro fn hfn
  rw [hro]
  let rec_ : LoopState → Option Code → Loop := fun st pe => { state := st, pending := pe, fn, tmps := a.tmps, params := ps, assign, body, defers := w.heap.size }
  obtain ⟨W1, hW1⟩ : ∃ W1, (w.alloc (.deferred (some []))).alloc (.loop (rec_ .ready none)) = W1 := ⟨_, rfl⟩
  have hL1 : W1.heap[w.heap.size + 1]? = some (.loop (rec_ .ready none)) := by
    rw [← hW1]
    have := World.alloc_heap_new (w.alloc (.deferred (some []))) (.loop (rec_ .ready none))
    rwa [World.size_alloc] at this
  have hK1 : W1.heap[w.heap.size]? = some (.deferred (some [])) := by
    rw [← hW1]
    exact (Below.heap_alloc _ _ _ (by simp)).trans (World.alloc_heap_new w _)
  have hI1 : J [] W1 := by rw [← hW1]; exact h0 _
  refine ⟨w.heap.size + 1, [{ target := .collected w.heap.size, args := #[] }], W1, { target := .fn (.func gf) lb, args := #[.func (.yield (w.heap.size + 1)) #[] #[]] }, W1, gf,
    #[.func (.yield (w.heap.size + 1)) #[] #[]] ++ lb, W1, ?_, ?_, ?_, ?_, fun _ => h1, ?_⟩
  · rw [← hW1]; exact run_enterLoop_outer _ _ _ _ _
  · simp only [resolve, hg]
    simp [go_sem]
  · intro f' hf'
    simp [Target.leads] at hf'
    subst hf'
    exact hFg
  · simp [invoke, go_sem, eg]
  have blk : ∀ {W W' : World} {k : Nat} {o : Obj}, Below W.heap.size W W' → W.heap[k]? = some o → W'.heap[k]? = some o := fun hb hk => (hb.block _ (Array.getElem?_eq_some_iff.1 hk).1).trans hk
  refine (hseq (w.heap.size + 1)
    (fun pre W => J pre W ∧ W.heap[w.heap.size + 1]? = some (.loop (rec_ .ready none)) ∧ W.heap[w.heap.size]? = some (.deferred (some [])))
    (fun pre W => ∃ c, Jx c pre W ∧ W.heap[w.heap.size + 1]? = some (.loop (rec_ .done (some c))) ∧ W.heap[w.heap.size]? = some (.deferred (some [])))
    W1 (fun pre W h => hR pre W h.1) (fun pre W W' h hb => ⟨hJb pre W W' h.1 hb, blk hb h.2.1, blk hb h.2.2⟩) ?_ ⟨hI1, hL1, hK1⟩).mono ?_
  · rintro pre x W ⟨hi, hl, hk⟩ hst
    have hlt : w.heap.size + 1 < W.heap.size := (Array.getElem?_eq_some_iff.1 hl).1
    refine ⟨fn, _, assign, body, run_yield (P := P) (args := encs x) hl (hps x), roundIn_of_wpIn hfn (wpIn_mono (hassign _ pre x W hi hst) ?_)⟩
    rintro e0 a0 W0 he0
    cases e0 with
    | normal =>
      obtain ⟨hk0, hj0⟩ := he0
      have hl := hk0.same _ _ hl rfl
      have hk := hk0.same _ _ hk rfl
      have hlt : w.heap.size + 1 < W0.heap.size := (Array.getElem?_eq_some_iff.1 hl).1
      refine ⟨_, run_beginRound hl rfl, ?_⟩
      have hl2 : (W0.putObj (w.heap.size + 1) (.loop (rec_ .busy none))).heap[w.heap.size + 1]? = some (.loop (rec_ .busy none)) := World.putObj_heap_same hlt
      have hk2 : (W0.putObj (w.heap.size + 1) (.loop (rec_ .busy none))).heap[w.heap.size]? = some (.deferred (some [])) := (World.putObj_heap_other (by omega)).trans hk
      refine wpIn_mono (hbody _ pre x _ _ (h1p _ _ _ _ _ hj0)) ?_
      have fin : ∀ (jump : Option Code) (W3 : World), KeepsOthers (W0.putObj (w.heap.size + 1) (.loop (rec_ .busy none))) W3 →
          (Instr.endRound (w.heap.size + 1) jump).run P W3 = .ok (.bool jump.isNone) (W3.putObj (w.heap.size + 1) (.loop (rec_ (if jump.isNone then .ready else .done) jump))) ∧
          (W3.putObj (w.heap.size + 1) (.loop (rec_ (if jump.isNone then .ready else .done) jump))).heap[w.heap.size + 1]? = some (.loop (rec_ (if jump.isNone then .ready else .done) jump)) ∧
          (W3.putObj (w.heap.size + 1) (.loop (rec_ (if jump.isNone then .ready else .done) jump))).heap[w.heap.size]? = some (.deferred (some [])) := fun jump W3 hk3 => by
        have hl3 := hk3.same _ _ hl2 rfl
        exact ⟨run_endRound (P := P) jump hl3, World.putObj_heap_same (Array.getElem?_eq_some_iff.1 hl3).1, (World.putObj_heap_other (by omega)).trans (hk3.same _ _ hk2 rfl)⟩
      rintro e a3 W3 hp
      cases e with
      | normal =>
        obtain ⟨hk3, hi3⟩ := hp
        obtain ⟨hr, hl4, hk4⟩ := fin none W3 hk3
        exact ⟨_, _, hr, .inl ⟨rfl, hJp _ _ _ hi3, hl4, hk4⟩⟩
      | ret =>
        obtain ⟨hk3, hi3⟩ := hp
        obtain ⟨hr, hl4, hk4⟩ := fin (some .ret) W3 hk3
        exact ⟨_, _, hr, .inr ⟨rfl, .ret, hXp _ _ _ _ hi3, hl4, hk4⟩⟩
      | exit id =>
        obtain ⟨hk3, hi3⟩ := hp
        obtain ⟨hr, hl4, hk4⟩ := fin (some (.exit id)) W3 hk3
        exact ⟨_, _, hr, .inr ⟨rfl, .exit id, hXp _ _ _ _ hi3, hl4, hk4⟩⟩
      | goto t => exact hp.elim
      | panic ch => exact hp.elim
      | outgrown => exact hp.elim
    | ret => exact he0.elim
    | exit id => exact he0.elim
    | goto t => exact he0.elim
    | panic ch => exact he0.elim
    | outgrown => exact he0.elim
  · rintro e W2 (⟨v, rfl, xs, hS, hi, hl, hk⟩ | ⟨v, rfl, pre, W3, ⟨c, hx, hl, hk⟩, hb⟩ | ⟨ch, pre, rfl, hSp, hi, hl, hk⟩)
    · have hr := run_endLoop (P := P) hl (by simp [rec_])
      exact ⟨none, _, hr, hdone _ xs _ hS (hJp _ _ _ hi) ((World.putObj_heap_other (by omega)).trans hk) (Nat.le_refl _)⟩
    · have hr := run_endLoop (P := P) (blk hb hl) (by simp [rec_])
      exact ⟨some c, _, hr, hstop _ c pre _ (hXp _ _ _ _ (hXb _ _ _ _ hx hb)) ((World.putObj_heap_other (by omega)).trans (blk hb hk)) (Nat.le_refl _)⟩
    · exact hpanic _ ch pre _ hSp hi hk (Nat.le_refl _)
end Go.Proofs.Ytmpdimigpaogkaa.G
