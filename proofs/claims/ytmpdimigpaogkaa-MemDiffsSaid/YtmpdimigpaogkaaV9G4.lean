/- A text of the proof of MemDiffs: what of it that proof uses. No statement of its own. -/
import Derived.Test.YtmpdimigpaogkaaV9G3
import Derived.Test.YtmpdimigpaogkaaV9GI
import Derived.Deep.WholeRow
namespace Go.Proofs.Ytmpdimigpaogkaa.G
open Go.RowKit Go.Proofs.YtmpdimigpaogkaaW.PrintWords Go.Proofs.YtmpdimigpaogkaaW.PrintLast Go.Proofs.YtmpdimigpaogkaaW.PrintMore
set_option linter.unusedVariables false
set_option linter.unusedSimpArgs false
attribute [local go_sem] Oper.semAt_some

theorem two_blocks {w w1 : World} {b1 b2 : Obj} (hb : Below ((w.alloc b1).alloc b2).heap.size ((w.alloc b1).alloc b2) w1) :
    Below w.heap.size w w1 ∧ w1.heap[w.heap.size]? = some b1 ∧ w1.heap[w.heap.size + 1]? = some b2 ∧ w.heap.size + 1 < w1.heap.size := by
  have hs := hb.size
  simp only [World.size_alloc] at hs
  refine ⟨(((Below.refl _ w).alloc (Nat.le_refl _) _).alloc (by simp) _).trans (hb.mono (by simp only [World.size_alloc]; omega)), ?_, ?_, by omega⟩
  · exact (hb.block w.heap.size (by simp only [World.size_alloc]; omega)).trans ((Below.heap_alloc _ _ _ (by simp)).trans (World.alloc_heap_new w _))
  · have h_ := World.alloc_heap_new (w.alloc b1) b2
    rw [World.size_alloc] at h_
    exact (hb.block (w.heap.size + 1) (by simp only [World.size_alloc]; omega)).trans h_

section
variable {F : Fence} {n : Nat} {P : Program} {ops : Array Oper} {rest : List Oper} {o : Oper} {a : Act} {Q : Exit → Act → World → Prop} {w w0 : World}
/-- A whole array is stored into the block that was made last. -/
theorem wpListIn_storeNew {t : TypeId} {x y : Operand} {c c' : Array Value} (hg : o.guard = none) (ho : o.op = .store t x y) (hx : a.eval x = .pointer (some ⟨w0.heap.size, 0, none⟩)) (hy : a.eval y = .agg c') (hw : w = w0.alloc (.cells c t))
    (hi : (P.info? t).map (·.size) = some c'.size) (hs : c.size = c'.size) (h1 : c'.all (·.oneCell') = true) (h : wpListIn F n P ops Q rest (a.put o.dst undef) (w0.alloc (.cells c' t))) : wpListIn F n P ops Q (o :: rest) a w := by
  subst hw
  refine wpListIn_plain hg fun K hK => ?_
  unfold Oper.wpIn
  refine ⟨fun f hf => (by simp [Oper.about, ho] at hf), ?_⟩
  rw [Oper.semAt_plain F _ _ (by rw [ho]; intro c hc; cases hc)]
  unfold execOp
  simp only [ho, hx, hy, Sem.run_bind, run_storeAt_new w0 t c c' hi hs h1, Result.andThen_ok]
  exact hK _ _ h
end
theorem fold_two (T : Array Value) (a b : Nat) (x y : Value) : (#[a, b].zip #[x, y]).foldl (fun t (p, v) => t.setIfInBounds p v) T = (T.setIfInBounds a x).setIfInBounds b y := by
  simp
theorem flat_len : ∀ (pre : List (Nat × List Int)), (∀ x ∈ pre, x.2.length = 64) → (pre.flatMap (·.2)).length = 64 * pre.length
  | [], _ => rfl
  | x :: r, h => by
    have h1 := h x (by simp)
    have h2 := flat_len r (fun y hy => h y (by simp [hy]))
    simp only [List.flatMap_cons, List.length_append, List.length_cons, h1, h2]
    omega
/-- The pages of a list, one behind the other, are the list. -/
theorem pages_flat (l : List Int) : ∀ n, l.length = 64 * n → ((List.range n).map fun i => (i, pageAt l i)).flatMap (·.2) = l := by
  have key : ∀ n, ((List.range n).map fun i => (i, pageAt l i)).flatMap (·.2) = l.take (64 * n) := by
    intro n
    induction n with
    | zero => simp
    | succ n ih =>
      rw [List.range_succ, List.map_append, List.flatMap_append, ih]
      simp only [List.map_cons, List.map_nil, List.flatMap_cons, List.flatMap_nil, List.append_nil, pageAt]
      rw [Nat.mul_succ, List.take_add]
  intro n hn
  rw [key n, List.take_of_length_le (by omega)]
/-- What holds between two rounds. -/
def CopyInv (w : World) (g3 R : Nat) (A0 : Option Addr) (c0 : Nat) (l0 : List Int) (A1 : Option Addr) (c1 : Nat) (l1 : List Int) (Ap : Option Addr) (cp : Nat) (n0 : Nat) (pre : List (Nat × List Int)) (W : World) : Prop :=
  ∃ v : Value, W.heap[g3]? = some (.cells #[.slice Ap l0.length cp, v] 25 (0, 0)) ∧ Kd.R (Kd.int .u8) 5 W w.heap.size (fun k => k ≠ R) v (pre.flatMap (·.2)) ∧ Kd.R (Kd.int .i64) 3 W w.heap.size (fun k => k ≠ R) (.slice Ap l0.length cp) l0 ∧
    W.heap[w.heap.size + 1]? = some (.cells #[.slice none 0 0, .slice none 0 0] 25 (0, 0)) ∧ W.heap[g3 + 1]? = some (.cells #[.slice A0 l0.length c0, .slice A1 l1.length c1] 25 (0, 0)) ∧ Below w.heap.size w W ∧ R < W.heap.size + n0 ∧ ∀ x ∈ pre, x.2.length = 64

/-- The frame of a round: the page stands in block gp. -/
def CopyJ1 (w : World) (g3 R : Nat) (A0 : Option Addr) (c0 : Nat) (l0 : List Int) (A1 : Option Addr) (c1 : Nat) (l1 : List Int) (Ap : Option Addr) (cp : Nat) (pre : List (Nat × List Int)) (x : Nat × List Int) (a1 : Act) (W : World) : Prop :=
  ∃ gp, a1 = { tmps := #[.agg #[.slice A0 l0.length c0, .slice A1 l1.length c1], .pointer (some ⟨w.heap.size, 0, none⟩), .pointer (some ⟨w.heap.size + 1, 0, none⟩), .pointer (some ⟨g3, 0, none⟩), undef, .pointer (some ⟨gp, 0, none⟩),
      .pointer (some ⟨w.heap.size, 0, none⟩), .slice A0 l0.length c0, .slice Ap l0.length cp, .agg #[.slice Ap l0.length cp, .slice none 0 0], .agg #[.slice A0 l0.length c0, .slice A1 l1.length c1],
      .func (.func 81) #[] #[.pointer (some ⟨g3 + 1, 0, none⟩)], .int .i64 x.1, .agg (x.2.map (Value.int .u8)).toArray, undef, undef, undef, undef, undef, undef], defers := [] } ∧
    W.heap[gp]? = some (.cells (x.2.map (Value.int .u8)).toArray 121 (0, 0)) ∧ R < gp ∧ x.2.length = 64 ∧ pre.length < 32 ∧ CopyInv w g3 R A0 c0 l0 A1 c1 l1 Ap cp 0 pre W
theorem CopyInv.below {w W W' : World} {g3 R : Nat} {A0 : Option Addr} {c0 : Nat} {l0 : List Int} {A1 : Option Addr} {c1 : Nat} {l1 : List Int} {Ap : Option Addr} {cp n0 : Nat} {pre : List (Nat × List Int)} (h : CopyInv w g3 R A0 c0 l0 A1 c1 l1 Ap cp n0 pre W)
    (h1 : w.heap.size + 1 < g3) (h2 : g3 + 1 < R) (hb : Below W.heap.size W W') : CopyInv w g3 R A0 c0 l0 A1 c1 l1 Ap cp n0 pre W' := by
  obtain ⟨v, a1, a2, a3, a4, a5, a6, a7, a9⟩ := h
  have lt : ∀ {k : Nat} {o : Obj}, W.heap[k]? = some o → k < W.heap.size := fun hk => (Array.getElem?_eq_some_iff.1 hk).1
  exact ⟨v, (hb.block _ (lt a1)).trans a1, Kd.R_below a2 hb, Kd.R_below a3 hb, (hb.block _ (lt a4)).trans a4, (hb.block _ (lt a5)).trans a5, a6.trans (hb.mono a6.size), by have := hb.size; omega, a9⟩
theorem CopyInv.put {w W : World} {g3 R : Nat} {A0 : Option Addr} {c0 : Nat} {l0 : List Int} {A1 : Option Addr} {c1 : Nat} {l1 : List Int} {Ap : Option Addr} {cp n0 : Nat} {pre : List (Nat × List Int)} {o : Obj} (h : CopyInv w g3 R A0 c0 l0 A1 c1 l1 Ap cp n0 pre W)
    (h1 : w.heap.size + 1 < g3) (h2 : g3 + 1 < R) : CopyInv w g3 R A0 c0 l0 A1 c1 l1 Ap cp n0 pre (W.putObj R o) := by
  obtain ⟨v, a1, a2, a3, a4, a5, a6, a7, a9⟩ := h
  have ne : ∀ k, k ≠ R → (W.putObj R o).heap[k]? = W.heap[k]? := fun k hk => World.putObj_heap_other hk
  refine ⟨v, (ne _ (by omega)).trans a1, Kd.R_step a2 (fun k hk _ => ne k hk), Kd.R_step a3 (fun k hk _ => ne k hk), (ne _ (by omega)).trans a4, (ne _ (by omega)).trans a5, a6.trans ⟨rfl, rfl, rfl, by simp, fun k hk => ne k (by omega)⟩, by simpa using a7, a9⟩

def CopyMid (w : World) (g3 R : Nat) (W : World) (A0 : Option Addr) (c0 : Nat) (l0 : List Int) (A1 : Option Addr) (c1 : Nat) (l1 : List Int) (Ap : Option Addr) (cp : Nat) (v0 : Value) (ys : List Int) (v1 : Value) (W' : World) : Prop :=
  W'.heap[g3]? = some (.cells #[.slice Ap l0.length cp, v0] 25 (0, 0)) ∧ Kd.R (Kd.int .u8) 5 W' w.heap.size (fun k => k ≠ R) v1 ys ∧ Kd.R (Kd.int .i64) 3 W' w.heap.size (fun k => k ≠ R) (.slice Ap l0.length cp) l0 ∧
    W'.heap[w.heap.size + 1]? = some (.cells #[.slice none 0 0, .slice none 0 0] 25 (0, 0)) ∧ W'.heap[g3 + 1]? = some (.cells #[.slice A0 l0.length c0, .slice A1 l1.length c1] 25 (0, 0)) ∧ Below w.heap.size w W' ∧ R < W'.heap.size ∧ KeepsOthers W W'
def CopyEnd (w : World) (g3 R : Nat) (W : World) (A0 : Option Addr) (c0 : Nat) (l0 : List Int) (A1 : Option Addr) (c1 : Nat) (l1 : List Int) (Ap : Option Addr) (cp : Nat) (ys : List Int) (W' : World) : Prop :=
  KeepsOthers W W' ∧ ∀ pre : List (Nat × List Int), pre.flatMap (·.2) = ys → (∀ x ∈ pre, x.2.length = 64) → CopyInv w g3 R A0 c0 l0 A1 c1 l1 Ap cp 0 pre W'
section
variable {w W W' W1 : World} {g3 R : Nat} {A0 : Option Addr} {c0 : Nat} {l0 : List Int} {A1 : Option Addr} {c1 : Nat} {l1 : List Int} {Ap : Option Addr} {cp : Nat} {v0 v1 : Value} {ys : List Int}
theorem CopyMid.slice_ (h : CopyMid w g3 R W A0 c0 l0 A1 c1 l1 Ap cp v0 ys v1 W') : ∃ A c, v1 = .slice A ys.length c := Kd.R_slice h.2.1
theorem CopyMid.cell_ (h : CopyMid w g3 R W A0 c0 l0 A1 c1 l1 Ap cp v0 ys v1 W') : W'.cell? ⟨g3, 1, none⟩ = some v0 := (blk_cell h.1 1).trans rfl
theorem CopyMid.frozen_ (h : CopyMid w g3 R W A0 c0 l0 A1 c1 l1 Ap cp v0 ys v1 W') : W'.frozen? ⟨g3, 1, none⟩ = false := blk_frozen h.1 1
theorem copyMid_of {pre : List (Nat × List Int)} (hi : CopyInv w g3 R A0 c0 l0 A1 c1 l1 Ap cp 0 pre W) (hg3 : W.heap[g3]? = some (.cells #[.slice Ap l0.length cp, v0] 25 (0, 0))) (hO : Kd.R (Kd.int .u8) 5 W1 w.heap.size (fun k => k ≠ R) v1 ys) (hB : Below w.heap.size w W1)
    (hg : W.drew.grownBy W1 v0.ownBlock) (_hat : v1.ownBlock = v0.ownBlock ∨ ∃ b, v1.ownBlock = some b ∧ W.drew.heap.size ≤ b) (hs : w.heap.size + 1 < g3 ∧ g3 + 1 < R) : CopyMid w g3 R W A0 c0 l0 A1 c1 l1 Ap cp v0 ys v1 W1 := by
  obtain ⟨v, a1, a2, a3, a4, a5, a6, a7, _⟩ := hi
  rw [hg3] at a1
  simp only [Option.some.injEq, Obj.cells.injEq, Array.mk.injEq, List.cons.injEq, and_true, true_and] at a1
  subst a1
  obtain ⟨inner, hown⟩ := Kd.R_own a2
  have lt : ∀ {k : Nat} {o : Obj}, W.heap[k]? = some o → k < W.heap.size := fun hk => (Array.getElem?_eq_some_iff.1 hk).1
  have ne25 : ∀ {k : Nat} {cs : Array Value}, W.heap[k]? = some (.cells cs 25 (0, 0)) → some k ≠ v0.ownBlock := fun hk => Kd.R_ne a2 hk (by decide)
  have keep : ∀ {k : Nat} {cs : Array Value}, W.heap[k]? = some (.cells cs 25 (0, 0)) → W1.heap[k]? = some (.cells cs 25 (0, 0)) := fun hk => (hg.block _ (lt hk) (ne25 hk)).trans hk
  have hg' : W.grownBy W1 v0.ownBlock := ⟨hg.os, hg.tape, hg.output, hg.size, hg.block⟩
  refine ⟨keep hg3, hO, ?_, keep a4, keep a5, hB, Nat.lt_of_lt_of_le a7 hg.size, ?_⟩
  · refine Kd.R_mono (Kd.R_step (Kd.R_bound a3) (fun k hk hlt => hg.block k hlt ?_)) (fun k hk => hk.1)
    intro he
    obtain ⟨cells, hc⟩ := own_typed hown k he.symm
    obtain ⟨_, _, _, q, hq, cells', hc'⟩ := hk
    rw [hc] at hc'
    injection hc' with hc'
    injection hc' with _ hc'
    subst hc'
    exact absurd hq (by decide)
  · refine KeepsOthers.of_grownBy hg' (fun j o hj ho => ?_)
    obtain ⟨cells, hc⟩ := own_typed hown j hj
    have ho' : W.heap[j]? = some o := ho
    rw [hc] at ho'
    cases ho'
    rfl
theorem CopyMid.end_ (h : CopyMid w g3 R W A0 c0 l0 A1 c1 l1 Ap cp v0 ys v1 W') (hs : w.heap.size + 1 < g3 ∧ g3 + 1 < R) : CopyEnd w g3 R W A0 c0 l0 A1 c1 l1 Ap cp ys (W'.setCell ⟨g3, 1, none⟩ v1) := by
  obtain ⟨a1, a2, a3, a4, a5, a6, a7, a8⟩ := h
  have oth : ∀ {k : Nat}, k ≠ g3 → (W'.setCell ⟨g3, 1, none⟩ v1).heap[k]? = W'.heap[k]? := fun hk => Below.heap_setCell W' ⟨g3, 1, none⟩ v1 _ hk
  refine ⟨a8.trans (KeepsOthers.setCell _ _ _), fun pre hp h64 => ⟨v1, ?_, ?_, ?_, (oth (by omega)).trans a4, (oth (by omega)).trans a5, a6.setCell (by simp; omega) _, by simpa [World.setCell] using a7, h64⟩⟩
  · exact heap_setCell_same W' g3 1 _ 25 v1 a1
  · rw [hp]
    exact Kd.R_set a2 a1 (by decide) 1 v1
  · exact Kd.R_set a3 a1 (by decide) 1 v1
end
def mem_copied.T4 : Bool × List (List Nat × List Nat) := (true, [([], []), ([0], [0]), ([], []), ([1, 2], [1, 2]), ([0, 1, 2, 3], []), ([4, 3, 3, 0, 1, 2, 3], [3, 4])])
def mem_copied.B4 : List Nat := [0, 1, 0, 7, 15, 31]
theorem mem_copied.tab4 : rtab .any (opsOf Try.f52 4) = mem_copied.T4 := by kernel_rfl
theorem mem_copied.bits4 : waitsOk mem_copied.T4.2 mem_copied.B4 = true := by kernel_rfl

def mem_copied.f (l0_0 l0_1 : List Int) : Option (List Int × List Int) := if l0_0.length ≤ 32 ∧ l0_1.length = 64 * l0_0.length then some (l0_0, l0_1) else none

set_option maxRecDepth 100000 in
set_option maxHeartbeats 2000000 in
theorem mem_copied.walk (A0_0 : Option Addr) (c0_0 : Nat) (l0_0 : List Int) (A0_1 : Option Addr) (c0_1 : Nat) (l0_1 : List Int) (w : World) (hr0_0 : Kd.C (Kd.int .i64) w A0_0 l0_0.length l0_0) (hc0_0 : l0_0.length ≤ c0_0) (hr0_1 : Kd.C (Kd.int .u8) w A0_1 l0_1.length l0_1) (hc0_1 : l0_1.length ≤ c0_1)
    (hn : l0_0.length ≤ 32) (hl : l0_1.length = 64 * l0_0.length) :
    CallsIn Fence.wide 6 Try.prog 52 #[.agg #[.slice A0_0 l0_0.length c0_0, .slice A0_1 l0_1.length c0_1]] w fun e w' => ∃ v0_ v1_ : Value, e = .returned (.agg #[v0_, v1_]) ∧ Kd.R (Kd.int .i64) 3 w' w.heap.size (fun _ => True) v0_ l0_0 ∧ Kd.R (Kd.int .u8) 5 w' w.heap.size (fun _ => True) v1_ l0_1 ∧ Below w.heap.size w w' := by
  have HR0 := Aside0.mk hr0_0
  have HR1 := Aside0.mk hr0_1
  have HN := Aside0.mk hn
  have HL := Aside0.mk hl
  clear hr0_0 hr0_1 hn hl
  refine callsIn_of_wp_marks Try.func52 rfl trivial ?_ rfl
  simp only [Try.ntmps52, List.size_toArray, List.length_cons, List.length_nil, Nat.reduceAdd, Nat.reduceSub, Array.replicate_succ, Array.replicate_zero, List.push_toArray, List.append_toArray, List.nil_append, List.cons_append]
  have f70 : Fence.wide.fn 70 := trivial
  have f71 : Fence.wide.fn 71 := trivial
  have f81 : Fence.wide.fn 81 := trivial
  gi_wp2_with (gi_at_call 70; refine ((callsIn_wide (n := 5)).2 (slices_Clone_int_int.calls A0_0 c0_0 l0_0 l0_0 _ (Kd.C_below HR0.out (((Below.refl _ w).alloc (Nat.le_refl _) _).alloc (by simp) _)) hc0_0 (by unfold slices_Clone_int_int.f; rw [if_pos (by have := HN.out; omega)]))).mono ?_; rintro e w1 ⟨vp, rfl, hp, hb⟩; obtain ⟨Ap, cp, rfl⟩ := Kd.R_slice hp; have HP := Aside0.mk hp; obtain ⟨hb1, hk1, hk2, hs1⟩ := two_blocks hb; have HB1 := Aside0.mk hb1; have BK1 := Aside0.mk hk1; have BK2 := Aside0.mk hk2; have HS1 := Aside0.mk hs1; clear hb1 hk1 hk2 hs1 hp hb; have hz1 : w1.cell? ⟨w.heap.size, 0, none⟩ = some (.slice A0_0 l0_0.length c0_0) := (blk_cell BK1.out 0).trans rfl; have hz2 : w1.cell? ⟨w.heap.size, 1, none⟩ = some (.slice A0_1 l0_1.length c0_1) := (blk_cell BK1.out 1).trans rfl; (have hlt1 : w.heap.size < w1.heap.size := by have := HS1.out; omega))
  gi_wp2_with (gi_at_call 71; refine ((callsIn_wide (n := 5)).2 (mem_pages.calls _ _ _)).mono ?_; rintro e w2 ⟨rfl, rfl⟩)
  obtain ⟨w2, hw2⟩ : ∃ w2, (w1.alloc (Obj.cells #[Value.slice Ap l0_0.length cp, Value.slice none 0 0] 25)).alloc (Obj.cells #[Value.slice A0_0 l0_0.length c0_0, Value.slice A0_1 l0_1.length c0_1] 25) = w2 := ⟨_, rfl⟩
  rw [hw2]
  have HB2 : Below w1.heap.size w1 w2 := by rw [← hw2]; exact ((Below.refl _ w1).alloc (Nat.le_refl _) _).alloc (by simp) _
  have hs2 : w2.heap.size = w1.heap.size + 2 := by rw [← hw2]; simp
  have BK3 : w2.heap[w1.heap.size]? = some (Obj.cells #[Value.slice Ap l0_0.length cp, Value.slice none 0 0] 25) := by
    rw [← hw2]; exact (Below.heap_alloc _ _ _ (by simp)).trans (World.alloc_heap_new w1 _)
  have BK4 : w2.heap[w1.heap.size + 1]? = some (Obj.cells #[Value.slice A0_0 l0_0.length c0_0, Value.slice A0_1 l0_1.length c0_1] 25) := by
    rw [← hw2]
    have h_ := World.alloc_heap_new (w1.alloc (Obj.cells #[Value.slice Ap l0_0.length cp, Value.slice none 0 0] 25)) (Obj.cells #[Value.slice A0_0 l0_0.length c0_0, Value.slice A0_1 l0_1.length c0_1] 25)
    rw [World.size_alloc] at h_
    exact h_
  have HS := HS1.out
  clear hw2 hz1 hz2
  have hJ0 : CopyInv w w1.heap.size (w2.heap.size + 1) A0_0 c0_0 l0_0 A0_1 c0_1 l0_1 Ap cp 2 [] w2 := by
    refine ⟨.slice none 0 0, BK3, Kd.R_nil _ _ _ _ _, ?_, (HB2.block _ (by omega)).trans BK2.out, BK4, HB1.out.trans (HB2.mono (by omega)), by omega, by simp⟩
    exact Kd.R_below (Kd.R_mono (Kd.R_bound (Kd.R_lower HP.out (by simp only [World.size_alloc]; omega))) (fun k hk => by have := hk.2.2.1; omega)) HB2
  refine rangeFunc_law (R := PagesR (w1.heap.size + 1) A0_0 l0_0.length c0_0 A0_1 c0_1 l0_1) rfl (by decide) rfl f81 (enters_of Try.func81 (by kernel_rfl) rfl) (pages1_gives 5 (by decide) _ _ _ _ _ _ _ HN.out HL.out hc0_1) (fun _ => rfl)
    (CopyInv w w1.heap.size (w2.heap.size + 1) A0_0 c0_0 l0_0 A0_1 c0_1 l0_1 Ap cp 0) (fun _ _ _ => False) ?hR ?hJp ?hJb (fun _ _ _ _ h => h.elim) (fun _ _ _ _ h => h.elim) ?h0
    (CopyJ1 w w1.heap.size (w2.heap.size + 1) A0_0 c0_0 l0_0 A0_1 c0_1 l0_1 Ap cp) ?h1p ?assign ?body ?done (fun _ _ _ _ h => h.elim) (fun _ _ _ _ h => h.elim)
  case hR =>
    rintro pre W ⟨v, _, _, _, _, h5, h6, _⟩
    exact ⟨h5, Kd.C_below HR1.out h6⟩
  case hJp =>
    intro pre W o h
    exact h.put HS (by omega)
  case hJb =>
    intro pre W W' h hb
    exact h.below HS (by omega) hb
  case h0 =>
    intro r
    obtain ⟨v, a1, a2, a3, a4, a5, a6, a7, a9⟩ := hJ0.below HS (by omega) (((Below.refl _ w2).alloc (Nat.le_refl _) (.deferred (some []))).alloc (by simp) (.loop r))
    exact ⟨v, a1, a2, a3, a4, a5, a6, by simp, a9⟩
  case h1p =>
    rintro pre x a1 W o ⟨gp, h1, h2, h3, h4, h4', h5⟩
    exact ⟨gp, h1, (World.putObj_heap_other (by omega)).trans h2, h3, h4, h4', h5.put HS (by omega)⟩
  case assign =>
    rintro l pre ⟨k, pg⟩ W hi ⟨hlt, hx⟩
    have hpg : pg.length = 64 := by
      cases hx
      simp only [pageAt, List.length_take, List.length_drop]
      have := HL.out
      omega
    have hlt' := HN.out
    clear hx hJ0 BK3 BK4
    unfold pageV
    rw [fold_two]
    simp only [List.setIfInBounds_toArray, List.set_cons_zero, List.set_cons_succ]
    gi_wp2_with (refine wpListIn_storeNew (t := 121) (x := .tmp 5) (y := .tmp 13) (w0 := W) (c' := (pg.map (Value.int .u8)).toArray) rfl rfl rfl rfl rfl (by rw [List.size_toArray, List.length_map, hpg]; kernel_rfl) (by simp [hpg]) (by simp; intros; rfl) ?_)
    exact ⟨KeepsOthers.alloc W _, W.heap.size, rfl, World.alloc_heap_new W _, (by obtain ⟨_, _, _, _, _, _, _, h7, _⟩ := hi; exact h7), hpg, by omega, hi.below HS (by omega) ((Below.refl _ W).alloc (Nat.le_refl _) _)⟩
  case body =>
    rintro l pre ⟨k, pg⟩ a1 W ⟨gp, rfl, hgp, hR, hpg, hpre, hi⟩
    have hi' := hi
    obtain ⟨v, a1, a2, a3, a4, a5, a6, a7, a9⟩ := hi
    obtain ⟨Av, cv, rfl⟩ := Kd.R_slice a2
    have hz := (blk_cell a1 1).trans rfl
    have hf := blk_frozen a1 1
    clear hJ0 BK3 BK4
    have HSZ : w.heap.size + 1 < w1.heap.size ∧ w1.heap.size + 1 < w2.heap.size + 1 := ⟨HS, by omega⟩
    have HFR : ∀ k, W.drew.heap.size ≤ k → k ≠ w2.heap.size + 1 := fun k hk => by
      have h1 : W.heap.size ≤ k := hk
      omega
    have hfl : (pre.flatMap (·.2)).length ≤ 4096 := by
      have h1 := flat_len pre a9
      have h2 : pre.length < 32 := hpre
      omega
    generalize hPR : pre.flatMap (·.2) = prs at *
    have HLM : (prs.length + 64) * 1 ≤ 140737488355328 := by omega
    have HRR : ReadsRow (fun x cs => cs = [Value.int .u8 x]) 1 W.drew (some ⟨gp, 0, none⟩) 64 pg := by
      refine ⟨hpg, by decide, fun _ => ⟨_, rfl, fun j p hj => ⟨[.int .u8 p], rfl, rfl, fun i u hu => ?_⟩⟩⟩
      cases i with
      | zero =>
        have hu' : Value.int .u8 p = u := Option.some.inj hu
        subst hu'
        have hc := blk_cell hgp (j * 1 + 0)
        have e1 : (⟨gp, 0, none⟩ : Addr).add (j * 1 + 0) = ⟨gp, j * 1 + 0, none⟩ := by unfold Addr.add; split <;> simp_all
        rw [e1]
        refine (hc : W.cell? _ = _).trans ?_
        simp [hj]
      | succ i => simp at hu
    refine wpIn_block ?_
    refine startIn_ (n := 6) (S := fun w' => True) (ds := []) #[false, false, false, false, false, false] (by kernel_rfl) rfl rfl (by kernel_rfl) (by rintro ⟨_, _, h⟩; exact h) trivial (fun hHeld => ?_)
    refine with_tabW mem_copied.tab4 mem_copied.bits4 (fun HT_ HW_ => ?_)
    have FS := Aside0.mk (show W.drew = W.drew from rfl)
    refine inv_at [0, 1, 2, 3, 4, 5] (fun a0_ b a w' => ∃ (v_ : Value), a = putSel a0_ b [(0, 14, .pointer (some ⟨w1.heap.size, 1, none⟩)), (1, 15, .slice Av prs.length cv), (2, 16, .slice (some ⟨gp, 0, none⟩) 64 64), (3, 17, v_), (4, 18, .pointer (some ⟨w1.heap.size, 1, none⟩))] ∧ (b 3 = false → w' = W.drew) ∧ (b 3 = true → b 5 = false → CopyMid w w1.heap.size (w2.heap.size + 1) W A0_0 c0_0 l0_0 A0_1 c0_1 l0_1 Ap cp (.slice Av prs.length cv) (prs ++ pg) v_ w') ∧ (b 5 = true → CopyEnd w w1.heap.size (w2.heap.size + 1) W A0_0 c0_0 l0_0 A0_1 c0_1 l0_1 Ap cp (prs ++ pg) w')) HT_.out HW_.out (by kernel_rfl) (by kernel_rfl) ?_ ?_ ?_
    · exact ⟨.bool false, by simp only [putSel, Bool.false_eq_true, if_false], fun _ => rfl, fun h_ => absurd h_ (by decide), fun h_ => absurd h_ (by decide)⟩
    · skip
      clear FS
      refine steps_cons ?_ ?_
      · rintro b a w' ⟨v_, ha, Q_FS, Q_FM, Q_FE⟩ hb_ hon hoff
        refine ⟨_, rfl, fun K hK => ?_⟩
        have e3 : a.tmps[3]? = some (.pointer (some ⟨w1.heap.size, 0, none⟩)) := by rw [ha]; exact (putSel_off rfl).trans rfl
        replace ha := Aside0.mk ha
        have FS := Aside0.mk (Q_FS (hoff 3 (by kernel_rfl)))
        refine value_ (w1 := w') (v := .pointer (some ⟨w1.heap.size, 1, none⟩)) (by rfl) rfl ?_ ?_
        · go_simp
          (try simp only [i64_w])
          try rfl
        refine hK.out _ _ ⟨v_, (by rw [ha.out]; exact putSel_upk 0 hb_ rfl rfl rfl), Q_FS, fun h0_ _ => absurd ((hoff 3 (by kernel_rfl)).symm.trans h0_) (by decide), fun h0_ => absurd ((hoff 5 (by kernel_rfl)).symm.trans h0_) (by decide)⟩
      refine steps_cons ?_ ?_
      · rintro b a w' ⟨v_, ha, Q_FS, Q_FM, Q_FE⟩ hb_ hon hoff
        refine ⟨_, rfl, fun K hK => ?_⟩
        have e14 : a.tmps[14]? = some (.pointer (some ⟨w1.heap.size, 1, none⟩)) := by rw [ha]; exact putSel_on (e := (0, 14, .pointer (some ⟨w1.heap.size, 1, none⟩))) 0 rfl rfl (hon 0 (by kernel_rfl)) rfl
        replace ha := Aside0.mk ha
        have FS := Aside0.mk (Q_FS (hoff 3 (by kernel_rfl)))
        have hzz : w'.cell? ⟨w1.heap.size, 1, none⟩ = some (.slice Av prs.length cv) := by rw [FS.out]; exact hz
        refine value_ (w1 := w') (v := .slice Av prs.length cv) (by rfl) rfl ?_ ?_
        · go_simp
          (try simp only [i64_w])
          try rfl
        refine hK.out _ _ ⟨v_, (by rw [ha.out]; exact putSel_upk 1 hb_ rfl rfl rfl), Q_FS, fun h0_ _ => absurd ((hoff 3 (by kernel_rfl)).symm.trans h0_) (by decide), fun h0_ => absurd ((hoff 5 (by kernel_rfl)).symm.trans h0_) (by decide)⟩
      refine steps_cons ?_ ?_
      · rintro b a w' ⟨v_, ha, Q_FS, Q_FM, Q_FE⟩ hb_ hon hoff
        refine ⟨_, rfl, fun K hK => ?_⟩
        have e5 : a.tmps[5]? = some (.pointer (some ⟨gp, 0, none⟩)) := by rw [ha]; exact (putSel_off rfl).trans rfl
        replace ha := Aside0.mk ha
        have FS := Aside0.mk (Q_FS (hoff 3 (by kernel_rfl)))
        refine value_ (w1 := w') (v := .slice (some ⟨gp, 0, none⟩) 64 64) (by rfl) rfl ?_ ?_
        · go_simp
          (try simp only [i64_w])
          try rfl
        refine hK.out _ _ ⟨v_, (by rw [ha.out]; exact putSel_upk 2 hb_ rfl rfl rfl), Q_FS, fun h0_ _ => absurd ((hoff 3 (by kernel_rfl)).symm.trans h0_) (by decide), fun h0_ => absurd ((hoff 5 (by kernel_rfl)).symm.trans h0_) (by decide)⟩
      refine steps_cons ?_ ?_
      · rintro b a w' ⟨v_, ha, Q_FS, Q_FM, Q_FE⟩ hb_ hon hoff
        refine ⟨_, rfl, fun K hK => ?_⟩
        have e15 : a.tmps[15]? = some (.slice Av prs.length cv) := by rw [ha]; exact putSel_on (e := (1, 15, .slice Av prs.length cv)) 1 rfl rfl (hon 1 (by kernel_rfl)) rfl
        have e16 : a.tmps[16]? = some (.slice (some ⟨gp, 0, none⟩) 64 64) := by rw [ha]; exact putSel_on (e := (2, 16, .slice (some ⟨gp, 0, none⟩) 64 64)) 2 rfl rfl (hon 2 (by kernel_rfl)) rfl
        replace ha := Aside0.mk ha
        have FS := Aside0.mk (Q_FS hb_)
        have a2_ : Kd.R (Kd.int .u8) 5 w' w.heap.size (fun k => k ≠ w2.heap.size + 1) (.slice Av prs.length cv) prs := by rw [FS.out]; exact Kd.R_below a2 (Below.refl _ W).drew
        have HRR_ : ReadsRow (fun x cs => cs = [Value.int .u8 x]) 1 w' (some ⟨gp, 0, none⟩) 64 pg := by rw [FS.out]; exact HRR
        have HFR_ : ∀ k, w'.heap.size ≤ k → k ≠ w2.heap.size + 1 := by rw [FS.out]; exact HFR
        have a6_ : Below w.heap.size w w' := by rw [FS.out]; exact a6.drew
        refine Kd.R_append_rows_step (Kd.int .u8) (Rr := fun x cs => cs = [.int .u8 x]) (w0 := w) w.heap.size (by rfl) (.tmp 15) (.tmp 16) 23 5 (.int .u8 0) 1 rfl Try.underlying23 cinfo5 rfl (by decide) (by decide) (.slice Av prs.length cv) prs pg (some ⟨gp, 0, none⟩) 64 64 (fun k => k ≠ w2.heap.size + 1) (fun _ => False) (by simp [Act.eval, e15]) (by simp [Act.eval, e16]) a2_ HRR_ (fun _ _ h => h) (fun _ h => h.elim) (fun k hk => HFR_ k hk) a6_ a6_.size HLM ?_
        intro v1 W1 hO hB1 hg hat
        refine hK.out _ _ ⟨v1, (by rw [ha.out]; exact putSel_upk 3 hb_ rfl rfl rfl), fun h0_ => absurd ((up_self b 3).symm.trans h0_) (by decide), fun _ _ => copyMid_of hi' a1 hO hB1 (by rw [← FS.out]; exact hg) (by rw [← FS.out]; exact hat) HSZ, fun h0_ => absurd ((hoff 5 (by kernel_rfl)).symm.trans h0_) (by decide)⟩
      refine steps_cons ?_ ?_
      · rintro b a w' ⟨v_, ha, Q_FS, Q_FM, Q_FE⟩ hb_ hon hoff
        refine ⟨_, rfl, fun K hK => ?_⟩
        have e3 : a.tmps[3]? = some (.pointer (some ⟨w1.heap.size, 0, none⟩)) := by rw [ha]; exact (putSel_off rfl).trans rfl
        replace ha := Aside0.mk ha
        have FM := Aside0.mk (Q_FM (hon 3 (by kernel_rfl)) (hoff 5 (by kernel_rfl)))
        refine value_ (w1 := w') (v := .pointer (some ⟨w1.heap.size, 1, none⟩)) (by rfl) rfl ?_ ?_
        · go_simp
          (try simp only [i64_w])
          try rfl
        refine hK.out _ _ ⟨v_, (by rw [ha.out]; exact putSel_upk 4 hb_ rfl rfl rfl), fun h0_ => absurd ((hon 3 (by kernel_rfl)).symm.trans h0_) (by decide), Q_FM, fun h0_ => absurd ((hoff 5 (by kernel_rfl)).symm.trans h0_) (by decide)⟩
      refine steps_cons ?_ ?_
      · rintro b a w' ⟨v_, ha, Q_FS, Q_FM, Q_FE⟩ hb_ hon hoff
        refine ⟨_, rfl, fun K hK => ?_⟩
        have e18 : a.tmps[18]? = some (.pointer (some ⟨w1.heap.size, 1, none⟩)) := by rw [ha]; exact putSel_on (e := (4, 18, .pointer (some ⟨w1.heap.size, 1, none⟩))) 4 rfl rfl (hon 4 (by kernel_rfl)) rfl
        have e17 : a.tmps[17]? = some (v_) := by rw [ha]; exact putSel_on (e := (3, 17, v_)) 3 rfl rfl (hon 3 (by kernel_rfl)) rfl
        replace ha := Aside0.mk ha
        have FM := Aside0.mk (Q_FM (hon 3 (by kernel_rfl)) hb_)
        obtain ⟨Av1, cv1, hv⟩ := FM.out.slice_
        rw [hv] at e17
        have hzz := FM.out.cell_
        have hff := FM.out.frozen_
        refine skip_ (w1 := w'.setCell ⟨w1.heap.size, 1, none⟩ v_) (by rfl) rfl ?_ ?_
        · rw [hv]
          go_simp
          (try rfl)
        refine hK.out _ _ ⟨v_, (by rw [ha.out]; exact putSel_none (v := undef) rfl), fun h0_ => absurd ((hon 3 (by kernel_rfl)).symm.trans h0_) (by decide), fun _ h1_ => absurd ((up_self b 5).symm.trans h1_) (by decide), fun _ => FM.out.end_ HSZ⟩
      exact steps_nil
    · rintro b a w' hall ⟨v_, ha, Q_FS, Q_FM, Q_FE⟩
      clear FS
      have hb0_ := hall 0 (by kernel_rfl)
      have hb1_ := hall 1 (by kernel_rfl)
      have hb2_ := hall 2 (by kernel_rfl)
      have hb3_ := hall 3 (by kernel_rfl)
      have hb4_ := hall 4 (by kernel_rfl)
      have hb5_ := hall 5 (by kernel_rfl)
      subst ha
      simp only [putSel, hb0_, hb1_, hb2_, hb3_, hb4_, hb5_, if_true, Act.put, List.setIfInBounds_toArray, List.set_cons_zero, List.set_cons_succ]
      clear Q_FS
      clear Q_FM
      have FE := Aside0.mk (Q_FE hb5_)
      clear Q_FE
      clear hall hb0_ hb1_ hb2_ hb3_ hb4_ hb5_
      exact ⟨FE.out.1, FE.out.2 _ (by rw [← hPR]; simp) (by intro x hx; rcases List.mem_append.1 hx with hx | hx; exact a9 x hx; rw [List.mem_singleton.1 hx]; exact hpg)⟩
  case done =>
    rintro D xs W rfl ⟨v, a1, a2, a3, a4, a5, a6, a7, a9⟩ hD hDs
    obtain ⟨Av, cv, rfl⟩ := Kd.R_slice a2
    rw [pages_flat l0_1 _ HL.out] at a1 a2
    have z0 := (blk_cell a1 0).trans rfl
    have z1 := (blk_cell a1 1).trans rfl
    have r0 := (blk_cell a4 0).trans rfl
    have r1 := (blk_cell a4 1).trans rfl
    have f0 := blk_frozen a4 0
    have f1 := blk_frozen a4 1
    clear hJ0 BK3 BK4
    gi_wp2
    refine ⟨by simp, .inl ⟨_, _, rfl, run_takeDeferred (((KeepsOthers.setCell _ _ _).same D _ ((KeepsOthers.setCell _ _ _).same D _ hD rfl) rfl)), ?_⟩⟩
    have s1 := heap_setCell_same W (w.heap.size + 1) 0 _ 25 (.slice Ap l0_0.length cp) a4
    have s2 := heap_setCell_same (W.setCell ⟨w.heap.size + 1, 0, none⟩ (.slice Ap l0_0.length cp)) (w.heap.size + 1) 1 _ 25 (.slice Av l0_1.length cv) s1
    have hD2 : ((W.setCell ⟨w.heap.size + 1, 0, none⟩ (.slice Ap l0_0.length cp)).setCell ⟨w.heap.size + 1, 1, none⟩ (.slice Av l0_1.length cv)).heap[D]? = some (.deferred (some [])) := (KeepsOthers.setCell _ _ _).same D _ ((KeepsOthers.setCell _ _ _).same D _ hD rfl) rfl
    have q1 := Kd.R_set (Kd.R_set a3 a4 (by decide) 0 (.slice Ap l0_0.length cp)) s1 (by decide) 1 (.slice Av l0_1.length cv)
    have q2 := Kd.R_set (Kd.R_set a2 a4 (by decide) 0 (.slice Ap l0_0.length cp)) s1 (by decide) 1 (.slice Av l0_1.length cv)
    have q3 := (a6.setCell (p := ⟨w.heap.size + 1, 0, none⟩) (by simp) (.slice Ap l0_0.length cp)).setCell (p := ⟨w.heap.size + 1, 1, none⟩) (by simp) (.slice Av l0_1.length cv)
    generalize (W.setCell ⟨w.heap.size + 1, 0, none⟩ (.slice Ap l0_0.length cp)).setCell ⟨w.heap.size + 1, 1, none⟩ (.slice Av l0_1.length cv) = W5 at *
    have ne : ∀ k, k ≠ D → (W5.putObj D (.deferred none)).heap[k]? = W5.heap[k]? := fun k hk => World.putObj_heap_other hk
    have hne : w.heap.size + 1 ≠ D := by omega
    refine ⟨_, results_cell_row rfl _ _ (w.heap.size + 1) 25 _ (0, 0) _ rfl ((ne _ hne).trans s2) Try.underlying25 rfl (by kernel_rfl), _, _, rfl, ?_, ?_, ?_⟩
    · exact Kd.R_mono (Kd.R_step (Kd.R_bound q1) (fun k hk _ => ne k (fun e => by obtain ⟨_, _, _, q, _, cs, hc⟩ := hk; rw [e, hD2] at hc; cases hc))) (fun _ _ => trivial)
    · exact Kd.R_mono (Kd.R_step (Kd.R_bound q2) (fun k hk _ => ne k (fun e => by obtain ⟨_, _, _, q, _, cs, hc⟩ := hk; rw [e, hD2] at hc; cases hc))) (fun _ _ => trivial)
    · exact q3.trans ⟨rfl, rfl, rfl, by simp, fun k hk => ne k (by omega)⟩

theorem mem_copied.calls (A0_0 : Option Addr) (c0_0 : Nat) (l0_0 : List Int) (A0_1 : Option Addr) (c0_1 : Nat) (l0_1 : List Int) (r1 r2 : List Int) (w : World) (hr0_0 : Kd.C (Kd.int .i64) w A0_0 l0_0.length l0_0) (hc0_0 : l0_0.length ≤ c0_0) (hr0_1 : Kd.C (Kd.int .u8) w A0_1 l0_1.length l0_1) (hc0_1 : l0_1.length ≤ c0_1) (h : mem_copied.f l0_0 l0_1 = some (r1, r2)) :
    Calls Try.prog 52 #[.agg #[.slice A0_0 l0_0.length c0_0, .slice A0_1 l0_1.length c0_1]] w fun e w' => ∃ v0_ v1_ : Value, e = .returned (.agg #[v0_, v1_]) ∧ Kd.R (Kd.int .i64) 3 w' w.heap.size (fun _ => True) v0_ r1 ∧ Kd.R (Kd.int .u8) 5 w' w.heap.size (fun _ => True) v1_ r2 ∧ Below w.heap.size w w' := by
  unfold mem_copied.f at h
  by_cases hc : l0_0.length ≤ 32 ∧ l0_1.length = 64 * l0_0.length
  · rw [if_pos hc] at h
    simp only [Option.some.injEq, Prod.mk.injEq] at h
    obtain ⟨rfl, rfl⟩ := h
    exact (callsIn_wide (n := 6)).1 (mem_copied.walk A0_0 c0_0 _ A0_1 c0_1 _ w hr0_0 hc0_0 hr0_1 hc0_1 hc.1 hc.2)
  · rw [if_neg hc] at h
    cases h
end Go.Proofs.Ytmpdimigpaogkaa.G
