/- A text of the proof of MemDiffs: what of it that proof uses. No statement of its own. -/
import Derived.Test.YtmpdimigpaogkaaV9G5
namespace Go.Proofs.Ytmpdimigpaogkaa.G
open Go.RowKit Go.Proofs.YtmpdimigpaogkaaW.PrintWords Go.Proofs.YtmpdimigpaogkaaW.PrintLast Go.Proofs.YtmpdimigpaogkaaW.PrintMore
set_option linter.unusedVariables false
set_option linter.unusedSimpArgs false

theorem caught_idle (p : Addr) (w : World) :
    CallsD Try.prog 64 #[.pointer (some p)] .returning w fun e u' w' => e = .returned (.tuple #[]) ∧ u' = .returning ∧ w' = w := by
  refine callsD_of_wpS Try.func64 rfl fun c₀ cs hu => ?_
  apply wpS_seq
  apply wpS_region
  simp [wpOpsS, go_sem, recoverD, hu, Try.ntmps64, Exit.thenS]
  refine wpS_of_wp ?_
  go_wp2
  cases c₀
  simp_all [bodyPostS, results, Try.results64]
set_option maxRecDepth 100000 in
set_option maxHeartbeats 1000000 in
theorem caught_panicking (b : Nat) (k a k0 a0 : Int) (older : List PanicEntry) (w : World) (hc : w.heap[b]? = some (.cells #[.int .i64 k0, .int .i64 a0] 34 (0, 0))) :
    CallsD Try.prog 64 #[.pointer (some ⟨b, 0, none⟩)] (.panicking ({ v := .iface 123 (.agg #[.int .i64 k, .int .i64 a]), recovered := false } :: older)) w fun e u' w' =>
      e = .returned (.tuple #[]) ∧ u' = .panicking ({ v := .iface 123 (.agg #[.int .i64 k, .int .i64 a]), recovered := true } :: older) ∧ w' = ((w.setCell ⟨b, 0, none⟩ (.int .i64 k)).setCell ⟨b, 1, none⟩ (.int .i64 a)).alloc (.cells #[.int .i64 k, .int .i64 a] 123) := by
  have hlt := blk_lt hc
  have z0 : w.cell? ⟨b, 0, none⟩ = some (.int .i64 k0) := (blk_cell hc 0).trans rfl
  have z1 : w.cell? ⟨b, 1, none⟩ = some (.int .i64 a0) := (blk_cell hc 1).trans rfl
  have hta : ∀ (v : Value) (w : World), (Instr.typeAssert (.iface 123 v) 20 123 true).run Try.prog w = .ok (.tuple #[v, .bool true]) w := fun v w => by
    simp only [Instr.typeAssert, Sem.run_bind, run_underlying Try.underlying123, Result.andThen_ok]
    rfl
  have f0 := blk_frozen hc 0
  have f1 := blk_frozen hc 1
  clear hc
  refine callsD_of_wpS Try.func64 rfl fun c₀ cs hu => ?_
  simp only [Try.ntmps64, List.size_toArray, List.length_cons, List.length_nil, Nat.reduceAdd, Nat.reduceSub, Array.replicate_succ, Array.replicate_zero, List.push_toArray, List.append_toArray, List.nil_append, List.cons_append]
  apply wpS_seq
  apply wpS_region
  simp [wpOpsS, go_sem, recoverD, hu, Exit.thenS]
  refine wpS_of_wp ?_
  go_wp2
  cases c₀
  simp_all [bodyPostS, results, Try.results64]

def FaultPost (w : World) (f : Int × Int) (e : Ending) (w' : World) : Prop := e = .returned (.agg #[.int .i64 f.1, .int .i64 f.2]) ∧ Below w.heap.size w w'
set_option maxRecDepth 100000 in
set_option maxHeartbeats 1000000 in
theorem faults_walk (A0 : Option Addr) (c0 : Nat) (l0 : List Int) (A1 : Option Addr) (c1 : Nat) (l1 : List Int) (at_ n perm : Int) (w : World) (hr0 : Kd.C (Kd.int .i64) w A0 l0.length l0) (hl : l1.length ≤ 64 * l0.length) (hn1 : n ≤ 9223372036854775807) :
    Calls Try.prog 47 #[.agg #[.slice A0 l0.length c0, .slice A1 l1.length c1], .int .i64 at_, .int .i64 n, .int .i64 perm] w (FaultPost w ((needs l0 l1.length at_ perm n.toNat 0).getD (0, 0))) := by
  have HR0 := Aside0.mk hr0
  have HL := Aside0.mk hl
  clear hr0 hl
  obtain ⟨R, hR⟩ : ∃ R, needs l0 l1.length at_ perm n.toNat 0 = R := ⟨_, rfl⟩
  rw [hR]
  have HRR := Aside0.mk hR
  clear hR
  have HB0 := Aside0.mk (((Below.refl w.heap.size w).alloc (Nat.le_refl _) (.cells #[.slice A0 l0.length c0, .slice A1 l1.length c1] 25)).alloc (by simp) (.cells #[.int .i64 0, .int .i64 0] 34))
  cases R with
  | none =>
    go_enter_defers Try.func47, Try.ntmps47
    go_wp2_with (go_at_call 65; refine (need_walk A0 c0 l0 A1 c1 l1 at_ n perm none _ (Kd.C_below HR0.out HB0.out) HL.out hn1 HRR.out).mono ?_; rintro e w1 ⟨hb, rfl⟩; obtain ⟨hb1, hk1, hk2, hs1⟩ := two_blocks hb; have HB1 := Aside0.mk hb1; have BK2 := Aside0.mk hk2; have HS1 := Aside0.mk hs1; clear hb1 hk1 hk2 hs1 hb; have z0 : w1.cell? ⟨w.heap.size + 1, 0, none⟩ = some (.int .i64 0) := (blk_cell BK2.out 0).trans rfl; have z1 : w1.cell? ⟨w.heap.size + 1, 1, none⟩ = some (.int .i64 0) := (blk_cell BK2.out 1).trans rfl; have f0 := blk_frozen BK2.out 0; have f1 := blk_frozen BK2.out 1)
    have s1 := heap_setCell_same w1 (w.heap.size + 1) 0 _ 34 (.int .i64 0) BK2.out
    have s2 := heap_setCell_same _ (w.heap.size + 1) 1 _ 34 (.int .i64 0) s1
    refine leaves_cons (f := 64) (args := #[.pointer (some ⟨w.heap.size + 1, 0, none⟩)]) (by simp) (by simp [go_sem]) ?_
    refine (caught_idle ⟨w.heap.size + 1, 0, none⟩ _).mono ?_
    rintro e u' w'' ⟨rfl, rfl, rfl⟩
    exact ⟨_, results_cell_row rfl _ _ (w.heap.size + 1) 34 _ (0, 0) _ rfl s2 Try.underlying34 rfl (by kernel_rfl), rfl, (HB1.out.setCell (p := ⟨w.heap.size + 1, 0, none⟩) (by simp) _).setCell (p := ⟨w.heap.size + 1, 1, none⟩) (by simp) _⟩
  | some f =>
    go_enter_defers Try.func47, Try.ntmps47
    go_wp2_with (go_at_call 65; refine (need_walk A0 c0 l0 A1 c1 l1 at_ n perm (some f) _ (Kd.C_below HR0.out HB0.out) HL.out hn1 HRR.out).mono ?_; rintro e w1 ⟨hb, rfl⟩; obtain ⟨hb1, hk1, hk2, hs1⟩ := two_blocks hb; have HB1 := Aside0.mk hb1; have BK2 := Aside0.mk hk2; have HS1 := Aside0.mk hs1; clear hb1 hk1 hk2 hs1 hb)
    have hcp := caught_panicking (w.heap.size + 1) f.1 f.2 0 0 [] w1 BK2.out
    have s1 := heap_setCell_same w1 (w.heap.size + 1) 0 _ 34 (.int .i64 f.1) BK2.out
    have s2 := heap_setCell_same _ (w.heap.size + 1) 1 _ 34 (.int .i64 f.2) s1
    refine leaves_cons (f := 64) (args := #[.pointer (some ⟨w.heap.size + 1, 0, none⟩)]) (by simp) (by simp [go_sem]) ?_
    refine hcp.mono ?_
    rintro e u' w'' ⟨rfl, rfl, rfl⟩
    have hb2 := (((HB1.out.setCell (p := ⟨w.heap.size + 1, 0, none⟩) (by simp) (.int .i64 f.1)).setCell (p := ⟨w.heap.size + 1, 1, none⟩) (by simp) (.int .i64 f.2)))
    have hlt := blk_lt s2
    refine ⟨_, results_cell_row rfl _ _ (w.heap.size + 1) 34 _ (0, 0) _ rfl ((Below.heap_alloc _ _ _ hlt).trans s2) Try.underlying34 rfl (by kernel_rfl), rfl, hb2.alloc hb2.size _⟩
end Go.Proofs.Ytmpdimigpaogkaa.G
