/- A text of the proof of MemDiffs: what of it that proof uses. No statement of its own. -/
-- Told by a program of this seat's session (it runs the kit's print program, with some functions given by hand). Not trusted: Lean checks it.
import Derived.Test.YtmpdimigpaogkaaV9Mx0
import Derived.Test.YtmpdimigpaogkaaV9Mx10
namespace Go.Proofs.Ytmpdimigpaogkaa.M
open Go.Proofs.Ytmpdimigpaogkaa.G (bits_Check.f bits_Check.calls bits_wrap.f bits_wrap.calls slices_Clone_int_int.f slices_Clone_int_int.calls slices_Clone_byte_byte.f slices_Clone_byte_byte.calls mem_copied.f mem_copied.calls mem_faults.f mem_faults.calls mem_Check.f mem_Check.calls)
open Go.RowKit Go.Proofs.YtmpdimigpaogkaaW.PrintWords Go.Proofs.YtmpdimigpaogkaaW.PrintLast Go.Proofs.YtmpdimigpaogkaaW.PrintMore
set_option linter.unusedVariables false
set_option linter.unusedSimpArgs false

/-! ### mem_Diff: function 41 -/
mutual
def mem_Diff.l0 : Nat → List (S25) → Int → Int → List Int → List Int → List Int → List Int → Option ((List (S94)) × Int)
  | 0, _, _, _, _, _, _, _ => none
  | k + 1, x14, x15, x16, x753000, x753001, x754000, x754001 => if x16 < x15 then (if 0 ≤ x16 then (if x16 < (x14.length : Int) then ((mem_Check.f ((rd_T25 x14 x16).f0) ((rd_T25 x14 x16).f1)).bind fun t759 => (if t759 = 0 then (mem_Diff.l0 k x14 x15 (wrap64 (x16 + 1)) x753000 x753001 x754000 x754001) else (some (([] : List (S94)), t759)))) else (none)) else (none)) else ((slices_Equal_int_int.f k x753000 x754000).bind fun t760 => (if t760 = true then (mem_Diff.l1 k ([] : List (S94)) x753001 (x753001.length : Int) 0 x754000 x754001) else (some (([] : List (S94)), 1))))
def mem_Diff.l1 : Nat → List (S94) → List Int → Int → Int → List Int → List Int → Option ((List (S94)) × Int)
  | 0, _, _, _, _, _, _ => none
  | k + 1, x9, x33, x34, x35, x754000, x754001 => if x35 < x34 then (if 0 ≤ x35 then (if x35 < (x33.length : Int) then (if x35 < (x754001.length : Int) then (if (rd x33 x35) = (rd x754001 x35) then (mem_Diff.l1 k x9 x33 x34 (wrap64 (x35 + 1)) x754000 x754001) else (if x9.length < 8796093022208 then (mem_Diff.l1 k (x9 ++ [(⟨x35, rd x33 x35, rd x754001 x35⟩ : S94)]) x33 x34 (wrap64 (x35 + 1)) x754000 x754001) else (none))) else (none)) else (none)) else (none)) else (some (x9, 0))
end
def mem_Diff.f (k : Nat) (l0_0 : List Int) (l0_1 : List Int) (l1_0 : List Int) (l1_1 : List Int) : Option ((List (S94)) × Int) := (some (([(⟨l0_0, l0_1⟩ : S25), (⟨l1_0, l1_1⟩ : S25)] : List (S25)) : List (S25))).bind fun y754 => (mem_Diff.l0 k y754 (y754.length : Int) 0 l0_0 l0_1 l1_0 l1_1)
set_option maxHeartbeats 8000000 in
set_option maxRecDepth 100000 in
theorem mem_Diff.calls (k : Nat) (P0_0_ : Nat → Prop) (A0_0 : Option Addr) (c0_0 : Nat) (l0_0 : List Int) (P0_1_ : Nat → Prop) (A0_1 : Option Addr) (c0_1 : Nat) (l0_1 : List Int) (P1_0_ : Nat → Prop) (A1_0 : Option Addr) (c1_0 : Nat) (l1_0 : List Int) (P1_1_ : Nat → Prop) (A1_1 : Option Addr) (c1_1 : Nat) (l1_1 : List Int) (r1 : List (S94)) (r2 : Int) (w : World) (hs0_0 : Kd.V (Kd.int .i64) 3 w w.heap.size (fun k_ => P0_0_ k_) (.slice A0_0 l0_0.length c0_0) l0_0) (hs0_1 : Kd.V (Kd.int .u8) 5 w w.heap.size (fun k_ => P0_1_ k_) (.slice A0_1 l0_1.length c0_1) l0_1) (hs1_0 : Kd.V (Kd.int .i64) 3 w w.heap.size (fun k_ => P1_0_ k_) (.slice A1_0 l1_0.length c1_0) l1_0) (hs1_1 : Kd.V (Kd.int .u8) 5 w w.heap.size (fun k_ => P1_1_ k_) (.slice A1_1 l1_1.length c1_1) l1_1) (h : mem_Diff.f k l0_0 l0_1 l1_0 l1_1 = some (r1, r2)) :
    Calls Try.prog 41 #[.agg #[.slice A0_0 l0_0.length c0_0, .slice A0_1 l0_1.length c0_1], .agg #[.slice A1_0 l1_0.length c1_0, .slice A1_1 l1_1.length c1_1]] w fun e w' => ∃ v0_ : Value, e = .returned (.tuple #[v0_, .int .i64 r2]) ∧ Kd.R k94 94 w' w.heap.size (fun k_ => (w.heap.size ≤ k_)) v0_ r1 ∧ Below w.heap.size w w' := by
  have hu25 := Try.underlying25
  have hu94 := Try.underlying94
  have HO0_0 := Aside0.mk (show Kd.V (Kd.int .i64) 3 w w.heap.size (fun k_ => ((P0_0_ k_ ∨ P0_1_ k_ ∨ P1_0_ k_ ∨ P1_1_ k_) ∨ w.heap.size ≤ k_)) (.slice A0_0 l0_0.length c0_0) l0_0 from Kd.V_mono hs0_0 (fun k_ hk => .inl (.inl hk)))
  have HO0_1 := Aside0.mk (show Kd.V (Kd.int .u8) 5 w w.heap.size (fun k_ => ((P0_0_ k_ ∨ P0_1_ k_ ∨ P1_0_ k_ ∨ P1_1_ k_) ∨ w.heap.size ≤ k_)) (.slice A0_1 l0_1.length c0_1) l0_1 from Kd.V_mono hs0_1 (fun k_ hk => .inl (.inr (.inl hk))))
  have HO1_0 := Aside0.mk (show Kd.V (Kd.int .i64) 3 w w.heap.size (fun k_ => ((P0_0_ k_ ∨ P0_1_ k_ ∨ P1_0_ k_ ∨ P1_1_ k_) ∨ w.heap.size ≤ k_)) (.slice A1_0 l1_0.length c1_0) l1_0 from Kd.V_mono hs1_0 (fun k_ hk => .inl (.inr (.inr (.inl hk)))))
  have HO1_1 := Aside0.mk (show Kd.V (Kd.int .u8) 5 w w.heap.size (fun k_ => ((P0_0_ k_ ∨ P0_1_ k_ ∨ P1_0_ k_ ∨ P1_1_ k_) ∨ w.heap.size ≤ k_)) (.slice A1_1 l1_1.length c1_1) l1_1 from Kd.V_mono hs1_1 (fun k_ hk => .inl (.inr (.inr (.inr hk)))))
  have HB := Aside0.mk (Below.refl w.heap.size w)
  have H : ((some (([(⟨l0_0, l0_1⟩ : S25), (⟨l1_0, l1_1⟩ : S25)] : List (S25)) : List (S25))).bind fun y754 => (mem_Diff.l0 k y754 (y754.length : Int) 0 l0_0 l0_1 l1_0 l1_1)) = some (r1, r2) := h
  clear h
  obtain ⟨y754, hy754⟩ : ∃ y_ : List (S25), y_ = (([(⟨l0_0, l0_1⟩ : S25), (⟨l1_0, l1_1⟩ : S25)] : List (S25))) := ⟨_, rfl⟩
  replace H : (mem_Diff.l0 k y754 (y754.length : Int) 0 l0_0 l0_1 l1_0 l1_1) = some (r1, r2) := by first | (rw [hy754]; with_reducible exact H) | (have H2_ := (Option.bind_some _ _).symm.trans H; rw [hy754]; with_reducible exact H2_) | (have H2_ := (Option.bind_some _ _).symm.trans H; with_reducible exact H2_) | with_reducible exact H | (rw [hy754]; exact H) | exact H
  have Ny754 := Aside0.mk hy754
  clear hy754
  have H' := Aside0.mk H
  clear H
  go_enter Try.func41, Try.ntmps41
  go_wp2_with (first | ((with_reducible refine gate_dst (N := 2) rfl ?_); refine box_event ?hg (N := 2) ?hd (cs := #[.slice A0_0 l0_0.length c0_0, .slice A0_1 l0_1.length c0_1]) (t := 25) ?hr ?_; (case hd => rfl); (case hg => rfl); (case hr => first | (go_simp; done) | (go_simp; rfl)); intro gb752 hg w3 hbox hb; have n0_ := Aside0.mk (Kd.V_below (Kd.V_elderB (by (with_reducible repeat (first | apply Kd.V_alloc | apply Kd.V_drewN | apply Kd.V_drew)); exact HO0_0.out) gb752 (Nat.le_of_eq hg.symm)) hb); have n1_ := Aside0.mk (Kd.V_below (Kd.V_elderB (by (with_reducible repeat (first | apply Kd.V_alloc | apply Kd.V_drewN | apply Kd.V_drew)); exact HO0_1.out) gb752 (Nat.le_of_eq hg.symm)) hb); have n2_ := Aside0.mk (Kd.V_below (Kd.V_elderB (by (with_reducible repeat (first | apply Kd.V_alloc | apply Kd.V_drewN | apply Kd.V_drew)); exact HO1_0.out) gb752 (Nat.le_of_eq hg.symm)) hb); have n3_ := Aside0.mk (Kd.V_below (Kd.V_elderB (by (with_reducible repeat (first | apply Kd.V_alloc | apply Kd.V_drewN | apply Kd.V_drew)); exact HO1_1.out) gb752 (Nat.le_of_eq hg.symm)) hb); have n4_ := Aside0.mk (below_step (by repeat (first | (with_reducible first | exact HB.out | apply below_alloc | apply pw_below_drewN | apply below_drew1) | exact HB.out)) hb); have n5_ := Aside0.mk (hbox); have n6_ := Aside0.mk ((by rw [hg]; exact (below_size (by repeat (first | (with_reducible first | exact HB.out | apply below_alloc | apply pw_below_drewN | apply below_drew1) | exact HB.out))) : w.heap.size ≤ gb752)); have n7_ := Aside0.mk ((by rw [hg]; exact (below_size (by repeat (first | (with_reducible first | exact HB.out | apply below_alloc | apply pw_below_drewN | apply below_drew1) | exact HB.out))) : w.heap.size ≤ gb752)); clear HO0_0; clear HO0_1; clear HO1_0; clear HO1_1; clear HB; have HO0_0 := n0_; have HO0_1 := n1_; have HO1_0 := n2_; have HO1_1 := n3_; have HB := n4_; have BK752 := n5_; have GW752 := n6_; have GE752 := n7_; clear n0_ n1_ n2_ n3_ n4_ n5_ n6_ n7_; clear hb hbox hg) | ((with_reducible refine gate_dst (N := 3) rfl ?_); refine box_event ?hg (N := 3) ?hd (cs := #[.slice A1_0 l1_0.length c1_0, .slice A1_1 l1_1.length c1_1]) (t := 25) ?hr ?_; (case hd => rfl); (case hg => rfl); (case hr => first | (go_simp; done) | (go_simp; rfl)); intro gb753 hg w4 hbox hb; have n0_ := Aside0.mk (Kd.V_below (Kd.V_elderB (by (with_reducible repeat (first | apply Kd.V_alloc | apply Kd.V_drewN | apply Kd.V_drew)); exact HO0_0.out) gb753 (Nat.le_of_eq hg.symm)) hb); have n1_ := Aside0.mk (Kd.V_below (Kd.V_elderB (by (with_reducible repeat (first | apply Kd.V_alloc | apply Kd.V_drewN | apply Kd.V_drew)); exact HO0_1.out) gb753 (Nat.le_of_eq hg.symm)) hb); have n2_ := Aside0.mk (Kd.V_below (Kd.V_elderB (by (with_reducible repeat (first | apply Kd.V_alloc | apply Kd.V_drewN | apply Kd.V_drew)); exact HO1_0.out) gb753 (Nat.le_of_eq hg.symm)) hb); have n3_ := Aside0.mk (Kd.V_below (Kd.V_elderB (by (with_reducible repeat (first | apply Kd.V_alloc | apply Kd.V_drewN | apply Kd.V_drew)); exact HO1_1.out) gb753 (Nat.le_of_eq hg.symm)) hb); have n4_ := Aside0.mk (blk_below BK752.out hb); have n5_ := Aside0.mk (below_step (by repeat (first | (with_reducible first | exact HB.out | apply below_alloc | apply pw_below_drewN | apply below_drew1 | refine below_set ?_ GE752.out) | exact HB.out)) hb); have n6_ := Aside0.mk (hbox); have n7_ := Aside0.mk ((by rw [hg]; exact (below_size (by repeat (first | (with_reducible first | exact HB.out | apply below_alloc | apply pw_below_drewN | apply below_drew1 | refine below_set ?_ GE752.out) | exact HB.out))) : w.heap.size ≤ gb753)); have n8_ := Aside0.mk ((by rw [hg]; exact (below_size (by repeat (first | (with_reducible first | exact HB.out | apply below_alloc | apply pw_below_drewN | apply below_drew1 | refine below_set ?_ GE752.out) | exact HB.out))) : w.heap.size ≤ gb753)); have n9_ := Aside0.mk ((by rw [hg]; exact Nat.ne_of_lt (blk_lt BK752.out) : gb752 ≠ gb753)); have n10_ := Aside0.mk ((by rw [hg]; exact Nat.ne_of_gt (blk_lt BK752.out) : gb753 ≠ gb752)); clear HO0_0; clear HO0_1; clear HO1_0; clear HO1_1; clear BK752; clear HB; have HO0_0 := n0_; have HO0_1 := n1_; have HO1_0 := n2_; have HO1_1 := n3_; have BK752 := n4_; have HB := n5_; have BK753 := n6_; have GW753 := n7_; have GE753 := n8_; have NB752_753 := n9_; have NB753_752 := n10_; clear n0_ n1_ n2_ n3_ n4_ n5_ n6_ n7_ n8_ n9_ n10_; clear hb hbox hg; have hnb5 := NB752_753.out; have hnc5 := NB753_752.out; have hcz6_0 : w4.cell? ⟨gb752, 0, none⟩ = some (.slice A0_0 l0_0.length c0_0) := (blk_cell BK752.out 0).trans rfl; have hcz6_1 : w4.cell? ⟨gb752, 1, none⟩ = some (.slice A0_1 l0_1.length c0_1) := (blk_cell BK752.out 1).trans rfl; have hfz6_0 := blk_frozen BK752.out 0; have hfz6_1 := blk_frozen BK752.out 1; have hcz7_0 : w4.cell? ⟨gb753, 0, none⟩ = some (.slice A1_0 l1_0.length c1_0) := (blk_cell BK753.out 0).trans rfl; have hcz7_1 : w4.cell? ⟨gb753, 1, none⟩ = some (.slice A1_1 l1_1.length c1_1) := (blk_cell BK753.out 1).trans rfl; have hfz7_0 := blk_frozen BK753.out 0; have hfz7_1 := blk_frozen BK753.out 1) | ((with_reducible refine gate_dst (N := 14) rfl ?_); refine Kd.N_lit k25 _ 25 ?hg (N' := 14) ?hd (xs := ([(⟨l0_0, l0_1⟩ : S25), (⟨l1_0, l1_1⟩ : S25)] : List (S25))) (inner := [.slice A0_0 l0_0.length c0_0, .slice A0_1 l0_1.length c0_1, .slice A1_0 l1_0.length c1_0, .slice A1_1 l1_1.length c1_1]) (ok := (fun k_ => ((P0_0_ k_ ∨ P0_1_ k_ ∨ P1_0_ k_ ∨ P1_1_ k_) ∨ w.heap.size ≤ k_) ∧ k_ ≠ gb752 ∧ k_ ≠ gb753)) (okp := (fun k_ => ((P0_0_ k_ ∨ P0_1_ k_ ∨ P1_0_ k_ ∨ P1_1_ k_) ∨ w.heap.size ≤ k_) ∧ k_ ≠ gb752 ∧ k_ ≠ gb753)) ?hr ?hp (fun _ hk => hk) ((show ∀ k_, w4.heap.size ≤ k_ → (fun k_ => ((P0_0_ k_ ∨ P0_1_ k_ ∨ P1_0_ k_ ∨ P1_1_ k_) ∨ w.heap.size ≤ k_) ∧ k_ ≠ gb752 ∧ k_ ≠ gb753) k_ from fun k_ hk => ⟨(.inr (Nat.le_trans (below_size (by repeat (first | (with_reducible first | exact HB.out | apply below_alloc | apply pw_below_drewN | apply below_drew1 | refine below_set ?_ GE752.out | refine below_set ?_ GE753.out) | exact HB.out))) hk)), Kd.freshB BK752.out k_ hk, Kd.freshB BK753.out k_ hk⟩) _ (Nat.le_refl _)) (Below.refl _ _) (Nat.le_refl _) (by simp) ?_; (case hd => rfl); (case hg => rfl); (case hr => first | (go_simp; done) | (go_simp; rfl)); (case hp => exact (Reps.c2 (show Kd.FK k25 _ _ (⟨l0_0, l0_1⟩ : S25) [.slice A0_0 l0_0.length c0_0, .slice A0_1 l0_1.length c0_1] from (k25_mkF _ _ (⟨l0_0, l0_1⟩ : S25) (Kd.V_reads' (Kd.V_mono (ok' := (fun k_ => ((P0_0_ k_ ∨ P0_1_ k_ ∨ P1_0_ k_ ∨ P1_1_ k_) ∨ w.heap.size ≤ k_) ∧ k_ ≠ gb752 ∧ k_ ≠ gb753)) (HO0_0.out) (fun k_ hk => ⟨hk.1.1, ⟨hk.1.2, hk.2⟩⟩))).2.1 (Kd.V_F (Kd.V_mono (ok' := (fun k_ => ((P0_0_ k_ ∨ P0_1_ k_ ∨ P1_0_ k_ ∨ P1_1_ k_) ∨ w.heap.size ≤ k_) ∧ k_ ≠ gb752 ∧ k_ ≠ gb753)) (HO0_0.out) (fun k_ hk => ⟨hk.1.1, ⟨hk.1.2, hk.2⟩⟩))) (Kd.V_reads' (Kd.V_mono (ok' := (fun k_ => ((P0_0_ k_ ∨ P0_1_ k_ ∨ P1_0_ k_ ∨ P1_1_ k_) ∨ w.heap.size ≤ k_) ∧ k_ ≠ gb752 ∧ k_ ≠ gb753)) (HO0_1.out) (fun k_ hk => ⟨hk.1.1, ⟨hk.1.2, hk.2⟩⟩))).2.1 (Kd.V_F (Kd.V_mono (ok' := (fun k_ => ((P0_0_ k_ ∨ P0_1_ k_ ∨ P1_0_ k_ ∨ P1_1_ k_) ∨ w.heap.size ≤ k_) ∧ k_ ≠ gb752 ∧ k_ ≠ gb753)) (HO0_1.out) (fun k_ hk => ⟨hk.1.1, ⟨hk.1.2, hk.2⟩⟩))))) (Reps.c2 (show Kd.FK k25 _ _ (⟨l1_0, l1_1⟩ : S25) [.slice A1_0 l1_0.length c1_0, .slice A1_1 l1_1.length c1_1] from (k25_mkF _ _ (⟨l1_0, l1_1⟩ : S25) (Kd.V_reads' (Kd.V_mono (ok' := (fun k_ => ((P0_0_ k_ ∨ P0_1_ k_ ∨ P1_0_ k_ ∨ P1_1_ k_) ∨ w.heap.size ≤ k_) ∧ k_ ≠ gb752 ∧ k_ ≠ gb753)) (HO1_0.out) (fun k_ hk => ⟨hk.1.1, ⟨hk.1.2, hk.2⟩⟩))).2.1 (Kd.V_F (Kd.V_mono (ok' := (fun k_ => ((P0_0_ k_ ∨ P0_1_ k_ ∨ P1_0_ k_ ∨ P1_1_ k_) ∨ w.heap.size ≤ k_) ∧ k_ ≠ gb752 ∧ k_ ≠ gb753)) (HO1_0.out) (fun k_ hk => ⟨hk.1.1, ⟨hk.1.2, hk.2⟩⟩))) (Kd.V_reads' (Kd.V_mono (ok' := (fun k_ => ((P0_0_ k_ ∨ P0_1_ k_ ∨ P1_0_ k_ ∨ P1_1_ k_) ∨ w.heap.size ≤ k_) ∧ k_ ≠ gb752 ∧ k_ ≠ gb753)) (HO1_1.out) (fun k_ hk => ⟨hk.1.1, ⟨hk.1.2, hk.2⟩⟩))).2.1 (Kd.V_F (Kd.V_mono (ok' := (fun k_ => ((P0_0_ k_ ∨ P0_1_ k_ ∨ P1_0_ k_ ∨ P1_1_ k_) ∨ w.heap.size ≤ k_) ∧ k_ ≠ gb752 ∧ k_ ≠ gb753)) (HO1_1.out) (fun k_ hk => ⟨hk.1.1, ⟨hk.1.2, hk.2⟩⟩))))) (Reps.none _ _)))); intro v755 w8 ho9 hb hg_ hnew_; clear hg_ hnew_; (first | rw [← Ny754.out] at ho9 | (simp only [Int.reduceToNat] at ho9; rw [← Ny754.out] at ho9)); have n0_ := Aside0.mk (Kd.V_elder' (by (with_reducible repeat (first | apply Kd.V_alloc | apply Kd.V_drewN | apply Kd.V_drew)); exact HO0_0.out) (Kd.N_base ho9) hb); have n1_ := Aside0.mk (Kd.V_elder' (by (with_reducible repeat (first | apply Kd.V_alloc | apply Kd.V_drewN | apply Kd.V_drew)); exact HO0_1.out) (Kd.N_base ho9) hb); have n2_ := Aside0.mk (Kd.V_elder' (by (with_reducible repeat (first | apply Kd.V_alloc | apply Kd.V_drewN | apply Kd.V_drew)); exact HO1_0.out) (Kd.N_base ho9) hb); have n3_ := Aside0.mk (Kd.V_elder' (by (with_reducible repeat (first | apply Kd.V_alloc | apply Kd.V_drewN | apply Kd.V_drew)); exact HO1_1.out) (Kd.N_base ho9) hb); have n4_ := Aside0.mk (Kd.N_lower ho9 (below_size (by repeat (first | (with_reducible first | exact HB.out | apply below_alloc | apply pw_below_drewN | apply below_drew1 | refine below_set ?_ GE752.out | refine below_set ?_ GE753.out) | exact HB.out)))); have n5_ := Aside0.mk (blk_below BK752.out hb); have n6_ := Aside0.mk (blk_below BK753.out hb); have n7_ := Aside0.mk (below_step (by repeat (first | (with_reducible first | exact HB.out | apply below_alloc | apply pw_below_drewN | apply below_drew1 | refine below_set ?_ GE752.out | refine below_set ?_ GE753.out) | exact HB.out)) hb); clear HO0_0; clear HO0_1; clear HO1_0; clear HO1_1; clear BK752; clear BK753; clear HB; have HO0_0 := n0_; have HO0_1 := n1_; have HO1_0 := n2_; have HO1_1 := n3_; have HO756 := n4_; have BK752 := n5_; have BK753 := n6_; have HB := n7_; clear n0_ n1_ n2_ n3_ n4_ n5_ n6_ n7_; clear hb ho9; obtain ⟨Ao10, co10, eo10⟩ := Kd.N_slice HO756.out; subst eo10))
  go_loopg [16] k (fun kq v16 w' => ∃ (x16_1 : Int), v16 = .int .i64 x16_1 ∧ Aside0 (mem_Diff.l0 kq y754 (y754.length : Int) x16_1 l0_0 l0_1 l1_0 l1_1 = some (r1, r2)) ∧ Aside0 (kq ≤ k) ∧ Aside0 (Kd.N k25 25 w' w.heap.size (fun k_ => ((P0_0_ k_ ∨ P0_1_ k_ ∨ P1_0_ k_ ∨ P1_1_ k_) ∨ w.heap.size ≤ k_) ∧ k_ ≠ gb752 ∧ k_ ≠ gb753) (.slice Ao10 y754.length co10) y754) ∧ Aside0 (Kd.V (Kd.int .i64) 3 w' w.heap.size (fun k_ => ((P0_0_ k_ ∨ P0_1_ k_ ∨ P1_0_ k_ ∨ P1_1_ k_) ∨ w.heap.size ≤ k_) ∧ some k_ ≠ ((.slice Ao10 y754.length co10) : Value).ownBlock ∧ k_ ≠ gb752 ∧ k_ ≠ gb753) (.slice A0_0 l0_0.length c0_0) l0_0) ∧ Aside0 (Kd.V (Kd.int .u8) 5 w' w.heap.size (fun k_ => ((P0_0_ k_ ∨ P0_1_ k_ ∨ P1_0_ k_ ∨ P1_1_ k_) ∨ w.heap.size ≤ k_) ∧ some k_ ≠ ((.slice Ao10 y754.length co10) : Value).ownBlock ∧ k_ ≠ gb752 ∧ k_ ≠ gb753) (.slice A0_1 l0_1.length c0_1) l0_1) ∧ Aside0 (Kd.V (Kd.int .i64) 3 w' w.heap.size (fun k_ => ((P0_0_ k_ ∨ P0_1_ k_ ∨ P1_0_ k_ ∨ P1_1_ k_) ∨ w.heap.size ≤ k_) ∧ some k_ ≠ ((.slice Ao10 y754.length co10) : Value).ownBlock ∧ k_ ≠ gb752 ∧ k_ ≠ gb753) (.slice A1_0 l1_0.length c1_0) l1_0) ∧ Aside0 (Kd.V (Kd.int .u8) 5 w' w.heap.size (fun k_ => ((P0_0_ k_ ∨ P0_1_ k_ ∨ P1_0_ k_ ∨ P1_1_ k_) ∨ w.heap.size ≤ k_) ∧ some k_ ≠ ((.slice Ao10 y754.length co10) : Value).ownBlock ∧ k_ ≠ gb752 ∧ k_ ≠ gb753) (.slice A1_1 l1_1.length c1_1) l1_1) ∧ Aside0 (w'.heap[gb752]? = some (.cells #[(.slice A0_0 l0_0.length c0_0), (.slice A0_1 l0_1.length c0_1)] 25 (0, 0))) ∧ Aside0 (w'.heap[gb753]? = some (.cells #[(.slice A1_0 l1_0.length c1_0), (.slice A1_1 l1_1.length c1_1)] 25 (0, 0))) ∧ Aside0 (Below w.heap.size w w'))
  case atStart => exact ⟨(0), (by first | rfl | (simp; done) | (simp [*]; done)), H', ⟨Nat.le_refl _⟩, ⟨by (with_reducible repeat (first | apply Kd.N_alloc | apply Kd.N_drewN | apply Kd.N_drew)); exact HO756.out⟩, ⟨by (with_reducible repeat (first | apply Kd.V_alloc | apply Kd.V_drewN | apply Kd.V_drew)); exact Kd.V_mono HO0_0.out (fun _ hk => ⟨hk.1.1.1, ⟨hk.2, ⟨hk.1.1.2, hk.1.2⟩⟩⟩)⟩, ⟨by (with_reducible repeat (first | apply Kd.V_alloc | apply Kd.V_drewN | apply Kd.V_drew)); exact Kd.V_mono HO0_1.out (fun _ hk => ⟨hk.1.1.1, ⟨hk.2, ⟨hk.1.1.2, hk.1.2⟩⟩⟩)⟩, ⟨by (with_reducible repeat (first | apply Kd.V_alloc | apply Kd.V_drewN | apply Kd.V_drew)); exact Kd.V_mono HO1_0.out (fun _ hk => ⟨hk.1.1.1, ⟨hk.2, ⟨hk.1.1.2, hk.1.2⟩⟩⟩)⟩, ⟨by (with_reducible repeat (first | apply Kd.V_alloc | apply Kd.V_drewN | apply Kd.V_drew)); exact Kd.V_mono HO1_1.out (fun _ hk => ⟨hk.1.1.1, ⟨hk.2, ⟨hk.1.1.2, hk.1.2⟩⟩⟩)⟩, ⟨BK752.out⟩, ⟨BK753.out⟩, ⟨by repeat (first | (with_reducible first | exact HB.out | apply below_alloc | apply pw_below_drewN | apply below_drew1 | refine below_set ?_ GE752.out | refine below_set ?_ GE753.out) | exact HB.out)⟩⟩
  case round =>
    clear H'
    try clear c1
    try clear c2
    try clear p2
    try clear c4
    try clear c5
    try clear hcz6_0
    try clear hcz6_1
    try clear hcz7_0
    try clear hcz7_1
    try clear hfz6_0
    try clear hfz6_1
    try clear hfz7_0
    try clear hfz7_1
    obtain ⟨x16_1, rfl, HA, HK1, HO_14, HO_753000, HO_753001, HO_754000, HO_754001, BK752, BK753, HB⟩ := hrel
    cases gk with
    | zero => exact absurd HA.out (by simp [mem_Diff.l0])
    | succ k1 =>
      have H := HA.out
      clear HA
      simp only [mem_Diff.l0] at H
      by_cases c11 : x16_1 < (y754.length : Int)
      · rw [if_pos c11] at H
        have c11b0 : decide (x16_1 < (y754.length : Int)) = true := decide_eq_true c11
        clear c11
        by_cases c12 : 0 ≤ x16_1
        · rw [if_pos c12] at H
          have c12b0 : decide (0 ≤ x16_1) = true := decide_eq_true c12
          clear c12
          by_cases c13 : x16_1 < (y754.length : Int)
          · rw [if_pos c13] at H
            have c13b0 : decide (x16_1 < (y754.length : Int)) = true := decide_eq_true c13
            clear c13
            replace H := Option.bind_eq_some_iff.mp H
            obtain ⟨t759, A140, H⟩ := H
            replace H : (if t759 = 0 then (mem_Diff.l0 k1 y754 (y754.length : Int) (wrap64 (x16_1 + 1)) l0_0 l0_1 l1_0 l1_1) else (some (([] : List (S94)), t759))) = some (r1, r2) := H
            have A14 := Aside0.mk A140
            clear A140
            by_cases c15 : t759 = 0
            · rw [if_pos c15] at H
              have c15b0 : (t759 == 0) = true := beq_iff_eq.mpr c15
              have c15b1 : (t759 != 0) = false := bne_eq_false_iff_eq.mpr c15
              clear c15
              have H' := Aside0.mk H
              clear H
              have p757 : 0 ≤ (x16_1 : Int) := of_decide_eq_true (by first | (with_reducible assumption) | assumption)
              have q757 : x16_1 < (y754.length : Int) := of_decide_eq_true (by first | (with_reducible assumption) | assumption)
              obtain ⟨ad757, A757_0, c757_0, A757_1, c757_1, e757, hx757_0, hx757_1, hl757_0, hi757_0, hl757_1, hi757_1⟩ := at_T25 (Kd.N_reads' HO_14.out).2.2 x16_1 p757 q757
              cases e757
              obtain ⟨ce757, hce757, hMe757, hcc757⟩ := Kd.N_get HO_14.out z25 x16_1 p757 (by first | exact q757 | exact of_decide_eq_true (by first | (with_reducible assumption) | assumption) | (have e_ := (Kd.N_reads' HO_14.out).1; omega))
              obtain ⟨ua757_0, uc757_0, ua757_1, uc757_1, rfl, ul757_0, ge757_0, ul757_1, ge757_1⟩ := k25_openF hMe757
              have hv757_0 := hcc757 0 _ rfl
              rw [Nat.add_zero] at hv757_0
              replace hv757_0 := Option.some.inj (hv757_0.symm.trans hx757_0)
              injection hv757_0 with hva_ hvn_ hvc_
              rw [hva_] at ge757_0
              rw [hvc_] at ul757_0
              have HL757_0 := Aside0.mk (show Kd.V (Kd.int .i64) 3 _ w.heap.size _ _ ((rd_T25 y754 x16_1).f0) from Kd.V_mk ul757_0 ge757_0)
              clear hva_ hvn_ hvc_ ge757_0 ul757_0
              have hv757_1 := hcc757 1 _ rfl
              rw [add_field _ _ 1 (by omega)] at hv757_1
              replace hv757_1 := Option.some.inj (hv757_1.symm.trans hx757_1)
              injection hv757_1 with hva_ hvn_ hvc_
              rw [hva_] at ge757_1
              rw [hvc_] at ul757_1
              have HL757_1 := Aside0.mk (show Kd.V (Kd.int .u8) 5 _ w.heap.size _ _ ((rd_T25 y754 x16_1).f1) from Kd.V_mk ul757_1 ge757_1)
              clear hva_ hvn_ hvc_ ge757_1 ul757_1
              clear hcc757 hce757
              have HR757_0 := Aside0.mk hi757_0
              have HC757_0 := Aside0.mk hl757_0
              clear hi757_0 hl757_0
              have HR757_1 := Aside0.mk hi757_1
              have HC757_1 := Aside0.mk hl757_1
              clear hi757_1 hl757_1
              replace p757 := eq_true p757
              replace q757 := eq_true q757
              go_wp2_with (first | ((with_reducible refine gate_dst (N := 7) rfl ?_); refine box_event ?hg (N := 7) ?hd (cs := #[.slice none 0 0, .slice none 0 0]) (t := 25) ?hr ?_; (case hd => rfl); (case hg => rfl); (case hr => first | (go_simp; done) | (go_simp; rfl)); intro gb758 hg w16 hbox hb; have n0_ := Aside0.mk (Kd.N_below (Kd.N_elderB (by (with_reducible repeat (first | apply Kd.N_alloc | apply Kd.N_drewN | apply Kd.N_drew)); exact HO_14.out) gb758 (Nat.le_of_eq hg.symm)) hb); have n1_ := Aside0.mk (Kd.V_below (Kd.V_elderB (by (with_reducible repeat (first | apply Kd.V_alloc | apply Kd.V_drewN | apply Kd.V_drew)); exact HO_753000.out) gb758 (Nat.le_of_eq hg.symm)) hb); have n2_ := Aside0.mk (Kd.V_below (Kd.V_elderB (by (with_reducible repeat (first | apply Kd.V_alloc | apply Kd.V_drewN | apply Kd.V_drew)); exact HO_753001.out) gb758 (Nat.le_of_eq hg.symm)) hb); have n3_ := Aside0.mk (Kd.V_below (Kd.V_elderB (by (with_reducible repeat (first | apply Kd.V_alloc | apply Kd.V_drewN | apply Kd.V_drew)); exact HO_754000.out) gb758 (Nat.le_of_eq hg.symm)) hb); have n4_ := Aside0.mk (Kd.V_below (Kd.V_elderB (by (with_reducible repeat (first | apply Kd.V_alloc | apply Kd.V_drewN | apply Kd.V_drew)); exact HO_754001.out) gb758 (Nat.le_of_eq hg.symm)) hb); have n5_ := Aside0.mk (Kd.V_below (Kd.V_elderB (by (with_reducible repeat (first | apply Kd.V_alloc | apply Kd.V_drewN | apply Kd.V_drew)); exact HL757_0.out) gb758 (Nat.le_of_eq hg.symm)) hb); have n6_ := Aside0.mk (Kd.V_below (Kd.V_elderB (by (with_reducible repeat (first | apply Kd.V_alloc | apply Kd.V_drewN | apply Kd.V_drew)); exact HL757_1.out) gb758 (Nat.le_of_eq hg.symm)) hb); have n7_ := Aside0.mk (blk_below BK752.out hb); have n8_ := Aside0.mk (blk_below BK753.out hb); have n9_ := Aside0.mk (Kd.C_below (by repeat (first | (with_reducible exact HR757_0.out) | (with_reducible refine Kd.C_alloc ?_ _) | (with_reducible refine Kd.C_drewN ?_ _) | (with_reducible refine Kd.C_drew ?_) | exact HR757_0.out)) hb); have n10_ := Aside0.mk (Kd.C_below (by repeat (first | (with_reducible exact HR757_1.out) | (with_reducible refine Kd.C_alloc ?_ _) | (with_reducible refine Kd.C_drewN ?_ _) | (with_reducible refine Kd.C_drew ?_) | exact HR757_1.out)) hb); have n11_ := Aside0.mk (below_step (by repeat (first | (with_reducible first | exact HB.out | apply below_alloc | apply pw_below_drewN | apply below_drew1 | refine below_set ?_ GE752.out | refine below_set ?_ GE753.out) | exact HB.out)) hb); have n12_ := Aside0.mk (hbox); have n13_ := Aside0.mk ((by rw [hg]; exact (below_size (by repeat (first | (with_reducible first | exact HB.out | apply below_alloc | apply pw_below_drewN | apply below_drew1 | refine below_set ?_ GE752.out | refine below_set ?_ GE753.out) | exact HB.out))) : w.heap.size ≤ gb758)); have n14_ := Aside0.mk ((by rw [hg]; exact (below_size (by repeat (first | (with_reducible first | exact HB.out | apply below_alloc | apply pw_below_drewN | apply below_drew1 | refine below_set ?_ GE752.out | refine below_set ?_ GE753.out) | exact HB.out))) : w.heap.size ≤ gb758)); have n15_ := Aside0.mk ((by rw [hg]; exact Nat.ne_of_lt (blk_lt BK752.out) : gb752 ≠ gb758)); have n16_ := Aside0.mk ((by rw [hg]; exact Nat.ne_of_gt (blk_lt BK752.out) : gb758 ≠ gb752)); have n17_ := Aside0.mk ((by rw [hg]; exact Nat.ne_of_lt (blk_lt BK753.out) : gb753 ≠ gb758)); have n18_ := Aside0.mk ((by rw [hg]; exact Nat.ne_of_gt (blk_lt BK753.out) : gb758 ≠ gb753)); clear HO_14; clear HO_753000; clear HO_753001; clear HO_754000; clear HO_754001; clear HL757_0; clear HL757_1; clear BK752; clear BK753; clear HR757_0; clear HR757_1; clear HB; have HO_14 := n0_; have HO_753000 := n1_; have HO_753001 := n2_; have HO_754000 := n3_; have HO_754001 := n4_; have HL757_0 := n5_; have HL757_1 := n6_; have BK752 := n7_; have BK753 := n8_; have HR757_0 := n9_; have HR757_1 := n10_; have HB := n11_; have BK758 := n12_; have GW758 := n13_; have GE758 := n14_; have NB752_758 := n15_; have NB758_752 := n16_; have NB753_758 := n17_; have NB758_753 := n18_; clear n0_ n1_ n2_ n3_ n4_ n5_ n6_ n7_ n8_ n9_ n10_ n11_ n12_ n13_ n14_ n15_ n16_ n17_ n18_; clear hb hbox hg; have hnb17 := NB758_752.out; have hnc17 := NB752_758.out; have hnb18 := NB758_753.out; have hnc18 := NB753_758.out; have hcz19_0 : w16.cell? ⟨gb758, 0, none⟩ = some (.slice none 0 0) := (blk_cell BK758.out 0).trans rfl; have hcz19_1 : w16.cell? ⟨gb758, 1, none⟩ = some (.slice none 0 0) := (blk_cell BK758.out 1).trans rfl; have hfz19_0 := blk_frozen BK758.out 0; have hfz19_1 := blk_frozen BK758.out 1) | ((with_reducible refine gate_callee (f := 18) rfl ?_); refine goesL_ (some 21) rfl rfl Try.func18 (by kernel_rfl) rfl #[.agg #[.slice A757_0 ((rd_T25 y754 x16_1).f0).length c757_0, .slice A757_1 ((rd_T25 y754 x16_1).f1).length c757_1]] rfl (by (try simp only [List.map_toArray, List.map_cons, List.map_nil]); first | done | rfl | (simp only [List.length_drop, List.length_take]; rfl)) ?_; (with_reducible refine (mem_Check.calls _ _ ((rd_T25 y754 x16_1).f0) _ _ ((rd_T25 y754 x16_1).f1) t759 _ ?side1 ?side2 ?side3 ?side4 A14.out).mono ?_); (case side1 => repeat (first | exact ((Kd.V_reads' (by (with_reducible repeat (first | apply Kd.V_alloc | apply Kd.V_drewN | apply Kd.V_drew)); exact (Kd.V_mono (Kd.V_far (p := ⟨gb758, 1, none⟩) (Kd.V_far (p := ⟨gb758, 0, none⟩) (Kd.V_mono HL757_0.out (fun k_ hk => (⟨hk, hk.2⟩ : _ ∧ k_ ≠ gb758))) (fun _ hk => hk.2) (.slice A757_0 ((rd_T25 y754 x16_1).f0).length c757_0)) (fun _ hk => hk.2) (.slice A757_1 ((rd_T25 y754 x16_1).f1).length c757_1)) (fun _ h_ => h_.1)))).2.2) | (with_reducible refine Kd.C_alloc ?_ _) | (with_reducible refine Kd.C_drewN ?_ _) | (with_reducible refine Kd.C_drew ?_))); (case side2 => exact HC757_0.out); (case side3 => repeat (first | exact ((Kd.V_reads' (by (with_reducible repeat (first | apply Kd.V_alloc | apply Kd.V_drewN | apply Kd.V_drew)); exact (Kd.V_mono (Kd.V_far (p := ⟨gb758, 1, none⟩) (Kd.V_far (p := ⟨gb758, 0, none⟩) (Kd.V_mono HL757_1.out (fun k_ hk => (⟨hk, hk.2⟩ : _ ∧ k_ ≠ gb758))) (fun _ hk => hk.2) (.slice A757_0 ((rd_T25 y754 x16_1).f0).length c757_0)) (fun _ hk => hk.2) (.slice A757_1 ((rd_T25 y754 x16_1).f1).length c757_1)) (fun _ h_ => h_.1)))).2.2) | (with_reducible refine Kd.C_alloc ?_ _) | (with_reducible refine Kd.C_drewN ?_ _) | (with_reducible refine Kd.C_drew ?_))); (case side4 => exact HC757_1.out); rintro e w20 ⟨rfl, hb⟩; refine ⟨_, rfl, ?_⟩; have n0_ := Aside0.mk (Kd.N_below (by (with_reducible repeat (first | apply Kd.N_alloc | apply Kd.N_drewN | apply Kd.N_drew)); exact (Kd.N_mono (Kd.N_far (p := ⟨gb758, 1, none⟩) (Kd.N_far (p := ⟨gb758, 0, none⟩) (Kd.N_mono HO_14.out (fun k_ hk => (⟨hk, hk.2⟩ : _ ∧ k_ ≠ gb758))) (fun _ hk => hk.2) (.slice A757_0 ((rd_T25 y754 x16_1).f0).length c757_0)) (fun _ hk => hk.2) (.slice A757_1 ((rd_T25 y754 x16_1).f1).length c757_1)) (fun _ h_ => h_.1))) hb); have n1_ := Aside0.mk (Kd.V_below (by (with_reducible repeat (first | apply Kd.V_alloc | apply Kd.V_drewN | apply Kd.V_drew)); exact (Kd.V_mono (Kd.V_far (p := ⟨gb758, 1, none⟩) (Kd.V_far (p := ⟨gb758, 0, none⟩) (Kd.V_mono HO_753000.out (fun k_ hk => (⟨hk, hk.2⟩ : _ ∧ k_ ≠ gb758))) (fun _ hk => hk.2) (.slice A757_0 ((rd_T25 y754 x16_1).f0).length c757_0)) (fun _ hk => hk.2) (.slice A757_1 ((rd_T25 y754 x16_1).f1).length c757_1)) (fun _ h_ => h_.1))) hb); have n2_ := Aside0.mk (Kd.V_below (by (with_reducible repeat (first | apply Kd.V_alloc | apply Kd.V_drewN | apply Kd.V_drew)); exact (Kd.V_mono (Kd.V_far (p := ⟨gb758, 1, none⟩) (Kd.V_far (p := ⟨gb758, 0, none⟩) (Kd.V_mono HO_753001.out (fun k_ hk => (⟨hk, hk.2⟩ : _ ∧ k_ ≠ gb758))) (fun _ hk => hk.2) (.slice A757_0 ((rd_T25 y754 x16_1).f0).length c757_0)) (fun _ hk => hk.2) (.slice A757_1 ((rd_T25 y754 x16_1).f1).length c757_1)) (fun _ h_ => h_.1))) hb); have n3_ := Aside0.mk (Kd.V_below (by (with_reducible repeat (first | apply Kd.V_alloc | apply Kd.V_drewN | apply Kd.V_drew)); exact (Kd.V_mono (Kd.V_far (p := ⟨gb758, 1, none⟩) (Kd.V_far (p := ⟨gb758, 0, none⟩) (Kd.V_mono HO_754000.out (fun k_ hk => (⟨hk, hk.2⟩ : _ ∧ k_ ≠ gb758))) (fun _ hk => hk.2) (.slice A757_0 ((rd_T25 y754 x16_1).f0).length c757_0)) (fun _ hk => hk.2) (.slice A757_1 ((rd_T25 y754 x16_1).f1).length c757_1)) (fun _ h_ => h_.1))) hb); have n4_ := Aside0.mk (Kd.V_below (by (with_reducible repeat (first | apply Kd.V_alloc | apply Kd.V_drewN | apply Kd.V_drew)); exact (Kd.V_mono (Kd.V_far (p := ⟨gb758, 1, none⟩) (Kd.V_far (p := ⟨gb758, 0, none⟩) (Kd.V_mono HO_754001.out (fun k_ hk => (⟨hk, hk.2⟩ : _ ∧ k_ ≠ gb758))) (fun _ hk => hk.2) (.slice A757_0 ((rd_T25 y754 x16_1).f0).length c757_0)) (fun _ hk => hk.2) (.slice A757_1 ((rd_T25 y754 x16_1).f1).length c757_1)) (fun _ h_ => h_.1))) hb); have n5_ := Aside0.mk (Kd.V_below (by (with_reducible repeat (first | apply Kd.V_alloc | apply Kd.V_drewN | apply Kd.V_drew)); exact (Kd.V_mono (Kd.V_far (p := ⟨gb758, 1, none⟩) (Kd.V_far (p := ⟨gb758, 0, none⟩) (Kd.V_mono HL757_0.out (fun k_ hk => (⟨hk, hk.2⟩ : _ ∧ k_ ≠ gb758))) (fun _ hk => hk.2) (.slice A757_0 ((rd_T25 y754 x16_1).f0).length c757_0)) (fun _ hk => hk.2) (.slice A757_1 ((rd_T25 y754 x16_1).f1).length c757_1)) (fun _ h_ => h_.1))) hb); have n6_ := Aside0.mk (Kd.V_below (by (with_reducible repeat (first | apply Kd.V_alloc | apply Kd.V_drewN | apply Kd.V_drew)); exact (Kd.V_mono (Kd.V_far (p := ⟨gb758, 1, none⟩) (Kd.V_far (p := ⟨gb758, 0, none⟩) (Kd.V_mono HL757_1.out (fun k_ hk => (⟨hk, hk.2⟩ : _ ∧ k_ ≠ gb758))) (fun _ hk => hk.2) (.slice A757_0 ((rd_T25 y754 x16_1).f0).length c757_0)) (fun _ hk => hk.2) (.slice A757_1 ((rd_T25 y754 x16_1).f1).length c757_1)) (fun _ h_ => h_.1))) hb); have n7_ := Aside0.mk (blk_below (g := gb752) (o := .cells #[.slice A0_0 l0_0.length c0_0, .slice A0_1 l0_1.length c0_1] 25 (0, 0)) (by refine blk_far ?_ NB752_758.out _; refine blk_far ?_ NB752_758.out _; exact BK752.out) hb); have n8_ := Aside0.mk (blk_below (g := gb753) (o := .cells #[.slice A1_0 l1_0.length c1_0, .slice A1_1 l1_1.length c1_1] 25 (0, 0)) (by refine blk_far ?_ NB753_758.out _; refine blk_far ?_ NB753_758.out _; exact BK753.out) hb); have n9_ := Aside0.mk (Kd.C_below ((Kd.V_reads' (by (with_reducible repeat (first | apply Kd.V_alloc | apply Kd.V_drewN | apply Kd.V_drew)); exact (Kd.V_mono (Kd.V_far (p := ⟨gb758, 1, none⟩) (Kd.V_far (p := ⟨gb758, 0, none⟩) (Kd.V_mono HL757_0.out (fun k_ hk => (⟨hk, hk.2⟩ : _ ∧ k_ ≠ gb758))) (fun _ hk => hk.2) (.slice A757_0 ((rd_T25 y754 x16_1).f0).length c757_0)) (fun _ hk => hk.2) (.slice A757_1 ((rd_T25 y754 x16_1).f1).length c757_1)) (fun _ h_ => h_.1)))).2.2) hb); have n10_ := Aside0.mk (Kd.C_below ((Kd.V_reads' (by (with_reducible repeat (first | apply Kd.V_alloc | apply Kd.V_drewN | apply Kd.V_drew)); exact (Kd.V_mono (Kd.V_far (p := ⟨gb758, 1, none⟩) (Kd.V_far (p := ⟨gb758, 0, none⟩) (Kd.V_mono HL757_1.out (fun k_ hk => (⟨hk, hk.2⟩ : _ ∧ k_ ≠ gb758))) (fun _ hk => hk.2) (.slice A757_0 ((rd_T25 y754 x16_1).f0).length c757_0)) (fun _ hk => hk.2) (.slice A757_1 ((rd_T25 y754 x16_1).f1).length c757_1)) (fun _ h_ => h_.1)))).2.2) hb); have n11_ := Aside0.mk (blk_below (g := gb758) (o := .cells #[.slice A757_0 ((rd_T25 y754 x16_1).f0).length c757_0, .slice A757_1 ((rd_T25 y754 x16_1).f1).length c757_1] 25 (0, 0)) (by refine blk_put (cs := #[.slice A757_0 ((rd_T25 y754 x16_1).f0).length c757_0, .slice none 0 0]) ?_ 1 _ rfl; refine blk_put (cs := #[.slice none 0 0, .slice none 0 0]) ?_ 0 _ rfl; exact BK758.out) hb); have n12_ := Aside0.mk (below_step (by repeat (first | (with_reducible first | exact HB.out | apply below_alloc | apply pw_below_drewN | apply below_drew1 | refine below_set ?_ GE752.out | refine below_set ?_ GE753.out | refine below_set ?_ GE758.out) | exact HB.out)) hb); clear HO_14; clear HO_753000; clear HO_753001; clear HO_754000; clear HO_754001; clear HL757_0; clear HL757_1; clear BK752; clear BK753; clear HR757_0; clear HR757_1; clear BK758; clear HB; have HO_14 := n0_; have HO_753000 := n1_; have HO_753001 := n2_; have HO_754000 := n3_; have HO_754001 := n4_; have HL757_0 := n5_; have HL757_1 := n6_; have BK752 := n7_; have BK753 := n8_; have HR757_0 := n9_; have HR757_1 := n10_; have BK758 := n11_; have HB := n12_; clear n0_ n1_ n2_ n3_ n4_ n5_ n6_ n7_ n8_ n9_ n10_ n11_ n12_; (try clear hb); (try clear hb2); (try clear hk); (try clear hi)))
              go_roundg k1
              case measure => have := HK1.out; omega
              case rel => exact ⟨(wrap64 (x16_1 + 1)), (by first | rfl | (simp; done) | (simp [*]; done)), H', ⟨by have := HK1.out; omega⟩, ⟨by (with_reducible repeat (first | apply Kd.N_alloc | apply Kd.N_drewN | apply Kd.N_drew)); exact Kd.N_mono HO_14.out (fun _ hk => ⟨hk.1.1, ⟨hk.1.2.1, hk.1.2.2⟩⟩)⟩, ⟨by (with_reducible repeat (first | apply Kd.V_alloc | apply Kd.V_drewN | apply Kd.V_drew)); exact Kd.V_mono HO_753000.out (fun _ hk => ⟨hk.1.1, ⟨hk.1.2.1, ⟨hk.1.2.2.1, hk.1.2.2.2⟩⟩⟩)⟩, ⟨by (with_reducible repeat (first | apply Kd.V_alloc | apply Kd.V_drewN | apply Kd.V_drew)); exact Kd.V_mono HO_753001.out (fun _ hk => ⟨hk.1.1, ⟨hk.1.2.1, ⟨hk.1.2.2.1, hk.1.2.2.2⟩⟩⟩)⟩, ⟨by (with_reducible repeat (first | apply Kd.V_alloc | apply Kd.V_drewN | apply Kd.V_drew)); exact Kd.V_mono HO_754000.out (fun _ hk => ⟨hk.1.1, ⟨hk.1.2.1, ⟨hk.1.2.2.1, hk.1.2.2.2⟩⟩⟩)⟩, ⟨by (with_reducible repeat (first | apply Kd.V_alloc | apply Kd.V_drewN | apply Kd.V_drew)); exact Kd.V_mono HO_754001.out (fun _ hk => ⟨hk.1.1, ⟨hk.1.2.1, ⟨hk.1.2.2.1, hk.1.2.2.2⟩⟩⟩)⟩, ⟨BK752.out⟩, ⟨BK753.out⟩, ⟨by repeat (first | (with_reducible first | exact HB.out | apply below_alloc | apply pw_below_drewN | apply below_drew1 | refine below_set ?_ GE752.out | refine below_set ?_ GE753.out | refine below_set ?_ GE758.out) | exact HB.out)⟩⟩
            · rw [if_neg c15] at H
              have c15b0 : (t759 == 0) = false := beq_eq_false_iff_ne.mpr c15
              have c15b1 : (t759 != 0) = true := bne_iff_ne.mpr c15
              simp only [Option.some.injEq, Prod.mk.injEq] at H
              obtain ⟨rfl, rfl⟩ := H
              have p757 : 0 ≤ (x16_1 : Int) := of_decide_eq_true (by first | (with_reducible assumption) | assumption)
              have q757 : x16_1 < (y754.length : Int) := of_decide_eq_true (by first | (with_reducible assumption) | assumption)
              obtain ⟨ad757, A757_0, c757_0, A757_1, c757_1, e757, hx757_0, hx757_1, hl757_0, hi757_0, hl757_1, hi757_1⟩ := at_T25 (Kd.N_reads' HO_14.out).2.2 x16_1 p757 q757
              cases e757
              obtain ⟨ce757, hce757, hMe757, hcc757⟩ := Kd.N_get HO_14.out z25 x16_1 p757 (by first | exact q757 | exact of_decide_eq_true (by first | (with_reducible assumption) | assumption) | (have e_ := (Kd.N_reads' HO_14.out).1; omega))
              obtain ⟨ua757_0, uc757_0, ua757_1, uc757_1, rfl, ul757_0, ge757_0, ul757_1, ge757_1⟩ := k25_openF hMe757
              have hv757_0 := hcc757 0 _ rfl
              rw [Nat.add_zero] at hv757_0
              replace hv757_0 := Option.some.inj (hv757_0.symm.trans hx757_0)
              injection hv757_0 with hva_ hvn_ hvc_
              rw [hva_] at ge757_0
              rw [hvc_] at ul757_0
              have HL757_0 := Aside0.mk (show Kd.V (Kd.int .i64) 3 _ w.heap.size _ _ ((rd_T25 y754 x16_1).f0) from Kd.V_mk ul757_0 ge757_0)
              clear hva_ hvn_ hvc_ ge757_0 ul757_0
              have hv757_1 := hcc757 1 _ rfl
              rw [add_field _ _ 1 (by omega)] at hv757_1
              replace hv757_1 := Option.some.inj (hv757_1.symm.trans hx757_1)
              injection hv757_1 with hva_ hvn_ hvc_
              rw [hva_] at ge757_1
              rw [hvc_] at ul757_1
              have HL757_1 := Aside0.mk (show Kd.V (Kd.int .u8) 5 _ w.heap.size _ _ ((rd_T25 y754 x16_1).f1) from Kd.V_mk ul757_1 ge757_1)
              clear hva_ hvn_ hvc_ ge757_1 ul757_1
              clear hcc757 hce757
              have HR757_0 := Aside0.mk hi757_0
              have HC757_0 := Aside0.mk hl757_0
              clear hi757_0 hl757_0
              have HR757_1 := Aside0.mk hi757_1
              have HC757_1 := Aside0.mk hl757_1
              clear hi757_1 hl757_1
              replace p757 := eq_true p757
              replace q757 := eq_true q757
              go_wp2_with (first | ((with_reducible refine gate_dst (N := 7) rfl ?_); refine box_event ?hg (N := 7) ?hd (cs := #[.slice none 0 0, .slice none 0 0]) (t := 25) ?hr ?_; (case hd => rfl); (case hg => rfl); (case hr => first | (go_simp; done) | (go_simp; rfl)); intro gb758 hg w21 hbox hb; have n0_ := Aside0.mk (Kd.N_below (Kd.N_elderB (by (with_reducible repeat (first | apply Kd.N_alloc | apply Kd.N_drewN | apply Kd.N_drew)); exact HO_14.out) gb758 (Nat.le_of_eq hg.symm)) hb); have n1_ := Aside0.mk (Kd.V_below (Kd.V_elderB (by (with_reducible repeat (first | apply Kd.V_alloc | apply Kd.V_drewN | apply Kd.V_drew)); exact HO_753000.out) gb758 (Nat.le_of_eq hg.symm)) hb); have n2_ := Aside0.mk (Kd.V_below (Kd.V_elderB (by (with_reducible repeat (first | apply Kd.V_alloc | apply Kd.V_drewN | apply Kd.V_drew)); exact HO_753001.out) gb758 (Nat.le_of_eq hg.symm)) hb); have n3_ := Aside0.mk (Kd.V_below (Kd.V_elderB (by (with_reducible repeat (first | apply Kd.V_alloc | apply Kd.V_drewN | apply Kd.V_drew)); exact HO_754000.out) gb758 (Nat.le_of_eq hg.symm)) hb); have n4_ := Aside0.mk (Kd.V_below (Kd.V_elderB (by (with_reducible repeat (first | apply Kd.V_alloc | apply Kd.V_drewN | apply Kd.V_drew)); exact HO_754001.out) gb758 (Nat.le_of_eq hg.symm)) hb); have n5_ := Aside0.mk (Kd.V_below (Kd.V_elderB (by (with_reducible repeat (first | apply Kd.V_alloc | apply Kd.V_drewN | apply Kd.V_drew)); exact HL757_0.out) gb758 (Nat.le_of_eq hg.symm)) hb); have n6_ := Aside0.mk (Kd.V_below (Kd.V_elderB (by (with_reducible repeat (first | apply Kd.V_alloc | apply Kd.V_drewN | apply Kd.V_drew)); exact HL757_1.out) gb758 (Nat.le_of_eq hg.symm)) hb); have n7_ := Aside0.mk (blk_below BK752.out hb); have n8_ := Aside0.mk (blk_below BK753.out hb); have n9_ := Aside0.mk (Kd.C_below (by repeat (first | (with_reducible exact HR757_0.out) | (with_reducible refine Kd.C_alloc ?_ _) | (with_reducible refine Kd.C_drewN ?_ _) | (with_reducible refine Kd.C_drew ?_) | exact HR757_0.out)) hb); have n10_ := Aside0.mk (Kd.C_below (by repeat (first | (with_reducible exact HR757_1.out) | (with_reducible refine Kd.C_alloc ?_ _) | (with_reducible refine Kd.C_drewN ?_ _) | (with_reducible refine Kd.C_drew ?_) | exact HR757_1.out)) hb); have n11_ := Aside0.mk (below_step (by repeat (first | (with_reducible first | exact HB.out | apply below_alloc | apply pw_below_drewN | apply below_drew1 | refine below_set ?_ GE752.out | refine below_set ?_ GE753.out) | exact HB.out)) hb); have n12_ := Aside0.mk (hbox); have n13_ := Aside0.mk ((by rw [hg]; exact (below_size (by repeat (first | (with_reducible first | exact HB.out | apply below_alloc | apply pw_below_drewN | apply below_drew1 | refine below_set ?_ GE752.out | refine below_set ?_ GE753.out) | exact HB.out))) : w.heap.size ≤ gb758)); have n14_ := Aside0.mk ((by rw [hg]; exact (below_size (by repeat (first | (with_reducible first | exact HB.out | apply below_alloc | apply pw_below_drewN | apply below_drew1 | refine below_set ?_ GE752.out | refine below_set ?_ GE753.out) | exact HB.out))) : w.heap.size ≤ gb758)); have n15_ := Aside0.mk ((by rw [hg]; exact Nat.ne_of_lt (blk_lt BK752.out) : gb752 ≠ gb758)); have n16_ := Aside0.mk ((by rw [hg]; exact Nat.ne_of_gt (blk_lt BK752.out) : gb758 ≠ gb752)); have n17_ := Aside0.mk ((by rw [hg]; exact Nat.ne_of_lt (blk_lt BK753.out) : gb753 ≠ gb758)); have n18_ := Aside0.mk ((by rw [hg]; exact Nat.ne_of_gt (blk_lt BK753.out) : gb758 ≠ gb753)); clear HO_14; clear HO_753000; clear HO_753001; clear HO_754000; clear HO_754001; clear HL757_0; clear HL757_1; clear BK752; clear BK753; clear HR757_0; clear HR757_1; clear HB; have HO_14 := n0_; have HO_753000 := n1_; have HO_753001 := n2_; have HO_754000 := n3_; have HO_754001 := n4_; have HL757_0 := n5_; have HL757_1 := n6_; have BK752 := n7_; have BK753 := n8_; have HR757_0 := n9_; have HR757_1 := n10_; have HB := n11_; have BK758 := n12_; have GW758 := n13_; have GE758 := n14_; have NB752_758 := n15_; have NB758_752 := n16_; have NB753_758 := n17_; have NB758_753 := n18_; clear n0_ n1_ n2_ n3_ n4_ n5_ n6_ n7_ n8_ n9_ n10_ n11_ n12_ n13_ n14_ n15_ n16_ n17_ n18_; clear hb hbox hg; have hnb22 := NB758_752.out; have hnc22 := NB752_758.out; have hnb23 := NB758_753.out; have hnc23 := NB753_758.out; have hcz24_0 : w21.cell? ⟨gb758, 0, none⟩ = some (.slice none 0 0) := (blk_cell BK758.out 0).trans rfl; have hcz24_1 : w21.cell? ⟨gb758, 1, none⟩ = some (.slice none 0 0) := (blk_cell BK758.out 1).trans rfl; have hfz24_0 := blk_frozen BK758.out 0; have hfz24_1 := blk_frozen BK758.out 1) | ((with_reducible refine gate_callee (f := 18) rfl ?_); refine goesL_ (some 21) rfl rfl Try.func18 (by kernel_rfl) rfl #[.agg #[.slice A757_0 ((rd_T25 y754 x16_1).f0).length c757_0, .slice A757_1 ((rd_T25 y754 x16_1).f1).length c757_1]] rfl (by (try simp only [List.map_toArray, List.map_cons, List.map_nil]); first | done | rfl | (simp only [List.length_drop, List.length_take]; rfl)) ?_; (with_reducible refine (mem_Check.calls _ _ ((rd_T25 y754 x16_1).f0) _ _ ((rd_T25 y754 x16_1).f1) t759 _ ?side1 ?side2 ?side3 ?side4 A14.out).mono ?_); (case side1 => repeat (first | exact ((Kd.V_reads' (by (with_reducible repeat (first | apply Kd.V_alloc | apply Kd.V_drewN | apply Kd.V_drew)); exact (Kd.V_mono (Kd.V_far (p := ⟨gb758, 1, none⟩) (Kd.V_far (p := ⟨gb758, 0, none⟩) (Kd.V_mono HL757_0.out (fun k_ hk => (⟨hk, hk.2⟩ : _ ∧ k_ ≠ gb758))) (fun _ hk => hk.2) (.slice A757_0 ((rd_T25 y754 x16_1).f0).length c757_0)) (fun _ hk => hk.2) (.slice A757_1 ((rd_T25 y754 x16_1).f1).length c757_1)) (fun _ h_ => h_.1)))).2.2) | (with_reducible refine Kd.C_alloc ?_ _) | (with_reducible refine Kd.C_drewN ?_ _) | (with_reducible refine Kd.C_drew ?_))); (case side2 => exact HC757_0.out); (case side3 => repeat (first | exact ((Kd.V_reads' (by (with_reducible repeat (first | apply Kd.V_alloc | apply Kd.V_drewN | apply Kd.V_drew)); exact (Kd.V_mono (Kd.V_far (p := ⟨gb758, 1, none⟩) (Kd.V_far (p := ⟨gb758, 0, none⟩) (Kd.V_mono HL757_1.out (fun k_ hk => (⟨hk, hk.2⟩ : _ ∧ k_ ≠ gb758))) (fun _ hk => hk.2) (.slice A757_0 ((rd_T25 y754 x16_1).f0).length c757_0)) (fun _ hk => hk.2) (.slice A757_1 ((rd_T25 y754 x16_1).f1).length c757_1)) (fun _ h_ => h_.1)))).2.2) | (with_reducible refine Kd.C_alloc ?_ _) | (with_reducible refine Kd.C_drewN ?_ _) | (with_reducible refine Kd.C_drew ?_))); (case side4 => exact HC757_1.out); rintro e w25 ⟨rfl, hb⟩; refine ⟨_, rfl, ?_⟩; have n0_ := Aside0.mk (Kd.N_below (by (with_reducible repeat (first | apply Kd.N_alloc | apply Kd.N_drewN | apply Kd.N_drew)); exact (Kd.N_mono (Kd.N_far (p := ⟨gb758, 1, none⟩) (Kd.N_far (p := ⟨gb758, 0, none⟩) (Kd.N_mono HO_14.out (fun k_ hk => (⟨hk, hk.2⟩ : _ ∧ k_ ≠ gb758))) (fun _ hk => hk.2) (.slice A757_0 ((rd_T25 y754 x16_1).f0).length c757_0)) (fun _ hk => hk.2) (.slice A757_1 ((rd_T25 y754 x16_1).f1).length c757_1)) (fun _ h_ => h_.1))) hb); have n1_ := Aside0.mk (Kd.V_below (by (with_reducible repeat (first | apply Kd.V_alloc | apply Kd.V_drewN | apply Kd.V_drew)); exact (Kd.V_mono (Kd.V_far (p := ⟨gb758, 1, none⟩) (Kd.V_far (p := ⟨gb758, 0, none⟩) (Kd.V_mono HO_753000.out (fun k_ hk => (⟨hk, hk.2⟩ : _ ∧ k_ ≠ gb758))) (fun _ hk => hk.2) (.slice A757_0 ((rd_T25 y754 x16_1).f0).length c757_0)) (fun _ hk => hk.2) (.slice A757_1 ((rd_T25 y754 x16_1).f1).length c757_1)) (fun _ h_ => h_.1))) hb); have n2_ := Aside0.mk (Kd.V_below (by (with_reducible repeat (first | apply Kd.V_alloc | apply Kd.V_drewN | apply Kd.V_drew)); exact (Kd.V_mono (Kd.V_far (p := ⟨gb758, 1, none⟩) (Kd.V_far (p := ⟨gb758, 0, none⟩) (Kd.V_mono HO_753001.out (fun k_ hk => (⟨hk, hk.2⟩ : _ ∧ k_ ≠ gb758))) (fun _ hk => hk.2) (.slice A757_0 ((rd_T25 y754 x16_1).f0).length c757_0)) (fun _ hk => hk.2) (.slice A757_1 ((rd_T25 y754 x16_1).f1).length c757_1)) (fun _ h_ => h_.1))) hb); have n3_ := Aside0.mk (Kd.V_below (by (with_reducible repeat (first | apply Kd.V_alloc | apply Kd.V_drewN | apply Kd.V_drew)); exact (Kd.V_mono (Kd.V_far (p := ⟨gb758, 1, none⟩) (Kd.V_far (p := ⟨gb758, 0, none⟩) (Kd.V_mono HO_754000.out (fun k_ hk => (⟨hk, hk.2⟩ : _ ∧ k_ ≠ gb758))) (fun _ hk => hk.2) (.slice A757_0 ((rd_T25 y754 x16_1).f0).length c757_0)) (fun _ hk => hk.2) (.slice A757_1 ((rd_T25 y754 x16_1).f1).length c757_1)) (fun _ h_ => h_.1))) hb); have n4_ := Aside0.mk (Kd.V_below (by (with_reducible repeat (first | apply Kd.V_alloc | apply Kd.V_drewN | apply Kd.V_drew)); exact (Kd.V_mono (Kd.V_far (p := ⟨gb758, 1, none⟩) (Kd.V_far (p := ⟨gb758, 0, none⟩) (Kd.V_mono HO_754001.out (fun k_ hk => (⟨hk, hk.2⟩ : _ ∧ k_ ≠ gb758))) (fun _ hk => hk.2) (.slice A757_0 ((rd_T25 y754 x16_1).f0).length c757_0)) (fun _ hk => hk.2) (.slice A757_1 ((rd_T25 y754 x16_1).f1).length c757_1)) (fun _ h_ => h_.1))) hb); have n5_ := Aside0.mk (Kd.V_below (by (with_reducible repeat (first | apply Kd.V_alloc | apply Kd.V_drewN | apply Kd.V_drew)); exact (Kd.V_mono (Kd.V_far (p := ⟨gb758, 1, none⟩) (Kd.V_far (p := ⟨gb758, 0, none⟩) (Kd.V_mono HL757_0.out (fun k_ hk => (⟨hk, hk.2⟩ : _ ∧ k_ ≠ gb758))) (fun _ hk => hk.2) (.slice A757_0 ((rd_T25 y754 x16_1).f0).length c757_0)) (fun _ hk => hk.2) (.slice A757_1 ((rd_T25 y754 x16_1).f1).length c757_1)) (fun _ h_ => h_.1))) hb); have n6_ := Aside0.mk (Kd.V_below (by (with_reducible repeat (first | apply Kd.V_alloc | apply Kd.V_drewN | apply Kd.V_drew)); exact (Kd.V_mono (Kd.V_far (p := ⟨gb758, 1, none⟩) (Kd.V_far (p := ⟨gb758, 0, none⟩) (Kd.V_mono HL757_1.out (fun k_ hk => (⟨hk, hk.2⟩ : _ ∧ k_ ≠ gb758))) (fun _ hk => hk.2) (.slice A757_0 ((rd_T25 y754 x16_1).f0).length c757_0)) (fun _ hk => hk.2) (.slice A757_1 ((rd_T25 y754 x16_1).f1).length c757_1)) (fun _ h_ => h_.1))) hb); have n7_ := Aside0.mk (blk_below (g := gb752) (o := .cells #[.slice A0_0 l0_0.length c0_0, .slice A0_1 l0_1.length c0_1] 25 (0, 0)) (by refine blk_far ?_ NB752_758.out _; refine blk_far ?_ NB752_758.out _; exact BK752.out) hb); have n8_ := Aside0.mk (blk_below (g := gb753) (o := .cells #[.slice A1_0 l1_0.length c1_0, .slice A1_1 l1_1.length c1_1] 25 (0, 0)) (by refine blk_far ?_ NB753_758.out _; refine blk_far ?_ NB753_758.out _; exact BK753.out) hb); have n9_ := Aside0.mk (Kd.C_below ((Kd.V_reads' (by (with_reducible repeat (first | apply Kd.V_alloc | apply Kd.V_drewN | apply Kd.V_drew)); exact (Kd.V_mono (Kd.V_far (p := ⟨gb758, 1, none⟩) (Kd.V_far (p := ⟨gb758, 0, none⟩) (Kd.V_mono HL757_0.out (fun k_ hk => (⟨hk, hk.2⟩ : _ ∧ k_ ≠ gb758))) (fun _ hk => hk.2) (.slice A757_0 ((rd_T25 y754 x16_1).f0).length c757_0)) (fun _ hk => hk.2) (.slice A757_1 ((rd_T25 y754 x16_1).f1).length c757_1)) (fun _ h_ => h_.1)))).2.2) hb); have n10_ := Aside0.mk (Kd.C_below ((Kd.V_reads' (by (with_reducible repeat (first | apply Kd.V_alloc | apply Kd.V_drewN | apply Kd.V_drew)); exact (Kd.V_mono (Kd.V_far (p := ⟨gb758, 1, none⟩) (Kd.V_far (p := ⟨gb758, 0, none⟩) (Kd.V_mono HL757_1.out (fun k_ hk => (⟨hk, hk.2⟩ : _ ∧ k_ ≠ gb758))) (fun _ hk => hk.2) (.slice A757_0 ((rd_T25 y754 x16_1).f0).length c757_0)) (fun _ hk => hk.2) (.slice A757_1 ((rd_T25 y754 x16_1).f1).length c757_1)) (fun _ h_ => h_.1)))).2.2) hb); have n11_ := Aside0.mk (blk_below (g := gb758) (o := .cells #[.slice A757_0 ((rd_T25 y754 x16_1).f0).length c757_0, .slice A757_1 ((rd_T25 y754 x16_1).f1).length c757_1] 25 (0, 0)) (by refine blk_put (cs := #[.slice A757_0 ((rd_T25 y754 x16_1).f0).length c757_0, .slice none 0 0]) ?_ 1 _ rfl; refine blk_put (cs := #[.slice none 0 0, .slice none 0 0]) ?_ 0 _ rfl; exact BK758.out) hb); have n12_ := Aside0.mk (below_step (by repeat (first | (with_reducible first | exact HB.out | apply below_alloc | apply pw_below_drewN | apply below_drew1 | refine below_set ?_ GE752.out | refine below_set ?_ GE753.out | refine below_set ?_ GE758.out) | exact HB.out)) hb); clear HO_14; clear HO_753000; clear HO_753001; clear HO_754000; clear HO_754001; clear HL757_0; clear HL757_1; clear BK752; clear BK753; clear HR757_0; clear HR757_1; clear BK758; clear HB; have HO_14 := n0_; have HO_753000 := n1_; have HO_753001 := n2_; have HO_754000 := n3_; have HO_754001 := n4_; have HL757_0 := n5_; have HL757_1 := n6_; have BK752 := n7_; have BK753 := n8_; have HR757_0 := n9_; have HR757_1 := n10_; have BK758 := n11_; have HB := n12_; clear n0_ n1_ n2_ n3_ n4_ n5_ n6_ n7_ n8_ n9_ n10_ n11_ n12_; (try clear hb); (try clear hb2); (try clear hk); (try clear hi)))
              go_ret2
              exact ⟨_, by first | rfl | (simp [errW_none, errW_some] <;> rfl) | (simp [*, errW_none, errW_some] <;> rfl), by first | exact Kd.R_nil _ _ _ _ _ | exact Kd.N_nil _ _ _ _ _ | exact Kd.V_nil _ _ _ _ _ | exact Kd.Q_nil _ _ _ _ _ | exact Kd.S_nil _ _ _ _ _, by repeat (first | (with_reducible first | exact HB.out | apply below_alloc | apply pw_below_drewN | apply below_drew1 | refine below_set ?_ GE752.out | refine below_set ?_ GE753.out | refine below_set ?_ GE758.out) | exact HB.out)⟩
          · rw [if_neg c13] at H
            exact absurd H (by simp)
        · rw [if_neg c12] at H
          exact absurd H (by simp)
      · rw [if_neg c11] at H
        have c11b0 : decide (x16_1 < (y754.length : Int)) = false := decide_eq_false c11
        clear c11
        replace H := Option.bind_eq_some_iff.mp H
        obtain ⟨t760, A260, H⟩ := H
        replace H : (if t760 = true then (mem_Diff.l1 k1 ([] : List (S94)) l0_1 (l0_1.length : Int) 0 l1_0 l1_1) else (some (([] : List (S94)), 1))) = some (r1, r2) := H
        have A26 := Aside0.mk A260
        clear A260
        by_cases c27 : t760 = true
        · subst c27
          have H1 : (mem_Diff.l1 k1 ([] : List (S94)) l0_1 (l0_1.length : Int) 0 l1_0 l1_1) = some (r1, r2) := by rw [if_pos rfl] at H; exact H
          clear H
          have H := H1
          clear H1
          have H' := Aside0.mk H
          clear H
          have hnb28 := NB752_753.out
          have hnc28 := NB753_752.out
          have hcz29_0 : wr.cell? ⟨gb752, 0, none⟩ = some (.slice A0_0 l0_0.length c0_0) := (blk_cell BK752.out 0).trans rfl
          have hcz29_1 : wr.cell? ⟨gb752, 1, none⟩ = some (.slice A0_1 l0_1.length c0_1) := (blk_cell BK752.out 1).trans rfl
          have hfz29_0 := blk_frozen BK752.out 0
          have hfz29_1 := blk_frozen BK752.out 1
          have hcz30_0 : wr.cell? ⟨gb753, 0, none⟩ = some (.slice A1_0 l1_0.length c1_0) := (blk_cell BK753.out 0).trans rfl
          have hcz30_1 : wr.cell? ⟨gb753, 1, none⟩ = some (.slice A1_1 l1_1.length c1_1) := (blk_cell BK753.out 1).trans rfl
          have hfz30_0 := blk_frozen BK753.out 0
          have hfz30_1 := blk_frozen BK753.out 1
          go_wp2_with (first | ((with_reducible refine gate_callee (f := 58) rfl ?_); refine goesL_ (some 30) rfl rfl Try.func58 (by kernel_rfl) rfl #[.slice A0_0 l0_0.length c0_0, .slice A1_0 l1_0.length c1_0] rfl (by (try simp only [List.map_toArray, List.map_cons, List.map_nil]); first | done | rfl | (simp only [List.length_drop, List.length_take]; rfl)) ?_; (with_reducible refine (slices_Equal_int_int.calls k1 _ _ l0_0 _ _ l1_0 true _ ?side1 ?side2 ?side3 ?side4 A26.out).mono ?_); (case side1 => repeat (first | exact (Kd.V_reads' HO_753000.out).2.2 | (with_reducible refine Kd.C_alloc ?_ _) | (with_reducible refine Kd.C_drewN ?_ _) | (with_reducible refine Kd.C_drew ?_))); (case side2 => exact (Kd.V_reads' HO_753000.out).2.1); (case side3 => repeat (first | exact (Kd.V_reads' HO_754000.out).2.2 | (with_reducible refine Kd.C_alloc ?_ _) | (with_reducible refine Kd.C_drewN ?_ _) | (with_reducible refine Kd.C_drew ?_))); (case side4 => exact (Kd.V_reads' HO_754000.out).2.1); rintro e w' ⟨rfl, ⟨nd, rfl⟩⟩; refine ⟨_, rfl, ?_⟩))
          go_loopg [9, 35] k1 (fun kq v9 v35 w' => ∃ (x9_2 : List (S94)) (x35_2 : Int), v35 = .int .i64 x35_2 ∧ Aside0 (mem_Diff.l1 kq x9_2 l0_1 (l0_1.length : Int) x35_2 l1_0 l1_1 = some (r1, r2)) ∧ Aside0 (kq ≤ k1) ∧ Aside0 (Kd.R k94 94 w' w.heap.size (fun k_ => (w.heap.size ≤ k_)) v9 x9_2) ∧ Aside0 (Kd.V (Kd.int .u8) 5 w' w.heap.size (fun k_ => ((P0_0_ k_ ∨ P0_1_ k_ ∨ P1_0_ k_ ∨ P1_1_ k_) ∨ w.heap.size ≤ k_) ∧ some k_ ≠ (v9 : Value).ownBlock ∧ k_ ≠ gb752 ∧ k_ ≠ gb753) (.slice A0_1 l0_1.length c0_1) l0_1) ∧ Aside0 (Kd.V (Kd.int .i64) 3 w' w.heap.size (fun k_ => ((P0_0_ k_ ∨ P0_1_ k_ ∨ P1_0_ k_ ∨ P1_1_ k_) ∨ w.heap.size ≤ k_) ∧ some k_ ≠ (v9 : Value).ownBlock ∧ k_ ≠ gb752 ∧ k_ ≠ gb753) (.slice A0_0 l0_0.length c0_0) l0_0) ∧ Aside0 (Kd.V (Kd.int .u8) 5 w' w.heap.size (fun k_ => ((P0_0_ k_ ∨ P0_1_ k_ ∨ P1_0_ k_ ∨ P1_1_ k_) ∨ w.heap.size ≤ k_) ∧ some k_ ≠ (v9 : Value).ownBlock ∧ k_ ≠ gb752 ∧ k_ ≠ gb753) (.slice A0_1 l0_1.length c0_1) l0_1) ∧ Aside0 (Kd.V (Kd.int .i64) 3 w' w.heap.size (fun k_ => ((P0_0_ k_ ∨ P0_1_ k_ ∨ P1_0_ k_ ∨ P1_1_ k_) ∨ w.heap.size ≤ k_) ∧ some k_ ≠ (v9 : Value).ownBlock ∧ k_ ≠ gb752 ∧ k_ ≠ gb753) (.slice A1_0 l1_0.length c1_0) l1_0) ∧ Aside0 (Kd.V (Kd.int .u8) 5 w' w.heap.size (fun k_ => ((P0_0_ k_ ∨ P0_1_ k_ ∨ P1_0_ k_ ∨ P1_1_ k_) ∨ w.heap.size ≤ k_) ∧ some k_ ≠ (v9 : Value).ownBlock ∧ k_ ≠ gb752 ∧ k_ ≠ gb753) (.slice A1_1 l1_1.length c1_1) l1_1) ∧ Aside0 (w'.heap[gb752]? = some (.cells #[(.slice A0_0 l0_0.length c0_0), (.slice A0_1 l0_1.length c0_1)] 25 (0, 0))) ∧ Aside0 (w'.heap[gb753]? = some (.cells #[(.slice A1_0 l1_0.length c1_0), (.slice A1_1 l1_1.length c1_1)] 25 (0, 0))) ∧ Aside0 (Below w.heap.size w w'))
          case atStart => exact ⟨(([] : List (S94))), (0), (by first | rfl | (simp; done) | (simp [*]; done)), H', ⟨Nat.le_refl _⟩, ⟨by first | exact Kd.R_nil _ _ _ _ _ | exact Kd.N_nil _ _ _ _ _ | exact Kd.V_nil _ _ _ _ _ | exact Kd.Q_nil _ _ _ _ _ | exact Kd.S_nil _ _ _ _ _⟩, ⟨by (with_reducible repeat (first | apply Kd.V_alloc | apply Kd.V_drewN | apply Kd.V_drew)); exact Kd.V_mono HO_753001.out (fun _ hk => ⟨hk.1, ⟨(by simp [Value.ownBlock]), ⟨hk.2.2.1, hk.2.2.2⟩⟩⟩)⟩, ⟨by (with_reducible repeat (first | apply Kd.V_alloc | apply Kd.V_drewN | apply Kd.V_drew)); exact Kd.V_mono HO_753000.out (fun _ hk => ⟨hk.1, ⟨(by simp [Value.ownBlock]), ⟨hk.2.2.1, hk.2.2.2⟩⟩⟩)⟩, ⟨by (with_reducible repeat (first | apply Kd.V_alloc | apply Kd.V_drewN | apply Kd.V_drew)); exact Kd.V_mono HO_753001.out (fun _ hk => ⟨hk.1, ⟨(by simp [Value.ownBlock]), ⟨hk.2.2.1, hk.2.2.2⟩⟩⟩)⟩, ⟨by (with_reducible repeat (first | apply Kd.V_alloc | apply Kd.V_drewN | apply Kd.V_drew)); exact Kd.V_mono HO_754000.out (fun _ hk => ⟨hk.1, ⟨(by simp [Value.ownBlock]), ⟨hk.2.2.1, hk.2.2.2⟩⟩⟩)⟩, ⟨by (with_reducible repeat (first | apply Kd.V_alloc | apply Kd.V_drewN | apply Kd.V_drew)); exact Kd.V_mono HO_754001.out (fun _ hk => ⟨hk.1, ⟨(by simp [Value.ownBlock]), ⟨hk.2.2.1, hk.2.2.2⟩⟩⟩)⟩, ⟨BK752.out⟩, ⟨BK753.out⟩, ⟨by repeat (first | (with_reducible first | exact HB.out | apply below_alloc | apply pw_below_drewN | apply below_drew1 | refine below_set ?_ GE752.out | refine below_set ?_ GE753.out) | exact HB.out)⟩⟩
          case round =>
            clear H'
            try clear c1
            try clear c2
            try clear p2
            try clear c4
            try clear c5
            try clear p6
            try clear c7
            try clear p7
            try clear q7
            try clear hx7
            try clear c11
            try clear c11b0
            try clear c12
            try clear c12b0
            try clear c13
            try clear c13b0
            try clear c15
            try clear c15b0
            try clear c15b1
            try clear c17
            try clear c18
            try clear c22
            try clear c23
            try clear c27
            try clear c28
            try clear hcz19_0
            try clear hcz19_1
            try clear hcz24_0
            try clear hcz24_1
            try clear hcz29_0
            try clear hcz29_1
            try clear hcz30_0
            try clear hcz30_1
            try clear hcz6_0
            try clear hcz6_1
            try clear hcz7_0
            try clear hcz7_1
            try clear hfz19_0
            try clear hfz19_1
            try clear hfz24_0
            try clear hfz24_1
            try clear hfz29_0
            try clear hfz29_1
            try clear hfz30_0
            try clear hfz30_1
            try clear hfz6_0
            try clear hfz6_1
            try clear hfz7_0
            try clear hfz7_1
            try clear hx757_0
            try clear hx757_1
            try clear p2
            try clear p757
            try clear q757
            obtain ⟨x9_2, x35_2, rfl, HA, HK2, HO_9, HO_33, HO_753000, HO_753001, HO_754000, HO_754001, BK752, BK753, HB⟩ := hrel
            cases gk with
            | zero => exact absurd HA.out (by simp [mem_Diff.l1])
            | succ k2 =>
              have H := HA.out
              clear HA
              simp only [mem_Diff.l1] at H
              by_cases c31 : x35_2 < (l0_1.length : Int)
              · rw [if_pos c31] at H
                have c31b0 : decide (x35_2 < (l0_1.length : Int)) = true := decide_eq_true c31
                clear c31
                by_cases c32 : 0 ≤ x35_2
                · rw [if_pos c32] at H
                  have c32b0 : decide (0 ≤ x35_2) = true := decide_eq_true c32
                  clear c32
                  by_cases c33 : x35_2 < (l0_1.length : Int)
                  · rw [if_pos c33] at H
                    have c33b0 : decide (x35_2 < (l0_1.length : Int)) = true := decide_eq_true c33
                    clear c33
                    by_cases c34 : x35_2 < (l1_1.length : Int)
                    · rw [if_pos c34] at H
                      have c34b0 : decide (x35_2 < (l1_1.length : Int)) = true := decide_eq_true c34
                      clear c34
                      by_cases c35 : (rd l0_1 x35_2) = (rd l1_1 x35_2)
                      · rw [if_pos c35] at H
                        have c35b0 : ((rd l0_1 x35_2) == (rd l1_1 x35_2)) = true := beq_iff_eq.mpr c35
                        have c35b1 : ((rd l0_1 x35_2) != (rd l1_1 x35_2)) = false := bne_eq_false_iff_eq.mpr c35
                        clear c35
                        have H' := Aside0.mk H
                        clear H
                        have p761 : 0 ≤ (x35_2 : Int) := of_decide_eq_true (by first | (with_reducible assumption) | assumption)
                        have q761 : x35_2 < (l0_1.length : Int) := of_decide_eq_true (by first | (with_reducible assumption) | assumption)
                        obtain ⟨ad761, e761, hx761_0⟩ := Kd.at_int (Kd.V_reads' HO_33.out).2.2 x35_2 p761 q761
                        cases e761
                        replace p761 := eq_true p761
                        replace q761 := eq_true q761
                        have hnb36 := NB753_752.out
                        have hnc36 := NB752_753.out
                        have hcz37_0 : wr.cell? ⟨gb753, 0, none⟩ = some (.slice A1_0 l1_0.length c1_0) := (blk_cell BK753.out 0).trans rfl
                        have hcz37_1 : wr.cell? ⟨gb753, 1, none⟩ = some (.slice A1_1 l1_1.length c1_1) := (blk_cell BK753.out 1).trans rfl
                        have hfz37_0 := blk_frozen BK753.out 0
                        have hfz37_1 := blk_frozen BK753.out 1
                        have p762 : 0 ≤ (x35_2 : Int) := of_decide_eq_true (by first | (with_reducible assumption) | assumption)
                        have q762 : x35_2 < (l1_1.length : Int) := of_decide_eq_true (by first | (with_reducible assumption) | assumption)
                        obtain ⟨ad762, e762, hx762_0⟩ := Kd.at_int (Kd.V_reads' HO_754001.out).2.2 x35_2 p762 q762
                        cases e762
                        replace p762 := eq_true p762
                        replace q762 := eq_true q762
                        go_wp2
                        go_roundg k2
                        case measure => have := HK1.out; have := HK2.out; omega
                        case rel => exact ⟨(x9_2), (wrap64 (x35_2 + 1)), (by first | rfl | (simp; done) | (simp [*]; done)), H', ⟨by have := HK1.out; have := HK2.out; omega⟩, ⟨by (with_reducible repeat (first | apply Kd.R_alloc | apply Kd.R_drewN | apply Kd.R_drew)); exact HO_9.out⟩, ⟨by (with_reducible repeat (first | apply Kd.V_alloc | apply Kd.V_drewN | apply Kd.V_drew)); exact HO_33.out⟩, ⟨by (with_reducible repeat (first | apply Kd.V_alloc | apply Kd.V_drewN | apply Kd.V_drew)); exact HO_753000.out⟩, ⟨by (with_reducible repeat (first | apply Kd.V_alloc | apply Kd.V_drewN | apply Kd.V_drew)); exact HO_753001.out⟩, ⟨by (with_reducible repeat (first | apply Kd.V_alloc | apply Kd.V_drewN | apply Kd.V_drew)); exact HO_754000.out⟩, ⟨by (with_reducible repeat (first | apply Kd.V_alloc | apply Kd.V_drewN | apply Kd.V_drew)); exact HO_754001.out⟩, ⟨BK752.out⟩, ⟨BK753.out⟩, ⟨by repeat (first | (with_reducible first | exact HB.out | apply below_alloc | apply pw_below_drewN | apply below_drew1 | refine below_set ?_ GE752.out | refine below_set ?_ GE753.out) | exact HB.out)⟩⟩
                      · rw [if_neg c35] at H
                        have c35b0 : ((rd l0_1 x35_2) == (rd l1_1 x35_2)) = false := beq_eq_false_iff_ne.mpr c35
                        have c35b1 : ((rd l0_1 x35_2) != (rd l1_1 x35_2)) = true := bne_iff_ne.mpr c35
                        by_cases c38 : x9_2.length < 8796093022208
                        · rw [if_pos c38] at H
                          have LMc38 := Aside0.mk c38
                          clear c38
                          obtain ⟨y764, hy764⟩ : ∃ y_ : List (S94), y_ = (x9_2 ++ [(⟨x35_2, rd l0_1 x35_2, rd l1_1 x35_2⟩ : S94)]) := ⟨_, rfl⟩
                          replace H : (mem_Diff.l1 k2 y764 l0_1 (l0_1.length : Int) (wrap64 (x35_2 + 1)) l1_0 l1_1) = some (r1, r2) := by first | (rw [hy764]; with_reducible exact H) | (have H2_ := (Option.bind_some _ _).symm.trans H; rw [hy764]; with_reducible exact H2_) | (have H2_ := (Option.bind_some _ _).symm.trans H; with_reducible exact H2_) | with_reducible exact H | (rw [hy764]; exact H) | exact H
                          have Ny764 := Aside0.mk hy764
                          clear hy764
                          have H' := Aside0.mk H
                          clear H
                          have p761 : 0 ≤ (x35_2 : Int) := of_decide_eq_true (by first | (with_reducible assumption) | assumption)
                          have q761 : x35_2 < (l0_1.length : Int) := of_decide_eq_true (by first | (with_reducible assumption) | assumption)
                          obtain ⟨ad761, e761, hx761_0⟩ := Kd.at_int (Kd.V_reads' HO_33.out).2.2 x35_2 p761 q761
                          cases e761
                          replace p761 := eq_true p761
                          replace q761 := eq_true q761
                          have hnb39 := NB753_752.out
                          have hnc39 := NB752_753.out
                          have hcz40_0 : wr.cell? ⟨gb753, 0, none⟩ = some (.slice A1_0 l1_0.length c1_0) := (blk_cell BK753.out 0).trans rfl
                          have hcz40_1 : wr.cell? ⟨gb753, 1, none⟩ = some (.slice A1_1 l1_1.length c1_1) := (blk_cell BK753.out 1).trans rfl
                          have hfz40_0 := blk_frozen BK753.out 0
                          have hfz40_1 := blk_frozen BK753.out 1
                          have p762 : 0 ≤ (x35_2 : Int) := of_decide_eq_true (by first | (with_reducible assumption) | assumption)
                          have q762 : x35_2 < (l1_1.length : Int) := of_decide_eq_true (by first | (with_reducible assumption) | assumption)
                          obtain ⟨ad762, e762, hx762_0⟩ := Kd.at_int (Kd.V_reads' HO_754001.out).2.2 x35_2 p762 q762
                          cases e762
                          replace p762 := eq_true p762
                          replace q762 := eq_true q762
                          have p763 : 0 ≤ (x35_2 : Int) := of_decide_eq_true (by first | (with_reducible assumption) | assumption)
                          have q763 : x35_2 < (l1_1.length : Int) := of_decide_eq_true (by first | (with_reducible assumption) | assumption)
                          obtain ⟨ad763, e763, hx763_0⟩ := Kd.at_int (Kd.V_reads' HO_754001.out).2.2 x35_2 p763 q763
                          obtain rfl : ad762 = ad763 := (by injection e763)
                          replace p763 := eq_true p763
                          replace q763 := eq_true q763
                          go_wp2_with (first | ((with_reducible refine gate_builtin (b := .append) (xs := #[.tmp 47, .tmp 56]) rfl ?_); at_builtin; refine Kd.R_append k94 (w0 := w) w.heap.size rfl (.tmp 47) (.tmp 56) 83 94 (.agg #[(.int .i64 0), (.int .u8 0), (.int .u8 0)]) 16 rfl Try.underlying83 info94 rfl (by decide) (by omega) u9 x9_2 (⟨x35_2, rd l0_1 x35_2, rd l1_1 x35_2⟩ : S94) [.int .i64 x35_2, .int .u8 (rd l0_1 x35_2), .int .u8 (rd l1_1 x35_2)] (fun k_ => (w.heap.size ≤ k_)) (fun _ => False) rfl rfl ?aP (fun _ hk => hk.elim) ?aF ?aO ?aB ?aS ?aL ?_; (case aP => exact k94_mkM _ _ _ (⟨x35_2, rd l0_1 x35_2, rd l1_1 x35_2⟩ : S94)); (case aB => exact (by repeat (first | (with_reducible first | exact HB.out | apply below_alloc | apply pw_below_drewN | apply below_drew1 | refine below_set ?_ GE752.out | refine below_set ?_ GE753.out) | exact HB.out))); (case aF => exact (fun k_ hk => (Nat.le_trans (below_size (by repeat (first | (with_reducible first | exact HB.out | apply below_alloc | apply pw_below_drewN | apply below_drew1 | refine below_set ?_ GE752.out | refine below_set ?_ GE753.out) | exact HB.out))) hk))); (case aO => exact HO_9.out); (case aS => exact (below_size (by repeat (first | (with_reducible first | exact HB.out | apply below_alloc | apply pw_below_drewN | apply below_drew1 | refine below_set ?_ GE752.out | refine below_set ?_ GE753.out) | exact HB.out)))); (case aL => have := LMc38.out; omega); intro v765 w41 ho hb hg hat; rw [← Ny764.out] at ho; have n0_ := Aside0.mk (Kd.V_afterv (ok := (fun k_ => ((P0_0_ k_ ∨ P0_1_ k_ ∨ P1_0_ k_ ∨ P1_1_ k_) ∨ w.heap.size ≤ k_) ∧ k_ ≠ gb752 ∧ k_ ≠ gb753)) (by (with_reducible repeat (first | apply Kd.V_alloc | apply Kd.V_drewN | apply Kd.V_drew)); exact Kd.V_mono HO_33.out (fun _ hk => ⟨⟨hk.1, ⟨hk.2.2.1, hk.2.2.2⟩⟩, hk.2.1⟩)) hg hat); have n1_ := Aside0.mk (Kd.V_afterv (ok := (fun k_ => ((P0_0_ k_ ∨ P0_1_ k_ ∨ P1_0_ k_ ∨ P1_1_ k_) ∨ w.heap.size ≤ k_) ∧ k_ ≠ gb752 ∧ k_ ≠ gb753)) (by (with_reducible repeat (first | apply Kd.V_alloc | apply Kd.V_drewN | apply Kd.V_drew)); exact Kd.V_mono HO_753000.out (fun _ hk => ⟨⟨hk.1, ⟨hk.2.2.1, hk.2.2.2⟩⟩, hk.2.1⟩)) hg hat); have n2_ := Aside0.mk (Kd.V_afterv (ok := (fun k_ => ((P0_0_ k_ ∨ P0_1_ k_ ∨ P1_0_ k_ ∨ P1_1_ k_) ∨ w.heap.size ≤ k_) ∧ k_ ≠ gb752 ∧ k_ ≠ gb753)) (by (with_reducible repeat (first | apply Kd.V_alloc | apply Kd.V_drewN | apply Kd.V_drew)); exact Kd.V_mono HO_753001.out (fun _ hk => ⟨⟨hk.1, ⟨hk.2.2.1, hk.2.2.2⟩⟩, hk.2.1⟩)) hg hat); have n3_ := Aside0.mk (Kd.V_afterv (ok := (fun k_ => ((P0_0_ k_ ∨ P0_1_ k_ ∨ P1_0_ k_ ∨ P1_1_ k_) ∨ w.heap.size ≤ k_) ∧ k_ ≠ gb752 ∧ k_ ≠ gb753)) (by (with_reducible repeat (first | apply Kd.V_alloc | apply Kd.V_drewN | apply Kd.V_drew)); exact Kd.V_mono HO_754000.out (fun _ hk => ⟨⟨hk.1, ⟨hk.2.2.1, hk.2.2.2⟩⟩, hk.2.1⟩)) hg hat); have n4_ := Aside0.mk (Kd.V_afterv (ok := (fun k_ => ((P0_0_ k_ ∨ P0_1_ k_ ∨ P1_0_ k_ ∨ P1_1_ k_) ∨ w.heap.size ≤ k_) ∧ k_ ≠ gb752 ∧ k_ ≠ gb753)) (by (with_reducible repeat (first | apply Kd.V_alloc | apply Kd.V_drewN | apply Kd.V_drew)); exact Kd.V_mono HO_754001.out (fun _ hk => ⟨⟨hk.1, ⟨hk.2.2.1, hk.2.2.2⟩⟩, hk.2.1⟩)) hg hat); have n5_ := Aside0.mk (blk_grown BK752.out hg (Kd.R_ne HO_9.out BK752.out (by decide))); have n6_ := Aside0.mk (blk_grown BK753.out hg (Kd.R_ne HO_9.out BK753.out (by decide))); have n7_ := Aside0.mk (hb); have n8_ := Aside0.mk (ho); clear HO_33; clear HO_753000; clear HO_753001; clear HO_754000; clear HO_754001; clear BK752; clear BK753; clear HB; clear HO_9; have HO_33 := n0_; have HO_753000 := n1_; have HO_753001 := n2_; have HO_754000 := n3_; have HO_754001 := n4_; have BK752 := n5_; have BK753 := n6_; have HB := n7_; have HO766 := n8_; clear n0_ n1_ n2_ n3_ n4_ n5_ n6_ n7_ n8_; clear ho hb hg hat))
                          go_roundg k2
                          case measure => have := HK1.out; have := HK2.out; omega
                          case rel => exact ⟨(y764), (wrap64 (x35_2 + 1)), (by first | rfl | (simp; done) | (simp [*]; done)), H', ⟨by have := HK1.out; have := HK2.out; omega⟩, ⟨by (with_reducible repeat (first | apply Kd.R_alloc | apply Kd.R_drewN | apply Kd.R_drew)); exact HO766.out⟩, ⟨by (with_reducible repeat (first | apply Kd.V_alloc | apply Kd.V_drewN | apply Kd.V_drew)); exact Kd.V_mono HO_33.out (fun _ hk => ⟨hk.1.1, ⟨hk.2, ⟨hk.1.2.1, hk.1.2.2⟩⟩⟩)⟩, ⟨by (with_reducible repeat (first | apply Kd.V_alloc | apply Kd.V_drewN | apply Kd.V_drew)); exact Kd.V_mono HO_753000.out (fun _ hk => ⟨hk.1.1, ⟨hk.2, ⟨hk.1.2.1, hk.1.2.2⟩⟩⟩)⟩, ⟨by (with_reducible repeat (first | apply Kd.V_alloc | apply Kd.V_drewN | apply Kd.V_drew)); exact Kd.V_mono HO_753001.out (fun _ hk => ⟨hk.1.1, ⟨hk.2, ⟨hk.1.2.1, hk.1.2.2⟩⟩⟩)⟩, ⟨by (with_reducible repeat (first | apply Kd.V_alloc | apply Kd.V_drewN | apply Kd.V_drew)); exact Kd.V_mono HO_754000.out (fun _ hk => ⟨hk.1.1, ⟨hk.2, ⟨hk.1.2.1, hk.1.2.2⟩⟩⟩)⟩, ⟨by (with_reducible repeat (first | apply Kd.V_alloc | apply Kd.V_drewN | apply Kd.V_drew)); exact Kd.V_mono HO_754001.out (fun _ hk => ⟨hk.1.1, ⟨hk.2, ⟨hk.1.2.1, hk.1.2.2⟩⟩⟩)⟩, ⟨BK752.out⟩, ⟨BK753.out⟩, ⟨by repeat (first | (with_reducible first | exact HB.out | apply below_alloc | apply pw_below_drewN | apply below_drew1 | refine below_set ?_ GE752.out | refine below_set ?_ GE753.out) | exact HB.out)⟩⟩
                        · rw [if_neg c38] at H
                          exact absurd H (by simp)
                    · rw [if_neg c34] at H
                      exact absurd H (by simp)
                  · rw [if_neg c33] at H
                    exact absurd H (by simp)
                · rw [if_neg c32] at H
                  exact absurd H (by simp)
              · rw [if_neg c31] at H
                have c31b0 : decide (x35_2 < (l0_1.length : Int)) = false := decide_eq_false c31
                clear c31
                simp only [Option.some.injEq, Prod.mk.injEq] at H
                obtain ⟨rfl, rfl⟩ := H
                go_wp2
                go_ret2
                exact ⟨_, by first | rfl | (simp [errW_none, errW_some] <;> rfl) | (simp [*, errW_none, errW_some] <;> rfl), by (with_reducible repeat (first | apply Kd.R_alloc | apply Kd.R_drewN | apply Kd.R_drew)); exact HO_9.out, by repeat (first | (with_reducible first | exact HB.out | apply below_alloc | apply pw_below_drewN | apply below_drew1 | refine below_set ?_ GE752.out | refine below_set ?_ GE753.out) | exact HB.out)⟩
        · replace c27 := Bool.eq_false_iff.mpr c27
          subst c27
          have H1 : (some (([] : List (S94)), 1)) = some (r1, r2) := by rw [if_neg (show ¬ (false = true) by decide)] at H; exact H
          clear H
          have H := H1
          clear H1
          simp only [Option.some.injEq, Prod.mk.injEq] at H
          obtain ⟨rfl, rfl⟩ := H
          have hnb42 := NB752_753.out
          have hnc42 := NB753_752.out
          have hcz43_0 : wr.cell? ⟨gb752, 0, none⟩ = some (.slice A0_0 l0_0.length c0_0) := (blk_cell BK752.out 0).trans rfl
          have hcz43_1 : wr.cell? ⟨gb752, 1, none⟩ = some (.slice A0_1 l0_1.length c0_1) := (blk_cell BK752.out 1).trans rfl
          have hfz43_0 := blk_frozen BK752.out 0
          have hfz43_1 := blk_frozen BK752.out 1
          have hcz44_0 : wr.cell? ⟨gb753, 0, none⟩ = some (.slice A1_0 l1_0.length c1_0) := (blk_cell BK753.out 0).trans rfl
          have hcz44_1 : wr.cell? ⟨gb753, 1, none⟩ = some (.slice A1_1 l1_1.length c1_1) := (blk_cell BK753.out 1).trans rfl
          have hfz44_0 := blk_frozen BK753.out 0
          have hfz44_1 := blk_frozen BK753.out 1
          go_wp2_with (first | ((with_reducible refine gate_callee (f := 58) rfl ?_); refine goesL_ (some 30) rfl rfl Try.func58 (by kernel_rfl) rfl #[.slice A0_0 l0_0.length c0_0, .slice A1_0 l1_0.length c1_0] rfl (by (try simp only [List.map_toArray, List.map_cons, List.map_nil]); first | done | rfl | (simp only [List.length_drop, List.length_take]; rfl)) ?_; (with_reducible refine (slices_Equal_int_int.calls k1 _ _ l0_0 _ _ l1_0 false _ ?side1 ?side2 ?side3 ?side4 A26.out).mono ?_); (case side1 => repeat (first | exact (Kd.V_reads' HO_753000.out).2.2 | (with_reducible refine Kd.C_alloc ?_ _) | (with_reducible refine Kd.C_drewN ?_ _) | (with_reducible refine Kd.C_drew ?_))); (case side2 => exact (Kd.V_reads' HO_753000.out).2.1); (case side3 => repeat (first | exact (Kd.V_reads' HO_754000.out).2.2 | (with_reducible refine Kd.C_alloc ?_ _) | (with_reducible refine Kd.C_drewN ?_ _) | (with_reducible refine Kd.C_drew ?_))); (case side4 => exact (Kd.V_reads' HO_754000.out).2.1); rintro e w' ⟨rfl, ⟨nd, rfl⟩⟩; refine ⟨_, rfl, ?_⟩))
          go_ret2
          exact ⟨_, by first | rfl | (simp [errW_none, errW_some] <;> rfl) | (simp [*, errW_none, errW_some] <;> rfl), by first | exact Kd.R_nil _ _ _ _ _ | exact Kd.N_nil _ _ _ _ _ | exact Kd.V_nil _ _ _ _ _ | exact Kd.Q_nil _ _ _ _ _ | exact Kd.S_nil _ _ _ _ _, by repeat (first | (with_reducible first | exact HB.out | apply below_alloc | apply pw_below_drewN | apply below_drew1 | refine below_set ?_ GE752.out | refine below_set ?_ GE753.out) | exact HB.out)⟩

end Go.Proofs.Ytmpdimigpaogkaa.M
