/- A text of the proof of MemDiffs: what of it that proof uses. No statement of its own. -/
-- Told by a program of this seat's session (it runs the kit's print program, with some functions given by hand). Not trusted: Lean checks it.
import Derived.Test.YtmpdimigpaogkaaV9Mx0
import Derived.Test.YtmpdimigpaogkaaV9Mx9
import Derived.Test.YtmpdimigpaogkaaV9Mx10
namespace Go.Proofs.Ytmpdimigpaogkaa.M
open Go.Proofs.Ytmpdimigpaogkaa.G (bits_Check.f bits_Check.calls bits_wrap.f bits_wrap.calls slices_Clone_int_int.f slices_Clone_int_int.calls slices_Clone_byte_byte.f slices_Clone_byte_byte.calls mem_copied.f mem_copied.calls mem_faults.f mem_faults.calls mem_Check.f mem_Check.calls)
open Go.RowKit Go.Proofs.YtmpdimigpaogkaaW.PrintWords Go.Proofs.YtmpdimigpaogkaaW.PrintLast Go.Proofs.YtmpdimigpaogkaaW.PrintMore
set_option linter.unusedVariables false
set_option linter.unusedSimpArgs false

/-! ### taplineref03_Diff: function 42 -/
mutual
def taplineref03_Diff.j0 : Nat → Bool → List Int → List Int → List Int → List Int → Option ((List (S94)) × Int)
  | 0, _, _, _, _, _ => none
  | k + 1, x14, x768000, x768001, x769000, x769001 => if x14 = true then (some (([] : List (S94)), 30)) else ((taplineref03_SamePerm.f k x768000 x768001 x769000 x769001).bind fun t772 => (if t772 = true then (taplineref03_Diff.l0 k ([] : List (S94)) 0 x768000 x768001 x769000 x769001) else (some (([] : List (S94)), 1))))
def taplineref03_Diff.l0 : Nat → List (S94) → Int → List Int → List Int → List Int → List Int → Option ((List (S94)) × Int)
  | 0, _, _, _, _, _, _ => none
  | k + 1, x5, x6, x768000, x768001, x769000, x769001 => if x6 < (x768001.length : Int) then (if 0 ≤ x6 then (if x6 < (x769001.length : Int) then (if (rd x768001 x6) = (rd x769001 x6) then (taplineref03_Diff.l0 k x5 (wrap64 (x6 + 1)) x768000 x768001 x769000 x769001) else (if x5.length < 8796093022208 then (taplineref03_Diff.l0 k (x5 ++ [(⟨x6, rd x768001 x6, rd x769001 x6⟩ : S94)]) (wrap64 (x6 + 1)) x768000 x768001 x769000 x769001) else (none))) else (none)) else (none)) else (some (x5, 0))
end
def taplineref03_Diff.f (k : Nat) (l0_0 : List Int) (l0_1 : List Int) (l1_0 : List Int) (l1_1 : List Int) : Option ((List (S94)) × Int) := (taplineref03_Check.f k l0_0 l0_1).bind fun t770 => (if t770 = 0 then ((taplineref03_Check.f k l1_0 l1_1).bind fun t771 => (taplineref03_Diff.j0 k (t771 != 0) l0_0 l0_1 l1_0 l1_1)) else (taplineref03_Diff.j0 k true l0_0 l0_1 l1_0 l1_1))
def taplineref03_Diff.T9 : Bool × List (List Nat × List Nat) := (true, [([], []), ([0], [0]), ([], []), ([1, 2], [1, 2]), ([3], [3]), ([], []), ([5], [5]), ([], []), ([6, 7], [6, 7]), ([8], [8]), ([4, 9], [4, 9])])
def taplineref03_Diff.B9 : List Nat := [0, 1, 0, 7, 15, 0, 32, 0, 224, 480, 1023]
theorem taplineref03_Diff.tab9 : rtab .any (opsOf Try.f42 9) = taplineref03_Diff.T9 := by kernel_rfl
theorem taplineref03_Diff.bits9 : waitsOk taplineref03_Diff.T9.2 taplineref03_Diff.B9 = true := by kernel_rfl
def taplineref03_Diff.T10 : Bool × List (List Nat × List Nat) := (true, [([], []), ([], []), ([], []), ([2], [2]), ([], []), ([3, 4], [3, 4]), ([5], [5]), ([], []), ([7], [7]), ([], []), ([8, 9], [8, 9]), ([10], [10]), ([1, 6, 11], [1, 6, 11]), ([12], [12]), ([0, 13], [0, 13]), ([14, 14, 0, 1, 2, 3, 4, 5, 6, 7, 8, 9, 10, 11, 12, 13, 14], [0, 14])])
def taplineref03_Diff.B10 : List Nat := [0, 0, 0, 4, 0, 28, 60, 0, 128, 0, 896, 1920, 4094, 8190, 16383, 32767]
theorem taplineref03_Diff.tab10 : rtab .any (opsOf Try.f42 10) = taplineref03_Diff.T10 := by kernel_rfl
theorem taplineref03_Diff.bits10 : waitsOk taplineref03_Diff.T10.2 taplineref03_Diff.B10 = true := by kernel_rfl
set_option maxHeartbeats 8000000 in
set_option maxRecDepth 100000 in
theorem taplineref03_Diff.calls (k : Nat) (A0_0 : Option Addr) (c0_0 : Nat) (l0_0 : List Int) (A0_1 : Option Addr) (c0_1 : Nat) (l0_1 : List Int) (A1_0 : Option Addr) (c1_0 : Nat) (l1_0 : List Int) (A1_1 : Option Addr) (c1_1 : Nat) (l1_1 : List Int) (r1 : List (S94)) (r2 : Int) (w : World) (hr0_0 : Kd.C (Kd.int .i64) w A0_0 l0_0.length l0_0) (hc0_0 : l0_0.length ≤ c0_0) (hr0_1 : Kd.C (Kd.int .u8) w A0_1 l0_1.length l0_1) (hc0_1 : l0_1.length ≤ c0_1) (hr1_0 : Kd.C (Kd.int .i64) w A1_0 l1_0.length l1_0) (hc1_0 : l1_0.length ≤ c1_0) (hr1_1 : Kd.C (Kd.int .u8) w A1_1 l1_1.length l1_1) (hc1_1 : l1_1.length ≤ c1_1) (h : taplineref03_Diff.f k l0_0 l0_1 l1_0 l1_1 = some (r1, r2)) :
    Calls Try.prog 42 #[.agg #[.slice A0_0 l0_0.length c0_0, .slice A0_1 l0_1.length c0_1], .agg #[.slice A1_0 l1_0.length c1_0, .slice A1_1 l1_1.length c1_1]] w fun e w' => ∃ v0_ : Value, e = .returned (.agg #[v0_, .int .i64 r2]) ∧ Kd.R k94 94 w' w.heap.size (fun _ => True) v0_ r1 ∧ Below w.heap.size w w' := by
  have hu25 := Try.underlying25
  have hu87 := Try.underlying87
  have hu94 := Try.underlying94
  have HR0_0 := Aside0.mk hr0_0
  have HC0_0 := Aside0.mk hc0_0
  clear hr0_0 hc0_0
  have HR0_1 := Aside0.mk hr0_1
  have HC0_1 := Aside0.mk hc0_1
  clear hr0_1 hc0_1
  have HR1_0 := Aside0.mk hr1_0
  have HC1_0 := Aside0.mk hc1_0
  clear hr1_0 hc1_0
  have HR1_1 := Aside0.mk hr1_1
  have HC1_1 := Aside0.mk hc1_1
  clear hr1_1 hc1_1
  have HB := Aside0.mk (Below.refl w.heap.size w)
  have H : ((taplineref03_Check.f k l0_0 l0_1).bind fun t770 => (if t770 = 0 then ((taplineref03_Check.f k l1_0 l1_1).bind fun t771 => (taplineref03_Diff.j0 k (t771 != 0) l0_0 l0_1 l1_0 l1_1)) else (taplineref03_Diff.j0 k true l0_0 l0_1 l1_0 l1_1))) = some (r1, r2) := h
  clear h
  have HC3 := Aside0.mk H
  clear H
  go_enter Try.func42, Try.ntmps42
  go_upto_region 1 with (first | ((with_reducible refine gate_dst (N := 2) rfl ?_); refine box_event ?hg (N := 2) ?hd (cs := #[.slice A0_0 l0_0.length c0_0, .slice A0_1 l0_1.length c0_1]) (t := 25) ?hr ?_; (case hd => rfl); (case hg => rfl); (case hr => first | (go_simp; done) | (go_simp; rfl)); intro gb767 hg w4 hbox hb; have n0_ := Aside0.mk (below_step (by repeat (first | (with_reducible first | exact HB.out | apply below_alloc | apply pw_below_drewN | apply below_drew1) | exact HB.out)) hb); have n1_ := Aside0.mk (hbox); have n2_ := Aside0.mk ((by rw [hg]; exact (below_size (by repeat (first | (with_reducible first | exact HB.out | apply below_alloc | apply pw_below_drewN | apply below_drew1) | exact HB.out))) : w.heap.size ≤ gb767)); have n3_ := Aside0.mk ((by rw [hg]; exact (below_size (by repeat (first | (with_reducible first | exact HB.out | apply below_alloc | apply pw_below_drewN | apply below_drew1) | exact HB.out))) : w.heap.size ≤ gb767)); clear HB; have HB := n0_; have BK767 := n1_; have GW767 := n2_; have GE767 := n3_; clear n0_ n1_ n2_ n3_; clear hb hbox hg) | ((with_reducible refine gate_dst (N := 3) rfl ?_); refine box_event ?hg (N := 3) ?hd (cs := #[.slice A1_0 l1_0.length c1_0, .slice A1_1 l1_1.length c1_1]) (t := 25) ?hr ?_; (case hd => rfl); (case hg => rfl); (case hr => first | (go_simp; done) | (go_simp; rfl)); intro gb768 hg w5 hbox hb; have n0_ := Aside0.mk (blk_below BK767.out hb); have n1_ := Aside0.mk (below_step (by repeat (first | (with_reducible first | exact HB.out | apply below_alloc | apply pw_below_drewN | apply below_drew1 | refine below_set ?_ GE767.out) | exact HB.out)) hb); have n2_ := Aside0.mk (hbox); have n3_ := Aside0.mk ((by rw [hg]; exact (below_size (by repeat (first | (with_reducible first | exact HB.out | apply below_alloc | apply pw_below_drewN | apply below_drew1 | refine below_set ?_ GE767.out) | exact HB.out))) : w.heap.size ≤ gb768)); have n4_ := Aside0.mk ((by rw [hg]; exact (below_size (by repeat (first | (with_reducible first | exact HB.out | apply below_alloc | apply pw_below_drewN | apply below_drew1 | refine below_set ?_ GE767.out) | exact HB.out))) : w.heap.size ≤ gb768)); have n5_ := Aside0.mk ((by rw [hg]; exact Nat.ne_of_lt (blk_lt BK767.out) : gb767 ≠ gb768)); have n6_ := Aside0.mk ((by rw [hg]; exact Nat.ne_of_gt (blk_lt BK767.out) : gb768 ≠ gb767)); clear BK767; clear HB; have BK767 := n0_; have HB := n1_; have BK768 := n2_; have GW768 := n3_; have GE768 := n4_; have NB767_768 := n5_; have NB768_767 := n6_; clear n0_ n1_ n2_ n3_ n4_ n5_ n6_; clear hb hbox hg) | ((with_reducible refine gate_dst (N := 4) rfl ?_); refine box_event ?hg (N := 4) ?hd (cs := #[.slice none 0 0, .int .i64 0]) (t := 87) ?hr ?_; (case hd => rfl); (case hg => rfl); (case hr => first | (go_simp; done) | (go_simp; rfl)); intro gb769 hg w6 hbox hb; have n0_ := Aside0.mk (blk_below BK767.out hb); have n1_ := Aside0.mk (blk_below BK768.out hb); have n2_ := Aside0.mk (below_step (by repeat (first | (with_reducible first | exact HB.out | apply below_alloc | apply pw_below_drewN | apply below_drew1 | refine below_set ?_ GE767.out | refine below_set ?_ GE768.out) | exact HB.out)) hb); have n3_ := Aside0.mk (hbox); have n4_ := Aside0.mk ((by rw [hg]; exact (below_size (by repeat (first | (with_reducible first | exact HB.out | apply below_alloc | apply pw_below_drewN | apply below_drew1 | refine below_set ?_ GE767.out | refine below_set ?_ GE768.out) | exact HB.out))) : w.heap.size ≤ gb769)); have n5_ := Aside0.mk ((by rw [hg]; exact (below_size (by repeat (first | (with_reducible first | exact HB.out | apply below_alloc | apply pw_below_drewN | apply below_drew1 | refine below_set ?_ GE767.out | refine below_set ?_ GE768.out) | exact HB.out))) : w.heap.size ≤ gb769)); have n6_ := Aside0.mk ((by rw [hg]; exact Nat.ne_of_lt (blk_lt BK767.out) : gb767 ≠ gb769)); have n7_ := Aside0.mk ((by rw [hg]; exact Nat.ne_of_gt (blk_lt BK767.out) : gb769 ≠ gb767)); have n8_ := Aside0.mk ((by rw [hg]; exact Nat.ne_of_lt (blk_lt BK768.out) : gb768 ≠ gb769)); have n9_ := Aside0.mk ((by rw [hg]; exact Nat.ne_of_gt (blk_lt BK768.out) : gb769 ≠ gb768)); clear BK767; clear BK768; clear HB; have BK767 := n0_; have BK768 := n1_; have HB := n2_; have BK769 := n3_; have GW769 := n4_; have GE769 := n5_; have NB767_769 := n6_; have NB769_767 := n7_; have NB768_769 := n8_; have NB769_768 := n9_; clear n0_ n1_ n2_ n3_ n4_ n5_ n6_ n7_ n8_ n9_; clear hb hbox hg))
  (try simp only [Act.put, List.setIfInBounds_toArray, List.set_cons_zero, List.set_cons_succ])
  go_cut [14] (fun v14 wc => ∃ (kq : Nat) (x14_2 : Bool), v14 = .bool x14_2 ∧ Aside0 (taplineref03_Diff.j0 kq x14_2 l0_0 l0_1 l1_0 l1_1 = some (r1, r2)) ∧ Aside0 (kq ≤ k) ∧ Aside0 (wc.heap[gb767]? = some (.cells #[(.slice A0_0 l0_0.length c0_0), (.slice A0_1 l0_1.length c0_1)] 25 (0, 0))) ∧ Aside0 (wc.heap[gb768]? = some (.cells #[(.slice A1_0 l1_0.length c1_0), (.slice A1_1 l1_1.length c1_1)] 25 (0, 0))) ∧ Aside0 (wc.heap[gb769]? = some (.cells #[(.slice none 0 0), .int .i64 0] 87 (0, 0))) ∧ Aside0 (Below w.heap.size w wc))
  case first =>
    have H := HC3.out
    clear HC3
    replace H := Option.bind_eq_some_iff.mp H
    obtain ⟨t770, A70, H⟩ := H
    replace H : (if t770 = 0 then ((taplineref03_Check.f k l1_0 l1_1).bind fun t771 => (taplineref03_Diff.j0 k (t771 != 0) l0_0 l0_1 l1_0 l1_1)) else (taplineref03_Diff.j0 k true l0_0 l0_1 l1_0 l1_1)) = some (r1, r2) := H
    have A7 := Aside0.mk A70
    clear A70
    by_cases c8 : t770 = 0
    · rw [if_pos c8] at H
      have c8b0 : (t770 == 0) = true := beq_iff_eq.mpr c8
      have c8b1 : (t770 != 0) = false := bne_eq_false_iff_eq.mpr c8
      clear c8
      (first | rw [c8b0] | (simp only [i64_w, i32_w]; rw [c8b0]) | skip)
      replace H := Option.bind_eq_some_iff.mp H
      obtain ⟨t771, A90, H⟩ := H
      replace H : (taplineref03_Diff.j0 k (t771 != 0) l0_0 l0_1 l1_0 l1_1) = some (r1, r2) := H
      have A9 := Aside0.mk A90
      clear A90
      have H' := Aside0.mk H
      clear H
      have hnb10 := NB767_768.out
      have hnc10 := NB768_767.out
      have hnb11 := NB767_769.out
      have hnc11 := NB769_767.out
      have hcz12_0 : w6.cell? ⟨gb767, 0, none⟩ = some (.slice A0_0 l0_0.length c0_0) := (blk_cell BK767.out 0).trans rfl
      have hcz12_1 : w6.cell? ⟨gb767, 1, none⟩ = some (.slice A0_1 l0_1.length c0_1) := (blk_cell BK767.out 1).trans rfl
      have hfz12_0 := blk_frozen BK767.out 0
      have hfz12_1 := blk_frozen BK767.out 1
      go_wp2_with (first | ((with_reducible refine gate_callee (f := 27) rfl ?_); refine goesL_ (some 8) rfl rfl Try.func27 (by kernel_rfl) rfl #[.agg #[.slice A0_0 l0_0.length c0_0, .slice A0_1 l0_1.length c0_1]] rfl (by (try simp only [List.map_toArray, List.map_cons, List.map_nil]); first | done | rfl | (simp only [List.length_drop, List.length_take]; rfl)) ?_; (with_reducible refine (taplineref03_Check.calls k _ _ l0_0 _ _ l0_1 t770 _ ?side1 ?side2 ?side3 ?side4 A7.out).mono ?_); (case side1 => repeat (first | exact (Kd.C_below HR0_0.out HB.out) | (with_reducible refine Kd.C_alloc ?_ _) | (with_reducible refine Kd.C_drewN ?_ _) | (with_reducible refine Kd.C_drew ?_))); (case side2 => exact HC0_0.out); (case side3 => repeat (first | exact (Kd.C_below HR0_1.out HB.out) | (with_reducible refine Kd.C_alloc ?_ _) | (with_reducible refine Kd.C_drewN ?_ _) | (with_reducible refine Kd.C_drew ?_))); (case side4 => exact HC0_1.out); rintro e w13 ⟨rfl, hb⟩; refine ⟨_, rfl, ?_⟩; have n0_ := Aside0.mk (blk_below BK767.out hb); have n1_ := Aside0.mk (blk_below BK768.out hb); have n2_ := Aside0.mk (blk_below BK769.out hb); have n3_ := Aside0.mk (below_step (by repeat (first | (with_reducible first | exact HB.out | apply below_alloc | apply pw_below_drewN | apply below_drew1 | refine below_set ?_ GE767.out | refine below_set ?_ GE768.out | refine below_set ?_ GE769.out) | exact HB.out)) hb); clear BK767; clear BK768; clear BK769; clear HB; have BK767 := n0_; have BK768 := n1_; have BK769 := n2_; have HB := n3_; clear n0_ n1_ n2_ n3_; (try clear hb); (try clear hb2); (try clear hk); (try clear hi); have hnb14 := NB768_769.out; have hnc14 := NB769_768.out; have hcz15_0 : w13.cell? ⟨gb768, 0, none⟩ = some (.slice A1_0 l1_0.length c1_0) := (blk_cell BK768.out 0).trans rfl; have hcz15_1 : w13.cell? ⟨gb768, 1, none⟩ = some (.slice A1_1 l1_1.length c1_1) := (blk_cell BK768.out 1).trans rfl; have hfz15_0 := blk_frozen BK768.out 0; have hfz15_1 := blk_frozen BK768.out 1) | (go_at_call 27; (with_reducible refine (taplineref03_Check.calls k _ _ l1_0 _ _ l1_1 t771 _ ?side1 ?side2 ?side3 ?side4 A9.out).mono ?_); (case side1 => repeat (first | exact (Kd.C_below HR1_0.out HB.out) | (with_reducible refine Kd.C_alloc ?_ _) | (with_reducible refine Kd.C_drewN ?_ _) | (with_reducible refine Kd.C_drew ?_))); (case side2 => exact HC1_0.out); (case side3 => repeat (first | exact (Kd.C_below HR1_1.out HB.out) | (with_reducible refine Kd.C_alloc ?_ _) | (with_reducible refine Kd.C_drewN ?_ _) | (with_reducible refine Kd.C_drew ?_))); (case side4 => exact HC1_1.out); rintro e w16 ⟨rfl, hb⟩; have n0_ := Aside0.mk (blk_below BK767.out hb); have n1_ := Aside0.mk (blk_below BK768.out hb); have n2_ := Aside0.mk (blk_below BK769.out hb); have n3_ := Aside0.mk (below_step (by repeat (first | (with_reducible first | exact HB.out | apply below_alloc | apply pw_below_drewN | apply below_drew1 | refine below_set ?_ GE767.out | refine below_set ?_ GE768.out | refine below_set ?_ GE769.out) | exact HB.out)) hb); clear BK767; clear BK768; clear BK769; clear HB; have BK767 := n0_; have BK768 := n1_; have BK769 := n2_; have HB := n3_; clear n0_ n1_ n2_ n3_; (try clear hb); (try clear hb2); (try clear hk); (try clear hi)))
      go_meet
      case rel => exact ⟨_, ((t771 != 0)), (by first | rfl | (simp; done) | (simp [*]; done)), H', ⟨by first | omega | exact Nat.le_refl _⟩, ⟨BK767.out⟩, ⟨BK768.out⟩, ⟨BK769.out⟩, ⟨by repeat (first | (with_reducible first | exact HB.out | apply below_alloc | apply pw_below_drewN | apply below_drew1 | refine below_set ?_ GE767.out | refine below_set ?_ GE768.out | refine below_set ?_ GE769.out) | exact HB.out)⟩⟩
    · rw [if_neg c8] at H
      have c8b0 : (t770 == 0) = false := beq_eq_false_iff_ne.mpr c8
      have c8b1 : (t770 != 0) = true := bne_iff_ne.mpr c8
      (first | rw [c8b0] | (simp only [i64_w, i32_w]; rw [c8b0]) | skip)
      have H' := Aside0.mk H
      clear H
      have hnb17 := NB767_768.out
      have hnc17 := NB768_767.out
      have hnb18 := NB767_769.out
      have hnc18 := NB769_767.out
      have hcz19_0 : w6.cell? ⟨gb767, 0, none⟩ = some (.slice A0_0 l0_0.length c0_0) := (blk_cell BK767.out 0).trans rfl
      have hcz19_1 : w6.cell? ⟨gb767, 1, none⟩ = some (.slice A0_1 l0_1.length c0_1) := (blk_cell BK767.out 1).trans rfl
      have hfz19_0 := blk_frozen BK767.out 0
      have hfz19_1 := blk_frozen BK767.out 1
      go_wp2_with (first | ((with_reducible refine gate_callee (f := 27) rfl ?_); refine goesL_ (some 8) rfl rfl Try.func27 (by kernel_rfl) rfl #[.agg #[.slice A0_0 l0_0.length c0_0, .slice A0_1 l0_1.length c0_1]] rfl (by (try simp only [List.map_toArray, List.map_cons, List.map_nil]); first | done | rfl | (simp only [List.length_drop, List.length_take]; rfl)) ?_; (with_reducible refine (taplineref03_Check.calls k _ _ l0_0 _ _ l0_1 t770 _ ?side1 ?side2 ?side3 ?side4 A7.out).mono ?_); (case side1 => repeat (first | exact (Kd.C_below HR0_0.out HB.out) | (with_reducible refine Kd.C_alloc ?_ _) | (with_reducible refine Kd.C_drewN ?_ _) | (with_reducible refine Kd.C_drew ?_))); (case side2 => exact HC0_0.out); (case side3 => repeat (first | exact (Kd.C_below HR0_1.out HB.out) | (with_reducible refine Kd.C_alloc ?_ _) | (with_reducible refine Kd.C_drewN ?_ _) | (with_reducible refine Kd.C_drew ?_))); (case side4 => exact HC0_1.out); rintro e w20 ⟨rfl, hb⟩; refine ⟨_, rfl, ?_⟩; have n0_ := Aside0.mk (blk_below BK767.out hb); have n1_ := Aside0.mk (blk_below BK768.out hb); have n2_ := Aside0.mk (blk_below BK769.out hb); have n3_ := Aside0.mk (below_step (by repeat (first | (with_reducible first | exact HB.out | apply below_alloc | apply pw_below_drewN | apply below_drew1 | refine below_set ?_ GE767.out | refine below_set ?_ GE768.out | refine below_set ?_ GE769.out) | exact HB.out)) hb); clear BK767; clear BK768; clear BK769; clear HB; have BK767 := n0_; have BK768 := n1_; have BK769 := n2_; have HB := n3_; clear n0_ n1_ n2_ n3_; (try clear hb); (try clear hb2); (try clear hk); (try clear hi)))
      go_meet
      case rel => exact ⟨_, (true), (by first | rfl | (simp; done) | (simp [*]; done)), H', ⟨by first | omega | exact Nat.le_refl _⟩, ⟨BK767.out⟩, ⟨BK768.out⟩, ⟨BK769.out⟩, ⟨by repeat (first | (with_reducible first | exact HB.out | apply below_alloc | apply pw_below_drewN | apply below_drew1 | refine below_set ?_ GE767.out | refine below_set ?_ GE768.out | refine below_set ?_ GE769.out) | exact HB.out)⟩⟩
  case rest =>
    clear HC3
    try clear c1
    try clear c2
    try clear p2
    try clear c4
    try clear c8
    try clear c8b0
    try clear c8b1
    try clear c10
    try clear c11
    try clear c14
    try clear c17
    try clear c18
    try clear hcz12_0
    try clear hcz12_1
    try clear hcz15_0
    try clear hcz15_1
    try clear hcz19_0
    try clear hcz19_1
    try clear hfz12_0
    try clear hfz12_1
    try clear hfz15_0
    try clear hfz15_1
    try clear hfz19_0
    try clear hfz19_1
    obtain ⟨kq, x14_2, rfl, HA, HJ2, BK767, BK768, BK769, HB⟩ := hcut
    cases kq with
    | zero => exact absurd HA.out (by simp [taplineref03_Diff.j0])
    | succ kj2 =>
      have H := HA.out
      clear HA
      simp only [taplineref03_Diff.j0] at H
      by_cases c21 : x14_2 = true
      · subst c21
        have H1 : (some (([] : List (S94)), 30)) = some (r1, r2) := by rw [if_pos rfl] at H; exact H
        clear H
        have H := H1
        clear H1
        simp only [Option.some.injEq, Prod.mk.injEq] at H
        obtain ⟨rfl, rfl⟩ := H
        have hnb22 := NB769_767.out
        have hnc22 := NB767_769.out
        have hnb23 := NB769_768.out
        have hnc23 := NB768_769.out
        have hcz24_0 : wc.cell? ⟨gb769, 0, none⟩ = some (.slice none 0 0) := (blk_cell BK769.out 0).trans rfl
        have hcz24_1 : wc.cell? ⟨gb769, 1, none⟩ = some (.int .i64 0) := (blk_cell BK769.out 1).trans rfl
        have hfz24_0 := blk_frozen BK769.out 0
        have hfz24_1 := blk_frozen BK769.out 1
        go_wp2
        refine bodyPost_ret (results_cell_row rfl _ _ gb769 87 #[.slice none 0 0, .int .i64 30] (0, 0) _ rfl (by refine blk_put (cs := #[.slice none 0 0, .int .i64 0]) ?_ 1 _ rfl; refine blk_put (cs := #[.slice none 0 0, .int .i64 0]) ?_ 0 _ rfl; exact BK769.out) Try.underlying87 rfl (by kernel_rfl)) rfl ?_
        exact ⟨_, by first | rfl | (simp [errW_none, errW_some] <;> rfl) | (simp [*, errW_none, errW_some] <;> rfl), by first | exact Kd.R_nil _ _ _ _ _ | exact Kd.N_nil _ _ _ _ _ | exact Kd.V_nil _ _ _ _ _ | exact Kd.Q_nil _ _ _ _ _ | exact Kd.S_nil _ _ _ _ _, by repeat (first | (with_reducible first | exact HB.out | apply below_alloc | apply pw_below_drewN | apply below_drew1 | refine below_set ?_ GE767.out | refine below_set ?_ GE768.out | refine below_set ?_ GE769.out) | exact HB.out)⟩
      · replace c21 := Bool.eq_false_iff.mpr c21
        subst c21
        have H1 : ((taplineref03_SamePerm.f kj2 l0_0 l0_1 l1_0 l1_1).bind fun t772 => (if t772 = true then (taplineref03_Diff.l0 kj2 ([] : List (S94)) 0 l0_0 l0_1 l1_0 l1_1) else (some (([] : List (S94)), 1)))) = some (r1, r2) := by rw [if_neg (show ¬ (false = true) by decide)] at H; exact H
        clear H
        have H := H1
        clear H1
        replace H := Option.bind_eq_some_iff.mp H
        obtain ⟨t772, A250, H⟩ := H
        replace H : (if t772 = true then (taplineref03_Diff.l0 kj2 ([] : List (S94)) 0 l0_0 l0_1 l1_0 l1_1) else (some (([] : List (S94)), 1))) = some (r1, r2) := H
        have A25 := Aside0.mk A250
        clear A250
        by_cases c26 : t772 = true
        · subst c26
          have H1 : (taplineref03_Diff.l0 kj2 ([] : List (S94)) 0 l0_0 l0_1 l1_0 l1_1) = some (r1, r2) := by rw [if_pos rfl] at H; exact H
          clear H
          have H := H1
          clear H1
          have H' := Aside0.mk H
          clear H
          have hnb27 := NB767_768.out
          have hnc27 := NB768_767.out
          have hnb28 := NB767_769.out
          have hnc28 := NB769_767.out
          have hcz29_0 : wc.cell? ⟨gb767, 0, none⟩ = some (.slice A0_0 l0_0.length c0_0) := (blk_cell BK767.out 0).trans rfl
          have hcz29_1 : wc.cell? ⟨gb767, 1, none⟩ = some (.slice A0_1 l0_1.length c0_1) := (blk_cell BK767.out 1).trans rfl
          have hfz29_0 := blk_frozen BK767.out 0
          have hfz29_1 := blk_frozen BK767.out 1
          have hnb30 := NB768_769.out
          have hnc30 := NB769_768.out
          have hcz31_0 : wc.cell? ⟨gb768, 0, none⟩ = some (.slice A1_0 l1_0.length c1_0) := (blk_cell BK768.out 0).trans rfl
          have hcz31_1 : wc.cell? ⟨gb768, 1, none⟩ = some (.slice A1_1 l1_1.length c1_1) := (blk_cell BK768.out 1).trans rfl
          have hfz31_0 := blk_frozen BK768.out 0
          have hfz31_1 := blk_frozen BK768.out 1
          go_wp2_with (first | ((with_reducible refine gate_callee (f := 57) rfl ?_); refine goesL_ (some 18) rfl rfl Try.func57 (by kernel_rfl) rfl #[.agg #[.slice A0_0 l0_0.length c0_0, .slice A0_1 l0_1.length c0_1], .agg #[.slice A1_0 l1_0.length c1_0, .slice A1_1 l1_1.length c1_1]] rfl (by (try simp only [List.map_toArray, List.map_cons, List.map_nil]); first | done | rfl | (simp only [List.length_drop, List.length_take]; rfl)) ?_; (with_reducible refine (taplineref03_SamePerm.calls kj2 _ _ l0_0 _ _ l0_1 _ _ l1_0 _ _ l1_1 true _ ?side1 ?side2 ?side3 ?side4 ?side5 ?side6 ?side7 ?side8 A25.out).mono ?_); (case side1 => repeat (first | exact (Kd.C_below HR0_0.out HB.out) | (with_reducible refine Kd.C_alloc ?_ _) | (with_reducible refine Kd.C_drewN ?_ _) | (with_reducible refine Kd.C_drew ?_))); (case side2 => exact HC0_0.out); (case side3 => repeat (first | exact (Kd.C_below HR0_1.out HB.out) | (with_reducible refine Kd.C_alloc ?_ _) | (with_reducible refine Kd.C_drewN ?_ _) | (with_reducible refine Kd.C_drew ?_))); (case side4 => exact HC0_1.out); (case side5 => repeat (first | exact (Kd.C_below HR1_0.out HB.out) | (with_reducible refine Kd.C_alloc ?_ _) | (with_reducible refine Kd.C_drewN ?_ _) | (with_reducible refine Kd.C_drew ?_))); (case side6 => exact HC1_0.out); (case side7 => repeat (first | exact (Kd.C_below HR1_1.out HB.out) | (with_reducible refine Kd.C_alloc ?_ _) | (with_reducible refine Kd.C_drewN ?_ _) | (with_reducible refine Kd.C_drew ?_))); (case side8 => exact HC1_1.out); rintro e w32 ⟨rfl, hb⟩; refine ⟨_, rfl, ?_⟩; have n0_ := Aside0.mk (blk_below BK767.out hb); have n1_ := Aside0.mk (blk_below BK768.out hb); have n2_ := Aside0.mk (blk_below BK769.out hb); have n3_ := Aside0.mk (below_step (by repeat (first | (with_reducible first | exact HB.out | apply below_alloc | apply pw_below_drewN | apply below_drew1 | refine below_set ?_ GE767.out | refine below_set ?_ GE768.out | refine below_set ?_ GE769.out) | exact HB.out)) hb); clear BK767; clear BK768; clear BK769; clear HB; have BK767 := n0_; have BK768 := n1_; have BK769 := n2_; have HB := n3_; clear n0_ n1_ n2_ n3_; (try clear hb); (try clear hb2); (try clear hk); (try clear hi)))
          go_loopg [5, 6] kj2 (fun kq v5 v6 w' => ∃ (x5_2 : List (S94)) (x6_2 : Int), v6 = .int .i64 x6_2 ∧ Aside0 (taplineref03_Diff.l0 kq x5_2 x6_2 l0_0 l0_1 l1_0 l1_1 = some (r1, r2)) ∧ Aside0 (kq ≤ kj2) ∧ Aside0 (Kd.R k94 94 w' w.heap.size (fun _ => True) v5 x5_2) ∧ Aside0 (w'.heap[gb767]? = some (.cells #[(.slice A0_0 l0_0.length c0_0), (.slice A0_1 l0_1.length c0_1)] 25 (0, 0))) ∧ Aside0 (w'.heap[gb768]? = some (.cells #[(.slice A1_0 l1_0.length c1_0), (.slice A1_1 l1_1.length c1_1)] 25 (0, 0))) ∧ Aside0 (w'.heap[gb769]? = some (.cells #[(.slice none 0 0), .int .i64 0] 87 (0, 0))) ∧ Aside0 (Below w.heap.size w w'))
          case atStart => exact ⟨(([] : List (S94))), (0), (by first | rfl | (simp; done) | (simp [*]; done)), H', ⟨Nat.le_refl _⟩, ⟨by first | exact Kd.R_nil _ _ _ _ _ | exact Kd.N_nil _ _ _ _ _ | exact Kd.V_nil _ _ _ _ _ | exact Kd.Q_nil _ _ _ _ _ | exact Kd.S_nil _ _ _ _ _⟩, ⟨BK767.out⟩, ⟨BK768.out⟩, ⟨BK769.out⟩, ⟨by repeat (first | (with_reducible first | exact HB.out | apply below_alloc | apply pw_below_drewN | apply below_drew1 | refine below_set ?_ GE767.out | refine below_set ?_ GE768.out | refine below_set ?_ GE769.out) | exact HB.out)⟩⟩
          case round =>
            clear H'
            try clear c1
            try clear c2
            try clear p2
            try clear c3
            try clear c4
            try clear c5
            try clear c8
            try clear c8b0
            try clear c8b1
            try clear c10
            try clear c11
            try clear c14
            try clear c17
            try clear c18
            try clear c21
            try clear c22
            try clear c23
            try clear c26
            try clear c27
            try clear c28
            try clear c30
            try clear hcz12_0
            try clear hcz12_1
            try clear hcz15_0
            try clear hcz15_1
            try clear hcz19_0
            try clear hcz19_1
            try clear hcz24_0
            try clear hcz24_1
            try clear hcz29_0
            try clear hcz29_1
            try clear hcz31_0
            try clear hcz31_1
            try clear hfz12_0
            try clear hfz12_1
            try clear hfz15_0
            try clear hfz15_1
            try clear hfz19_0
            try clear hfz19_1
            try clear hfz24_0
            try clear hfz24_1
            try clear hfz29_0
            try clear hfz29_1
            try clear hfz31_0
            try clear hfz31_1
            try clear p2
            obtain ⟨x5_2, x6_2, rfl, HA, HK2, HO_5, BK767, BK768, BK769, HB⟩ := hrel
            cases gk with
            | zero => exact absurd HA.out (by simp [taplineref03_Diff.l0])
            | succ k2 =>
              have H := HA.out
              clear HA
              simp only [taplineref03_Diff.l0] at H
              by_cases c33 : x6_2 < (l0_1.length : Int)
              · rw [if_pos c33] at H
                have c33b0 : decide (x6_2 < (l0_1.length : Int)) = true := decide_eq_true c33
                clear c33
                by_cases c34 : 0 ≤ x6_2
                · rw [if_pos c34] at H
                  have c34b0 : decide (0 ≤ x6_2) = true := decide_eq_true c34
                  clear c34
                  by_cases c35 : x6_2 < (l1_1.length : Int)
                  · rw [if_pos c35] at H
                    have c35b0 : decide (x6_2 < (l1_1.length : Int)) = true := decide_eq_true c35
                    clear c35
                    by_cases c36 : (rd l0_1 x6_2) = (rd l1_1 x6_2)
                    · rw [if_pos c36] at H
                      have c36b0 : ((rd l0_1 x6_2) == (rd l1_1 x6_2)) = true := beq_iff_eq.mpr c36
                      have c36b1 : ((rd l0_1 x6_2) != (rd l1_1 x6_2)) = false := bne_eq_false_iff_eq.mpr c36
                      clear c36
                      have H' := Aside0.mk H
                      clear H
                      have hnb37 := NB767_768.out
                      have hnc37 := NB768_767.out
                      have hnb38 := NB767_769.out
                      have hnc38 := NB769_767.out
                      have hcz39_0 : wr.cell? ⟨gb767, 0, none⟩ = some (.slice A0_0 l0_0.length c0_0) := (blk_cell BK767.out 0).trans rfl
                      have hcz39_1 : wr.cell? ⟨gb767, 1, none⟩ = some (.slice A0_1 l0_1.length c0_1) := (blk_cell BK767.out 1).trans rfl
                      have hfz39_0 := blk_frozen BK767.out 0
                      have hfz39_1 := blk_frozen BK767.out 1
                      try go_wp2
                      have n0_ := Aside0.mk (Kd.R_drew HO_5.out)
                      have n1_ := Aside0.mk (blk_drew BK767.out)
                      have n2_ := Aside0.mk (blk_drew BK768.out)
                      have n3_ := Aside0.mk (blk_drew BK769.out)
                      have n4_ := Aside0.mk (below_drew1 HB.out)
                      clear HO_5
                      clear BK767
                      clear BK768
                      clear BK769
                      clear HB
                      have HO_5 := n0_
                      have BK767 := n1_
                      have BK768 := n2_
                      have BK769 := n3_
                      have HB := n4_
                      clear n0_ n1_ n2_ n3_ n4_
                      have p773 : 0 ≤ (x6_2 : Int) := of_decide_eq_true (by first | (with_reducible assumption) | assumption)
                      have q773 : x6_2 < (l0_1.length : Int) := of_decide_eq_true (by first | (with_reducible assumption) | assumption)
                      obtain ⟨ad773, e773, hx773_0⟩ := Kd.at_int HR0_1.out x6_2 p773 q773
                      have hw773_0 := hx773_0
                      cases e773
                      replace hx773_0 := (HB.out.cell (World.block_lt_of_cell? w _ hx773_0)).trans hx773_0
                      replace p773 := eq_true p773
                      replace q773 := eq_true q773
                      have p774 : 0 ≤ (x6_2 : Int) := of_decide_eq_true (by first | (with_reducible assumption) | assumption)
                      have q774 : x6_2 < (l1_1.length : Int) := of_decide_eq_true (by first | (with_reducible assumption) | assumption)
                      obtain ⟨ad774, e774, hx774_0⟩ := Kd.at_int HR1_1.out x6_2 p774 q774
                      have hw774_0 := hx774_0
                      cases e774
                      replace hx774_0 := (HB.out.cell (World.block_lt_of_cell? w _ hx774_0)).trans hx774_0
                      replace p774 := eq_true p774
                      replace q774 := eq_true q774
                      refine start_ (n := 11) (S := fun w' => w'.cell? ⟨gb767, 0, none⟩ = some (.slice A0_0 l0_0.length c0_0) ∧ w'.cell? ⟨gb767, 1, none⟩ = some (.slice (some ad773) l0_1.length c0_1) ∧ w'.cell? ⟨gb768, 0, none⟩ = some (.slice A1_0 l1_0.length c1_0) ∧ w'.cell? ⟨gb768, 1, none⟩ = some (.slice (some ad774) l1_1.length c1_1) ∧ w'.cell? (ad773.add (x6_2).toNat) = some (.int .u8 (rd l0_1 x6_2)) ∧ w'.cell? (ad774.add (x6_2).toNat) = some (.int .u8 (rd l1_1 x6_2))) (ds := []) #[false, false, false, false, false, false, false, false, false, false, false] (by kernel_rfl) rfl rfl ⟨(blk_cell BK767.out 0).trans rfl, (blk_cell BK767.out 1).trans rfl, (blk_cell BK768.out 0).trans rfl, (blk_cell BK768.out 1).trans rfl, ((HB.out.cell (World.block_lt_of_cell? w _ hw773_0)).trans hw773_0), ((HB.out.cell (World.block_lt_of_cell? w _ hw774_0)).trans hw774_0)⟩ (fun hHeld => ?_); refine with_tabW taplineref03_Diff.tab9 taplineref03_Diff.bits9 (fun HT_ HW_ => ?_)
                      generalize wr.drew = w40 at HO_5 BK767 BK768 BK769 HB hx773_0 hx774_0 hHeld ⊢
                      refine pure_ (i := 0) (N := some 28) (v := ?_) (a' := ?_) #[true, false, false, false, false, false, false, false, false, false, false] rfl rfl (any_of HT_.out (by kernel_rfl)) (fun _ _ _ h => h) (Or.inl ⟨by rfl, ?_⟩) ?_ ?_
                      rotate_left
                      · intro w'
                        go_simp
                        with_reducible rfl
                      rotate_left
                      · simp only [Act.put, List.setIfInBounds_toArray, List.set_cons_zero, List.set_cons_succ, i64_w, i32_w]
                        rfl
                      refine pure_ (i := 2) (N := some 30) (v := ?_) (a' := ?_) #[true, false, true, false, false, false, false, false, false, false, false] rfl rfl (any_of HT_.out (by kernel_rfl)) (fun _ _ _ h => h) (Or.inl ⟨by rfl, ?_⟩) ?_ ?_
                      rotate_left
                      · intro w'
                        go_simp
                        with_reducible rfl
                      rotate_left
                      · simp only [Act.put, List.setIfInBounds_toArray, List.set_cons_zero, List.set_cons_succ, i64_w, i32_w]
                        rfl
                      refine pure_ (i := 5) (N := some 33) (v := ?_) (a' := ?_) #[true, false, true, false, false, true, false, false, false, false, false] rfl rfl (any_of HT_.out (by kernel_rfl)) (fun _ _ _ h => h) (Or.inl ⟨by rfl, ?_⟩) ?_ ?_
                      rotate_left
                      · intro w'
                        go_simp
                        with_reducible rfl
                      rotate_left
                      · simp only [Act.put, List.setIfInBounds_toArray, List.set_cons_zero, List.set_cons_succ, i64_w, i32_w]
                        rfl
                      refine pure_ (i := 7) (N := some 35) (v := ?_) (a' := ?_) #[true, false, true, false, false, true, false, true, false, false, false] rfl rfl (any_of HT_.out (by kernel_rfl)) (fun _ _ _ h => h) (Or.inl ⟨by rfl, ?_⟩) ?_ ?_
                      rotate_left
                      · intro w'
                        go_simp
                        with_reducible rfl
                      rotate_left
                      · simp only [Act.put, List.setIfInBounds_toArray, List.set_cons_zero, List.set_cons_succ, i64_w, i32_w]
                        rfl
                      refine take_ (i := 1) (N := some 29) (v := ?_) (a' := ?_) #[true, true, true, false, false, true, false, true, false, false, false] rfl rfl (take_ofW HT_.out HW_.out (by kernel_rfl)) (fun _ _ _ h => h) (Or.inl ⟨by rfl, ?_⟩) hHeld ?_ ?_
                      rotate_left
                      · rintro w' ⟨s0, s1, s2, s3, s4, s5⟩
                        go_simp
                        with_reducible rfl
                      rotate_left
                      · simp only [Act.put, List.setIfInBounds_toArray, List.set_cons_zero, List.set_cons_succ, i64_w, i32_w]
                        rfl
                      refine pure_ (i := 3) (N := some 31) (v := ?_) (a' := ?_) #[true, true, true, true, false, true, false, true, false, false, false] rfl rfl (any_of HT_.out (by kernel_rfl)) (fun _ _ _ h => h) (Or.inl ⟨by rfl, ?_⟩) ?_ ?_
                      rotate_left
                      · intro w'
                        go_simp
                        with_reducible rfl
                      rotate_left
                      · simp only [Act.put, List.setIfInBounds_toArray, List.set_cons_zero, List.set_cons_succ, i64_w, i32_w]
                        rfl
                      refine take_ (i := 4) (N := some 32) (v := ?_) (a' := ?_) #[true, true, true, true, true, true, false, true, false, false, false] rfl rfl (take_ofW HT_.out HW_.out (by kernel_rfl)) (fun _ _ _ h => h) (Or.inl ⟨by rfl, ?_⟩) hHeld ?_ ?_
                      rotate_left
                      · rintro w' ⟨s0, s1, s2, s3, s4, s5⟩
                        go_simp
                        with_reducible rfl
                      rotate_left
                      · simp only [Act.put, List.setIfInBounds_toArray, List.set_cons_zero, List.set_cons_succ, i64_w, i32_w]
                        rfl
                      refine take_ (i := 6) (N := some 34) (v := ?_) (a' := ?_) #[true, true, true, true, true, true, true, true, false, false, false] rfl rfl (take_ofW HT_.out HW_.out (by kernel_rfl)) (fun _ _ _ h => h) (Or.inl ⟨by rfl, ?_⟩) hHeld ?_ ?_
                      rotate_left
                      · rintro w' ⟨s0, s1, s2, s3, s4, s5⟩
                        go_simp
                        with_reducible rfl
                      rotate_left
                      · simp only [Act.put, List.setIfInBounds_toArray, List.set_cons_zero, List.set_cons_succ, i64_w, i32_w]
                        rfl
                      refine pure_ (i := 8) (N := some 36) (v := ?_) (a' := ?_) #[true, true, true, true, true, true, true, true, true, false, false] rfl rfl (any_of HT_.out (by kernel_rfl)) (fun _ _ _ h => h) (Or.inl ⟨by rfl, ?_⟩) ?_ ?_
                      rotate_left
                      · intro w'
                        go_simp
                        with_reducible rfl
                      rotate_left
                      · simp only [Act.put, List.setIfInBounds_toArray, List.set_cons_zero, List.set_cons_succ, i64_w, i32_w]
                        rfl
                      refine take_ (i := 9) (N := some 37) (v := ?_) (a' := ?_) #[true, true, true, true, true, true, true, true, true, true, false] rfl rfl (take_ofW HT_.out HW_.out (by kernel_rfl)) (fun _ _ _ h => h) (Or.inl ⟨by rfl, ?_⟩) hHeld ?_ ?_
                      rotate_left
                      · rintro w' ⟨s0, s1, s2, s3, s4, s5⟩
                        go_simp
                        with_reducible rfl
                      rotate_left
                      · simp only [Act.put, List.setIfInBounds_toArray, List.set_cons_zero, List.set_cons_succ, i64_w, i32_w]
                        rfl
                      refine pure_ (i := 10) (N := some 38) (v := ?_) (a' := ?_) #[true, true, true, true, true, true, true, true, true, true, true] rfl rfl (any_of HT_.out (by kernel_rfl)) (fun _ _ _ h => h) (Or.inl ⟨by rfl, ?_⟩) ?_ ?_
                      rotate_left
                      · intro w'
                        go_simp
                        with_reducible rfl
                      rotate_left
                      · simp only [Act.put, List.setIfInBounds_toArray, List.set_cons_zero, List.set_cons_succ, i64_w, i32_w]
                        rfl
                      refine done_ (done_of HT_.out (by kernel_rfl)) ?_
                      try go_wp2
                      go_roundg k2
                      case measure => have := HJ2.out; have := HK2.out; omega
                      case rel => exact ⟨(x5_2), (wrap64 (x6_2 + 1)), (by first | rfl | (simp; done) | (simp [*]; done)), H', ⟨by have := HJ2.out; have := HK2.out; omega⟩, ⟨by (with_reducible repeat (first | apply Kd.R_alloc | apply Kd.R_drewN | apply Kd.R_drew)); exact HO_5.out⟩, ⟨BK767.out⟩, ⟨BK768.out⟩, ⟨BK769.out⟩, ⟨by repeat (first | (with_reducible first | exact HB.out | apply below_alloc | apply pw_below_drewN | apply below_drew1 | refine below_set ?_ GE767.out | refine below_set ?_ GE768.out | refine below_set ?_ GE769.out) | exact HB.out)⟩⟩
                    · rw [if_neg c36] at H
                      have c36b0 : ((rd l0_1 x6_2) == (rd l1_1 x6_2)) = false := beq_eq_false_iff_ne.mpr c36
                      have c36b1 : ((rd l0_1 x6_2) != (rd l1_1 x6_2)) = true := bne_iff_ne.mpr c36
                      by_cases c41 : x5_2.length < 8796093022208
                      · rw [if_pos c41] at H
                        have LMc41 := Aside0.mk c41
                        clear c41
                        obtain ⟨y777, hy777⟩ : ∃ y_ : List (S94), y_ = (x5_2 ++ [(⟨x6_2, rd l0_1 x6_2, rd l1_1 x6_2⟩ : S94)]) := ⟨_, rfl⟩
                        replace H : (taplineref03_Diff.l0 k2 y777 (wrap64 (x6_2 + 1)) l0_0 l0_1 l1_0 l1_1) = some (r1, r2) := by first | (rw [hy777]; with_reducible exact H) | (have H2_ := (Option.bind_some _ _).symm.trans H; rw [hy777]; with_reducible exact H2_) | (have H2_ := (Option.bind_some _ _).symm.trans H; with_reducible exact H2_) | with_reducible exact H | (rw [hy777]; exact H) | exact H
                        have Ny777 := Aside0.mk hy777
                        clear hy777
                        have H' := Aside0.mk H
                        clear H
                        have hnb42 := NB767_768.out
                        have hnc42 := NB768_767.out
                        have hnb43 := NB767_769.out
                        have hnc43 := NB769_767.out
                        have hcz44_0 : wr.cell? ⟨gb767, 0, none⟩ = some (.slice A0_0 l0_0.length c0_0) := (blk_cell BK767.out 0).trans rfl
                        have hcz44_1 : wr.cell? ⟨gb767, 1, none⟩ = some (.slice A0_1 l0_1.length c0_1) := (blk_cell BK767.out 1).trans rfl
                        have hfz44_0 := blk_frozen BK767.out 0
                        have hfz44_1 := blk_frozen BK767.out 1
                        try go_wp2
                        have n0_ := Aside0.mk (Kd.R_drew HO_5.out)
                        have n1_ := Aside0.mk (blk_drew BK767.out)
                        have n2_ := Aside0.mk (blk_drew BK768.out)
                        have n3_ := Aside0.mk (blk_drew BK769.out)
                        have n4_ := Aside0.mk (below_drew1 HB.out)
                        clear HO_5
                        clear BK767
                        clear BK768
                        clear BK769
                        clear HB
                        have HO_5 := n0_
                        have BK767 := n1_
                        have BK768 := n2_
                        have BK769 := n3_
                        have HB := n4_
                        clear n0_ n1_ n2_ n3_ n4_
                        have p773 : 0 ≤ (x6_2 : Int) := of_decide_eq_true (by first | (with_reducible assumption) | assumption)
                        have q773 : x6_2 < (l0_1.length : Int) := of_decide_eq_true (by first | (with_reducible assumption) | assumption)
                        obtain ⟨ad773, e773, hx773_0⟩ := Kd.at_int HR0_1.out x6_2 p773 q773
                        have hw773_0 := hx773_0
                        cases e773
                        replace hx773_0 := (HB.out.cell (World.block_lt_of_cell? w _ hx773_0)).trans hx773_0
                        replace p773 := eq_true p773
                        replace q773 := eq_true q773
                        have p774 : 0 ≤ (x6_2 : Int) := of_decide_eq_true (by first | (with_reducible assumption) | assumption)
                        have q774 : x6_2 < (l1_1.length : Int) := of_decide_eq_true (by first | (with_reducible assumption) | assumption)
                        obtain ⟨ad774, e774, hx774_0⟩ := Kd.at_int HR1_1.out x6_2 p774 q774
                        have hw774_0 := hx774_0
                        cases e774
                        replace hx774_0 := (HB.out.cell (World.block_lt_of_cell? w _ hx774_0)).trans hx774_0
                        replace p774 := eq_true p774
                        replace q774 := eq_true q774
                        refine start_ (n := 11) (S := fun w' => w'.cell? ⟨gb767, 0, none⟩ = some (.slice A0_0 l0_0.length c0_0) ∧ w'.cell? ⟨gb767, 1, none⟩ = some (.slice (some ad773) l0_1.length c0_1) ∧ w'.cell? ⟨gb768, 0, none⟩ = some (.slice A1_0 l1_0.length c1_0) ∧ w'.cell? ⟨gb768, 1, none⟩ = some (.slice (some ad774) l1_1.length c1_1) ∧ w'.cell? (ad773.add (x6_2).toNat) = some (.int .u8 (rd l0_1 x6_2)) ∧ w'.cell? (ad774.add (x6_2).toNat) = some (.int .u8 (rd l1_1 x6_2))) (ds := []) #[false, false, false, false, false, false, false, false, false, false, false] (by kernel_rfl) rfl rfl ⟨(blk_cell BK767.out 0).trans rfl, (blk_cell BK767.out 1).trans rfl, (blk_cell BK768.out 0).trans rfl, (blk_cell BK768.out 1).trans rfl, ((HB.out.cell (World.block_lt_of_cell? w _ hw773_0)).trans hw773_0), ((HB.out.cell (World.block_lt_of_cell? w _ hw774_0)).trans hw774_0)⟩ (fun hHeld => ?_); refine with_tabW taplineref03_Diff.tab9 taplineref03_Diff.bits9 (fun HT_ HW_ => ?_)
                        generalize wr.drew = w45 at HO_5 BK767 BK768 BK769 HB hx773_0 hx774_0 hHeld ⊢
                        refine pure_ (i := 0) (N := some 28) (v := ?_) (a' := ?_) #[true, false, false, false, false, false, false, false, false, false, false] rfl rfl (any_of HT_.out (by kernel_rfl)) (fun _ _ _ h => h) (Or.inl ⟨by rfl, ?_⟩) ?_ ?_
                        rotate_left
                        · intro w'
                          go_simp
                          with_reducible rfl
                        rotate_left
                        · simp only [Act.put, List.setIfInBounds_toArray, List.set_cons_zero, List.set_cons_succ, i64_w, i32_w]
                          rfl
                        refine pure_ (i := 2) (N := some 30) (v := ?_) (a' := ?_) #[true, false, true, false, false, false, false, false, false, false, false] rfl rfl (any_of HT_.out (by kernel_rfl)) (fun _ _ _ h => h) (Or.inl ⟨by rfl, ?_⟩) ?_ ?_
                        rotate_left
                        · intro w'
                          go_simp
                          with_reducible rfl
                        rotate_left
                        · simp only [Act.put, List.setIfInBounds_toArray, List.set_cons_zero, List.set_cons_succ, i64_w, i32_w]
                          rfl
                        refine pure_ (i := 5) (N := some 33) (v := ?_) (a' := ?_) #[true, false, true, false, false, true, false, false, false, false, false] rfl rfl (any_of HT_.out (by kernel_rfl)) (fun _ _ _ h => h) (Or.inl ⟨by rfl, ?_⟩) ?_ ?_
                        rotate_left
                        · intro w'
                          go_simp
                          with_reducible rfl
                        rotate_left
                        · simp only [Act.put, List.setIfInBounds_toArray, List.set_cons_zero, List.set_cons_succ, i64_w, i32_w]
                          rfl
                        refine pure_ (i := 7) (N := some 35) (v := ?_) (a' := ?_) #[true, false, true, false, false, true, false, true, false, false, false] rfl rfl (any_of HT_.out (by kernel_rfl)) (fun _ _ _ h => h) (Or.inl ⟨by rfl, ?_⟩) ?_ ?_
                        rotate_left
                        · intro w'
                          go_simp
                          with_reducible rfl
                        rotate_left
                        · simp only [Act.put, List.setIfInBounds_toArray, List.set_cons_zero, List.set_cons_succ, i64_w, i32_w]
                          rfl
                        refine take_ (i := 1) (N := some 29) (v := ?_) (a' := ?_) #[true, true, true, false, false, true, false, true, false, false, false] rfl rfl (take_ofW HT_.out HW_.out (by kernel_rfl)) (fun _ _ _ h => h) (Or.inl ⟨by rfl, ?_⟩) hHeld ?_ ?_
                        rotate_left
                        · rintro w' ⟨s0, s1, s2, s3, s4, s5⟩
                          go_simp
                          with_reducible rfl
                        rotate_left
                        · simp only [Act.put, List.setIfInBounds_toArray, List.set_cons_zero, List.set_cons_succ, i64_w, i32_w]
                          rfl
                        refine pure_ (i := 3) (N := some 31) (v := ?_) (a' := ?_) #[true, true, true, true, false, true, false, true, false, false, false] rfl rfl (any_of HT_.out (by kernel_rfl)) (fun _ _ _ h => h) (Or.inl ⟨by rfl, ?_⟩) ?_ ?_
                        rotate_left
                        · intro w'
                          go_simp
                          with_reducible rfl
                        rotate_left
                        · simp only [Act.put, List.setIfInBounds_toArray, List.set_cons_zero, List.set_cons_succ, i64_w, i32_w]
                          rfl
                        refine take_ (i := 4) (N := some 32) (v := ?_) (a' := ?_) #[true, true, true, true, true, true, false, true, false, false, false] rfl rfl (take_ofW HT_.out HW_.out (by kernel_rfl)) (fun _ _ _ h => h) (Or.inl ⟨by rfl, ?_⟩) hHeld ?_ ?_
                        rotate_left
                        · rintro w' ⟨s0, s1, s2, s3, s4, s5⟩
                          go_simp
                          with_reducible rfl
                        rotate_left
                        · simp only [Act.put, List.setIfInBounds_toArray, List.set_cons_zero, List.set_cons_succ, i64_w, i32_w]
                          rfl
                        refine take_ (i := 6) (N := some 34) (v := ?_) (a' := ?_) #[true, true, true, true, true, true, true, true, false, false, false] rfl rfl (take_ofW HT_.out HW_.out (by kernel_rfl)) (fun _ _ _ h => h) (Or.inl ⟨by rfl, ?_⟩) hHeld ?_ ?_
                        rotate_left
                        · rintro w' ⟨s0, s1, s2, s3, s4, s5⟩
                          go_simp
                          with_reducible rfl
                        rotate_left
                        · simp only [Act.put, List.setIfInBounds_toArray, List.set_cons_zero, List.set_cons_succ, i64_w, i32_w]
                          rfl
                        refine pure_ (i := 8) (N := some 36) (v := ?_) (a' := ?_) #[true, true, true, true, true, true, true, true, true, false, false] rfl rfl (any_of HT_.out (by kernel_rfl)) (fun _ _ _ h => h) (Or.inl ⟨by rfl, ?_⟩) ?_ ?_
                        rotate_left
                        · intro w'
                          go_simp
                          with_reducible rfl
                        rotate_left
                        · simp only [Act.put, List.setIfInBounds_toArray, List.set_cons_zero, List.set_cons_succ, i64_w, i32_w]
                          rfl
                        refine take_ (i := 9) (N := some 37) (v := ?_) (a' := ?_) #[true, true, true, true, true, true, true, true, true, true, false] rfl rfl (take_ofW HT_.out HW_.out (by kernel_rfl)) (fun _ _ _ h => h) (Or.inl ⟨by rfl, ?_⟩) hHeld ?_ ?_
                        rotate_left
                        · rintro w' ⟨s0, s1, s2, s3, s4, s5⟩
                          go_simp
                          with_reducible rfl
                        rotate_left
                        · simp only [Act.put, List.setIfInBounds_toArray, List.set_cons_zero, List.set_cons_succ, i64_w, i32_w]
                          rfl
                        refine pure_ (i := 10) (N := some 38) (v := ?_) (a' := ?_) #[true, true, true, true, true, true, true, true, true, true, true] rfl rfl (any_of HT_.out (by kernel_rfl)) (fun _ _ _ h => h) (Or.inl ⟨by rfl, ?_⟩) ?_ ?_
                        rotate_left
                        · intro w'
                          go_simp
                          with_reducible rfl
                        rotate_left
                        · simp only [Act.put, List.setIfInBounds_toArray, List.set_cons_zero, List.set_cons_succ, i64_w, i32_w]
                          rfl
                        refine done_ (done_of HT_.out (by kernel_rfl)) ?_
                        try go_wp2
                        have n0_ := Aside0.mk (Kd.R_drew HO_5.out)
                        have n1_ := Aside0.mk (blk_drew BK767.out)
                        have n2_ := Aside0.mk (blk_drew BK768.out)
                        have n3_ := Aside0.mk (blk_drew BK769.out)
                        have n4_ := Aside0.mk (below_drew1 HB.out)
                        clear HO_5
                        clear BK767
                        clear BK768
                        clear BK769
                        clear HB
                        have HO_5 := n0_
                        have BK767 := n1_
                        have BK768 := n2_
                        have BK769 := n3_
                        have HB := n4_
                        clear n0_ n1_ n2_ n3_ n4_
                        have p775 : 0 ≤ (x6_2 : Int) := of_decide_eq_true (by first | (with_reducible assumption) | assumption)
                        have q775 : x6_2 < (l0_1.length : Int) := of_decide_eq_true (by first | (with_reducible assumption) | assumption)
                        obtain ⟨ad775, e775, hx775_0⟩ := Kd.at_int HR0_1.out x6_2 p775 q775
                        have hw775_0 := hx775_0
                        obtain rfl : ad773 = ad775 := (by injection e775)
                        replace hx775_0 := (HB.out.cell (World.block_lt_of_cell? w _ hx775_0)).trans hx775_0
                        replace p775 := eq_true p775
                        replace q775 := eq_true q775
                        have p776 : 0 ≤ (x6_2 : Int) := of_decide_eq_true (by first | (with_reducible assumption) | assumption)
                        have q776 : x6_2 < (l1_1.length : Int) := of_decide_eq_true (by first | (with_reducible assumption) | assumption)
                        obtain ⟨ad776, e776, hx776_0⟩ := Kd.at_int HR1_1.out x6_2 p776 q776
                        have hw776_0 := hx776_0
                        obtain rfl : ad774 = ad776 := (by injection e776)
                        replace hx776_0 := (HB.out.cell (World.block_lt_of_cell? w _ hx776_0)).trans hx776_0
                        replace p776 := eq_true p776
                        replace q776 := eq_true q776
                        refine start_ (n := 16) (S := fun w' => w'.cell? ⟨gb767, 0, none⟩ = some (.slice A0_0 l0_0.length c0_0) ∧ w'.cell? ⟨gb767, 1, none⟩ = some (.slice (some ad773) l0_1.length c0_1) ∧ w'.cell? ⟨gb768, 0, none⟩ = some (.slice A1_0 l1_0.length c1_0) ∧ w'.cell? ⟨gb768, 1, none⟩ = some (.slice (some ad774) l1_1.length c1_1) ∧ w'.cell? (ad773.add (x6_2).toNat) = some (.int .u8 (rd l0_1 x6_2)) ∧ w'.cell? (ad774.add (x6_2).toNat) = some (.int .u8 (rd l1_1 x6_2))) (ds := []) #[false, false, false, false, false, false, false, false, false, false, false, false, false, false, false, false] (by kernel_rfl) rfl rfl ⟨(blk_cell BK767.out 0).trans rfl, (blk_cell BK767.out 1).trans rfl, (blk_cell BK768.out 0).trans rfl, (blk_cell BK768.out 1).trans rfl, ((HB.out.cell (World.block_lt_of_cell? w _ hw775_0)).trans hw775_0), ((HB.out.cell (World.block_lt_of_cell? w _ hw776_0)).trans hw776_0)⟩ (fun hHeld => ?_); refine with_tabW taplineref03_Diff.tab10 taplineref03_Diff.bits10 (fun HT_ HW_ => ?_)
                        generalize w45.drew = w46 at HO_5 BK767 BK768 BK769 HB hx775_0 hx776_0 hHeld ⊢
                        refine pure_ (i := 0) (N := some 39) (v := ?_) (a' := ?_) #[true, false, false, false, false, false, false, false, false, false, false, false, false, false, false, false] rfl rfl (any_of HT_.out (by kernel_rfl)) (fun _ _ _ h => h) (Or.inl ⟨by rfl, ?_⟩) ?_ ?_
                        rotate_left
                        · intro w'
                          go_simp
                          with_reducible rfl
                        rotate_left
                        · simp only [Act.put, List.setIfInBounds_toArray, List.set_cons_zero, List.set_cons_succ, i64_w, i32_w]
                          rfl
                        refine pure_ (i := 1) (N := some 40) (v := ?_) (a' := ?_) #[true, true, false, false, false, false, false, false, false, false, false, false, false, false, false, false] rfl rfl (any_of HT_.out (by kernel_rfl)) (fun _ _ _ h => h) (Or.inl ⟨by rfl, ?_⟩) ?_ ?_
                        rotate_left
                        · intro w'
                          go_simp
                          with_reducible rfl
                        rotate_left
                        · simp only [Act.put, List.setIfInBounds_toArray, List.set_cons_zero, List.set_cons_succ, i64_w, i32_w]
                          rfl
                        refine pure_ (i := 2) (N := some 41) (v := ?_) (a' := ?_) #[true, true, true, false, false, false, false, false, false, false, false, false, false, false, false, false] rfl rfl (any_of HT_.out (by kernel_rfl)) (fun _ _ _ h => h) (Or.inl ⟨by rfl, ?_⟩) ?_ ?_
                        rotate_left
                        · intro w'
                          go_simp
                          with_reducible rfl
                        rotate_left
                        · simp only [Act.put, List.setIfInBounds_toArray, List.set_cons_zero, List.set_cons_succ, i64_w, i32_w]
                          rfl
                        refine pure_ (i := 4) (N := some 43) (v := ?_) (a' := ?_) #[true, true, true, false, true, false, false, false, false, false, false, false, false, false, false, false] rfl rfl (any_of HT_.out (by kernel_rfl)) (fun _ _ _ h => h) (Or.inl ⟨by rfl, ?_⟩) ?_ ?_
                        rotate_left
                        · intro w'
                          go_simp
                          with_reducible rfl
                        rotate_left
                        · simp only [Act.put, List.setIfInBounds_toArray, List.set_cons_zero, List.set_cons_succ, i64_w, i32_w]
                          rfl
                        refine pure_ (i := 7) (N := some 46) (v := ?_) (a' := ?_) #[true, true, true, false, true, false, false, true, false, false, false, false, false, false, false, false] rfl rfl (any_of HT_.out (by kernel_rfl)) (fun _ _ _ h => h) (Or.inl ⟨by rfl, ?_⟩) ?_ ?_
                        rotate_left
                        · intro w'
                          go_simp
                          with_reducible rfl
                        rotate_left
                        · simp only [Act.put, List.setIfInBounds_toArray, List.set_cons_zero, List.set_cons_succ, i64_w, i32_w]
                          rfl
                        refine pure_ (i := 9) (N := some 48) (v := ?_) (a' := ?_) #[true, true, true, false, true, false, false, true, false, true, false, false, false, false, false, false] rfl rfl (any_of HT_.out (by kernel_rfl)) (fun _ _ _ h => h) (Or.inl ⟨by rfl, ?_⟩) ?_ ?_
                        rotate_left
                        · intro w'
                          go_simp
                          with_reducible rfl
                        rotate_left
                        · simp only [Act.put, List.setIfInBounds_toArray, List.set_cons_zero, List.set_cons_succ, i64_w, i32_w]
                          rfl
                        refine take_ (i := 3) (N := some 42) (v := ?_) (a' := ?_) #[true, true, true, true, true, false, false, true, false, true, false, false, false, false, false, false] rfl rfl (take_ofW HT_.out HW_.out (by kernel_rfl)) (fun _ _ _ h => h) (Or.inl ⟨by rfl, ?_⟩) hHeld ?_ ?_
                        rotate_left
                        · rintro w' ⟨s0, s1, s2, s3, s4, s5⟩
                          go_simp
                          with_reducible rfl
                        rotate_left
                        · simp only [Act.put, List.setIfInBounds_toArray, List.set_cons_zero, List.set_cons_succ, i64_w, i32_w]
                          rfl
                        refine pure_ (i := 5) (N := some 44) (v := ?_) (a' := ?_) #[true, true, true, true, true, true, false, true, false, true, false, false, false, false, false, false] rfl rfl (any_of HT_.out (by kernel_rfl)) (fun _ _ _ h => h) (Or.inl ⟨by rfl, ?_⟩) ?_ ?_
                        rotate_left
                        · intro w'
                          go_simp
                          with_reducible rfl
                        rotate_left
                        · simp only [Act.put, List.setIfInBounds_toArray, List.set_cons_zero, List.set_cons_succ, i64_w, i32_w]
                          rfl
                        refine take_ (i := 6) (N := some 45) (v := ?_) (a' := ?_) #[true, true, true, true, true, true, true, true, false, true, false, false, false, false, false, false] rfl rfl (take_ofW HT_.out HW_.out (by kernel_rfl)) (fun _ _ _ h => h) (Or.inl ⟨by rfl, ?_⟩) hHeld ?_ ?_
                        rotate_left
                        · rintro w' ⟨s0, s1, s2, s3, s4, s5⟩
                          go_simp
                          with_reducible rfl
                        rotate_left
                        · simp only [Act.put, List.setIfInBounds_toArray, List.set_cons_zero, List.set_cons_succ, i64_w, i32_w]
                          rfl
                        refine take_ (i := 8) (N := some 47) (v := ?_) (a' := ?_) #[true, true, true, true, true, true, true, true, true, true, false, false, false, false, false, false] rfl rfl (take_ofW HT_.out HW_.out (by kernel_rfl)) (fun _ _ _ h => h) (Or.inl ⟨by rfl, ?_⟩) hHeld ?_ ?_
                        rotate_left
                        · rintro w' ⟨s0, s1, s2, s3, s4, s5⟩
                          go_simp
                          with_reducible rfl
                        rotate_left
                        · simp only [Act.put, List.setIfInBounds_toArray, List.set_cons_zero, List.set_cons_succ, i64_w, i32_w]
                          rfl
                        refine pure_ (i := 10) (N := some 49) (v := ?_) (a' := ?_) #[true, true, true, true, true, true, true, true, true, true, true, false, false, false, false, false] rfl rfl (any_of HT_.out (by kernel_rfl)) (fun _ _ _ h => h) (Or.inl ⟨by rfl, ?_⟩) ?_ ?_
                        rotate_left
                        · intro w'
                          go_simp
                          with_reducible rfl
                        rotate_left
                        · simp only [Act.put, List.setIfInBounds_toArray, List.set_cons_zero, List.set_cons_succ, i64_w, i32_w]
                          rfl
                        refine take_ (i := 11) (N := some 50) (v := ?_) (a' := ?_) #[true, true, true, true, true, true, true, true, true, true, true, true, false, false, false, false] rfl rfl (take_ofW HT_.out HW_.out (by kernel_rfl)) (fun _ _ _ h => h) (Or.inl ⟨by rfl, ?_⟩) hHeld ?_ ?_
                        rotate_left
                        · rintro w' ⟨s0, s1, s2, s3, s4, s5⟩
                          go_simp
                          with_reducible rfl
                        rotate_left
                        · simp only [Act.put, List.setIfInBounds_toArray, List.set_cons_zero, List.set_cons_succ, i64_w, i32_w]
                          rfl
                        refine pure_ (i := 12) (N := some 51) (v := ?_) (a' := ?_) #[true, true, true, true, true, true, true, true, true, true, true, true, true, false, false, false] rfl rfl (any_of HT_.out (by kernel_rfl)) (fun _ _ _ h => h) (Or.inl ⟨by rfl, ?_⟩) ?_ ?_
                        rotate_left
                        · intro w'
                          go_simp
                          with_reducible rfl
                        rotate_left
                        · simp only [Act.put, List.setIfInBounds_toArray, List.set_cons_zero, List.set_cons_succ, i64_w, i32_w]
                          rfl
                        refine one_ (i := 13) (N := some 52) #[true, true, true, true, true, true, true, true, true, true, true, true, true, true, false, false] rfl rfl (one_of HT_.out (by kernel_rfl)) (by decide) (fun K hK => ?_)
                        refine value_ (w1 := ?_) (v := ?_) (by rfl) rfl ?_ ?_
                        rotate_left 2
                        · go_simp
                          constructor
                          · rfl
                          · rfl
                        refine hK.out _ _ ⟨(blk_cell (blk_alloc BK767.out _) 0).trans rfl, (blk_cell (blk_alloc BK767.out _) 1).trans rfl, (blk_cell (blk_alloc BK768.out _) 0).trans rfl, (blk_cell (blk_alloc BK768.out _) 1).trans rfl, (World.cell?_alloc_lt _ _ _ (World.block_lt_of_cell? _ _ (((HB.out.cell (World.block_lt_of_cell? w _ hw775_0)).trans hw775_0)))).trans (((HB.out.cell (World.block_lt_of_cell? w _ hw775_0)).trans hw775_0)), (World.cell?_alloc_lt _ _ _ (World.block_lt_of_cell? _ _ (((HB.out.cell (World.block_lt_of_cell? w _ hw776_0)).trans hw776_0)))).trans (((HB.out.cell (World.block_lt_of_cell? w _ hw776_0)).trans hw776_0))⟩ (fun hHeld => ?_)
                        clear hK K
                        refine norm_ (a' := ?_) ?_ ?_
                        rotate_left
                        · show Act.put _ (some 52) _ = _
                          simp only [Act.put, List.setIfInBounds_toArray, List.set_cons_zero, List.set_cons_succ, i64_w, i32_w]
                          rfl
                        refine one_ (i := 14) (N := some 53) #[true, true, true, true, true, true, true, true, true, true, true, true, true, true, true, false] rfl rfl (one_of HT_.out (by kernel_rfl)) (by decide) (fun K hK => ?_)
                        refine Kd.R_append_step k94 (w0 := w) w.heap.size (by rfl) (.tmp 39) (.tmp 52) 83 94 (.agg #[(.int .i64 0), (.int .u8 0), (.int .u8 0)]) 16 rfl Try.underlying83 info94 rfl (by decide) (by omega) u5 x5_2 (⟨x6_2, rd l0_1 x6_2, rd l1_1 x6_2⟩ : S94) [.int .i64 x6_2, .int .u8 (rd l0_1 x6_2), .int .u8 (rd l1_1 x6_2)] (fun _ => True) (fun _ => False) rfl rfl ?aP (fun _ hk => hk.elim) ?aF ?aO ?aB ?aS ?aL ?_
                        (case aP => exact k94_mkM _ _ _ (⟨x6_2, rd l0_1 x6_2, rd l1_1 x6_2⟩ : S94))
                        (case aB => exact (by repeat (first | (with_reducible first | exact HB.out | apply below_alloc | apply pw_below_drewN | apply below_drew1 | refine below_set ?_ GE767.out | refine below_set ?_ GE768.out | refine below_set ?_ GE769.out) | exact HB.out)))
                        (case aF => exact (fun _ _ => trivial))
                        (case aO => exact HO_5.out)
                        (case aS => exact (below_size (by repeat (first | (with_reducible first | exact HB.out | apply below_alloc | apply pw_below_drewN | apply below_drew1 | refine below_set ?_ GE767.out | refine below_set ?_ GE768.out | refine below_set ?_ GE769.out) | exact HB.out))))
                        (case aL => have := LMc41.out; omega)
                        intro v778 w47 ho hb hg hat
                        rw [← Ny777.out] at ho
                        have n0_ := Aside0.mk (blk_grown BK767.out hg (Kd.R_ne HO_5.out BK767.out (by decide)))
                        have n1_ := Aside0.mk (blk_grown BK768.out hg (Kd.R_ne HO_5.out BK768.out (by decide)))
                        have n2_ := Aside0.mk (blk_grown BK769.out hg (Kd.R_ne HO_5.out BK769.out (by decide)))
                        have n3_ := Aside0.mk (hb)
                        have n4_ := Aside0.mk (ho)
                        clear BK767
                        clear BK768
                        clear BK769
                        clear HB
                        clear HO_5
                        have BK767 := n0_
                        have BK768 := n1_
                        have BK769 := n2_
                        have HB := n3_
                        have HO779 := n4_
                        clear n0_ n1_ n2_ n3_ n4_
                        clear ho hb hg hat
                        refine hK.out _ _ ⟨(blk_cell BK767.out 0).trans rfl, (blk_cell BK767.out 1).trans rfl, (blk_cell BK768.out 0).trans rfl, (blk_cell BK768.out 1).trans rfl, ((HB.out.cell (World.block_lt_of_cell? w _ hw775_0)).trans hw775_0), ((HB.out.cell (World.block_lt_of_cell? w _ hw776_0)).trans hw776_0)⟩ (fun hHeld => ?_)
                        clear hK K
                        refine norm_ (a' := ?_) ?_ ?_
                        rotate_left
                        · show Act.put _ (some 53) _ = _
                          simp only [Act.put, List.setIfInBounds_toArray, List.set_cons_zero, List.set_cons_succ, i64_w, i32_w]
                          rfl
                        refine pure_ (i := 15) (N := some 5) (v := ?_) (a' := ?_) #[true, true, true, true, true, true, true, true, true, true, true, true, true, true, true, true] rfl rfl (any_of HT_.out (by kernel_rfl)) (fun _ _ _ h => h) (Or.inl ⟨by rfl, ?_⟩) ?_ ?_
                        rotate_left
                        · intro w'
                          go_simp
                          with_reducible rfl
                        rotate_left
                        · simp only [Act.put, List.setIfInBounds_toArray, List.set_cons_zero, List.set_cons_succ, i64_w, i32_w]
                          rfl
                        refine done_ (done_of HT_.out (by kernel_rfl)) ?_
                        try go_wp2
                        go_roundg k2
                        case measure => have := HJ2.out; have := HK2.out; omega
                        case rel => exact ⟨(y777), (wrap64 (x6_2 + 1)), (by first | rfl | (simp; done) | (simp [*]; done)), H', ⟨by have := HJ2.out; have := HK2.out; omega⟩, ⟨by (with_reducible repeat (first | apply Kd.R_alloc | apply Kd.R_drewN | apply Kd.R_drew)); exact HO779.out⟩, ⟨BK767.out⟩, ⟨BK768.out⟩, ⟨BK769.out⟩, ⟨by repeat (first | (with_reducible first | exact HB.out | apply below_alloc | apply pw_below_drewN | apply below_drew1 | refine below_set ?_ GE767.out | refine below_set ?_ GE768.out | refine below_set ?_ GE769.out) | exact HB.out)⟩⟩
                      · rw [if_neg c41] at H
                        exact absurd H (by simp)
                  · rw [if_neg c35] at H
                    exact absurd H (by simp)
                · rw [if_neg c34] at H
                  exact absurd H (by simp)
              · rw [if_neg c33] at H
                have c33b0 : decide (x6_2 < (l0_1.length : Int)) = false := decide_eq_false c33
                clear c33
                simp only [Option.some.injEq, Prod.mk.injEq] at H
                obtain ⟨rfl, rfl⟩ := H
                have hnb48 := NB767_768.out
                have hnc48 := NB768_767.out
                have hnb49 := NB767_769.out
                have hnc49 := NB769_767.out
                have hcz50_0 : wr.cell? ⟨gb767, 0, none⟩ = some (.slice A0_0 l0_0.length c0_0) := (blk_cell BK767.out 0).trans rfl
                have hcz50_1 : wr.cell? ⟨gb767, 1, none⟩ = some (.slice A0_1 l0_1.length c0_1) := (blk_cell BK767.out 1).trans rfl
                have hfz50_0 := blk_frozen BK767.out 0
                have hfz50_1 := blk_frozen BK767.out 1
                obtain ⟨Ao51, co51, eo51⟩ := Kd.R_slice HO_5.out
                subst eo51
                have hnb52 := NB769_768.out
                have hnc52 := NB768_769.out
                have hcz53_0 : wr.cell? ⟨gb769, 0, none⟩ = some (.slice none 0 0) := (blk_cell BK769.out 0).trans rfl
                have hcz53_1 : wr.cell? ⟨gb769, 1, none⟩ = some (.int .i64 0) := (blk_cell BK769.out 1).trans rfl
                have hfz53_0 := blk_frozen BK769.out 0
                have hfz53_1 := blk_frozen BK769.out 1
                go_wp2
                refine bodyPost_ret (results_cell_row rfl _ _ gb769 87 #[.slice Ao51 x5_2.length co51, .int .i64 0] (0, 0) _ rfl (by refine blk_put (cs := #[.slice Ao51 x5_2.length co51, .int .i64 0]) ?_ 1 _ rfl; refine blk_put (cs := #[.slice none 0 0, .int .i64 0]) ?_ 0 _ rfl; exact BK769.out) Try.underlying87 rfl (by kernel_rfl)) rfl ?_
                exact ⟨_, by first | rfl | (simp [errW_none, errW_some] <;> rfl) | (simp [*, errW_none, errW_some] <;> rfl), by (with_reducible repeat (first | apply Kd.R_alloc | apply Kd.R_drewN | apply Kd.R_drew)); exact Kd.R_mono (Kd.R_far (p := ⟨gb769, 1, none⟩) (Kd.R_far (p := ⟨gb769, 0, none⟩) (Kd.R_types HO_5.out BK769.out (by decide)) (fun _ hk => hk.2) (.slice Ao51 x5_2.length co51)) (fun _ hk => hk.2) (.int .i64 0)) (fun _ hk => trivial), by repeat (first | (with_reducible first | exact HB.out | apply below_alloc | apply pw_below_drewN | apply below_drew1 | refine below_set ?_ GE767.out | refine below_set ?_ GE768.out | refine below_set ?_ GE769.out) | exact HB.out)⟩
        · replace c26 := Bool.eq_false_iff.mpr c26
          subst c26
          have H1 : (some (([] : List (S94)), 1)) = some (r1, r2) := by rw [if_neg (show ¬ (false = true) by decide)] at H; exact H
          clear H
          have H := H1
          clear H1
          simp only [Option.some.injEq, Prod.mk.injEq] at H
          obtain ⟨rfl, rfl⟩ := H
          have hnb54 := NB767_768.out
          have hnc54 := NB768_767.out
          have hnb55 := NB767_769.out
          have hnc55 := NB769_767.out
          have hcz56_0 : wc.cell? ⟨gb767, 0, none⟩ = some (.slice A0_0 l0_0.length c0_0) := (blk_cell BK767.out 0).trans rfl
          have hcz56_1 : wc.cell? ⟨gb767, 1, none⟩ = some (.slice A0_1 l0_1.length c0_1) := (blk_cell BK767.out 1).trans rfl
          have hfz56_0 := blk_frozen BK767.out 0
          have hfz56_1 := blk_frozen BK767.out 1
          have hnb57 := NB768_769.out
          have hnc57 := NB769_768.out
          have hcz58_0 : wc.cell? ⟨gb768, 0, none⟩ = some (.slice A1_0 l1_0.length c1_0) := (blk_cell BK768.out 0).trans rfl
          have hcz58_1 : wc.cell? ⟨gb768, 1, none⟩ = some (.slice A1_1 l1_1.length c1_1) := (blk_cell BK768.out 1).trans rfl
          have hfz58_0 := blk_frozen BK768.out 0
          have hfz58_1 := blk_frozen BK768.out 1
          go_wp2_with (first | ((with_reducible refine gate_callee (f := 57) rfl ?_); refine goesL_ (some 18) rfl rfl Try.func57 (by kernel_rfl) rfl #[.agg #[.slice A0_0 l0_0.length c0_0, .slice A0_1 l0_1.length c0_1], .agg #[.slice A1_0 l1_0.length c1_0, .slice A1_1 l1_1.length c1_1]] rfl (by (try simp only [List.map_toArray, List.map_cons, List.map_nil]); first | done | rfl | (simp only [List.length_drop, List.length_take]; rfl)) ?_; (with_reducible refine (taplineref03_SamePerm.calls kj2 _ _ l0_0 _ _ l0_1 _ _ l1_0 _ _ l1_1 false _ ?side1 ?side2 ?side3 ?side4 ?side5 ?side6 ?side7 ?side8 A25.out).mono ?_); (case side1 => repeat (first | exact (Kd.C_below HR0_0.out HB.out) | (with_reducible refine Kd.C_alloc ?_ _) | (with_reducible refine Kd.C_drewN ?_ _) | (with_reducible refine Kd.C_drew ?_))); (case side2 => exact HC0_0.out); (case side3 => repeat (first | exact (Kd.C_below HR0_1.out HB.out) | (with_reducible refine Kd.C_alloc ?_ _) | (with_reducible refine Kd.C_drewN ?_ _) | (with_reducible refine Kd.C_drew ?_))); (case side4 => exact HC0_1.out); (case side5 => repeat (first | exact (Kd.C_below HR1_0.out HB.out) | (with_reducible refine Kd.C_alloc ?_ _) | (with_reducible refine Kd.C_drewN ?_ _) | (with_reducible refine Kd.C_drew ?_))); (case side6 => exact HC1_0.out); (case side7 => repeat (first | exact (Kd.C_below HR1_1.out HB.out) | (with_reducible refine Kd.C_alloc ?_ _) | (with_reducible refine Kd.C_drewN ?_ _) | (with_reducible refine Kd.C_drew ?_))); (case side8 => exact HC1_1.out); rintro e w59 ⟨rfl, hb⟩; refine ⟨_, rfl, ?_⟩; have n0_ := Aside0.mk (blk_below BK767.out hb); have n1_ := Aside0.mk (blk_below BK768.out hb); have n2_ := Aside0.mk (blk_below BK769.out hb); have n3_ := Aside0.mk (below_step (by repeat (first | (with_reducible first | exact HB.out | apply below_alloc | apply pw_below_drewN | apply below_drew1 | refine below_set ?_ GE767.out | refine below_set ?_ GE768.out | refine below_set ?_ GE769.out) | exact HB.out)) hb); clear BK767; clear BK768; clear BK769; clear HB; have BK767 := n0_; have BK768 := n1_; have BK769 := n2_; have HB := n3_; clear n0_ n1_ n2_ n3_; (try clear hb); (try clear hb2); (try clear hk); (try clear hi); have hcz60_0 : w59.cell? ⟨gb769, 0, none⟩ = some (.slice none 0 0) := (blk_cell BK769.out 0).trans rfl; have hcz60_1 : w59.cell? ⟨gb769, 1, none⟩ = some (.int .i64 0) := (blk_cell BK769.out 1).trans rfl; have hfz60_0 := blk_frozen BK769.out 0; have hfz60_1 := blk_frozen BK769.out 1))
          refine bodyPost_ret (results_cell_row rfl _ _ gb769 87 #[.slice none 0 0, .int .i64 1] (0, 0) _ rfl (by refine blk_put (cs := #[.slice none 0 0, .int .i64 0]) ?_ 1 _ rfl; refine blk_put (cs := #[.slice none 0 0, .int .i64 0]) ?_ 0 _ rfl; exact BK769.out) Try.underlying87 rfl (by kernel_rfl)) rfl ?_
          exact ⟨_, by first | rfl | (simp [errW_none, errW_some] <;> rfl) | (simp [*, errW_none, errW_some] <;> rfl), by first | exact Kd.R_nil _ _ _ _ _ | exact Kd.N_nil _ _ _ _ _ | exact Kd.V_nil _ _ _ _ _ | exact Kd.Q_nil _ _ _ _ _ | exact Kd.S_nil _ _ _ _ _, by repeat (first | (with_reducible first | exact HB.out | apply below_alloc | apply pw_below_drewN | apply below_drew1 | refine below_set ?_ GE767.out | refine below_set ?_ GE768.out | refine below_set ?_ GE769.out) | exact HB.out)⟩

end Go.Proofs.Ytmpdimigpaogkaa.M
