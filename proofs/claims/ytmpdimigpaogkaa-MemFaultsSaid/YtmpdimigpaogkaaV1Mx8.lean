/- A text of the proof of MemFaults: what of it that proof uses. No statement of its own. -/
-- Told by a program of this seat's session (it runs the kit's print program, with some functions given by hand). Not trusted: Lean checks it.
import Derived.Test.YtmpdimigpaogkaaV1Mx0
import Derived.Test.YtmpdimigpaogkaaV1Mx1
import Derived.Test.YtmpdimigpaogkaaV1Mx3
import Derived.Test.YtmpdimigpaogkaaV1Mx6
import Derived.Test.YtmpdimigpaogkaaV1Mx7
import Derived.Test.YtmpdimigpaogkaaV1G10
namespace Go.Proofs.Ytmpdimigpaogkaa.M
open Go.Proofs.Ytmpdimigpaogkaa.G (bits_Check.f bits_Check.calls bits_wrap.f bits_wrap.calls slices_Clone_int_int.f slices_Clone_int_int.calls slices_Clone_byte_byte.f slices_Clone_byte_byte.calls mem_copied.f mem_copied.calls mem_faults.f mem_faults.calls mem_Check.f mem_Check.calls)
open Go.RowKit Go.Proofs.YtmpdimigpaogkaaW.PrintWords Go.Proofs.YtmpdimigpaogkaaW.PrintLast Go.Proofs.YtmpdimigpaogkaaW.PrintMore
set_option linter.unusedVariables false
set_option linter.unusedSimpArgs false

attribute [local go_sem high] eqA34
/-! ### taplinelaw03_MemFaults: function 3 -/
mutual
def taplinelaw03_MemFaults.j0 : Nat → Bool → Bool → List Int → List Int → Int → Int → Int → Int → Int → Bool → Int → Int → Int → Option (Bool)
  | 0, _, _, _, _, _, _, _, _, _, _, _, _, _ => none
  | k + 1, x7, x41, x300000, x300001, x301000, x301001, x301002, x302000, x302001, x302002, x302003, x307000, x307001 => if x41 = true then (some x7) else (taplinelaw03_MemFaults.l0 k 0 x300000 x300001 x301000 x301001 x301002 x302000 x302001 x302002 x302003 x307000 x307001 0 0)
def taplinelaw03_MemFaults.l0 : Nat → Int → List Int → List Int → Int → Int → Int → Int → Int → Bool → Int → Int → Int → Int → Int → Option (Bool)
  | 0, _, _, _, _, _, _, _, _, _, _, _, _, _, _ => none
  | k + 1, x11, x300000, x300001, x301000, x301001, x301002, x302000, x302001, x302002, x302003, x307000, x307001, x308000, x308001 => if x11 < x301001 then (taplinelaw03_MemFaults.j2 k x11 (x308000 == 0) x300000 x300001 x301000 x301001 x301002 x302000 x302001 x302002 x302003 x307000 x307001 x308000 x308001) else (taplinelaw03_MemFaults.j2 k x11 false x300000 x300001 x301000 x301001 x301002 x302000 x302001 x302002 x302003 x307000 x307001 x308000 x308001)
def taplinelaw03_MemFaults.j2 : Nat → Int → Bool → List Int → List Int → Int → Int → Int → Int → Int → Bool → Int → Int → Int → Int → Int → Option (Bool)
  | 0, _, _, _, _, _, _, _, _, _, _, _, _, _, _, _ => none
  | k + 1, x11, x52, x300000, x300001, x301000, x301001, x301002, x302000, x302001, x302002, x302003, x307000, x307001, x308000, x308001 => if x52 = true then ((mem_Access.f x300000 x300001 (wrap64 (x301000 + x11)) 1 x301002).bind fun bt308 => (if bt308.2.2 = 0 then (taplinelaw03_MemFaults.l0 k (wrap64 (x11 + 1)) x300000 x300001 x301000 x301001 x301002 x302000 x302001 x302002 x302003 x307000 x307001 bt308.1 bt308.2.1) else (none))) else (if (!(x307000 == x308000) || (!(x307001 == x308001))) = true then (none) else ((mem_Load.f k x300000 x300001 x302000 x302001 x302002).bind fun bt312 => ((mem_Store.f k x300000 x300001 x302000 x302001 x302002 x302003).bind fun bt317 => (if bt312.2.2.2 = 0 then (taplinelaw03_MemFaults.j3 k bt312.2.2.2 bt317.2.2.2.2 (bt317.2.2.2.2 != 0) x300000 x300001 x302000 x302001 x302002 x302003 bt312.2.1 bt312.2.2.1 bt317.2.2.1 bt317.2.2.2.1) else (taplinelaw03_MemFaults.j3 k bt312.2.2.2 bt317.2.2.2.2 true x300000 x300001 x302000 x302001 x302002 x302003 bt312.2.1 bt312.2.2.1 bt317.2.2.1 bt317.2.2.2.1)))))
def taplinelaw03_MemFaults.j3 : Nat → Int → Int → Bool → List Int → List Int → Int → Int → Bool → Int → Int → Int → Int → Int → Option (Bool)
  | 0, _, _, _, _, _, _, _, _, _, _, _, _, _ => none
  | k + 1, x16, x19, x99, x300000, x300001, x302000, x302001, x302002, x302003, x317000, x317001, x328000, x328001 => if x99 = true then (if x16 = x19 then (some (x16 == 10)) else (none)) else ((mem_Access.f x300000 x300001 x302000 x302001 1).bind fun bt328 => ((mem_Access.f x300000 x300001 x302000 x302001 2).bind fun bt332 => (if (x317000 == bt328.1 && (x317001 == bt328.2.1)) = true then (some (x328000 == bt332.1 && (x328001 == bt332.2.1))) else (none))))
end
def taplinelaw03_MemFaults.f (k : Nat) (l0_0 : List Int) (l0_1 : List Int) (a1_0 : Int) (a1_1 : Int) (a1_2 : Int) (a2_0 : Int) (a2_1 : Int) (a2_2 : Bool) (a2_3 : Int) : Option (Bool) := (taplinelaw03_sane.f k).bind fun t302 => ((mem_Access.f l0_0 l0_1 a1_0 a1_1 a1_2).bind fun bt303 => (if t302 = true then (taplinelaw03_MemFaults.j0 k t302 (bt303.2.2 != 0) l0_0 l0_1 a1_0 a1_1 a1_2 a2_0 a2_1 a2_2 a2_3 bt303.1 bt303.2.1) else (taplinelaw03_MemFaults.j0 k t302 true l0_0 l0_1 a1_0 a1_1 a1_2 a2_0 a2_1 a2_2 a2_3 bt303.1 bt303.2.1)))
set_option maxHeartbeats 8000000 in
set_option maxRecDepth 100000 in
theorem taplinelaw03_MemFaults.calls (k : Nat) (A0_0 : Option Addr) (c0_0 : Nat) (l0_0 : List Int) (A0_1 : Option Addr) (c0_1 : Nat) (l0_1 : List Int) (a1_0 : Int) (a1_1 : Int) (a1_2 : Int) (a2_0 : Int) (a2_1 : Int) (a2_2 : Bool) (a2_3 : Int) (r : Bool) (w : World) (hr0_0 : Kd.C (Kd.int .i64) w A0_0 l0_0.length l0_0) (hc0_0 : l0_0.length ≤ c0_0) (hr0_1 : Kd.C (Kd.int .u8) w A0_1 l0_1.length l0_1) (hc0_1 : l0_1.length ≤ c0_1) (h : taplinelaw03_MemFaults.f k l0_0 l0_1 a1_0 a1_1 a1_2 a2_0 a2_1 a2_2 a2_3 = some r) :
    Calls Try.prog 3 #[.agg #[.slice A0_0 l0_0.length c0_0, .slice A0_1 l0_1.length c0_1], .agg #[.int .i64 a1_0, .int .i64 a1_1, .int .i64 a1_2], .agg #[.int .i64 a2_0, .int .i64 a2_1, .bool a2_2, .int .i64 a2_3]] w fun e w' => e = .returned (.bool r) ∧ Below w.heap.size w w' := by
  have hu25 := Try.underlying25
  have hu27 := Try.underlying27
  have hu31 := Try.underlying31
  have hu34 := Try.underlying34
  have hu29 := Try.underlying29
  have HR0_0 := Aside0.mk hr0_0
  have HC0_0 := Aside0.mk hc0_0
  clear hr0_0 hc0_0
  have HR0_1 := Aside0.mk hr0_1
  have HC0_1 := Aside0.mk hc0_1
  clear hr0_1 hc0_1
  have HB := Aside0.mk (Below.refl w.heap.size w)
  have H : ((taplinelaw03_sane.f k).bind fun t302 => ((mem_Access.f l0_0 l0_1 a1_0 a1_1 a1_2).bind fun bt303 => (if t302 = true then (taplinelaw03_MemFaults.j0 k t302 (bt303.2.2 != 0) l0_0 l0_1 a1_0 a1_1 a1_2 a2_0 a2_1 a2_2 a2_3 bt303.1 bt303.2.1) else (taplinelaw03_MemFaults.j0 k t302 true l0_0 l0_1 a1_0 a1_1 a1_2 a2_0 a2_1 a2_2 a2_3 bt303.1 bt303.2.1)))) = some r := h
  clear h
  replace H := Option.bind_eq_some_iff.mp H
  obtain ⟨t302, A40, H⟩ := H
  replace H : ((mem_Access.f l0_0 l0_1 a1_0 a1_1 a1_2).bind fun bt303 => (if t302 = true then (taplinelaw03_MemFaults.j0 k t302 (bt303.2.2 != 0) l0_0 l0_1 a1_0 a1_1 a1_2 a2_0 a2_1 a2_2 a2_3 bt303.1 bt303.2.1) else (taplinelaw03_MemFaults.j0 k t302 true l0_0 l0_1 a1_0 a1_1 a1_2 a2_0 a2_1 a2_2 a2_3 bt303.1 bt303.2.1))) = some r := H
  have A4 := Aside0.mk A40
  clear A40
  replace H := Option.bind_eq_some_iff.mp H
  obtain ⟨⟨t303, t304, t305⟩, A50, H⟩ := H
  replace H : (if t302 = true then (taplinelaw03_MemFaults.j0 k t302 (t305 != 0) l0_0 l0_1 a1_0 a1_1 a1_2 a2_0 a2_1 a2_2 a2_3 t303 t304) else (taplinelaw03_MemFaults.j0 k t302 true l0_0 l0_1 a1_0 a1_1 a1_2 a2_0 a2_1 a2_2 a2_3 t303 t304)) = some r := H
  have A5 := Aside0.mk A50
  clear A50
  have HC6 := Aside0.mk H
  clear H
  go_enter Try.func3, Try.ntmps3
  go_upto_region 3 with (first | ((with_reducible refine gate_dst (N := 3) rfl ?_); refine box_event ?hg (N := 3) ?hd (cs := #[.slice A0_0 l0_0.length c0_0, .slice A0_1 l0_1.length c0_1]) (t := 25) ?hr ?_; (case hd => rfl); (case hg => rfl); (case hr => first | (go_simp; done) | (go_simp; rfl)); intro gb299 hg w7 hbox hb; have n0_ := Aside0.mk (below_step (by repeat (first | (with_reducible first | exact HB.out | apply below_alloc | apply pw_below_drewN | apply below_drew1) | exact HB.out)) hb); have n1_ := Aside0.mk (hbox); have n2_ := Aside0.mk ((by rw [hg]; exact (below_size (by repeat (first | (with_reducible first | exact HB.out | apply below_alloc | apply pw_below_drewN | apply below_drew1) | exact HB.out))) : w.heap.size ≤ gb299)); have n3_ := Aside0.mk ((by rw [hg]; exact (below_size (by repeat (first | (with_reducible first | exact HB.out | apply below_alloc | apply pw_below_drewN | apply below_drew1) | exact HB.out))) : w.heap.size ≤ gb299)); clear HB; have HB := n0_; have BK299 := n1_; have GW299 := n2_; have GE299 := n3_; clear n0_ n1_ n2_ n3_; clear hb hbox hg) | ((with_reducible refine gate_dst (N := 4) rfl ?_); refine box_event ?hg (N := 4) ?hd (cs := #[.int .i64 a1_0, .int .i64 a1_1, .int .i64 a1_2]) (t := 27) ?hr ?_; (case hd => rfl); (case hg => rfl); (case hr => first | (go_simp; done) | (go_simp; rfl)); intro gb300 hg w8 hbox hb; have n0_ := Aside0.mk (blk_below BK299.out hb); have n1_ := Aside0.mk (below_step (by repeat (first | (with_reducible first | exact HB.out | apply below_alloc | apply pw_below_drewN | apply below_drew1 | refine below_set ?_ GE299.out) | exact HB.out)) hb); have n2_ := Aside0.mk (hbox); have n3_ := Aside0.mk ((by rw [hg]; exact (below_size (by repeat (first | (with_reducible first | exact HB.out | apply below_alloc | apply pw_below_drewN | apply below_drew1 | refine below_set ?_ GE299.out) | exact HB.out))) : w.heap.size ≤ gb300)); have n4_ := Aside0.mk ((by rw [hg]; exact (below_size (by repeat (first | (with_reducible first | exact HB.out | apply below_alloc | apply pw_below_drewN | apply below_drew1 | refine below_set ?_ GE299.out) | exact HB.out))) : w.heap.size ≤ gb300)); have n5_ := Aside0.mk ((by rw [hg]; exact Nat.ne_of_lt (blk_lt BK299.out) : gb299 ≠ gb300)); have n6_ := Aside0.mk ((by rw [hg]; exact Nat.ne_of_gt (blk_lt BK299.out) : gb300 ≠ gb299)); clear BK299; clear HB; have BK299 := n0_; have HB := n1_; have BK300 := n2_; have GW300 := n3_; have GE300 := n4_; have NB299_300 := n5_; have NB300_299 := n6_; clear n0_ n1_ n2_ n3_ n4_ n5_ n6_; clear hb hbox hg) | ((with_reducible refine gate_dst (N := 5) rfl ?_); refine box_event ?hg (N := 5) ?hd (cs := #[.int .i64 a2_0, .int .i64 a2_1, .bool a2_2, .int .i64 a2_3]) (t := 31) ?hr ?_; (case hd => rfl); (case hg => rfl); (case hr => first | (go_simp; done) | (go_simp; rfl)); intro gb301 hg w9 hbox hb; have n0_ := Aside0.mk (blk_below BK299.out hb); have n1_ := Aside0.mk (blk_below BK300.out hb); have n2_ := Aside0.mk (below_step (by repeat (first | (with_reducible first | exact HB.out | apply below_alloc | apply pw_below_drewN | apply below_drew1 | refine below_set ?_ GE299.out | refine below_set ?_ GE300.out) | exact HB.out)) hb); have n3_ := Aside0.mk (hbox); have n4_ := Aside0.mk ((by rw [hg]; exact (below_size (by repeat (first | (with_reducible first | exact HB.out | apply below_alloc | apply pw_below_drewN | apply below_drew1 | refine below_set ?_ GE299.out | refine below_set ?_ GE300.out) | exact HB.out))) : w.heap.size ≤ gb301)); have n5_ := Aside0.mk ((by rw [hg]; exact (below_size (by repeat (first | (with_reducible first | exact HB.out | apply below_alloc | apply pw_below_drewN | apply below_drew1 | refine below_set ?_ GE299.out | refine below_set ?_ GE300.out) | exact HB.out))) : w.heap.size ≤ gb301)); have n6_ := Aside0.mk ((by rw [hg]; exact Nat.ne_of_lt (blk_lt BK299.out) : gb299 ≠ gb301)); have n7_ := Aside0.mk ((by rw [hg]; exact Nat.ne_of_gt (blk_lt BK299.out) : gb301 ≠ gb299)); have n8_ := Aside0.mk ((by rw [hg]; exact Nat.ne_of_lt (blk_lt BK300.out) : gb300 ≠ gb301)); have n9_ := Aside0.mk ((by rw [hg]; exact Nat.ne_of_gt (blk_lt BK300.out) : gb301 ≠ gb300)); clear BK299; clear BK300; clear HB; have BK299 := n0_; have BK300 := n1_; have HB := n2_; have BK301 := n3_; have GW301 := n4_; have GE301 := n5_; have NB299_301 := n6_; have NB301_299 := n7_; have NB300_301 := n8_; have NB301_300 := n9_; clear n0_ n1_ n2_ n3_ n4_ n5_ n6_ n7_ n8_ n9_; clear hb hbox hg) | ((with_reducible refine gate_callee (f := 14) rfl ?_); refine goesL_ (some 24) rfl rfl Try.func14 (by kernel_rfl) rfl #[] rfl (by (try simp only [List.map_toArray, List.map_cons, List.map_nil]); first | done | rfl | (simp only [List.length_drop, List.length_take]; rfl)) ?_; (with_reducible refine (taplinelaw03_sane.calls k  t302 _ A4.out).mono ?_); rintro e w10 ⟨rfl, hb⟩; refine ⟨_, rfl, ?_⟩; have n0_ := Aside0.mk (blk_below BK299.out hb); have n1_ := Aside0.mk (blk_below BK300.out hb); have n2_ := Aside0.mk (blk_below BK301.out hb); have n3_ := Aside0.mk (below_step (by repeat (first | (with_reducible first | exact HB.out | apply below_alloc | apply pw_below_drewN | apply below_drew1 | refine below_set ?_ GE299.out | refine below_set ?_ GE300.out | refine below_set ?_ GE301.out) | exact HB.out)) hb); clear BK299; clear BK300; clear BK301; clear HB; have BK299 := n0_; have BK300 := n1_; have BK301 := n2_; have HB := n3_; clear n0_ n1_ n2_ n3_; (try clear hb); (try clear hb2); (try clear hk); (try clear hi); have hnb11 := NB299_300.out; have hnc11 := NB300_299.out; have hnb12 := NB299_301.out; have hnc12 := NB301_299.out; have hcz13_0 : w10.cell? ⟨gb299, 0, none⟩ = some (.slice A0_0 l0_0.length c0_0) := (blk_cell BK299.out 0).trans rfl; have hcz13_1 : w10.cell? ⟨gb299, 1, none⟩ = some (.slice A0_1 l0_1.length c0_1) := (blk_cell BK299.out 1).trans rfl; have hfz13_0 := blk_frozen BK299.out 0; have hfz13_1 := blk_frozen BK299.out 1; have hnb14 := NB300_301.out; have hnc14 := NB301_300.out; have hcz15_0 : w10.cell? ⟨gb300, 0, none⟩ = some (.int .i64 a1_0) := (blk_cell BK300.out 0).trans rfl; have hcz15_1 : w10.cell? ⟨gb300, 1, none⟩ = some (.int .i64 a1_1) := (blk_cell BK300.out 1).trans rfl; have hcz15_2 : w10.cell? ⟨gb300, 2, none⟩ = some (.int .i64 a1_2) := (blk_cell BK300.out 2).trans rfl; have hfz15_0 := blk_frozen BK300.out 0; have hfz15_1 := blk_frozen BK300.out 1; have hfz15_2 := blk_frozen BK300.out 2) | ((with_reducible refine gate_callee (f := 15) rfl ?_); refine goesL_ (some 33) rfl rfl Try.func15 (by kernel_rfl) rfl #[.agg #[.slice A0_0 l0_0.length c0_0, .slice A0_1 l0_1.length c0_1], .int .i64 a1_0, .int .i64 a1_1, .int .i64 a1_2] rfl (by (try simp only [List.map_toArray, List.map_cons, List.map_nil]); first | done | rfl | (simp only [List.length_drop, List.length_take]; rfl)) ?_; (with_reducible refine (mem_Access.calls _ _ l0_0 _ _ l0_1 a1_0 a1_1 a1_2 t303 t304 t305 _ ?side1 ?side2 ?side3 ?side4 A5.out).mono ?_); (case side1 => repeat (first | exact (Kd.C_below HR0_0.out HB.out) | (with_reducible refine Kd.C_alloc ?_ _) | (with_reducible refine Kd.C_drewN ?_ _) | (with_reducible refine Kd.C_drew ?_))); (case side2 => exact HC0_0.out); (case side3 => repeat (first | exact (Kd.C_below HR0_1.out HB.out) | (with_reducible refine Kd.C_alloc ?_ _) | (with_reducible refine Kd.C_drewN ?_ _) | (with_reducible refine Kd.C_drew ?_))); (case side4 => exact HC0_1.out); rintro e w16 ⟨rfl, hb⟩; refine ⟨_, rfl, ?_⟩; have n0_ := Aside0.mk (blk_below BK299.out hb); have n1_ := Aside0.mk (blk_below BK300.out hb); have n2_ := Aside0.mk (blk_below BK301.out hb); have n3_ := Aside0.mk (below_step (by repeat (first | (with_reducible first | exact HB.out | apply below_alloc | apply pw_below_drewN | apply below_drew1 | refine below_set ?_ GE299.out | refine below_set ?_ GE300.out | refine below_set ?_ GE301.out) | exact HB.out)) hb); clear BK299; clear BK300; clear BK301; clear HB; have BK299 := n0_; have BK300 := n1_; have BK301 := n2_; have HB := n3_; clear n0_ n1_ n2_ n3_; (try clear hb); (try clear hb2); (try clear hk); (try clear hi)) | ((with_reducible refine gate_dst (N := 8) rfl ?_); refine box_event ?hg (N := 8) ?hd (cs := #[.int .i64 0, .int .i64 0]) (t := 34) ?hr ?_; (case hd => rfl); (case hg => rfl); (case hr => first | (go_simp; done) | (go_simp; rfl)); intro gb306 hg w17 hbox hb; have n0_ := Aside0.mk (blk_below BK299.out hb); have n1_ := Aside0.mk (blk_below BK300.out hb); have n2_ := Aside0.mk (blk_below BK301.out hb); have n3_ := Aside0.mk (below_step (by repeat (first | (with_reducible first | exact HB.out | apply below_alloc | apply pw_below_drewN | apply below_drew1 | refine below_set ?_ GE299.out | refine below_set ?_ GE300.out | refine below_set ?_ GE301.out) | exact HB.out)) hb); have n4_ := Aside0.mk (hbox); have n5_ := Aside0.mk ((by rw [hg]; exact (below_size (by repeat (first | (with_reducible first | exact HB.out | apply below_alloc | apply pw_below_drewN | apply below_drew1 | refine below_set ?_ GE299.out | refine below_set ?_ GE300.out | refine below_set ?_ GE301.out) | exact HB.out))) : w.heap.size ≤ gb306)); have n6_ := Aside0.mk ((by rw [hg]; exact (below_size (by repeat (first | (with_reducible first | exact HB.out | apply below_alloc | apply pw_below_drewN | apply below_drew1 | refine below_set ?_ GE299.out | refine below_set ?_ GE300.out | refine below_set ?_ GE301.out) | exact HB.out))) : w.heap.size ≤ gb306)); have n7_ := Aside0.mk ((by rw [hg]; exact Nat.ne_of_lt (blk_lt BK299.out) : gb299 ≠ gb306)); have n8_ := Aside0.mk ((by rw [hg]; exact Nat.ne_of_gt (blk_lt BK299.out) : gb306 ≠ gb299)); have n9_ := Aside0.mk ((by rw [hg]; exact Nat.ne_of_lt (blk_lt BK300.out) : gb300 ≠ gb306)); have n10_ := Aside0.mk ((by rw [hg]; exact Nat.ne_of_gt (blk_lt BK300.out) : gb306 ≠ gb300)); have n11_ := Aside0.mk ((by rw [hg]; exact Nat.ne_of_lt (blk_lt BK301.out) : gb301 ≠ gb306)); have n12_ := Aside0.mk ((by rw [hg]; exact Nat.ne_of_gt (blk_lt BK301.out) : gb306 ≠ gb301)); clear BK299; clear BK300; clear BK301; clear HB; have BK299 := n0_; have BK300 := n1_; have BK301 := n2_; have HB := n3_; have BK306 := n4_; have GW306 := n5_; have GE306 := n6_; have NB299_306 := n7_; have NB306_299 := n8_; have NB300_306 := n9_; have NB306_300 := n10_; have NB301_306 := n11_; have NB306_301 := n12_; clear n0_ n1_ n2_ n3_ n4_ n5_ n6_ n7_ n8_ n9_ n10_ n11_ n12_; clear hb hbox hg; have hnb18 := NB306_299.out; have hnc18 := NB299_306.out; have hnb19 := NB306_300.out; have hnc19 := NB300_306.out; have hnb20 := NB306_301.out; have hnc20 := NB301_306.out; have hcz21_0 : w17.cell? ⟨gb306, 0, none⟩ = some (.int .i64 0) := (blk_cell BK306.out 0).trans rfl; have hcz21_1 : w17.cell? ⟨gb306, 1, none⟩ = some (.int .i64 0) := (blk_cell BK306.out 1).trans rfl; have hfz21_0 := blk_frozen BK306.out 0; have hfz21_1 := blk_frozen BK306.out 1))
  (try simp only [Act.put, List.setIfInBounds_toArray, List.set_cons_zero, List.set_cons_succ])
  go_cut [41] (fun v41 wc => ∃ (kq : Nat) (x41_5 : Bool), v41 = .bool x41_5 ∧ Aside0 (taplinelaw03_MemFaults.j0 kq t302 x41_5 l0_0 l0_1 a1_0 a1_1 a1_2 a2_0 a2_1 a2_2 a2_3 t303 t304 = some r) ∧ Aside0 (kq ≤ k) ∧ Aside0 (wc.heap[gb299]? = some (.cells #[(.slice A0_0 l0_0.length c0_0), (.slice A0_1 l0_1.length c0_1)] 25 (0, 0))) ∧ Aside0 (wc.heap[gb300]? = some (.cells #[.int .i64 a1_0, .int .i64 a1_1, .int .i64 a1_2] 27 (0, 0))) ∧ Aside0 (wc.heap[gb301]? = some (.cells #[.int .i64 a2_0, .int .i64 a2_1, .bool a2_2, .int .i64 a2_3] 31 (0, 0))) ∧ Aside0 (wc.heap[gb306]? = some (.cells #[.int .i64 t303, .int .i64 t304] 34 (0, 0))) ∧ Aside0 (Below w.heap.size w wc))
  case first =>
    have H := HC6.out
    clear HC6
    by_cases c22 : t302 = true
    · subst c22
      have H1 : (taplinelaw03_MemFaults.j0 k true (t305 != 0) l0_0 l0_1 a1_0 a1_1 a1_2 a2_0 a2_1 a2_2 a2_3 t303 t304) = some r := by rw [if_pos rfl] at H; exact H
      clear H
      have H := H1
      clear H1
      have H' := Aside0.mk H
      clear H
      go_wp2
      go_meet
      case rel => exact ⟨_, ((t305 != 0)), (by first | rfl | (simp; done) | (simp [*]; done)), H', ⟨by first | omega | exact Nat.le_refl _⟩, ⟨by (with_reducible repeat (first | refine blk_drewN ?_ _ | refine blk_drew ?_ | refine blk_alloc ?_ _)); refine blk_far ?_ NB299_306.out _; refine blk_far ?_ NB299_306.out _; exact BK299.out⟩, ⟨by (with_reducible repeat (first | refine blk_drewN ?_ _ | refine blk_drew ?_ | refine blk_alloc ?_ _)); refine blk_far ?_ NB300_306.out _; refine blk_far ?_ NB300_306.out _; exact BK300.out⟩, ⟨by (with_reducible repeat (first | refine blk_drewN ?_ _ | refine blk_drew ?_ | refine blk_alloc ?_ _)); refine blk_far ?_ NB301_306.out _; refine blk_far ?_ NB301_306.out _; exact BK301.out⟩, ⟨by (with_reducible repeat (first | refine blk_drewN ?_ _ | refine blk_drew ?_ | refine blk_alloc ?_ _)); refine blk_put (cs := #[.int .i64 t303, .int .i64 0]) ?_ 1 _ rfl; refine blk_put (cs := #[.int .i64 0, .int .i64 0]) ?_ 0 _ rfl; exact BK306.out⟩, ⟨by repeat (first | (with_reducible first | exact HB.out | apply below_alloc | apply pw_below_drewN | apply below_drew1 | refine below_set ?_ GE299.out | refine below_set ?_ GE300.out | refine below_set ?_ GE301.out | refine below_set ?_ GE306.out) | exact HB.out)⟩⟩
    · replace c22 := Bool.eq_false_iff.mpr c22
      subst c22
      have H1 : (taplinelaw03_MemFaults.j0 k false true l0_0 l0_1 a1_0 a1_1 a1_2 a2_0 a2_1 a2_2 a2_3 t303 t304) = some r := by rw [if_neg (show ¬ (false = true) by decide)] at H; exact H
      clear H
      have H := H1
      clear H1
      have H' := Aside0.mk H
      clear H
      go_wp2
      go_meet
      case rel => exact ⟨_, (true), (by first | rfl | (simp; done) | (simp [*]; done)), H', ⟨by first | omega | exact Nat.le_refl _⟩, ⟨by (with_reducible repeat (first | refine blk_drewN ?_ _ | refine blk_drew ?_ | refine blk_alloc ?_ _)); refine blk_far ?_ NB299_306.out _; refine blk_far ?_ NB299_306.out _; exact BK299.out⟩, ⟨by (with_reducible repeat (first | refine blk_drewN ?_ _ | refine blk_drew ?_ | refine blk_alloc ?_ _)); refine blk_far ?_ NB300_306.out _; refine blk_far ?_ NB300_306.out _; exact BK300.out⟩, ⟨by (with_reducible repeat (first | refine blk_drewN ?_ _ | refine blk_drew ?_ | refine blk_alloc ?_ _)); refine blk_far ?_ NB301_306.out _; refine blk_far ?_ NB301_306.out _; exact BK301.out⟩, ⟨by (with_reducible repeat (first | refine blk_drewN ?_ _ | refine blk_drew ?_ | refine blk_alloc ?_ _)); refine blk_put (cs := #[.int .i64 t303, .int .i64 0]) ?_ 1 _ rfl; refine blk_put (cs := #[.int .i64 0, .int .i64 0]) ?_ 0 _ rfl; exact BK306.out⟩, ⟨by repeat (first | (with_reducible first | exact HB.out | apply below_alloc | apply pw_below_drewN | apply below_drew1 | refine below_set ?_ GE299.out | refine below_set ?_ GE300.out | refine below_set ?_ GE301.out | refine below_set ?_ GE306.out) | exact HB.out)⟩⟩
  case rest =>
    clear HC6
    try clear c1
    try clear c2
    try clear p2
    try clear c3
    try clear c11
    try clear c12
    try clear c14
    try clear c15
    try clear c18
    try clear c19
    try clear c20
    try clear c22
    try clear hcz13_0
    try clear hcz13_1
    try clear hcz15_0
    try clear hcz15_1
    try clear hcz15_2
    try clear hcz21_0
    try clear hcz21_1
    try clear hfz13_0
    try clear hfz13_1
    try clear hfz15_0
    try clear hfz15_1
    try clear hfz15_2
    try clear hfz21_0
    try clear hfz21_1
    obtain ⟨kq, x41_5, rfl, HA, HJ5, BK299, BK300, BK301, BK306, HB⟩ := hcut
    cases kq with
    | zero => exact absurd HA.out (by simp [taplinelaw03_MemFaults.j0])
    | succ kj5 =>
      have H := HA.out
      clear HA
      simp only [taplinelaw03_MemFaults.j0] at H
      by_cases c23 : x41_5 = true
      · subst c23
        have H1 : (some t302) = some r := by rw [if_pos rfl] at H; exact H
        clear H
        have H := H1
        clear H1
        obtain rfl := Option.some.inj H
        go_wp2
        go_ret
        exact ⟨by first | rfl | (simp [errW_none, errW_some] <;> rfl) | (simp [*, errW_none, errW_some] <;> rfl), by repeat (first | (with_reducible first | exact HB.out | apply below_alloc | apply pw_below_drewN | apply below_drew1 | refine below_set ?_ GE299.out | refine below_set ?_ GE300.out | refine below_set ?_ GE301.out | refine below_set ?_ GE306.out) | exact HB.out)⟩
      · replace c23 := Bool.eq_false_iff.mpr c23
        subst c23
        have H1 : (taplinelaw03_MemFaults.l0 kj5 0 l0_0 l0_1 a1_0 a1_1 a1_2 a2_0 a2_1 a2_2 a2_3 t303 t304 0 0) = some r := by rw [if_neg (show ¬ (false = true) by decide)] at H; exact H
        clear H
        have H := H1
        clear H1
        have H' := Aside0.mk H
        clear H
        go_wp2_with (first | ((with_reducible refine gate_dst (N := 10) rfl ?_); refine box_event ?hg (N := 10) ?hd (cs := #[.int .i64 0, .int .i64 0]) (t := 34) ?hr ?_; (case hd => rfl); (case hg => rfl); (case hr => first | (go_simp; done) | (go_simp; rfl)); intro gb307 hg w24 hbox hb; have n0_ := Aside0.mk (blk_below BK299.out hb); have n1_ := Aside0.mk (blk_below BK300.out hb); have n2_ := Aside0.mk (blk_below BK301.out hb); have n3_ := Aside0.mk (blk_below BK306.out hb); have n4_ := Aside0.mk (below_step (by repeat (first | (with_reducible first | exact HB.out | apply below_alloc | apply pw_below_drewN | apply below_drew1 | refine below_set ?_ GE299.out | refine below_set ?_ GE300.out | refine below_set ?_ GE301.out | refine below_set ?_ GE306.out) | exact HB.out)) hb); have n5_ := Aside0.mk (hbox); have n6_ := Aside0.mk ((by rw [hg]; exact (below_size (by repeat (first | (with_reducible first | exact HB.out | apply below_alloc | apply pw_below_drewN | apply below_drew1 | refine below_set ?_ GE299.out | refine below_set ?_ GE300.out | refine below_set ?_ GE301.out | refine below_set ?_ GE306.out) | exact HB.out))) : w.heap.size ≤ gb307)); have n7_ := Aside0.mk ((by rw [hg]; exact (below_size (by repeat (first | (with_reducible first | exact HB.out | apply below_alloc | apply pw_below_drewN | apply below_drew1 | refine below_set ?_ GE299.out | refine below_set ?_ GE300.out | refine below_set ?_ GE301.out | refine below_set ?_ GE306.out) | exact HB.out))) : w.heap.size ≤ gb307)); have n8_ := Aside0.mk ((by rw [hg]; exact Nat.ne_of_lt (blk_lt BK299.out) : gb299 ≠ gb307)); have n9_ := Aside0.mk ((by rw [hg]; exact Nat.ne_of_gt (blk_lt BK299.out) : gb307 ≠ gb299)); have n10_ := Aside0.mk ((by rw [hg]; exact Nat.ne_of_lt (blk_lt BK300.out) : gb300 ≠ gb307)); have n11_ := Aside0.mk ((by rw [hg]; exact Nat.ne_of_gt (blk_lt BK300.out) : gb307 ≠ gb300)); have n12_ := Aside0.mk ((by rw [hg]; exact Nat.ne_of_lt (blk_lt BK301.out) : gb301 ≠ gb307)); have n13_ := Aside0.mk ((by rw [hg]; exact Nat.ne_of_gt (blk_lt BK301.out) : gb307 ≠ gb301)); have n14_ := Aside0.mk ((by rw [hg]; exact Nat.ne_of_lt (blk_lt BK306.out) : gb306 ≠ gb307)); have n15_ := Aside0.mk ((by rw [hg]; exact Nat.ne_of_gt (blk_lt BK306.out) : gb307 ≠ gb306)); clear BK299; clear BK300; clear BK301; clear BK306; clear HB; have BK299 := n0_; have BK300 := n1_; have BK301 := n2_; have BK306 := n3_; have HB := n4_; have BK307 := n5_; have GW307 := n6_; have GE307 := n7_; have NB299_307 := n8_; have NB307_299 := n9_; have NB300_307 := n10_; have NB307_300 := n11_; have NB301_307 := n12_; have NB307_301 := n13_; have NB306_307 := n14_; have NB307_306 := n15_; clear n0_ n1_ n2_ n3_ n4_ n5_ n6_ n7_ n8_ n9_ n10_ n11_ n12_ n13_ n14_ n15_; clear hb hbox hg; have hnb25 := NB307_299.out; have hnc25 := NB299_307.out; have hnb26 := NB307_300.out; have hnc26 := NB300_307.out; have hnb27 := NB307_301.out; have hnc27 := NB301_307.out; have hnb28 := NB307_306.out; have hnc28 := NB306_307.out; have hcz29_0 : w24.cell? ⟨gb307, 0, none⟩ = some (.int .i64 0) := (blk_cell BK307.out 0).trans rfl; have hcz29_1 : w24.cell? ⟨gb307, 1, none⟩ = some (.int .i64 0) := (blk_cell BK307.out 1).trans rfl; have hfz29_0 := blk_frozen BK307.out 0; have hfz29_1 := blk_frozen BK307.out 1))
        go_loopg [11] kj5 (fun kq v11 w' => ∃ (x11_2 : Int) (x308000_2 : Int) (x308001_2 : Int), v11 = .int .i64 x11_2 ∧ Aside0 (taplinelaw03_MemFaults.l0 kq x11_2 l0_0 l0_1 a1_0 a1_1 a1_2 a2_0 a2_1 a2_2 a2_3 t303 t304 x308000_2 x308001_2 = some r) ∧ Aside0 (kq ≤ kj5) ∧ Aside0 (w'.heap[gb299]? = some (.cells #[(.slice A0_0 l0_0.length c0_0), (.slice A0_1 l0_1.length c0_1)] 25 (0, 0))) ∧ Aside0 (w'.heap[gb300]? = some (.cells #[.int .i64 a1_0, .int .i64 a1_1, .int .i64 a1_2] 27 (0, 0))) ∧ Aside0 (w'.heap[gb301]? = some (.cells #[.int .i64 a2_0, .int .i64 a2_1, .bool a2_2, .int .i64 a2_3] 31 (0, 0))) ∧ Aside0 (w'.heap[gb306]? = some (.cells #[.int .i64 t303, .int .i64 t304] 34 (0, 0))) ∧ Aside0 (w'.heap[gb307]? = some (.cells #[.int .i64 x308000_2, .int .i64 x308001_2] 34 (0, 0))) ∧ Aside0 (Below w.heap.size w w'))
        case atStart => exact ⟨(0), (0), (0), (by first | rfl | (simp; done) | (simp [*]; done)), H', ⟨Nat.le_refl _⟩, ⟨by (with_reducible repeat (first | refine blk_drewN ?_ _ | refine blk_drew ?_ | refine blk_alloc ?_ _)); refine blk_far ?_ NB299_307.out _; refine blk_far ?_ NB299_307.out _; exact BK299.out⟩, ⟨by (with_reducible repeat (first | refine blk_drewN ?_ _ | refine blk_drew ?_ | refine blk_alloc ?_ _)); refine blk_far ?_ NB300_307.out _; refine blk_far ?_ NB300_307.out _; exact BK300.out⟩, ⟨by (with_reducible repeat (first | refine blk_drewN ?_ _ | refine blk_drew ?_ | refine blk_alloc ?_ _)); refine blk_far ?_ NB301_307.out _; refine blk_far ?_ NB301_307.out _; exact BK301.out⟩, ⟨by (with_reducible repeat (first | refine blk_drewN ?_ _ | refine blk_drew ?_ | refine blk_alloc ?_ _)); refine blk_far ?_ NB306_307.out _; refine blk_far ?_ NB306_307.out _; exact BK306.out⟩, ⟨by (with_reducible repeat (first | refine blk_drewN ?_ _ | refine blk_drew ?_ | refine blk_alloc ?_ _)); refine blk_put (cs := #[.int .i64 0, .int .i64 0]) ?_ 1 _ rfl; refine blk_put (cs := #[.int .i64 0, .int .i64 0]) ?_ 0 _ rfl; exact BK307.out⟩, ⟨by repeat (first | (with_reducible first | exact HB.out | apply below_alloc | apply pw_below_drewN | apply below_drew1 | refine below_set ?_ GE299.out | refine below_set ?_ GE300.out | refine below_set ?_ GE301.out | refine below_set ?_ GE306.out | refine below_set ?_ GE307.out) | exact HB.out)⟩⟩
        case round =>
          clear H'
          try clear c1
          try clear c2
          try clear p2
          try clear c3
          try clear c11
          try clear c12
          try clear c14
          try clear c15
          try clear c18
          try clear c19
          try clear c20
          try clear c22
          try clear c23
          try clear c25
          try clear c26
          try clear c27
          try clear c28
          try clear hcz13_0
          try clear hcz13_1
          try clear hcz15_0
          try clear hcz15_1
          try clear hcz15_2
          try clear hcz21_0
          try clear hcz21_1
          try clear hcz29_0
          try clear hcz29_1
          try clear hfz13_0
          try clear hfz13_1
          try clear hfz15_0
          try clear hfz15_1
          try clear hfz15_2
          try clear hfz21_0
          try clear hfz21_1
          try clear hfz29_0
          try clear hfz29_1
          try clear p2
          obtain ⟨x11_2, x308000_2, x308001_2, rfl, HA, HK2, BK299, BK300, BK301, BK306, BK307, HB⟩ := hrel
          cases gk with
          | zero => exact absurd HA.out (by simp [taplinelaw03_MemFaults.l0])
          | succ k2 =>
            have H := HA.out
            clear HA
            simp only [taplinelaw03_MemFaults.l0] at H
            have HC30 := Aside0.mk H
            clear H
            go_upto_region 7 with (fail)
            go_cut [52] (fun v52 wc => ∃ (kq : Nat) (x52_29 : Bool), v52 = .bool x52_29 ∧ Aside0 (taplinelaw03_MemFaults.j2 kq x11_2 x52_29 l0_0 l0_1 a1_0 a1_1 a1_2 a2_0 a2_1 a2_2 a2_3 t303 t304 x308000_2 x308001_2 = some r) ∧ Aside0 (kq ≤ k2) ∧ Aside0 (wc.heap[gb299]? = some (.cells #[(.slice A0_0 l0_0.length c0_0), (.slice A0_1 l0_1.length c0_1)] 25 (0, 0))) ∧ Aside0 (wc.heap[gb300]? = some (.cells #[.int .i64 a1_0, .int .i64 a1_1, .int .i64 a1_2] 27 (0, 0))) ∧ Aside0 (wc.heap[gb301]? = some (.cells #[.int .i64 a2_0, .int .i64 a2_1, .bool a2_2, .int .i64 a2_3] 31 (0, 0))) ∧ Aside0 (wc.heap[gb306]? = some (.cells #[.int .i64 t303, .int .i64 t304] 34 (0, 0))) ∧ Aside0 (wc.heap[gb307]? = some (.cells #[.int .i64 x308000_2, .int .i64 x308001_2] 34 (0, 0))) ∧ Aside0 (Below w.heap.size w wc))
            case first =>
              have H := HC30.out
              clear HC30
              by_cases c31 : x11_2 < a1_1
              · rw [if_pos c31] at H
                have c31b0 : decide (x11_2 < a1_1) = true := decide_eq_true c31
                clear c31
                (first | rw [c31b0] | (simp only [i64_w, i32_w]; rw [c31b0]) | skip)
                have H' := Aside0.mk H
                clear H
                have hnb32 := NB300_299.out
                have hnc32 := NB299_300.out
                have hnb33 := NB300_301.out
                have hnc33 := NB301_300.out
                have hnb34 := NB300_306.out
                have hnc34 := NB306_300.out
                have hnb35 := NB300_307.out
                have hnc35 := NB307_300.out
                have hcz36_0 : wr.cell? ⟨gb300, 0, none⟩ = some (.int .i64 a1_0) := (blk_cell BK300.out 0).trans rfl
                have hcz36_1 : wr.cell? ⟨gb300, 1, none⟩ = some (.int .i64 a1_1) := (blk_cell BK300.out 1).trans rfl
                have hcz36_2 : wr.cell? ⟨gb300, 2, none⟩ = some (.int .i64 a1_2) := (blk_cell BK300.out 2).trans rfl
                have hfz36_0 := blk_frozen BK300.out 0
                have hfz36_1 := blk_frozen BK300.out 1
                have hfz36_2 := blk_frozen BK300.out 2
                have hnb37 := NB307_299.out
                have hnc37 := NB299_307.out
                have hnb38 := NB307_301.out
                have hnc38 := NB301_307.out
                have hnb39 := NB307_306.out
                have hnc39 := NB306_307.out
                have hcz40_0 : wr.cell? ⟨gb307, 0, none⟩ = some (.int .i64 x308000_2) := (blk_cell BK307.out 0).trans rfl
                have hcz40_1 : wr.cell? ⟨gb307, 1, none⟩ = some (.int .i64 x308001_2) := (blk_cell BK307.out 1).trans rfl
                have hfz40_0 := blk_frozen BK307.out 0
                have hfz40_1 := blk_frozen BK307.out 1
                go_wp2
                go_meet
                case rel => exact ⟨_, ((x308000_2 == 0)), (by first | rfl | (simp; done) | (simp [*]; done)), H', ⟨by have := HJ5.out; have := HK2.out; first | omega | exact Nat.le_refl _⟩, ⟨BK299.out⟩, ⟨BK300.out⟩, ⟨BK301.out⟩, ⟨BK306.out⟩, ⟨BK307.out⟩, ⟨by repeat (first | (with_reducible first | exact HB.out | apply below_alloc | apply pw_below_drewN | apply below_drew1 | refine below_set ?_ GE299.out | refine below_set ?_ GE300.out | refine below_set ?_ GE301.out | refine below_set ?_ GE306.out | refine below_set ?_ GE307.out) | exact HB.out)⟩⟩
              · rw [if_neg c31] at H
                have c31b0 : decide (x11_2 < a1_1) = false := decide_eq_false c31
                clear c31
                (first | rw [c31b0] | (simp only [i64_w, i32_w]; rw [c31b0]) | skip)
                have H' := Aside0.mk H
                clear H
                have hnb41 := NB300_299.out
                have hnc41 := NB299_300.out
                have hnb42 := NB300_301.out
                have hnc42 := NB301_300.out
                have hnb43 := NB300_306.out
                have hnc43 := NB306_300.out
                have hnb44 := NB300_307.out
                have hnc44 := NB307_300.out
                have hcz45_0 : wr.cell? ⟨gb300, 0, none⟩ = some (.int .i64 a1_0) := (blk_cell BK300.out 0).trans rfl
                have hcz45_1 : wr.cell? ⟨gb300, 1, none⟩ = some (.int .i64 a1_1) := (blk_cell BK300.out 1).trans rfl
                have hcz45_2 : wr.cell? ⟨gb300, 2, none⟩ = some (.int .i64 a1_2) := (blk_cell BK300.out 2).trans rfl
                have hfz45_0 := blk_frozen BK300.out 0
                have hfz45_1 := blk_frozen BK300.out 1
                have hfz45_2 := blk_frozen BK300.out 2
                go_wp2
                go_meet
                case rel => exact ⟨_, (false), (by first | rfl | (simp; done) | (simp [*]; done)), H', ⟨by have := HJ5.out; have := HK2.out; first | omega | exact Nat.le_refl _⟩, ⟨BK299.out⟩, ⟨BK300.out⟩, ⟨BK301.out⟩, ⟨BK306.out⟩, ⟨BK307.out⟩, ⟨by repeat (first | (with_reducible first | exact HB.out | apply below_alloc | apply pw_below_drewN | apply below_drew1 | refine below_set ?_ GE299.out | refine below_set ?_ GE300.out | refine below_set ?_ GE301.out | refine below_set ?_ GE306.out | refine below_set ?_ GE307.out) | exact HB.out)⟩⟩
            case rest =>
              clear HC30
              try clear c1
              try clear c2
              try clear p2
              try clear c3
              try clear c4
              try clear c11
              try clear c12
              try clear c14
              try clear c15
              try clear c18
              try clear c19
              try clear c20
              try clear c22
              try clear c23
              try clear c25
              try clear c26
              try clear c27
              try clear c28
              try clear c31
              try clear c31b0
              try clear c32
              try clear c33
              try clear c34
              try clear c35
              try clear c37
              try clear c38
              try clear c39
              try clear c41
              try clear c42
              try clear c43
              try clear c44
              try clear hcz13_0
              try clear hcz13_1
              try clear hcz15_0
              try clear hcz15_1
              try clear hcz15_2
              try clear hcz21_0
              try clear hcz21_1
              try clear hcz29_0
              try clear hcz29_1
              try clear hcz36_0
              try clear hcz36_1
              try clear hcz36_2
              try clear hcz40_0
              try clear hcz40_1
              try clear hcz45_0
              try clear hcz45_1
              try clear hcz45_2
              try clear hfz13_0
              try clear hfz13_1
              try clear hfz15_0
              try clear hfz15_1
              try clear hfz15_2
              try clear hfz21_0
              try clear hfz21_1
              try clear hfz29_0
              try clear hfz29_1
              try clear hfz36_0
              try clear hfz36_1
              try clear hfz36_2
              try clear hfz40_0
              try clear hfz40_1
              try clear hfz45_0
              try clear hfz45_1
              try clear hfz45_2
              try clear p2
              obtain ⟨kq, x52_29, rfl, HA, HJ29, BK299, BK300, BK301, BK306, BK307, HB⟩ := hcut
              cases kq with
              | zero => exact absurd HA.out (by simp [taplinelaw03_MemFaults.j2])
              | succ kj29 =>
                have H := HA.out
                clear HA
                simp only [taplinelaw03_MemFaults.j2] at H
                by_cases c46 : x52_29 = true
                · subst c46
                  have H1 : ((mem_Access.f l0_0 l0_1 (wrap64 (a1_0 + x11_2)) 1 a1_2).bind fun bt308 => (if bt308.2.2 = 0 then (taplinelaw03_MemFaults.l0 kj29 (wrap64 (x11_2 + 1)) l0_0 l0_1 a1_0 a1_1 a1_2 a2_0 a2_1 a2_2 a2_3 t303 t304 bt308.1 bt308.2.1) else (none))) = some r := by rw [if_pos rfl] at H; exact H
                  clear H
                  have H := H1
                  clear H1
                  replace H := Option.bind_eq_some_iff.mp H
                  obtain ⟨⟨t308, t309, t310⟩, A470, H⟩ := H
                  replace H : (if t310 = 0 then (taplinelaw03_MemFaults.l0 kj29 (wrap64 (x11_2 + 1)) l0_0 l0_1 a1_0 a1_1 a1_2 a2_0 a2_1 a2_2 a2_3 t303 t304 t308 t309) else (none)) = some r := H
                  have A47 := Aside0.mk A470
                  clear A470
                  by_cases c48 : t310 = 0
                  · rw [if_pos c48] at H
                    have c48b0 : (t310 == 0) = true := beq_iff_eq.mpr c48
                    have c48b1 : (t310 != 0) = false := bne_eq_false_iff_eq.mpr c48
                    clear c48
                    have H' := Aside0.mk H
                    clear H
                    have hnb49 := NB299_300.out
                    have hnc49 := NB300_299.out
                    have hnb50 := NB299_301.out
                    have hnc50 := NB301_299.out
                    have hnb51 := NB299_306.out
                    have hnc51 := NB306_299.out
                    have hnb52 := NB299_307.out
                    have hnc52 := NB307_299.out
                    have hcz53_0 : wc.cell? ⟨gb299, 0, none⟩ = some (.slice A0_0 l0_0.length c0_0) := (blk_cell BK299.out 0).trans rfl
                    have hcz53_1 : wc.cell? ⟨gb299, 1, none⟩ = some (.slice A0_1 l0_1.length c0_1) := (blk_cell BK299.out 1).trans rfl
                    have hfz53_0 := blk_frozen BK299.out 0
                    have hfz53_1 := blk_frozen BK299.out 1
                    have hnb54 := NB300_301.out
                    have hnc54 := NB301_300.out
                    have hnb55 := NB300_306.out
                    have hnc55 := NB306_300.out
                    have hnb56 := NB300_307.out
                    have hnc56 := NB307_300.out
                    have hcz57_0 : wc.cell? ⟨gb300, 0, none⟩ = some (.int .i64 a1_0) := (blk_cell BK300.out 0).trans rfl
                    have hcz57_1 : wc.cell? ⟨gb300, 1, none⟩ = some (.int .i64 a1_1) := (blk_cell BK300.out 1).trans rfl
                    have hcz57_2 : wc.cell? ⟨gb300, 2, none⟩ = some (.int .i64 a1_2) := (blk_cell BK300.out 2).trans rfl
                    have hfz57_0 := blk_frozen BK300.out 0
                    have hfz57_1 := blk_frozen BK300.out 1
                    have hfz57_2 := blk_frozen BK300.out 2
                    go_wp2_with (first | ((with_reducible refine gate_callee (f := 15) rfl ?_); refine goesL_ (some 63) rfl rfl Try.func15 (by kernel_rfl) rfl #[.agg #[.slice A0_0 l0_0.length c0_0, .slice A0_1 l0_1.length c0_1], .int .i64 (wrap64 (a1_0 + x11_2)), .int .i64 1, .int .i64 a1_2] rfl (by (try simp only [List.map_toArray, List.map_cons, List.map_nil]); first | done | rfl | (simp only [List.length_drop, List.length_take]; rfl)) ?_; (with_reducible refine (mem_Access.calls _ _ l0_0 _ _ l0_1 (wrap64 (a1_0 + x11_2)) 1 a1_2 t308 t309 t310 _ ?side1 ?side2 ?side3 ?side4 A47.out).mono ?_); (case side1 => repeat (first | exact (Kd.C_below HR0_0.out HB.out) | (with_reducible refine Kd.C_alloc ?_ _) | (with_reducible refine Kd.C_drewN ?_ _) | (with_reducible refine Kd.C_drew ?_))); (case side2 => exact HC0_0.out); (case side3 => repeat (first | exact (Kd.C_below HR0_1.out HB.out) | (with_reducible refine Kd.C_alloc ?_ _) | (with_reducible refine Kd.C_drewN ?_ _) | (with_reducible refine Kd.C_drew ?_))); (case side4 => exact HC0_1.out); rintro e w58 ⟨rfl, hb⟩; refine ⟨_, rfl, ?_⟩; have n0_ := Aside0.mk (blk_below BK299.out hb); have n1_ := Aside0.mk (blk_below BK300.out hb); have n2_ := Aside0.mk (blk_below BK301.out hb); have n3_ := Aside0.mk (blk_below BK306.out hb); have n4_ := Aside0.mk (blk_below BK307.out hb); have n5_ := Aside0.mk (below_step (by repeat (first | (with_reducible first | exact HB.out | apply below_alloc | apply pw_below_drewN | apply below_drew1 | refine below_set ?_ GE299.out | refine below_set ?_ GE300.out | refine below_set ?_ GE301.out | refine below_set ?_ GE306.out | refine below_set ?_ GE307.out) | exact HB.out)) hb); clear BK299; clear BK300; clear BK301; clear BK306; clear BK307; clear HB; have BK299 := n0_; have BK300 := n1_; have BK301 := n2_; have BK306 := n3_; have BK307 := n4_; have HB := n5_; clear n0_ n1_ n2_ n3_ n4_ n5_; (try clear hb); (try clear hb2); (try clear hk); (try clear hi)) | ((with_reducible refine gate_dst (N := 12) rfl ?_); refine box_event ?hg (N := 12) ?hd (cs := #[.int .i64 0, .int .i64 0]) (t := 34) ?hr ?_; (case hd => rfl); (case hg => rfl); (case hr => first | (go_simp; done) | (go_simp; rfl)); intro gb311 hg w59 hbox hb; have n0_ := Aside0.mk (blk_below BK299.out hb); have n1_ := Aside0.mk (blk_below BK300.out hb); have n2_ := Aside0.mk (blk_below BK301.out hb); have n3_ := Aside0.mk (blk_below BK306.out hb); have n4_ := Aside0.mk (blk_below BK307.out hb); have n5_ := Aside0.mk (below_step (by repeat (first | (with_reducible first | exact HB.out | apply below_alloc | apply pw_below_drewN | apply below_drew1 | refine below_set ?_ GE299.out | refine below_set ?_ GE300.out | refine below_set ?_ GE301.out | refine below_set ?_ GE306.out | refine below_set ?_ GE307.out) | exact HB.out)) hb); have n6_ := Aside0.mk (hbox); have n7_ := Aside0.mk ((by rw [hg]; exact (below_size (by repeat (first | (with_reducible first | exact HB.out | apply below_alloc | apply pw_below_drewN | apply below_drew1 | refine below_set ?_ GE299.out | refine below_set ?_ GE300.out | refine below_set ?_ GE301.out | refine below_set ?_ GE306.out | refine below_set ?_ GE307.out) | exact HB.out))) : w.heap.size ≤ gb311)); have n8_ := Aside0.mk ((by rw [hg]; exact (below_size (by repeat (first | (with_reducible first | exact HB.out | apply below_alloc | apply pw_below_drewN | apply below_drew1 | refine below_set ?_ GE299.out | refine below_set ?_ GE300.out | refine below_set ?_ GE301.out | refine below_set ?_ GE306.out | refine below_set ?_ GE307.out) | exact HB.out))) : w.heap.size ≤ gb311)); have n9_ := Aside0.mk ((by rw [hg]; exact Nat.ne_of_lt (blk_lt BK299.out) : gb299 ≠ gb311)); have n10_ := Aside0.mk ((by rw [hg]; exact Nat.ne_of_gt (blk_lt BK299.out) : gb311 ≠ gb299)); have n11_ := Aside0.mk ((by rw [hg]; exact Nat.ne_of_lt (blk_lt BK300.out) : gb300 ≠ gb311)); have n12_ := Aside0.mk ((by rw [hg]; exact Nat.ne_of_gt (blk_lt BK300.out) : gb311 ≠ gb300)); have n13_ := Aside0.mk ((by rw [hg]; exact Nat.ne_of_lt (blk_lt BK301.out) : gb301 ≠ gb311)); have n14_ := Aside0.mk ((by rw [hg]; exact Nat.ne_of_gt (blk_lt BK301.out) : gb311 ≠ gb301)); have n15_ := Aside0.mk ((by rw [hg]; exact Nat.ne_of_lt (blk_lt BK306.out) : gb306 ≠ gb311)); have n16_ := Aside0.mk ((by rw [hg]; exact Nat.ne_of_gt (blk_lt BK306.out) : gb311 ≠ gb306)); have n17_ := Aside0.mk ((by rw [hg]; exact Nat.ne_of_lt (blk_lt BK307.out) : gb307 ≠ gb311)); have n18_ := Aside0.mk ((by rw [hg]; exact Nat.ne_of_gt (blk_lt BK307.out) : gb311 ≠ gb307)); clear BK299; clear BK300; clear BK301; clear BK306; clear BK307; clear HB; have BK299 := n0_; have BK300 := n1_; have BK301 := n2_; have BK306 := n3_; have BK307 := n4_; have HB := n5_; have BK311 := n6_; have GW311 := n7_; have GE311 := n8_; have NB299_311 := n9_; have NB311_299 := n10_; have NB300_311 := n11_; have NB311_300 := n12_; have NB301_311 := n13_; have NB311_301 := n14_; have NB306_311 := n15_; have NB311_306 := n16_; have NB307_311 := n17_; have NB311_307 := n18_; clear n0_ n1_ n2_ n3_ n4_ n5_ n6_ n7_ n8_ n9_ n10_ n11_ n12_ n13_ n14_ n15_ n16_ n17_ n18_; clear hb hbox hg; have hnb60 := NB311_299.out; have hnc60 := NB299_311.out; have hnb61 := NB311_300.out; have hnc61 := NB300_311.out; have hnb62 := NB311_301.out; have hnc62 := NB301_311.out; have hnb63 := NB311_306.out; have hnc63 := NB306_311.out; have hnb64 := NB311_307.out; have hnc64 := NB307_311.out; have hcz65_0 : w59.cell? ⟨gb311, 0, none⟩ = some (.int .i64 0) := (blk_cell BK311.out 0).trans rfl; have hcz65_1 : w59.cell? ⟨gb311, 1, none⟩ = some (.int .i64 0) := (blk_cell BK311.out 1).trans rfl; have hfz65_0 := blk_frozen BK311.out 0; have hfz65_1 := blk_frozen BK311.out 1; have hnb66 := NB307_301.out; have hnc66 := NB301_307.out; have hnb67 := NB307_306.out; have hnc67 := NB306_307.out; have hcz68_0 : w59.cell? ⟨gb307, 0, none⟩ = some (.int .i64 x308000_2) := (blk_cell BK307.out 0).trans rfl; have hcz68_1 : w59.cell? ⟨gb307, 1, none⟩ = some (.int .i64 x308001_2) := (blk_cell BK307.out 1).trans rfl; have hfz68_0 := blk_frozen BK307.out 0; have hfz68_1 := blk_frozen BK307.out 1))
                    go_roundg kj29
                    case measure => have := HJ5.out; have := HK2.out; have := HJ29.out; omega
                    case rel => exact ⟨(wrap64 (x11_2 + 1)), (t308), (t309), (by first | rfl | (simp; done) | (simp [*]; done)), H', ⟨by have := HJ5.out; have := HK2.out; have := HJ29.out; omega⟩, ⟨by (with_reducible repeat (first | refine blk_drewN ?_ _ | refine blk_drew ?_ | refine blk_alloc ?_ _)); refine blk_far ?_ NB299_307.out _; refine blk_far ?_ NB299_307.out _; refine blk_far ?_ NB299_311.out _; refine blk_far ?_ NB299_311.out _; exact BK299.out⟩, ⟨by (with_reducible repeat (first | refine blk_drewN ?_ _ | refine blk_drew ?_ | refine blk_alloc ?_ _)); refine blk_far ?_ NB300_307.out _; refine blk_far ?_ NB300_307.out _; refine blk_far ?_ NB300_311.out _; refine blk_far ?_ NB300_311.out _; exact BK300.out⟩, ⟨by (with_reducible repeat (first | refine blk_drewN ?_ _ | refine blk_drew ?_ | refine blk_alloc ?_ _)); refine blk_far ?_ NB301_307.out _; refine blk_far ?_ NB301_307.out _; refine blk_far ?_ NB301_311.out _; refine blk_far ?_ NB301_311.out _; exact BK301.out⟩, ⟨by (with_reducible repeat (first | refine blk_drewN ?_ _ | refine blk_drew ?_ | refine blk_alloc ?_ _)); refine blk_far ?_ NB306_307.out _; refine blk_far ?_ NB306_307.out _; refine blk_far ?_ NB306_311.out _; refine blk_far ?_ NB306_311.out _; exact BK306.out⟩, ⟨by (with_reducible repeat (first | refine blk_drewN ?_ _ | refine blk_drew ?_ | refine blk_alloc ?_ _)); refine blk_put (cs := #[.int .i64 t308, .int .i64 x308001_2]) ?_ 1 _ rfl; refine blk_put (cs := #[.int .i64 x308000_2, .int .i64 x308001_2]) ?_ 0 _ rfl; refine blk_far ?_ NB307_311.out _; refine blk_far ?_ NB307_311.out _; exact BK307.out⟩, ⟨by repeat (first | (with_reducible first | exact HB.out | apply below_alloc | apply pw_below_drewN | apply below_drew1 | refine below_set ?_ GE299.out | refine below_set ?_ GE300.out | refine below_set ?_ GE301.out | refine below_set ?_ GE306.out | refine below_set ?_ GE307.out | refine below_set ?_ GE311.out) | exact HB.out)⟩⟩
                  · rw [if_neg c48] at H
                    exact absurd H (by simp)
                · replace c46 := Bool.eq_false_iff.mpr c46
                  subst c46
                  have H1 : (if (!(t303 == x308000_2) || (!(t304 == x308001_2))) = true then (none) else ((mem_Load.f kj29 l0_0 l0_1 a2_0 a2_1 a2_2).bind fun bt312 => ((mem_Store.f kj29 l0_0 l0_1 a2_0 a2_1 a2_2 a2_3).bind fun bt317 => (if bt312.2.2.2 = 0 then (taplinelaw03_MemFaults.j3 kj29 bt312.2.2.2 bt317.2.2.2.2 (bt317.2.2.2.2 != 0) l0_0 l0_1 a2_0 a2_1 a2_2 a2_3 bt312.2.1 bt312.2.2.1 bt317.2.2.1 bt317.2.2.2.1) else (taplinelaw03_MemFaults.j3 kj29 bt312.2.2.2 bt317.2.2.2.2 true l0_0 l0_1 a2_0 a2_1 a2_2 a2_3 bt312.2.1 bt312.2.2.1 bt317.2.2.1 bt317.2.2.2.1))))) = some r := by rw [if_neg (show ¬ (false = true) by decide)] at H; exact H
                  clear H
                  have H := H1
                  clear H1
                  by_cases c69 : (!(t303 == x308000_2) || (!(t304 == x308001_2))) = true
                  · rw [if_pos c69] at H
                    exact absurd H (by simp)
                  · rw [if_neg c69] at H
                    have c69b0 : (!(t303 == x308000_2) || (!(t304 == x308001_2))) = false := by simpa using c69
                    clear c69
                    replace H := Option.bind_eq_some_iff.mp H
                    obtain ⟨⟨t312, t313, t314, t315⟩, A700, H⟩ := H
                    replace H : ((mem_Store.f kj29 l0_0 l0_1 a2_0 a2_1 a2_2 a2_3).bind fun bt317 => (if t315 = 0 then (taplinelaw03_MemFaults.j3 kj29 t315 bt317.2.2.2.2 (bt317.2.2.2.2 != 0) l0_0 l0_1 a2_0 a2_1 a2_2 a2_3 t313 t314 bt317.2.2.1 bt317.2.2.2.1) else (taplinelaw03_MemFaults.j3 kj29 t315 bt317.2.2.2.2 true l0_0 l0_1 a2_0 a2_1 a2_2 a2_3 t313 t314 bt317.2.2.1 bt317.2.2.2.1))) = some r := H
                    have A70 := Aside0.mk A700
                    clear A700
                    replace H := Option.bind_eq_some_iff.mp H
                    obtain ⟨⟨t317, t320, t323, t324, t325⟩, A710, H⟩ := H
                    replace H : (if t315 = 0 then (taplinelaw03_MemFaults.j3 kj29 t315 t325 (t325 != 0) l0_0 l0_1 a2_0 a2_1 a2_2 a2_3 t313 t314 t323 t324) else (taplinelaw03_MemFaults.j3 kj29 t315 t325 true l0_0 l0_1 a2_0 a2_1 a2_2 a2_3 t313 t314 t323 t324)) = some r := H
                    have A71 := Aside0.mk A710
                    clear A710
                    have HC72 := Aside0.mk H
                    clear H
                    have hnb73 := NB306_299.out
                    have hnc73 := NB299_306.out
                    have hnb74 := NB306_300.out
                    have hnc74 := NB300_306.out
                    have hnb75 := NB306_301.out
                    have hnc75 := NB301_306.out
                    have hnb76 := NB306_307.out
                    have hnc76 := NB307_306.out
                    have hcz77_0 : wc.cell? ⟨gb306, 0, none⟩ = some (.int .i64 t303) := (blk_cell BK306.out 0).trans rfl
                    have hcz77_1 : wc.cell? ⟨gb306, 1, none⟩ = some (.int .i64 t304) := (blk_cell BK306.out 1).trans rfl
                    have hfz77_0 := blk_frozen BK306.out 0
                    have hfz77_1 := blk_frozen BK306.out 1
                    have hnb78 := NB307_299.out
                    have hnc78 := NB299_307.out
                    have hnb79 := NB307_300.out
                    have hnc79 := NB300_307.out
                    have hnb80 := NB307_301.out
                    have hnc80 := NB301_307.out
                    have hcz81_0 : wc.cell? ⟨gb307, 0, none⟩ = some (.int .i64 x308000_2) := (blk_cell BK307.out 0).trans rfl
                    have hcz81_1 : wc.cell? ⟨gb307, 1, none⟩ = some (.int .i64 x308001_2) := (blk_cell BK307.out 1).trans rfl
                    have hfz81_0 := blk_frozen BK307.out 0
                    have hfz81_1 := blk_frozen BK307.out 1
                    have hnb82 := NB299_300.out
                    have hnc82 := NB300_299.out
                    have hnb83 := NB299_301.out
                    have hnc83 := NB301_299.out
                    have hcz84_0 : wc.cell? ⟨gb299, 0, none⟩ = some (.slice A0_0 l0_0.length c0_0) := (blk_cell BK299.out 0).trans rfl
                    have hcz84_1 : wc.cell? ⟨gb299, 1, none⟩ = some (.slice A0_1 l0_1.length c0_1) := (blk_cell BK299.out 1).trans rfl
                    have hfz84_0 := blk_frozen BK299.out 0
                    have hfz84_1 := blk_frozen BK299.out 1
                    have hnb85 := NB301_300.out
                    have hnc85 := NB300_301.out
                    have hcz86_0 : wc.cell? ⟨gb301, 0, none⟩ = some (.int .i64 a2_0) := (blk_cell BK301.out 0).trans rfl
                    have hcz86_1 : wc.cell? ⟨gb301, 1, none⟩ = some (.int .i64 a2_1) := (blk_cell BK301.out 1).trans rfl
                    have hcz86_2 : wc.cell? ⟨gb301, 2, none⟩ = some (.bool a2_2) := (blk_cell BK301.out 2).trans rfl
                    have hcz86_3 : wc.cell? ⟨gb301, 3, none⟩ = some (.int .i64 a2_3) := (blk_cell BK301.out 3).trans rfl
                    have hfz86_0 := blk_frozen BK301.out 0
                    have hfz86_1 := blk_frozen BK301.out 1
                    have hfz86_2 := blk_frozen BK301.out 2
                    have hfz86_3 := blk_frozen BK301.out 3
                    go_upto_region 17 with (first | ((with_reducible refine gate_callee (f := 16) rfl ?_); refine goesL_ (some 78) rfl rfl Try.func16 (by kernel_rfl) rfl #[.agg #[.slice A0_0 l0_0.length c0_0, .slice A0_1 l0_1.length c0_1], .int .i64 a2_0, .agg #[.int .i64 a2_1, .bool a2_2]] rfl (by (try simp only [List.map_toArray, List.map_cons, List.map_nil]); first | done | rfl | (simp only [List.length_drop, List.length_take]; rfl)) ?_; (with_reducible refine (mem_Load.calls kj29 _ _ l0_0 _ _ l0_1 a2_0 a2_1 a2_2 t312 t313 t314 t315 _ ?side1 ?side2 ?side3 ?side4 A70.out).mono ?_); (case side1 => repeat (first | exact (Kd.C_below HR0_0.out HB.out) | (with_reducible refine Kd.C_alloc ?_ _) | (with_reducible refine Kd.C_drewN ?_ _) | (with_reducible refine Kd.C_drew ?_))); (case side2 => exact HC0_0.out); (case side3 => repeat (first | exact (Kd.C_below HR0_1.out HB.out) | (with_reducible refine Kd.C_alloc ?_ _) | (with_reducible refine Kd.C_drewN ?_ _) | (with_reducible refine Kd.C_drew ?_))); (case side4 => exact HC0_1.out); rintro e w87 ⟨rfl, hb⟩; refine ⟨_, rfl, ?_⟩; have n0_ := Aside0.mk (blk_below BK299.out hb); have n1_ := Aside0.mk (blk_below BK300.out hb); have n2_ := Aside0.mk (blk_below BK301.out hb); have n3_ := Aside0.mk (blk_below BK306.out hb); have n4_ := Aside0.mk (blk_below BK307.out hb); have n5_ := Aside0.mk (below_step (by repeat (first | (with_reducible first | exact HB.out | apply below_alloc | apply pw_below_drewN | apply below_drew1 | refine below_set ?_ GE299.out | refine below_set ?_ GE300.out | refine below_set ?_ GE301.out | refine below_set ?_ GE306.out | refine below_set ?_ GE307.out) | exact HB.out)) hb); clear BK299; clear BK300; clear BK301; clear BK306; clear BK307; clear HB; have BK299 := n0_; have BK300 := n1_; have BK301 := n2_; have BK306 := n3_; have BK307 := n4_; have HB := n5_; clear n0_ n1_ n2_ n3_ n4_ n5_; (try clear hb); (try clear hb2); (try clear hk); (try clear hi)) | ((with_reducible refine gate_dst (N := 15) rfl ?_); refine box_event ?hg (N := 15) ?hd (cs := #[.int .i64 0, .int .i64 0]) (t := 34) ?hr ?_; (case hd => rfl); (case hg => rfl); (case hr => first | (go_simp; done) | (go_simp; rfl)); intro gb316 hg w88 hbox hb; have n0_ := Aside0.mk (blk_below BK299.out hb); have n1_ := Aside0.mk (blk_below BK300.out hb); have n2_ := Aside0.mk (blk_below BK301.out hb); have n3_ := Aside0.mk (blk_below BK306.out hb); have n4_ := Aside0.mk (blk_below BK307.out hb); have n5_ := Aside0.mk (below_step (by repeat (first | (with_reducible first | exact HB.out | apply below_alloc | apply pw_below_drewN | apply below_drew1 | refine below_set ?_ GE299.out | refine below_set ?_ GE300.out | refine below_set ?_ GE301.out | refine below_set ?_ GE306.out | refine below_set ?_ GE307.out) | exact HB.out)) hb); have n6_ := Aside0.mk (hbox); have n7_ := Aside0.mk ((by rw [hg]; exact (below_size (by repeat (first | (with_reducible first | exact HB.out | apply below_alloc | apply pw_below_drewN | apply below_drew1 | refine below_set ?_ GE299.out | refine below_set ?_ GE300.out | refine below_set ?_ GE301.out | refine below_set ?_ GE306.out | refine below_set ?_ GE307.out) | exact HB.out))) : w.heap.size ≤ gb316)); have n8_ := Aside0.mk ((by rw [hg]; exact (below_size (by repeat (first | (with_reducible first | exact HB.out | apply below_alloc | apply pw_below_drewN | apply below_drew1 | refine below_set ?_ GE299.out | refine below_set ?_ GE300.out | refine below_set ?_ GE301.out | refine below_set ?_ GE306.out | refine below_set ?_ GE307.out) | exact HB.out))) : w.heap.size ≤ gb316)); have n9_ := Aside0.mk ((by rw [hg]; exact Nat.ne_of_lt (blk_lt BK299.out) : gb299 ≠ gb316)); have n10_ := Aside0.mk ((by rw [hg]; exact Nat.ne_of_gt (blk_lt BK299.out) : gb316 ≠ gb299)); have n11_ := Aside0.mk ((by rw [hg]; exact Nat.ne_of_lt (blk_lt BK300.out) : gb300 ≠ gb316)); have n12_ := Aside0.mk ((by rw [hg]; exact Nat.ne_of_gt (blk_lt BK300.out) : gb316 ≠ gb300)); have n13_ := Aside0.mk ((by rw [hg]; exact Nat.ne_of_lt (blk_lt BK301.out) : gb301 ≠ gb316)); have n14_ := Aside0.mk ((by rw [hg]; exact Nat.ne_of_gt (blk_lt BK301.out) : gb316 ≠ gb301)); have n15_ := Aside0.mk ((by rw [hg]; exact Nat.ne_of_lt (blk_lt BK306.out) : gb306 ≠ gb316)); have n16_ := Aside0.mk ((by rw [hg]; exact Nat.ne_of_gt (blk_lt BK306.out) : gb316 ≠ gb306)); have n17_ := Aside0.mk ((by rw [hg]; exact Nat.ne_of_lt (blk_lt BK307.out) : gb307 ≠ gb316)); have n18_ := Aside0.mk ((by rw [hg]; exact Nat.ne_of_gt (blk_lt BK307.out) : gb316 ≠ gb307)); clear BK299; clear BK300; clear BK301; clear BK306; clear BK307; clear HB; have BK299 := n0_; have BK300 := n1_; have BK301 := n2_; have BK306 := n3_; have BK307 := n4_; have HB := n5_; have BK316 := n6_; have GW316 := n7_; have GE316 := n8_; have NB299_316 := n9_; have NB316_299 := n10_; have NB300_316 := n11_; have NB316_300 := n12_; have NB301_316 := n13_; have NB316_301 := n14_; have NB306_316 := n15_; have NB316_306 := n16_; have NB307_316 := n17_; have NB316_307 := n18_; clear n0_ n1_ n2_ n3_ n4_ n5_ n6_ n7_ n8_ n9_ n10_ n11_ n12_ n13_ n14_ n15_ n16_ n17_ n18_; clear hb hbox hg; have hnb89 := NB316_299.out; have hnc89 := NB299_316.out; have hnb90 := NB316_300.out; have hnc90 := NB300_316.out; have hnb91 := NB316_301.out; have hnc91 := NB301_316.out; have hnb92 := NB316_306.out; have hnc92 := NB306_316.out; have hnb93 := NB316_307.out; have hnc93 := NB307_316.out; have hcz94_0 : w88.cell? ⟨gb316, 0, none⟩ = some (.int .i64 0) := (blk_cell BK316.out 0).trans rfl; have hcz94_1 : w88.cell? ⟨gb316, 1, none⟩ = some (.int .i64 0) := (blk_cell BK316.out 1).trans rfl; have hfz94_0 := blk_frozen BK316.out 0; have hfz94_1 := blk_frozen BK316.out 1; have hcz95_0 : w88.cell? ⟨gb299, 0, none⟩ = some (.slice A0_0 l0_0.length c0_0) := (blk_cell BK299.out 0).trans rfl; have hcz95_1 : w88.cell? ⟨gb299, 1, none⟩ = some (.slice A0_1 l0_1.length c0_1) := (blk_cell BK299.out 1).trans rfl; have hfz95_0 := blk_frozen BK299.out 0; have hfz95_1 := blk_frozen BK299.out 1; have hcz96_0 : w88.cell? ⟨gb301, 0, none⟩ = some (.int .i64 a2_0) := (blk_cell BK301.out 0).trans rfl; have hcz96_1 : w88.cell? ⟨gb301, 1, none⟩ = some (.int .i64 a2_1) := (blk_cell BK301.out 1).trans rfl; have hcz96_2 : w88.cell? ⟨gb301, 2, none⟩ = some (.bool a2_2) := (blk_cell BK301.out 2).trans rfl; have hcz96_3 : w88.cell? ⟨gb301, 3, none⟩ = some (.int .i64 a2_3) := (blk_cell BK301.out 3).trans rfl; have hfz96_0 := blk_frozen BK301.out 0; have hfz96_1 := blk_frozen BK301.out 1; have hfz96_2 := blk_frozen BK301.out 2; have hfz96_3 := blk_frozen BK301.out 3) | ((with_reducible refine gate_callee (f := 17) rfl ?_); refine goesL_ (some 90) rfl rfl Try.func17 (by kernel_rfl) rfl #[.agg #[.slice A0_0 l0_0.length c0_0, .slice A0_1 l0_1.length c0_1], .int .i64 a2_0, .agg #[.int .i64 a2_1, .bool a2_2], .int .i64 a2_3] rfl (by (try simp only [List.map_toArray, List.map_cons, List.map_nil]); first | done | rfl | (simp only [List.length_drop, List.length_take]; rfl)) ?_; (with_reducible refine (mem_Store.calls kj29 _ _ l0_0 _ _ l0_1 a2_0 a2_1 a2_2 a2_3 t317 t320 t323 t324 t325 _ ?side1 ?side2 ?side3 ?side4 A71.out).mono ?_); (case side1 => exact Kd.C_below HR0_0.out (by repeat (first | (with_reducible first | exact HB.out | apply below_alloc | apply pw_below_drewN | apply below_drew1 | refine below_set ?_ GE299.out | refine below_set ?_ GE300.out | refine below_set ?_ GE301.out | refine below_set ?_ GE306.out | refine below_set ?_ GE307.out | refine below_set ?_ GE316.out) | exact HB.out))); (case side2 => exact HC0_0.out); (case side3 => exact Kd.C_below HR0_1.out (by repeat (first | (with_reducible first | exact HB.out | apply below_alloc | apply pw_below_drewN | apply below_drew1 | refine below_set ?_ GE299.out | refine below_set ?_ GE300.out | refine below_set ?_ GE301.out | refine below_set ?_ GE306.out | refine below_set ?_ GE307.out | refine below_set ?_ GE316.out) | exact HB.out))); (case side4 => exact HC0_1.out); rintro e w97 ⟨v318, v321, rfl, ho0, ho1, hb⟩; refine ⟨_, rfl, ?_⟩; have n0_ := Aside0.mk (Kd.R_lower ho0 (below_size (by repeat (first | (with_reducible first | exact HB.out | apply below_alloc | apply pw_below_drewN | apply below_drew1 | refine below_set ?_ GE299.out | refine below_set ?_ GE300.out | refine below_set ?_ GE301.out | refine below_set ?_ GE306.out | refine below_set ?_ GE307.out | refine below_set ?_ GE316.out) | exact HB.out)))); have n1_ := Aside0.mk (Kd.R_lower ho1 (below_size (by repeat (first | (with_reducible first | exact HB.out | apply below_alloc | apply pw_below_drewN | apply below_drew1 | refine below_set ?_ GE299.out | refine below_set ?_ GE300.out | refine below_set ?_ GE301.out | refine below_set ?_ GE306.out | refine below_set ?_ GE307.out | refine below_set ?_ GE316.out) | exact HB.out)))); have n2_ := Aside0.mk (blk_below (g := gb299) (o := .cells #[.slice A0_0 l0_0.length c0_0, .slice A0_1 l0_1.length c0_1] 25 (0, 0)) (by refine blk_far ?_ NB299_316.out _; refine blk_far ?_ NB299_316.out _; exact BK299.out) hb); have n3_ := Aside0.mk (blk_below (g := gb300) (o := .cells #[.int .i64 a1_0, .int .i64 a1_1, .int .i64 a1_2] 27 (0, 0)) (by refine blk_far ?_ NB300_316.out _; refine blk_far ?_ NB300_316.out _; exact BK300.out) hb); have n4_ := Aside0.mk (blk_below (g := gb301) (o := .cells #[.int .i64 a2_0, .int .i64 a2_1, .bool a2_2, .int .i64 a2_3] 31 (0, 0)) (by refine blk_far ?_ NB301_316.out _; refine blk_far ?_ NB301_316.out _; exact BK301.out) hb); have n5_ := Aside0.mk (blk_below (g := gb306) (o := .cells #[.int .i64 t303, .int .i64 t304] 34 (0, 0)) (by refine blk_far ?_ NB306_316.out _; refine blk_far ?_ NB306_316.out _; exact BK306.out) hb); have n6_ := Aside0.mk (blk_below (g := gb307) (o := .cells #[.int .i64 x308000_2, .int .i64 x308001_2] 34 (0, 0)) (by refine blk_far ?_ NB307_316.out _; refine blk_far ?_ NB307_316.out _; exact BK307.out) hb); have n7_ := Aside0.mk (blk_below (g := gb316) (o := .cells #[.int .i64 t313, .int .i64 t314] 34 (0, 0)) (by refine blk_put (cs := #[.int .i64 t313, .int .i64 0]) ?_ 1 _ rfl; refine blk_put (cs := #[.int .i64 0, .int .i64 0]) ?_ 0 _ rfl; exact BK316.out) hb); have n8_ := Aside0.mk (below_step (by repeat (first | (with_reducible first | exact HB.out | apply below_alloc | apply pw_below_drewN | apply below_drew1 | refine below_set ?_ GE299.out | refine below_set ?_ GE300.out | refine below_set ?_ GE301.out | refine below_set ?_ GE306.out | refine below_set ?_ GE307.out | refine below_set ?_ GE316.out) | exact HB.out)) hb); clear BK299; clear BK300; clear BK301; clear BK306; clear BK307; clear BK316; clear HB; have HO319 := n0_; have HO322 := n1_; have BK299 := n2_; have BK300 := n3_; have BK301 := n4_; have BK306 := n5_; have BK307 := n6_; have BK316 := n7_; have HB := n8_; clear n0_ n1_ n2_ n3_ n4_ n5_ n6_ n7_ n8_; (try clear hb); (try clear hb2); (try clear hk); (try clear hi); (try clear ho0); (try clear ho1)) | ((with_reducible refine gate_dst (N := 17) rfl ?_); refine box_event ?hg (N := 17) ?hd (cs := #[.slice none 0 0, .slice none 0 0]) (t := 25) ?hr ?_; (case hd => rfl); (case hg => rfl); (case hr => first | (go_simp; done) | (go_simp; rfl)); intro gb326 hg w98 hbox hb; have n0_ := Aside0.mk (Kd.R_below HO319.out hb); have n1_ := Aside0.mk (Kd.R_below HO322.out hb); have n2_ := Aside0.mk (blk_below BK299.out hb); have n3_ := Aside0.mk (blk_below BK300.out hb); have n4_ := Aside0.mk (blk_below BK301.out hb); have n5_ := Aside0.mk (blk_below BK306.out hb); have n6_ := Aside0.mk (blk_below BK307.out hb); have n7_ := Aside0.mk (blk_below BK316.out hb); have n8_ := Aside0.mk (below_step (by repeat (first | (with_reducible first | exact HB.out | apply below_alloc | apply pw_below_drewN | apply below_drew1 | refine below_set ?_ GE299.out | refine below_set ?_ GE300.out | refine below_set ?_ GE301.out | refine below_set ?_ GE306.out | refine below_set ?_ GE307.out | refine below_set ?_ GE316.out) | exact HB.out)) hb); have n9_ := Aside0.mk (hbox); have n10_ := Aside0.mk ((by rw [hg]; exact (below_size (by repeat (first | (with_reducible first | exact HB.out | apply below_alloc | apply pw_below_drewN | apply below_drew1 | refine below_set ?_ GE299.out | refine below_set ?_ GE300.out | refine below_set ?_ GE301.out | refine below_set ?_ GE306.out | refine below_set ?_ GE307.out | refine below_set ?_ GE316.out) | exact HB.out))) : w.heap.size ≤ gb326)); have n11_ := Aside0.mk ((by rw [hg]; exact (below_size (by repeat (first | (with_reducible first | exact HB.out | apply below_alloc | apply pw_below_drewN | apply below_drew1 | refine below_set ?_ GE299.out | refine below_set ?_ GE300.out | refine below_set ?_ GE301.out | refine below_set ?_ GE306.out | refine below_set ?_ GE307.out | refine below_set ?_ GE316.out) | exact HB.out))) : w.heap.size ≤ gb326)); have n12_ := Aside0.mk ((by rw [hg]; exact Nat.ne_of_lt (blk_lt BK299.out) : gb299 ≠ gb326)); have n13_ := Aside0.mk ((by rw [hg]; exact Nat.ne_of_gt (blk_lt BK299.out) : gb326 ≠ gb299)); have n14_ := Aside0.mk ((by rw [hg]; exact Nat.ne_of_lt (blk_lt BK300.out) : gb300 ≠ gb326)); have n15_ := Aside0.mk ((by rw [hg]; exact Nat.ne_of_gt (blk_lt BK300.out) : gb326 ≠ gb300)); have n16_ := Aside0.mk ((by rw [hg]; exact Nat.ne_of_lt (blk_lt BK301.out) : gb301 ≠ gb326)); have n17_ := Aside0.mk ((by rw [hg]; exact Nat.ne_of_gt (blk_lt BK301.out) : gb326 ≠ gb301)); have n18_ := Aside0.mk ((by rw [hg]; exact Nat.ne_of_lt (blk_lt BK306.out) : gb306 ≠ gb326)); have n19_ := Aside0.mk ((by rw [hg]; exact Nat.ne_of_gt (blk_lt BK306.out) : gb326 ≠ gb306)); have n20_ := Aside0.mk ((by rw [hg]; exact Nat.ne_of_lt (blk_lt BK307.out) : gb307 ≠ gb326)); have n21_ := Aside0.mk ((by rw [hg]; exact Nat.ne_of_gt (blk_lt BK307.out) : gb326 ≠ gb307)); have n22_ := Aside0.mk ((by rw [hg]; exact Nat.ne_of_lt (blk_lt BK316.out) : gb316 ≠ gb326)); have n23_ := Aside0.mk ((by rw [hg]; exact Nat.ne_of_gt (blk_lt BK316.out) : gb326 ≠ gb316)); clear HO319; clear HO322; clear BK299; clear BK300; clear BK301; clear BK306; clear BK307; clear BK316; clear HB; have HO319 := n0_; have HO322 := n1_; have BK299 := n2_; have BK300 := n3_; have BK301 := n4_; have BK306 := n5_; have BK307 := n6_; have BK316 := n7_; have HB := n8_; have BK326 := n9_; have GW326 := n10_; have GE326 := n11_; have NB299_326 := n12_; have NB326_299 := n13_; have NB300_326 := n14_; have NB326_300 := n15_; have NB301_326 := n16_; have NB326_301 := n17_; have NB306_326 := n18_; have NB326_306 := n19_; have NB307_326 := n20_; have NB326_307 := n21_; have NB316_326 := n22_; have NB326_316 := n23_; clear n0_ n1_ n2_ n3_ n4_ n5_ n6_ n7_ n8_ n9_ n10_ n11_ n12_ n13_ n14_ n15_ n16_ n17_ n18_ n19_ n20_ n21_ n22_ n23_; clear hb hbox hg) | ((with_reducible refine gate_dst (N := 18) rfl ?_); refine box_event ?hg (N := 18) ?hd (cs := #[.int .i64 0, .int .i64 0]) (t := 34) ?hr ?_; (case hd => rfl); (case hg => rfl); (case hr => first | (go_simp; done) | (go_simp; rfl)); intro gb327 hg w99 hbox hb; have n0_ := Aside0.mk (Kd.R_below HO319.out hb); have n1_ := Aside0.mk (Kd.R_below HO322.out hb); have n2_ := Aside0.mk (blk_below BK299.out hb); have n3_ := Aside0.mk (blk_below BK300.out hb); have n4_ := Aside0.mk (blk_below BK301.out hb); have n5_ := Aside0.mk (blk_below BK306.out hb); have n6_ := Aside0.mk (blk_below BK307.out hb); have n7_ := Aside0.mk (blk_below BK316.out hb); have n8_ := Aside0.mk (blk_below BK326.out hb); have n9_ := Aside0.mk (below_step (by repeat (first | (with_reducible first | exact HB.out | apply below_alloc | apply pw_below_drewN | apply below_drew1 | refine below_set ?_ GE299.out | refine below_set ?_ GE300.out | refine below_set ?_ GE301.out | refine below_set ?_ GE306.out | refine below_set ?_ GE307.out | refine below_set ?_ GE316.out | refine below_set ?_ GE326.out) | exact HB.out)) hb); have n10_ := Aside0.mk (hbox); have n11_ := Aside0.mk ((by rw [hg]; exact (below_size (by repeat (first | (with_reducible first | exact HB.out | apply below_alloc | apply pw_below_drewN | apply below_drew1 | refine below_set ?_ GE299.out | refine below_set ?_ GE300.out | refine below_set ?_ GE301.out | refine below_set ?_ GE306.out | refine below_set ?_ GE307.out | refine below_set ?_ GE316.out | refine below_set ?_ GE326.out) | exact HB.out))) : w.heap.size ≤ gb327)); have n12_ := Aside0.mk ((by rw [hg]; exact (below_size (by repeat (first | (with_reducible first | exact HB.out | apply below_alloc | apply pw_below_drewN | apply below_drew1 | refine below_set ?_ GE299.out | refine below_set ?_ GE300.out | refine below_set ?_ GE301.out | refine below_set ?_ GE306.out | refine below_set ?_ GE307.out | refine below_set ?_ GE316.out | refine below_set ?_ GE326.out) | exact HB.out))) : w.heap.size ≤ gb327)); have n13_ := Aside0.mk ((by rw [hg]; exact Nat.ne_of_lt (blk_lt BK299.out) : gb299 ≠ gb327)); have n14_ := Aside0.mk ((by rw [hg]; exact Nat.ne_of_gt (blk_lt BK299.out) : gb327 ≠ gb299)); have n15_ := Aside0.mk ((by rw [hg]; exact Nat.ne_of_lt (blk_lt BK300.out) : gb300 ≠ gb327)); have n16_ := Aside0.mk ((by rw [hg]; exact Nat.ne_of_gt (blk_lt BK300.out) : gb327 ≠ gb300)); have n17_ := Aside0.mk ((by rw [hg]; exact Nat.ne_of_lt (blk_lt BK301.out) : gb301 ≠ gb327)); have n18_ := Aside0.mk ((by rw [hg]; exact Nat.ne_of_gt (blk_lt BK301.out) : gb327 ≠ gb301)); have n19_ := Aside0.mk ((by rw [hg]; exact Nat.ne_of_lt (blk_lt BK306.out) : gb306 ≠ gb327)); have n20_ := Aside0.mk ((by rw [hg]; exact Nat.ne_of_gt (blk_lt BK306.out) : gb327 ≠ gb306)); have n21_ := Aside0.mk ((by rw [hg]; exact Nat.ne_of_lt (blk_lt BK307.out) : gb307 ≠ gb327)); have n22_ := Aside0.mk ((by rw [hg]; exact Nat.ne_of_gt (blk_lt BK307.out) : gb327 ≠ gb307)); have n23_ := Aside0.mk ((by rw [hg]; exact Nat.ne_of_lt (blk_lt BK316.out) : gb316 ≠ gb327)); have n24_ := Aside0.mk ((by rw [hg]; exact Nat.ne_of_gt (blk_lt BK316.out) : gb327 ≠ gb316)); have n25_ := Aside0.mk ((by rw [hg]; exact Nat.ne_of_lt (blk_lt BK326.out) : gb326 ≠ gb327)); have n26_ := Aside0.mk ((by rw [hg]; exact Nat.ne_of_gt (blk_lt BK326.out) : gb327 ≠ gb326)); clear HO319; clear HO322; clear BK299; clear BK300; clear BK301; clear BK306; clear BK307; clear BK316; clear BK326; clear HB; have HO319 := n0_; have HO322 := n1_; have BK299 := n2_; have BK300 := n3_; have BK301 := n4_; have BK306 := n5_; have BK307 := n6_; have BK316 := n7_; have BK326 := n8_; have HB := n9_; have BK327 := n10_; have GW327 := n11_; have GE327 := n12_; have NB299_327 := n13_; have NB327_299 := n14_; have NB300_327 := n15_; have NB327_300 := n16_; have NB301_327 := n17_; have NB327_301 := n18_; have NB306_327 := n19_; have NB327_306 := n20_; have NB307_327 := n21_; have NB327_307 := n22_; have NB316_327 := n23_; have NB327_316 := n24_; have NB326_327 := n25_; have NB327_326 := n26_; clear n0_ n1_ n2_ n3_ n4_ n5_ n6_ n7_ n8_ n9_ n10_ n11_ n12_ n13_ n14_ n15_ n16_ n17_ n18_ n19_ n20_ n21_ n22_ n23_ n24_ n25_ n26_; clear hb hbox hg; obtain ⟨Ao100, co100, eo100⟩ := Kd.R_slice HO319.out; subst eo100; have hnb101 := NB326_299.out; have hnc101 := NB299_326.out; have hnb102 := NB326_300.out; have hnc102 := NB300_326.out; have hnb103 := NB326_301.out; have hnc103 := NB301_326.out; have hnb104 := NB326_306.out; have hnc104 := NB306_326.out; have hnb105 := NB326_307.out; have hnc105 := NB307_326.out; have hnb106 := NB326_316.out; have hnc106 := NB316_326.out; have hnb107 := NB326_327.out; have hnc107 := NB327_326.out; have hcz108_0 : w99.cell? ⟨gb326, 0, none⟩ = some (.slice none 0 0) := (blk_cell BK326.out 0).trans rfl; have hcz108_1 : w99.cell? ⟨gb326, 1, none⟩ = some (.slice none 0 0) := (blk_cell BK326.out 1).trans rfl; have hfz108_0 := blk_frozen BK326.out 0; have hfz108_1 := blk_frozen BK326.out 1; obtain ⟨Ao109, co109, eo109⟩ := Kd.R_slice HO322.out; subst eo109; have hnb110 := NB327_299.out; have hnc110 := NB299_327.out; have hnb111 := NB327_300.out; have hnc111 := NB300_327.out; have hnb112 := NB327_301.out; have hnc112 := NB301_327.out; have hnb113 := NB327_306.out; have hnc113 := NB306_327.out; have hnb114 := NB327_307.out; have hnc114 := NB307_327.out; have hnb115 := NB327_316.out; have hnc115 := NB316_327.out; have hcz116_0 : w99.cell? ⟨gb327, 0, none⟩ = some (.int .i64 0) := (blk_cell BK327.out 0).trans rfl; have hcz116_1 : w99.cell? ⟨gb327, 1, none⟩ = some (.int .i64 0) := (blk_cell BK327.out 1).trans rfl; have hfz116_0 := blk_frozen BK327.out 0; have hfz116_1 := blk_frozen BK327.out 1))
                    (try simp only [Act.put, List.setIfInBounds_toArray, List.set_cons_zero, List.set_cons_succ])
                    go_cut [99] (fun v99 wc => ∃ (kq : Nat) (x99_71 : Bool), v99 = .bool x99_71 ∧ Aside0 (taplinelaw03_MemFaults.j3 kq t315 t325 x99_71 l0_0 l0_1 a2_0 a2_1 a2_2 a2_3 t313 t314 t323 t324 = some r) ∧ Aside0 (kq ≤ kj29) ∧ Aside0 (Kd.R (Kd.int .i64) 3 wc w.heap.size (fun _ => True) (.slice Ao100 t317.length co100) t317) ∧ Aside0 (Kd.R (Kd.int .u8) 5 wc w.heap.size (fun _ => True) (.slice Ao109 t320.length co109) t320) ∧ Aside0 (wc.heap[gb299]? = some (.cells #[(.slice A0_0 l0_0.length c0_0), (.slice A0_1 l0_1.length c0_1)] 25 (0, 0))) ∧ Aside0 (wc.heap[gb300]? = some (.cells #[.int .i64 a1_0, .int .i64 a1_1, .int .i64 a1_2] 27 (0, 0))) ∧ Aside0 (wc.heap[gb301]? = some (.cells #[.int .i64 a2_0, .int .i64 a2_1, .bool a2_2, .int .i64 a2_3] 31 (0, 0))) ∧ Aside0 (wc.heap[gb306]? = some (.cells #[.int .i64 t303, .int .i64 t304] 34 (0, 0))) ∧ Aside0 (wc.heap[gb307]? = some (.cells #[.int .i64 x308000_2, .int .i64 x308001_2] 34 (0, 0))) ∧ Aside0 (wc.heap[gb316]? = some (.cells #[.int .i64 t313, .int .i64 t314] 34 (0, 0))) ∧ Aside0 (wc.heap[gb326]? = some (.cells #[(.slice Ao100 t317.length co100), (.slice Ao109 t320.length co109)] 25 (0, 0))) ∧ Aside0 (wc.heap[gb327]? = some (.cells #[.int .i64 t323, .int .i64 t324] 34 (0, 0))) ∧ Aside0 (Below w.heap.size w wc))
                    case first =>
                      have H := HC72.out
                      clear HC72
                      by_cases c117 : t315 = 0
                      · rw [if_pos c117] at H
                        have c117b0 : (t315 == 0) = true := beq_iff_eq.mpr c117
                        have c117b1 : (t315 != 0) = false := bne_eq_false_iff_eq.mpr c117
                        clear c117
                        (first | rw [c117b0] | (simp only [i64_w, i32_w]; rw [c117b0]) | skip)
                        have H' := Aside0.mk H
                        clear H
                        go_wp2
                        go_meet
                        case rel => exact ⟨_, ((t325 != 0)), (by first | rfl | (simp; done) | (simp [*]; done)), H', ⟨by have := HJ5.out; have := HK2.out; have := HJ29.out; first | omega | exact Nat.le_refl _⟩, ⟨by (with_reducible repeat (first | apply Kd.R_alloc | apply Kd.R_drewN | apply Kd.R_drew)); exact Kd.R_mono (Kd.R_far (p := ⟨gb327, 1, none⟩) (Kd.R_far (p := ⟨gb327, 0, none⟩) (Kd.R_far (p := ⟨gb326, 1, none⟩) (Kd.R_far (p := ⟨gb326, 0, none⟩) (Kd.R_types (Kd.R_types HO319.out BK326.out (by decide)) BK327.out (by decide)) (fun _ hk => hk.1.2) (.slice Ao100 t317.length co100)) (fun _ hk => hk.1.2) (.slice Ao109 t320.length co109)) (fun _ hk => hk.2) (.int .i64 t323)) (fun _ hk => hk.2) (.int .i64 t324)) (fun _ hk => trivial)⟩, ⟨by (with_reducible repeat (first | apply Kd.R_alloc | apply Kd.R_drewN | apply Kd.R_drew)); exact Kd.R_mono (Kd.R_far (p := ⟨gb327, 1, none⟩) (Kd.R_far (p := ⟨gb327, 0, none⟩) (Kd.R_far (p := ⟨gb326, 1, none⟩) (Kd.R_far (p := ⟨gb326, 0, none⟩) (Kd.R_types (Kd.R_types HO322.out BK326.out (by decide)) BK327.out (by decide)) (fun _ hk => hk.1.2) (.slice Ao100 t317.length co100)) (fun _ hk => hk.1.2) (.slice Ao109 t320.length co109)) (fun _ hk => hk.2) (.int .i64 t323)) (fun _ hk => hk.2) (.int .i64 t324)) (fun _ hk => trivial)⟩, ⟨by (with_reducible repeat (first | refine blk_drewN ?_ _ | refine blk_drew ?_ | refine blk_alloc ?_ _)); refine blk_far ?_ NB299_327.out _; refine blk_far ?_ NB299_327.out _; refine blk_far ?_ NB299_326.out _; refine blk_far ?_ NB299_326.out _; exact BK299.out⟩, ⟨by (with_reducible repeat (first | refine blk_drewN ?_ _ | refine blk_drew ?_ | refine blk_alloc ?_ _)); refine blk_far ?_ NB300_327.out _; refine blk_far ?_ NB300_327.out _; refine blk_far ?_ NB300_326.out _; refine blk_far ?_ NB300_326.out _; exact BK300.out⟩, ⟨by (with_reducible repeat (first | refine blk_drewN ?_ _ | refine blk_drew ?_ | refine blk_alloc ?_ _)); refine blk_far ?_ NB301_327.out _; refine blk_far ?_ NB301_327.out _; refine blk_far ?_ NB301_326.out _; refine blk_far ?_ NB301_326.out _; exact BK301.out⟩, ⟨by (with_reducible repeat (first | refine blk_drewN ?_ _ | refine blk_drew ?_ | refine blk_alloc ?_ _)); refine blk_far ?_ NB306_327.out _; refine blk_far ?_ NB306_327.out _; refine blk_far ?_ NB306_326.out _; refine blk_far ?_ NB306_326.out _; exact BK306.out⟩, ⟨by (with_reducible repeat (first | refine blk_drewN ?_ _ | refine blk_drew ?_ | refine blk_alloc ?_ _)); refine blk_far ?_ NB307_327.out _; refine blk_far ?_ NB307_327.out _; refine blk_far ?_ NB307_326.out _; refine blk_far ?_ NB307_326.out _; exact BK307.out⟩, ⟨by (with_reducible repeat (first | refine blk_drewN ?_ _ | refine blk_drew ?_ | refine blk_alloc ?_ _)); refine blk_far ?_ NB316_327.out _; refine blk_far ?_ NB316_327.out _; refine blk_far ?_ NB316_326.out _; refine blk_far ?_ NB316_326.out _; exact BK316.out⟩, ⟨by (with_reducible repeat (first | refine blk_drewN ?_ _ | refine blk_drew ?_ | refine blk_alloc ?_ _)); refine blk_far ?_ NB326_327.out _; refine blk_far ?_ NB326_327.out _; refine blk_put (cs := #[.slice Ao100 t317.length co100, .slice none 0 0]) ?_ 1 _ rfl; refine blk_put (cs := #[.slice none 0 0, .slice none 0 0]) ?_ 0 _ rfl; exact BK326.out⟩, ⟨by (with_reducible repeat (first | refine blk_drewN ?_ _ | refine blk_drew ?_ | refine blk_alloc ?_ _)); refine blk_put (cs := #[.int .i64 t323, .int .i64 0]) ?_ 1 _ rfl; refine blk_put (cs := #[.int .i64 0, .int .i64 0]) ?_ 0 _ rfl; refine blk_far ?_ NB327_326.out _; refine blk_far ?_ NB327_326.out _; exact BK327.out⟩, ⟨by repeat (first | (with_reducible first | exact HB.out | apply below_alloc | apply pw_below_drewN | apply below_drew1 | refine below_set ?_ GE299.out | refine below_set ?_ GE300.out | refine below_set ?_ GE301.out | refine below_set ?_ GE306.out | refine below_set ?_ GE307.out | refine below_set ?_ GE316.out | refine below_set ?_ GE326.out | refine below_set ?_ GE327.out) | exact HB.out)⟩⟩
                      · rw [if_neg c117] at H
                        have c117b0 : (t315 == 0) = false := beq_eq_false_iff_ne.mpr c117
                        have c117b1 : (t315 != 0) = true := bne_iff_ne.mpr c117
                        (first | rw [c117b0] | (simp only [i64_w, i32_w]; rw [c117b0]) | skip)
                        have H' := Aside0.mk H
                        clear H
                        go_wp2
                        go_meet
                        case rel => exact ⟨_, (true), (by first | rfl | (simp; done) | (simp [*]; done)), H', ⟨by have := HJ5.out; have := HK2.out; have := HJ29.out; first | omega | exact Nat.le_refl _⟩, ⟨by (with_reducible repeat (first | apply Kd.R_alloc | apply Kd.R_drewN | apply Kd.R_drew)); exact Kd.R_mono (Kd.R_far (p := ⟨gb327, 1, none⟩) (Kd.R_far (p := ⟨gb327, 0, none⟩) (Kd.R_far (p := ⟨gb326, 1, none⟩) (Kd.R_far (p := ⟨gb326, 0, none⟩) (Kd.R_types (Kd.R_types HO319.out BK326.out (by decide)) BK327.out (by decide)) (fun _ hk => hk.1.2) (.slice Ao100 t317.length co100)) (fun _ hk => hk.1.2) (.slice Ao109 t320.length co109)) (fun _ hk => hk.2) (.int .i64 t323)) (fun _ hk => hk.2) (.int .i64 t324)) (fun _ hk => trivial)⟩, ⟨by (with_reducible repeat (first | apply Kd.R_alloc | apply Kd.R_drewN | apply Kd.R_drew)); exact Kd.R_mono (Kd.R_far (p := ⟨gb327, 1, none⟩) (Kd.R_far (p := ⟨gb327, 0, none⟩) (Kd.R_far (p := ⟨gb326, 1, none⟩) (Kd.R_far (p := ⟨gb326, 0, none⟩) (Kd.R_types (Kd.R_types HO322.out BK326.out (by decide)) BK327.out (by decide)) (fun _ hk => hk.1.2) (.slice Ao100 t317.length co100)) (fun _ hk => hk.1.2) (.slice Ao109 t320.length co109)) (fun _ hk => hk.2) (.int .i64 t323)) (fun _ hk => hk.2) (.int .i64 t324)) (fun _ hk => trivial)⟩, ⟨by (with_reducible repeat (first | refine blk_drewN ?_ _ | refine blk_drew ?_ | refine blk_alloc ?_ _)); refine blk_far ?_ NB299_327.out _; refine blk_far ?_ NB299_327.out _; refine blk_far ?_ NB299_326.out _; refine blk_far ?_ NB299_326.out _; exact BK299.out⟩, ⟨by (with_reducible repeat (first | refine blk_drewN ?_ _ | refine blk_drew ?_ | refine blk_alloc ?_ _)); refine blk_far ?_ NB300_327.out _; refine blk_far ?_ NB300_327.out _; refine blk_far ?_ NB300_326.out _; refine blk_far ?_ NB300_326.out _; exact BK300.out⟩, ⟨by (with_reducible repeat (first | refine blk_drewN ?_ _ | refine blk_drew ?_ | refine blk_alloc ?_ _)); refine blk_far ?_ NB301_327.out _; refine blk_far ?_ NB301_327.out _; refine blk_far ?_ NB301_326.out _; refine blk_far ?_ NB301_326.out _; exact BK301.out⟩, ⟨by (with_reducible repeat (first | refine blk_drewN ?_ _ | refine blk_drew ?_ | refine blk_alloc ?_ _)); refine blk_far ?_ NB306_327.out _; refine blk_far ?_ NB306_327.out _; refine blk_far ?_ NB306_326.out _; refine blk_far ?_ NB306_326.out _; exact BK306.out⟩, ⟨by (with_reducible repeat (first | refine blk_drewN ?_ _ | refine blk_drew ?_ | refine blk_alloc ?_ _)); refine blk_far ?_ NB307_327.out _; refine blk_far ?_ NB307_327.out _; refine blk_far ?_ NB307_326.out _; refine blk_far ?_ NB307_326.out _; exact BK307.out⟩, ⟨by (with_reducible repeat (first | refine blk_drewN ?_ _ | refine blk_drew ?_ | refine blk_alloc ?_ _)); refine blk_far ?_ NB316_327.out _; refine blk_far ?_ NB316_327.out _; refine blk_far ?_ NB316_326.out _; refine blk_far ?_ NB316_326.out _; exact BK316.out⟩, ⟨by (with_reducible repeat (first | refine blk_drewN ?_ _ | refine blk_drew ?_ | refine blk_alloc ?_ _)); refine blk_far ?_ NB326_327.out _; refine blk_far ?_ NB326_327.out _; refine blk_put (cs := #[.slice Ao100 t317.length co100, .slice none 0 0]) ?_ 1 _ rfl; refine blk_put (cs := #[.slice none 0 0, .slice none 0 0]) ?_ 0 _ rfl; exact BK326.out⟩, ⟨by (with_reducible repeat (first | refine blk_drewN ?_ _ | refine blk_drew ?_ | refine blk_alloc ?_ _)); refine blk_put (cs := #[.int .i64 t323, .int .i64 0]) ?_ 1 _ rfl; refine blk_put (cs := #[.int .i64 0, .int .i64 0]) ?_ 0 _ rfl; refine blk_far ?_ NB327_326.out _; refine blk_far ?_ NB327_326.out _; exact BK327.out⟩, ⟨by repeat (first | (with_reducible first | exact HB.out | apply below_alloc | apply pw_below_drewN | apply below_drew1 | refine below_set ?_ GE299.out | refine below_set ?_ GE300.out | refine below_set ?_ GE301.out | refine below_set ?_ GE306.out | refine below_set ?_ GE307.out | refine below_set ?_ GE316.out | refine below_set ?_ GE326.out | refine below_set ?_ GE327.out) | exact HB.out)⟩⟩
                    case rest =>
                      clear HC72
                      try clear c1
                      try clear c2
                      try clear p2
                      try clear c3
                      try clear c4
                      try clear c5
                      try clear c6
                      try clear p6
                      try clear c7
                      try clear c8
                      try clear c9
                      try clear c10
                      try clear c11
                      try clear c12
                      try clear c14
                      try clear c15
                      try clear c16
                      try clear c17
                      try clear c18
                      try clear c19
                      try clear c20
                      try clear c22
                      try clear c23
                      try clear c25
                      try clear c26
                      try clear c27
                      try clear c28
                      try clear c31
                      try clear c31b0
                      try clear c32
                      try clear c33
                      try clear c34
                      try clear c35
                      try clear c37
                      try clear c38
                      try clear c39
                      try clear c41
                      try clear c42
                      try clear c43
                      try clear c44
                      try clear c46
                      try clear c48
                      try clear c48b0
                      try clear c48b1
                      try clear c49
                      try clear c50
                      try clear c51
                      try clear c52
                      try clear c54
                      try clear c55
                      try clear c56
                      try clear c60
                      try clear c61
                      try clear c62
                      try clear c63
                      try clear c64
                      try clear p64
                      try clear c66
                      try clear c67
                      try clear c69
                      try clear c69b0
                      try clear c73
                      try clear c74
                      try clear c75
                      try clear c76
                      try clear c78
                      try clear c79
                      try clear c80
                      try clear c82
                      try clear c83
                      try clear c85
                      try clear c89
                      try clear c90
                      try clear c91
                      try clear c92
                      try clear c93
                      try clear c101
                      try clear c102
                      try clear c103
                      try clear c104
                      try clear c105
                      try clear c106
                      try clear c107
                      try clear c110
                      try clear c111
                      try clear c112
                      try clear c113
                      try clear c114
                      try clear c115
                      try clear c117
                      try clear c117b0
                      try clear c117b1
                      try clear hcz108_0
                      try clear hcz108_1
                      try clear hcz116_0
                      try clear hcz116_1
                      try clear hcz13_0
                      try clear hcz13_1
                      try clear hcz15_0
                      try clear hcz15_1
                      try clear hcz15_2
                      try clear hcz21_0
                      try clear hcz21_1
                      try clear hcz29_0
                      try clear hcz29_1
                      try clear hcz36_0
                      try clear hcz36_1
                      try clear hcz36_2
                      try clear hcz40_0
                      try clear hcz40_1
                      try clear hcz45_0
                      try clear hcz45_1
                      try clear hcz45_2
                      try clear hcz53_0
                      try clear hcz53_1
                      try clear hcz57_0
                      try clear hcz57_1
                      try clear hcz57_2
                      try clear hcz65_0
                      try clear hcz65_1
                      try clear hcz68_0
                      try clear hcz68_1
                      try clear hcz77_0
                      try clear hcz77_1
                      try clear hcz81_0
                      try clear hcz81_1
                      try clear hcz84_0
                      try clear hcz84_1
                      try clear hcz86_0
                      try clear hcz86_1
                      try clear hcz86_2
                      try clear hcz86_3
                      try clear hcz94_0
                      try clear hcz94_1
                      try clear hcz95_0
                      try clear hcz95_1
                      try clear hcz96_0
                      try clear hcz96_1
                      try clear hcz96_2
                      try clear hcz96_3
                      try clear hfz108_0
                      try clear hfz108_1
                      try clear hfz116_0
                      try clear hfz116_1
                      try clear hfz13_0
                      try clear hfz13_1
                      try clear hfz15_0
                      try clear hfz15_1
                      try clear hfz15_2
                      try clear hfz21_0
                      try clear hfz21_1
                      try clear hfz29_0
                      try clear hfz29_1
                      try clear hfz36_0
                      try clear hfz36_1
                      try clear hfz36_2
                      try clear hfz40_0
                      try clear hfz40_1
                      try clear hfz45_0
                      try clear hfz45_1
                      try clear hfz45_2
                      try clear hfz53_0
                      try clear hfz53_1
                      try clear hfz57_0
                      try clear hfz57_1
                      try clear hfz57_2
                      try clear hfz65_0
                      try clear hfz65_1
                      try clear hfz68_0
                      try clear hfz68_1
                      try clear hfz77_0
                      try clear hfz77_1
                      try clear hfz81_0
                      try clear hfz81_1
                      try clear hfz84_0
                      try clear hfz84_1
                      try clear hfz86_0
                      try clear hfz86_1
                      try clear hfz86_2
                      try clear hfz86_3
                      try clear hfz94_0
                      try clear hfz94_1
                      try clear hfz95_0
                      try clear hfz95_1
                      try clear hfz96_0
                      try clear hfz96_1
                      try clear hfz96_2
                      try clear hfz96_3
                      try clear p2
                      obtain ⟨kq, x99_71, rfl, HA, HJ71, HO_327000, HO_327001, BK299, BK300, BK301, BK306, BK307, BK316, BK326, BK327, HB⟩ := hcut
                      cases kq with
                      | zero => exact absurd HA.out (by simp [taplinelaw03_MemFaults.j3])
                      | succ kj71 =>
                        have H := HA.out
                        clear HA
                        simp only [taplinelaw03_MemFaults.j3] at H
                        by_cases c118 : x99_71 = true
                        · subst c118
                          have H1 : (if t315 = t325 then (some (t315 == 10)) else (none)) = some r := by rw [if_pos rfl] at H; exact H
                          clear H
                          have H := H1
                          clear H1
                          by_cases c119 : t315 = t325
                          · rw [if_pos c119] at H
                            have c119b0 : (t315 == t325) = true := beq_iff_eq.mpr c119
                            have c119b1 : (t315 != t325) = false := bne_eq_false_iff_eq.mpr c119
                            clear c119
                            obtain rfl := Option.some.inj H
                            go_wp2
                            go_ret
                            exact ⟨by first | rfl | (simp [errW_none, errW_some] <;> rfl) | (simp [*, errW_none, errW_some] <;> rfl), by repeat (first | (with_reducible first | exact HB.out | apply below_alloc | apply pw_below_drewN | apply below_drew1 | refine below_set ?_ GE299.out | refine below_set ?_ GE300.out | refine below_set ?_ GE301.out | refine below_set ?_ GE306.out | refine below_set ?_ GE307.out | refine below_set ?_ GE316.out | refine below_set ?_ GE326.out | refine below_set ?_ GE327.out) | exact HB.out)⟩
                          · rw [if_neg c119] at H
                            exact absurd H (by simp)
                        · replace c118 := Bool.eq_false_iff.mpr c118
                          subst c118
                          have H1 : ((mem_Access.f l0_0 l0_1 a2_0 a2_1 1).bind fun bt328 => ((mem_Access.f l0_0 l0_1 a2_0 a2_1 2).bind fun bt332 => (if (t313 == bt328.1 && (t314 == bt328.2.1)) = true then (some (t323 == bt332.1 && (t324 == bt332.2.1))) else (none)))) = some r := by rw [if_neg (show ¬ (false = true) by decide)] at H; exact H
                          clear H
                          have H := H1
                          clear H1
                          replace H := Option.bind_eq_some_iff.mp H
                          obtain ⟨⟨t328, t329, t330⟩, A1200, H⟩ := H
                          replace H : ((mem_Access.f l0_0 l0_1 a2_0 a2_1 2).bind fun bt332 => (if (t313 == t328 && (t314 == t329)) = true then (some (t323 == bt332.1 && (t324 == bt332.2.1))) else (none))) = some r := H
                          have A120 := Aside0.mk A1200
                          clear A1200
                          replace H := Option.bind_eq_some_iff.mp H
                          obtain ⟨⟨t332, t333, t334⟩, A1210, H⟩ := H
                          replace H : (if (t313 == t328 && (t314 == t329)) = true then (some (t323 == t332 && (t324 == t333))) else (none)) = some r := H
                          have A121 := Aside0.mk A1210
                          clear A1210
                          by_cases c122 : (t313 == t328 && (t314 == t329)) = true
                          · rw [if_pos c122] at H
                            have c122b0 : (t313 == t328 && (t314 == t329)) = true := c122
                            (try (have c122b1 : decide (t313 = t328 && (t314 == t329)) = true := by simpa using c122))
                            (try (have c122b2 : (t313 == t328 && (t314 == t329)) = true := by simpa using c122))
                            clear c122
                            obtain rfl := Option.some.inj H
                            have hnb123 := NB299_300.out
                            have hnc123 := NB300_299.out
                            have hnb124 := NB299_301.out
                            have hnc124 := NB301_299.out
                            have hnb125 := NB299_306.out
                            have hnc125 := NB306_299.out
                            have hnb126 := NB299_307.out
                            have hnc126 := NB307_299.out
                            have hnb127 := NB299_316.out
                            have hnc127 := NB316_299.out
                            have hnb128 := NB299_326.out
                            have hnc128 := NB326_299.out
                            have hnb129 := NB299_327.out
                            have hnc129 := NB327_299.out
                            have hcz130_0 : wc.cell? ⟨gb299, 0, none⟩ = some (.slice A0_0 l0_0.length c0_0) := (blk_cell BK299.out 0).trans rfl
                            have hcz130_1 : wc.cell? ⟨gb299, 1, none⟩ = some (.slice A0_1 l0_1.length c0_1) := (blk_cell BK299.out 1).trans rfl
                            have hfz130_0 := blk_frozen BK299.out 0
                            have hfz130_1 := blk_frozen BK299.out 1
                            have hnb131 := NB301_300.out
                            have hnc131 := NB300_301.out
                            have hnb132 := NB301_306.out
                            have hnc132 := NB306_301.out
                            have hnb133 := NB301_307.out
                            have hnc133 := NB307_301.out
                            have hnb134 := NB301_316.out
                            have hnc134 := NB316_301.out
                            have hnb135 := NB301_326.out
                            have hnc135 := NB326_301.out
                            have hnb136 := NB301_327.out
                            have hnc136 := NB327_301.out
                            have hcz137_0 : wc.cell? ⟨gb301, 0, none⟩ = some (.int .i64 a2_0) := (blk_cell BK301.out 0).trans rfl
                            have hcz137_1 : wc.cell? ⟨gb301, 1, none⟩ = some (.int .i64 a2_1) := (blk_cell BK301.out 1).trans rfl
                            have hcz137_2 : wc.cell? ⟨gb301, 2, none⟩ = some (.bool a2_2) := (blk_cell BK301.out 2).trans rfl
                            have hcz137_3 : wc.cell? ⟨gb301, 3, none⟩ = some (.int .i64 a2_3) := (blk_cell BK301.out 3).trans rfl
                            have hfz137_0 := blk_frozen BK301.out 0
                            have hfz137_1 := blk_frozen BK301.out 1
                            have hfz137_2 := blk_frozen BK301.out 2
                            have hfz137_3 := blk_frozen BK301.out 3
                            go_wp2_with (first | ((with_reducible refine gate_callee (f := 15) rfl ?_); refine goesL_ (some 114) rfl rfl Try.func15 (by kernel_rfl) rfl #[.agg #[.slice A0_0 l0_0.length c0_0, .slice A0_1 l0_1.length c0_1], .int .i64 a2_0, .int .i64 a2_1, .int .i64 1] rfl (by (try simp only [List.map_toArray, List.map_cons, List.map_nil]); first | done | rfl | (simp only [List.length_drop, List.length_take]; rfl)) ?_; (with_reducible refine (mem_Access.calls _ _ l0_0 _ _ l0_1 a2_0 a2_1 1 t328 t329 t330 _ ?side1 ?side2 ?side3 ?side4 A120.out).mono ?_); (case side1 => repeat (first | exact (Kd.C_below HR0_0.out HB.out) | (with_reducible refine Kd.C_alloc ?_ _) | (with_reducible refine Kd.C_drewN ?_ _) | (with_reducible refine Kd.C_drew ?_))); (case side2 => exact HC0_0.out); (case side3 => repeat (first | exact (Kd.C_below HR0_1.out HB.out) | (with_reducible refine Kd.C_alloc ?_ _) | (with_reducible refine Kd.C_drewN ?_ _) | (with_reducible refine Kd.C_drew ?_))); (case side4 => exact HC0_1.out); rintro e w138 ⟨rfl, hb⟩; refine ⟨_, rfl, ?_⟩; have n0_ := Aside0.mk (Kd.R_below HO_327000.out hb); have n1_ := Aside0.mk (Kd.R_below HO_327001.out hb); have n2_ := Aside0.mk (blk_below BK299.out hb); have n3_ := Aside0.mk (blk_below BK300.out hb); have n4_ := Aside0.mk (blk_below BK301.out hb); have n5_ := Aside0.mk (blk_below BK306.out hb); have n6_ := Aside0.mk (blk_below BK307.out hb); have n7_ := Aside0.mk (blk_below BK316.out hb); have n8_ := Aside0.mk (blk_below BK326.out hb); have n9_ := Aside0.mk (blk_below BK327.out hb); have n10_ := Aside0.mk (below_step (by repeat (first | (with_reducible first | exact HB.out | apply below_alloc | apply pw_below_drewN | apply below_drew1 | refine below_set ?_ GE299.out | refine below_set ?_ GE300.out | refine below_set ?_ GE301.out | refine below_set ?_ GE306.out | refine below_set ?_ GE307.out | refine below_set ?_ GE316.out | refine below_set ?_ GE326.out | refine below_set ?_ GE327.out) | exact HB.out)) hb); clear HO_327000; clear HO_327001; clear BK299; clear BK300; clear BK301; clear BK306; clear BK307; clear BK316; clear BK326; clear BK327; clear HB; have HO_327000 := n0_; have HO_327001 := n1_; have BK299 := n2_; have BK300 := n3_; have BK301 := n4_; have BK306 := n5_; have BK307 := n6_; have BK316 := n7_; have BK326 := n8_; have BK327 := n9_; have HB := n10_; clear n0_ n1_ n2_ n3_ n4_ n5_ n6_ n7_ n8_ n9_ n10_; (try clear hb); (try clear hb2); (try clear hk); (try clear hi)) | ((with_reducible refine gate_dst (N := 20) rfl ?_); refine box_event ?hg (N := 20) ?hd (cs := #[.int .i64 0, .int .i64 0]) (t := 34) ?hr ?_; (case hd => rfl); (case hg => rfl); (case hr => first | (go_simp; done) | (go_simp; rfl)); intro gb331 hg w139 hbox hb; have n0_ := Aside0.mk (Kd.R_below HO_327000.out hb); have n1_ := Aside0.mk (Kd.R_below HO_327001.out hb); have n2_ := Aside0.mk (blk_below BK299.out hb); have n3_ := Aside0.mk (blk_below BK300.out hb); have n4_ := Aside0.mk (blk_below BK301.out hb); have n5_ := Aside0.mk (blk_below BK306.out hb); have n6_ := Aside0.mk (blk_below BK307.out hb); have n7_ := Aside0.mk (blk_below BK316.out hb); have n8_ := Aside0.mk (blk_below BK326.out hb); have n9_ := Aside0.mk (blk_below BK327.out hb); have n10_ := Aside0.mk (below_step (by repeat (first | (with_reducible first | exact HB.out | apply below_alloc | apply pw_below_drewN | apply below_drew1 | refine below_set ?_ GE299.out | refine below_set ?_ GE300.out | refine below_set ?_ GE301.out | refine below_set ?_ GE306.out | refine below_set ?_ GE307.out | refine below_set ?_ GE316.out | refine below_set ?_ GE326.out | refine below_set ?_ GE327.out) | exact HB.out)) hb); have n11_ := Aside0.mk (hbox); have n12_ := Aside0.mk ((by rw [hg]; exact (below_size (by repeat (first | (with_reducible first | exact HB.out | apply below_alloc | apply pw_below_drewN | apply below_drew1 | refine below_set ?_ GE299.out | refine below_set ?_ GE300.out | refine below_set ?_ GE301.out | refine below_set ?_ GE306.out | refine below_set ?_ GE307.out | refine below_set ?_ GE316.out | refine below_set ?_ GE326.out | refine below_set ?_ GE327.out) | exact HB.out))) : w.heap.size ≤ gb331)); have n13_ := Aside0.mk ((by rw [hg]; exact (below_size (by repeat (first | (with_reducible first | exact HB.out | apply below_alloc | apply pw_below_drewN | apply below_drew1 | refine below_set ?_ GE299.out | refine below_set ?_ GE300.out | refine below_set ?_ GE301.out | refine below_set ?_ GE306.out | refine below_set ?_ GE307.out | refine below_set ?_ GE316.out | refine below_set ?_ GE326.out | refine below_set ?_ GE327.out) | exact HB.out))) : w.heap.size ≤ gb331)); have n14_ := Aside0.mk ((by rw [hg]; exact Nat.ne_of_lt (blk_lt BK299.out) : gb299 ≠ gb331)); have n15_ := Aside0.mk ((by rw [hg]; exact Nat.ne_of_gt (blk_lt BK299.out) : gb331 ≠ gb299)); have n16_ := Aside0.mk ((by rw [hg]; exact Nat.ne_of_lt (blk_lt BK300.out) : gb300 ≠ gb331)); have n17_ := Aside0.mk ((by rw [hg]; exact Nat.ne_of_gt (blk_lt BK300.out) : gb331 ≠ gb300)); have n18_ := Aside0.mk ((by rw [hg]; exact Nat.ne_of_lt (blk_lt BK301.out) : gb301 ≠ gb331)); have n19_ := Aside0.mk ((by rw [hg]; exact Nat.ne_of_gt (blk_lt BK301.out) : gb331 ≠ gb301)); have n20_ := Aside0.mk ((by rw [hg]; exact Nat.ne_of_lt (blk_lt BK306.out) : gb306 ≠ gb331)); have n21_ := Aside0.mk ((by rw [hg]; exact Nat.ne_of_gt (blk_lt BK306.out) : gb331 ≠ gb306)); have n22_ := Aside0.mk ((by rw [hg]; exact Nat.ne_of_lt (blk_lt BK307.out) : gb307 ≠ gb331)); have n23_ := Aside0.mk ((by rw [hg]; exact Nat.ne_of_gt (blk_lt BK307.out) : gb331 ≠ gb307)); have n24_ := Aside0.mk ((by rw [hg]; exact Nat.ne_of_lt (blk_lt BK316.out) : gb316 ≠ gb331)); have n25_ := Aside0.mk ((by rw [hg]; exact Nat.ne_of_gt (blk_lt BK316.out) : gb331 ≠ gb316)); have n26_ := Aside0.mk ((by rw [hg]; exact Nat.ne_of_lt (blk_lt BK326.out) : gb326 ≠ gb331)); have n27_ := Aside0.mk ((by rw [hg]; exact Nat.ne_of_gt (blk_lt BK326.out) : gb331 ≠ gb326)); have n28_ := Aside0.mk ((by rw [hg]; exact Nat.ne_of_lt (blk_lt BK327.out) : gb327 ≠ gb331)); have n29_ := Aside0.mk ((by rw [hg]; exact Nat.ne_of_gt (blk_lt BK327.out) : gb331 ≠ gb327)); clear HO_327000; clear HO_327001; clear BK299; clear BK300; clear BK301; clear BK306; clear BK307; clear BK316; clear BK326; clear BK327; clear HB; have HO_327000 := n0_; have HO_327001 := n1_; have BK299 := n2_; have BK300 := n3_; have BK301 := n4_; have BK306 := n5_; have BK307 := n6_; have BK316 := n7_; have BK326 := n8_; have BK327 := n9_; have HB := n10_; have BK331 := n11_; have GW331 := n12_; have GE331 := n13_; have NB299_331 := n14_; have NB331_299 := n15_; have NB300_331 := n16_; have NB331_300 := n17_; have NB301_331 := n18_; have NB331_301 := n19_; have NB306_331 := n20_; have NB331_306 := n21_; have NB307_331 := n22_; have NB331_307 := n23_; have NB316_331 := n24_; have NB331_316 := n25_; have NB326_331 := n26_; have NB331_326 := n27_; have NB327_331 := n28_; have NB331_327 := n29_; clear n0_ n1_ n2_ n3_ n4_ n5_ n6_ n7_ n8_ n9_ n10_ n11_ n12_ n13_ n14_ n15_ n16_ n17_ n18_ n19_ n20_ n21_ n22_ n23_ n24_ n25_ n26_ n27_ n28_ n29_; clear hb hbox hg; have hnb140 := NB331_299.out; have hnc140 := NB299_331.out; have hnb141 := NB331_300.out; have hnc141 := NB300_331.out; have hnb142 := NB331_301.out; have hnc142 := NB301_331.out; have hnb143 := NB331_306.out; have hnc143 := NB306_331.out; have hnb144 := NB331_307.out; have hnc144 := NB307_331.out; have hnb145 := NB331_316.out; have hnc145 := NB316_331.out; have hnb146 := NB331_326.out; have hnc146 := NB326_331.out; have hnb147 := NB331_327.out; have hnc147 := NB327_331.out; have hcz148_0 : w139.cell? ⟨gb331, 0, none⟩ = some (.int .i64 0) := (blk_cell BK331.out 0).trans rfl; have hcz148_1 : w139.cell? ⟨gb331, 1, none⟩ = some (.int .i64 0) := (blk_cell BK331.out 1).trans rfl; have hfz148_0 := blk_frozen BK331.out 0; have hfz148_1 := blk_frozen BK331.out 1; have hcz149_0 : w139.cell? ⟨gb299, 0, none⟩ = some (.slice A0_0 l0_0.length c0_0) := (blk_cell BK299.out 0).trans rfl; have hcz149_1 : w139.cell? ⟨gb299, 1, none⟩ = some (.slice A0_1 l0_1.length c0_1) := (blk_cell BK299.out 1).trans rfl; have hfz149_0 := blk_frozen BK299.out 0; have hfz149_1 := blk_frozen BK299.out 1; have hcz150_0 : w139.cell? ⟨gb301, 0, none⟩ = some (.int .i64 a2_0) := (blk_cell BK301.out 0).trans rfl; have hcz150_1 : w139.cell? ⟨gb301, 1, none⟩ = some (.int .i64 a2_1) := (blk_cell BK301.out 1).trans rfl; have hcz150_2 : w139.cell? ⟨gb301, 2, none⟩ = some (.bool a2_2) := (blk_cell BK301.out 2).trans rfl; have hcz150_3 : w139.cell? ⟨gb301, 3, none⟩ = some (.int .i64 a2_3) := (blk_cell BK301.out 3).trans rfl; have hfz150_0 := blk_frozen BK301.out 0; have hfz150_1 := blk_frozen BK301.out 1; have hfz150_2 := blk_frozen BK301.out 2; have hfz150_3 := blk_frozen BK301.out 3) | ((with_reducible refine gate_callee (f := 15) rfl ?_); refine goesL_ (some 124) rfl rfl Try.func15 (by kernel_rfl) rfl #[.agg #[.slice A0_0 l0_0.length c0_0, .slice A0_1 l0_1.length c0_1], .int .i64 a2_0, .int .i64 a2_1, .int .i64 2] rfl (by (try simp only [List.map_toArray, List.map_cons, List.map_nil]); first | done | rfl | (simp only [List.length_drop, List.length_take]; rfl)) ?_; (with_reducible refine (mem_Access.calls _ _ l0_0 _ _ l0_1 a2_0 a2_1 2 t332 t333 t334 _ ?side1 ?side2 ?side3 ?side4 A121.out).mono ?_); (case side1 => exact Kd.C_below HR0_0.out (by repeat (first | (with_reducible first | exact HB.out | apply below_alloc | apply pw_below_drewN | apply below_drew1 | refine below_set ?_ GE299.out | refine below_set ?_ GE300.out | refine below_set ?_ GE301.out | refine below_set ?_ GE306.out | refine below_set ?_ GE307.out | refine below_set ?_ GE316.out | refine below_set ?_ GE326.out | refine below_set ?_ GE327.out | refine below_set ?_ GE331.out) | exact HB.out))); (case side2 => exact HC0_0.out); (case side3 => exact Kd.C_below HR0_1.out (by repeat (first | (with_reducible first | exact HB.out | apply below_alloc | apply pw_below_drewN | apply below_drew1 | refine below_set ?_ GE299.out | refine below_set ?_ GE300.out | refine below_set ?_ GE301.out | refine below_set ?_ GE306.out | refine below_set ?_ GE307.out | refine below_set ?_ GE316.out | refine below_set ?_ GE326.out | refine below_set ?_ GE327.out | refine below_set ?_ GE331.out) | exact HB.out))); (case side4 => exact HC0_1.out); rintro e w151 ⟨rfl, hb⟩; refine ⟨_, rfl, ?_⟩; have n0_ := Aside0.mk (Kd.R_below (by (with_reducible repeat (first | apply Kd.R_alloc | apply Kd.R_drewN | apply Kd.R_drew)); exact (Kd.R_mono (Kd.R_far (p := ⟨gb331, 1, none⟩) (Kd.R_far (p := ⟨gb331, 0, none⟩) (Kd.R_types HO_327000.out BK331.out (by decide)) (fun _ hk => hk.2) (.int .i64 t328)) (fun _ hk => hk.2) (.int .i64 t329)) (fun _ h_ => h_.1))) hb); have n1_ := Aside0.mk (Kd.R_below (by (with_reducible repeat (first | apply Kd.R_alloc | apply Kd.R_drewN | apply Kd.R_drew)); exact (Kd.R_mono (Kd.R_far (p := ⟨gb331, 1, none⟩) (Kd.R_far (p := ⟨gb331, 0, none⟩) (Kd.R_types HO_327001.out BK331.out (by decide)) (fun _ hk => hk.2) (.int .i64 t328)) (fun _ hk => hk.2) (.int .i64 t329)) (fun _ h_ => h_.1))) hb); have n2_ := Aside0.mk (blk_below (g := gb299) (o := .cells #[.slice A0_0 l0_0.length c0_0, .slice A0_1 l0_1.length c0_1] 25 (0, 0)) (by refine blk_far ?_ NB299_331.out _; refine blk_far ?_ NB299_331.out _; exact BK299.out) hb); have n3_ := Aside0.mk (blk_below (g := gb300) (o := .cells #[.int .i64 a1_0, .int .i64 a1_1, .int .i64 a1_2] 27 (0, 0)) (by refine blk_far ?_ NB300_331.out _; refine blk_far ?_ NB300_331.out _; exact BK300.out) hb); have n4_ := Aside0.mk (blk_below (g := gb301) (o := .cells #[.int .i64 a2_0, .int .i64 a2_1, .bool a2_2, .int .i64 a2_3] 31 (0, 0)) (by refine blk_far ?_ NB301_331.out _; refine blk_far ?_ NB301_331.out _; exact BK301.out) hb); have n5_ := Aside0.mk (blk_below (g := gb306) (o := .cells #[.int .i64 t303, .int .i64 t304] 34 (0, 0)) (by refine blk_far ?_ NB306_331.out _; refine blk_far ?_ NB306_331.out _; exact BK306.out) hb); have n6_ := Aside0.mk (blk_below (g := gb307) (o := .cells #[.int .i64 x308000_2, .int .i64 x308001_2] 34 (0, 0)) (by refine blk_far ?_ NB307_331.out _; refine blk_far ?_ NB307_331.out _; exact BK307.out) hb); have n7_ := Aside0.mk (blk_below (g := gb316) (o := .cells #[.int .i64 t313, .int .i64 t314] 34 (0, 0)) (by refine blk_far ?_ NB316_331.out _; refine blk_far ?_ NB316_331.out _; exact BK316.out) hb); have n8_ := Aside0.mk (blk_below (g := gb326) (o := .cells #[.slice Ao100 t317.length co100, .slice Ao109 t320.length co109] 25 (0, 0)) (by refine blk_far ?_ NB326_331.out _; refine blk_far ?_ NB326_331.out _; exact BK326.out) hb); have n9_ := Aside0.mk (blk_below (g := gb327) (o := .cells #[.int .i64 t323, .int .i64 t324] 34 (0, 0)) (by refine blk_far ?_ NB327_331.out _; refine blk_far ?_ NB327_331.out _; exact BK327.out) hb); have n10_ := Aside0.mk (blk_below (g := gb331) (o := .cells #[.int .i64 t328, .int .i64 t329] 34 (0, 0)) (by refine blk_put (cs := #[.int .i64 t328, .int .i64 0]) ?_ 1 _ rfl; refine blk_put (cs := #[.int .i64 0, .int .i64 0]) ?_ 0 _ rfl; exact BK331.out) hb); have n11_ := Aside0.mk (below_step (by repeat (first | (with_reducible first | exact HB.out | apply below_alloc | apply pw_below_drewN | apply below_drew1 | refine below_set ?_ GE299.out | refine below_set ?_ GE300.out | refine below_set ?_ GE301.out | refine below_set ?_ GE306.out | refine below_set ?_ GE307.out | refine below_set ?_ GE316.out | refine below_set ?_ GE326.out | refine below_set ?_ GE327.out | refine below_set ?_ GE331.out) | exact HB.out)) hb); clear HO_327000; clear HO_327001; clear BK299; clear BK300; clear BK301; clear BK306; clear BK307; clear BK316; clear BK326; clear BK327; clear BK331; clear HB; have HO_327000 := n0_; have HO_327001 := n1_; have BK299 := n2_; have BK300 := n3_; have BK301 := n4_; have BK306 := n5_; have BK307 := n6_; have BK316 := n7_; have BK326 := n8_; have BK327 := n9_; have BK331 := n10_; have HB := n11_; clear n0_ n1_ n2_ n3_ n4_ n5_ n6_ n7_ n8_ n9_ n10_ n11_; (try clear hb); (try clear hb2); (try clear hk); (try clear hi)) | ((with_reducible refine gate_dst (N := 22) rfl ?_); refine box_event ?hg (N := 22) ?hd (cs := #[.int .i64 0, .int .i64 0]) (t := 34) ?hr ?_; (case hd => rfl); (case hg => rfl); (case hr => first | (go_simp; done) | (go_simp; rfl)); intro gb335 hg w152 hbox hb; have n0_ := Aside0.mk (Kd.R_below HO_327000.out hb); have n1_ := Aside0.mk (Kd.R_below HO_327001.out hb); have n2_ := Aside0.mk (blk_below BK299.out hb); have n3_ := Aside0.mk (blk_below BK300.out hb); have n4_ := Aside0.mk (blk_below BK301.out hb); have n5_ := Aside0.mk (blk_below BK306.out hb); have n6_ := Aside0.mk (blk_below BK307.out hb); have n7_ := Aside0.mk (blk_below BK316.out hb); have n8_ := Aside0.mk (blk_below BK326.out hb); have n9_ := Aside0.mk (blk_below BK327.out hb); have n10_ := Aside0.mk (blk_below BK331.out hb); have n11_ := Aside0.mk (below_step (by repeat (first | (with_reducible first | exact HB.out | apply below_alloc | apply pw_below_drewN | apply below_drew1 | refine below_set ?_ GE299.out | refine below_set ?_ GE300.out | refine below_set ?_ GE301.out | refine below_set ?_ GE306.out | refine below_set ?_ GE307.out | refine below_set ?_ GE316.out | refine below_set ?_ GE326.out | refine below_set ?_ GE327.out | refine below_set ?_ GE331.out) | exact HB.out)) hb); have n12_ := Aside0.mk (hbox); have n13_ := Aside0.mk ((by rw [hg]; exact (below_size (by repeat (first | (with_reducible first | exact HB.out | apply below_alloc | apply pw_below_drewN | apply below_drew1 | refine below_set ?_ GE299.out | refine below_set ?_ GE300.out | refine below_set ?_ GE301.out | refine below_set ?_ GE306.out | refine below_set ?_ GE307.out | refine below_set ?_ GE316.out | refine below_set ?_ GE326.out | refine below_set ?_ GE327.out | refine below_set ?_ GE331.out) | exact HB.out))) : w.heap.size ≤ gb335)); have n14_ := Aside0.mk ((by rw [hg]; exact (below_size (by repeat (first | (with_reducible first | exact HB.out | apply below_alloc | apply pw_below_drewN | apply below_drew1 | refine below_set ?_ GE299.out | refine below_set ?_ GE300.out | refine below_set ?_ GE301.out | refine below_set ?_ GE306.out | refine below_set ?_ GE307.out | refine below_set ?_ GE316.out | refine below_set ?_ GE326.out | refine below_set ?_ GE327.out | refine below_set ?_ GE331.out) | exact HB.out))) : w.heap.size ≤ gb335)); have n15_ := Aside0.mk ((by rw [hg]; exact Nat.ne_of_lt (blk_lt BK299.out) : gb299 ≠ gb335)); have n16_ := Aside0.mk ((by rw [hg]; exact Nat.ne_of_gt (blk_lt BK299.out) : gb335 ≠ gb299)); have n17_ := Aside0.mk ((by rw [hg]; exact Nat.ne_of_lt (blk_lt BK300.out) : gb300 ≠ gb335)); have n18_ := Aside0.mk ((by rw [hg]; exact Nat.ne_of_gt (blk_lt BK300.out) : gb335 ≠ gb300)); have n19_ := Aside0.mk ((by rw [hg]; exact Nat.ne_of_lt (blk_lt BK301.out) : gb301 ≠ gb335)); have n20_ := Aside0.mk ((by rw [hg]; exact Nat.ne_of_gt (blk_lt BK301.out) : gb335 ≠ gb301)); have n21_ := Aside0.mk ((by rw [hg]; exact Nat.ne_of_lt (blk_lt BK306.out) : gb306 ≠ gb335)); have n22_ := Aside0.mk ((by rw [hg]; exact Nat.ne_of_gt (blk_lt BK306.out) : gb335 ≠ gb306)); have n23_ := Aside0.mk ((by rw [hg]; exact Nat.ne_of_lt (blk_lt BK307.out) : gb307 ≠ gb335)); have n24_ := Aside0.mk ((by rw [hg]; exact Nat.ne_of_gt (blk_lt BK307.out) : gb335 ≠ gb307)); have n25_ := Aside0.mk ((by rw [hg]; exact Nat.ne_of_lt (blk_lt BK316.out) : gb316 ≠ gb335)); have n26_ := Aside0.mk ((by rw [hg]; exact Nat.ne_of_gt (blk_lt BK316.out) : gb335 ≠ gb316)); have n27_ := Aside0.mk ((by rw [hg]; exact Nat.ne_of_lt (blk_lt BK326.out) : gb326 ≠ gb335)); have n28_ := Aside0.mk ((by rw [hg]; exact Nat.ne_of_gt (blk_lt BK326.out) : gb335 ≠ gb326)); have n29_ := Aside0.mk ((by rw [hg]; exact Nat.ne_of_lt (blk_lt BK327.out) : gb327 ≠ gb335)); have n30_ := Aside0.mk ((by rw [hg]; exact Nat.ne_of_gt (blk_lt BK327.out) : gb335 ≠ gb327)); have n31_ := Aside0.mk ((by rw [hg]; exact Nat.ne_of_lt (blk_lt BK331.out) : gb331 ≠ gb335)); have n32_ := Aside0.mk ((by rw [hg]; exact Nat.ne_of_gt (blk_lt BK331.out) : gb335 ≠ gb331)); clear HO_327000; clear HO_327001; clear BK299; clear BK300; clear BK301; clear BK306; clear BK307; clear BK316; clear BK326; clear BK327; clear BK331; clear HB; have HO_327000 := n0_; have HO_327001 := n1_; have BK299 := n2_; have BK300 := n3_; have BK301 := n4_; have BK306 := n5_; have BK307 := n6_; have BK316 := n7_; have BK326 := n8_; have BK327 := n9_; have BK331 := n10_; have HB := n11_; have BK335 := n12_; have GW335 := n13_; have GE335 := n14_; have NB299_335 := n15_; have NB335_299 := n16_; have NB300_335 := n17_; have NB335_300 := n18_; have NB301_335 := n19_; have NB335_301 := n20_; have NB306_335 := n21_; have NB335_306 := n22_; have NB307_335 := n23_; have NB335_307 := n24_; have NB316_335 := n25_; have NB335_316 := n26_; have NB326_335 := n27_; have NB335_326 := n28_; have NB327_335 := n29_; have NB335_327 := n30_; have NB331_335 := n31_; have NB335_331 := n32_; clear n0_ n1_ n2_ n3_ n4_ n5_ n6_ n7_ n8_ n9_ n10_ n11_ n12_ n13_ n14_ n15_ n16_ n17_ n18_ n19_ n20_ n21_ n22_ n23_ n24_ n25_ n26_ n27_ n28_ n29_ n30_ n31_ n32_; clear hb hbox hg; have hnb153 := NB335_299.out; have hnc153 := NB299_335.out; have hnb154 := NB335_300.out; have hnc154 := NB300_335.out; have hnb155 := NB335_301.out; have hnc155 := NB301_335.out; have hnb156 := NB335_306.out; have hnc156 := NB306_335.out; have hnb157 := NB335_307.out; have hnc157 := NB307_335.out; have hnb158 := NB335_316.out; have hnc158 := NB316_335.out; have hnb159 := NB335_326.out; have hnc159 := NB326_335.out; have hnb160 := NB335_327.out; have hnc160 := NB327_335.out; have hnb161 := NB335_331.out; have hnc161 := NB331_335.out; have hcz162_0 : w152.cell? ⟨gb335, 0, none⟩ = some (.int .i64 0) := (blk_cell BK335.out 0).trans rfl; have hcz162_1 : w152.cell? ⟨gb335, 1, none⟩ = some (.int .i64 0) := (blk_cell BK335.out 1).trans rfl; have hfz162_0 := blk_frozen BK335.out 0; have hfz162_1 := blk_frozen BK335.out 1; have hnb163 := NB316_300.out; have hnc163 := NB300_316.out; have hnb164 := NB316_306.out; have hnc164 := NB306_316.out; have hnb165 := NB316_307.out; have hnc165 := NB307_316.out; have hnb166 := NB316_326.out; have hnc166 := NB326_316.out; have hnb167 := NB316_327.out; have hnc167 := NB327_316.out; have hcz168_0 : w152.cell? ⟨gb316, 0, none⟩ = some (.int .i64 t313) := (blk_cell BK316.out 0).trans rfl; have hcz168_1 : w152.cell? ⟨gb316, 1, none⟩ = some (.int .i64 t314) := (blk_cell BK316.out 1).trans rfl; have hfz168_0 := blk_frozen BK316.out 0; have hfz168_1 := blk_frozen BK316.out 1; have hcz169_0 : w152.cell? ⟨gb331, 0, none⟩ = some (.int .i64 t328) := (blk_cell BK331.out 0).trans rfl; have hcz169_1 : w152.cell? ⟨gb331, 1, none⟩ = some (.int .i64 t329) := (blk_cell BK331.out 1).trans rfl; have hfz169_0 := blk_frozen BK331.out 0; have hfz169_1 := blk_frozen BK331.out 1; have hnb170 := NB327_300.out; have hnc170 := NB300_327.out; have hnb171 := NB327_306.out; have hnc171 := NB306_327.out; have hnb172 := NB327_307.out; have hnc172 := NB307_327.out; have hnb173 := NB327_326.out; have hnc173 := NB326_327.out; have hcz174_0 : w152.cell? ⟨gb327, 0, none⟩ = some (.int .i64 t323) := (blk_cell BK327.out 0).trans rfl; have hcz174_1 : w152.cell? ⟨gb327, 1, none⟩ = some (.int .i64 t324) := (blk_cell BK327.out 1).trans rfl; have hfz174_0 := blk_frozen BK327.out 0; have hfz174_1 := blk_frozen BK327.out 1))
                            go_ret
                            exact ⟨by first | rfl | (simp [errW_none, errW_some] <;> rfl) | (simp [*, errW_none, errW_some] <;> rfl), by repeat (first | (with_reducible first | exact HB.out | apply below_alloc | apply pw_below_drewN | apply below_drew1 | refine below_set ?_ GE299.out | refine below_set ?_ GE300.out | refine below_set ?_ GE301.out | refine below_set ?_ GE306.out | refine below_set ?_ GE307.out | refine below_set ?_ GE316.out | refine below_set ?_ GE326.out | refine below_set ?_ GE327.out | refine below_set ?_ GE331.out | refine below_set ?_ GE335.out) | exact HB.out)⟩
                          · rw [if_neg c122] at H
                            exact absurd H (by simp)

-- NOT PRINTED: function 4 (taplinelaw03_MemCode)

end Go.Proofs.Ytmpdimigpaogkaa.M
