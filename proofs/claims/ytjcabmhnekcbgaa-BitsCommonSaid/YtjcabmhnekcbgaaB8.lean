/- Texts of this seat, merged in build order. No statement of its own. -/
import Derived.Test.YtjcabmhnekcbgaaB7
set_option linter.unusedVariables false
set_option linter.unusedSimpArgs false
section
namespace Go.Proofs.Ytjcabmhnekcbgaa
open Go.Ab Go.RowKit Go.Proofs.Ytjcabmhnekcbgaa.G
def cmpV (a b : Int) : Int := if a < b then -1 else if b < a then 1 else 0
theorem s76 (a b : Int) : d76 a b = some (cmpV a b) := by
  simp only [d76, d87, Option.bind_some, c_neq, c_lss, c_gtr, decide_eq_true_eq, ne_eq, not_true_eq_false, if_false, cmpV]
  split
  · rfl
  · split <;> rfl
theorem s77 (a b : Int) : d77 a b = some (cmpV a b) := by
  simp only [d77, d88, Option.bind_some, c_neq, c_lss, c_gtr, decide_eq_true_eq, ne_eq, not_true_eq_false, if_false, cmpV]
  split
  · rfl
  · split <;> rfl
theorem numT8 (v : Int) : numT 8 false v = if v < 0 then v + 18446744073709551616 else v := by simp [numT]
theorem num_u64 {v : Int} (hv : I64 v) : wrapK .u64 v = numT 8 false v := by
  unfold I64 at hv; rw [wk_u64, numT8]; split <;> omega
theorem numT_s {z : Int} {b : Bool} (h : ¬ (z = 8 ∧ b = false)) (v : Int) : numT z b v = v := by unfold numT; rw [if_neg (fun q => h q.2)]
theorem s38 (z : Int) (b : Bool) {v u : Int} (hv : I64 v) (hu : I64 u) : d38 z b v u = some (cmpV (numT z b v) (numT z b u)) := by
  unfold d38
  rw [s44, Option.bind_some]
  by_cases h : z = 8 ∧ b = false
  · rw [if_pos (by simp only [h]; rfl), s76, num_u64 hv, num_u64 hu, h.1, h.2]; rfl
  · rw [if_neg (by simp only [h]; decide), s77, numT_s h, numT_s h]; rfl
def relH (o k : Int) : Bool := if o = 11 then decide (k < 0) else if o = 12 then decide (k ≤ 0) else if o = 13 then decide (0 < k) else if o = 14 then decide (0 ≤ k) else if o = 15 then decide (k = 0) else decide (k ≠ 0)
def Rel (o : Int) : Prop := o = 11 ∨ o = 12 ∨ o = 13 ∨ o = 14 ∨ o = 15 ∨ o = 16
def b01 (c : Bool) : Int := if c = true then 1 else 0
theorem s37 (c : Bool) : d37 c = some (b01 c) := by unfold d37 b01; split <;> rfl
theorem s14r {o : Int} (ho : Rel o) {z : Int} (b : Bool) {y : Int} (c : Bool) {v u : Int} (hz : OkZ z) (hy : OkZ y) (hv : I64 v) (hu : I64 u) :
    d14 o z b v y c u = some (4, true, b01 (relH o (cmpV (numT (uz z y) (ub z b y c) (wT (uz z y) (ub z b y c) (wT z b v))) (numT (uz z y) (ub z b y c) (wT (uz z y) (ub z b y c) (wT y c u))))), 0) := by
  have hq := uz_ok hz hy
  have e1 := s32 b hz hv
  have e2 := s32 c hy hu
  have e3 := s32 (ub z b y c) hq (wT_i64 b (z := z) v)
  have e4 := s32 (ub z b y c) hq (wT_i64 c (z := y) u)
  have e5 := s38 (uz z y) (ub z b y c) (wT_i64 (ub z b y c) (z := uz z y) (wT z b v)) (wT_i64 (ub z b y c) (z := uz z y) (wT y c u))
  have e6 : d31 z b y c = some 0 := by rw [s31, if_pos ⟨hz, hy⟩]
  unfold d14
  simp only [e6, Option.bind_some, c_neq, e1, e2, s33, d34, d35, d36, c_eql, e3, e4, e5, s37, d70, d71, d72, d73, d74, d75, c_lss, c_leq, c_gtr, c_geq]
  rcases ho with rfl | rfl | rfl | rfl | rfl | rfl <;> simp [relH]
/-- Quotient and remainder of two values of a type. -/
def divQ (z : Int) (b : Bool) (x w : Int) : Int := if z = 8 ∧ b = false then wrapK .i64 (numT z b x / numT z b w) else if w = -1 then wrapK .i64 (0 - x) else wrapK .i64 (x.tdiv w)
def divR (z : Int) (b : Bool) (x w : Int) : Int := if z = 8 ∧ b = false then wrapK .i64 (numT z b x % numT z b w) else if w = -1 then 0 else x.tmod w
theorem num_nn {v : Int} (hv : I64 v) : 0 ≤ numT 8 false v ∧ numT 8 false v < 18446744073709551616 := by
  unfold I64 at hv; rw [numT8]; split <;> omega
theorem num_ne {v : Int} (hv : I64 v) (h : v ≠ 0) : numT 8 false v ≠ 0 := by
  unfold I64 at hv; rw [numT8]; split <;> omega
theorem s68 (z : Int) (b : Bool) {x w : Int} (hx : I64 x) (hw : I64 w) (h0 : w ≠ 0) : d68 z b x w = some (divQ z b x w, divR z b x w) := by
  unfold d68 divQ divR
  rw [s44, Option.bind_some]
  by_cases h : z = 8 ∧ b = false
  · obtain ⟨rfl, rfl⟩ := h
    have hn := num_ne hw h0
    have hp := num_nn hw
    have hq := num_nn hx
    have e : d86 0 (numT 8 false x) (numT 8 false w) = some (numT 8 false x / numT 8 false w, numT 8 false x % numT 8 false w) := by
      generalize numT 8 false x = p at *
      generalize numT 8 false w = q at *
      unfold d86
      have a1 : arReal .quo .u64 p q = p / q := by
        show wrapK .u64 (p.tdiv q) = _
        rw [wk_u64, Int.tdiv_eq_ediv_of_nonneg hq.1]
        have h1 : 0 ≤ p / q := Int.ediv_nonneg hq.1 hp.1
        have h2 : p / q ≤ p := Int.ediv_le_self q hq.1
        omega
      have a2 : arReal .rem .u64 p q = p % q := Int.tmod_eq_emod_of_nonneg hq.1
      have hle : ¬ q ≤ 0 := by omega
      have hN : Ne0 q := hn
      simp only [c_eql, c_leq, decide_eq_true_eq]
      rw [if_neg hn, if_neg hle, if_pos trivial, if_pos hN, if_pos hN, a1, a2]
    rw [if_pos (by decide), num_u64 hx, num_u64 hw, e]
    rfl
  · rw [if_neg (by simp only [h]; decide), if_neg h, if_neg h]
    simp only [c_eql, decide_eq_true_eq]
    by_cases h1 : w = -1
    · rw [if_pos h1, if_pos h1, if_pos h1]; rfl
    · have hN : Ne0 w := h0
      rw [if_neg h1, if_neg h1, if_neg h1, if_pos hN, if_pos hN]; rfl
theorem divQ_i64 (z : Int) (b : Bool) (x w : Int) : I64 (divQ z b x w) := by unfold divQ; repeat' split
                                                                             all_goals exact wk_in _
theorem divR_i64 (z : Int) (b : Bool) {x w : Int} (hx : I64 x) (hw : I64 w) (h0 : w ≠ 0) : I64 (divR z b x w) := by
  unfold divR
  split
  · exact wk_in _
  · split
    · unfold I64; omega
    · unfold I64 at *
      have h1 : (x.tmod w).natAbs ≤ x.natAbs := by rw [Int.natAbs_tmod]; exact Nat.mod_le _ _
      rcases Int.lt_or_le x 0 with h | h
      · have : x.tmod w ≤ 0 := by
          have := Int.tmod_nonneg w (a := -x) (by omega)
          rw [Int.neg_tmod] at this; omega
        omega
      · have := Int.tmod_nonneg w h
        omega
theorem s14d {o : Int} (ho : o = 4 ∨ o = 5) {z : Int} (b : Bool) {y : Int} (c : Bool) {v u : Int} (hz : OkZ z) (hy : OkZ y) (hv : I64 v) (hu : I64 u) :
    d14 o z b v y c u = some (if wT (uz z y) (ub z b y c) (wT y c u) = 0 then (0, false, 0, 12) else
      (uz z y, ub z b y c, wT (uz z y) (ub z b y c) ((if o = 4 then divQ else divR) (uz z y) (ub z b y c) (wT (uz z y) (ub z b y c) (wT z b v)) (wT (uz z y) (ub z b y c) (wT y c u))), 0)) := by
  have hq := uz_ok hz hy
  have e1 := s32 b hz hv
  have e2 := s32 c hy hu
  have e3 := s32 (ub z b y c) hq (wT_i64 b (z := z) v)
  have e4 := s32 (ub z b y c) hq (wT_i64 c (z := y) u)
  have e6 : d31 z b y c = some 0 := by rw [s31, if_pos ⟨hz, hy⟩]
  have hx := wT_i64 (ub z b y c) (z := uz z y) (wT z b v)
  have hw := wT_i64 (ub z b y c) (z := uz z y) (wT y c u)
  unfold d14
  simp only [e6, Option.bind_some, c_neq, e1, e2, s33, d34, c_eql, e3, e4]
  generalize wT (uz z y) (ub z b y c) (wT z b v) = X at *
  generalize wT (uz z y) (ub z b y c) (wT y c u) = W at *
  by_cases h0 : W = 0
  · rcases ho with rfl | rfl <;> simp [h0]
  · have e7 := s68 (uz z y) (ub z b y c) hx hw h0
    rcases ho with rfl | rfl
    · have e8 := s32 (ub z b y c) hq (divQ_i64 (uz z y) (ub z b y c) X W)
      simp [h0, d67, e7, e8]
    · have e8 := s32 (ub z b y c) hq (divR_i64 (uz z y) (ub z b y c) hx hw h0)
      simp [h0, d69, e7, e8]
end Go.Proofs.Ytjcabmhnekcbgaa
end
section
namespace Go.Proofs.Ytjcabmhnekcbgaa
open Go.Ab Go.RowKit Go.Proofs.Ytjcabmhnekcbgaa.G
/-- The text of a value. -/
def txt (z : Int) (b : Bool) (v : Int) : List Int := textN (numT z b (wT z b v))
theorem s17 {z : Int} (b : Bool) {v : Int} (h : OkZ z) (hv : I64 v) : d17 z b v = some (strOfNums (txt z b v), 0) := by
  unfold d17
  rw [s10, if_pos h]
  simp only [Option.bind_some, c_neq, s32 b h hv]
  rw [s41 z b (wT_i64 b v)]
  rfl
theorem i_lit {v : Int} (h : decide (-9223372036854775808 ≤ v ∧ v < 9223372036854775808) = true) : I64 v := by
  have := of_decide_eq_true h
  exact this
theorem z1 : OkZ 1 := .inl rfl
theorem z4 : OkZ 4 := .inr (.inr (.inl rfl))
theorem z8 : OkZ 8 := .inr (.inr (.inr rfl))
theorem h6 : d28 1 true 200 = some (-56, 0) := by rw [s28 1 true (i_lit rfl), if_pos z1]; rfl
theorem h8 : d15 4 false 8 true = some (8, true, 0) := by rw [s15, if_pos ⟨z4, z8⟩]; rfl
theorem h9 : d14 11 4 true (-1) 4 false 1 = some (4, true, 0, 0) := by rw [s14r (.inl rfl) true false z4 z4 (i_lit rfl) (i_lit rfl)]; rfl
theorem h10 : d14 1 1 false 255 1 false 1 = some (4, true, 256, 0) := by rw [s14 (.inl rfl) false false z1 z1 (i_lit rfl) (i_lit rfl)]; rfl
theorem h11 : d14 4 4 true (-7) 4 true 2 = some (4, true, -3, 0) := by rw [s14d (.inl rfl) true true z4 z4 (i_lit rfl) (i_lit rfl)]; rfl
theorem h12 : d14 10 4 true (-5) 4 true 1 = some (4, true, -3, 0) := by
  have e1 : d32 4 true (-5) = some (-5) := s32 true z4 (i_lit rfl)
  have e2 : d32 4 true 1 = some 1 := s32 true z4 (i_lit rfl)
  have e3 : d31 4 true 4 true = some 0 := by rw [s31, if_pos ⟨z4, z4⟩]
  have e4 : d30 4 true = some (4, true) := s30 4 true
  have e5 : d44 4 true = some false := s44 4 true
  have e6 : arReal .rem .u64 (wrapK .u64 1) (wrapK .u64 (arReal .mul .i64 8 4)) = 1 := by decide
  have e7 : arReal .shr .i64 (-5) 1 = -3 := by decide
  have e8 : Ne0 (wrapK .u64 (arReal .mul .i64 8 4)) := by decide
  have e9 : Ge0 1 := by decide
  unfold d14
  simp only [e1, e2, e3, e4, s33, d34, d35, Option.bind_some, c_neq, c_eql, d39, d40, e5, e6, e7, if_pos e8, if_pos e9]
  decide
theorem decN_step {n q r : Nat} (h : n = 10 * q + r) (hr : r < 10) (hq : 0 < q) : decN n = decN q ++ [48 + (r : Int)] := by
  have e1 : n / 10 = q := by omega
  have e2 : n % 10 = r := by omega
  rw [decN, if_neg (by omega), e1, e2]
theorem decN_1 : decN 1 = [49] := by rw [decN, if_pos (by decide)]; rfl
theorem decN_2 : decN 18 = [49, 56] := by
  rw [decN_step (n := 18) (q := 1) (r := 8) (by decide) (by decide) (by decide), decN_1]; rfl
theorem decN_3 : decN 184 = [49, 56, 52] := by
  rw [decN_step (n := 184) (q := 18) (r := 4) (by decide) (by decide) (by decide), decN_2]; rfl
theorem decN_4 : decN 1844 = [49, 56, 52, 52] := by
  rw [decN_step (n := 1844) (q := 184) (r := 4) (by decide) (by decide) (by decide), decN_3]; rfl
theorem decN_5 : decN 18446 = [49, 56, 52, 52, 54] := by
  rw [decN_step (n := 18446) (q := 1844) (r := 6) (by decide) (by decide) (by decide), decN_4]; rfl
theorem decN_6 : decN 184467 = [49, 56, 52, 52, 54, 55] := by
  rw [decN_step (n := 184467) (q := 18446) (r := 7) (by decide) (by decide) (by decide), decN_5]; rfl
theorem decN_7 : decN 1844674 = [49, 56, 52, 52, 54, 55, 52] := by
  rw [decN_step (n := 1844674) (q := 184467) (r := 4) (by decide) (by decide) (by decide), decN_6]; rfl
theorem decN_8 : decN 18446744 = [49, 56, 52, 52, 54, 55, 52, 52] := by
  rw [decN_step (n := 18446744) (q := 1844674) (r := 4) (by decide) (by decide) (by decide), decN_7]; rfl
theorem decN_9 : decN 184467440 = [49, 56, 52, 52, 54, 55, 52, 52, 48] := by
  rw [decN_step (n := 184467440) (q := 18446744) (r := 0) (by decide) (by decide) (by decide), decN_8]; rfl
theorem decN_10 : decN 1844674407 = [49, 56, 52, 52, 54, 55, 52, 52, 48, 55] := by
  rw [decN_step (n := 1844674407) (q := 184467440) (r := 7) (by decide) (by decide) (by decide), decN_9]; rfl
theorem decN_11 : decN 18446744073 = [49, 56, 52, 52, 54, 55, 52, 52, 48, 55, 51] := by
  rw [decN_step (n := 18446744073) (q := 1844674407) (r := 3) (by decide) (by decide) (by decide), decN_10]; rfl
theorem decN_12 : decN 184467440737 = [49, 56, 52, 52, 54, 55, 52, 52, 48, 55, 51, 55] := by
  rw [decN_step (n := 184467440737) (q := 18446744073) (r := 7) (by decide) (by decide) (by decide), decN_11]; rfl
theorem decN_13 : decN 1844674407370 = [49, 56, 52, 52, 54, 55, 52, 52, 48, 55, 51, 55, 48] := by
  rw [decN_step (n := 1844674407370) (q := 184467440737) (r := 0) (by decide) (by decide) (by decide), decN_12]; rfl
theorem decN_14 : decN 18446744073709 = [49, 56, 52, 52, 54, 55, 52, 52, 48, 55, 51, 55, 48, 57] := by
  rw [decN_step (n := 18446744073709) (q := 1844674407370) (r := 9) (by decide) (by decide) (by decide), decN_13]; rfl
theorem decN_15 : decN 184467440737095 = [49, 56, 52, 52, 54, 55, 52, 52, 48, 55, 51, 55, 48, 57, 53] := by
  rw [decN_step (n := 184467440737095) (q := 18446744073709) (r := 5) (by decide) (by decide) (by decide), decN_14]; rfl
theorem decN_16 : decN 1844674407370955 = [49, 56, 52, 52, 54, 55, 52, 52, 48, 55, 51, 55, 48, 57, 53, 53] := by
  rw [decN_step (n := 1844674407370955) (q := 184467440737095) (r := 5) (by decide) (by decide) (by decide), decN_15]; rfl
theorem decN_17 : decN 18446744073709551 = [49, 56, 52, 52, 54, 55, 52, 52, 48, 55, 51, 55, 48, 57, 53, 53, 49] := by
  rw [decN_step (n := 18446744073709551) (q := 1844674407370955) (r := 1) (by decide) (by decide) (by decide), decN_16]; rfl
theorem decN_18 : decN 184467440737095516 = [49, 56, 52, 52, 54, 55, 52, 52, 48, 55, 51, 55, 48, 57, 53, 53, 49, 54] := by
  rw [decN_step (n := 184467440737095516) (q := 18446744073709551) (r := 6) (by decide) (by decide) (by decide), decN_17]; rfl
theorem decN_19 : decN 1844674407370955161 = [49, 56, 52, 52, 54, 55, 52, 52, 48, 55, 51, 55, 48, 57, 53, 53, 49, 54, 49] := by
  rw [decN_step (n := 1844674407370955161) (q := 184467440737095516) (r := 1) (by decide) (by decide) (by decide), decN_18]; rfl
theorem decN_20 : decN 18446744073709551615 = [49, 56, 52, 52, 54, 55, 52, 52, 48, 55, 51, 55, 48, 57, 53, 53, 49, 54, 49, 53] := by
  rw [decN_step (n := 18446744073709551615) (q := 1844674407370955161) (r := 5) (by decide) (by decide) (by decide), decN_19]; rfl
theorem dec_max : dec 18446744073709551615 = [49, 56, 52, 52, 54, 55, 52, 52, 48, 55, 51, 55, 48, 57, 53, 53, 49, 54, 49, 53] := decN_20
theorem h13 : d17 8 false (-1) = some (ByteArray.mk #[49, 56, 52, 52, 54, 55, 52, 52, 48, 55, 51, 55, 48, 57, 53, 53, 49, 54, 49, 53], 0) := by
  rw [s17 false z8 (i_lit rfl)]
  have e1 : numT 8 false (wT 8 false (-1)) = 18446744073709551615 := by decide
  have e : txt 8 false (-1) = dec 18446744073709551615 := by unfold txt; rw [e1]; unfold textN; rw [if_neg (by decide)]
  rw [e, dec_max]; rfl
theorem h14 : d18 8 false (ByteArray.mk #[48, 120, 102, 102, 102, 102, 102, 102, 102, 102, 102, 102, 102, 102, 102, 102, 102, 102]) = some (-1, 0) := by
  rw [s18 8 false _ z8 (by decide)]
  rfl
theorem h15 : d18 1 true (ByteArray.mk #[49, 50, 56]) = some (0, 13) := by
  rw [s18 1 true _ z1 (by decide)]
  have e1 : nb (ByteArray.mk #[49, 50, 56]) = [49, 50, 56] := rfl
  have e2 : valD [49, 50, 56] = some 128 := rfl
  have e3 : numT 1 true (wT 1 true 128) = -128 := rfl
  have e4 : textN (-128) ≠ [49, 50, 56] := by unfold textN; rw [if_pos (by decide)]; simp
  rw [e1, parseV, if_neg (by decide), e2]
  simp only [e3, if_neg e4]
  rfl
theorem s9 : d9 = some true := by
  unfold d9
  simp only [d27, Option.bind_some, h6, h8, h9, h10, h11, h12, h13, h14, h15, c_neq, c_eql, scmp_eql, andB', beqB]
  decide
end Go.Proofs.Ytjcabmhnekcbgaa
end
section
namespace Go.Proofs.Ytjcabmhnekcbgaa
open Go.Ab Go.RowKit
theorem pz_48 {z : Int} (h : OkZ z) : pz z = 4 ∨ pz z = 8 := by rcases h with rfl | rfl | rfl | rfl <;> decide
theorem pz_id {z : Int} (h : 4 ≤ z) : pz z = z := by unfold pz; rw [if_neg (by omega)]
theorem pb_id {z : Int} (h : 4 ≤ z) (b : Bool) : pb z b = b := by unfold pb; rw [if_neg (by omega)]
theorem uz_4 {z y : Int} (h : OkZ z) (k : OkZ y) : 4 ≤ uz z y := by
  have := pz_4 h; have := pz_4 k
  unfold uz; split <;> omega
theorem uz_comm (z y : Int) : uz z y = uz y z := by unfold uz; repeat' split <;> omega
theorem ub_comm (z : Int) (b : Bool) (y : Int) (c : Bool) : ub z b y c = ub y c z b := by
  unfold ub
  rcases Int.lt_trichotomy (pz z) (pz y) with h | h | h
  · have : ¬ pz y < pz z := by omega
    simp [h, this]
  · have h1 : ¬ pz y < pz z := by omega
    have h2 : ¬ pz z < pz y := by omega
    simp [h1, h2, Bool.and_comm]
  · have : ¬ pz z < pz y := by omega
    simp [h, this]
theorem us_assoc {z : Int} (b : Bool) {y : Int} (c : Bool) {x : Int} (d : Bool) (h : OkZ z) (k : OkZ y) (l : OkZ x) :
    uz (uz z y) x = uz z (uz y x) ∧ ub (uz z y) (ub z b y c) x d = ub z b (uz y x) (ub y c x d) := by
  have e1 := pz_id (uz_4 h k)
  have e2 := pz_id (uz_4 k l)
  have e3 := fun t => pb_id (uz_4 h k) t
  have e4 := fun t => pb_id (uz_4 k l) t
  generalize hq : uz z y = q at *
  generalize hr : uz y x = r at *
  unfold uz at hq hr
  unfold uz ub
  simp only [e1, e2, e3, e4]
  rcases pz_48 h with a | a <;> rcases pz_48 k with a' | a' <;> rcases pz_48 l with a'' | a'' <;> simp [a, a', a''] at hq hr ⊢ <;> subst hq <;> subst hr <;> simp [Bool.and_assoc]
theorem us_self (z : Int) (b : Bool) : uz z z = pz z ∧ ub z b z b = pb z b := by
  unfold uz ub; simp
end Go.Proofs.Ytjcabmhnekcbgaa
end
