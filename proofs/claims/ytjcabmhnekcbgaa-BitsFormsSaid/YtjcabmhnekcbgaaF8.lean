/- Texts of this seat, merged in build order. No statement of its own. -/
import Derived.Test.YtjcabmhnekcbgaaF7
set_option linter.unusedVariables false
set_option linter.unusedSimpArgs false
section
namespace Go.Proofs.Ytjcabmhnekcbgaa
open Go.Ab Go.RowKit Go.Proofs.Ytjcabmhnekcbgaa.G
def uns (z : Int) (b : Bool) : Prop := z = 8 ∧ b = false
instance (z : Int) (b : Bool) : Decidable (uns z b) := by unfold uns; infer_instance
/-- The value that a decimal string comes to. -/
def valD (l : List Int) : Option Int := match numF 10 (absL l) 0 with
  | none => none
  | some n => if absL l = [] then none else some (if sgn l = true then wrapK .i64 (0 - wrapK .i64 n) else wrapK .i64 n)
def valX (z : Int) (b : Bool) (l : List Int) : Option Int := match numF 16 l 0 with
  | none => none
  | some n => if l = [] ∨ 16 < l.length ∨ wT z b (wrapK .i64 n) ≠ wrapK .i64 n ∨ (wrapK .i64 n < 0 ∧ ¬ uns z b) then none else some (wrapK .i64 n)
def parseV (z : Int) (b : Bool) (l : List Int) : Option Int :=
  if l.take 2 = [48, 120] then valX z b (l.drop 2)
  else match valD l with
    | none => none
    | some v => if textN (numT z b (wT z b v)) = l then some v else none
def errV (o : Option Int) : Int × Int := match o with | some v => (v, 0) | none => (0, 13)
theorem s18_x (z : Int) (b : Bool) (s : ByteArray) (h : OkZ z) (hs : s.size ≤ 9223372036854775807) (hx : (nb s).take 2 = [48, 120]) : d18 z b s = some (errV (valX z b ((nb s).drop 2))) := by
  have hp : Bs [48, 120] := by intro x hx; simp at hx; omega
  have e2 : ByteArray.mk #[48, 120] = strOfNums [48, 120] := rfl
  have hb2 : Bs ((nb s).drop 2) := fun x hx => nb_bs s x (List.mem_of_mem_drop hx)
  have e3 : nb (strOfNums ((nb s).drop 2)) = (nb s).drop 2 := nb_strOf hb2
  have hsz : (strOfNums ((nb s).drop 2)).size ≤ 9223372036854775807 := by
    rw [strOfNums_size, List.length_drop, nb_len]; omega
  have e79 : d79 s (strOfNums [48, 120]) = some (strOfNums ((nb s).drop 2), true) := by
    rw [s79 s hp]; exact congrArg some (if_pos hx)
  unfold d18 d42
  rw [e2, e79, s10, if_pos h]
  simp only [Option.bind_some, c_neq]
  rw [s43 _ hsz 16 (.inr rfl), e3]
  unfold valX errV
  generalize (nb s).drop 2 = L at *
  cases hn : numF 16 L 0 with
  | none => simp [notB']
  | some n =>
    have hi := wk_in n
    simp only [Option.bind_some, c_gtr, slen_nb, e3, s32 b h hi, s44, c_neq, c_lss, notB', decide_eq_true_eq]
    generalize wrapK .i64 n = v at *
    by_cases k1 : L = []
    · simp [k1]
    · by_cases k2 : (16 : Int) < (L.length : Int)
      · have : 16 < L.length := by omega
        rw [if_pos k2]
        simp [k1, this]
      · have k2' : ¬ 16 < L.length := by omega
        rw [if_neg k2]
        by_cases k3 : wT z b v = v
        · by_cases k4 : v < 0
          · by_cases k5 : uns z b
            · have k5' : z = 8 ∧ b = false := k5
              obtain ⟨rfl, rfl⟩ := k5'
              simp [k1, k2', k3, k4, k5]
            · have k5' : ¬ (z = 8 ∧ b = false) := k5
              simp [k1, k2', k3, k4, k5, k5']
          · simp [k1, k2', k3, k4]
        · simp [k1, k2', k3]
theorem s18_d (z : Int) (b : Bool) (s : ByteArray) (h : OkZ z) (hs : s.size ≤ 9223372036854775807) (hx : ¬ (nb s).take 2 = [48, 120]) : d18 z b s = some (errV (match valD (nb s) with
    | none => none
    | some v => if textN (numT z b (wT z b v)) = nb s then some v else none)) := by
  have hp : Bs [48, 120] := by intro x hx; simp at hx; omega
  have hq : Bs [45] := by intro x hx; simp at hx; omega
  have e2 : ByteArray.mk #[48, 120] = strOfNums [48, 120] := rfl
  have e1 : ByteArray.mk #[45] = strOfNums [45] := rfl
  have hb2 : Bs ((nb s).drop 1) := fun x hx => nb_bs s x (List.mem_of_mem_drop hx)
  have ha : nb (if (nb s).take 1 = [45] then strOfNums ((nb s).drop 1) else s) = absL (nb s) := by
    unfold absL sgn
    by_cases k : (nb s).take 1 = [45]
    · simp only [k, if_true, decide_true]; exact nb_strOf hb2
    · simp [k]
  have hsz : (if (nb s).take 1 = [45] then strOfNums ((nb s).drop 1) else s).size ≤ 9223372036854775807 := by
    split
    · rw [strOfNums_size, List.length_drop, nb_len]; omega
    · exact hs
  have e79 : d79 s (strOfNums [48, 120]) = some (s, false) := by
    rw [s79 s hp]; exact congrArg some (if_neg hx)
  have e83 : d83 s (strOfNums [45]) = some (if (nb s).take 1 = [45] then strOfNums ((nb s).drop 1) else s) := s83 s hq
  have e84 : d84 s (strOfNums [45]) = some (decide ((nb s).take 1 = [45])) := s84 s hq
  unfold d18 d42 d45 d46
  rw [e2, e1, e79, s10, if_pos h, e83, e84]
  simp only [Option.bind_some, c_neq]
  rw [s43 _ hsz 10 (.inl rfl), ha]
  unfold valD errV
  cases hn : numF 10 (absL (nb s)) 0 with
  | none => by_cases k : (nb s).take 1 = [45] <;> simp [notB', k]
  | some n =>
    have hi := wk_in n
    by_cases k1 : absL (nb s) = []
    · by_cases k : (nb s).take 1 = [45] <;> simp [notB', k, k1]
    · have hq2 : ∀ v : Int, I64 v → ((d32 z b v).bind fun x37 => (d41 z b x37).bind fun x38 => if strCmp .neq x38 s = true then some ((0 : Int), (13 : Int)) else some (v, 0)) = some (match (if textN (numT z b (wT z b v)) = nb s then some v else none : Option Int) with | some v => (v, 0) | none => (0, 13)) := by
        intro v hv
        rw [s32 b h hv, Option.bind_some, s41 z b (wT_i64 b v), Option.bind_some, scmp_neq]
        have : strOfNums (textN (numT z b (wT z b v))) = s ↔ textN (numT z b (wT z b v)) = nb s :=
          ⟨fun e => by rw [← e, nb_strOf (textN_bs _)], fun e => by rw [e, strOf_nb]⟩
        by_cases k : textN (numT z b (wT z b v)) = nb s
        · have k2 := this.2 k
          rw [if_pos k, if_neg (by rw [k2]; simp)]
        · have k2 : strOfNums (textN (numT z b (wT z b v))) ≠ s := fun e => k (this.1 e)
          rw [if_neg k, if_pos (decide_eq_true k2)]
      have hk1 : decide (absL (nb s) ≠ []) = true := by simp [k1]
      simp only [Option.bind_some, hk1, notB', un_negi, sgn, decide_eq_true_eq, if_neg k1]
      by_cases k : (nb s).take 1 = [45]
      · simp only [k, if_true, decide_true, Option.bind_some]
        exact hq2 _ (wk_in _)
      · simp only [k, if_false, decide_false, Option.bind_some]
        exact hq2 _ (wk_in _)
theorem s18 (z : Int) (b : Bool) (s : ByteArray) (h : OkZ z) (hs : s.size ≤ 9223372036854775807) : d18 z b s = some (errV (parseV z b (nb s))) := by
  unfold parseV
  by_cases hx : (nb s).take 2 = [48, 120]
  · rw [s18_x z b s h hs hx, if_pos hx]
  · rw [s18_d z b s h hs hx, if_neg hx]
theorem s18_no (z : Int) (b : Bool) (s : ByteArray) (h : ¬ OkZ z) : d18 z b s = some (0, 10) := by
  unfold d18; rw [s10, if_neg h]; rfl
end Go.Proofs.Ytjcabmhnekcbgaa
end
section
namespace Go.Proofs.Ytjcabmhnekcbgaa
open Go.Ab Go.RowKit Go.Proofs.Ytjcabmhnekcbgaa.G
def cmpV (a b : Int) : Int := if a < b then -1 else if b < a then 1 else 0
theorem s76 (a b : Int) : d76 a b = some (cmpV a b) := by
  simp only [d76, d87, Option.bind_some, c_neq, c_lss, c_gtr, decide_eq_true_eq, ne_eq, not_true_eq_false, if_false, cmpV]
  split
  · rfl
  · split <;> rfl
theorem s77 (a b : Int) : d77 a b = some (cmpV a b) := by
  simp only [d77, d88, Option.bind_some, c_neq, c_lss, c_gtr, decide_eq_true_eq, ne_eq, not_true_eq_false, if_false, cmpV]
  split
  · rfl
  · split <;> rfl
theorem numT8 (v : Int) : numT 8 false v = if v < 0 then v + 18446744073709551616 else v := by simp [numT]
theorem num_u64 {v : Int} (hv : I64 v) : wrapK .u64 v = numT 8 false v := by
  unfold I64 at hv; rw [wk_u64, numT8]; split <;> omega
theorem numT_s {z : Int} {b : Bool} (h : ¬ (z = 8 ∧ b = false)) (v : Int) : numT z b v = v := by unfold numT; rw [if_neg (fun q => h q.2)]
theorem s38 (z : Int) (b : Bool) {v u : Int} (hv : I64 v) (hu : I64 u) : d38 z b v u = some (cmpV (numT z b v) (numT z b u)) := by
  unfold d38
  rw [s44, Option.bind_some]
  by_cases h : z = 8 ∧ b = false
  · rw [if_pos (by simp only [h]; rfl), s76, num_u64 hv, num_u64 hu, h.1, h.2]; rfl
  · rw [if_neg (by simp only [h]; decide), s77, numT_s h, numT_s h]; rfl
def relH (o k : Int) : Bool := if o = 11 then decide (k < 0) else if o = 12 then decide (k ≤ 0) else if o = 13 then decide (0 < k) else if o = 14 then decide (0 ≤ k) else if o = 15 then decide (k = 0) else decide (k ≠ 0)
def Rel (o : Int) : Prop := o = 11 ∨ o = 12 ∨ o = 13 ∨ o = 14 ∨ o = 15 ∨ o = 16
def b01 (c : Bool) : Int := if c = true then 1 else 0
theorem s37 (c : Bool) : d37 c = some (b01 c) := by unfold d37 b01; split <;> rfl
theorem s14r {o : Int} (ho : Rel o) {z : Int} (b : Bool) {y : Int} (c : Bool) {v u : Int} (hz : OkZ z) (hy : OkZ y) (hv : I64 v) (hu : I64 u) :
    d14 o z b v y c u = some (4, true, b01 (relH o (cmpV (numT (uz z y) (ub z b y c) (wT (uz z y) (ub z b y c) (wT z b v))) (numT (uz z y) (ub z b y c) (wT (uz z y) (ub z b y c) (wT y c u))))), 0) := by
  have hq := uz_ok hz hy
  have e1 := s32 b hz hv
  have e2 := s32 c hy hu
  have e3 := s32 (ub z b y c) hq (wT_i64 b (z := z) v)
  have e4 := s32 (ub z b y c) hq (wT_i64 c (z := y) u)
  have e5 := s38 (uz z y) (ub z b y c) (wT_i64 (ub z b y c) (z := uz z y) (wT z b v)) (wT_i64 (ub z b y c) (z := uz z y) (wT y c u))
  have e6 : d31 z b y c = some 0 := by rw [s31, if_pos ⟨hz, hy⟩]
  unfold d14
  simp only [e6, Option.bind_some, c_neq, e1, e2, s33, d34, d35, d36, c_eql, e3, e4, e5, s37, d70, d71, d72, d73, d74, d75, c_lss, c_leq, c_gtr, c_geq]
  rcases ho with rfl | rfl | rfl | rfl | rfl | rfl <;> simp [relH]
/-- Quotient and remainder of two values of a type. -/
def divQ (z : Int) (b : Bool) (x w : Int) : Int := if z = 8 ∧ b = false then wrapK .i64 (numT z b x / numT z b w) else if w = -1 then wrapK .i64 (0 - x) else wrapK .i64 (x.tdiv w)
def divR (z : Int) (b : Bool) (x w : Int) : Int := if z = 8 ∧ b = false then wrapK .i64 (numT z b x % numT z b w) else if w = -1 then 0 else x.tmod w
theorem num_nn {v : Int} (hv : I64 v) : 0 ≤ numT 8 false v ∧ numT 8 false v < 18446744073709551616 := by
  unfold I64 at hv; rw [numT8]; split <;> omega
theorem num_ne {v : Int} (hv : I64 v) (h : v ≠ 0) : numT 8 false v ≠ 0 := by
  unfold I64 at hv; rw [numT8]; split <;> omega
theorem s68 (z : Int) (b : Bool) {x w : Int} (hx : I64 x) (hw : I64 w) (h0 : w ≠ 0) : d68 z b x w = some (divQ z b x w, divR z b x w) := by
  unfold d68 divQ divR
  rw [s44, Option.bind_some]
  by_cases h : z = 8 ∧ b = false
  · obtain ⟨rfl, rfl⟩ := h
    have hn := num_ne hw h0
    have hp := num_nn hw
    have hq := num_nn hx
    have e : d86 0 (numT 8 false x) (numT 8 false w) = some (numT 8 false x / numT 8 false w, numT 8 false x % numT 8 false w) := by
      generalize numT 8 false x = p at *
      generalize numT 8 false w = q at *
      unfold d86
      have a1 : arReal .quo .u64 p q = p / q := by
        show wrapK .u64 (p.tdiv q) = _
        rw [wk_u64, Int.tdiv_eq_ediv_of_nonneg hq.1]
        have h1 : 0 ≤ p / q := Int.ediv_nonneg hq.1 hp.1
        have h2 : p / q ≤ p := Int.ediv_le_self q hq.1
        omega
      have a2 : arReal .rem .u64 p q = p % q := Int.tmod_eq_emod_of_nonneg hq.1
      have hle : ¬ q ≤ 0 := by omega
      have hN : Ne0 q := hn
      simp only [c_eql, c_leq, decide_eq_true_eq]
      rw [if_neg hn, if_neg hle, if_pos trivial, if_pos hN, if_pos hN, a1, a2]
    rw [if_pos (by decide), num_u64 hx, num_u64 hw, e]
    rfl
  · rw [if_neg (by simp only [h]; decide), if_neg h, if_neg h]
    simp only [c_eql, decide_eq_true_eq]
    by_cases h1 : w = -1
    · rw [if_pos h1, if_pos h1, if_pos h1]; rfl
    · have hN : Ne0 w := h0
      rw [if_neg h1, if_neg h1, if_neg h1, if_pos hN, if_pos hN]; rfl
theorem divQ_i64 (z : Int) (b : Bool) (x w : Int) : I64 (divQ z b x w) := by unfold divQ; repeat' split
                                                                             all_goals exact wk_in _
theorem divR_i64 (z : Int) (b : Bool) {x w : Int} (hx : I64 x) (hw : I64 w) (h0 : w ≠ 0) : I64 (divR z b x w) := by
  unfold divR
  split
  · exact wk_in _
  · split
    · unfold I64; omega
    · unfold I64 at *
      have h1 : (x.tmod w).natAbs ≤ x.natAbs := by rw [Int.natAbs_tmod]; exact Nat.mod_le _ _
      rcases Int.lt_or_le x 0 with h | h
      · have : x.tmod w ≤ 0 := by
          have := Int.tmod_nonneg w (a := -x) (by omega)
          rw [Int.neg_tmod] at this; omega
        omega
      · have := Int.tmod_nonneg w h
        omega
theorem s14d {o : Int} (ho : o = 4 ∨ o = 5) {z : Int} (b : Bool) {y : Int} (c : Bool) {v u : Int} (hz : OkZ z) (hy : OkZ y) (hv : I64 v) (hu : I64 u) :
    d14 o z b v y c u = some (if wT (uz z y) (ub z b y c) (wT y c u) = 0 then (0, false, 0, 12) else
      (uz z y, ub z b y c, wT (uz z y) (ub z b y c) ((if o = 4 then divQ else divR) (uz z y) (ub z b y c) (wT (uz z y) (ub z b y c) (wT z b v)) (wT (uz z y) (ub z b y c) (wT y c u))), 0)) := by
  have hq := uz_ok hz hy
  have e1 := s32 b hz hv
  have e2 := s32 c hy hu
  have e3 := s32 (ub z b y c) hq (wT_i64 b (z := z) v)
  have e4 := s32 (ub z b y c) hq (wT_i64 c (z := y) u)
  have e6 : d31 z b y c = some 0 := by rw [s31, if_pos ⟨hz, hy⟩]
  have hx := wT_i64 (ub z b y c) (z := uz z y) (wT z b v)
  have hw := wT_i64 (ub z b y c) (z := uz z y) (wT y c u)
  unfold d14
  simp only [e6, Option.bind_some, c_neq, e1, e2, s33, d34, c_eql, e3, e4]
  generalize wT (uz z y) (ub z b y c) (wT z b v) = X at *
  generalize wT (uz z y) (ub z b y c) (wT y c u) = W at *
  by_cases h0 : W = 0
  · rcases ho with rfl | rfl <;> simp [h0]
  · have e7 := s68 (uz z y) (ub z b y c) hx hw h0
    rcases ho with rfl | rfl
    · have e8 := s32 (ub z b y c) hq (divQ_i64 (uz z y) (ub z b y c) X W)
      simp [h0, d67, e7, e8]
    · have e8 := s32 (ub z b y c) hq (divR_i64 (uz z y) (ub z b y c) hx hw h0)
      simp [h0, d69, e7, e8]
end Go.Proofs.Ytjcabmhnekcbgaa
end
section
namespace Go.Proofs.Ytjcabmhnekcbgaa
open Go.Ab Go.RowKit Go.Proofs.Ytjcabmhnekcbgaa.G
/-- The text of a value. -/
def txt (z : Int) (b : Bool) (v : Int) : List Int := textN (numT z b (wT z b v))
theorem s17 {z : Int} (b : Bool) {v : Int} (h : OkZ z) (hv : I64 v) : d17 z b v = some (strOfNums (txt z b v), 0) := by
  unfold d17
  rw [s10, if_pos h]
  simp only [Option.bind_some, c_neq, s32 b h hv]
  rw [s41 z b (wT_i64 b v)]
  rfl
theorem s17_no {z : Int} (b : Bool) (v : Int) (h : ¬ OkZ z) : d17 z b v = some (ByteArray.empty, 10) := by
  unfold d17; rw [s10, if_neg h]; rfl
theorem s19 {z : Int} (b : Bool) {v u : Int} (h : OkZ z) (hv : I64 v) (hu : I64 u) : d19 z b v u = some (cmpV (numT z b (wT z b v)) (numT z b (wT z b u)), 0) := by
  unfold d19
  rw [s10, if_pos h]
  simp only [Option.bind_some, c_neq, s32 b h hv, s32 b h hu]
  rw [s38 z b (wT_i64 b v) (wT_i64 b u)]
  rfl
theorem s19_no {z : Int} (b : Bool) (v u : Int) (h : ¬ OkZ z) : d19 z b v u = some (0, 10) := by
  unfold d19; rw [s10, if_neg h]; rfl
theorem i_lit {v : Int} (h : decide (-9223372036854775808 ≤ v ∧ v < 9223372036854775808) = true) : I64 v := by
  have := of_decide_eq_true h
  exact this
theorem z1 : OkZ 1 := .inl rfl
theorem z4 : OkZ 4 := .inr (.inr (.inl rfl))
theorem z8 : OkZ 8 := .inr (.inr (.inr rfl))
theorem h6 : d28 1 true 200 = some (-56, 0) := by rw [s28 1 true (i_lit rfl), if_pos z1]; rfl
theorem h8 : d15 4 false 8 true = some (8, true, 0) := by rw [s15, if_pos ⟨z4, z8⟩]; rfl
theorem h9 : d14 11 4 true (-1) 4 false 1 = some (4, true, 0, 0) := by rw [s14r (.inl rfl) true false z4 z4 (i_lit rfl) (i_lit rfl)]; rfl
theorem h10 : d14 1 1 false 255 1 false 1 = some (4, true, 256, 0) := by rw [s14 (.inl rfl) false false z1 z1 (i_lit rfl) (i_lit rfl)]; rfl
theorem h11 : d14 4 4 true (-7) 4 true 2 = some (4, true, -3, 0) := by rw [s14d (.inl rfl) true true z4 z4 (i_lit rfl) (i_lit rfl)]; rfl
theorem h12 : d14 10 4 true (-5) 4 true 1 = some (4, true, -3, 0) := by
  have e1 : d32 4 true (-5) = some (-5) := s32 true z4 (i_lit rfl)
  have e2 : d32 4 true 1 = some 1 := s32 true z4 (i_lit rfl)
  have e3 : d31 4 true 4 true = some 0 := by rw [s31, if_pos ⟨z4, z4⟩]
  have e4 : d30 4 true = some (4, true) := s30 4 true
  have e5 : d44 4 true = some false := s44 4 true
  have e6 : arReal .rem .u64 (wrapK .u64 1) (wrapK .u64 (arReal .mul .i64 8 4)) = 1 := by decide
  have e7 : arReal .shr .i64 (-5) 1 = -3 := by decide
  have e8 : Ne0 (wrapK .u64 (arReal .mul .i64 8 4)) := by decide
  have e9 : Ge0 1 := by decide
  unfold d14
  simp only [e1, e2, e3, e4, s33, d34, d35, Option.bind_some, c_neq, c_eql, d39, d40, e5, e6, e7, if_pos e8, if_pos e9]
  decide
theorem decN_step {n q r : Nat} (h : n = 10 * q + r) (hr : r < 10) (hq : 0 < q) : decN n = decN q ++ [48 + (r : Int)] := by
  have e1 : n / 10 = q := by omega
  have e2 : n % 10 = r := by omega
  rw [decN, if_neg (by omega), e1, e2]
theorem decN_1 : decN 1 = [49] := by rw [decN, if_pos (by decide)]; rfl
theorem decN_2 : decN 18 = [49, 56] := by
  rw [decN_step (n := 18) (q := 1) (r := 8) (by decide) (by decide) (by decide), decN_1]; rfl
theorem decN_3 : decN 184 = [49, 56, 52] := by
  rw [decN_step (n := 184) (q := 18) (r := 4) (by decide) (by decide) (by decide), decN_2]; rfl
theorem decN_4 : decN 1844 = [49, 56, 52, 52] := by
  rw [decN_step (n := 1844) (q := 184) (r := 4) (by decide) (by decide) (by decide), decN_3]; rfl
theorem decN_5 : decN 18446 = [49, 56, 52, 52, 54] := by
  rw [decN_step (n := 18446) (q := 1844) (r := 6) (by decide) (by decide) (by decide), decN_4]; rfl
theorem decN_6 : decN 184467 = [49, 56, 52, 52, 54, 55] := by
  rw [decN_step (n := 184467) (q := 18446) (r := 7) (by decide) (by decide) (by decide), decN_5]; rfl
theorem decN_7 : decN 1844674 = [49, 56, 52, 52, 54, 55, 52] := by
  rw [decN_step (n := 1844674) (q := 184467) (r := 4) (by decide) (by decide) (by decide), decN_6]; rfl
theorem decN_8 : decN 18446744 = [49, 56, 52, 52, 54, 55, 52, 52] := by
  rw [decN_step (n := 18446744) (q := 1844674) (r := 4) (by decide) (by decide) (by decide), decN_7]; rfl
theorem decN_9 : decN 184467440 = [49, 56, 52, 52, 54, 55, 52, 52, 48] := by
  rw [decN_step (n := 184467440) (q := 18446744) (r := 0) (by decide) (by decide) (by decide), decN_8]; rfl
theorem decN_10 : decN 1844674407 = [49, 56, 52, 52, 54, 55, 52, 52, 48, 55] := by
  rw [decN_step (n := 1844674407) (q := 184467440) (r := 7) (by decide) (by decide) (by decide), decN_9]; rfl
theorem decN_11 : decN 18446744073 = [49, 56, 52, 52, 54, 55, 52, 52, 48, 55, 51] := by
  rw [decN_step (n := 18446744073) (q := 1844674407) (r := 3) (by decide) (by decide) (by decide), decN_10]; rfl
theorem decN_12 : decN 184467440737 = [49, 56, 52, 52, 54, 55, 52, 52, 48, 55, 51, 55] := by
  rw [decN_step (n := 184467440737) (q := 18446744073) (r := 7) (by decide) (by decide) (by decide), decN_11]; rfl
theorem decN_13 : decN 1844674407370 = [49, 56, 52, 52, 54, 55, 52, 52, 48, 55, 51, 55, 48] := by
  rw [decN_step (n := 1844674407370) (q := 184467440737) (r := 0) (by decide) (by decide) (by decide), decN_12]; rfl
theorem decN_14 : decN 18446744073709 = [49, 56, 52, 52, 54, 55, 52, 52, 48, 55, 51, 55, 48, 57] := by
  rw [decN_step (n := 18446744073709) (q := 1844674407370) (r := 9) (by decide) (by decide) (by decide), decN_13]; rfl
theorem decN_15 : decN 184467440737095 = [49, 56, 52, 52, 54, 55, 52, 52, 48, 55, 51, 55, 48, 57, 53] := by
  rw [decN_step (n := 184467440737095) (q := 18446744073709) (r := 5) (by decide) (by decide) (by decide), decN_14]; rfl
theorem decN_16 : decN 1844674407370955 = [49, 56, 52, 52, 54, 55, 52, 52, 48, 55, 51, 55, 48, 57, 53, 53] := by
  rw [decN_step (n := 1844674407370955) (q := 184467440737095) (r := 5) (by decide) (by decide) (by decide), decN_15]; rfl
theorem decN_17 : decN 18446744073709551 = [49, 56, 52, 52, 54, 55, 52, 52, 48, 55, 51, 55, 48, 57, 53, 53, 49] := by
  rw [decN_step (n := 18446744073709551) (q := 1844674407370955) (r := 1) (by decide) (by decide) (by decide), decN_16]; rfl
theorem decN_18 : decN 184467440737095516 = [49, 56, 52, 52, 54, 55, 52, 52, 48, 55, 51, 55, 48, 57, 53, 53, 49, 54] := by
  rw [decN_step (n := 184467440737095516) (q := 18446744073709551) (r := 6) (by decide) (by decide) (by decide), decN_17]; rfl
theorem decN_19 : decN 1844674407370955161 = [49, 56, 52, 52, 54, 55, 52, 52, 48, 55, 51, 55, 48, 57, 53, 53, 49, 54, 49] := by
  rw [decN_step (n := 1844674407370955161) (q := 184467440737095516) (r := 1) (by decide) (by decide) (by decide), decN_18]; rfl
theorem decN_20 : decN 18446744073709551615 = [49, 56, 52, 52, 54, 55, 52, 52, 48, 55, 51, 55, 48, 57, 53, 53, 49, 54, 49, 53] := by
  rw [decN_step (n := 18446744073709551615) (q := 1844674407370955161) (r := 5) (by decide) (by decide) (by decide), decN_19]; rfl
theorem dec_max : dec 18446744073709551615 = [49, 56, 52, 52, 54, 55, 52, 52, 48, 55, 51, 55, 48, 57, 53, 53, 49, 54, 49, 53] := decN_20
theorem h13 : d17 8 false (-1) = some (ByteArray.mk #[49, 56, 52, 52, 54, 55, 52, 52, 48, 55, 51, 55, 48, 57, 53, 53, 49, 54, 49, 53], 0) := by
  rw [s17 false z8 (i_lit rfl)]
  have e1 : numT 8 false (wT 8 false (-1)) = 18446744073709551615 := by decide
  have e : txt 8 false (-1) = dec 18446744073709551615 := by unfold txt; rw [e1]; unfold textN; rw [if_neg (by decide)]
  rw [e, dec_max]; rfl
theorem h14 : d18 8 false (ByteArray.mk #[48, 120, 102, 102, 102, 102, 102, 102, 102, 102, 102, 102, 102, 102, 102, 102, 102, 102]) = some (-1, 0) := by
  rw [s18 8 false _ z8 (by decide)]
  rfl
theorem h15 : d18 1 true (ByteArray.mk #[49, 50, 56]) = some (0, 13) := by
  rw [s18 1 true _ z1 (by decide)]
  have e1 : nb (ByteArray.mk #[49, 50, 56]) = [49, 50, 56] := rfl
  have e2 : valD [49, 50, 56] = some 128 := rfl
  have e3 : numT 1 true (wT 1 true 128) = -128 := rfl
  have e4 : textN (-128) ≠ [49, 50, 56] := by unfold textN; rw [if_pos (by decide)]; simp
  rw [e1, parseV, if_neg (by decide), e2]
  simp only [e3, if_neg e4]
  rfl
theorem s9 : d9 = some true := by
  unfold d9
  simp only [d27, Option.bind_some, h6, h8, h9, h10, h11, h12, h13, h14, h15, c_neq, c_eql, scmp_eql, andB', beqB]
  decide
end Go.Proofs.Ytjcabmhnekcbgaa
end
section
namespace Go.Proofs.Ytjcabmhnekcbgaa
open Go.Ab Go.RowKit Go.Proofs.Ytjcabmhnekcbgaa.G
theorem i64_wf' {n : Int} (h : (Lit.int .i64 n).wf = true) : I64 n := by
  simp [Lit.wf, IntKind.min, IntKind.max, IntKind.bits, IntKind.signed] at h
  unfold I64
  omega
theorem numT_mod (z : Int) (b : Bool) (v : Int) : numT z b v % 18446744073709551616 = v % 18446744073709551616 := by
  unfold numT; split <;> omega
theorem wk_id {v : Int} (h : I64 v) : wrapK .i64 v = v := by unfold I64 at h; rw [wk_i64]; omega
theorem wk_congr {v u : Int} (h : v % 18446744073709551616 = u % 18446744073709551616) : wrapK .i64 v = wrapK .i64 u := by
  rw [wk_i64, wk_i64]; omega
theorem absL_text (n : Int) : absL (textN n) ≠ [] := by
  by_cases h : n < 0
  · rw [(textN_neg h).2]; exact dec_ne _
  · rw [(textN_nn h).2]; exact dec_ne _
theorem valD_text {n : Int} (h : -18446744073709551616 < n ∧ n < 18446744073709551616) : valD (textN n) = some (wrapK .i64 n) := by
  unfold valD
  simp only [if_neg (absL_text n)]
  by_cases k : n < 0
  · rw [(textN_neg k).2, (textN_neg k).1, numF_dec (by omega) (by omega)]
    simp only [if_true]
    congr 1
    refine wk_congr ?_
    have := wk_mod (-n)
    omega
  · rw [(textN_nn k).2, (textN_nn k).1, numF_dec (by omega) (by omega)]
    simp
theorem txt_bs (z : Int) (b : Bool) (v : Int) : Bs (txt z b v) := textN_bs _
end Go.Proofs.Ytjcabmhnekcbgaa
end
section
namespace Go.Proofs.Ytjcabmhnekcbgaa
open Go.Ab Go.RowKit 
set_option maxRecDepth 100000
set_option maxHeartbeats 4000000
noncomputable def d20_b1 (a0_0 : Int) (s6 : Int × Int × List V) : Option ((Int × Int × List V) ⊕ (List V)) :=
  if (cmpLit .lss s6.2.1 a0_0) = true then
    if (Room (lenI (appL s6.2.2 [.i .u8 (wrapK .u8 s6.1)])) 1) then
      if (Ge0 8) then
        some (.inl ((arReal .shr .i64 s6.1 8), (arReal .add .i64 s6.2.1 1), (appL s6.2.2 [.i .u8 (wrapK .u8 s6.1)])))
      else none
    else none
  else
    some (.inr s6.2.2)
noncomputable def d20 (a0_0 : Int) (a0_1 : Bool) (a1 : Int) : Option (List V × Int) :=
  (d10 a0_0 a0_1).bind fun x2 =>
  if (cmpLit .neq x2 0) = true then
    some ([], x2)
  else
    Option.bind (α := List V) (
      (iter (d20_b1 a0_0) (a1, 0, [])).bind fun y7 =>
      some y7) fun y5 =>
    some (y5, 0)
noncomputable def w20_c : Code := (Try.f20.body).getD .skip
theorem w20_h : Try.f20.body = some w20_c := by kernel_rfl
theorem w20 (a0_0 : Int) (a0_1 : Bool) (a1 : Int) (r : List V × Int) (h : d20 a0_0 a0_1 a1 = some r) : Ab.Fn Try.prog TT 20 [.agg [.i .i64 a0_0, .b a0_1], .i .i64 a1] (.tup [.row 0, .i .i64 r.2]) [(0, .row 5 r.1)] := by
  refine fn_own tok W0 Try.func20 (by kernel_rfl) w20_h (by kernel_rfl) ?_
  intro ar un cv mn mx pl mi cmp nt beq an scmp cat slen sbyte ssub ofB toB len gi gb gs gl sub put app ovl rep ne0 ge0 inb bnd room sroom need br call loop cut nl E R K hK
  have D := E.D
  clear E
  unfold d20 at h
  cbv
  refine R.cut' (by kernel_rfl) (by kernel_rfl) ?_
  cbv
  refine R.callD h (fun x2 hx2 h2 => ?_)
  clear h; have h := h2; clear h2
  refine R.call' (w10 _ _ _ hx2) (by (first | rfl | (simp only [D.happ, D.har, D.hcmp, D.hcv, D.hge0, D.hlen, D.hroom]; done) | (simp only [D.happ, D.har, D.hcmp, D.hcv, D.hge0, D.hlen, D.hroom]; rfl))) ?_
  clear hx2; cbv
  refine R.brD h (by (first | rfl | (simp only [D.happ, D.har, D.hcmp, D.hcv, D.hge0, D.hlen, D.hroom]; done) | (simp only [D.happ, D.har, D.hcmp, D.hcv, D.hge0, D.hlen, D.hroom]; rfl))) ?_ ?_ <;> clear h <;> intro h <;> cbv
  · have e := ret_some h; clear h
    refine hK _ _ ⟨rfl, ⟨?_, rfl, rfl, rfl, ?_⟩⟩ <;> cbv <;> (try (subst e; simp only [D.happ, D.har, D.hcmp, D.hcv, D.hge0, D.hlen, D.hroom, and_self, and_true, true_and] <;> (repeat' apply And.intro) <;> rfl))
  · refine R.cutB (fun p => p) (fun _ _ e => e) h [] (fun p9 => [(7, .row 127)]) (fun p9 => [(127, .row 5 p9)]) (by kernel_rfl) (by kernel_rfl) (fun y5 hy hFy5 L hLy5 => ?_) (fun p9 h2 => ?_)
    · clear h; have h := hy; clear hy; cbv
      refine R.loopD h (fun s0 y7 e0 hi hFs6 => ?_)
      clear h
      refine R.born' (e := te5) 7 127 5 rfl rfl (by kernel_rfl) (by decide) ?_
      refine R.loopI hi [] (fun s6 => [(1, .i .i64 s6.1), (7, .row 127), (15, .i .i64 s6.2.1)]) (fun s6 => [(127, .row 5 s6.2.2)]) ⟨rfl, ?_, ?_, rfl, rfl⟩ (by kernel_rfl) ?_
      · cbv; try (subst e0; simp only [D.happ, D.har, D.hcmp, D.hcv, D.hge0, D.hlen, D.hroom, and_self, and_true, true_and] <;> (repeat' apply And.intro) <;> rfl)
      · cbv; try (subst e0; simp only [D.happ, D.har, D.hcmp, D.hcv, D.hge0, D.hlen, D.hroom, and_self, and_true, true_and] <;> (repeat' apply And.intro) <;> rfl)
      clear hi e0
      intro s6 m y' hy hins6 houts6 L hLs6
      have h := hy; clear hy; unfold d20_b1 at h
      cbv
      refine R.cut' (by kernel_rfl) (by kernel_rfl) ?_
      cbv
      refine R.brD h (by (first | rfl | (simp only [D.happ, D.har, D.hcmp, D.hcv, D.hge0, D.hlen, D.hroom]; done) | (simp only [D.happ, D.har, D.hcmp, D.hcv, D.hge0, D.hlen, D.hroom]; rfl))) ?_ ?_ <;> clear h <;> intro h <;> cbv
      · refine R.cut' (by kernel_rfl) (by kernel_rfl) ?_
        cbv
        refine R.needD h (by (first | rfl | (simp only [D.happ, D.har, D.hcmp, D.hcv, D.hge0, D.hlen, D.hroom]; done) | (simp only [D.happ, D.har, D.hcmp, D.hcv, D.hge0, D.hlen, D.hroom]; rfl))) ?_
        clear h; intro h; cbv
        refine R.needD h (by (first | rfl | (simp only [D.happ, D.har, D.hcmp, D.hcv, D.hge0, D.hlen, D.hroom]; done) | (simp only [D.happ, D.har, D.hcmp, D.hcv, D.hge0, D.hlen, D.hroom]; rfl))) ?_
        clear h; intro h; cbv
        obtain ⟨s', e, hi⟩ := inl_some h hins6
        refine hLs6 s' _ _ hi ⟨rfl, ?_, ?_, rfl, rfl⟩ <;> cbv <;> (try (subst e; simp only [D.happ, D.har, D.hcmp, D.hcv, D.hge0, D.hlen, D.hroom, and_self, and_true, true_and] <;> (repeat' apply And.intro) <;> rfl))
      · have e := inr_some h houts6; clear h
        have h := hFs6; rw [e] at h; clear e; try dsimp only at h
        cbv
        obtain ⟨s', e, hi⟩ := jn_some (fun p => p) h
        refine hLy5 s' _ _ hi ⟨rfl, ?_, ?_, rfl, rfl⟩ <;> cbv <;> (try (subst e; simp only [D.happ, D.har, D.hcmp, D.hcv, D.hge0, D.hlen, D.hroom, and_self, and_true, true_and] <;> (repeat' apply And.intro) <;> rfl))
    · clear h; have h := h2; clear h2; try dsimp only at h
      cbv
      have e := ret_some h; clear h
      refine hK _ _ ⟨rfl, ⟨?_, rfl, rfl, rfl, ?_⟩⟩ <;> cbv <;> (try (subst e; simp only [D.happ, D.har, D.hcmp, D.hcv, D.hge0, D.hlen, D.hroom, and_self, and_true, true_and] <;> (repeat' apply And.intro) <;> rfl))
theorem w20s (a0_0 : Int) (a0_1 : Bool) (a1 : Int) (r : List V × Int) (h : d20 a0_0 a0_1 a1 = some r) : Ab.Fn Try.prog TT 20 [.agg [.i .i64 a0_0, .b a0_1], .i .i64 a1] (.tup [.sl 5 r.1, .i .i64 r.2]) [] :=
  (w20 a0_0 a0_1 a1 r h).pure (by simp [ple, ple1, ple1L, pleL, pleS, Ab.look])

noncomputable def d21_b1 (a1 : List V) (s6 : Int × Int) : Option ((Int × Int) ⊕ (Int)) :=
  if (cmpLit .lss s6.2 (lenI a1)) = true then
    if (Inb s6.2 (lenI a1)) then
      if (Ge0 (arReal .mul .i64 8 s6.2)) then
        some (.inl ((arReal .or .u64 s6.1 (arReal .shl .u64 (wrapK .u64 (gI a1 s6.2 0)) (arReal .mul .i64 8 s6.2))), (arReal .add .i64 s6.2 1)))
      else none
    else none
  else
    some (.inr s6.1)
noncomputable def d21 (a0_0 : Int) (a0_1 : Bool) (a1 : List V) : Option (Int × Int) :=
  (d10 a0_0 a0_1).bind fun x2 =>
  if (cmpLit .neq x2 0) = true then
    some (0, x2)
  else
    if (cmpLit .neq (lenI a1) a0_0) = true then
      some (0, 1)
    else
      Option.bind (α := Int) (
        (iter (d21_b1 a1) (0, 0)).bind fun y7 =>
        some y7) fun y5 =>
      (d32 a0_0 a0_1 (wrapK .i64 y5)).bind fun x10 =>
      some (x10, 0)
noncomputable def w21_c : Code := (Try.f21.body).getD .skip
theorem w21_h : Try.f21.body = some w21_c := by kernel_rfl
theorem w21 (a0_0 : Int) (a0_1 : Bool) (a1 : List V) (r : Int × Int) (h : d21 a0_0 a0_1 a1 = some r) : Ab.Fn Try.prog TT 21 [.agg [.i .i64 a0_0, .b a0_1], .sl 5 a1] (.tup [.i .i64 r.1, .i .i64 r.2]) [] := by
  refine fn_pure tok W0 Try.func21 (by kernel_rfl) w21_h (by kernel_rfl) ?_
  intro ar un cv mn mx pl mi cmp nt beq an scmp cat slen sbyte ssub ofB toB len gi gb gs gl sub put app ovl rep ne0 ge0 inb bnd room sroom need br call loop cut nl E R K hK
  have D := E.D
  clear E
  unfold d21 at h
  cbv
  refine R.cut' (by kernel_rfl) (by kernel_rfl) ?_
  cbv
  refine R.callD h (fun x2 hx2 h2 => ?_)
  clear h; have h := h2; clear h2
  refine R.call' (w10 _ _ _ hx2) (by (first | rfl | (simp only [D.har, D.hcmp, D.hcv, D.hge0, D.hgi, D.hinb, D.hlen]; done) | (simp only [D.har, D.hcmp, D.hcv, D.hge0, D.hgi, D.hinb, D.hlen]; rfl))) ?_
  clear hx2; cbv
  refine R.brD h (by (first | rfl | (simp only [D.har, D.hcmp, D.hcv, D.hge0, D.hgi, D.hinb, D.hlen]; done) | (simp only [D.har, D.hcmp, D.hcv, D.hge0, D.hgi, D.hinb, D.hlen]; rfl))) ?_ ?_ <;> clear h <;> intro h <;> cbv
  · have e := ret_some h; clear h
    refine hK _ _ ?_
    cbv
    try (subst e; simp only [D.har, D.hcmp, D.hcv, D.hge0, D.hgi, D.hinb, D.hlen, and_self, and_true, true_and] <;> (repeat' apply And.intro) <;> rfl)
  · refine R.cut' (by kernel_rfl) (by kernel_rfl) ?_
    cbv
    refine R.brD h (by (first | rfl | (simp only [D.har, D.hcmp, D.hcv, D.hge0, D.hgi, D.hinb, D.hlen]; done) | (simp only [D.har, D.hcmp, D.hcv, D.hge0, D.hgi, D.hinb, D.hlen]; rfl))) ?_ ?_ <;> clear h <;> intro h <;> cbv
    · have e := ret_some h; clear h
      refine hK _ _ ?_
      cbv
      try (subst e; simp only [D.har, D.hcmp, D.hcv, D.hge0, D.hgi, D.hinb, D.hlen, and_self, and_true, true_and] <;> (repeat' apply And.intro) <;> rfl)
    · refine R.cutB (fun p => p) (fun _ _ e => e) h [] (fun p9 => [(7, .i .u64 p9)]) (fun p9 => []) (by kernel_rfl) (by kernel_rfl) (fun y5 hy hFy5 L hLy5 => ?_) (fun p9 h2 => ?_)
      · clear h; have h := hy; clear hy; cbv
        refine R.loopD h (fun s0 y7 e0 hi hFs6 => ?_)
        clear h
        refine R.loopI hi [] (fun s6 => [(7, .i .u64 s6.1), (22, .i .i64 s6.2)]) (fun s6 => []) ⟨rfl, ?_, ?_, rfl, rfl⟩ (by kernel_rfl) ?_
        · cbv; try (subst e0; simp only [D.har, D.hcmp, D.hcv, D.hge0, D.hgi, D.hinb, D.hlen, and_self, and_true, true_and] <;> (repeat' apply And.intro) <;> rfl)
        · cbv; try (subst e0; simp only [D.har, D.hcmp, D.hcv, D.hge0, D.hgi, D.hinb, D.hlen, and_self, and_true, true_and] <;> (repeat' apply And.intro) <;> rfl)
        clear hi e0
        intro s6 m y' hy hins6 houts6 L hLs6
        have h := hy; clear hy; unfold d21_b1 at h
        cbv
        refine R.cut' (by kernel_rfl) (by kernel_rfl) ?_
        cbv
        refine R.brD h (by (first | rfl | (simp only [D.har, D.hcmp, D.hcv, D.hge0, D.hgi, D.hinb, D.hlen]; done) | (simp only [D.har, D.hcmp, D.hcv, D.hge0, D.hgi, D.hinb, D.hlen]; rfl))) ?_ ?_ <;> clear h <;> intro h <;> cbv
        · refine R.cut' (by kernel_rfl) (by kernel_rfl) ?_
          cbv
          refine R.needD h (by (first | rfl | (simp only [D.har, D.hcmp, D.hcv, D.hge0, D.hgi, D.hinb, D.hlen]; done) | (simp only [D.har, D.hcmp, D.hcv, D.hge0, D.hgi, D.hinb, D.hlen]; rfl))) ?_
          clear h; intro h; cbv
          refine R.needD h (by (first | rfl | (simp only [D.har, D.hcmp, D.hcv, D.hge0, D.hgi, D.hinb, D.hlen]; done) | (simp only [D.har, D.hcmp, D.hcv, D.hge0, D.hgi, D.hinb, D.hlen]; rfl))) ?_
          clear h; intro h; cbv
          obtain ⟨s', e, hi⟩ := inl_some h hins6
          refine hLs6 s' _ _ hi ⟨rfl, ?_, ?_, rfl, rfl⟩ <;> cbv <;> (try (subst e; simp only [D.har, D.hcmp, D.hcv, D.hge0, D.hgi, D.hinb, D.hlen, and_self, and_true, true_and] <;> (repeat' apply And.intro) <;> rfl))
        · have e := inr_some h houts6; clear h
          have h := hFs6; rw [e] at h; clear e; try dsimp only at h
          cbv
          obtain ⟨s', e, hi⟩ := jn_some (fun p => p) h
          refine hLy5 s' _ _ hi ⟨rfl, ?_, ?_, rfl, rfl⟩ <;> cbv <;> (try (subst e; simp only [D.har, D.hcmp, D.hcv, D.hge0, D.hgi, D.hinb, D.hlen, and_self, and_true, true_and] <;> (repeat' apply And.intro) <;> rfl))
      · clear h; have h := h2; clear h2; try dsimp only at h
        cbv
        refine R.callD h (fun x10 hx10 h2 => ?_)
        clear h; have h := h2; clear h2
        refine R.call' (w32 _ _ _ _ hx10) (by (first | rfl | (simp only [D.har, D.hcmp, D.hcv, D.hge0, D.hgi, D.hinb, D.hlen]; done) | (simp only [D.har, D.hcmp, D.hcv, D.hge0, D.hgi, D.hinb, D.hlen]; rfl))) ?_
        clear hx10; cbv
        have e := ret_some h; clear h
        refine hK _ _ ?_
        cbv
        try (subst e; simp only [D.har, D.hcmp, D.hcv, D.hge0, D.hgi, D.hinb, D.hlen, and_self, and_true, true_and] <;> (repeat' apply And.intro) <;> rfl)
end Go.Proofs.Ytjcabmhnekcbgaa
end
section
namespace Go.Proofs.Ytjcabmhnekcbgaa
open Go.Ab Go.RowKit Go.Proofs.Ytjcabmhnekcbgaa.G
def u8s (l : List Int) : List V := l.map fun n => V.i .u8 n
/-- The lowest bytes of a number. -/
def leN : Nat → Int → List Int
  | 0, _ => []
  | n + 1, v => v % 256 :: leN n (v / 256)
def leV : List Int → Int
  | [] => 0
  | c :: r => c + 256 * leV r
theorem lenI_u8s (l : List Int) : lenI (u8s l) = l.length := by simp [lenI, u8s]
theorem gI_u8s (l : List Int) (i : Nat) (h : i < l.length) : gI (u8s l) i 0 = l[i] := by
  simp [gI, u8s, elAt, cellAt, h, Ab.asInt]
theorem okz_le {z : Int} (h : OkZ z) : 1 ≤ z ∧ z ≤ 8 := by rcases h with rfl | rfl | rfl | rfl <;> decide
theorem ar_shr8 (v : Int) : arReal .shr .i64 v 8 = v / 256 := by
  show v.fdiv (2 ^ (min (8 : Int).toNat 64)) = _
  rw [Int.fdiv_eq_ediv_of_nonneg]
  · rfl
  · decide
theorem ar_addi {a b : Int} (h : I64 (a + b)) : arReal .add .i64 a b = a + b := wk_id h
theorem ar_muli {a b : Int} (h : I64 (a * b)) : arReal .mul .i64 a b = a * b := wk_id h
theorem s20_it {z : Int} (hz : OkZ z) (v : Int) : iter (d20_b1 z) (v, 0, []) = some (u8s (leN z.toNat v)) := by
  have hz8 := okz_le hz
  refine (iter_fun (fun s : Int × Int × List V => 0 ≤ s.2.1 ∧ s.2.1 ≤ z ∧ lenI s.2.2 = s.2.1) (fun s => (z - s.2.1).toNat) (fun s => s.2.2 ++ u8s (leN (z - s.2.1).toNat s.1)) (fun s hs => ?_) (v, 0, []) ⟨by simp, by simp; omega, rfl⟩).trans (by simp)
  obtain ⟨w, i, l⟩ := s
  obtain ⟨h0, h1, h2⟩ := hs
  simp only at h0 h1 h2 ⊢
  unfold d20_b1
  simp only [c_lss, decide_eq_true_eq]
  by_cases hl : i < z
  · have hlen : lenI (appL l [V.i .u8 (wrapK .u8 w)]) = i + 1 := by rw [← h2]; simp [lenI, appL]
    have hR : Room (lenI (appL l [V.i .u8 (wrapK .u8 w)])) 1 := by rw [hlen]; exact ⟨by omega, by omega⟩
    have hg : Ge0 8 := by decide
    rw [if_pos hl, if_pos hR, if_pos hg, ar_shr8, ar_addi (by unfold I64; omega)]
    refine .inl ⟨_, rfl, ⟨by simp only []; omega, by simp only []; omega, hlen⟩, by simp only []; omega, ?_⟩
    obtain ⟨k, hk⟩ : ∃ k : Nat, (z - i).toNat = k + 1 := ⟨(z - i).toNat - 1, by omega⟩
    have hk2 : (z - (i + 1)).toNat = k := by omega
    simp only [hk, hk2, leN, wk_u8]
    simp [appL, u8s]
  · rw [if_neg hl]
    have : (z - i).toNat = 0 := by omega
    rw [this]
    exact .inr (by simp [leN, u8s])
theorem s20 {z : Int} (b : Bool) (v : Int) (h : OkZ z) : d20 z b v = some (u8s (leN z.toNat v), 0) := by
  unfold d20
  rw [s10, if_pos h]
  simp only [Option.bind_some, c_neq, s20_it h v]
  rfl
theorem s20_no {z : Int} (b : Bool) (v : Int) (h : ¬ OkZ z) : d20 z b v = some ([], 10) := by
  unfold d20; rw [s10, if_neg h]; rfl
/-- Bytes put one above the other, by 'or'. -/
theorem or_shl {a c : Int} {i : Nat} (hi : i ≤ 7) (ha : 0 ≤ a) (h : a < 2 ^ (8 * i)) (hc : 0 ≤ c ∧ c < 256) :
    arReal .or .u64 a (arReal .shl .u64 (wrapK .u64 c) (8 * (i : Int))) = a + c * 2 ^ (8 * i) := by
  have e1 : arReal .shl .u64 (wrapK .u64 c) (8 * (i : Int)) = c * 2 ^ (8 * i) := by
    show wrapK .u64 (wrapK .u64 c * 2 ^ (min (8 * (i : Int)).toNat 64)) = _
    have : min (8 * (i : Int)).toNat 64 = 8 * i := by omega
    rw [this, wk_u64, wk_u64]
    have hc2 : c % 18446744073709551616 = c := by omega
    rw [hc2]
    obtain rfl | rfl | rfl | rfl | rfl | rfl | rfl | rfl : i = 0 ∨ i = 1 ∨ i = 2 ∨ i = 3 ∨ i = 4 ∨ i = 5 ∨ i = 6 ∨ i = 7 := by omega
    all_goals (simp only [Nat.mul_zero, Nat.mul_one, Nat.reduceMul, Int.reducePow]; omega)
  rw [e1]
  show wrapK .u64 ((BitVec.ofInt 64 a ||| BitVec.ofInt 64 (c * 2 ^ (8 * i))).toNat : Nat) = _
  have hp : (2 : Int) ^ (8 * i) = ((2 ^ (8 * i) : Nat) : Int) := by simp
  have hb : a + c * 2 ^ (8 * i) < 18446744073709551616 ∧ a < 18446744073709551616 ∧ 0 ≤ c * 2 ^ (8 * i) ∧ c * 2 ^ (8 * i) < 18446744073709551616 := by
    obtain rfl | rfl | rfl | rfl | rfl | rfl | rfl | rfl : i = 0 ∨ i = 1 ∨ i = 2 ∨ i = 3 ∨ i = 4 ∨ i = 5 ∨ i = 6 ∨ i = 7 := by omega
    all_goals (simp only [Nat.mul_zero, Nat.mul_one, Nat.reduceMul, Int.reducePow] at h ⊢; omega)
  rw [wk_u64, BitVec.toNat_or, bv_nat, bv_nat]
  have e2 : a % 18446744073709551616 = a := by omega
  have e3 : c * 2 ^ (8 * i) % 18446744073709551616 = c * 2 ^ (8 * i) := by omega
  rw [e2, e3]
  obtain ⟨m, rfl⟩ := Int.eq_ofNat_of_zero_le ha
  obtain ⟨k, rfl⟩ := Int.eq_ofNat_of_zero_le hc.1
  rw [hp] at h hb ⊢
  have e4 : ((k : Int) * ((2 ^ (8 * i) : Nat) : Int)).toNat = 2 ^ (8 * i) * k := by
    rw [← Int.natCast_mul, Int.toNat_natCast, Nat.mul_comm]
  have e5 : m < 2 ^ (8 * i) := by exact_mod_cast h
  rw [e4, Int.toNat_natCast, Nat.or_comm, ← Nat.two_pow_add_eq_or_of_lt e5]
  have e6 : ((2 ^ (8 * i) * k + m : Nat) : Int) = m + k * ((2 ^ (8 * i) : Nat) : Int) := by
    rw [Int.natCast_add, Int.natCast_mul, Int.mul_comm, Int.add_comm]
  rw [e6]
  omega
theorem leV_app : ∀ (l m : List Int), leV (l ++ m) = leV l + 2 ^ (8 * l.length) * leV m
  | [], m => by simp [leV]
  | c :: r, m => by
    simp only [List.cons_append, leV, leV_app r m, List.length_cons]
    have : (2 : Int) ^ (8 * (r.length + 1)) = 256 * 2 ^ (8 * r.length) := by
      rw [Nat.mul_add, Nat.mul_one, Int.pow_add, Int.mul_comm]; rfl
    rw [this, Int.mul_add, Int.add_assoc, Int.mul_assoc]
theorem leV_lt : ∀ {l : List Int}, Bs l → 0 ≤ leV l ∧ leV l < 2 ^ (8 * l.length)
  | [], _ => by simp [leV]
  | c :: r, h => by
    have hc := h c (by simp)
    have hr := leV_lt (l := r) fun x hx => h x (by simp [hx])
    have : (2 : Int) ^ (8 * (r.length + 1)) = 256 * 2 ^ (8 * r.length) := by
      rw [Nat.mul_add, Nat.mul_one, Int.pow_add, Int.mul_comm]; rfl
    simp only [leV, List.length_cons, this]
    omega
theorem s21_it {l : List Int} (hl : Bs l) (hn : l.length ≤ 8) : iter (d21_b1 (u8s l)) (0, 0) = some (leV l) := by
  refine iter_fun (fun s : Int × Int => 0 ≤ s.2 ∧ s.2 ≤ l.length ∧ s.1 = leV (l.take s.2.toNat)) (fun s => ((l.length : Int) - s.2).toNat) (fun _ => leV l) (fun s hs => ?_) (0, 0) ⟨by simp, by simp, by simp [leV]⟩
  obtain ⟨a, i⟩ := s
  obtain ⟨h0, h1, h2⟩ := hs
  simp only at h0 h1 h2 ⊢
  obtain ⟨j, rfl⟩ := Int.eq_ofNat_of_zero_le h0
  rw [Int.toNat_natCast] at h2
  unfold d21_b1
  simp only [c_lss, decide_eq_true_eq, lenI_u8s]
  by_cases hlt : j < l.length
  · have hg : Ge0 (8 * (j : Int)) := by show (0 : Int) ≤ _; omega
    have hI : Inb (j : Int) (l.length : Int) := ⟨by omega, by omega⟩
    have hc := hl l[j] (List.getElem_mem hlt)
    have ht : Bs (l.take j) := fun x hx => hl x (List.mem_of_mem_take hx)
    have hlen : (l.take j).length = j := by simp; omega
    have hv := leV_lt ht
    rw [hlen] at hv
    rw [if_pos (by omega), if_pos hI, ar_muli (by unfold I64; omega), if_pos hg, gI_u8s l j hlt, h2, or_shl (by omega) hv.1 hv.2 hc, ar_addi (by unfold I64; omega)]
    refine .inl ⟨_, rfl, ⟨by simp only []; omega, by simp only []; omega, ?_⟩, by simp only []; omega, trivial⟩
    have e : ((j : Int) + 1).toNat = j + 1 := by omega
    simp only [e]
    rw [List.take_succ_eq_append_getElem hlt, leV_app, hlen]
    simp only [leV]
    rw [Int.mul_zero, Int.add_zero, Int.mul_comm]
  · have : j = l.length := by omega
    rw [if_neg (by omega), h2, this, List.take_length]
    exact .inr rfl
theorem s21 {z : Int} (b : Bool) {l : List Int} (h : OkZ z) (hl : Bs l) : d21 z b (u8s l) = some (if (l.length : Int) = z then (wT z b (leV l), 0) else (0, 1)) := by
  have hz8 := okz_le h
  unfold d21
  rw [s10, if_pos h]
  simp only [Option.bind_some, c_neq, lenI_u8s]
  by_cases k : (l.length : Int) = z
  · rw [s21_it hl (by omega)]
    have e : wT z b (wrapK .i64 (leV l)) = wT z b (leV l) := wT_congr h b (mod_64 h (wk_mod _))
    simp only [Option.bind_some, s32 b h (wk_in _), e]
    simp [k]
  · simp [k]
theorem s21_no {z : Int} (b : Bool) (l : List V) (h : ¬ OkZ z) : d21 z b l = some (0, 10) := by
  unfold d21; rw [s10, if_neg h]; rfl
theorem strBytes_nb (s : ByteArray) : strBytes s = u8s (nb s) := by simp [strBytes, u8s, nb]
end Go.Proofs.Ytjcabmhnekcbgaa
end
section
namespace Go.Proofs.Ytjcabmhnekcbgaa
open Go.Ab Go.RowKit 
set_option maxRecDepth 100000
set_option maxHeartbeats 4000000
noncomputable def d47 (a0_0 : Int) (a0_1 : Bool) : Option (Int) :=
  Option.bind (α := Bool) (
    if (cmpLit .neq a0_0 1) = true then
      if (cmpLit .neq a0_0 2) = true then
        if (cmpLit .neq a0_0 4) = true then
          some (cmpLit .neq a0_0 8)
        else
          some false
      else
        some false
    else
      some false) fun y3 =>
  if y3 = true then
    some 10
  else
    some 0
noncomputable def w47_c : Code := (Try.f47.body).getD .skip
theorem w47_h : Try.f47.body = some w47_c := by kernel_rfl
theorem w47 (a0_0 : Int) (a0_1 : Bool) (r : Int) (h : d47 a0_0 a0_1 = some r) : Ab.Fn Try.prog TT 47 [.agg [.i .i64 a0_0, .b a0_1]] (.i .i64 r) [] := by
  refine fn_pure tok W0 Try.func47 (by kernel_rfl) w47_h (by kernel_rfl) ?_
  intro ar un cv mn mx pl mi cmp nt beq an scmp cat slen sbyte ssub ofB toB len gi gb gs gl sub put app ovl rep ne0 ge0 inb bnd room sroom need br call loop cut nl E R K hK
  have D := E.D
  clear E
  unfold d47 at h
  cbv
  refine R.cut' (by kernel_rfl) (by kernel_rfl) ?_
  cbv
  refine R.cutB (fun p => p) (fun _ _ e => e) h [] (fun p4 => [(20, .b p4)]) (fun p4 => []) (by kernel_rfl) (by kernel_rfl) (fun y3 hy hFy3 L hLy3 => ?_) (fun p4 h2 => ?_)
  · clear h; have h := hy; clear hy; cbv
    refine R.brD h (by (first | rfl | (simp only [D.hcmp]; done) | (simp only [D.hcmp]; rfl))) ?_ ?_ <;> clear h <;> intro h <;> cbv
    · refine R.brD h (by (first | rfl | (simp only [D.hcmp]; done) | (simp only [D.hcmp]; rfl))) ?_ ?_ <;> clear h <;> intro h <;> cbv
      · refine R.brD h (by (first | rfl | (simp only [D.hcmp]; done) | (simp only [D.hcmp]; rfl))) ?_ ?_ <;> clear h <;> intro h <;> cbv
        · obtain ⟨s', e, hi⟩ := jn_some (fun p => p) h
          refine hLy3 s' _ _ hi ⟨rfl, ?_, ?_, rfl, rfl⟩ <;> cbv <;> (try (subst e; simp only [D.hcmp, and_self, and_true, true_and] <;> (repeat' apply And.intro) <;> rfl))
        · obtain ⟨s', e, hi⟩ := jn_some (fun p => p) h
          refine hLy3 s' _ _ hi ⟨rfl, ?_, ?_, rfl, rfl⟩ <;> cbv <;> (try (subst e; simp only [D.hcmp, and_self, and_true, true_and] <;> (repeat' apply And.intro) <;> rfl))
      · obtain ⟨s', e, hi⟩ := jn_some (fun p => p) h
        refine hLy3 s' _ _ hi ⟨rfl, ?_, ?_, rfl, rfl⟩ <;> cbv <;> (try (subst e; simp only [D.hcmp, and_self, and_true, true_and] <;> (repeat' apply And.intro) <;> rfl))
    · obtain ⟨s', e, hi⟩ := jn_some (fun p => p) h
      refine hLy3 s' _ _ hi ⟨rfl, ?_, ?_, rfl, rfl⟩ <;> cbv <;> (try (subst e; simp only [D.hcmp, and_self, and_true, true_and] <;> (repeat' apply And.intro) <;> rfl))
  · clear h; have h := h2; clear h2; try dsimp only at h
    cbv
    refine R.brD h (by (first | rfl | (simp only [D.hcmp]; done) | (simp only [D.hcmp]; rfl))) ?_ ?_ <;> clear h <;> intro h <;> cbv
    · have e := ret_some h; clear h
      refine hK _ _ ?_
      cbv
      try (subst e; simp only [D.hcmp, and_self, and_true, true_and] <;> (repeat' apply And.intro) <;> rfl)
    · have e := ret_some h; clear h
      refine hK _ _ ?_
      cbv
      try (subst e; simp only [D.hcmp, and_self, and_true, true_and] <;> (repeat' apply And.intro) <;> rfl)

noncomputable def d49 (a0_0 : Int) (a0_1 : Bool) (a1 : Int) : Option (Int) :=
  if (cmpLit .eql a0_0 1) = true then
    if a0_1 = true then
      some (wrapK .i64 (wrapK .i8 a1))
    else
      some (wrapK .i64 (wrapK .u8 a1))
  else
    if (cmpLit .eql a0_0 2) = true then
      if a0_1 = true then
        some (wrapK .i64 (wrapK .i16 a1))
      else
        some (wrapK .i64 (wrapK .u16 a1))
    else
      if (cmpLit .eql a0_0 4) = true then
        if a0_1 = true then
          some (wrapK .i64 (wrapK .i32 a1))
        else
          some (wrapK .i64 (wrapK .u32 a1))
      else
        some a1
noncomputable def w49_c : Code := (Try.f49.body).getD .skip
theorem w49_h : Try.f49.body = some w49_c := by kernel_rfl
theorem w49 (a0_0 : Int) (a0_1 : Bool) (a1 : Int) (r : Int) (h : d49 a0_0 a0_1 a1 = some r) : Ab.Fn Try.prog TT 49 [.agg [.i .i64 a0_0, .b a0_1], .i .i64 a1] (.i .i64 r) [] := by
  refine fn_pure tok W0 Try.func49 (by kernel_rfl) w49_h (by kernel_rfl) ?_
  intro ar un cv mn mx pl mi cmp nt beq an scmp cat slen sbyte ssub ofB toB len gi gb gs gl sub put app ovl rep ne0 ge0 inb bnd room sroom need br call loop cut nl E R K hK
  have D := E.D
  clear E
  unfold d49 at h
  cbv
  refine R.cut' (by kernel_rfl) (by kernel_rfl) ?_
  cbv
  refine R.brD h (by (first | rfl | (simp only [D.hcmp, D.hcv]; done) | (simp only [D.hcmp, D.hcv]; rfl))) ?_ ?_ <;> clear h <;> intro h <;> cbv
  · refine R.cut' (by kernel_rfl) (by kernel_rfl) ?_
    cbv
    refine R.brD h (by (first | rfl | (simp only [D.hcmp, D.hcv]; done) | (simp only [D.hcmp, D.hcv]; rfl))) ?_ ?_ <;> clear h <;> intro h <;> cbv
    · have e := ret_some h; clear h
      refine hK _ _ ?_
      cbv
      try (subst e; simp only [D.hcmp, D.hcv, and_self, and_true, true_and] <;> (repeat' apply And.intro) <;> rfl)
    · have e := ret_some h; clear h
      refine hK _ _ ?_
      cbv
      try (subst e; simp only [D.hcmp, D.hcv, and_self, and_true, true_and] <;> (repeat' apply And.intro) <;> rfl)
  · refine R.brD h (by (first | rfl | (simp only [D.hcmp, D.hcv]; done) | (simp only [D.hcmp, D.hcv]; rfl))) ?_ ?_ <;> clear h <;> intro h <;> cbv
    · refine R.cut' (by kernel_rfl) (by kernel_rfl) ?_
      cbv
      refine R.brD h (by (first | rfl | (simp only [D.hcmp, D.hcv]; done) | (simp only [D.hcmp, D.hcv]; rfl))) ?_ ?_ <;> clear h <;> intro h <;> cbv
      · have e := ret_some h; clear h
        refine hK _ _ ?_
        cbv
        try (subst e; simp only [D.hcmp, D.hcv, and_self, and_true, true_and] <;> (repeat' apply And.intro) <;> rfl)
      · have e := ret_some h; clear h
        refine hK _ _ ?_
        cbv
        try (subst e; simp only [D.hcmp, D.hcv, and_self, and_true, true_and] <;> (repeat' apply And.intro) <;> rfl)
    · refine R.brD h (by (first | rfl | (simp only [D.hcmp, D.hcv]; done) | (simp only [D.hcmp, D.hcv]; rfl))) ?_ ?_ <;> clear h <;> intro h <;> cbv
      · refine R.cut' (by kernel_rfl) (by kernel_rfl) ?_
        cbv
        refine R.brD h (by (first | rfl | (simp only [D.hcmp, D.hcv]; done) | (simp only [D.hcmp, D.hcv]; rfl))) ?_ ?_ <;> clear h <;> intro h <;> cbv
        · have e := ret_some h; clear h
          refine hK _ _ ?_
          cbv
          try (subst e; simp only [D.hcmp, D.hcv, and_self, and_true, true_and] <;> (repeat' apply And.intro) <;> rfl)
        · have e := ret_some h; clear h
          refine hK _ _ ?_
          cbv
          try (subst e; simp only [D.hcmp, D.hcv, and_self, and_true, true_and] <;> (repeat' apply And.intro) <;> rfl)
      · have e := ret_some h; clear h
        refine hK _ _ ?_
        cbv
        try (subst e; simp only [D.hcmp, D.hcv, and_self, and_true, true_and] <;> (repeat' apply And.intro) <;> rfl)
end Go.Proofs.Ytjcabmhnekcbgaa
end
section
namespace Go.Proofs.Ytjcabmhnekcbgaa
open Go.Ab Go.RowKit 
set_option maxRecDepth 100000
set_option maxHeartbeats 4000000
noncomputable def d48 (a0_0 : Int) (a0_1 : Bool) (a1 : Int) (a2 : Int) : Option (Int) :=
  Option.bind (α := Int × Int) (
    if (notB' a0_1) = true then
      if (notB' (beqB (cmpLit .lss a1 0) (cmpLit .lss a2 0))) = true then
        some (a2, a1)
      else
        some (a1, a2)
    else
      some (a1, a2)) fun y1 =>
  if (cmpLit .lss y1.1 y1.2) = true then
    some (-1)
  else
    if (cmpLit .gtr y1.1 y1.2) = true then
      some 1
    else
      some 0
noncomputable def w48_c : Code := (Try.f48.body).getD .skip
theorem w48_h : Try.f48.body = some w48_c := by kernel_rfl
theorem w48 (a0_0 : Int) (a0_1 : Bool) (a1 : Int) (a2 : Int) (r : Int) (h : d48 a0_0 a0_1 a1 a2 = some r) : Ab.Fn Try.prog TT 48 [.agg [.i .i64 a0_0, .b a0_1], .i .i64 a1, .i .i64 a2] (.i .i64 r) [] := by
  refine fn_pure tok W0 Try.func48 (by kernel_rfl) w48_h (by kernel_rfl) ?_
  intro ar un cv mn mx pl mi cmp nt beq an scmp cat slen sbyte ssub ofB toB len gi gb gs gl sub put app ovl rep ne0 ge0 inb bnd room sroom need br call loop cut nl E R K hK
  have D := E.D
  clear E
  unfold d48 at h
  cbv
  refine R.cutB (fun p => p) (fun _ _ e => e) h [] (fun p2 => [(1, .i .i64 p2.1), (2, .i .i64 p2.2)]) (fun p2 => []) (by kernel_rfl) (by kernel_rfl) (fun y1 hy hFy1 L hLy1 => ?_) (fun p2 h2 => ?_)
  · clear h; have h := hy; clear hy; cbv
    refine R.cut' (by kernel_rfl) (by kernel_rfl) ?_
    cbv
    refine R.brD h (by (first | rfl | (simp only [D.hbeq, D.hcmp, D.hnt]; done) | (simp only [D.hbeq, D.hcmp, D.hnt]; rfl))) ?_ ?_ <;> clear h <;> intro h <;> cbv
    · refine R.brD h (by (first | rfl | (simp only [D.hbeq, D.hcmp, D.hnt]; done) | (simp only [D.hbeq, D.hcmp, D.hnt]; rfl))) ?_ ?_ <;> clear h <;> intro h <;> cbv
      · obtain ⟨s', e, hi⟩ := jn_some (fun p => p) h
        refine hLy1 s' _ _ hi ⟨rfl, ?_, ?_, rfl, rfl⟩ <;> cbv <;> (try (subst e; simp only [D.hbeq, D.hcmp, D.hnt, and_self, and_true, true_and] <;> (repeat' apply And.intro) <;> rfl))
      · obtain ⟨s', e, hi⟩ := jn_some (fun p => p) h
        refine hLy1 s' _ _ hi ⟨rfl, ?_, ?_, rfl, rfl⟩ <;> cbv <;> (try (subst e; simp only [D.hbeq, D.hcmp, D.hnt, and_self, and_true, true_and] <;> (repeat' apply And.intro) <;> rfl))
    · obtain ⟨s', e, hi⟩ := jn_some (fun p => p) h
      refine hLy1 s' _ _ hi ⟨rfl, ?_, ?_, rfl, rfl⟩ <;> cbv <;> (try (subst e; simp only [D.hbeq, D.hcmp, D.hnt, and_self, and_true, true_and] <;> (repeat' apply And.intro) <;> rfl))
  · clear h; have h := h2; clear h2; try dsimp only at h
    cbv
    refine R.cut' (by kernel_rfl) (by kernel_rfl) ?_
    cbv
    refine R.brD h (by (first | rfl | (simp only [D.hbeq, D.hcmp, D.hnt]; done) | (simp only [D.hbeq, D.hcmp, D.hnt]; rfl))) ?_ ?_ <;> clear h <;> intro h <;> cbv
    · have e := ret_some h; clear h
      refine hK _ _ ?_
      cbv
      try (subst e; simp only [D.hbeq, D.hcmp, D.hnt, and_self, and_true, true_and] <;> (repeat' apply And.intro) <;> rfl)
    · refine R.cut' (by kernel_rfl) (by kernel_rfl) ?_
      cbv
      refine R.brD h (by (first | rfl | (simp only [D.hbeq, D.hcmp, D.hnt]; done) | (simp only [D.hbeq, D.hcmp, D.hnt]; rfl))) ?_ ?_ <;> clear h <;> intro h <;> cbv
      · have e := ret_some h; clear h
        refine hK _ _ ?_
        cbv
        try (subst e; simp only [D.hbeq, D.hcmp, D.hnt, and_self, and_true, true_and] <;> (repeat' apply And.intro) <;> rfl)
      · have e := ret_some h; clear h
        refine hK _ _ ?_
        cbv
        try (subst e; simp only [D.hbeq, D.hcmp, D.hnt, and_self, and_true, true_and] <;> (repeat' apply And.intro) <;> rfl)

noncomputable def d22 (a0_0 : Int) (a0_1 : Bool) (a1 : Int) (a2 : Int) : Option (Int × Int) :=
  (d47 a0_0 a0_1).bind fun x2 =>
  if (cmpLit .neq x2 0) = true then
    some (0, x2)
  else
    (d49 a0_0 a0_1 a1).bind fun x3 =>
    (d49 a0_0 a0_1 a2).bind fun x4 =>
    (d48 a0_0 a0_1 x3 x4).bind fun x5 =>
    some (x5, 0)
noncomputable def w22_c : Code := (Try.f22.body).getD .skip
theorem w22_h : Try.f22.body = some w22_c := by kernel_rfl
theorem w22 (a0_0 : Int) (a0_1 : Bool) (a1 : Int) (a2 : Int) (r : Int × Int) (h : d22 a0_0 a0_1 a1 a2 = some r) : Ab.Fn Try.prog TT 22 [.agg [.i .i64 a0_0, .b a0_1], .i .i64 a1, .i .i64 a2] (.tup [.i .i64 r.1, .i .i64 r.2]) [] := by
  refine fn_pure tok (fun r => match r with | 4 => [[],[],[],[1,2],[],[],[1,2,3,4,5],[0,1,2,3,4,5,6],[0,1,2,3,4,5,6,7],[0,1,2,3,4,5,6,7,8]] | _ => []) Try.func22 (by kernel_rfl) w22_h (by kernel_rfl) ?_
  intro ar un cv mn mx pl mi cmp nt beq an scmp cat slen sbyte ssub ofB toB len gi gb gs gl sub put app ovl rep ne0 ge0 inb bnd room sroom need br call loop cut nl E R K hK
  have D := E.D
  clear E
  unfold d22 at h
  cbv
  refine R.cut' (by kernel_rfl) (by kernel_rfl) ?_
  cbv
  refine R.callD h (fun x2 hx2 h2 => ?_)
  clear h; have h := h2; clear h2
  refine R.call' (w47 _ _ _ hx2) (by (first | rfl | (simp only [D.hcmp]; done) | (simp only [D.hcmp]; rfl))) ?_
  clear hx2; cbv
  refine R.brD h (by (first | rfl | (simp only [D.hcmp]; done) | (simp only [D.hcmp]; rfl))) ?_ ?_ <;> clear h <;> intro h <;> cbv
  · have e := ret_some h; clear h
    refine hK _ _ ?_
    cbv
    try (subst e; simp only [D.hcmp, and_self, and_true, true_and] <;> (repeat' apply And.intro) <;> rfl)
  · refine R.callD h (fun x3 hx3 h2 => ?_)
    clear h; have h := h2; clear h2
    refine R.call' (w49 _ _ _ _ hx3) (by (first | rfl | (simp only [D.hcmp]; done) | (simp only [D.hcmp]; rfl))) ?_
    clear hx3; cbv
    refine R.callD h (fun x4 hx4 h2 => ?_)
    clear h; have h := h2; clear h2
    refine R.call' (w49 _ _ _ _ hx4) (by (first | rfl | (simp only [D.hcmp]; done) | (simp only [D.hcmp]; rfl))) ?_
    clear hx4; cbv
    refine R.callD h (fun x5 hx5 h2 => ?_)
    clear h; have h := h2; clear h2
    refine R.call' (w48 _ _ _ _ _ hx5) (by (first | rfl | (simp only [D.hcmp]; done) | (simp only [D.hcmp]; rfl))) ?_
    clear hx5; cbv
    have e := ret_some h; clear h
    refine hK _ _ ?_
    cbv
    try (subst e; simp only [D.hcmp, and_self, and_true, true_and] <;> (repeat' apply And.intro) <;> rfl)

noncomputable def d23_b1 (a0_0 : Int) (s6 : Int × Int × List V) : Option ((Int × Int × List V) ⊕ (List V)) :=
  if (cmpLit .lss s6.2.1 a0_0) = true then
    if (Room (lenI (appL s6.2.2 [.i .u8 (wrapK .u8 (arReal .and .i64 s6.1 255))])) 1) then
      if (Ne0 256) then
        some (.inl ((arReal .quo .i64 (arReal .sub .i64 s6.1 (arReal .and .i64 s6.1 255)) 256), (arReal .add .i64 s6.2.1 1), (appL s6.2.2 [.i .u8 (wrapK .u8 (arReal .and .i64 s6.1 255))])))
      else none
    else none
  else
    some (.inr s6.2.2)
noncomputable def d23 (a0_0 : Int) (a0_1 : Bool) (a1 : Int) : Option (List V × Int) :=
  (d47 a0_0 a0_1).bind fun x2 =>
  if (cmpLit .neq x2 0) = true then
    some ([], x2)
  else
    Option.bind (α := List V) (
      (iter (d23_b1 a0_0) (a1, 0, [])).bind fun y7 =>
      some y7) fun y5 =>
    some (y5, 0)
noncomputable def w23_c : Code := (Try.f23.body).getD .skip
theorem w23_h : Try.f23.body = some w23_c := by kernel_rfl
theorem w23 (a0_0 : Int) (a0_1 : Bool) (a1 : Int) (r : List V × Int) (h : d23 a0_0 a0_1 a1 = some r) : Ab.Fn Try.prog TT 23 [.agg [.i .i64 a0_0, .b a0_1], .i .i64 a1] (.tup [.row 0, .i .i64 r.2]) [(0, .row 5 r.1)] := by
  refine fn_own tok W0 Try.func23 (by kernel_rfl) w23_h (by kernel_rfl) ?_
  intro ar un cv mn mx pl mi cmp nt beq an scmp cat slen sbyte ssub ofB toB len gi gb gs gl sub put app ovl rep ne0 ge0 inb bnd room sroom need br call loop cut nl E R K hK
  have D := E.D
  clear E
  unfold d23 at h
  cbv
  refine R.cut' (by kernel_rfl) (by kernel_rfl) ?_
  cbv
  refine R.callD h (fun x2 hx2 h2 => ?_)
  clear h; have h := h2; clear h2
  refine R.call' (w47 _ _ _ hx2) (by (first | rfl | (simp only [D.happ, D.har, D.hcmp, D.hcv, D.hlen, D.hne0, D.hroom]; done) | (simp only [D.happ, D.har, D.hcmp, D.hcv, D.hlen, D.hne0, D.hroom]; rfl))) ?_
  clear hx2; cbv
  refine R.brD h (by (first | rfl | (simp only [D.happ, D.har, D.hcmp, D.hcv, D.hlen, D.hne0, D.hroom]; done) | (simp only [D.happ, D.har, D.hcmp, D.hcv, D.hlen, D.hne0, D.hroom]; rfl))) ?_ ?_ <;> clear h <;> intro h <;> cbv
  · have e := ret_some h; clear h
    refine hK _ _ ⟨rfl, ⟨?_, rfl, rfl, rfl, ?_⟩⟩ <;> cbv <;> (try (subst e; simp only [D.happ, D.har, D.hcmp, D.hcv, D.hlen, D.hne0, D.hroom, and_self, and_true, true_and] <;> (repeat' apply And.intro) <;> rfl))
  · refine R.cutB (fun p => p) (fun _ _ e => e) h [] (fun p9 => [(7, .row 127)]) (fun p9 => [(127, .row 5 p9)]) (by kernel_rfl) (by kernel_rfl) (fun y5 hy hFy5 L hLy5 => ?_) (fun p9 h2 => ?_)
    · clear h; have h := hy; clear hy; cbv
      refine R.loopD h (fun s0 y7 e0 hi hFs6 => ?_)
      clear h
      refine R.born' (e := te5) 7 127 5 rfl rfl (by kernel_rfl) (by decide) ?_
      refine R.loopI hi [] (fun s6 => [(1, .i .i64 s6.1), (7, .row 127), (8, .i .i64 s6.2.1)]) (fun s6 => [(127, .row 5 s6.2.2)]) ⟨rfl, ?_, ?_, rfl, rfl⟩ (by kernel_rfl) ?_
      · cbv; try (subst e0; simp only [D.happ, D.har, D.hcmp, D.hcv, D.hlen, D.hne0, D.hroom, and_self, and_true, true_and] <;> (repeat' apply And.intro) <;> rfl)
      · cbv; try (subst e0; simp only [D.happ, D.har, D.hcmp, D.hcv, D.hlen, D.hne0, D.hroom, and_self, and_true, true_and] <;> (repeat' apply And.intro) <;> rfl)
      clear hi e0
      intro s6 m y' hy hins6 houts6 L hLs6
      have h := hy; clear hy; unfold d23_b1 at h
      cbv
      refine R.cut' (by kernel_rfl) (by kernel_rfl) ?_
      cbv
      refine R.brD h (by (first | rfl | (simp only [D.happ, D.har, D.hcmp, D.hcv, D.hlen, D.hne0, D.hroom]; done) | (simp only [D.happ, D.har, D.hcmp, D.hcv, D.hlen, D.hne0, D.hroom]; rfl))) ?_ ?_ <;> clear h <;> intro h <;> cbv
      · refine R.cut' (by kernel_rfl) (by kernel_rfl) ?_
        cbv
        refine R.needD h (by (first | rfl | (simp only [D.happ, D.har, D.hcmp, D.hcv, D.hlen, D.hne0, D.hroom]; done) | (simp only [D.happ, D.har, D.hcmp, D.hcv, D.hlen, D.hne0, D.hroom]; rfl))) ?_
        clear h; intro h; cbv
        refine R.needD h (by (first | rfl | (simp only [D.happ, D.har, D.hcmp, D.hcv, D.hlen, D.hne0, D.hroom]; done) | (simp only [D.happ, D.har, D.hcmp, D.hcv, D.hlen, D.hne0, D.hroom]; rfl))) ?_
        clear h; intro h; cbv
        obtain ⟨s', e, hi⟩ := inl_some h hins6
        refine hLs6 s' _ _ hi ⟨rfl, ?_, ?_, rfl, rfl⟩ <;> cbv <;> (try (subst e; simp only [D.happ, D.har, D.hcmp, D.hcv, D.hlen, D.hne0, D.hroom, and_self, and_true, true_and] <;> (repeat' apply And.intro) <;> rfl))
      · have e := inr_some h houts6; clear h
        have h := hFs6; rw [e] at h; clear e; try dsimp only at h
        cbv
        obtain ⟨s', e, hi⟩ := jn_some (fun p => p) h
        refine hLy5 s' _ _ hi ⟨rfl, ?_, ?_, rfl, rfl⟩ <;> cbv <;> (try (subst e; simp only [D.happ, D.har, D.hcmp, D.hcv, D.hlen, D.hne0, D.hroom, and_self, and_true, true_and] <;> (repeat' apply And.intro) <;> rfl))
    · clear h; have h := h2; clear h2; try dsimp only at h
      cbv
      have e := ret_some h; clear h
      refine hK _ _ ⟨rfl, ⟨?_, rfl, rfl, rfl, ?_⟩⟩ <;> cbv <;> (try (subst e; simp only [D.happ, D.har, D.hcmp, D.hcv, D.hlen, D.hne0, D.hroom, and_self, and_true, true_and] <;> (repeat' apply And.intro) <;> rfl))
theorem w23s (a0_0 : Int) (a0_1 : Bool) (a1 : Int) (r : List V × Int) (h : d23 a0_0 a0_1 a1 = some r) : Ab.Fn Try.prog TT 23 [.agg [.i .i64 a0_0, .b a0_1], .i .i64 a1] (.tup [.sl 5 r.1, .i .i64 r.2]) [] :=
  (w23 a0_0 a0_1 a1 r h).pure (by simp [ple, ple1, ple1L, pleL, pleS, Ab.look])

noncomputable def d24_b1 (a1 : List V) (s6 : Int × Int) : Option ((Int × Int) ⊕ (Int)) :=
  if (cmpLit .geq s6.2 0) = true then
    if (Inb s6.2 (lenI a1)) then
      some (.inl ((arReal .add .i64 (arReal .mul .i64 256 s6.1) (wrapK .i64 (gI a1 s6.2 0))), (arReal .sub .i64 s6.2 1)))
    else none
  else
    some (.inr s6.1)
noncomputable def d24 (a0_0 : Int) (a0_1 : Bool) (a1 : List V) : Option (Int × Int) :=
  (d47 a0_0 a0_1).bind fun x2 =>
  if (cmpLit .neq x2 0) = true then
    some (0, x2)
  else
    if (cmpLit .neq (lenI a1) a0_0) = true then
      some (0, 1)
    else
      Option.bind (α := Int) (
        (iter (d24_b1 a1) (0, (arReal .sub .i64 (lenI a1) 1))).bind fun y7 =>
        some y7) fun y5 =>
      (d49 a0_0 a0_1 y5).bind fun x10 =>
      some (x10, 0)
noncomputable def w24_c : Code := (Try.f24.body).getD .skip
theorem w24_h : Try.f24.body = some w24_c := by kernel_rfl
theorem w24 (a0_0 : Int) (a0_1 : Bool) (a1 : List V) (r : Int × Int) (h : d24 a0_0 a0_1 a1 = some r) : Ab.Fn Try.prog TT 24 [.agg [.i .i64 a0_0, .b a0_1], .sl 5 a1] (.tup [.i .i64 r.1, .i .i64 r.2]) [] := by
  refine fn_pure tok W0 Try.func24 (by kernel_rfl) w24_h (by kernel_rfl) ?_
  intro ar un cv mn mx pl mi cmp nt beq an scmp cat slen sbyte ssub ofB toB len gi gb gs gl sub put app ovl rep ne0 ge0 inb bnd room sroom need br call loop cut nl E R K hK
  have D := E.D
  clear E
  unfold d24 at h
  cbv
  refine R.cut' (by kernel_rfl) (by kernel_rfl) ?_
  cbv
  refine R.callD h (fun x2 hx2 h2 => ?_)
  clear h; have h := h2; clear h2
  refine R.call' (w47 _ _ _ hx2) (by (first | rfl | (simp only [D.har, D.hcmp, D.hcv, D.hgi, D.hinb, D.hlen]; done) | (simp only [D.har, D.hcmp, D.hcv, D.hgi, D.hinb, D.hlen]; rfl))) ?_
  clear hx2; cbv
  refine R.brD h (by (first | rfl | (simp only [D.har, D.hcmp, D.hcv, D.hgi, D.hinb, D.hlen]; done) | (simp only [D.har, D.hcmp, D.hcv, D.hgi, D.hinb, D.hlen]; rfl))) ?_ ?_ <;> clear h <;> intro h <;> cbv
  · have e := ret_some h; clear h
    refine hK _ _ ?_
    cbv
    try (subst e; simp only [D.har, D.hcmp, D.hcv, D.hgi, D.hinb, D.hlen, and_self, and_true, true_and] <;> (repeat' apply And.intro) <;> rfl)
  · refine R.cut' (by kernel_rfl) (by kernel_rfl) ?_
    cbv
    refine R.brD h (by (first | rfl | (simp only [D.har, D.hcmp, D.hcv, D.hgi, D.hinb, D.hlen]; done) | (simp only [D.har, D.hcmp, D.hcv, D.hgi, D.hinb, D.hlen]; rfl))) ?_ ?_ <;> clear h <;> intro h <;> cbv
    · have e := ret_some h; clear h
      refine hK _ _ ?_
      cbv
      try (subst e; simp only [D.har, D.hcmp, D.hcv, D.hgi, D.hinb, D.hlen, and_self, and_true, true_and] <;> (repeat' apply And.intro) <;> rfl)
    · refine R.cutB (fun p => p) (fun _ _ e => e) h [] (fun p9 => [(7, .i .i64 p9)]) (fun p9 => []) (by kernel_rfl) (by kernel_rfl) (fun y5 hy hFy5 L hLy5 => ?_) (fun p9 h2 => ?_)
      · clear h; have h := hy; clear hy; cbv
        refine R.loopD h (fun s0 y7 e0 hi hFs6 => ?_)
        clear h
        refine R.loopI hi [] (fun s6 => [(7, .i .i64 s6.1), (8, .i .i64 s6.2)]) (fun s6 => []) ⟨rfl, ?_, ?_, rfl, rfl⟩ (by kernel_rfl) ?_
        · cbv; try (subst e0; simp only [D.har, D.hcmp, D.hcv, D.hgi, D.hinb, D.hlen, and_self, and_true, true_and] <;> (repeat' apply And.intro) <;> rfl)
        · cbv; try (subst e0; simp only [D.har, D.hcmp, D.hcv, D.hgi, D.hinb, D.hlen, and_self, and_true, true_and] <;> (repeat' apply And.intro) <;> rfl)
        clear hi e0
        intro s6 m y' hy hins6 houts6 L hLs6
        have h := hy; clear hy; unfold d24_b1 at h
        cbv
        refine R.cut' (by kernel_rfl) (by kernel_rfl) ?_
        cbv
        refine R.brD h (by (first | rfl | (simp only [D.har, D.hcmp, D.hcv, D.hgi, D.hinb, D.hlen]; done) | (simp only [D.har, D.hcmp, D.hcv, D.hgi, D.hinb, D.hlen]; rfl))) ?_ ?_ <;> clear h <;> intro h <;> cbv
        · refine R.cut' (by kernel_rfl) (by kernel_rfl) ?_
          cbv
          refine R.needD h (by (first | rfl | (simp only [D.har, D.hcmp, D.hcv, D.hgi, D.hinb, D.hlen]; done) | (simp only [D.har, D.hcmp, D.hcv, D.hgi, D.hinb, D.hlen]; rfl))) ?_
          clear h; intro h; cbv
          obtain ⟨s', e, hi⟩ := inl_some h hins6
          refine hLs6 s' _ _ hi ⟨rfl, ?_, ?_, rfl, rfl⟩ <;> cbv <;> (try (subst e; simp only [D.har, D.hcmp, D.hcv, D.hgi, D.hinb, D.hlen, and_self, and_true, true_and] <;> (repeat' apply And.intro) <;> rfl))
        · have e := inr_some h houts6; clear h
          have h := hFs6; rw [e] at h; clear e; try dsimp only at h
          cbv
          obtain ⟨s', e, hi⟩ := jn_some (fun p => p) h
          refine hLy5 s' _ _ hi ⟨rfl, ?_, ?_, rfl, rfl⟩ <;> cbv <;> (try (subst e; simp only [D.har, D.hcmp, D.hcv, D.hgi, D.hinb, D.hlen, and_self, and_true, true_and] <;> (repeat' apply And.intro) <;> rfl))
      · clear h; have h := h2; clear h2; try dsimp only at h
        cbv
        refine R.callD h (fun x10 hx10 h2 => ?_)
        clear h; have h := h2; clear h2
        refine R.call' (w49 _ _ _ _ hx10) (by (first | rfl | (simp only [D.har, D.hcmp, D.hcv, D.hgi, D.hinb, D.hlen]; done) | (simp only [D.har, D.hcmp, D.hcv, D.hgi, D.hinb, D.hlen]; rfl))) ?_
        clear hx10; cbv
        have e := ret_some h; clear h
        refine hK _ _ ?_
        cbv
        try (subst e; simp only [D.har, D.hcmp, D.hcv, D.hgi, D.hinb, D.hlen, and_self, and_true, true_and] <;> (repeat' apply And.intro) <;> rfl)

noncomputable def d50F (D50 : (Int) → Option (ByteArray)) (a0 : Int) : Option (ByteArray) :=
  if (cmpLit .lss a0 10) = true then
    if (Bnd a0 (arReal .add .u64 a0 1) (slenI (ByteArray.mk #[48, 49, 50, 51, 52, 53, 54, 55, 56, 57]))) then
      some (subS (ByteArray.mk #[48, 49, 50, 51, 52, 53, 54, 55, 56, 57]) a0 (arReal .add .u64 a0 1))
    else none
  else
    if (Ne0 10) then
      (D50 (arReal .quo .u64 a0 10)).bind fun x1 =>
      if (Ne0 10) then
        (D50 (arReal .rem .u64 a0 10)).bind fun x2 =>
        if (Sroom x1 x2) then
          some (catS x1 x2)
        else none
      else none
    else none
noncomputable def w50_c : Code := (Try.f50.body).getD .skip
theorem w50_h : Try.f50.body = some w50_c := by kernel_rfl
theorem w50F (D50 : (Int) → Option (ByteArray)) (W50 : ∀ (a0 : Int) (r : ByteArray) (h : D50 a0 = some r), Ab.Fn Try.prog TT 50 [.i .u64 a0] (.str r) []) (a0 : Int) (r : ByteArray) (h : d50F D50 a0 = some r) : Ab.Fn Try.prog TT 50 [.i .u64 a0] (.str r) [] := by
  refine fn_pure tok W0 Try.func50 (by kernel_rfl) w50_h (by kernel_rfl) ?_
  intro ar un cv mn mx pl mi cmp nt beq an scmp cat slen sbyte ssub ofB toB len gi gb gs gl sub put app ovl rep ne0 ge0 inb bnd room sroom need br call loop cut nl E R K hK
  have D := E.D
  clear E
  unfold d50F at h
  cbv
  refine R.cut' (by kernel_rfl) (by kernel_rfl) ?_
  cbv
  refine R.brD h (by (first | rfl | (simp only [D.har, D.hbnd, D.hcat, D.hcmp, D.hne0, D.hslen, D.hsroom, D.hssub]; done) | (simp only [D.har, D.hbnd, D.hcat, D.hcmp, D.hne0, D.hslen, D.hsroom, D.hssub]; rfl))) ?_ ?_ <;> clear h <;> intro h <;> cbv
  · refine R.needD h (by (first | rfl | (simp only [D.har, D.hbnd, D.hcat, D.hcmp, D.hne0, D.hslen, D.hsroom, D.hssub]; done) | (simp only [D.har, D.hbnd, D.hcat, D.hcmp, D.hne0, D.hslen, D.hsroom, D.hssub]; rfl))) ?_
    clear h; intro h; cbv
    have e := ret_some h; clear h
    refine hK _ _ ?_
    cbv
    try (subst e; simp only [D.har, D.hbnd, D.hcat, D.hcmp, D.hne0, D.hslen, D.hsroom, D.hssub, and_self, and_true, true_and] <;> (repeat' apply And.intro) <;> rfl)
  · refine R.needD h (by (first | rfl | (simp only [D.har, D.hbnd, D.hcat, D.hcmp, D.hne0, D.hslen, D.hsroom, D.hssub]; done) | (simp only [D.har, D.hbnd, D.hcat, D.hcmp, D.hne0, D.hslen, D.hsroom, D.hssub]; rfl))) ?_
    clear h; intro h; cbv
    refine R.callD h (fun x1 hx1 h2 => ?_)
    clear h; have h := h2; clear h2
    refine R.call' (W50 _ _ hx1) (by (first | rfl | (simp only [D.har, D.hbnd, D.hcat, D.hcmp, D.hne0, D.hslen, D.hsroom, D.hssub]; done) | (simp only [D.har, D.hbnd, D.hcat, D.hcmp, D.hne0, D.hslen, D.hsroom, D.hssub]; rfl))) ?_
    clear hx1; cbv
    refine R.needD h (by (first | rfl | (simp only [D.har, D.hbnd, D.hcat, D.hcmp, D.hne0, D.hslen, D.hsroom, D.hssub]; done) | (simp only [D.har, D.hbnd, D.hcat, D.hcmp, D.hne0, D.hslen, D.hsroom, D.hssub]; rfl))) ?_
    clear h; intro h; cbv
    refine R.callD h (fun x2 hx2 h2 => ?_)
    clear h; have h := h2; clear h2
    refine R.call' (W50 _ _ hx2) (by (first | rfl | (simp only [D.har, D.hbnd, D.hcat, D.hcmp, D.hne0, D.hslen, D.hsroom, D.hssub]; done) | (simp only [D.har, D.hbnd, D.hcat, D.hcmp, D.hne0, D.hslen, D.hsroom, D.hssub]; rfl))) ?_
    clear hx2; cbv
    refine R.needD h (by (first | rfl | (simp only [D.har, D.hbnd, D.hcat, D.hcmp, D.hne0, D.hslen, D.hsroom, D.hssub]; done) | (simp only [D.har, D.hbnd, D.hcat, D.hcmp, D.hne0, D.hslen, D.hsroom, D.hssub]; rfl))) ?_
    clear h; intro h; cbv
    have e := ret_some h; clear h
    refine hK _ _ ?_
    cbv
    try (subst e; simp only [D.har, D.hbnd, D.hcat, D.hcmp, D.hne0, D.hslen, D.hsroom, D.hssub, and_self, and_true, true_and] <;> (repeat' apply And.intro) <;> rfl)
noncomputable def d50R : Nat → (Int) → Option (ByteArray)
  | 0 => fun _ => none
  | n + 1 => d50F (d50R n)
theorem w50R (n : Nat) : ∀ (a0 : Int) (r : ByteArray) (h : d50R n a0 = some r), Ab.Fn Try.prog TT 50 [.i .u64 a0] (.str r) [] := by
  induction n with
  | zero => intro a0 r h; cases h
  | succ n ih => exact w50F (d50R n) ih
noncomputable def d50 (a0 : Int) : Option (ByteArray) := d50R 22 a0
theorem w50 (a0 : Int) (r : ByteArray) (h : d50 a0 = some r) : Ab.Fn Try.prog TT 50 [.i .u64 a0] (.str r) [] := w50R 22 a0 r h

noncomputable def d25 (a0_0 : Int) (a0_1 : Bool) (a1 : Int) : Option (ByteArray × Int) :=
  (d47 a0_0 a0_1).bind fun x2 =>
  if (cmpLit .neq x2 0) = true then
    some (ByteArray.empty, x2)
  else
    (d49 a0_0 a0_1 a1).bind fun x3 =>
    Option.bind (α := Bool) (
      if a0_1 = true then
        some (cmpLit .lss x3 0)
      else
        some false) fun y7 =>
    if y7 = true then
      (d50 (arReal .add .u64 (wrapK .u64 (unReal .neg .i64 (arReal .add .i64 x3 1))) 1)).bind fun x9 =>
      if (Sroom (ByteArray.mk #[45]) x9) then
        some ((catS (ByteArray.mk #[45]) x9), 0)
      else none
    else
      (d50 (wrapK .u64 x3)).bind fun x10 =>
      some (x10, 0)
noncomputable def w25_c : Code := (Try.f25.body).getD .skip
theorem w25_h : Try.f25.body = some w25_c := by kernel_rfl
theorem w25 (a0_0 : Int) (a0_1 : Bool) (a1 : Int) (r : ByteArray × Int) (h : d25 a0_0 a0_1 a1 = some r) : Ab.Fn Try.prog TT 25 [.agg [.i .i64 a0_0, .b a0_1], .i .i64 a1] (.tup [.str r.1, .i .i64 r.2]) [] := by
  refine fn_pure tok W0 Try.func25 (by kernel_rfl) w25_h (by kernel_rfl) ?_
  intro ar un cv mn mx pl mi cmp nt beq an scmp cat slen sbyte ssub ofB toB len gi gb gs gl sub put app ovl rep ne0 ge0 inb bnd room sroom need br call loop cut nl E R K hK
  have D := E.D
  clear E
  unfold d25 at h
  cbv
  refine R.cut' (by kernel_rfl) (by kernel_rfl) ?_
  cbv
  refine R.callD h (fun x2 hx2 h2 => ?_)
  clear h; have h := h2; clear h2
  refine R.call' (w47 _ _ _ hx2) (by (first | rfl | (simp only [D.har, D.hcat, D.hcmp, D.hcv, D.hsroom, D.hun]; done) | (simp only [D.har, D.hcat, D.hcmp, D.hcv, D.hsroom, D.hun]; rfl))) ?_
  clear hx2; cbv
  refine R.brD h (by (first | rfl | (simp only [D.har, D.hcat, D.hcmp, D.hcv, D.hsroom, D.hun]; done) | (simp only [D.har, D.hcat, D.hcmp, D.hcv, D.hsroom, D.hun]; rfl))) ?_ ?_ <;> clear h <;> intro h <;> cbv
  · have e := ret_some h; clear h
    refine hK _ _ ?_
    cbv
    try (subst e; simp only [D.har, D.hcat, D.hcmp, D.hcv, D.hsroom, D.hun, and_self, and_true, true_and] <;> (repeat' apply And.intro) <;> rfl)
  · refine R.callD h (fun x3 hx3 h2 => ?_)
    clear h; have h := h2; clear h2
    refine R.call' (w49 _ _ _ _ hx3) (by (first | rfl | (simp only [D.har, D.hcat, D.hcmp, D.hcv, D.hsroom, D.hun]; done) | (simp only [D.har, D.hcat, D.hcmp, D.hcv, D.hsroom, D.hun]; rfl))) ?_
    clear hx3; cbv
    refine R.cut' (by kernel_rfl) (by kernel_rfl) ?_
    cbv
    refine R.cutB (fun p => p) (fun _ _ e => e) h [] (fun p8 => [(20, .b p8)]) (fun p8 => []) (by kernel_rfl) (by kernel_rfl) (fun y7 hy hFy7 L hLy7 => ?_) (fun p8 h2 => ?_)
    · clear h; have h := hy; clear hy; cbv
      refine R.brD h (by (first | rfl | (simp only [D.har, D.hcat, D.hcmp, D.hcv, D.hsroom, D.hun]; done) | (simp only [D.har, D.hcat, D.hcmp, D.hcv, D.hsroom, D.hun]; rfl))) ?_ ?_ <;> clear h <;> intro h <;> cbv
      · obtain ⟨s', e, hi⟩ := jn_some (fun p => p) h
        refine hLy7 s' _ _ hi ⟨rfl, ?_, ?_, rfl, rfl⟩ <;> cbv <;> (try (subst e; simp only [D.har, D.hcat, D.hcmp, D.hcv, D.hsroom, D.hun, and_self, and_true, true_and] <;> (repeat' apply And.intro) <;> rfl))
      · obtain ⟨s', e, hi⟩ := jn_some (fun p => p) h
        refine hLy7 s' _ _ hi ⟨rfl, ?_, ?_, rfl, rfl⟩ <;> cbv <;> (try (subst e; simp only [D.har, D.hcat, D.hcmp, D.hcv, D.hsroom, D.hun, and_self, and_true, true_and] <;> (repeat' apply And.intro) <;> rfl))
    · clear h; have h := h2; clear h2; try dsimp only at h
      cbv
      refine R.brD h (by (first | rfl | (simp only [D.har, D.hcat, D.hcmp, D.hcv, D.hsroom, D.hun]; done) | (simp only [D.har, D.hcat, D.hcmp, D.hcv, D.hsroom, D.hun]; rfl))) ?_ ?_ <;> clear h <;> intro h <;> cbv
      · refine R.callD h (fun x9 hx9 h2 => ?_)
        clear h; have h := h2; clear h2
        refine R.call' (w50 _ _ hx9) (by (first | rfl | (simp only [D.har, D.hcat, D.hcmp, D.hcv, D.hsroom, D.hun]; done) | (simp only [D.har, D.hcat, D.hcmp, D.hcv, D.hsroom, D.hun]; rfl))) ?_
        clear hx9; cbv
        refine R.needD h (by (first | rfl | (simp only [D.har, D.hcat, D.hcmp, D.hcv, D.hsroom, D.hun]; done) | (simp only [D.har, D.hcat, D.hcmp, D.hcv, D.hsroom, D.hun]; rfl))) ?_
        clear h; intro h; cbv
        have e := ret_some h; clear h
        refine hK _ _ ?_
        cbv
        try (subst e; simp only [D.har, D.hcat, D.hcmp, D.hcv, D.hsroom, D.hun, and_self, and_true, true_and] <;> (repeat' apply And.intro) <;> rfl)
      · refine R.callD h (fun x10 hx10 h2 => ?_)
        clear h; have h := h2; clear h2
        refine R.call' (w50 _ _ hx10) (by (first | rfl | (simp only [D.har, D.hcat, D.hcmp, D.hcv, D.hsroom, D.hun]; done) | (simp only [D.har, D.hcat, D.hcmp, D.hcv, D.hsroom, D.hun]; rfl))) ?_
        clear hx10; cbv
        have e := ret_some h; clear h
        refine hK _ _ ?_
        cbv
        try (subst e; simp only [D.har, D.hcat, D.hcmp, D.hcv, D.hsroom, D.hun, and_self, and_true, true_and] <;> (repeat' apply And.intro) <;> rfl)
end Go.Proofs.Ytjcabmhnekcbgaa
end
section
namespace Go.Proofs.Ytjcabmhnekcbgaa
open Go.Ab Go.RowKit 
set_option maxRecDepth 100000
set_option maxHeartbeats 4000000
noncomputable def d85 (a0 : Int) : Option (Int) :=
  Option.bind (α := Bool) (
    if (cmpLit .geq a0 48) = true then
      some (cmpLit .leq a0 57)
    else
      some false) fun y5 =>
  if y5 = true then
    some (wrapK .i64 (arReal .sub .u8 a0 48))
  else
    Option.bind (α := Bool) (
      if (cmpLit .geq a0 97) = true then
        some (cmpLit .leq a0 102)
      else
        some false) fun y7 =>
    if y7 = true then
      some (arReal .add .i64 (wrapK .i64 (arReal .sub .u8 a0 97)) 10)
    else
      if (cmpLit .geq a0 65) = true then
        if (cmpLit .leq a0 70) = true then
          some (arReal .add .i64 (wrapK .i64 (arReal .sub .u8 a0 65)) 10)
        else
          some (-1)
      else
        some (-1)
noncomputable def w85_c : Code := (Try.f85.body).getD .skip
theorem w85_h : Try.f85.body = some w85_c := by kernel_rfl
theorem w85 (a0 : Int) (r : Int) (h : d85 a0 = some r) : Ab.Fn Try.prog TT 85 [.i .u8 a0] (.i .i64 r) [] := by
  refine fn_pure tok W0 Try.func85 (by kernel_rfl) w85_h (by kernel_rfl) ?_
  intro ar un cv mn mx pl mi cmp nt beq an scmp cat slen sbyte ssub ofB toB len gi gb gs gl sub put app ovl rep ne0 ge0 inb bnd room sroom need br call loop cut nl E R K hK
  have D := E.D
  clear E
  unfold d85 at h
  cbv
  refine R.cut' (by kernel_rfl) (by kernel_rfl) ?_
  cbv
  refine R.cutB (fun p => p) (fun _ _ e => e) h [] (fun p6 => [(3, .b p6)]) (fun p6 => []) (by kernel_rfl) (by kernel_rfl) (fun y5 hy hFy5 L hLy5 => ?_) (fun p6 h2 => ?_)
  · clear h; have h := hy; clear hy; cbv
    refine R.brD h (by (first | rfl | (simp only [D.har, D.hcmp, D.hcv]; done) | (simp only [D.har, D.hcmp, D.hcv]; rfl))) ?_ ?_ <;> clear h <;> intro h <;> cbv
    · obtain ⟨s', e, hi⟩ := jn_some (fun p => p) h
      refine hLy5 s' _ _ hi ⟨rfl, ?_, ?_, rfl, rfl⟩ <;> cbv <;> (try (subst e; simp only [D.har, D.hcmp, D.hcv, and_self, and_true, true_and] <;> (repeat' apply And.intro) <;> rfl))
    · obtain ⟨s', e, hi⟩ := jn_some (fun p => p) h
      refine hLy5 s' _ _ hi ⟨rfl, ?_, ?_, rfl, rfl⟩ <;> cbv <;> (try (subst e; simp only [D.har, D.hcmp, D.hcv, and_self, and_true, true_and] <;> (repeat' apply And.intro) <;> rfl))
  · clear h; have h := h2; clear h2; try dsimp only at h
    cbv
    refine R.brD h (by (first | rfl | (simp only [D.har, D.hcmp, D.hcv]; done) | (simp only [D.har, D.hcmp, D.hcv]; rfl))) ?_ ?_ <;> clear h <;> intro h <;> cbv
    · have e := ret_some h; clear h
      refine hK _ _ ?_
      cbv
      try (subst e; simp only [D.har, D.hcmp, D.hcv, and_self, and_true, true_and] <;> (repeat' apply And.intro) <;> rfl)
    · refine R.cutB (fun p => p) (fun _ _ e => e) h [] (fun p8 => [(13, .b p8)]) (fun p8 => []) (by kernel_rfl) (by kernel_rfl) (fun y7 hy hFy7 L hLy7 => ?_) (fun p8 h2 => ?_)
      · clear h; have h := hy; clear hy; cbv
        refine R.brD h (by (first | rfl | (simp only [D.har, D.hcmp, D.hcv]; done) | (simp only [D.har, D.hcmp, D.hcv]; rfl))) ?_ ?_ <;> clear h <;> intro h <;> cbv
        · obtain ⟨s', e, hi⟩ := jn_some (fun p => p) h
          refine hLy7 s' _ _ hi ⟨rfl, ?_, ?_, rfl, rfl⟩ <;> cbv <;> (try (subst e; simp only [D.har, D.hcmp, D.hcv, and_self, and_true, true_and] <;> (repeat' apply And.intro) <;> rfl))
        · obtain ⟨s', e, hi⟩ := jn_some (fun p => p) h
          refine hLy7 s' _ _ hi ⟨rfl, ?_, ?_, rfl, rfl⟩ <;> cbv <;> (try (subst e; simp only [D.har, D.hcmp, D.hcv, and_self, and_true, true_and] <;> (repeat' apply And.intro) <;> rfl))
      · clear h; have h := h2; clear h2; try dsimp only at h
        cbv
        refine R.brD h (by (first | rfl | (simp only [D.har, D.hcmp, D.hcv]; done) | (simp only [D.har, D.hcmp, D.hcv]; rfl))) ?_ ?_ <;> clear h <;> intro h <;> cbv
        · have e := ret_some h; clear h
          refine hK _ _ ?_
          cbv
          try (subst e; simp only [D.har, D.hcmp, D.hcv, and_self, and_true, true_and] <;> (repeat' apply And.intro) <;> rfl)
        · refine R.cut' (by kernel_rfl) (by kernel_rfl) ?_
          cbv
          refine R.brD h (by (first | rfl | (simp only [D.har, D.hcmp, D.hcv]; done) | (simp only [D.har, D.hcmp, D.hcv]; rfl))) ?_ ?_ <;> clear h <;> intro h <;> cbv
          · refine R.brD h (by (first | rfl | (simp only [D.har, D.hcmp, D.hcv]; done) | (simp only [D.har, D.hcmp, D.hcv]; rfl))) ?_ ?_ <;> clear h <;> intro h <;> cbv
            · have e := ret_some h; clear h
              refine hK _ _ ?_
              cbv
              try (subst e; simp only [D.har, D.hcmp, D.hcv, and_self, and_true, true_and] <;> (repeat' apply And.intro) <;> rfl)
            · have e := ret_some h; clear h
              refine hK _ _ ?_
              cbv
              try (subst e; simp only [D.har, D.hcmp, D.hcv, and_self, and_true, true_and] <;> (repeat' apply And.intro) <;> rfl)
          · have e := ret_some h; clear h
            refine hK _ _ ?_
            cbv
            try (subst e; simp only [D.har, D.hcmp, D.hcv, and_self, and_true, true_and] <;> (repeat' apply And.intro) <;> rfl)

noncomputable def d51_b1 (a0 : ByteArray) (a1 : Int) (s10 : Int × Int) : Option ((Int × Int) ⊕ ((Int × Bool) ⊕ (Int))) :=
  if (cmpLit .lss s10.2 (slenI a0)) = true then
    if (Inb s10.2 (slenI a0)) then
      (d85 (sbyteI a0 s10.2)).bind fun x15 =>
      if (cmpLit .lss x15 0) = true then
        some (.inr (.inl (0, false)))
      else
        if (cmpLit .geq (wrapK .u64 x15) a1) = true then
          some (.inr (.inl (0, false)))
        else
          if (Ne0 a1) then
            if (cmpLit .gtr s10.1 (arReal .quo .u64 (arReal .sub .u64 18446744073709551615 (wrapK .u64 x15)) a1)) = true then
              some (.inr (.inl (0, false)))
            else
              some (.inl ((arReal .add .u64 (arReal .mul .u64 a1 s10.1) (wrapK .u64 x15)), (arReal .add .i64 s10.2 1)))
          else none
    else none
  else
    some (.inr (.inr s10.1))
noncomputable def d51 (a0 : ByteArray) (a1 : Int) : Option (Int × Bool) :=
  Option.bind (α := (Int) ⊕ (Int × Bool)) (
    (iter (d51_b1 a0 a1) (0, 0)).bind fun y13 =>
    match y13 with
    | .inl p16 =>
      some (.inr p16)
    | .inr y13r0 =>
      some (.inl y13r0)) fun y7 =>
  match y7 with
  | .inl p18 =>
    some (p18, (cmpLit .gtr (slenI a0) 0))
  | .inr y7r0 =>
    some y7r0
noncomputable def w51_c : Code := (Try.f51.body).getD .skip
theorem w51_h : Try.f51.body = some w51_c := by kernel_rfl
theorem w51 (a0 : ByteArray) (a1 : Int) (r : Int × Bool) (h : d51 a0 a1 = some r) : Ab.Fn Try.prog TT 51 [.str a0, .i .u64 a1] (.tup [.i .u64 r.1, .b r.2]) [] := by
  refine fn_pure tok W0 Try.func51 (by kernel_rfl) w51_h (by kernel_rfl) ?_
  intro ar un cv mn mx pl mi cmp nt beq an scmp cat slen sbyte ssub ofB toB len gi gb gs gl sub put app ovl rep ne0 ge0 inb bnd room sroom need br call loop cut nl E R K hK
  have D := E.D
  clear E
  unfold d51 at h
  cbv
  refine R.cutB Sum.inl (fun _ _ e => Sum.inl.inj e) h [] (fun p18 => [(6, .i .u64 p18)]) (fun p18 => []) (by kernel_rfl) (by kernel_rfl) (fun y7 hy hFy7 L hLy7 => ?_) (fun p18 h2 => ?_)
  · clear h; have h := hy; clear hy; cbv
    refine R.loopD h (fun s0 y13 e0 hi hFs10 => ?_)
    clear h
    refine R.loopI hi [] (fun s10 => [(6, .i .u64 s10.1), (7, .i .i64 s10.2)]) (fun s10 => []) ⟨rfl, ?_, ?_, rfl, rfl⟩ (by kernel_rfl) ?_
    · cbv; try (subst e0; simp only [D.har, D.hcmp, D.hcv, D.hinb, D.hne0, D.hsbyte, D.hslen, and_self, and_true, true_and] <;> (repeat' apply And.intro) <;> rfl)
    · cbv; try (subst e0; simp only [D.har, D.hcmp, D.hcv, D.hinb, D.hne0, D.hsbyte, D.hslen, and_self, and_true, true_and] <;> (repeat' apply And.intro) <;> rfl)
    clear hi e0
    intro s10 m y' hy hins10 houts10 L hLs10
    have h := hy; clear hy; unfold d51_b1 at h
    cbv
    refine R.cut' (by kernel_rfl) (by kernel_rfl) ?_
    cbv
    refine R.brD h (by (first | rfl | (simp only [D.har, D.hcmp, D.hcv, D.hinb, D.hne0, D.hsbyte, D.hslen]; done) | (simp only [D.har, D.hcmp, D.hcv, D.hinb, D.hne0, D.hsbyte, D.hslen]; rfl))) ?_ ?_ <;> clear h <;> intro h <;> cbv
    · refine R.cut' (by kernel_rfl) (by kernel_rfl) ?_
      cbv
      refine R.needD h (by (first | rfl | (simp only [D.har, D.hcmp, D.hcv, D.hinb, D.hne0, D.hsbyte, D.hslen]; done) | (simp only [D.har, D.hcmp, D.hcv, D.hinb, D.hne0, D.hsbyte, D.hslen]; rfl))) ?_
      clear h; intro h; cbv
      refine R.callD h (fun x15 hx15 h2 => ?_)
      clear h; have h := h2; clear h2
      refine R.call' (w85 _ _ hx15) (by (first | rfl | (simp only [D.har, D.hcmp, D.hcv, D.hinb, D.hne0, D.hsbyte, D.hslen]; done) | (simp only [D.har, D.hcmp, D.hcv, D.hinb, D.hne0, D.hsbyte, D.hslen]; rfl))) ?_
      clear hx15; cbv
      refine R.cut' (by kernel_rfl) (by kernel_rfl) ?_
      cbv
      refine R.cut' (by kernel_rfl) (by kernel_rfl) ?_
      cbv
      refine R.brD h (by (first | rfl | (simp only [D.har, D.hcmp, D.hcv, D.hinb, D.hne0, D.hsbyte, D.hslen]; done) | (simp only [D.har, D.hcmp, D.hcv, D.hinb, D.hne0, D.hsbyte, D.hslen]; rfl))) ?_ ?_ <;> clear h <;> intro h <;> cbv
      · have e := inr_some h houts10; clear h
        have h := hFs10; rw [e] at h; clear e; try dsimp only at h
        cbv
        have e := ret_some h; clear h
        have h := hFy7; rw [e] at h; clear e; try dsimp only at h
        cbv
        have e := ret_some h; clear h
        refine hK _ _ ?_
        cbv
        try (subst e; simp only [D.har, D.hcmp, D.hcv, D.hinb, D.hne0, D.hsbyte, D.hslen, and_self, and_true, true_and] <;> (repeat' apply And.intro) <;> rfl)
      · refine R.brD h (by (first | rfl | (simp only [D.har, D.hcmp, D.hcv, D.hinb, D.hne0, D.hsbyte, D.hslen]; done) | (simp only [D.har, D.hcmp, D.hcv, D.hinb, D.hne0, D.hsbyte, D.hslen]; rfl))) ?_ ?_ <;> clear h <;> intro h <;> cbv
        · have e := inr_some h houts10; clear h
          have h := hFs10; rw [e] at h; clear e; try dsimp only at h
          cbv
          have e := ret_some h; clear h
          have h := hFy7; rw [e] at h; clear e; try dsimp only at h
          cbv
          have e := ret_some h; clear h
          refine hK _ _ ?_
          cbv
          try (subst e; simp only [D.har, D.hcmp, D.hcv, D.hinb, D.hne0, D.hsbyte, D.hslen, and_self, and_true, true_and] <;> (repeat' apply And.intro) <;> rfl)
        · refine R.cut' (by kernel_rfl) (by kernel_rfl) ?_
          cbv
          refine R.needD h (by (first | rfl | (simp only [D.har, D.hcmp, D.hcv, D.hinb, D.hne0, D.hsbyte, D.hslen]; done) | (simp only [D.har, D.hcmp, D.hcv, D.hinb, D.hne0, D.hsbyte, D.hslen]; rfl))) ?_
          clear h; intro h; cbv
          refine R.brD h (by (first | rfl | (simp only [D.har, D.hcmp, D.hcv, D.hinb, D.hne0, D.hsbyte, D.hslen]; done) | (simp only [D.har, D.hcmp, D.hcv, D.hinb, D.hne0, D.hsbyte, D.hslen]; rfl))) ?_ ?_ <;> clear h <;> intro h <;> cbv
          · have e := inr_some h houts10; clear h
            have h := hFs10; rw [e] at h; clear e; try dsimp only at h
            cbv
            have e := ret_some h; clear h
            have h := hFy7; rw [e] at h; clear e; try dsimp only at h
            cbv
            have e := ret_some h; clear h
            refine hK _ _ ?_
            cbv
            try (subst e; simp only [D.har, D.hcmp, D.hcv, D.hinb, D.hne0, D.hsbyte, D.hslen, and_self, and_true, true_and] <;> (repeat' apply And.intro) <;> rfl)
          · obtain ⟨s', e, hi⟩ := inl_some h hins10
            refine hLs10 s' _ _ hi ⟨rfl, ?_, ?_, rfl, rfl⟩ <;> cbv <;> (try (subst e; simp only [D.har, D.hcmp, D.hcv, D.hinb, D.hne0, D.hsbyte, D.hslen, and_self, and_true, true_and] <;> (repeat' apply And.intro) <;> rfl))
    · have e := inr_some h houts10; clear h
      have h := hFs10; rw [e] at h; clear e; try dsimp only at h
      cbv
      obtain ⟨s', e, hi⟩ := jn_some Sum.inl h
      refine hLy7 s' _ _ hi ⟨rfl, ?_, ?_, rfl, rfl⟩ <;> cbv <;> (try (subst e; simp only [D.har, D.hcmp, D.hcv, D.hinb, D.hne0, D.hsbyte, D.hslen, and_self, and_true, true_and] <;> (repeat' apply And.intro) <;> rfl))
  · clear h; have h := h2; clear h2; try dsimp only at h
    cbv
    have e := ret_some h; clear h
    refine hK _ _ ?_
    cbv
    try (subst e; simp only [D.har, D.hcmp, D.hcv, D.hinb, D.hne0, D.hsbyte, D.hslen, and_self, and_true, true_and] <;> (repeat' apply And.intro) <;> rfl)
end Go.Proofs.Ytjcabmhnekcbgaa
end
section
namespace Go.Proofs.Ytjcabmhnekcbgaa
open Go.Ab Go.RowKit 
set_option maxRecDepth 100000
set_option maxHeartbeats 4000000
noncomputable def d26 (a0_0 : Int) (a0_1 : Bool) (a1 : ByteArray) : Option (Int × Int) :=
  (d47 a0_0 a0_1).bind fun x2 =>
  if (cmpLit .neq x2 0) = true then
    some (0, x2)
  else
    if (cmpLit .gtr (slenI a1) 20) = true then
      some (0, 13)
    else
      Option.bind (α := Bool) (
        if (cmpLit .gtr (slenI a1) 0) = true then
          if (Inb 0 (slenI a1)) then
            some (cmpLit .eql (sbyteI a1 0) 45)
          else none
        else
          some false) fun y3 =>
      Option.bind (α := Bool) (
        if (cmpLit .gtr (slenI a1) 2) = true then
          if (Inb 0 (slenI a1)) then
            if (cmpLit .eql (sbyteI a1 0) 48) = true then
              if (Inb 1 (slenI a1)) then
                some (cmpLit .eql (sbyteI a1 1) 120)
              else none
            else
              some false
          else none
        else
          some false) fun y5 =>
      Option.bind (α := Int × Bool) (
        if y5 = true then
          if (Bnd 2 (slenI a1) (slenI a1)) then
            (d51 (subS a1 2 (slenI a1)) 16).bind fun x11 =>
            if x11.2 = true then
              some (x11.1, (cmpLit .leq (slenI a1) 18))
            else
              some (x11.1, false)
          else none
        else
          if y3 = true then
            if (Bnd 1 (slenI a1) (slenI a1)) then
              (d51 (subS a1 1 (slenI a1)) 10).bind fun x12 =>
              some (x12.1, x12.2)
            else none
          else
            (d51 a1 10).bind fun x13 =>
            some (x13.1, x13.2)) fun y10 =>
      Option.bind (α := Int) (
        if y3 = true then
          some (unReal .neg .i64 (wrapK .i64 y10.1))
        else
          some (wrapK .i64 y10.1)) fun y15 =>
      if (notB' y10.2) = true then
        some (0, 13)
      else
        (d49 a0_0 a0_1 y15).bind fun x20 =>
        if (cmpLit .neq x20 y15) = true then
          some (0, 13)
        else
          (d25 a0_0 a0_1 y15).bind fun x21 =>
          Option.bind (α := Bool) (
            if (notB' y5) = true then
              if (strCmp .neq x21.1 a1) = true then
                some true
              else
                if y5 = true then
                  (d50 y10.1).bind fun x29 =>
                  some (strCmp .neq x21.1 x29)
                else
                  some false
            else
              if y5 = true then
                (d50 y10.1).bind fun x30 =>
                some (strCmp .neq x21.1 x30)
              else
                some false) fun y28 =>
          if y28 = true then
            some (0, 13)
          else
            some (y15, 0)
noncomputable def w26_c : Code := (Try.f26.body).getD .skip
theorem w26_h : Try.f26.body = some w26_c := by kernel_rfl
theorem w26 (a0_0 : Int) (a0_1 : Bool) (a1 : ByteArray) (r : Int × Int) (h : d26 a0_0 a0_1 a1 = some r) : Ab.Fn Try.prog TT 26 [.agg [.i .i64 a0_0, .b a0_1], .str a1] (.tup [.i .i64 r.1, .i .i64 r.2]) [] := by
  refine fn_pure tok W0 Try.func26 (by kernel_rfl) w26_h (by kernel_rfl) ?_
  intro ar un cv mn mx pl mi cmp nt beq an scmp cat slen sbyte ssub ofB toB len gi gb gs gl sub put app ovl rep ne0 ge0 inb bnd room sroom need br call loop cut nl E R K hK
  have D := E.D
  clear E
  unfold d26 at h
  cbv
  refine R.cut' (by kernel_rfl) (by kernel_rfl) ?_
  cbv
  refine R.callD h (fun x2 hx2 h2 => ?_)
  clear h; have h := h2; clear h2
  refine R.call' (w47 _ _ _ hx2) (by (first | rfl | (simp only [D.hbnd, D.hcmp, D.hcv, D.hinb, D.hnt, D.hsbyte, D.hscmp, D.hslen, D.hssub, D.hun]; done) | (simp only [D.hbnd, D.hcmp, D.hcv, D.hinb, D.hnt, D.hsbyte, D.hscmp, D.hslen, D.hssub, D.hun]; rfl))) ?_
  clear hx2; cbv
  refine R.brD h (by (first | rfl | (simp only [D.hbnd, D.hcmp, D.hcv, D.hinb, D.hnt, D.hsbyte, D.hscmp, D.hslen, D.hssub, D.hun]; done) | (simp only [D.hbnd, D.hcmp, D.hcv, D.hinb, D.hnt, D.hsbyte, D.hscmp, D.hslen, D.hssub, D.hun]; rfl))) ?_ ?_ <;> clear h <;> intro h <;> cbv
  · have e := ret_some h; clear h
    refine hK _ _ ?_
    cbv
    try (subst e; simp only [D.hbnd, D.hcmp, D.hcv, D.hinb, D.hnt, D.hsbyte, D.hscmp, D.hslen, D.hssub, D.hun, and_self, and_true, true_and] <;> (repeat' apply And.intro) <;> rfl)
  · as_aux_lemma =>
    refine R.cut' (by kernel_rfl) (by kernel_rfl) ?_
    cbv
    refine R.brD h (by (first | rfl | (simp only [D.hbnd, D.hcmp, D.hcv, D.hinb, D.hnt, D.hsbyte, D.hscmp, D.hslen, D.hssub, D.hun]; done) | (simp only [D.hbnd, D.hcmp, D.hcv, D.hinb, D.hnt, D.hsbyte, D.hscmp, D.hslen, D.hssub, D.hun]; rfl))) ?_ ?_ <;> clear h <;> intro h <;> cbv
    · have e := ret_some h; clear h
      refine hK _ _ ?_
      cbv
      try (subst e; simp only [D.hbnd, D.hcmp, D.hcv, D.hinb, D.hnt, D.hsbyte, D.hscmp, D.hslen, D.hssub, D.hun, and_self, and_true, true_and] <;> (repeat' apply And.intro) <;> rfl)
    · as_aux_lemma =>
      refine R.cutB (fun p => p) (fun _ _ e => e) h [] (fun p4 => [(7, .b p4)]) (fun p4 => []) (by kernel_rfl) (by kernel_rfl) (fun y3 hy hFy3 L hLy3 => ?_) (fun p4 h2 => ?_)
      · clear h; have h := hy; clear hy; cbv
        refine R.brD h (by (first | rfl | (simp only [D.hbnd, D.hcmp, D.hcv, D.hinb, D.hnt, D.hsbyte, D.hscmp, D.hslen, D.hssub, D.hun]; done) | (simp only [D.hbnd, D.hcmp, D.hcv, D.hinb, D.hnt, D.hsbyte, D.hscmp, D.hslen, D.hssub, D.hun]; rfl))) ?_ ?_ <;> clear h <;> intro h <;> cbv
        · refine R.needD h (by (first | rfl | (simp only [D.hbnd, D.hcmp, D.hcv, D.hinb, D.hnt, D.hsbyte, D.hscmp, D.hslen, D.hssub, D.hun]; done) | (simp only [D.hbnd, D.hcmp, D.hcv, D.hinb, D.hnt, D.hsbyte, D.hscmp, D.hslen, D.hssub, D.hun]; rfl))) ?_
          clear h; intro h; cbv
          obtain ⟨s', e, hi⟩ := jn_some (fun p => p) h
          refine hLy3 s' _ _ hi ⟨rfl, ?_, ?_, rfl, rfl⟩ <;> cbv <;> (try (subst e; simp only [D.hbnd, D.hcmp, D.hcv, D.hinb, D.hnt, D.hsbyte, D.hscmp, D.hslen, D.hssub, D.hun, and_self, and_true, true_and] <;> (repeat' apply And.intro) <;> rfl))
        · obtain ⟨s', e, hi⟩ := jn_some (fun p => p) h
          refine hLy3 s' _ _ hi ⟨rfl, ?_, ?_, rfl, rfl⟩ <;> cbv <;> (try (subst e; simp only [D.hbnd, D.hcmp, D.hcv, D.hinb, D.hnt, D.hsbyte, D.hscmp, D.hslen, D.hssub, D.hun, and_self, and_true, true_and] <;> (repeat' apply And.intro) <;> rfl))
      · as_aux_lemma =>
        clear h; have h := h2; clear h2; try dsimp only at h
        cbv
        refine R.cutB (fun p => p) (fun _ _ e => e) h [] (fun p6 => [(8, .b p6)]) (fun p6 => []) (by kernel_rfl) (by kernel_rfl) (fun y5 hy hFy5 L hLy5 => ?_) (fun p6 h2 => ?_)
        · clear h; have h := hy; clear hy; cbv
          refine R.brD h (by (first | rfl | (simp only [D.hbnd, D.hcmp, D.hcv, D.hinb, D.hnt, D.hsbyte, D.hscmp, D.hslen, D.hssub, D.hun]; done) | (simp only [D.hbnd, D.hcmp, D.hcv, D.hinb, D.hnt, D.hsbyte, D.hscmp, D.hslen, D.hssub, D.hun]; rfl))) ?_ ?_ <;> clear h <;> intro h <;> cbv
          · refine R.needD h (by (first | rfl | (simp only [D.hbnd, D.hcmp, D.hcv, D.hinb, D.hnt, D.hsbyte, D.hscmp, D.hslen, D.hssub, D.hun]; done) | (simp only [D.hbnd, D.hcmp, D.hcv, D.hinb, D.hnt, D.hsbyte, D.hscmp, D.hslen, D.hssub, D.hun]; rfl))) ?_
            clear h; intro h; cbv
            refine R.brD h (by (first | rfl | (simp only [D.hbnd, D.hcmp, D.hcv, D.hinb, D.hnt, D.hsbyte, D.hscmp, D.hslen, D.hssub, D.hun]; done) | (simp only [D.hbnd, D.hcmp, D.hcv, D.hinb, D.hnt, D.hsbyte, D.hscmp, D.hslen, D.hssub, D.hun]; rfl))) ?_ ?_ <;> clear h <;> intro h <;> cbv
            · refine R.needD h (by (first | rfl | (simp only [D.hbnd, D.hcmp, D.hcv, D.hinb, D.hnt, D.hsbyte, D.hscmp, D.hslen, D.hssub, D.hun]; done) | (simp only [D.hbnd, D.hcmp, D.hcv, D.hinb, D.hnt, D.hsbyte, D.hscmp, D.hslen, D.hssub, D.hun]; rfl))) ?_
              clear h; intro h; cbv
              obtain ⟨s', e, hi⟩ := jn_some (fun p => p) h
              refine hLy5 s' _ _ hi ⟨rfl, ?_, ?_, rfl, rfl⟩ <;> cbv <;> (try (subst e; simp only [D.hbnd, D.hcmp, D.hcv, D.hinb, D.hnt, D.hsbyte, D.hscmp, D.hslen, D.hssub, D.hun, and_self, and_true, true_and] <;> (repeat' apply And.intro) <;> rfl))
            · obtain ⟨s', e, hi⟩ := jn_some (fun p => p) h
              refine hLy5 s' _ _ hi ⟨rfl, ?_, ?_, rfl, rfl⟩ <;> cbv <;> (try (subst e; simp only [D.hbnd, D.hcmp, D.hcv, D.hinb, D.hnt, D.hsbyte, D.hscmp, D.hslen, D.hssub, D.hun, and_self, and_true, true_and] <;> (repeat' apply And.intro) <;> rfl))
          · obtain ⟨s', e, hi⟩ := jn_some (fun p => p) h
            refine hLy5 s' _ _ hi ⟨rfl, ?_, ?_, rfl, rfl⟩ <;> cbv <;> (try (subst e; simp only [D.hbnd, D.hcmp, D.hcv, D.hinb, D.hnt, D.hsbyte, D.hscmp, D.hslen, D.hssub, D.hun, and_self, and_true, true_and] <;> (repeat' apply And.intro) <;> rfl))
        · as_aux_lemma =>
          clear h; have h := h2; clear h2; try dsimp only at h
          cbv
          refine R.cutB (fun p => p) (fun _ _ e => e) h [] (fun p14 => [(9, .i .u64 p14.1), (10, .b p14.2)]) (fun p14 => []) (by kernel_rfl) (by kernel_rfl) (fun y10 hy hFy10 L hLy10 => ?_) (fun p14 h2 => ?_)
          · clear h; have h := hy; clear hy; cbv
            refine R.brD h (by (first | rfl | (simp only [D.hbnd, D.hcmp, D.hcv, D.hinb, D.hnt, D.hsbyte, D.hscmp, D.hslen, D.hssub, D.hun]; done) | (simp only [D.hbnd, D.hcmp, D.hcv, D.hinb, D.hnt, D.hsbyte, D.hscmp, D.hslen, D.hssub, D.hun]; rfl))) ?_ ?_ <;> clear h <;> intro h <;> cbv
            · refine R.needD h (by (first | rfl | (simp only [D.hbnd, D.hcmp, D.hcv, D.hinb, D.hnt, D.hsbyte, D.hscmp, D.hslen, D.hssub, D.hun]; done) | (simp only [D.hbnd, D.hcmp, D.hcv, D.hinb, D.hnt, D.hsbyte, D.hscmp, D.hslen, D.hssub, D.hun]; rfl))) ?_
              clear h; intro h; cbv
              refine R.callD h (fun x11 hx11 h2 => ?_)
              clear h; have h := h2; clear h2
              refine R.call' (w51 _ _ _ hx11) (by (first | rfl | (simp only [D.hbnd, D.hcmp, D.hcv, D.hinb, D.hnt, D.hsbyte, D.hscmp, D.hslen, D.hssub, D.hun]; done) | (simp only [D.hbnd, D.hcmp, D.hcv, D.hinb, D.hnt, D.hsbyte, D.hscmp, D.hslen, D.hssub, D.hun]; rfl))) ?_
              clear hx11; cbv
              refine R.brD h (by (first | rfl | (simp only [D.hbnd, D.hcmp, D.hcv, D.hinb, D.hnt, D.hsbyte, D.hscmp, D.hslen, D.hssub, D.hun]; done) | (simp only [D.hbnd, D.hcmp, D.hcv, D.hinb, D.hnt, D.hsbyte, D.hscmp, D.hslen, D.hssub, D.hun]; rfl))) ?_ ?_ <;> clear h <;> intro h <;> cbv
              · obtain ⟨s', e, hi⟩ := jn_some (fun p => p) h
                refine hLy10 s' _ _ hi ⟨rfl, ?_, ?_, rfl, rfl⟩ <;> cbv <;> (try (subst e; simp only [D.hbnd, D.hcmp, D.hcv, D.hinb, D.hnt, D.hsbyte, D.hscmp, D.hslen, D.hssub, D.hun, and_self, and_true, true_and] <;> (repeat' apply And.intro) <;> rfl))
              · obtain ⟨s', e, hi⟩ := jn_some (fun p => p) h
                refine hLy10 s' _ _ hi ⟨rfl, ?_, ?_, rfl, rfl⟩ <;> cbv <;> (try (subst e; simp only [D.hbnd, D.hcmp, D.hcv, D.hinb, D.hnt, D.hsbyte, D.hscmp, D.hslen, D.hssub, D.hun, and_self, and_true, true_and] <;> (repeat' apply And.intro) <;> rfl))
            · refine R.brD h (by (first | rfl | (simp only [D.hbnd, D.hcmp, D.hcv, D.hinb, D.hnt, D.hsbyte, D.hscmp, D.hslen, D.hssub, D.hun]; done) | (simp only [D.hbnd, D.hcmp, D.hcv, D.hinb, D.hnt, D.hsbyte, D.hscmp, D.hslen, D.hssub, D.hun]; rfl))) ?_ ?_ <;> clear h <;> intro h <;> cbv
              · refine R.needD h (by (first | rfl | (simp only [D.hbnd, D.hcmp, D.hcv, D.hinb, D.hnt, D.hsbyte, D.hscmp, D.hslen, D.hssub, D.hun]; done) | (simp only [D.hbnd, D.hcmp, D.hcv, D.hinb, D.hnt, D.hsbyte, D.hscmp, D.hslen, D.hssub, D.hun]; rfl))) ?_
                clear h; intro h; cbv
                refine R.callD h (fun x12 hx12 h2 => ?_)
                clear h; have h := h2; clear h2
                refine R.call' (w51 _ _ _ hx12) (by (first | rfl | (simp only [D.hbnd, D.hcmp, D.hcv, D.hinb, D.hnt, D.hsbyte, D.hscmp, D.hslen, D.hssub, D.hun]; done) | (simp only [D.hbnd, D.hcmp, D.hcv, D.hinb, D.hnt, D.hsbyte, D.hscmp, D.hslen, D.hssub, D.hun]; rfl))) ?_
                clear hx12; cbv
                obtain ⟨s', e, hi⟩ := jn_some (fun p => p) h
                refine hLy10 s' _ _ hi ⟨rfl, ?_, ?_, rfl, rfl⟩ <;> cbv <;> (try (subst e; simp only [D.hbnd, D.hcmp, D.hcv, D.hinb, D.hnt, D.hsbyte, D.hscmp, D.hslen, D.hssub, D.hun, and_self, and_true, true_and] <;> (repeat' apply And.intro) <;> rfl))
              · refine R.callD h (fun x13 hx13 h2 => ?_)
                clear h; have h := h2; clear h2
                refine R.call' (w51 _ _ _ hx13) (by (first | rfl | (simp only [D.hbnd, D.hcmp, D.hcv, D.hinb, D.hnt, D.hsbyte, D.hscmp, D.hslen, D.hssub, D.hun]; done) | (simp only [D.hbnd, D.hcmp, D.hcv, D.hinb, D.hnt, D.hsbyte, D.hscmp, D.hslen, D.hssub, D.hun]; rfl))) ?_
                clear hx13; cbv
                obtain ⟨s', e, hi⟩ := jn_some (fun p => p) h
                refine hLy10 s' _ _ hi ⟨rfl, ?_, ?_, rfl, rfl⟩ <;> cbv <;> (try (subst e; simp only [D.hbnd, D.hcmp, D.hcv, D.hinb, D.hnt, D.hsbyte, D.hscmp, D.hslen, D.hssub, D.hun, and_self, and_true, true_and] <;> (repeat' apply And.intro) <;> rfl))
          · as_aux_lemma =>
            clear h; have h := h2; clear h2; try dsimp only at h
            cbv
            refine R.cutB (fun p => p) (fun _ _ e => e) h [] (fun p16 => [(11, .i .i64 p16)]) (fun p16 => []) (by kernel_rfl) (by kernel_rfl) (fun y15 hy hFy15 L hLy15 => ?_) (fun p16 h2 => ?_)
            · clear h; have h := hy; clear hy; cbv
              refine R.brD h (by (first | rfl | (simp only [D.hbnd, D.hcmp, D.hcv, D.hinb, D.hnt, D.hsbyte, D.hscmp, D.hslen, D.hssub, D.hun]; done) | (simp only [D.hbnd, D.hcmp, D.hcv, D.hinb, D.hnt, D.hsbyte, D.hscmp, D.hslen, D.hssub, D.hun]; rfl))) ?_ ?_ <;> clear h <;> intro h <;> cbv
              · obtain ⟨s', e, hi⟩ := jn_some (fun p => p) h
                refine hLy15 s' _ _ hi ⟨rfl, ?_, ?_, rfl, rfl⟩ <;> cbv <;> (try (subst e; simp only [D.hbnd, D.hcmp, D.hcv, D.hinb, D.hnt, D.hsbyte, D.hscmp, D.hslen, D.hssub, D.hun, and_self, and_true, true_and] <;> (repeat' apply And.intro) <;> rfl))
              · obtain ⟨s', e, hi⟩ := jn_some (fun p => p) h
                refine hLy15 s' _ _ hi ⟨rfl, ?_, ?_, rfl, rfl⟩ <;> cbv <;> (try (subst e; simp only [D.hbnd, D.hcmp, D.hcv, D.hinb, D.hnt, D.hsbyte, D.hscmp, D.hslen, D.hssub, D.hun, and_self, and_true, true_and] <;> (repeat' apply And.intro) <;> rfl))
            · as_aux_lemma =>
              clear h; have h := h2; clear h2; try dsimp only at h
              cbv
              refine R.cut' (by kernel_rfl) (by kernel_rfl) ?_
              cbv
              refine R.cut' (by kernel_rfl) (by kernel_rfl) ?_
              cbv
              refine R.brD h (by (first | rfl | (simp only [D.hbnd, D.hcmp, D.hcv, D.hinb, D.hnt, D.hsbyte, D.hscmp, D.hslen, D.hssub, D.hun]; done) | (simp only [D.hbnd, D.hcmp, D.hcv, D.hinb, D.hnt, D.hsbyte, D.hscmp, D.hslen, D.hssub, D.hun]; rfl))) ?_ ?_ <;> clear h <;> intro h <;> cbv
              · have e := ret_some h; clear h
                refine hK _ _ ?_
                cbv
                try (subst e; simp only [D.hbnd, D.hcmp, D.hcv, D.hinb, D.hnt, D.hsbyte, D.hscmp, D.hslen, D.hssub, D.hun, and_self, and_true, true_and] <;> (repeat' apply And.intro) <;> rfl)
              · as_aux_lemma =>
                refine R.callD h (fun x20 hx20 h2 => ?_)
                clear h; have h := h2; clear h2
                refine R.call' (w49 _ _ _ _ hx20) (by (first | rfl | (simp only [D.hbnd, D.hcmp, D.hcv, D.hinb, D.hnt, D.hsbyte, D.hscmp, D.hslen, D.hssub, D.hun]; done) | (simp only [D.hbnd, D.hcmp, D.hcv, D.hinb, D.hnt, D.hsbyte, D.hscmp, D.hslen, D.hssub, D.hun]; rfl))) ?_
                clear hx20; cbv
                refine R.brD h (by (first | rfl | (simp only [D.hbnd, D.hcmp, D.hcv, D.hinb, D.hnt, D.hsbyte, D.hscmp, D.hslen, D.hssub, D.hun]; done) | (simp only [D.hbnd, D.hcmp, D.hcv, D.hinb, D.hnt, D.hsbyte, D.hscmp, D.hslen, D.hssub, D.hun]; rfl))) ?_ ?_ <;> clear h <;> intro h <;> cbv
                · have e := ret_some h; clear h
                  refine hK _ _ ?_
                  cbv
                  try (subst e; simp only [D.hbnd, D.hcmp, D.hcv, D.hinb, D.hnt, D.hsbyte, D.hscmp, D.hslen, D.hssub, D.hun, and_self, and_true, true_and] <;> (repeat' apply And.intro) <;> rfl)
                · refine R.callD h (fun x21 hx21 h2 => ?_)
                  clear h; have h := h2; clear h2
                  refine R.call' (w25 _ _ _ _ hx21) (by (first | rfl | (simp only [D.hbnd, D.hcmp, D.hcv, D.hinb, D.hnt, D.hsbyte, D.hscmp, D.hslen, D.hssub, D.hun]; done) | (simp only [D.hbnd, D.hcmp, D.hcv, D.hinb, D.hnt, D.hsbyte, D.hscmp, D.hslen, D.hssub, D.hun]; rfl))) ?_
                  clear hx21; cbv
                  refine R.cut' (by kernel_rfl) (by kernel_rfl) ?_
                  cbv
                  refine R.cutB (fun p => p) (fun _ _ e => e) h [] (fun p31 => [(105, .b p31)]) (fun p31 => []) (by kernel_rfl) (by kernel_rfl) (fun y28 hy hFy28 L hLy28 => ?_) (fun p31 h2 => ?_)
                  · clear h; have h := hy; clear hy; cbv
                    refine R.brD h (by (first | rfl | (simp only [D.hbnd, D.hcmp, D.hcv, D.hinb, D.hnt, D.hsbyte, D.hscmp, D.hslen, D.hssub, D.hun]; done) | (simp only [D.hbnd, D.hcmp, D.hcv, D.hinb, D.hnt, D.hsbyte, D.hscmp, D.hslen, D.hssub, D.hun]; rfl))) ?_ ?_ <;> clear h <;> intro h <;> cbv
                    · refine R.brD h (by (first | rfl | (simp only [D.hbnd, D.hcmp, D.hcv, D.hinb, D.hnt, D.hsbyte, D.hscmp, D.hslen, D.hssub, D.hun]; done) | (simp only [D.hbnd, D.hcmp, D.hcv, D.hinb, D.hnt, D.hsbyte, D.hscmp, D.hslen, D.hssub, D.hun]; rfl))) ?_ ?_ <;> clear h <;> intro h <;> cbv
                      · obtain ⟨s', e, hi⟩ := jn_some (fun p => p) h
                        refine hLy28 s' _ _ hi ⟨rfl, ?_, ?_, rfl, rfl⟩ <;> cbv <;> (try (subst e; simp only [D.hbnd, D.hcmp, D.hcv, D.hinb, D.hnt, D.hsbyte, D.hscmp, D.hslen, D.hssub, D.hun, and_self, and_true, true_and] <;> (repeat' apply And.intro) <;> rfl))
                      · refine R.brD h (by (first | rfl | (simp only [D.hbnd, D.hcmp, D.hcv, D.hinb, D.hnt, D.hsbyte, D.hscmp, D.hslen, D.hssub, D.hun]; done) | (simp only [D.hbnd, D.hcmp, D.hcv, D.hinb, D.hnt, D.hsbyte, D.hscmp, D.hslen, D.hssub, D.hun]; rfl))) ?_ ?_ <;> clear h <;> intro h <;> cbv
                        · refine R.callD h (fun x29 hx29 h2 => ?_)
                          clear h; have h := h2; clear h2
                          refine R.call' (w50 _ _ hx29) (by (first | rfl | (simp only [D.hbnd, D.hcmp, D.hcv, D.hinb, D.hnt, D.hsbyte, D.hscmp, D.hslen, D.hssub, D.hun]; done) | (simp only [D.hbnd, D.hcmp, D.hcv, D.hinb, D.hnt, D.hsbyte, D.hscmp, D.hslen, D.hssub, D.hun]; rfl))) ?_
                          clear hx29; cbv
                          obtain ⟨s', e, hi⟩ := jn_some (fun p => p) h
                          refine hLy28 s' _ _ hi ⟨rfl, ?_, ?_, rfl, rfl⟩ <;> cbv <;> (try (subst e; simp only [D.hbnd, D.hcmp, D.hcv, D.hinb, D.hnt, D.hsbyte, D.hscmp, D.hslen, D.hssub, D.hun, and_self, and_true, true_and] <;> (repeat' apply And.intro) <;> rfl))
                        · obtain ⟨s', e, hi⟩ := jn_some (fun p => p) h
                          refine hLy28 s' _ _ hi ⟨rfl, ?_, ?_, rfl, rfl⟩ <;> cbv <;> (try (subst e; simp only [D.hbnd, D.hcmp, D.hcv, D.hinb, D.hnt, D.hsbyte, D.hscmp, D.hslen, D.hssub, D.hun, and_self, and_true, true_and] <;> (repeat' apply And.intro) <;> rfl))
                    · refine R.brD h (by (first | rfl | (simp only [D.hbnd, D.hcmp, D.hcv, D.hinb, D.hnt, D.hsbyte, D.hscmp, D.hslen, D.hssub, D.hun]; done) | (simp only [D.hbnd, D.hcmp, D.hcv, D.hinb, D.hnt, D.hsbyte, D.hscmp, D.hslen, D.hssub, D.hun]; rfl))) ?_ ?_ <;> clear h <;> intro h <;> cbv
                      · refine R.callD h (fun x30 hx30 h2 => ?_)
                        clear h; have h := h2; clear h2
                        refine R.call' (w50 _ _ hx30) (by (first | rfl | (simp only [D.hbnd, D.hcmp, D.hcv, D.hinb, D.hnt, D.hsbyte, D.hscmp, D.hslen, D.hssub, D.hun]; done) | (simp only [D.hbnd, D.hcmp, D.hcv, D.hinb, D.hnt, D.hsbyte, D.hscmp, D.hslen, D.hssub, D.hun]; rfl))) ?_
                        clear hx30; cbv
                        obtain ⟨s', e, hi⟩ := jn_some (fun p => p) h
                        refine hLy28 s' _ _ hi ⟨rfl, ?_, ?_, rfl, rfl⟩ <;> cbv <;> (try (subst e; simp only [D.hbnd, D.hcmp, D.hcv, D.hinb, D.hnt, D.hsbyte, D.hscmp, D.hslen, D.hssub, D.hun, and_self, and_true, true_and] <;> (repeat' apply And.intro) <;> rfl))
                      · obtain ⟨s', e, hi⟩ := jn_some (fun p => p) h
                        refine hLy28 s' _ _ hi ⟨rfl, ?_, ?_, rfl, rfl⟩ <;> cbv <;> (try (subst e; simp only [D.hbnd, D.hcmp, D.hcv, D.hinb, D.hnt, D.hsbyte, D.hscmp, D.hslen, D.hssub, D.hun, and_self, and_true, true_and] <;> (repeat' apply And.intro) <;> rfl))
                  · clear h; have h := h2; clear h2; try dsimp only at h
                    cbv
                    refine R.brD h (by (first | rfl | (simp only [D.hbnd, D.hcmp, D.hcv, D.hinb, D.hnt, D.hsbyte, D.hscmp, D.hslen, D.hssub, D.hun]; done) | (simp only [D.hbnd, D.hcmp, D.hcv, D.hinb, D.hnt, D.hsbyte, D.hscmp, D.hslen, D.hssub, D.hun]; rfl))) ?_ ?_ <;> clear h <;> intro h <;> cbv
                    · have e := ret_some h; clear h
                      refine hK _ _ ?_
                      cbv
                      try (subst e; simp only [D.hbnd, D.hcmp, D.hcv, D.hinb, D.hnt, D.hsbyte, D.hscmp, D.hslen, D.hssub, D.hun, and_self, and_true, true_and] <;> (repeat' apply And.intro) <;> rfl)
                    · have e := ret_some h; clear h
                      refine hK _ _ ?_
                      cbv
                      try (subst e; simp only [D.hbnd, D.hcmp, D.hcv, D.hinb, D.hnt, D.hsbyte, D.hscmp, D.hslen, D.hssub, D.hun, and_self, and_true, true_and] <;> (repeat' apply And.intro) <;> rfl)
end Go.Proofs.Ytjcabmhnekcbgaa
end
section
namespace Go.Proofs.Ytjcabmhnekcbgaa
open Go.Ab Go.RowKit Go.Proofs.Ytjcabmhnekcbgaa.G
theorem s47 (z : Int) (b : Bool) : d47 z b = some (if OkZ z then 0 else 10) := by
  simp only [d47, c_neq, OkZ]
  by_cases h1 : z = 1 <;> by_cases h2 : z = 2 <;> by_cases h4 : z = 4 <;> by_cases h8 : z = 8 <;> simp [h1, h2, h4, h8]
theorem s49 {z : Int} (b : Bool) {v : Int} (h : OkZ z) (hv : I64 v) : d49 z b v = some (wT z b v) := by
  unfold I64 at hv
  simp only [d49, c_eql, wk_i64, wk_i8, wk_u8, wk_i16, wk_u16, wk_i32, wk_u32, wT]
  rcases h with rfl | rfl | rfl | rfl <;> cases b <;> simp <;> omega
theorem s48 {z : Int} (b : Bool) (v u : Int) (h : OkZ z) : d48 z b (wT z b v) (wT z b u) = some (cmpV (numT z b (wT z b v)) (numT z b (wT z b u))) := by
  have e : ∀ x y : Int, (if cmpLit .lss x y = true then some (-1) else if cmpLit .gtr x y = true then some 1 else some (0 : Int)) = some (cmpV x y) := by
    intro x y
    simp only [c_lss, c_gtr, decide_eq_true_eq, cmpV]
    split
    · rfl
    · split <;> rfl
  have hx := wT_i64 (z := z) b v
  have hy := wT_i64 (z := z) b u
  have hu : b = false → z ≠ 8 → 0 ≤ wT z b v ∧ 0 ≤ wT z b u := by
    intro h1 h2
    subst h1
    rcases h with rfl | rfl | rfl | rfl
    · simp [wT]; omega
    · simp [wT]; omega
    · simp [wT]; omega
    · exact absurd rfl h2
  generalize wT z b v = x at *
  generalize wT z b u = y at *
  unfold d48
  cases b with
  | true =>
    simp only [notB', Bool.not_true, Bool.false_eq_true, if_false, Option.bind_some]
    rw [e, numT_s (by simp), numT_s (by simp)]
  | false =>
    simp only [notB', Bool.not_false, if_true, beqB, c_lss]
    by_cases h8 : z = 8
    · subst h8
      rw [numT8, numT8]
      unfold I64 at hx hy
      by_cases a1 : x < 0 <;> by_cases a2 : y < 0 <;> simp [a1, a2, e, cmpV, c_lss, c_gtr]
      · split
        · rfl
        · split <;> rfl
      · have q1 : y < x + 18446744073709551616 := by omega
        have q2 : ¬ x + 18446744073709551616 < y := by omega
        have q3 : ¬ y < x := by omega
        have q4 : x < y := by omega
        simp [q1, q2, q3, q4]
      · have q1 : x < y + 18446744073709551616 := by omega
        have q3 : y < x := by omega
        simp [q1, q3]
      · split
        · rfl
        · split <;> rfl
    · obtain ⟨k1, k2⟩ := hu rfl h8
      have n1 : ¬ x < 0 := by omega
      have n2 : ¬ y < 0 := by omega
      rw [numT_s (by simp [h8]), numT_s (by simp [h8])]
      simp [n1, n2, c_gtr, cmpV]
      split
      · rfl
      · split <;> rfl
theorem s22 {z : Int} (b : Bool) {v u : Int} (h : OkZ z) (hv : I64 v) (hu : I64 u) : d22 z b v u = some (cmpV (numT z b (wT z b v)) (numT z b (wT z b u)), 0) := by
  unfold d22
  rw [s47, if_pos h]
  simp only [Option.bind_some, c_neq, s49 b h hv, s49 b h hu, s48 b v u h]
  rfl
theorem s22_no {z : Int} (b : Bool) (v u : Int) (h : ¬ OkZ z) : d22 z b v u = some (0, 10) := by
  unfold d22; rw [s47, if_neg h]; rfl
theorem and255 (v : Int) : arReal .and .i64 v 255 = v % 256 := by
  show wrapK .i64 ((BitVec.ofInt 64 v &&& BitVec.ofInt 64 255).toNat : Nat) = _
  rw [BitVec.toNat_and, bv_nat, bv_nat]
  have e : ((255 : Int) % 18446744073709551616).toNat = 2 ^ 8 - 1 := by decide
  rw [e, Nat.and_two_pow_sub_one_eq_mod, wk_i64]
  omega
theorem s23_it {z : Int} (hz : OkZ z) {v : Int} (hv : I64 v) : iter (d23_b1 z) (v, 0, []) = some (u8s (leN z.toNat v)) := by
  have hz8 := okz_le hz
  refine (iter_fun (fun s : Int × Int × List V => 0 ≤ s.2.1 ∧ s.2.1 ≤ z ∧ lenI s.2.2 = s.2.1 ∧ I64 s.1) (fun s => (z - s.2.1).toNat) (fun s => s.2.2 ++ u8s (leN (z - s.2.1).toNat s.1)) (fun s hs => ?_) (v, 0, []) ⟨by simp, by simp; omega, rfl, hv⟩).trans (by simp)
  obtain ⟨w, i, l⟩ := s
  obtain ⟨h0, h1, h2, h3⟩ := hs
  simp only at h0 h1 h2 h3 ⊢
  unfold d23_b1
  simp only [c_lss, decide_eq_true_eq, and255]
  by_cases hl : i < z
  · have ew : wrapK .u8 (w % 256) = w % 256 := by rw [wk_u8]; omega
    rw [ew]
    have hlen : lenI (appL l [V.i .u8 (w % 256)]) = i + 1 := by rw [← h2]; simp [lenI, appL]
    have hR : Room (lenI (appL l [V.i .u8 (w % 256)])) 1 := by rw [hlen]; exact ⟨by omega, by omega⟩
    have hg : Ne0 256 := by decide
    have es : arReal .sub .i64 w (w % 256) = 256 * (w / 256) := by
      show wrapK .i64 _ = _
      unfold I64 at h3
      rw [wk_i64]; omega
    have eq : arReal .quo .i64 (256 * (w / 256)) 256 = w / 256 := by
      show wrapK .i64 ((256 * (w / 256)).tdiv 256) = _
      rw [Int.mul_tdiv_cancel_left _ (by decide), wk_id]
      unfold I64 at h3 ⊢; omega
    rw [if_pos hl, if_pos hR, if_pos hg, es, eq, ar_addi (by unfold I64; omega)]
    refine .inl ⟨_, rfl, ⟨by simp only []; omega, by simp only []; omega, hlen, by unfold I64 at h3 ⊢; simp only []; omega⟩, by simp only []; omega, ?_⟩
    obtain ⟨k, hk⟩ : ∃ k : Nat, (z - i).toNat = k + 1 := ⟨(z - i).toNat - 1, by omega⟩
    have hk2 : (z - (i + 1)).toNat = k := by omega
    simp only [hk, hk2, leN]
    simp [appL, u8s]
  · rw [if_neg hl]
    have : (z - i).toNat = 0 := by omega
    rw [this]
    exact .inr (by simp [leN, u8s])
theorem s23 {z : Int} (b : Bool) {v : Int} (h : OkZ z) (hv : I64 v) : d23 z b v = some (u8s (leN z.toNat v), 0) := by
  unfold d23
  rw [s47, if_pos h]
  simp only [Option.bind_some, c_neq, s23_it h hv]
  rfl
theorem s23_no {z : Int} (b : Bool) (v : Int) (h : ¬ OkZ z) : d23 z b v = some ([], 10) := by
  unfold d23; rw [s47, if_neg h]; rfl
theorem s24_it {l : List Int} (hl : Bs l) (hn : l.length ≤ 8) : ∃ r, iter (d24_b1 (u8s l)) (0, (l.length : Int) - 1) = some r ∧ I64 r ∧ r % 18446744073709551616 = leV l % 18446744073709551616 := by
  refine iter_of (fun s : Int × Int => -1 ≤ s.2 ∧ s.2 < l.length ∧ I64 s.1 ∧ s.1 % 18446744073709551616 = leV (l.drop (s.2 + 1).toNat) % 18446744073709551616) (fun s => (s.2 + 1).toNat) _ (fun s hs => ?_) _ ⟨by simp only []; omega, by simp only []; omega, by unfold I64; simp, ?_⟩
  · obtain ⟨a, i⟩ := s
    obtain ⟨h0, h1, h2, h3⟩ := hs
    simp only at h0 h1 h2 h3 ⊢
    unfold d24_b1
    simp only [c_geq, decide_eq_true_eq, lenI_u8s]
    by_cases hi : 0 ≤ i
    · obtain ⟨j, rfl⟩ := Int.eq_ofNat_of_zero_le hi
      have hj : j < l.length := by omega
      have hI : Inb (j : Int) (l.length : Int) := ⟨by omega, by omega⟩
      have hc := hl l[j] (List.getElem_mem hj)
      have e1 : ((j : Int) + 1).toNat = j + 1 := by omega
      have e2 : ((j : Int) - 1 + 1).toNat = j := by omega
      have es : arReal .sub .i64 (j : Int) 1 = (j : Int) - 1 := wk_id (by unfold I64; omega)
      rw [e1] at h3
      rw [if_pos hi, if_pos hI, gI_u8s l j hj, es]
      refine .inl ⟨_, rfl, ⟨by simp only []; omega, by simp only []; omega, wk_in _, ?_⟩, by simp only []; omega⟩
      simp only [e2]
      rw [List.drop_eq_getElem_cons hj]
      simp only [leV]
      show wrapK .i64 (wrapK .i64 (256 * a) + wrapK .i64 l[j]) % _ = _
      have m1 := wk_mod (256 * a)
      rw [wk_mod, wk_id (v := l[j]) (by unfold I64; omega)]
      omega
    · rw [if_neg hi]
      have : (i + 1).toNat = 0 := by omega
      rw [this] at h3
      exact .inr ⟨_, rfl, h2, h3⟩
  · have : ((l.length : Int) - 1 + 1).toNat = l.length := by omega
    simp only [this, List.drop_length]
    rfl
theorem s24 {z : Int} (b : Bool) {l : List Int} (h : OkZ z) (hl : Bs l) : d24 z b (u8s l) = some (if (l.length : Int) = z then (wT z b (leV l), 0) else (0, 1)) := by
  have hz8 := okz_le h
  unfold d24
  rw [s47, if_pos h]
  simp only [Option.bind_some, c_neq, lenI_u8s]
  by_cases k : (l.length : Int) = z
  · obtain ⟨r, e1, e2, e3⟩ := s24_it hl (by omega)
    have es : arReal .sub .i64 (l.length : Int) 1 = (l.length : Int) - 1 := wk_id (by unfold I64; omega)
    have e : wT z b r = wT z b (leV l) := wT_congr h b (mod_64 h e3)
    rw [es, e1]
    simp only [Option.bind_some, s49 b h e2, e]
    simp [k]
  · simp [k]
theorem s24_no {z : Int} (b : Bool) (l : List V) (h : ¬ OkZ z) : d24 z b l = some (0, 10) := by
  unfold d24; rw [s47, if_neg h]; rfl
theorem lit10 : ByteArray.mk #[48, 49, 50, 51, 52, 53, 54, 55, 56, 57] = strOfNums [48, 49, 50, 51, 52, 53, 54, 55, 56, 57] := rfl
theorem sub10 {u : Int} (h0 : 0 ≤ u) (h1 : u < 10) : subS (ByteArray.mk #[48, 49, 50, 51, 52, 53, 54, 55, 56, 57]) u (u + 1) = strOfNums [48 + u % 10] := by
  apply nb_inj
  rw [sub_nb, lit10, nb_strOf (by intro x hx; simp at hx; omega), nb_strOf (by intro x hx; simp at hx; omega)]
  obtain rfl | rfl | rfl | rfl | rfl | rfl | rfl | rfl | rfl | rfl : u = 0 ∨ u = 1 ∨ u = 2 ∨ u = 3 ∨ u = 4 ∨ u = 5 ∨ u = 6 ∨ u = 7 ∨ u = 8 ∨ u = 9 := by omega
  all_goals rfl
theorem s50R : ∀ (n : Nat) (u : Int), 0 ≤ u → u < 10 ^ n → u < 18446744073709551616 → d50R (n + 1) u = some (strOfNums (dec u)) := by
  intro n
  induction n with
  | zero =>
    intro u h0 h1 h2
    have : u = 0 := by simp at h1; omega
    subst this
    show d50F _ 0 = _
    unfold d50F
    have e : arReal .add .u64 0 1 = 0 + 1 := rfl
    rw [c_lss, if_pos (by decide), e, if_pos (by decide), sub10 (by decide) (by decide), dec_lt 0 (by decide) (by decide)]
  | succ n ih =>
    intro u h0 h1 h2
    show d50F (d50R (n + 1)) u = _
    unfold d50F
    simp only [c_lss, decide_eq_true_eq]
    by_cases h : u < 10
    · have e : arReal .add .u64 u 1 = u + 1 := by show wrapK .u64 _ = _; rw [wk_u64]; omega
      have hB : Bnd u (u + 1) (slenI (ByteArray.mk #[48, 49, 50, 51, 52, 53, 54, 55, 56, 57])) := by
        have : slenI (ByteArray.mk #[48, 49, 50, 51, 52, 53, 54, 55, 56, 57]) = 10 := rfl
        rw [this]; exact ⟨h0, by omega, by omega⟩
      rw [if_pos h, e, if_pos hB, sub10 h0 h, dec_lt u h0 h]
    · have hn : Ne0 10 := by decide
      have e1 : arReal .quo .u64 u 10 = u / 10 := by
        show wrapK .u64 (u.tdiv 10) = _
        rw [Int.tdiv_eq_ediv_of_nonneg h0, wk_u64]; omega
      have e2 : arReal .rem .u64 u 10 = u % 10 := Int.tmod_eq_emod_of_nonneg h0
      have hp : (10 : Int) ^ (n + 1) = 10 * 10 ^ n := by rw [Int.pow_succ, Int.mul_comm]
      rw [hp] at h1
      have p1 : (1 : Int) ≤ 10 ^ n := by
        have : (0 : Int) < 10 ^ n := Int.pow_pos (by decide)
        omega
      have i1 := ih (u / 10) (by omega) (by omega) (by omega)
      have n1 : 1 ≤ n := by
        rcases Nat.eq_zero_or_pos n with q | q
        · subst q; simp at h1; omega
        · exact q
      have p2 : (10 : Int) ≤ 10 ^ n := by
        obtain ⟨m, rfl⟩ : ∃ m, n = m + 1 := ⟨n - 1, by omega⟩
        have : (0 : Int) < 10 ^ m := Int.pow_pos (by decide)
        rw [Int.pow_succ]; omega
      have i2 := ih (u % 10) (by omega) (by omega) (by omega)
      have hS : Sroom (strOfNums (dec (u / 10))) (strOfNums (dec (u % 10))) := by
        have l1 := dec_len (u / 10) (by omega)
        have l2 := dec_len (u % 10) (by omega)
        show _ + _ ≤ _
        rw [strOfNums_size, strOfNums_size]; omega
      rw [if_neg h, if_pos hn, e1, i1, Option.bind_some, if_pos hn, e2, i2, Option.bind_some, if_pos hS, dec_ge u (by omega), dec_lt (u % 10) (by omega) (by omega)]
      congr 1
      have : u % 10 % 10 = u % 10 := by omega
      rw [this]; rfl
theorem s50 {u : Int} (h0 : 0 ≤ u) (h1 : u < 18446744073709551616) : d50 u = some (strOfNums (dec u)) := by
  have e : (10 : Int) ^ 21 = 1000000000000000000000 := by decide
  exact s50R 21 u h0 (by rw [e]; omega) h1
theorem s85 {c : Int} (h0 : 0 ≤ c) (h1 : c < 256) : d85 c = some (if digV c = 16 then -1 else digV c) := by
  have a1 : ∀ x y : Int, arReal .sub .u8 x y = wrapK .u8 (x - y) := fun _ _ => rfl
  have a2 : ∀ x y : Int, arReal .add .i64 x y = wrapK .i64 (x + y) := fun _ _ => rfl
  simp only [d85, c_geq, c_leq, a1, a2, wk_u8, wk_i64, digV]
  by_cases h48 : 48 ≤ c <;> by_cases h57 : c ≤ 57 <;> by_cases h97 : 97 ≤ c <;> by_cases h102 : c ≤ 102 <;> by_cases h65 : 65 ≤ c <;> by_cases h70 : c ≤ 70 <;> simp [h48, h57, h97, h102, h65, h70] <;> (repeat' split) <;> omega
theorem s51_b (s : ByteArray) (hs : s.size ≤ 9223372036854775807) (b : Int) (hb : b = 10 ∨ b = 16) : iter (d51_b1 s b) (0, 0) = some (match numF b (nb s) 0 with | some n => .inr n | none => .inl (0, false)) := by
  refine iter_fun (fun p : Int × Int => 0 ≤ p.1 ∧ p.1 < 18446744073709551616 ∧ 0 ≤ p.2 ∧ p.2 ≤ (nb s).length) (fun p => (((nb s).length : Int) - p.2).toNat) (fun p => (match numF b ((nb s).drop p.2.toNat) p.1 with | some n => .inr n | none => .inl (0, false) : (Int × Bool) ⊕ Int)) (fun p hp => ?_) (0, 0) ⟨by decide, by decide, by decide, by simp⟩
  obtain ⟨n, i⟩ := p
  obtain ⟨h0, h1, h2, h3⟩ := hp
  simp only at h0 h1 h2 h3 ⊢
  obtain ⟨j, rfl⟩ := Int.eq_ofNat_of_zero_le h2
  have hl : (nb s).length = s.size := nb_len s
  unfold d51_b1
  simp only [c_lss, slen_nb, decide_eq_true_eq, Int.toNat_natCast]
  by_cases hlt : j < (nb s).length
  · have hi : Inb (j : Int) ((nb s).length : Int) := ⟨by omega, by omega⟩
    rw [if_pos (by omega), if_pos hi, sbyte_nb s j hlt]
    have hc := nb_bs s (nb s)[j] (List.getElem_mem hlt)
    have hd := digV_rng (nb s)[j]
    rw [List.drop_eq_getElem_cons hlt]
    generalize (nb s)[j] = c at hc hd ⊢
    rw [s85 hc.1 hc.2, Option.bind_some]
    have hN : Ne0 b := by rcases hb with rfl | rfl <;> decide
    simp only [numF, c_geq, c_gtr, decide_eq_true_eq]
    by_cases h16 : digV c = 16
    · have hR : ∀ X : Option Int, (if b ≤ digV c ∨ 18446744073709551616 ≤ n * b + digV c then none else X) = none := fun X => if_pos (.inl (by omega))
      rw [if_pos h16, if_pos (by decide), hR]; exact .inr rfl
    · rw [if_neg h16, if_neg (by omega), wk_u64]
      have hm : digV c % 18446744073709551616 = digV c := by omega
      rw [hm]
      by_cases hq : b ≤ digV c
      · have hR : ∀ X : Option Int, (if b ≤ digV c ∨ 18446744073709551616 ≤ n * b + digV c then none else X) = none := fun X => if_pos (.inl hq)
        rw [if_pos hq, hR]; exact .inr rfl
      · have eq : arReal .quo .u64 (arReal .sub .u64 18446744073709551615 (digV c)) b = (18446744073709551615 - digV c) / b := by
          show wrapK .u64 ((wrapK .u64 (18446744073709551615 - digV c)).tdiv b) = _
          rw [wk_u64, wk_u64]
          have e1 : (18446744073709551615 - digV c) % 18446744073709551616 = 18446744073709551615 - digV c := by omega
          rw [e1, Int.tdiv_eq_ediv_of_nonneg (by omega)]
          rcases hb with rfl | rfl <;> omega
        rw [if_neg hq, if_pos hN, eq]
        by_cases hk : 18446744073709551616 ≤ n * b + digV c
        · have hR : ∀ X : Option Int, (if b ≤ digV c ∨ 18446744073709551616 ≤ n * b + digV c then none else X) = none := fun X => if_pos (.inr hk)
          rw [hR, if_pos (by rcases hb with rfl | rfl <;> omega)]
          exact .inr rfl
        · have hR : ∀ X : Option Int, (if b ≤ digV c ∨ 18446744073709551616 ≤ n * b + digV c then none else X) = X := fun X => if_neg (by omega)
          rw [hR, if_neg (by rcases hb with rfl | rfl <;> omega)]
          have ea : arReal .add .i64 (j : Int) 1 = ((j + 1 : Nat) : Int) := by
            show wrapK .i64 _ = _
            rw [wk_i64]; omega
          have em : arReal .add .u64 (arReal .mul .u64 b n) (digV c) = n * b + digV c := by
            show wrapK .u64 (wrapK .u64 (b * n) + digV c) = _
            rw [wk_u64, wk_u64]
            rcases hb with rfl | rfl <;> omega
          have hnb : 0 ≤ n * b := Int.mul_nonneg h0 (by omega)
          rw [em]
          refine .inl ⟨_, rfl, ⟨by simp only []; omega, by simp only []; omega, by simp only []; omega, by simp only []; omega⟩, by simp only []; omega, ?_⟩
          simp only [ea, Int.toNat_natCast]
  · rw [if_neg (by omega)]
    have : (nb s).drop j = [] := List.drop_eq_nil_of_le (by omega)
    rw [this]
    exact .inr rfl
theorem s51 (s : ByteArray) (hs : s.size ≤ 9223372036854775807) (b : Int) (hb : b = 10 ∨ b = 16) : d51 s b = some (match numF b (nb s) 0 with | some n => (n, decide (nb s ≠ [])) | none => (0, false)) := by
  unfold d51
  rw [s51_b s hs b hb]
  cases numF b (nb s) 0 with
  | none => rfl
  | some n =>
    simp only [Option.bind_some, c_gtr, slen_nb]
    congr 2
    simp only [decide_eq_decide]
    cases nb s <;> simp
end Go.Proofs.Ytjcabmhnekcbgaa
end
section
namespace Go.Proofs.Ytjcabmhnekcbgaa
open Go.Ab Go.RowKit Go.Proofs.Ytjcabmhnekcbgaa.G
theorem wT_nn {z : Int} (h : OkZ z) (h8 : z ≠ 8) (v : Int) : 0 ≤ wT z false v := by
  rcases h with rfl | rfl | rfl | rfl
  · simp [wT]; omega
  · simp [wT]; omega
  · simp [wT]; omega
  · exact absurd rfl h8
theorem s25 {z : Int} (b : Bool) {v : Int} (h : OkZ z) (hv : I64 v) : d25 z b v = some (strOfNums (txt z b v), 0) := by
  have hx := wT_i64 (z := z) b v
  have hn : b = false → z ≠ 8 → 0 ≤ wT z b v := fun e h8 => by subst e; exact wT_nn h h8 v
  unfold d25 txt
  rw [s47, if_pos h]
  simp only [Option.bind_some, c_neq, s49 b h hv]
  generalize wT z b v = x at *
  unfold I64 at hx
  by_cases hb : b = true ∧ x < 0
  · obtain ⟨rfl, h0⟩ := hb
    have e1 : arReal .add .u64 (wrapK .u64 (unReal .neg .i64 (arReal .add .i64 x 1))) 1 = -x := by
      rw [ar_addi (by unfold I64; omega), un_negi]
      show wrapK .u64 (wrapK .u64 (wrapK .i64 (0 - (x + 1))) + 1) = _
      rw [wk_u64, wk_u64, wk_i64]; omega
    have e2 : strOfNums [45] = ByteArray.mk #[45] := rfl
    have hS : Sroom (ByteArray.mk #[45]) (strOfNums (dec (-x))) := by
      show _ + _ ≤ _
      have := dec_len (-x) (by omega)
      have e3 : (ByteArray.mk #[45]).size = 1 := rfl
      rw [strOfNums_size, e3]; omega
    rw [numT_s (by simp), textN, if_pos h0]
    simp only [c_lss, h0, decide_true, if_true, Option.bind_some, e1, s50 (show 0 ≤ -x by omega) (show -x < 18446744073709551616 by omega), if_pos hS]
    rw [← e2, cat_strOf]
    rfl
  · have hnum : x % 18446744073709551616 = numT z b x ∧ 0 ≤ numT z b x := by
      by_cases h8 : z = 8 ∧ b = false
      · obtain ⟨rfl, rfl⟩ := h8
        rw [numT8]; split <;> omega
      · rw [numT_s h8]
        have : 0 ≤ x := by
          cases b with
          | true => simp at hb; omega
          | false => exact hn rfl (fun e => h8 ⟨e, rfl⟩)
        omega
    have hd := s50 (u := numT z b x) hnum.2 (by omega)
    have hy : (if b = true then some (cmpLit .lss x 0) else some false) = some false := by
      cases b with
      | true => simp at hb; simp [c_lss]; omega
      | false => rfl
    have ht : textN (numT z b x) = dec (numT z b x) := by unfold textN; rw [if_neg (by omega)]
    simp only [hy, Option.bind_some, wk_u64, hnum.1, hd, ht, Bool.false_eq_true, if_false]
    rfl
theorem s25_no {z : Int} (b : Bool) (v : Int) (h : ¬ OkZ z) : d25 z b v = some (ByteArray.empty, 10) := by
  unfold d25; rw [s47, if_neg h]; rfl
theorem decN_len' (n : Nat) (h : n < 10000000000000000000) : (decN n).length ≤ 19 := by
  have e : (10 : Nat) ^ (18 + 1) = 10000000000000000000 := by decide
  exact decN_len 18 n (by rw [e]; exact h)
theorem text_len (z : Int) (b : Bool) {v : Int} (hv : I64 v) : (textN (numT z b v)).length ≤ 20 := by
  have hr := numT_rng z b hv
  unfold textN
  split
  · have : -numT z b v ≤ 9223372036854775808 := by
      unfold I64 at hv; unfold numT; split <;> omega
    have := decN_len' (-numT z b v).toNat (by omega)
    simp [dec]; omega
  · have := dec_len (numT z b v) (by omega)
    omega
/-- Where a decimal string is that of the value, the value is one of the type. -/
theorem valD_self {z : Int} {b : Bool} {l : List Int} {v : Int} (h : OkZ z) (hv : valD l = some v) (ht : textN (numT z b (wT z b v)) = l) : wT z b v = v := by
  have e := valD_text (numT_rng z b (wT_i64 (z := z) b v))
  rw [ht, hv] at e
  injection e with e
  rw [wk_congr (numT_mod z b _), wk_id (wT_i64 b v)] at e
  exact e.symm
theorem valD_i64' {l : List Int} {v : Int} (h : valD l = some v) : I64 v := by
  unfold valD at h
  split at h
  · cases h
  · split at h
    · cases h
    · injection h with h
      rw [← h]; split <;> exact wk_in _
theorem take_one {l : List Int} (k : 0 < l.length) : l[0] = 45 ↔ l.take 1 = [45] := by
  cases l with
  | nil => simp at k
  | cons c r => simp
theorem take_two {l : List Int} (k : 2 < l.length) : (if decide (l[0] = 48) = true then some (decide (l[1] = 120)) else some false) = some (decide (2 < l.length ∧ l.take 2 = [48, 120])) := by
  cases l with
  | nil => simp at k
  | cons c r =>
    cases r with
    | nil => simp at k
    | cons d r =>
      simp only [List.getElem_cons_zero, List.getElem_cons_succ, decide_eq_true_eq]
      by_cases k1 : c = 48
      · subst k1; simp at k ⊢; omega
      · simp [k1]
/-- A hexadecimal number, as_ the reference tells its value. -/
theorem hex_self {z : Int} {b : Bool} {n : Int} (h0 : 0 ≤ n) (h1 : n < 18446744073709551616) (hw : wT z b (wrapK .i64 n) = wrapK .i64 n) :
    (textN (numT z b (wT z b (wrapK .i64 n))) = dec n) ↔ ¬ (wrapK .i64 n < 0 ∧ ¬ uns z b) := by
  have hd : dec n = textN n := by unfold textN; rw [if_neg (by omega)]
  rw [hw, hd]
  have hi := wk_in n
  have hm := wk_mod n
  generalize wrapK .i64 n = v at *
  have key : textN (numT z b v) = textN n ↔ numT z b v = n := ⟨fun e => textN_inj (numT_rng z b hi) ⟨by omega, h1⟩ e, fun e => by rw [e]⟩
  rw [key]
  unfold I64 at hi
  unfold uns
  by_cases hu : z = 8 ∧ b = false
  · obtain ⟨rfl, rfl⟩ := hu
    rw [numT8]
    split <;> simp <;> omega
  · rw [numT_s hu]
    simp [hu]
    omega
theorem numF_rng (b : Int) (hb : b = 10 ∨ b = 16) : ∀ (l : List Int) (n r : Int), 0 ≤ n → n < 18446744073709551616 → numF b l n = some r → 0 ≤ r ∧ r < 18446744073709551616
  | [], n, r, h0, h1, h => by injection h with h; omega
  | c :: l, n, r, h0, h1, h => by
    simp only [numF] at h
    split at h
    · cases h
    · rename_i hk
      have hd := digV_rng c
      have : 0 ≤ n * b := Int.mul_nonneg h0 (by omega)
      exact numF_rng b hb l _ r (by omega) (by omega) h
theorem s26 {z : Int} (b : Bool) (s : ByteArray) (h : OkZ z) (hs : s.size ≤ 9223372036854775807) : d26 z b s = some (errV (parseV z b (nb s))) := by
  have hnb : s.size = (nb s).length := (nb_len s).symm
  unfold d26
  rw [s47, if_pos h]
  simp only [Option.bind_some, c_neq, c_gtr, slen_nb]
  rw [if_neg (by simp)]
  by_cases h20 : (20 : Int) < ((nb s).length : Int)
  · rw [if_pos (by simpa using h20)]
    have : parseV z b (nb s) = none := by
      unfold parseV
      by_cases hx : (nb s).take 2 = [48, 120]
      · rw [if_pos hx]
        unfold valX
        cases numF 16 ((nb s).drop 2) 0 with
        | none => rfl
        | some n => simp only []; rw [if_pos]; right; left; simp; omega
      · rw [if_neg hx]
        cases hV : valD (nb s) with
        | none => rfl
        | some v =>
          simp only []
          rw [if_neg]
          intro e
          have := text_len z b (wT_i64 (z := z) b v)
          rw [e] at this
          omega
    rw [this]; rfl
  · rw [if_neg (by simpa using h20)]
    have hm : (if decide ((0 : Int) < ((nb s).length : Int)) = true then if Inb 0 ((nb s).length : Int) then some (cmpLit .eql (sbyteI s 0) 45) else none else some false) = some (sgn (nb s)) := by
      unfold sgn
      by_cases k : 0 < (nb s).length
      · have hI : Inb 0 ((nb s).length : Int) := ⟨by omega, by omega⟩
        have e0 := sbyte_nb s 0 k
        rw [if_pos (by simpa using k), if_pos hI, c_eql]
        congr 1
        rw [decide_eq_decide]
        rw [show sbyteI s 0 = (nb s)[0] from e0]
        exact take_one k
      · rw [if_neg (by simpa using k)]
        cases hq : nb s with
        | nil => simp
        | cons c r => rw [hq] at k; simp at k
    have hh : (if decide ((2 : Int) < ((nb s).length : Int)) = true then if Inb 0 ((nb s).length : Int) then if cmpLit .eql (sbyteI s 0) 48 = true then if Inb 1 ((nb s).length : Int) then some (cmpLit .eql (sbyteI s 1) 120) else none else some false else none else some false) = some (decide (2 < (nb s).length ∧ (nb s).take 2 = [48, 120])) := by
      by_cases k : 2 < (nb s).length
      · have hI : Inb 0 ((nb s).length : Int) := ⟨by omega, by omega⟩
        have hI1 : Inb 1 ((nb s).length : Int) := ⟨by omega, by omega⟩
        have e0 := sbyte_nb s 0 (by omega)
        have e1 := sbyte_nb s 1 (by omega)
        rw [if_pos (by simp; omega), if_pos hI, if_pos hI1, c_eql, c_eql]
        rw [show sbyteI s 0 = (nb s)[0] from e0, show sbyteI s 1 = (nb s)[1] from e1]
        exact take_two k
      · rw [if_neg (by simp; omega)]; simp [k]
    rw [hm, hh]
    simp only [Option.bind_some]
    by_cases hx : (nb s).take 2 = [48, 120]
    · have hs0 : sgn (nb s) = false := by
        unfold sgn
        cases hq : nb s with
        | nil => simp
        | cons c r => rw [hq] at hx; simp at hx; simp; omega
      have hl2 : 2 ≤ (nb s).length := by have := congrArg List.length hx; simp at this; omega
      unfold parseV
      rw [if_pos hx, hs0]
      by_cases k : 2 < (nb s).length
      · have hB : Bnd 2 ((nb s).length : Int) ((nb s).length : Int) := ⟨by omega, by omega, by omega⟩
        have hsub : nb (subS s 2 ((nb s).length : Int)) = (nb s).drop 2 := by rw [sub_nb]; simp
        have hz : (subS s 2 ((nb s).length : Int)).size ≤ 9223372036854775807 := by rw [← nb_len, hsub]; simp; omega
        have h51 := s51 _ hz 16 (.inr rfl)
        rw [hsub] at h51
        have hne : (nb s).drop 2 ≠ [] := by intro e; have := congrArg List.length e; simp at this; omega
        have hT : (decide (2 < (nb s).length ∧ (nb s).take 2 = [48, 120])) = true := by simp [k, hx]
        rw [hT]
        simp only [if_true, if_pos hB, h51, Bool.false_eq_true, if_false, Option.bind_some, notB', Bool.not_true]
        unfold valX
        cases hn : numF 16 ((nb s).drop 2) 0 with
        | none => simp [errV]
        | some n =>
          have hr := numF_rng 16 (.inr rfl) _ 0 n (by decide) (by decide) hn
          have hself := hex_self (z := z) (b := b) hr.1 hr.2
          have hv := wk_in n
          simp only [hne, ne_eq, not_false_eq_true, decide_true, if_true, Option.bind_some, c_leq]
          by_cases k18 : (nb s).length ≤ 18
          · have k16 : ¬ 16 < ((nb s).drop 2).length := by simp; omega
            have d18' : decide (((nb s).length : Int) ≤ 18) = true := by simp; omega
            rw [d18', s49 b h hv, Option.bind_some]
            simp only [Bool.not_true, Bool.false_eq_true, if_false]
            by_cases kw : wT z b (wrapK .i64 n) = wrapK .i64 n
            · rw [if_neg (by simp [kw]), s25 b h hv, Option.bind_some, s50 hr.1 hr.2]
              simp only [Option.bind_some, scmp_neq]
              have hs2 := hself kw
              have heq : strOfNums (txt z b (wrapK .i64 n)) = strOfNums (dec n) ↔ textN (numT z b (wT z b (wrapK .i64 n))) = dec n :=
                ⟨fun e => by have := congrArg nb e; rw [nb_strOf (txt_bs _ _ _), nb_strOf (dec_bs _)] at this; exact this, fun e => by unfold txt; rw [e]⟩
              by_cases kq : wrapK .i64 n < 0 ∧ ¬ uns z b
              · have : strOfNums (txt z b (wrapK .i64 n)) ≠ strOfNums (dec n) := fun e => (hs2.1 (heq.1 e)) kq
                simp [this, kq, errV]
              · have : strOfNums (txt z b (wrapK .i64 n)) = strOfNums (dec n) := heq.2 (hs2.2 kq)
                have kq' : ¬ (False ∨ 16 < ((nb s).drop 2).length ∨ ¬ wT z b (wrapK .i64 n) = wrapK .i64 n ∨ wrapK .i64 n < 0 ∧ ¬ uns z b) := by
                  rintro (q | q | q | q)
                  · exact q
                  · exact k16 q
                  · exact q kw
                  · exact kq q
                rw [if_neg (by simp [this]), if_neg kq']; rfl
            · rw [if_pos (by simp [kw])]
              simp [kw, errV]
          · have k16 : 16 < ((nb s).drop 2).length := by simp; omega
            have d18' : decide (((nb s).length : Int) ≤ 18) = false := by simp; omega
            rw [d18']
            simp only [Bool.not_false, if_true]
            rw [if_pos (.inr (.inl k16))]; rfl
      · have hL : nb s = [48, 120] := by
          have : (nb s).take 2 = nb s := List.take_of_length_le (by omega)
          rw [← this, hx]
        have hF : (decide (2 < (nb s).length ∧ (nb s).take 2 = [48, 120])) = false := by simp [k]
        have h51 := s51 s hs 10 (.inl rfl)
        have hn : numF 10 (nb s) 0 = none := by rw [hL]; rfl
        have hd : (nb s).drop 2 = [] := by rw [hL]; rfl
        rw [hn] at h51
        rw [hF, hd]
        simp only [Bool.false_eq_true, if_false, h51, Option.bind_some, notB', Bool.not_false, if_true]
        rfl
    · have hF : (decide (2 < (nb s).length ∧ (nb s).take 2 = [48, 120])) = false := by simp [hx]
      have h51 : (if sgn (nb s) = true then if Bnd 1 ((nb s).length : Int) ((nb s).length : Int) then (d51 (subS s 1 ((nb s).length : Int)) 10).bind fun x12 => some (x12.1, x12.2) else none else (d51 s 10).bind fun x13 => some (x13.1, x13.2)) = some (match numF 10 (absL (nb s)) 0 with | some n => (n, decide (absL (nb s) ≠ [])) | none => (0, false)) := by
        unfold absL
        by_cases k : sgn (nb s) = true
        · have hl1 : 1 ≤ (nb s).length := by
            unfold sgn at k
            have := congrArg List.length (of_decide_eq_true k); simp at this; omega
          have hB : Bnd 1 ((nb s).length : Int) ((nb s).length : Int) := ⟨by omega, by omega, by omega⟩
          have hsub : nb (subS s 1 ((nb s).length : Int)) = (nb s).drop 1 := by rw [sub_nb]; simp
          have hz : (subS s 1 ((nb s).length : Int)).size ≤ 9223372036854775807 := by rw [← nb_len, hsub]; simp; omega
          rw [if_pos k, if_pos hB, if_pos k, s51 _ hz 10 (.inl rfl), hsub]; rfl
        · rw [if_neg k, if_neg k, s51 s hs 10 (.inl rfl)]; rfl
      unfold parseV
      rw [if_neg hx, hF]
      simp only [Bool.false_eq_true, if_false, h51, Option.bind_some, notB', Bool.not_false, if_true]
      cases hV : valD (nb s) with
      | none =>
        unfold valD at hV
        cases hn : numF 10 (absL (nb s)) 0 with
        | none => by_cases k : sgn (nb s) = true <;> simp [k, errV]
        | some n =>
          rw [hn] at hV
          simp only [] at hV
          split at hV
          · rename_i ke
            by_cases k : sgn (nb s) = true <;> simp [k, ke, errV]
          · cases hV
      | some v =>
        have hvi := valD_i64' hV
        have hself := fun e => valD_self (b := b) h hV e
        unfold valD at hV
        cases hn : numF 10 (absL (nb s)) 0 with
        | none => rw [hn] at hV; cases hV
        | some n =>
          rw [hn] at hV
          simp only [] at hV
          split at hV
          · cases hV
          · rename_i ke
            injection hV with hV
            have hy : (if sgn (nb s) = true then some (unReal .neg .i64 (wrapK .i64 n)) else some (wrapK .i64 n)) = some v := by
              rw [un_negi, ← hV]; split <;> rfl
            simp only [hy, Option.bind_some, ne_eq, ke, not_false_eq_true, decide_true, Bool.not_true, Bool.false_eq_true, if_false, s49 b h hvi]
            by_cases kw : wT z b v = v
            · rw [if_neg (by simp [kw]), s25 b h hvi]
              simp only [Option.bind_some, scmp_neq]
              have heq : strOfNums (txt z b v) = s ↔ textN (numT z b (wT z b v)) = nb s :=
                ⟨fun e => by rw [← e, nb_strOf (txt_bs _ _ _)]; rfl, fun e => by unfold txt; rw [e, strOf_nb]⟩
              by_cases kq : textN (numT z b (wT z b v)) = nb s
              · have := heq.2 kq
                rw [if_pos kq]; simp [this, errV]
              · have : strOfNums (txt z b v) ≠ s := fun e => kq (heq.1 e)
                rw [if_neg kq]; simp [this, errV]
            · rw [if_pos (by simp [kw]), if_neg (fun e => kw (hself e))]; rfl
end Go.Proofs.Ytjcabmhnekcbgaa
end
section
namespace Go.Proofs.Ytjcabmhnekcbgaa
open Go.Ab Go.RowKit 
set_option maxRecDepth 100000
set_option maxHeartbeats 4000000
end Go.Proofs.Ytjcabmhnekcbgaa
end
section
/- What a reading of an array of two or three brings. No statement of its own. -/

namespace Go.Ab
open Go.RowKit Go.ChangeShapes Go.WideShapes Go.ChangeAt Go.Deep
section
variable {H : Type} {enc : TypeId × Value → H} {P : Program} {T : Tr} {w : World}
theorem OpV.arr2 (htok : TyOk P T) {α : Type} {t e : Nat} {te : TE} {mk : α → List V} {ok : α → Prop} (ht : T.look t = some te) (hd : te.desc = .array 2 e) (hct : P.cellsOf t = 2) (hce : P.cellsOf e = 1) (ho : OpV T enc P w e [e] mk ok) :
    OpV T enc P w t [e, e] (fun x : α × α => mk x.1 ++ mk x.2) (fun x => ok x.1 ∧ ok x.2) := by
  intro fuel cs x h
  have hu := htok.und _ _ ht
  rw [hd] at hu
  cases fuel with
  | zero => simp [DataW.trod] at h
  | succ n =>
    unfold DataW.trod at h
    rw [hu] at h
    have r2 : List.range 2 = [0, 1] := rfl
    simp [r2, hce, hct] at h
    obtain ⟨hl, h⟩ := h
    match cs, hl with
    | [c0, c1], _ =>
      simp at h
      cases h0 : DataW.trod enc P w 0 (fun _ => true) true n e [c0] with
      | none => simp [h0] at h
      | some y0 =>
        cases h1 : DataW.trod enc P w 0 (fun _ => true) true n e [c1] with
        | none => simp [h0, h1] at h
        | some y1 =>
          obtain ⟨a, a1, a2, a3, a4⟩ := ho _ _ _ h0
          obtain ⟨b, b1, b2, b3, b4⟩ := ho _ _ _ h1
          refine ⟨(a, b), relL_app a1 b1, fun u hu => ?_, wtC_append a3 b3, a4, b4⟩
          rcases List.mem_cons.1 hu with rfl | hu
          · exact a2 _ (by simp)
          · exact b2 _ hu
theorem OpV.arr3 (htok : TyOk P T) {α : Type} {t e : Nat} {te : TE} {mk : α → List V} {ok : α → Prop} (ht : T.look t = some te) (hd : te.desc = .array 3 e) (hct : P.cellsOf t = 3) (hce : P.cellsOf e = 1) (ho : OpV T enc P w e [e] mk ok) :
    OpV T enc P w t [e, e, e] (fun x : α × (α × α) => mk x.1 ++ (mk x.2.1 ++ mk x.2.2)) (fun x => ok x.1 ∧ (ok x.2.1 ∧ ok x.2.2)) := by
  intro fuel cs x h
  have hu := htok.und _ _ ht
  rw [hd] at hu
  cases fuel with
  | zero => simp [DataW.trod] at h
  | succ n =>
    unfold DataW.trod at h
    rw [hu] at h
    have r3 : List.range 3 = [0, 1, 2] := rfl
    simp [r3, hce, hct] at h
    obtain ⟨hl, h⟩ := h
    match cs, hl with
    | [c0, c1, c2], _ =>
      simp at h
      cases h0 : DataW.trod enc P w 0 (fun _ => true) true n e [c0] with
      | none => simp [h0] at h
      | some y0 =>
        cases h1 : DataW.trod enc P w 0 (fun _ => true) true n e [c1] with
        | none => simp [h0, h1] at h
        | some y1 =>
          cases h2 : DataW.trod enc P w 0 (fun _ => true) true n e [c2] with
          | none => simp [h0, h1, h2] at h
          | some y2 =>
            obtain ⟨a, a1, a2, a3, a4⟩ := ho _ _ _ h0
            obtain ⟨b, b1, b2, b3, b4⟩ := ho _ _ _ h1
            obtain ⟨c, c1', c2', c3, c4⟩ := ho _ _ _ h2
            refine ⟨(a, b, c), relL_app a1 (relL_app b1 c1'), fun u hu => ?_, wtC_append a3 (wtC_append b3 c3), a4, b4, c4⟩
            rcases List.mem_cons.1 hu with rfl | hu
            · exact a2 _ (by simp)
            · rcases List.mem_cons.1 hu with rfl | hu
              · exact b2 _ (by simp)
              · exact c2' _ hu
theorem okWide_arr {n e : Nat} {t : TypeId} {v : Value} {r : Reach} {base : Nat} (ht : P.underlying t = some (.array n e)) (h : Value.okWide P w r base t v) : ∃ cs, v = .agg cs ∧ cs.size = P.cellsOf t := by
  simp only [Value.okWide, ht] at h
  obtain ⟨cs, h1, h2, _⟩ := h
  exact ⟨cs, h1, h2⟩
end
end Go.Ab
end
