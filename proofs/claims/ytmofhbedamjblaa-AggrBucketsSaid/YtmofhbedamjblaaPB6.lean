/- Texts of this seat, merged in build order. No statement of its own. -/
import Derived.Test.YtmofhbedamjblaaPB5
set_option linter.unusedVariables false
set_option linter.unusedSimpArgs false
section
namespace Go.Proofs.Ytmofhbedamjblaa
open Go.Ab Go.RowKit
set_option maxRecDepth 100000
def sta (f : Int) (L D i : Nat) : Int := f ^ (L + (i - 1) / D) + ((((i - 1) % D : Nat) : Int) * (f ^ (L + (i - 1) / D + 1) - f ^ (L + (i - 1) / D)) + D - 1) / D
def bo (fn : Int) (p : List Int) (i : Nat) : Int :=
  if i = 0 then -9223372036854775808 else if (i : Int) = wd fn p then 9223372036854775808
  else if fn = 7 then (if i ≤ 63 then 1 - 2 ^ (63 - i) else 2 ^ (i - 64))
  else if fn = 8 then min (p.getD 0 0 + ((i : Int) - 1) * p.getD 2 0) (p.getD 1 0)
  else sta (p.getD 0 0) (p.getD 1 0).toNat (p.getD 3 0).toNat i
theorem bo_0 (fn : Int) (p : List Int) : bo fn p 0 = -9223372036854775808 := by unfold bo; rw [if_pos rfl]
theorem bo_w {fn : Int} {p : List Int} {i : Nat} (h0 : i ≠ 0) (h : (i : Int) = wd fn p) : bo fn p i = 9223372036854775808 := by unfold bo; rw [if_neg h0, if_pos h]
theorem bo_7 {p : List Int} {i : Nat} (h0 : i ≠ 0) (h : (i : Int) < wd 7 p) : bo 7 p i = if i ≤ 63 then 1 - 2 ^ (63 - i) else 2 ^ (i - 64) := by unfold bo; rw [if_neg h0, if_neg (by omega), if_pos rfl]
theorem bo_8 {a b c : Int} {i : Nat} (h0 : i ≠ 0) (h : (i : Int) < wd 8 [a, b, c]) : bo 8 [a, b, c] i = min (a + ((i : Int) - 1) * c) b := by
 unfold bo; rw [if_neg h0, if_neg (by omega), if_neg (by omega), if_pos rfl]; rfl
theorem bo_9 {f st : Int} {L H D : Nat} {i : Nat} (hD : st = (D : Int)) (h0 : i ≠ 0) (h : (i : Int) < wd 9 [f, (L : Int), (H : Int), st]) : bo 9 [f, (L : Int), (H : Int), st] i = sta f L D i := by
 subst hD
 unfold bo; rw [if_neg h0, if_neg (by omega), if_neg (by omega), if_neg (by omega)]; rfl
theorem ceil_le {x d y : Int} (hd : 0 < d) : (x + d - 1) / d ≤ y ↔ x ≤ y * d := by
 constructor
 ·intro h
  have h2 : (x + d - 1) / d < y + 1 := by omega
  have h3 := Int.lt_mul_of_ediv_lt hd h2
  rw [Int.add_mul, Int.one_mul] at h3
  omega
 ·intro h
  have : (x + d - 1) / d < y + 1 := by
   refine Int.ediv_lt_of_lt_mul hd ?_
   rw [Int.add_mul, Int.one_mul]; omega
  omega
theorem len_le {a : Int} (ha : U64 a) {k : Nat} (hk : k ≤ 64) : bl a ≤ k ↔ a < 2 ^ k := by
 obtain ⟨h0, h1, h2, h3⟩ := (s63' ha).2
 constructor
 ·intro h
  have := two_mono (show (bl a).toNat ≤ k by omega)
  omega
 ·intro h
  apply Classical.byContradiction
  intro hn
  have h4 := h3 (by omega)
  have := two_mono (show k ≤ (bl a).toNat - 1 by omega)
  omega
theorem sta_le {f v : Int} {L H D i : Nat} (hf : 2 ≤ f) (hD : 1 ≤ D) (hi : 1 ≤ i) {m : Nat} (hm : L ≤ m) (h1 : f ^ m ≤ v) (h2 : v < f ^ (m + 1)) :
    sta f L D i ≤ v ↔ (i : Int) ≤ 1 + ((m : Int) - L) * D + (v - f ^ m) * D / (f ^ (m + 1) - f ^ m) := by
  have hpm : 0 < f ^ m := Int.pow_pos (by omega)
  have hDi : (0 : Int) < D := by omega
  have hdm := Nat.div_add_mod (i - 1) D
  have hml := Nat.mod_lt (i - 1) (show D > 0 by omega)
  unfold sta
  generalize hq : (i - 1) / D = q at *
  generalize hr : (i - 1) % D = r at *
  have hi' : (i : Int) = 1 + (q : Int) * D + r := by
    have : i = 1 + q * D + r := by rw [Nat.mul_comm q D]; omega
    rw [this]; push_cast; rfl
  have hR : 0 < f ^ (L + q + 1) - f ^ (L + q) := by
    have h0 : 0 < f ^ (L + q) := Int.pow_pos (by omega)
    have : f ^ (L + q) * 2 ≤ f ^ (L + q) * f := Int.mul_le_mul_of_nonneg_left hf (by omega)
    rw [Int.pow_succ]; omega
  have hq0 : 0 ≤ (v - f ^ m) * D / (f ^ (m + 1) - f ^ m) := Int.ediv_nonneg (Int.mul_nonneg (by omega) (by omega)) (by omega)
  have hq1 : (v - f ^ m) * D / (f ^ (m + 1) - f ^ m) < D := by
    refine Int.ediv_lt_of_lt_mul (by omega) ?_
    rw [Int.mul_comm]
    exact Int.mul_lt_mul_of_pos_left (by omega) hDi
  generalize hQ : (v - f ^ m) * D / (f ^ (m + 1) - f ^ m) = Q at *
  have hrR : 0 ≤ (r : Int) * (f ^ (L + q + 1) - f ^ (L + q)) := Int.mul_nonneg (by omega) (by omega)
  have hc0 : 0 ≤ ((r : Int) * (f ^ (L + q + 1) - f ^ (L + q)) + D - 1) / D := Int.ediv_nonneg (by omega) (by omega)
  have hc1 : ((r : Int) * (f ^ (L + q + 1) - f ^ (L + q)) + D - 1) / D ≤ f ^ (L + q + 1) - f ^ (L + q) := by
    refine (ceil_le hDi).2 ?_
    rw [Int.mul_comm (f ^ (L + q + 1) - f ^ (L + q))]
    exact Int.mul_le_mul_of_nonneg_right (by omega) (by omega)
  rcases Nat.lt_trichotomy (L + q) m with hlt | heq | hgt
  · have hle := pow_mono (show 1 ≤ f by omega) (show L + q + 1 ≤ m by omega)
    have hmul : ((q : Int) + 1) * D ≤ ((m : Int) - L) * D := Int.mul_le_mul_of_nonneg_right (by omega) (by omega)
    rw [Int.add_mul, Int.one_mul] at hmul
    constructor
    · intro _; omega
    · intro _; omega
  · subst heq
    have hQ2 : (r : Int) ≤ Q ↔ (r : Int) * (f ^ (L + q + 1) - f ^ (L + q)) ≤ (v - f ^ (L + q)) * D := by
      rw [← hQ]; exact Int.le_ediv_iff_mul_le (by omega)
    have e : ((L + q : Nat) : Int) - L = q := by omega
    rw [e]
    constructor
    · intro h
      have := hQ2.2 ((ceil_le hDi).1 (show _ ≤ v - f ^ (L + q) by omega))
      omega
    · intro h
      have := (ceil_le hDi).2 (hQ2.1 (by omega))
      omega
  · have hle := pow_mono (show 1 ≤ f by omega) (show m + 1 ≤ L + q by omega)
    have hmul : ((m : Int) - L + 1) * D ≤ (q : Int) * D := Int.mul_le_mul_of_nonneg_right (by omega) (by omega)
    rw [Int.add_mul, Int.one_mul] at hmul
    constructor
    · intro _; omega
    · intro _; omega
theorem sta_1 (f : Int) (L D : Nat) (hD : 1 ≤ D) : sta f L D 1 = f ^ L := by
 unfold sta
 rw [Nat.sub_self, Nat.zero_div, Nat.zero_mod, Nat.add_zero]
 have : (((0 : Nat) : Int) * (f ^ (L + 1) - f ^ L) + D - 1) / D = 0 := by
  rw [show ((0 : Nat) : Int) = 0 from rfl, Int.zero_mul]
  exact Int.ediv_eq_zero_of_lt (by omega) (by omega)
 rw [this, Int.add_zero]
theorem sta_succ (f : Int) (L D i : Nat) (hD : 1 ≤ D) (hi : 1 ≤ i) : sta f L D (i + 1) = f ^ (L + (i - 1) / D) + (((((i - 1) % D : Nat) : Int) + 1) * (f ^ (L + (i - 1) / D + 1) - f ^ (L + (i - 1) / D)) + D - 1) / D := by
  unfold sta
  obtain ⟨j, rfl⟩ : ∃ j, i = j + 1 := ⟨i - 1, by omega⟩
  simp only [Nat.add_sub_cancel]
  have hdm := Nat.div_add_mod j D
  have hml := Nat.mod_lt j (show D > 0 by omega)
  by_cases hw : j % D + 1 = D
  · have e1 : (j + 1) / D = j / D + 1 := by
      have : j + 1 = (j / D + 1) * D := by rw [Nat.add_mul, Nat.one_mul, Nat.mul_comm]; omega
      rw [this]; exact Nat.mul_div_cancel _ (by omega)
    have e2 : (j + 1) % D = 0 := by
      have : j + 1 = (j / D + 1) * D := by rw [Nat.add_mul, Nat.one_mul, Nat.mul_comm]; omega
      rw [this]; exact Nat.mul_mod_left _ _
    have e3 : ((j % D : Nat) : Int) + 1 = (D : Int) := by omega
    rw [e1, e2, e3, show ((0 : Nat) : Int) = 0 from rfl, Int.zero_mul, show L + (j / D + 1) = L + j / D + 1 by omega]
    have z : ((0 : Int) + D - 1) / D = 0 := Int.ediv_eq_zero_of_lt (by omega) (by omega)
    have y : ((D : Int) * (f ^ (L + j / D + 1) - f ^ (L + j / D)) + D - 1) / D = f ^ (L + j / D + 1) - f ^ (L + j / D) := by
      rw [show (D : Int) * (f ^ (L + j / D + 1) - f ^ (L + j / D)) + D - 1 = (D - 1) + D * (f ^ (L + j / D + 1) - f ^ (L + j / D)) by omega, Int.add_mul_ediv_left _ _ (by omega), Int.ediv_eq_zero_of_lt (by omega) (by omega)]
      omega
    rw [z, y]; omega
  · have e1 : (j + 1) / D = j / D := by
      have : j + 1 = D * (j / D) + (j % D + 1) := by omega
      rw [this, Nat.mul_add_div (by omega), Nat.div_eq_of_lt (show j % D + 1 < D by omega), Nat.add_zero]
    have e2 : (j + 1) % D = j % D + 1 := by
      have : j + 1 = D * (j / D) + (j % D + 1) := by omega
      rw [this, Nat.mul_add_mod, Nat.mod_eq_of_lt (show j % D + 1 < D by omega)]
    rw [e1, e2]; push_cast; rfl
theorem sta_rng {f : Int} {L H D i : Nat} (hf : 2 ≤ f) (hD : 1 ≤ D) (hi : 1 ≤ i) (hi2 : i ≤ (H + 1 - L) * D + 1) (hLH : L ≤ H) : f ^ L ≤ sta f L D i ∧ sta f L D i ≤ f ^ (H + 1) := by
 have hDi : (0 : Int) < D := by omega
 have hdm := Nat.div_add_mod (i - 1) D
 have hml := Nat.mod_lt (i - 1) (show D > 0 by omega)
 have hq : (i - 1) / D ≤ H + 1 - L := by
  have : (i - 1) / D ≤ (H + 1 - L) * D / D := Nat.div_le_div_right (by omega)
  rwa [Nat.mul_div_cancel _ (by omega)] at this
 unfold sta
 generalize hqq : (i - 1) / D = q at *
 generalize hr : (i - 1) % D = r at *
 have h0 : 0 < f ^ (L + q) := Int.pow_pos (by omega)
 have hR : 0 < f ^ (L + q + 1) - f ^ (L + q) := by
  have : f ^ (L + q) * 2 ≤ f ^ (L + q) * f := Int.mul_le_mul_of_nonneg_left hf (by omega)
  rw [Int.pow_succ]; omega
 have hrR : 0 ≤ (r : Int) * (f ^ (L + q + 1) - f ^ (L + q)) := Int.mul_nonneg (by omega) (by omega)
 have hc0 : 0 ≤ ((r : Int) * (f ^ (L + q + 1) - f ^ (L + q)) + D - 1) / D := Int.ediv_nonneg (by omega) (by omega)
 have hle := pow_mono (show 1 ≤ f by omega) (show L ≤ L + q by omega)
 refine ⟨by omega, ?_⟩
 by_cases hz : q = H + 1 - L
 ·have hr0 : r = 0 := by
   have : D * q = (H + 1 - L) * D := by rw [hz, Nat.mul_comm]
   omega
  have e : ((r : Int) * (f ^ (L + q + 1) - f ^ (L + q)) + D - 1) / D = 0 := by
   rw [hr0, show ((0 : Nat) : Int) = 0 from rfl, Int.zero_mul]
   exact Int.ediv_eq_zero_of_lt (by omega) (by omega)
  rw [e, show L + q = H + 1 by omega]; omega
 ·have hle2 := pow_mono (show 1 ≤ f by omega) (show L + q + 1 ≤ H + 1 by omega)
  have hc1 : ((r : Int) * (f ^ (L + q + 1) - f ^ (L + q)) + D - 1) / D ≤ f ^ (L + q + 1) - f ^ (L + q) := by
   refine (ceil_le hDi).2 ?_
   rw [Int.mul_comm (f ^ (L + q + 1) - f ^ (L + q))]
   exact Int.mul_le_mul_of_nonneg_right (by omega) (by omega)
  omega
theorem okP.log2 {p : List Int} (h : okP 9 p) : ∃ (f : Int) (L H D : Nat), p = [f, (L : Int), (H : Int), (D : Int)] ∧ 2 ≤ f ∧ f ≤ 100 ∧ L ≤ H ∧ H ≤ 18 ∧ 1 ≤ D ∧ D ≤ 100 ∧ f ^ (H + 1) ≤ 4611686018427387904 := by
 obtain ⟨f, st, L, H, rfl, h1, h2, h3, h4, h5, h6, h7⟩ := h.log'
 obtain ⟨D, rfl⟩ := Int.eq_ofNat_of_zero_le (show 0 ≤ st by omega)
 exact ⟨f, L, H, D, rfl, h1, h2, h3, h4, by omega, by omega, h7⟩
theorem wd9n (f : Int) (L H D : Nat) (h : L ≤ H) : wd 9 [f, (L : Int), (H : Int), (D : Int)] = (((H + 1 - L) * D + 2 : Nat) : Int) := by
 rw [wd9]
 have : (H : Int) - L + 1 = ((H + 1 - L : Nat) : Int) := by omega
 rw [this]; push_cast; rfl
theorem bo_key {nm : ByteArray} {fn : Int} {p : List Int} {ks : List V} (h : okA nm fn p ks) (h7 : 7 ≤ fn) {i : Nat} (hi : (i : Int) ≤ wd fn p) : (-9223372036854775808 ≤ bo fn p i ∧ bo fn p i ≤ 9223372036854775808) ∧ ∀ v, I64 v → (bo fn p i ≤ v ↔ (i : Int) ≤ bk fn p v) := by
  have hw := wd_rng h
  by_cases h0 : i = 0
  · subst h0
    rw [bo_0]
    refine ⟨by omega, fun v hv => ?_⟩
    have := (s32 h h7 hv).2.1
    have := hv.1
    constructor
    · intro _; omega
    · intro _; omega
  by_cases hwd : (i : Int) = wd fn p
  · rw [bo_w h0 hwd]
    refine ⟨by omega, fun v hv => ?_⟩
    have := (s32 h h7 hv).2.2
    have := hv.2
    constructor
    · intro _; omega
    · intro _; omega
  have hf := h.fn
  rcases (show fn = 7 ∨ fn = 8 ∨ fn = 9 by omega) with rfl | rfl | rfl
  · obtain rfl := h.nil (by omega)
    have hi127 : i < 127 := by have e : wd 7 [] = 127 := rfl; omega
    rw [bo_7 h0 (by omega)]
    by_cases h63 : i ≤ 63
    · rw [if_pos h63]
      have hp := two_pos (63 - i)
      have hp2 := two_mono (show 63 - i ≤ 63 by omega)
      have e63 : (2 : Int) ^ 63 = 9223372036854775808 := by decide
      refine ⟨by omega, fun v hv => ?_⟩
      rw [bk_of (s32_7 (nm := nm) (ks := ks) hv)]
      obtain ⟨v0, v1⟩ := hv
      by_cases hv0 : 0 ≤ v
      · rw [if_pos hv0]
        have := (s63' (a := v) ⟨by omega, by omega⟩).2.1
        constructor
        · intro _; omega
        · intro _; omega
      · rw [if_neg hv0]
        have hl := len_le (a := -v) ⟨by omega, by omega⟩ (show 63 - i ≤ 64 by omega)
        rw [show ((63 - i : Nat) : Int) = 63 - (i : Int) by omega] at hl
        constructor
        · intro hb
          have := hl.2 (by omega)
          split <;> omega
        · intro hb
          have : bl (-v) ≤ 63 - (i : Int) := by
            split at hb <;> omega
          have := hl.1 this
          omega
    · rw [if_neg h63]
      have hp := two_pos (i - 64)
      have hp2 := two_mono (show i - 64 ≤ 63 by omega)
      have e63 : (2 : Int) ^ 63 = 9223372036854775808 := by decide
      refine ⟨by omega, fun v hv => ?_⟩
      rw [bk_of (s32_7 (nm := nm) (ks := ks) hv)]
      obtain ⟨v0, v1⟩ := hv
      by_cases hv0 : 0 ≤ v
      · rw [if_pos hv0]
        have hl := len_le (a := v) ⟨by omega, by omega⟩ (show i - 64 ≤ 64 by omega)
        rw [show ((i - 64 : Nat) : Int) = (i : Int) - 64 by omega] at hl
        constructor
        · intro hb
          apply Classical.byContradiction
          intro hn
          have := hl.1 (by omega)
          omega
        · intro hb
          apply Classical.byContradiction
          intro hn
          have := hl.2 (by omega)
          omega
      · rw [if_neg hv0]
        have hb0 := (s63' (a := -v) ⟨by omega, by omega⟩).2.1
        constructor
        · intro hb; omega
        · intro hb
          split at hb <;> omega
  · obtain ⟨a, b, c, rfl, h1, h2, h3, h4, h5, h6⟩ := h.2.2.2.2.2.1.lin
    have s0 := (s65 h3 h5 h4 h1 h2).2.1
    have ew := wd8 a b c
    rw [bo_8 h0 (by omega)]
    have hm0 : 0 ≤ ((i : Int) - 1) * c := Int.mul_nonneg (by omega) (by omega)
    refine ⟨by omega, fun v hv => ?_⟩
    rw [bk_of (s32_8 h hv)]
    by_cases q1 : v < a
    · rw [if_pos q1]
      constructor
      · intro hb; omega
      · intro hb; omega
    · rw [if_neg q1]
      by_cases q2 : v ≥ b
      · rw [if_pos q2]
        constructor
        · intro hb; omega
        · intro hb; omega
      · rw [if_neg q2]
        have hq := Int.le_ediv_iff_mul_le (a := (i : Int) - 1) (b := v - a) (show 0 < c by omega)
        constructor
        · intro hb
          have := hq.2 (by omega)
          omega
        · intro hb
          have := hq.1 (by omega)
          omega
  · obtain ⟨f, L, H, D, rfl, h1, h2, h3, h4, h5, h6, h7⟩ := h.2.2.2.2.2.1.log2
    have ew := wd9n f L H D h3
    rw [bo_9 rfl h0 (by omega)]
    have hr := sta_rng (f := f) (L := L) (H := H) (D := D) (i := i) h1 h5 (by omega) (by omega) h3
    have hp0 : 0 < f ^ L := Int.pow_pos (by omega)
    refine ⟨by omega, fun v hv => ?_⟩
    have e := s32_9 h hv h1 h2 h3 h4 (by omega) (by omega) h7
    by_cases q1 : v < f ^ L
    · rw [if_pos q1] at e
      rw [bk_of e]
      constructor
      · intro hb; omega
      · intro hb; omega
    · rw [if_neg q1] at e
      by_cases q2 : v ≥ f ^ (H + 1)
      · rw [if_pos q2] at e
        rw [bk_of e]
        have eD : ((H : Int) - L + 1) * D + 1 = (((H + 1 - L) * D + 1 : Nat) : Int) := by
          have : (H : Int) - L + 1 = ((H + 1 - L : Nat) : Int) := by omega
          rw [this]; push_cast; rfl
        rw [eD]
        constructor
        · intro hb; omega
        · intro hb; omega
      · rw [if_neg q2] at e
        obtain ⟨m, m1, m2, m3, m4, m5, m6, e2⟩ := s64 h1 h2 h3 h4 (st := (D : Int)) (by omega) (by omega) h7 (v := v) (by omega) (by omega)
        rw [e2] at e
        rw [bk_of e]
        exact sta_le (H := H) h1 h5 (by omega) m1 m3 m4
end Go.Proofs.Ytmofhbedamjblaa
end
section
namespace Go.Proofs.Ytmofhbedamjblaa
open Go.Ab Go.RowKit
set_option maxRecDepth 100000
theorem shl_i {k : Nat} (h : k ≤ 62) : arReal .shl .i64 1 (k : Int) = 2 ^ k := by
  have hp := two_pos k
  have hp2 := two_mono h
  have e62 : (2 : Int) ^ 62 = 4611686018427387904 := by decide
  simp only [arReal]
  rw [show min ((k : Int)).toNat IntKind.i64.bits = k from by
    show min ((k : Int)).toNat 64 = k
    simp; omega]
  show wrapK .i64 _ = _
  rw [wk_i ⟨by omega, by omega⟩, Int.one_mul]
theorem shl_m {k : Nat} (h : k ≤ 62) : arReal .shl .i64 (-1) (k : Int) = -2 ^ k := by
  have hp := two_pos k
  have hp2 := two_mono h
  have e62 : (2 : Int) ^ 62 = 4611686018427387904 := by decide
  simp only [arReal]
  rw [show min ((k : Int)).toNat IntKind.i64.bits = k from by
    show min ((k : Int)).toNat 64 = k
    simp; omega]
  show wrapK .i64 _ = _
  rw [Int.neg_mul, Int.one_mul, wk_i ⟨by omega, by omega⟩]
theorem s36_7 {nm : ByteArray} {p ks : List V} {i : Nat} (h0 : 0 < i) (h1 : i < 127) : d36 nm 7 p ks (i : Int) = some (bo 7 [] i, bo 7 [] (i + 1) - 1) := by
  have ew : wd 7 [] = 127 := rfl
  unfold d36
  rw [if_pos (by decide), bo_7 (by omega) (by omega), c_gtr, c_eql]
  by_cases h : (i : Int) > 63
  · obtain ⟨k, rfl⟩ : ∃ k, i = k + 64 := ⟨i - 64, by omega⟩
    have e : arReal .sub .i64 ((k + 64 : Nat) : Int) 64 = (k : Int) := by rw [ar_sub' ⟨by omega, by omega⟩]; omega
    have hp := two_pos k
    have hp2 := two_mono (show k ≤ 62 by omega)
    have e62 : (2 : Int) ^ 62 = 4611686018427387904 := by decide
    have g : Ge0 (k : Int) := by unfold Ge0; omega
    rw [yif h, e, if_pos g, if_pos g, if_pos g, shl_i (by omega), if_neg (by omega), ar_sub' ⟨by omega, by omega⟩, ar_add' ⟨by omega, by omega⟩, Nat.add_sub_cancel]
    congr 2
    by_cases hk : k = 62
    · subst hk
      rw [bo_w (by omega) (by omega)]; decide
    · rw [bo_7 (by omega) (by omega), if_neg (by omega), show k + 64 + 1 - 64 = k + 1 by omega, two_succ]; omega
  · rw [yif' h]
    by_cases h63 : (i : Int) = 63
    · rw [yif h63]
      obtain rfl : i = 63 := by omega
      rw [bo_7 (by omega) (by omega)]
      decide
    · obtain ⟨k, hk⟩ : ∃ k, k + i = 62 := ⟨62 - i, by omega⟩
      have e : arReal .sub .i64 62 (i : Int) = (k : Int) := by rw [ar_sub' ⟨by omega, by omega⟩]; omega
      have hp := two_pos k
      have hp2 := two_mono (show k ≤ 61 by omega)
      have e61 : (2 : Int) ^ 61 = 2305843009213693952 := by decide
      have g : Ge0 (k : Int) := by unfold Ge0; omega
      rw [yif' h63, e, if_pos g, if_pos g, if_pos g, shl_i (by omega), shl_m (by omega), ar_sub' ⟨by omega, by omega⟩, ar_add' ⟨by omega, by omega⟩]
      rw [if_pos (by omega), bo_7 (by omega) (by omega), if_pos (by omega), show 63 - i = k + 1 by omega, show 63 - (i + 1) = k by omega, two_succ]
      have en : unReal .neg .i64 (2 ^ k - 1 + 2 ^ k) = -(2 ^ k - 1 + 2 ^ k) := by
        show wrapK .i64 (0 - _) = _
        rw [wk_i ⟨by omega, by omega⟩]; omega
      rw [en]
      congr 2 <;> omega
theorem lin_edge {a b c : Int} {i : Nat} (h1 : 1 ≤ c) (h2 : c ≤ 4611686018427387904) (h3 : -4611686018427387904 ≤ a) (h4 : a < b) (h5 : b ≤ 4611686018427387904) (h6 : stp a b c ≤ 100) (hi : 1 ≤ i) (hi2 : (i : Int) ≤ stp a b c) :
    wrapK .i64 (arReal .add .u64 (wrapK .u64 a) (arReal .mul .u64 (wrapK .u64 (arReal .sub .i64 (i : Int) 1)) (wrapK .u64 c))) = bo 8 [a, b, c] i ∧
    wrapK .i64 (arReal .sub .u64 (arReal .add .u64 (wrapK .u64 a) (mnI (arReal .add .u64 (arReal .mul .u64 (wrapK .u64 (arReal .sub .i64 (i : Int) 1)) (wrapK .u64 c)) (wrapK .u64 c)) (arReal .sub .u64 (wrapK .u64 b) (wrapK .u64 a)))) 1) = bo 8 [a, b, c] (i + 1) - 1 := by
  have ew := wd8 a b c
  have hm0 : 0 ≤ ((i : Int) - 1) * c := Int.mul_nonneg (by omega) (by omega)
  have hsd : stp a b c * c ≤ b - a + c - 1 := Int.ediv_mul_le _ (by omega)
  have hmm : (i : Int) * c ≤ stp a b c * c := Int.mul_le_mul_of_nonneg_right hi2 (by omega)
  have hmi : ((i : Int) - 1) * c = (i : Int) * c - c := by rw [Int.sub_mul, Int.one_mul]
  have e1 : wrapK .u64 (arReal .sub .i64 (i : Int) 1) = (i : Int) - 1 := by rw [ar_sub' ⟨by omega, by omega⟩, wk_u ⟨by omega, by omega⟩]
  have e2 : wrapK .u64 c = c := wk_u ⟨by omega, by omega⟩
  have e3 : arReal .mul .u64 ((i : Int) - 1) c = ((i : Int) - 1) * c := ar_mulu' ⟨by omega, by omega⟩
  have e4 : arReal .sub .u64 (wrapK .u64 b) (wrapK .u64 a) = b - a := by rw [ar_subu, wk_u64, wk_u64, wk_u64]; omega
  have e5 : arReal .add .u64 (((i : Int) - 1) * c) c = ((i : Int) - 1) * c + c := ar_addu' ⟨by omega, by omega⟩
  rw [e1, e2, e3, e4, e5, bo_8 (by omega) (by omega), bo_8 (by omega) (by push_cast; omega)]
  have em : mnI (((i : Int) - 1) * c + c) (b - a) = min (((i : Int) - 1) * c + c) (b - a) := by
    unfold mnI
    split <;> omega
  rw [em]
  have emi : (((i + 1 : Nat) : Int) - 1) * c = (i : Int) * c := by rw [show ((i + 1 : Nat) : Int) - 1 = (i : Int) by omega]
  rw [emi, hmi]
  have hp : 0 ≤ (i : Int) * c := Int.mul_nonneg (by omega) (by omega)
  generalize (i : Int) * c = X at *
  constructor
  · rw [ar_addu, wk_u64, wk_u64, wk_i64]; omega
  · rw [ar_subu, ar_addu, wk_u64, wk_u64, wk_u64, wk_i64]; omega
theorem s36_8 {nm : ByteArray} {a b c : Int} {ks : List V} {i : Nat} (h1 : 1 ≤ c) (h2 : c ≤ 4611686018427387904) (h3 : -4611686018427387904 ≤ a) (h4 : a < b) (h5 : b ≤ 4611686018427387904) (h6 : stp a b c ≤ 100) (hi : 1 ≤ i) (hi2 : (i : Int) ≤ stp a b c) :
    d36 nm 8 (vi [a, b, c]) ks (i : Int) = some (bo 8 [a, b, c] i, bo 8 [a, b, c] (i + 1) - 1) := by
  have e := lin_edge h1 h2 h3 h4 h5 h6 hi hi2
  unfold d36
  rw [if_neg (by decide), if_pos (by decide)]
  simp only [iv30, iv31, iv32, ↓reduceIte, g30, g31, g32]
  rw [e.1, e.2]
theorem s66 {f x rest : Int} {L H D : Nat} (h0 : 0 ≤ x) (h1 : x ≤ D) (hD : 1 ≤ D) (hD2 : D ≤ 100) (hr : 0 ≤ rest) (hr2 : rest ≤ 4611686018427387904) (b : Int) (hb0 : 0 ≤ b) (hb : b + rest ≤ 4611686018427387904) :
    d66v1 x rest (vi [f, (L : Int), (H : Int), (D : Int)]) b = some (b + (x * rest + D - 1) / D) ∧ 0 ≤ (x * rest + D - 1) / D ∧ (x * rest + D - 1) / D ≤ rest := by
  have m := mul_rng2 (x := x) (y := rest) (m := 100) (n := 4611686018427387904) h0 (by omega) hr hr2
  have hDi : (0 : Int) < D := by omega
  have q0 : 0 ≤ (x * rest + D - 1) / D := Int.ediv_nonneg (by omega) (by omega)
  have q1 : (x * rest + D - 1) / D ≤ rest := by
    refine (ceil_le hDi).2 ?_
    rw [Int.mul_comm rest]
    exact Int.mul_le_mul_of_nonneg_right (by omega) (by omega)
  refine ⟨?_, q0, q1⟩
  have eD : wrapK .u64 (D : Int) = (D : Int) := wk_u ⟨by omega, by omega⟩
  unfold d66v1
  rw [s67 ⟨by omega, by omega⟩ ⟨by omega, by omega⟩]
  simp only [Option.bind_some, iv43, ↓reduceIte, g43, eD]
  rw [ar_subu' (a := (D : Int)) ⟨by omega, by omega⟩, s68 ⟨by omega, by omega⟩ ⟨by omega, by omega⟩ (by omega) (by omega)]
  simp only [Option.bind_some]
  rw [ar_addu' (a := x * rest / 18446744073709551616) ⟨by omega, by omega⟩]
  have hmle : x * rest ≤ D * 4611686018427387904 := Int.mul_le_mul (by omega) hr2 hr (by omega)
  obtain ⟨r, e⟩ := s69 (hi := x * rest / 18446744073709551616 + (x * rest % 18446744073709551616 + (D - 1) + 0) / 18446744073709551616) (lo := (x * rest % 18446744073709551616 + (D - 1) + 0) % 18446744073709551616) (y := (D : Int)) (by omega) ⟨by omega, by omega⟩ (by omega) ⟨by omega, by omega⟩
  rw [show (x * rest / 18446744073709551616 + (x * rest % 18446744073709551616 + ((D : Int) - 1) + 0) / 18446744073709551616) * 18446744073709551616 + (x * rest % 18446744073709551616 + (D - 1) + 0) % 18446744073709551616 = x * rest + D - 1 by omega] at e
  rw [e]
  simp only [Option.bind_some]
  rw [wk_i ⟨by omega, by omega⟩, ar_add' ⟨by omega, by omega⟩]
theorem log_idx {L D i : Nat} (hi : 1 ≤ i) (hi2 : i ≤ 100000) (hD : 1 ≤ D) (hD2 : D ≤ 100) (hL : L ≤ 18) :
    arReal .sub .i64 (i : Int) 1 = ((i - 1 : Nat) : Int) ∧ arReal .quo .i64 ((i - 1 : Nat) : Int) (D : Int) = (((i - 1) / D : Nat) : Int) ∧ arReal .rem .i64 ((i - 1 : Nat) : Int) (D : Int) = (((i - 1) % D : Nat) : Int) ∧ arReal .add .i64 (L : Int) (((i - 1) / D : Nat) : Int) = ((L + (i - 1) / D : Nat) : Int) := by
  have : (i - 1) / D ≤ i - 1 := Nat.div_le_self _ _
  refine ⟨?_, ?_, ?_, ?_⟩
  · rw [ar_sub' ⟨by omega, by omega⟩]; omega
  · rw [ar_quo' (by omega) (by omega) (by omega)]; push_cast; rfl
  · rw [ar_rem' (by omega) (by omega) (by omega)]; push_cast; rfl
  · generalize (i - 1) / D = q at *
    rw [ar_add' ⟨by omega, by omega⟩]; push_cast; rfl
theorem s36_9 {nm : ByteArray} {f : Int} {L H D i : Nat} {ks : List V} (hf : 2 ≤ f) (hf2 : f ≤ 100) (hLH : L ≤ H) (hH : H ≤ 18) (hD : 1 ≤ D) (hD2 : D ≤ 100) (hM : f ^ (H + 1) ≤ 4611686018427387904) (hi : 1 ≤ i) (hi2 : i ≤ (H + 1 - L) * D) :
    d36 nm 9 (vi [f, (L : Int), (H : Int), (D : Int)]) ks (i : Int) = some (sta f L D i, sta f L D (i + 1) - 1) := by
  have hmul : (H + 1 - L) * D ≤ 19 * 100 := Nat.mul_le_mul (by omega) hD2
  obtain ⟨e1, e2, e3, e4⟩ := log_idx (L := L) hi (by omega) hD hD2 (by omega)
  have hq : (i - 1) / D < H + 1 - L := by
    rw [Nat.div_lt_iff_lt_mul (by omega)]; omega
  have hml := Nat.mod_lt (i - 1) (show D > 0 by omega)
  have n0 : Ne0 (D : Int) := by unfold Ne0; omega
  rw [sta_succ f L D i hD hi]
  unfold d36 sta
  rw [if_neg (by decide), if_neg (by decide)]
  simp only [iv40, iv41, iv43, ↓reduceIte, g40, g41, g43, e1, e2, e3, e4, if_pos n0]
  generalize (i - 1) / D = q at *
  generalize (i - 1) % D = r at *
  have h0 : 0 < f ^ (L + q) := Int.pow_pos (by omega)
  have hR : 0 < f ^ (L + q + 1) - f ^ (L + q) := by
    have : f ^ (L + q) * 2 ≤ f ^ (L + q) * f := Int.mul_le_mul_of_nonneg_left hf (by omega)
    rw [Int.pow_succ]; omega
  have hle := pow_mono (show 1 ≤ f by omega) (show L + q + 1 ≤ H + 1 by omega)
  have e5 : arReal .add .i64 ((L + q : Nat) : Int) 1 = ((L + q + 1 : Nat) : Int) := succ_i (n := 1000) (by omega) (by omega)
  rw [e5, s35_small hf hf2 (show L + q ≤ H + 1 by omega) hM (by omega)]
  simp only [Option.bind_some]
  rw [s35_small hf hf2 (show L + q + 1 ≤ H + 1 by omega) hM (by omega)]
  simp only [Option.bind_some]
  rw [ar_sub' (a := f ^ (L + q + 1)) ⟨by omega, by omega⟩, wk_u (a := f ^ (L + q + 1) - f ^ (L + q)) ⟨by omega, by omega⟩, wk_u (a := (r : Int)) ⟨by omega, by omega⟩, ar_addu' (a := (r : Int)) ⟨by omega, by omega⟩]
  obtain ⟨u1, u2, u3⟩ := s66 (f := f) (L := L) (H := H) (D := D) (x := (r : Int)) (rest := f ^ (L + q + 1) - f ^ (L + q)) (by omega) (by omega) hD hD2 (by omega) (by omega) (f ^ (L + q)) (by omega) (by omega)
  obtain ⟨w1, w2, w3⟩ := s66 (f := f) (L := L) (H := H) (D := D) (x := (r : Int) + 1) (rest := f ^ (L + q + 1) - f ^ (L + q)) (by omega) (by omega) hD hD2 (by omega) (by omega) (f ^ (L + q)) (by omega) (by omega)
  rw [u1, w1]
  simp only [Option.bind_some]
  rw [ar_sub' ⟨by omega, by omega⟩]
def rngOf (fn : Int) (p : List Int) (i : Nat) : Int × Int × Bool × Int := if bo fn p i > bo fn p (i + 1) - 1 then (0, 0, false, 0) else (bo fn p i, bo fn p (i + 1) - 1, true, 0)
theorem bo_last8 {a b c : Int} (h1 : 1 ≤ c) (h2 : c ≤ 4611686018427387904) (h3 : -4611686018427387904 ≤ a) (h4 : a < b) (h5 : b ≤ 4611686018427387904) {i : Nat} (hi : (i : Int) = stp a b c + 1) : bo 8 [a, b, c] i = b := by
  have ew := wd8 a b c
  have s0 := (s65 h3 h5 h4 h1 h2).2.1
  rw [bo_8 (by omega) (by omega), show (i : Int) - 1 = stp a b c by omega]
  have : b - a + c - 1 < (stp a b c + 1) * c := by
    have := Int.lt_ediv_add_one_mul_self (b - a + c - 1) (show 0 < c by omega)
    exact this
  rw [Int.add_mul, Int.one_mul] at this
  omega
theorem sta_last {f : Int} {L H D : Nat} (hD : 1 ≤ D) (hLH : L ≤ H) : sta f L D ((H + 1 - L) * D + 1) = f ^ (H + 1) := by
  unfold sta
  rw [Nat.add_sub_cancel, Nat.mul_div_cancel _ (by omega), Nat.mul_mod_left, show ((0 : Nat) : Int) = 0 from rfl, Int.zero_mul, Int.ediv_eq_zero_of_lt (by omega) (by omega), show L + (H + 1 - L) = H + 1 by omega, Int.add_zero]
open Classical in
theorem s12 (nm : ByteArray) (fn : Int) (p : List Int) (ks : List V) (hp : ∀ x ∈ p, I64 x) (i : Int) :
    d12 nm fn (vi p) ks i = some (if okA nm fn p ks then (if 7 ≤ fn ∧ 0 ≤ i ∧ i < wd fn p then rngOf fn p i.toNat else (0, 0, false, 1)) else (0, 0, false, 210)) := by
  unfold d12
  rw [s22 nm fn p ks hp]
  simp only [Option.bind_some, c_neq]
  rcases Classical.em (okA nm fn p ks) with h | h
  rotate_left
  · rw [if_neg h, if_neg h, nif' (by omega)]
  have hw := wd_rng h
  have hf := h.fn
  rw [if_pos h, if_pos h, nif rfl, s31]
  simp only [Option.bind_some, notB_dec]
  rcases Classical.em (fn ≥ 7) with h7 | h7
  rotate_left
  · rw [nif' h7, if_neg (fun k => h7 k.1)]
  rw [nif h7, s34 h]
  simp only [Option.bind_some, e33, s76, notB_dec]
  rw [ar_sub' (a := wd fn p) ⟨by omega, by omega⟩]
  rcases Classical.em (0 ≤ i ∧ i ≤ wd fn p - 1) with hi | hi
  rotate_left
  · have hc : ¬ (7 ≤ fn ∧ 0 ≤ i ∧ i < wd fn p) := fun k => hi ⟨k.2.1, by omega⟩
    rw [nif' hi, if_neg hc]
  have hc : 7 ≤ fn ∧ 0 ≤ i ∧ i < wd fn p := ⟨h7, hi.1, by omega⟩
  rw [nif hi, if_pos hc]
  obtain ⟨n, rfl⟩ := Int.eq_ofNat_of_zero_le hi.1
  rw [Int.toNat_natCast]
  have k1 := (bo_key h h7 (i := n) (by omega)).1
  have k2 := (bo_key h h7 (i := n + 1) (by push_cast; omega)).1
  -- the bounds that are met
  have fin : ∀ x : Int × Int, x = (bo fn p n, bo fn p (n + 1) - 1) → (if cmpLit .gtr x.1 x.2 = true then some ((0 : Int), (0 : Int), false, (0 : Int)) else some (x.1, x.2, true, 0)) = some (rngOf fn p n) := by
    rintro x rfl
    unfold rngOf
    dsimp only
    rw [c_gtr]
    by_cases hg : bo fn p n > bo fn p (n + 1) - 1
    · rw [yif hg, if_pos hg]
    · rw [yif' hg, if_neg hg]
  rcases (show fn = 7 ∨ fn = 8 ∨ fn = 9 by omega) with rfl | rfl | rfl
  · obtain rfl := h.nil (by omega)
    have ew : wd 7 [] = 127 := rfl
    simp only [c_eql, Int.reduceEq, decide_false, decide_true, Bool.false_eq_true, ↓reduceIte, Option.bind_some]
    by_cases hn : (n : Int) = 0
    · obtain rfl : n = 0 := by omega
      rw [yif hn]
      refine bnd1 rfl (fin _ ?_)
      rw [bo_0, bo_7 (by omega) (by omega)]; decide
    · rw [yif' hn, s36_7 (by omega) (by omega)]
      exact bnd1 rfl (fin _ rfl)
  · obtain ⟨a, b, c, rfl, h1, h2, h3, h4, h5, h6⟩ := h.2.2.2.2.2.1.lin
    have s0 := (s65 h3 h5 h4 h1 h2).2.1
    have ew := wd8 a b c
    simp only [c_eql, Int.reduceEq, decide_false, decide_true, Bool.false_eq_true, ↓reduceIte, Option.bind_some, iv30, iv31, g30, g31]
    by_cases hn : (n : Int) = 0
    · obtain rfl : n = 0 := by omega
      rw [yif hn]
      refine bnd1 rfl (fin _ ?_)
      rw [bo_0, bo_8 (by omega) (by push_cast; omega), ar_sub' ⟨by omega, by omega⟩]
      congr 1
      rw [show ((0 + 1 : Nat) : Int) - 1 = 0 by omega, Int.zero_mul]
      omega
    · rw [yif' hn]
      by_cases hl : (n : Int) = wd 8 [a, b, c] - 1
      · rw [yif hl]
        refine bnd1 rfl (fin _ ?_)
        rw [bo_last8 h1 h2 h3 h4 h5 (by omega), bo_w (by omega) (by push_cast; omega)]; rfl
      · rw [yif' hl, s36_8 h1 h2 h3 h4 h5 h6 (by omega) (by omega)]
        exact bnd1 rfl (fin _ rfl)
  · obtain ⟨f, L, H, D, rfl, h1, h2, h3, h4, h5, h6, h7⟩ := h.2.2.2.2.2.1.log2
    have ew := wd9n f L H D h3
    have hp0 : 0 < f ^ L := Int.pow_pos (by omega)
    have hple := pow_mono (show 1 ≤ f by omega) (show L ≤ H + 1 by omega)
    have eH : arReal .add .i64 (H : Int) 1 = ((H + 1 : Nat) : Int) := succ_i (n := 100) (by omega) (by omega)
    simp only [c_eql, Int.reduceEq, decide_false, decide_true, Bool.false_eq_true, ↓reduceIte, Option.bind_some, iv40, iv41, iv42, g40, g41, g42, eH, s35_small h1 h2 (show L ≤ H + 1 by omega) h7 (by omega), s35_small h1 h2 (show H + 1 ≤ H + 1 by omega) h7 (by omega)]
    by_cases hn : (n : Int) = 0
    · obtain rfl : n = 0 := by omega
      rw [yif hn]
      refine bnd1 rfl (fin _ ?_)
      rw [bo_0, bo_9 rfl (by omega) (by push_cast; omega), ar_sub' ⟨by omega, by omega⟩, sta_1 _ _ _ h5]
    · rw [yif' hn]
      by_cases hl : (n : Int) = wd 9 [f, (L : Int), (H : Int), (D : Int)] - 1
      · rw [yif hl]
        refine bnd1 rfl (fin _ ?_)
        have hnn : n = (H + 1 - L) * D + 1 := by omega
        rw [bo_w (i := n + 1) (by omega) (by push_cast; omega), bo_9 rfl (by omega) (by omega), hnn, sta_last h5 h3]; rfl
      · rw [yif' hl, s36_9 h1 h2 h3 h4 h5 h6 h7 (by omega) (by omega)]
        refine bnd1 rfl (fin _ ?_)
        rw [bo_9 rfl (by omega) (by omega), bo_9 rfl (by omega) (by push_cast; omega)]
theorem s11 (nm : ByteArray) (fn : Int) (p : List Int) (ks : List V) (hp : ∀ x ∈ p, I64 x) {v : Int} (hv : I64 v) :
    d11 nm fn (vi p) ks v = some (if okA nm fn p ks then (if 7 ≤ fn then (bk fn p v, 0) else (0, 1)) else (0, 210)) := by
  unfold d11
  rw [s22 nm fn p ks hp]
  simp only [Option.bind_some, c_neq]
  by_cases h : okA nm fn p ks
  · rw [if_pos h, if_pos h, nif rfl, s31]
    simp only [Option.bind_some, notB_dec]
    by_cases h7 : fn ≥ 7
    · rw [nif h7, if_pos h7, (s32 h h7 hv).1]
      rfl
    · rw [nif' h7, if_neg h7]
  · rw [if_neg h, if_neg h, nif' (by omega)]
end Go.Proofs.Ytmofhbedamjblaa
end
section
namespace Go.Proofs.Ytmofhbedamjblaa
open Go.Ab Go.RowKit 
set_option maxRecDepth 100000
set_option maxHeartbeats 40000000
noncomputable def d10 : Option (Bool) :=
 (d20 5 []).bind fun x1 =>
 (d19 x1.1 x1.2.1 x1.2.2.1 x1.2.2.2 [.i .i64 3, .i .i64 4, .i .i64 6]).bind fun x2 =>
 (d20 5 []).bind fun x3 =>
 (d21 x3.1 x3.2.1 x3.2.2.1 x3.2.2.2 x2.1).bind fun x4 =>
 (d20 6 []).bind fun x5 =>
 (d19 x5.1 x5.2.1 x5.2.2.1 x5.2.2.2 [.i .i64 2, .i .i64 4, .i .i64 4, .i .i64 4, .i .i64 5, .i .i64 5, .i .i64 7, .i .i64 9]).bind fun x6 =>
 (d20 6 []).bind fun x7 =>
 (d21 x7.1 x7.2.1 x7.2.2.1 x7.2.2.2 x6.1).bind fun x8 =>
 Option.bind (α := Bool) (
  if (notB' x2.2) = true then
   some true
  else
   if (notB' x6.2) = true then
    some true
   else
    if (cmpLit .neq x4.2 0) = true then
     some true
    else
     if (cmpLit .neq x8.2 0) = true then
      some true
     else
      (d17 x2.1 [.i .i64 3, .i .i64 13]).bind fun x16 =>
      if (notB' x16) = true then
       some true
      else
       if (cmpLit .neq x4.1 4) = true then
        some true
       else
        (d17 x6.1 [.i .i64 8, .i .i64 40, .i .i64 0, .i .i64 232]).bind fun x17 =>
        if (notB' x17) = true then
         some true
        else
         some (cmpLit .neq x8.1 2)) fun y15 =>
 if y15 = true then
  some false
 else
  (d20 7 []).bind fun x19 =>
  (d11 x19.1 x19.2.1 x19.2.2.1 x19.2.2.2 (-8)).bind fun x20 =>
  (d20 8 [.i .i64 0, .i .i64 10, .i .i64 3]).bind fun x21 =>
  (d11 x21.1 x21.2.1 x21.2.2.1 x21.2.2.2 9).bind fun x22 =>
  (d20 9 [.i .i64 10, .i .i64 0, .i .i64 1, .i .i64 5]).bind fun x23 =>
  (d11 x23.1 x23.2.1 x23.2.2.1 x23.2.2.2 99).bind fun x24 =>
  (d20 8 [.i .i64 0, .i .i64 10, .i .i64 3]).bind fun x25 =>
  (d12 x25.1 x25.2.1 x25.2.2.1 x25.2.2.2 4).bind fun x26 =>
  Option.bind (α := Bool) (
   if (cmpLit .neq x20.2 0) = true then
    some true
   else
    if (cmpLit .neq x22.2 0) = true then
     some true
    else
     if (cmpLit .neq x24.2 0) = true then
      some true
     else
      if (cmpLit .neq x26.2.2.2 0) = true then
       some true
      else
       if (cmpLit .neq x20.1 59) = true then
        some true
       else
        if (cmpLit .neq x22.1 4) = true then
         some true
        else
         if (cmpLit .neq x24.1 10) = true then
          some true
         else
          if (cmpLit .neq x26.1 9) = true then
           some true
          else
           if (cmpLit .neq x26.2.1 9) = true then
            some true
           else
            some (notB' x26.2.2.1)) fun y29 =>
  if y29 = true then
   some false
  else
   (d20 2 []).bind fun x31 =>
   (d13 x31.1 x31.2.1 x31.2.2.1 x31.2.2.2 [.i .i64 (-7)] 2).bind fun x32 =>
   if (cmpLit .eql x32.2 0) = true then
    (d17 x32.1 [.i .i64 (-3)]).bind fun x34 =>
    some x34
   else
    some false
noncomputable def d3 (a0_0 : ByteArray) (a0_1 : Int) (a0_2 : List V) (a0_3 : List V) (a1 : List V) (a2_0 : Int) (a2_1 : Int) (a2_2 : Int) : Option (Bool) :=
 (d10).bind fun x1 =>
 (d11 a0_0 a0_1 a0_2 a0_3 a2_0).bind fun x2 =>
 (d12 a0_0 a0_1 a0_2 a0_3 a2_1).bind fun x3 =>
 (d13 a0_0 a0_1 a0_2 a0_3 a1 a2_2).bind fun x4 =>
 (d14 a0_0 a0_1 a0_2 a0_3 a2_0).bind fun x5 =>
 (d15 a0_0 a0_1 a0_2 a0_3 a2_1).bind fun x6 =>
 (d16 a0_0 a0_1 a0_2 a0_3 a1 a2_2).bind fun x7 =>
 if x1 = true then
  if (cmpLit .eql x2.2 x5.2) = true then
   if (cmpLit .eql x2.1 x5.1) = true then
    if (cmpLit .eql x3.2.2.2 x6.2.2.2) = true then
     if (cmpLit .eql x3.1 x6.1) = true then
      if (cmpLit .eql x3.2.1 x6.2.1) = true then
       if (beqB x3.2.2.1 x6.2.2.1) = true then
        if (cmpLit .eql x4.2 x7.2) = true then
         (d17 x4.1 x7.1).bind fun x9 =>
         some x9
        else
         some false
       else
        some false
      else
       some false
     else
      some false
    else
     some false
   else
    some false
  else
   some false
 else
  some false
end Go.Proofs.Ytmofhbedamjblaa
end
section
namespace Go.Proofs.Ytmofhbedamjblaa
open Go.Ab Go.RowKit
set_option maxRecDepth 100000
def cb (fn : Int) (k : Int) (s : List Int) : Prop := if fn = 2 then True else if fn = 1 ∨ 7 ≤ fn then ∀ x ∈ s, x ≤ k else s.getD 0 0 ≤ k
theorem cb_2 (k : Int) (s : List Int) : cb 2 k s := by unfold cb; rw [if_pos rfl]; trivial
theorem cb_c {fn : Int} (h : fn = 1 ∨ 7 ≤ fn) (k : Int) (s : List Int) : cb fn k s ↔ ∀ x ∈ s, x ≤ k := by unfold cb; rw [if_neg (by omega), if_pos h]
theorem cb_p {fn : Int} (h : 3 ≤ fn ∧ fn ≤ 6) (k : Int) (s : List Int) : cb fn k s ↔ s.getD 0 0 ≤ k := by unfold cb; rw [if_neg (by omega), if_neg (by omega)]
theorem cb_mg {fn : Int} {p s t : List Int} (hf : 1 ≤ fn ∧ fn ≤ 9) (hs : valS fn p s) (ht : valS fn p t) {j k : Int} (h1 : cb fn j s) (h2 : cb fn k t) (hjk : j + k ≤ 4611686018427387904) : gd fn s t ∧ cb fn (j + k) (mg fn s t) := by
  have l1 := val_eq hs ht
  rcases fn4 hf with h | rfl | h | rfl
  · rw [cb_c h] at *
    rw [gd_c h, mg_c h]
    constructor
    · intro i hi
      have hit : i < t.length := by omega
      rw [getD_get hi, getD_get hit]
      have := h1 _ (List.getElem_mem hi)
      have := h2 _ (List.getElem_mem hit)
      omega
    · intro x hx
      obtain ⟨i, hi, rfl⟩ := List.getElem_of_mem hx
      rw [List.length_zipWith] at hi
      have hi1 : i < s.length := by omega
      have hi2 : i < t.length := by omega
      rw [List.getElem_zipWith]
      have := h1 _ (List.getElem_mem hi1)
      have := h2 _ (List.getElem_mem hi2)
      omega
  · exact ⟨gd_2 _ _, cb_2 _ _⟩
  · obtain ⟨a, x, rfl, ha, hx⟩ := v345 h hs
    obtain ⟨b, y, rfl, hb, hy⟩ := v345 h ht
    rw [cb_p (by omega)] at *
    rw [gd_p (by omega), mg_p h]
    have h1 : a ≤ j := h1
    have h2 : b ≤ k := h2
    exact ⟨show a + b ≤ _ by omega, show a + b ≤ _ by omega⟩
  · obtain ⟨a, x, y, z, rfl, ha, hx⟩ := v6 hs
    obtain ⟨b, x', y', z', rfl, hb, hx'⟩ := v6 ht
    rw [cb_p (by omega)] at *
    rw [gd_p (by omega), mg_6]
    have h1 : a ≤ j := h1
    have h2 : b ≤ k := h2
    exact ⟨show a + b ≤ _ by omega, show a + b ≤ _ by omega⟩
theorem cb_zer (fn : Int) (p : List Int) : cb fn 0 (zer fn p) := by
  unfold cb
  split
  · trivial
  · split
    · intro x hx; rw [List.eq_of_mem_replicate hx]; omega
    · rw [zer_c]; omega
theorem cb_sing (fn : Int) (p : List Int) (v : Int) (hf : 1 ≤ fn ∧ fn ≤ 9) : cb fn 1 (sing fn p v) := by
  rcases fn_cases hf with rfl | rfl | rfl | rfl | rfl | rfl | h7
  · rw [sing_1, cb_c (.inl rfl)]; intro x hx; rw [List.mem_singleton.1 hx]; omega
  · exact cb_2 _ _
  · rw [sing_p (by omega), cb_p (by omega)]; exact Int.le_refl _
  · rw [sing_p (by omega), cb_p (by omega)]; exact Int.le_refl _
  · rw [sing_p (by omega), cb_p (by omega)]; exact Int.le_refl _
  · rw [sing_6, cb_p (by omega)]; exact Int.le_refl _
  · rw [sing_7 (by omega), cb_c (by omega)]
    intro x hx
    rcases List.mem_or_eq_of_mem_set hx with hx | rfl
    · rw [List.eq_of_mem_replicate hx]; omega
    · omega
noncomputable def stv (fn : Int) (p : List Int) (l : List Int) : List Int := l.foldl (fun s v => mg fn s (sing fn p v)) (zer fn p)
theorem stv_snoc (fn : Int) (p l : List Int) (v : Int) : stv fn p (l ++ [v]) = mg fn (stv fn p l) (sing fn p v) := by
  unfold stv; rw [List.foldl_append]; rfl
theorem zer_i (fn : Int) (p : List Int) : ∀ x ∈ zer fn p, I64 x := fun x hx => by rw [List.eq_of_mem_replicate hx]; exact ⟨by omega, by omega⟩
theorem stv_ok {nm : ByteArray} {fn : Int} {p : List Int} {ks : List V} (h : okA nm fn p ks) : ∀ (n : Nat) (l : List Int), l.length = n → n ≤ 4611686018427387904 → (∀ v ∈ l, I64 v) → valS fn p (stv fn p l) ∧ (∀ x ∈ stv fn p l, I64 x) ∧ cb fn n (stv fn p l)
  | 0, l, hl, _, _ => by
    obtain rfl := List.length_eq_zero_iff.1 hl
    exact ⟨zer_val h, zer_i fn p, cb_zer fn p⟩
  | n + 1, l, hl, hn, hv => by
    obtain ⟨r, a, rfl⟩ : ∃ r a, l = r ++ [a] := by
      rcases List.eq_nil_or_concat l with rfl | ⟨r, a, rfl⟩
      · simp at hl
      · exact ⟨r, a, by rw [List.concat_eq_append]⟩
    have ih := stv_ok h n r (by simpa using hl) (by omega) (fun v hr => hv v (List.mem_append_left _ hr))
    have ha := hv a (by simp)
    have hs := sing_val h ha
    have hc := cb_mg h.fn ih.1 hs.1 ih.2.2 (cb_sing fn p a h.fn) (by omega)
    rw [stv_snoc]
    refine ⟨mg_val h.fn ih.1 hs.1 hc.1, mg_i h.fn ih.1 hs.1 hc.1 ih.2.1 hs.2, ?_⟩
    push_cast; exact hc.2
theorem add_stv {nm : ByteArray} {fn : Int} {p : List Int} {ks : List V} (h : okA nm fn p ks) (hp : ∀ x ∈ p, I64 x) {l : List Int} {v : Int} (hl : l.length < 4611686018427387904) (hi : ∀ v ∈ l, I64 v) (hv : I64 v) : d23 nm fn (vi p) ks (vi (stv fn p l)) v = some (vi (stv fn p (l ++ [v])), 0) := by
  obtain ⟨k1, k2, k3⟩ := stv_ok h l.length l rfl (by omega) hi
  have hs := sing_val h hv
  have hc := cb_mg h.fn k1 hs.1 k3 (cb_sing fn p v h.fn) (by omega)
  have ls := val_len h k1
  rw [s23 nm fn p ks hp _ (by omega) hv, if_pos (chk0.2 ⟨h, k1⟩), if_pos hc.1, stv_snoc]
open Classical in
theorem s19 {nm : ByteArray} {fn : Int} {p : List Int} {ks : List V} (h : okA nm fn p ks) (hp : ∀ x ∈ p, I64 x) (l : List Int) (hl : l.length ≤ 2000) (hi : ∀ v ∈ l, I64 v) : d19 nm fn (vi p) ks (vi l) = some (vi (stv fn p l), true) := by
  unfold d19
  rw [s18 nm fn p ks hp, if_pos h]
  simp only [Option.bind_some]
  have hI : iter (d19_b1 nm fn (vi p) ks (vi l)) (vi (stv fn p (l.take 0)), (0 : Int), ((0 : Nat) : Int)) = some (vi (stv fn p (l.take l.length)), 0) := by
    refine scan (d19_b1 nm fn (vi p) ks (vi l)) (fun j => (vi (stv fn p (l.take j)), (0 : Int), (j : Int))) (i := l.length) (Nat.zero_le _) (fun j _ hj => ?_) ?_
    · unfold d19_b1
      dsimp only
      rw [lenI_vi, if_pos (lt_i hj), if_pos (by decide), if_pos (inb_i hj), gI_vi _ _ hj, add_stv h hp (by rw [List.length_take]; omega) (fun v hv => hi v (List.mem_of_mem_take hv)) (hi _ (List.getElem_mem hj)), succ_i hj (by omega), List.take_succ_eq_append_getElem hj]
      rfl
    · unfold d19_b1
      dsimp only
      rw [lenI_vi, if_neg (nlt_i _)]
  rw [List.take_length] at hI
  have hI' : iter (d19_b1 nm fn (vi p) ks (vi l)) (vi (zer fn p), 0, 0) = some (vi (stv fn p l), 0) := hI
  rw [hI']
  rfl
abbrev nmA : ByteArray := ByteArray.mk #[97]
theorem okA_s {fn : Int} (h : 1 ≤ fn ∧ fn ≤ 7) : okA nmA fn [] [] :=
  ⟨by decide, by decide, by decide, h.1, by omega, by unfold okP; rw [if_neg (by omega), if_neg (by omega)], fun k hk => by cases hk⟩
theorem okA_l : okA nmA 8 [0, 10, 3] [] :=
  ⟨by decide, by decide, by decide, by decide, by decide, by unfold okP; rw [if_pos rfl]; exact ⟨0, 10, 3, rfl, by decide, by decide, by decide, by decide, by decide, by decide⟩, fun k hk => by cases hk⟩
theorem okA_g : okA nmA 9 [10, 0, 1, 5] [] :=
  ⟨by decide, by decide, by decide, by decide, by decide, by unfold okP; rw [if_neg (by omega), if_pos rfl]; exact ⟨10, 0, 1, 5, rfl, by decide, by decide, by decide, by decide, by decide, by decide, by decide, by decide, by decide, by decide⟩, fun k hk => by cases hk⟩
theorem bits_le {c : Int} : ∀ (n : Nat) (a : Int), a * 2 ^ n ≤ c → c < a * 2 ^ n + 2 ^ n → bits (fun r => r ≤ c) n (a * 2 ^ n) = c
  | 0, a, h1, h2 => by
    have : (2 : Int) ^ 0 = 1 := by decide
    show a * 2 ^ 0 = c
    omega
  | n + 1, a, h1, h2 => by
    have ep := two_succ n
    have e1 : a * 2 ^ (n + 1) = (2 * a) * 2 ^ n := by rw [ep]; grind
    have e2 : a * 2 ^ (n + 1) + 2 ^ n = (2 * a + 1) * 2 ^ n := by rw [ep]; grind
    unfold bits
    by_cases h : a * 2 ^ (n + 1) + 2 ^ n ≤ c
    · rw [if_pos h, e2]
      exact bits_le n (2 * a + 1) (by omega) (by omega)
    · rw [if_neg h, e1]
      exact bits_le n (2 * a) (by omega) (by omega)
theorem dv_ex : dv 8 40 (Sq 0 232) = 2 := by
  rw [dv_1 (by decide) (by decide)]
  have e : Sq 0 232 = 232 := by decide
  rw [e]
  have h := bits_congr (P := dvP 8 40 232) (Q := fun r => r ≤ 2) (fun r h1 h2 => by
    unfold dvP
    have e : r * 8 * (r * 8) = 64 * (r * r) := by grind
    rw [e]
    constructor
    · intro h
      apply Classical.byContradiction
      intro hn
      have : 3 * 3 ≤ r * r := Int.mul_le_mul (by omega) (by omega) (by omega) (by omega)
      omega
    · intro h
      rcases (show r = 1 ∨ r = 2 by omega) with rfl | rfl <;> decide) 63 0 (by omega) (by decide)
  rw [Int.zero_mul] at h
  have h2 := bits_le (c := 2) 63 0 (by decide) (by decide)
  rw [Int.zero_mul] at h2
  rw [h, h2]
instance (a : Int) : Decidable (I64 a) := by unfold I64; infer_instance
theorem val_6 (a x y z : Int) : val 6 [a, x, y, z] = dv a x (Sq y z) := by
  unfold val
  rw [if_neg (by omega), if_neg (by omega), if_neg (by omega), if_pos rfl]
  rfl
theorem nil_i : ∀ x ∈ ([] : List Int), I64 x := fun x hx => by cases hx
theorem sn_e5 : stv 5 [] [3, 4, 6] = [3, 13] := by kernel_rfl
theorem sn_e6 : stv 6 [] [2, 4, 4, 4, 5, 5, 7, 9] = [8, 40, 0, 232] := by kernel_rfl
theorem sn_i3 : ∀ x ∈ ([3, 4, 6] : List Int), I64 x := by decide
theorem sn_i8 : ∀ x ∈ ([2, 4, 4, 4, 5, 5, 7, 9] : List Int), I64 x := by decide
theorem sn_f5 : d19 nmA 5 (vi []) [] (vi [3, 4, 6]) = some (vi [3, 13], true) := by
  rw [s19 (okA_s (by omega)) nil_i [3, 4, 6] (by decide) sn_i3, sn_e5]
theorem sn_f6 : d19 nmA 6 (vi []) [] (vi [2, 4, 4, 4, 5, 5, 7, 9]) = some (vi [8, 40, 0, 232], true) := by
  rw [s19 (okA_s (by omega)) nil_i [2, 4, 4, 4, 5, 5, 7, 9] (by decide) sn_i8, sn_e6]
theorem sn_v5 : d21 nmA 5 (vi []) [] (vi [3, 13]) = some (4, 0) := by
  have k5 := stv_ok (okA_s (fn := 5) (by omega)) _ [3, 4, 6] rfl (by decide) sn_i3
  rw [sn_e5] at k5
  rw [s21 nmA 5 [] [] nil_i [3, 13] (by decide) k5.2.1, if_pos (chk0.2 ⟨okA_s (by omega), k5.1⟩), show val 5 [3, 13] = 4 by kernel_rfl]
theorem sn_v6 : d21 nmA 6 (vi []) [] (vi [8, 40, 0, 232]) = some (2, 0) := by
  have k6 := stv_ok (okA_s (fn := 6) (by omega)) _ [2, 4, 4, 4, 5, 5, 7, 9] rfl (by decide) sn_i8
  rw [sn_e6] at k6
  have ev6 : val 6 [8, 40, 0, 232] = 2 := (val_6 8 40 0 232).trans dv_ex
  rw [s21 nmA 6 [] [] nil_i [8, 40, 0, 232] (by decide) k6.2.1, if_pos (chk0.2 ⟨okA_s (by omega), k6.1⟩), ev6]
theorem sn_b7 : d11 nmA 7 (vi []) [] (-8) = some (59, 0) := by
  have eb7 : bk 7 [] (-8) = 59 := by
    rw [bk_of (s32_7 (nm := nmA) (ks := []) (v := -8) ⟨by decide, by decide⟩), if_neg (by decide), Len.bl (a := - -8) (k := 4) ⟨by decide, by decide⟩ (by decide)]
    decide
  rw [s11 nmA 7 [] [] nil_i (v := -8) ⟨by decide, by decide⟩, if_pos (okA_s (by omega)), if_pos (by decide), eb7]
theorem sn_b8 : d11 nmA 8 (vi [0, 10, 3]) [] 9 = some (4, 0) := by
  have eb8 : bk 8 [0, 10, 3] 9 = 4 := by
    rw [bk_of (s32_8 okA_l (v := 9) ⟨by decide, by decide⟩)]
    decide
  rw [s11 nmA 8 [0, 10, 3] [] (by decide) (v := 9) ⟨by decide, by decide⟩, if_pos okA_l, if_pos (by decide), eb8]
theorem sn_b9 : d11 nmA 9 (vi [10, 0, 1, 5]) [] 99 = some (10, 0) := by
  have eb9 : bk 9 [10, 0, 1, 5] 99 = 10 := by
    have e := s32_9 (f := 10) (L := 0) (H := 1) (st := 5) okA_g (v := 99) ⟨by decide, by decide⟩ (by decide) (by decide) (by decide) (by decide) (by decide) (by decide) (by decide)
    rw [if_neg (by decide), if_neg (by decide)] at e
    obtain ⟨m, m1, m2, m3, m4, m5, m6, e2⟩ := s64 (f := 10) (L := 0) (H := 1) (st := 5) (v := 99) (by decide) (by decide) (by decide) (by decide) (by decide) (by decide) (by decide) (by decide) (by decide)
    rw [e2] at e
    have : m = 0 ∨ m = 1 := by omega
    rcases this with rfl | rfl
    · exact absurd m4 (by decide)
    · exact (bk_of e).trans (by decide)
  rw [s11 nmA 9 [10, 0, 1, 5] [] (by decide) (v := 99) ⟨by decide, by decide⟩, if_pos okA_g, if_pos (by decide), eb9]
theorem sn_r8 : d12 nmA 8 (vi [0, 10, 3]) [] 4 = some (9, 9, true, 0) := by
  rw [s12 nmA 8 [0, 10, 3] [] (by decide) 4, if_pos okA_l, if_pos (by decide), show rngOf 8 [0, 10, 3] (Int.toNat 4) = (9, 9, true, 0) by decide]
theorem sn_n2 : d13 nmA 2 (vi []) [] (vi [-7]) 2 = some (vi [-3], 0) := by
  have hv2 : valS 2 [] [-7] := ⟨rfl, fun h => absurd h (by decide), fun h => absurd rfl h⟩
  rw [s13 nmA 2 [] [] nil_i [-7] (by decide) (by decide) 2, if_pos (chk0.2 ⟨okA_s (by omega), hv2⟩), if_neg (by decide), show shown 2 2 [-7] = [-3] by kernel_rfl]
theorem sn_q (l : List Int) (h : l.length ≤ 9223372036854775807) : d17 (vi l) (vi l) = some true := by rw [s17 l l h, decide_eq_true rfl]
theorem s10 : d10 = some true := by
  unfold d10
  refine bnd1 (a := (nmA, 5, vi [], [])) rfl ?_
  refine bnd1 sn_f5 ?_
  refine bnd1 (a := (nmA, 5, vi [], [])) rfl ?_
  refine bnd1 sn_v5 ?_
  refine bnd1 (a := (nmA, 6, vi [], [])) rfl ?_
  refine bnd1 sn_f6 ?_
  refine bnd1 (a := (nmA, 6, vi [], [])) rfl ?_
  refine bnd1 sn_v6 ?_
  refine bnd1 (a := false) ?_ ?_
  · refine dif0 (by decide) (dif0 (by decide) (dif0 (by decide) (dif0 (by decide) (bnd1 (sn_q [3, 13] (by decide)) ?_))))
    refine dif0 (by decide) (dif0 (by decide) (bnd1 (sn_q [8, 40, 0, 232] (by decide)) ?_))
    exact dif0 (by decide) rfl
  refine dif0 (by decide) ?_
  refine bnd1 (a := (nmA, 7, vi [], [])) rfl ?_
  refine bnd1 sn_b7 ?_
  refine bnd1 (a := (nmA, 8, vi [0, 10, 3], [])) rfl ?_
  refine bnd1 sn_b8 ?_
  refine bnd1 (a := (nmA, 9, vi [10, 0, 1, 5], [])) rfl ?_
  refine bnd1 sn_b9 ?_
  refine bnd1 (a := (nmA, 8, vi [0, 10, 3], [])) rfl ?_
  refine bnd1 sn_r8 ?_
  refine bnd1 (a := false) (by kernel_rfl) ?_
  refine dif0 (by decide) ?_
  refine bnd1 (a := (nmA, 2, vi [], [])) rfl ?_
  refine bnd1 sn_n2 ?_
  refine dif1 (by decide) ?_
  exact bnd1 (sn_q [-3] (by decide)) rfl
end Go.Proofs.Ytmofhbedamjblaa
end
section
namespace Go.Proofs.Ytmofhbedamjblaa
open Go.Ab Go.RowKit
set_option maxRecDepth 100000
theorem shown_len {nm : ByteArray} {fn : Int} {p : List Int} {ks : List V} (h : okA nm fn p ks) {s : List Int} (hs : valS fn p s) (n : Int) : (shown fn n s).length ≤ 2000 := by
 have := val_len h hs
 unfold shown
 rw [List.length_map]
 split
 ·omega
 ·simp
end Go.Proofs.Ytmofhbedamjblaa
end
section
namespace Go.Proofs.Ytmofhbedamjblaa
open Go.Ab Go.RowKit
set_option maxRecDepth 100000
theorem snoc_ind {P : List Int → Prop} (h0 : P []) (h1 : ∀ l a, P l → P (l ++ [a])) : ∀ l, P l := by
  have : ∀ (n : Nat) (l : List Int), l.length = n → P l := by
    intro n
    induction n with
    | zero => intro l hl; rw [List.length_eq_zero_iff.1 hl]; exact h0
    | succ n ih =>
      intro l hl
      rcases List.eq_nil_or_concat l with rfl | ⟨r, a, rfl⟩
      · exact h0
      · rw [List.concat_eq_append] at hl ⊢
        exact h1 r a (ih r (by simpa using hl))
  exact fun l => this _ l rfl
theorem n1 : ∀ l : List Int, stv 1 [] l = [(l.length : Int)] := by
  refine snoc_ind rfl (fun l a ih => ?_)
  rw [stv_snoc, ih, sing_1, mg_c (.inl rfl), List.length_append, List.length_singleton]; push_cast; rfl
end Go.Proofs.Ytmofhbedamjblaa
end
section
namespace Go.Proofs.Ytmofhbedamjblaa
open Go.Ab Go.RowKit
set_option maxRecDepth 100000
theorem vi_app (a b : List Int) : vi (a ++ b) = vi a ++ vi b := by unfold vi; rw [List.map_append]
end Go.Proofs.Ytmofhbedamjblaa
end
section
namespace Go.Proofs.Ytmofhbedamjblaa
open Go.Ab Go.RowKit
theorem wf_i {n : Int} (h : (Lit.int .i64 n).wf = true) : I64 n := by
  simp [Lit.wf, IntKind.min, IntKind.max, IntKind.signed, IntKind.bits] at h
  exact ⟨by omega, by omega⟩
theorem wf_is {l : List Int} (h : ∀ x ∈ l, (Lit.int .i64 x).wf = true) : ∀ x ∈ l, I64 x := fun x hx => wf_i (h x hx)
theorem len_ok {l : List Int} (h : l.length ≤ maxLen) : l.length ≤ 9223372036854775807 := Nat.le_trans h (by decide)
end Go.Proofs.Ytmofhbedamjblaa
end
section
namespace Go.Proofs.Ytmofhbedamjblaa
open Go.Ab Go.RowKit
set_option maxRecDepth 100000
theorem s46 {nm : ByteArray} {f : Int} {L H D i : Nat} {ks : List V} (hf : 2 ≤ f) (hf2 : f ≤ 100) (hLH : L ≤ H) (hH : H ≤ 18) (hD : 1 ≤ D) (hD2 : D ≤ 100) (hM : f ^ (H + 1) ≤ 4611686018427387904) (hi : 1 ≤ i) (hi2 : i ≤ (H + 1 - L) * D) :
    d46 nm 9 (vi [f, (L : Int), (H : Int), (D : Int)]) ks (i : Int) = some (sta f L D i) := by
  have hmul : (H + 1 - L) * D ≤ 19 * 100 := Nat.mul_le_mul (by omega) hD2
  obtain ⟨e1, e2, e3, e4⟩ := log_idx (L := L) hi (by omega) hD hD2 (by omega)
  have hq : (i - 1) / D < H + 1 - L := by
    rw [Nat.div_lt_iff_lt_mul (by omega)]; omega
  have hml := Nat.mod_lt (i - 1) (show D > 0 by omega)
  have n0 : Ne0 (D : Int) := by unfold Ne0; omega
  unfold d46 sta
  simp only [iv40, iv41, iv43, ↓reduceIte, g40, g41, g43, e1, e2, e3, e4, if_pos n0, e45]
  generalize (i - 1) / D = q at *
  generalize (i - 1) % D = r at *
  have h0 : 0 < f ^ (L + q) := Int.pow_pos (by omega)
  have hR : 0 < f ^ (L + q + 1) - f ^ (L + q) := by
    have : f ^ (L + q) * 2 ≤ f ^ (L + q) * f := Int.mul_le_mul_of_nonneg_left hf (by omega)
    rw [Int.pow_succ]; omega
  have hle := pow_mono (show 1 ≤ f by omega) (show L + q + 1 ≤ H + 1 by omega)
  have e5 : arReal .add .i64 ((L + q : Nat) : Int) 1 = ((L + q + 1 : Nat) : Int) := succ_i (n := 1000) (by omega) (by omega)
  rw [e5, s35_small hf hf2 (show L + q ≤ H + 1 by omega) hM (by omega)]
  simp only [Option.bind_some]
  rw [s35_small hf hf2 (show L + q + 1 ≤ H + 1 by omega) hM (by omega)]
  simp only [Option.bind_some, if_pos n0]
  rw [ar_sub' (a := f ^ (L + q + 1)) ⟨by omega, by omega⟩]
  generalize hRR : f ^ (L + q + 1) - f ^ (L + q) = R at *
  have hDi : (0 : Int) < D := by omega
  have hRD := Int.emod_add_mul_ediv R (D : Int)
  have hm0 := Int.emod_nonneg R (show (D : Int) ≠ 0 by omega)
  have hm1 := Int.emod_lt_of_pos R hDi
  have hq0 : 0 ≤ R / D := Int.ediv_nonneg (by omega) (by omega)
  have hq1 : R / D ≤ R := Int.ediv_le_self _ (by omega)
  have k1 : 0 ≤ (r : Int) * (R / D) := Int.mul_nonneg (by omega) hq0
  have k2 : (r : Int) * (R / D) ≤ D * (R / D) := Int.mul_le_mul_of_nonneg_right (by omega) hq0
  have k3 := mul_rng2 (x := (r : Int)) (y := R % D) (m := 100) (n := 100) (by omega) (by omega) hm0 (by omega)
  have k4 : 0 ≤ ((r : Int) * (R % D) + D - 1) / D := Int.ediv_nonneg (by omega) (by omega)
  have k5 : ((r : Int) * (R % D) + D - 1) / D ≤ (r : Int) * (R % D) + D - 1 := Int.ediv_le_self _ (by omega)
  have ks : ((r : Int) * R + D - 1) / D = (r : Int) * (R / D) + ((r : Int) * (R % D) + D - 1) / D := by
    have e : (r : Int) * R + D - 1 = ((r : Int) * (R % D) + D - 1) + D * ((r : Int) * (R / D)) := by
      have : (r : Int) * R = (r : Int) * (R % D) + D * ((r : Int) * (R / D)) := by
        conv => lhs; rw [← hRD]
        grind
      omega
    rw [e, Int.add_mul_ediv_left _ _ (by omega)]
    omega
  rw [ks, ar_quo' (a := R) (by omega) (by omega) hDi, ar_rem' (a := R) (by omega) (by omega) hDi, ar_mul' (b := R / D) ⟨by omega, by omega⟩, ar_mul' (b := R % D) ⟨by omega, by omega⟩, ar_add' (a := (r : Int) * (R % D)) ⟨by omega, by omega⟩, ar_sub' (a := (r : Int) * (R % D) + D) ⟨by omega, by omega⟩, ar_quo' (by omega) (by omega) hDi, ar_add' (a := f ^ (L + q)) ⟨by omega, by omega⟩, ar_add' ⟨by omega, by omega⟩]
  congr 1; omega
theorem half_pow {v : Int} (j : Nat) : v / 2 ^ j / 2 = v / 2 ^ (j + 1) := by
 rw [Int.ediv_ediv, if_neg (by have := two_pos j; omega), Int.sub_zero, Int.pow_succ]
theorem loop72 {v : Int} (h0 : 0 < v) (hv : I64 v) : iter d72_b1 (v, 0) = some (bl v) := by
 obtain ⟨v0, v1⟩ := hv
 obtain ⟨b0, b1, b2, b3⟩ := (s63' (a := v) ⟨by omega, by omega⟩).2
 obtain ⟨n, hn⟩ := Int.eq_ofNat_of_zero_le b0
 rw [hn] at b1 b2 b3 ⊢
 rw [Int.toNat_natCast] at b2 b3
 have hI : iter d72_b1 (v / 2 ^ 0, ((0 : Nat) : Int)) = some (n : Int) := by
  refine scan d72_b1 (fun j => (v / 2 ^ j, (j : Int))) (i := n) (Nat.zero_le _) (fun j _ hj => ?_) ?_
  ·have h3 := b3 (by omega)
   have hm := two_mono (show j ≤ n - 1 by omega)
   have hp := two_pos j
   have q0 : 1 ≤ v / 2 ^ j := (Int.le_ediv_iff_mul_le hp).2 (by omega)
   have q1 : v / 2 ^ j ≤ v := Int.ediv_le_self _ (by omega)
   unfold d72_b1
   dsimp only
   rw [if_pos (by rw [c_gtr]; exact dT (by omega)), if_pos (by decide), ar_quo' (by omega) (by omega) (by omega), half_pow, succ_i hj (by omega)]
  ·have q : v / 2 ^ n = 0 := Int.ediv_eq_zero_of_lt (by omega) b2
   unfold d72_b1
   dsimp only
   rw [q, if_neg (by decide)]
 have e : v / 2 ^ 0 = v := by rw [show (2 : Int) ^ 0 = 1 by decide, Int.ediv_one]
 rw [e] at hI
 exact hI
theorem s72_pos {D : Int → Option Int} {v : Int} (h0 : 0 ≤ v) (hv : I64 v) : d72F D v = some (63 + bl v) := by
 obtain ⟨v0, v1⟩ := hv
 obtain ⟨b0, b1, _⟩ := (s63' (a := v) ⟨by omega, by omega⟩).2
 unfold d72F
 rw [c_eql, c_gtr]
 by_cases hz : v = 0
 ·rw [yif hz, Len.bl (a := v) (k := 0) ⟨by omega, by omega⟩ (by subst hz; decide)]; rfl
 ·rw [yif' hz, yif (show v > 0 by omega), loop72 (by omega) ⟨v0, v1⟩]
  simp only [Option.bind_some]
  rw [ar_add' ⟨by omega, by omega⟩]
theorem s42_7 {nm : ByteArray} {ks : List V} {v : Int} (hv : I64 v) : d42 nm 7 (vi []) ks v = some (bk 7 [] v) := by
 obtain ⟨v0, v1⟩ := id hv
 rw [bk_of (s32_7 (nm := nm) (ks := ks) hv)]
 unfold d42
 rw [if_pos (by decide)]
 suffices h : d72 v = some (if 0 ≤ v then 63 + bl v else (if 63 - bl (-v) > 0 then 63 - bl (-v) else 0)) by rw [h]; rfl
 show d72F (d72R 1) v = _
 by_cases h : 0 ≤ v
 ·rw [if_pos h, s72_pos h hv]
 ·rw [if_neg h]
  unfold d72F
  rw [c_eql, c_gtr, c_leq, yif' (by omega), yif' (by omega)]
  simp only [Option.bind_some]
  have hl := len_le (a := -v) ⟨by omega, by omega⟩ (show 62 ≤ 64 by omega)
  have e62 : (2 : Int) ^ 62 = 4611686018427387904 := by decide
  obtain ⟨b0, b1, _⟩ := (s63' (a := -v) ⟨by omega, by omega⟩).2
  by_cases hq : v ≤ -4611686018427387904
  ·rw [yif hq]
   have : ¬ bl (-v) ≤ ((62 : Nat) : Int) := fun k => by have := hl.1 k; omega
   rw [if_neg (by omega)]
  ·rw [yif' hq]
   have : bl (-v) ≤ ((62 : Nat) : Int) := hl.2 (by omega)
   have en : unReal .neg .i64 v = -v := by
    show wrapK .i64 (0 - v) = _
    rw [wk_i ⟨by omega, by omega⟩]; omega
   rw [if_pos (by omega), en]
   show (d72F (d72R 0) (-v)).bind _ = _
   rw [s72_pos (by omega) ⟨by omega, by omega⟩]
   simp only [Option.bind_some]
   rw [ar_sub' ⟨by omega, by omega⟩]
   congr 1; omega
theorem s42 {nm : ByteArray} {fn : Int} {p : List Int} {ks : List V} (h : okA nm fn p ks) (h7 : 7 ≤ fn) {v : Int} (hv : I64 v) : d42 nm fn (vi p) ks v = some (bk fn p v) := by
  have hf := h.fn
  rcases (show fn = 7 ∨ fn = 8 ∨ fn = 9 by omega) with rfl | rfl | rfl
  · obtain rfl := h.nil (by omega)
    exact s42_7 hv
  · obtain ⟨a, b, c, rfl, h1, h2, h3, h4, h5, h6⟩ := h.2.2.2.2.2.1.lin
    have s0 := (s65 h3 h5 h4 h1 h2).2.1
    rw [bk_of (s32_8 h hv)]
    unfold d42
    rw [if_neg (by decide), if_pos (by decide), s43 h, wd8]
    simp only [iv30, iv31, iv32, ↓reduceIte, g30, g31, g32, c_lss, c_geq, Option.bind_some]
    by_cases q1 : v < a
    · rw [yif q1, if_pos q1]
    · rw [yif' q1, if_neg q1]
      by_cases q2 : v ≥ b
      · rw [yif q2, if_pos q2, ar_sub' ⟨by omega, by omega⟩]
        congr 1; omega
      · rw [yif' q2, if_neg q2]
        have hq := lin_q h3 h5 (by omega) (by omega) h1 h2 (v := v)
        rw [if_pos (show Ne0 (wrapK .u64 c) by rw [wk_u ⟨by omega, by omega⟩]; unfold Ne0; omega), hq.1, wk_i ⟨by omega, by omega⟩, ar_add' ⟨by omega, by omega⟩]
        congr 1; omega
  · obtain ⟨f, L, H, D, rfl, h1, h2, h3, h4, h5, h6, h7'⟩ := h.2.2.2.2.2.1.log2
    have ew := wd9n f L H D h3
    have hmul : (H + 1 - L) * D ≤ 19 * 100 := Nat.mul_le_mul (by omega) h6
    have e := s32_9 h hv h1 h2 h3 h4 (by omega) (by omega) h7'
    have eD : ((H : Int) - L + 1) * D + 1 = (((H + 1 - L) * D + 1 : Nat) : Int) := by
      have : (H : Int) - L + 1 = ((H + 1 - L : Nat) : Int) := by omega
      rw [this]; push_cast; rfl
    have eH : arReal .add .i64 (H : Int) 1 = ((H + 1 : Nat) : Int) := succ_i (n := 100) (by omega) (by omega)
    unfold d42
    rw [if_neg (by decide), if_neg (by decide), s43 h, ew]
    simp only [iv40, iv41, iv42, ↓reduceIte, g40, g41, g42, c_lss, c_geq, eH, e45, s35_small h1 h2 (show L ≤ H + 1 by omega) h7' (by omega), s35_small h1 h2 (show H + 1 ≤ H + 1 by omega) h7' (by omega), Option.bind_some]
    by_cases q1 : v < f ^ L
    · rw [if_pos q1] at e
      rw [yif q1, bk_of e]
    · rw [if_neg q1] at e
      rw [yif' q1]
      by_cases q2 : v ≥ f ^ (H + 1)
      · rw [if_pos q2] at e
        rw [yif q2, bk_of e, eD, ar_sub' ⟨by omega, by omega⟩]
        congr 1; omega
      · rw [if_neg q2] at e
        rw [yif' q2]
        obtain ⟨m, m1, m2, m3, m4, m5, m6, e2⟩ := s64 h1 h2 h3 h4 (st := (D : Int)) (by omega) (by omega) h7' (v := v) (by omega) (by omega)
        rw [e2] at e
        have hb := bk_of e
        have hr := (s32 h (by omega) hv).2
        obtain ⟨B, hB⟩ := Int.eq_ofNat_of_zero_le hr.1
        have hB1 : 1 ≤ B := by
          have : 0 ≤ ((m : Int) - L) * D := Int.mul_nonneg (by omega) (by omega)
          omega
        have hB2 : B ≤ (H + 1 - L) * D := by
          have : ((m : Int) - L) * D ≤ ((H : Int) - L) * D := Int.mul_le_mul_of_nonneg_right (by omega) (by omega)
          have e3 : ((H : Int) - L + 1) * D = ((H : Int) - L) * D + D := by rw [Int.add_mul, Int.one_mul]
          omega
        have key : ∀ i : Nat, 1 ≤ i → (sta f L D i ≤ v ↔ i ≤ B) := by
          intro i hi
          rw [sta_le (H := H) h1 h5 hi m1 m3 m4, ← hb, hB]; omega
        have es2 : arReal .sub .i64 (((H + 1 - L) * D + 2 : Nat) : Int) 2 = (((H + 1 - L) * D : Nat) : Int) := by
          rw [ar_sub' ⟨by omega, by omega⟩]; omega
        have hI : iter (d42_b1 nm 9 (vi [f, (L : Int), (H : Int), (D : Int)]) ks v) ((1 : Nat) : Int) = some (B : Int) := by
          refine scan (d42_b1 nm 9 (vi [f, (L : Int), (H : Int), (D : Int)]) ks v) (fun j => (j : Int)) (i := B) hB1 (fun j hj1 hj => ?_) ?_
          · unfold d42_b1
            rw [s43 h, ew]
            simp only [Option.bind_some]
            rw [es2, if_pos (by rw [c_lss]; exact dT (by omega)), succ_i hj (by omega), s46 h1 h2 h3 h4 h5 h6 h7' (by omega) (by omega)]
            simp only [Option.bind_some, c_geq]
            rw [yif ((key (j + 1) (by omega)).2 (by omega))]
          · unfold d42_b1
            rw [s43 h, ew]
            simp only [Option.bind_some]
            rw [es2, c_lss]
            by_cases hlt : B < (H + 1 - L) * D
            · rw [yif (by omega), succ_i hlt (by omega), s46 h1 h2 h3 h4 h5 h6 h7' (by omega) (by omega)]
              simp only [Option.bind_some, c_geq]
              rw [yif' (fun k => by have := (key (B + 1) (by omega)).1 k; omega)]
            · rw [yif' (by omega)]
        rw [show (1 : Int) = ((1 : Nat) : Int) from rfl, hI, hB]
        rfl
theorem s14 (nm : ByteArray) (fn : Int) (p : List Int) (ks : List V) (hp : ∀ x ∈ p, I64 x) {v : Int} (hv : I64 v) :
  d14 nm fn (vi p) ks v = some (if okA nm fn p ks then (if 7 ≤ fn then (bk fn p v, 0) else (0, 1)) else (0, 210)) := by
 unfold d14
 rw [s40 nm fn p ks hp, e41]
 simp only [Option.bind_some, c_eql, c_neq]
 by_cases h : okA nm fn p ks
 ·rw [if_pos h, if_pos h, yif rfl, s31]
  simp only [Option.bind_some, notB_dec]
  by_cases h7 : fn ≥ 7
  ·rw [nif h7, if_pos h7]
   refine bnd1 rfl (dif0 (by decide) ?_)
   rw [s42 h h7 hv]
   rfl
  ·rw [nif' h7, if_neg h7]
   exact bnd1 rfl (dif1 (by decide) rfl)
 ·rw [if_neg h, if_neg h, yif' (by omega)]
  exact bnd1 rfl (dif1 (by decide) rfl)
theorem r7_pos {D : Int → Option (Int × Int × Bool × Int)} {i : Nat} (h0 : 64 ≤ i) (h1 : i < 127) : d44F D (i : Int) = some (bo 7 [] i, bo 7 [] (i + 1) - 1, true, 0) := by
  have ew : wd 7 [] = 127 := rfl
  obtain ⟨k, rfl⟩ : ∃ k, i = k + 64 := ⟨i - 64, by omega⟩
  have e : arReal .sub .i64 ((k + 64 : Nat) : Int) 64 = (k : Int) := by rw [ar_sub' ⟨by omega, by omega⟩]; omega
  have hp := two_pos k
  have hp2 := two_mono (show k ≤ 62 by omega)
  have e62 : (2 : Int) ^ 62 = 4611686018427387904 := by decide
  have g : Ge0 (k : Int) := by unfold Ge0; omega
  unfold d44F
  rw [c_eql, c_eql, c_lss, yif' (by omega), yif' (by omega), yif' (by omega), e, if_pos g, if_pos g, if_pos g, shl_i (by omega), ar_sub' ⟨by omega, by omega⟩, ar_add' ⟨by omega, by omega⟩, bo_7 (by omega) (by omega), if_neg (by omega), Nat.add_sub_cancel]
  congr 3
  by_cases hk : k = 62
  · subst hk
    rw [bo_w (by omega) (by omega)]; decide
  · rw [bo_7 (by omega) (by omega), if_neg (by omega), show k + 64 + 1 - 64 = k + 1 by omega, two_succ]; omega
theorem s44 {i : Nat} (h1 : i < 127) : d44 (i : Int) = some (bo 7 [] i, bo 7 [] (i + 1) - 1, true, 0) := by
 have ew : wd 7 [] = 127 := rfl
 show d44F (d44R 1) (i : Int) = _
 rcases (show i = 0 ∨ (0 < i ∧ i < 63) ∨ i = 63 ∨ 64 ≤ i by omega) with rfl | h | rfl | h
 ·decide
 ·unfold d44F
  rw [c_eql, c_eql, c_lss, yif' (by omega), yif' (by omega), yif (by omega)]
  have e : arReal .sub .i64 126 (i : Int) = ((126 - i : Nat) : Int) := by rw [ar_sub' ⟨by omega, by omega⟩]; omega
  rw [e]
  show (d44F (d44R 0) _).bind _ = _
  rw [r7_pos (by omega) (by omega)]
  simp only [Option.bind_some]
  have a1 : bo 7 [] (126 - i) = 2 ^ (62 - i) := by rw [bo_7 (by omega) (by omega), if_neg (by omega), show 126 - i - 64 = 62 - i by omega]
  have a2 : bo 7 [] (126 - i + 1) = 2 ^ (63 - i) := by rw [bo_7 (by omega) (by omega), if_neg (by omega), show 126 - i + 1 - 64 = 63 - i by omega]
  have a3 : bo 7 [] i = 1 - 2 ^ (63 - i) := by rw [bo_7 (by omega) (by omega), if_pos (by omega)]
  have a4 : bo 7 [] (i + 1) = 1 - 2 ^ (62 - i) := by rw [bo_7 (by omega) (by omega), if_pos (by omega), show 63 - (i + 1) = 62 - i by omega]
  have hp := two_pos (62 - i)
  have hp3 := two_pos (63 - i)
  have hp2 := two_mono (show 63 - i ≤ 62 by omega)
  have hp4 := two_mono (show 62 - i ≤ 62 by omega)
  have e62 : (2 : Int) ^ 62 = 4611686018427387904 := by decide
  rw [a1, a2, a3, a4]
  have en : ∀ x : Int, -4611686018427387904 ≤ x → x ≤ 4611686018427387904 → unReal .neg .i64 x = -x := by
   intro x q1 q2
   show wrapK .i64 (0 - x) = _
   rw [wk_i ⟨by omega, by omega⟩]; omega
  rw [en _ (by omega) (by omega), en _ (by omega) (by omega)]
  congr 2
  ·omega
  ·congr 1; omega
 ·decide
 ·exact r7_pos h h1
theorem bo7_lt {i : Nat} (h : i < 127) : ¬ bo 7 [] i > bo 7 [] (i + 1) - 1 := by
 have ew : wd 7 [] = 127 := rfl
 have e62 : (2 : Int) ^ 62 = 4611686018427387904 := by decide
 rcases (show i = 0 ∨ (0 < i ∧ i < 63) ∨ i = 63 ∨ (64 ≤ i ∧ i < 126) ∨ i = 126 by omega) with rfl | h | rfl | h | rfl
 ·decide
 ·rw [bo_7 (by omega) (by omega), if_pos (by omega), bo_7 (by omega) (by omega), if_pos (by omega), show 63 - i = (63 - (i + 1)) + 1 by omega, two_succ]
  have := two_pos (63 - (i + 1))
  omega
 ·decide
 ·rw [bo_7 (by omega) (by omega), if_neg (by omega), bo_7 (by omega) (by omega), if_neg (by omega), show i + 1 - 64 = (i - 64) + 1 by omega, two_succ]
  have := two_pos (i - 64)
  omega
 ·decide
open Classical in
theorem s15 (nm : ByteArray) (fn : Int) (p : List Int) (ks : List V) (hp : ∀ x ∈ p, I64 x) (i : Int) :
    d15 nm fn (vi p) ks i = some (if okA nm fn p ks then (if 7 ≤ fn ∧ 0 ≤ i ∧ i < wd fn p then rngOf fn p i.toNat else (0, 0, false, 1)) else (0, 0, false, 210)) := by
  unfold d15
  refine bnd1 (s40 nm fn p ks hp) ?_
  rcases Classical.em (okA nm fn p ks) with h | h
  rotate_left
  · rw [if_neg h, if_neg h]
    refine bnd1 (a := (210 : Int)) ?_ (dif1 (by decide) rfl)
    exact bnd1 (a := false) (dif0 (by decide) rfl) rfl
  have hw := wd_rng h
  have hf := h.fn
  rw [if_pos h, if_pos h]
  rcases Classical.em (fn ≥ 7) with h7 | h7
  rotate_left
  · have hc : ¬ (7 ≤ fn ∧ 0 ≤ i ∧ i < wd fn p) := fun k => h7 k.1
    rw [if_neg hc]
    refine bnd1 (a := (1 : Int)) ?_ (dif1 (by decide) rfl)
    refine bnd1 (a := true) (dif1 (by decide) (bnd1 (s31 nm fn (vi p) ks) (dif1 ?_ rfl))) rfl
    rw [notB_dec]; exact dT h7
  rcases Classical.em (0 ≤ i) with hi0 | hi0
  rotate_left
  · have hc : ¬ (7 ≤ fn ∧ 0 ≤ i ∧ i < wd fn p) := fun k => hi0 k.2.1
    rw [if_neg hc]
    refine bnd1 (a := (1 : Int)) ?_ (dif1 (by decide) rfl)
    refine bnd1 (a := true) (dif1 (by decide) (bnd1 (s31 nm fn (vi p) ks) (dif0 ?_ (dif1 ?_ rfl)))) rfl
    · rw [notB_dec, dF (fun k => k h7)]; simp
    · rw [c_lss]; exact dT (by omega)
  rcases Classical.em (i < wd fn p) with hi | hi
  rotate_left
  · have hc : ¬ (7 ≤ fn ∧ 0 ≤ i ∧ i < wd fn p) := fun k => hi k.2.2
    rw [if_neg hc]
    refine bnd1 (a := (1 : Int)) ?_ (dif1 (by decide) rfl)
    refine bnd1 (a := true) (dif1 (by decide) (bnd1 (s31 nm fn (vi p) ks) (dif0 ?_ (dif0 ?_ (bnd1 (s43 h) ?_))))) rfl
    · rw [notB_dec, dF (fun k => k h7)]; simp
    · rw [c_lss, dF (by omega)]; simp
    · rw [c_geq, dT (show i ≥ wd fn p by omega)]
  have hc : 7 ≤ fn ∧ 0 ≤ i ∧ i < wd fn p := ⟨h7, hi0, hi⟩
  rw [if_pos hc]
  refine bnd1 (a := (0 : Int)) ?_ (dif0 (by decide) ?_)
  · refine bnd1 (a := false) (dif1 (by decide) (bnd1 (s31 nm fn (vi p) ks) (dif0 ?_ (dif0 ?_ (bnd1 (s43 h) ?_))))) rfl
    · rw [notB_dec, dF (fun k => k h7)]; simp
    · rw [c_lss, dF (by omega)]; simp
    · rw [c_geq, dF (show ¬ i ≥ wd fn p by omega)]
  refine bnd1 (s43 h) ?_
  simp only [c_eql]
  obtain ⟨n, rfl⟩ := Int.eq_ofNat_of_zero_le hi0
  rw [Int.toNat_natCast, ar_sub' (a := wd fn p) (b := 1) ⟨by omega, by omega⟩]
  simp only [c_geq, c_lss]
  have k1 := (bo_key h h7 (i := n) (by omega)).1
  have k2 := (bo_key h h7 (i := n + 1) (by push_cast; omega)).1
  have fin : ∀ a b : Int, bo fn p n = a → bo fn p (n + 1) - 1 = b → a ≤ b → some (a, b, true, (0 : Int)) = some (rngOf fn p n) := by
    intro a b e1 e2 hab
    unfold rngOf
    rw [if_neg (by omega), e1, e2]
  rcases (show fn = 7 ∨ fn = 8 ∨ fn = 9 by omega) with rfl | rfl | rfl
  · obtain rfl := h.nil (by omega)
    have ew : wd 7 [] = 127 := rfl
    rw [if_pos (by decide), s44 (by omega)]
    simp only [Option.bind_some]
    exact fin _ _ rfl rfl (by have := bo7_lt (i := n) (by omega); omega)
  · obtain ⟨a, b, c, rfl, h1, h2, h3, h4, h5, h6⟩ := h.2.2.2.2.2.1.lin
    have s0 := (s65 h3 h5 h4 h1 h2).2.1
    have ew := wd8 a b c
    rw [if_neg (by decide), if_pos (by decide)]
    simp only [iv30, iv31, iv32, ↓reduceIte, g30, g31, g32]
    by_cases hn : (n : Int) = 0
    · obtain rfl : n = 0 := by omega
      rw [yif hn]
      have e1 : bo 8 [a, b, c] (0 + 1) - 1 = arReal .sub .i64 a 1 := by
        rw [bo_8 (by omega) (by push_cast; omega), ar_sub' ⟨by omega, by omega⟩, show ((0 + 1 : Nat) : Int) - 1 = 0 by omega, Int.zero_mul]
        omega
      exact fin _ _ (bo_0 _ _) e1 (by rw [ar_sub' ⟨by omega, by omega⟩]; omega)
    · rw [yif' hn]
      by_cases hl : (n : Int) = wd 8 [a, b, c] - 1
      · rw [yif hl]
        exact fin _ _ (bo_last8 h1 h2 h3 h4 h5 (by omega)) (by rw [bo_w (by omega) (by push_cast; omega)]; rfl) (by omega)
      · rw [yif' hl]
        have le := lin_edge h1 h2 h3 h4 h5 h6 (i := n) (by omega) (by omega)
        rw [le.1, le.2]
        refine fin _ _ rfl rfl ?_
        rw [bo_8 (by omega) (by omega), bo_8 (by omega) (by push_cast; omega)]
        have hsd : stp a b c * c ≤ b - a + c - 1 := Int.ediv_mul_le _ (by omega)
        have hmm : (n : Int) * c ≤ stp a b c * c := Int.mul_le_mul_of_nonneg_right (by omega) (by omega)
        have emi : (((n + 1 : Nat) : Int) - 1) * c = (n : Int) * c := by rw [show ((n + 1 : Nat) : Int) - 1 = (n : Int) by omega]
        rw [emi, Int.sub_mul, Int.one_mul]
        omega
  · obtain ⟨f, L, H, D, rfl, h1, h2, h3, h4, h5, h6, h7'⟩ := h.2.2.2.2.2.1.log2
    have ew := wd9n f L H D h3
    have hmul : (H + 1 - L) * D ≤ 19 * 100 := Nat.mul_le_mul (by omega) h6
    have hp0 : 0 < f ^ L := Int.pow_pos (by omega)
    have hple := pow_mono (show 1 ≤ f by omega) (show L ≤ H + 1 by omega)
    have eH : arReal .add .i64 (H : Int) 1 = ((H + 1 : Nat) : Int) := succ_i (n := 100) (by omega) (by omega)
    rw [if_neg (by decide), if_neg (by decide)]
    simp only [iv40, iv41, iv42, ↓reduceIte, g40, g41, g42, eH, e45, s35_small h1 h2 (show L ≤ H + 1 by omega) h7' (by omega), s35_small h1 h2 (show H + 1 ≤ H + 1 by omega) h7' (by omega), Option.bind_some]
    by_cases hn : (n : Int) = 0
    · obtain rfl : n = 0 := by omega
      rw [yif hn]
      have e1 : bo 9 [f, (L : Int), (H : Int), (D : Int)] (0 + 1) - 1 = arReal .sub .i64 (f ^ L) 1 := by
        rw [bo_9 rfl (by omega) (by push_cast; omega), ar_sub' ⟨by omega, by omega⟩, sta_1 _ _ _ h5]
      exact fin _ _ (bo_0 _ _) e1 (by rw [ar_sub' ⟨by omega, by omega⟩]; omega)
    · rw [yif' hn]
      by_cases hl : (n : Int) = wd 9 [f, (L : Int), (H : Int), (D : Int)] - 1
      · rw [yif hl]
        have hnn : n = (H + 1 - L) * D + 1 := by omega
        exact fin _ _ (by rw [bo_9 rfl (by omega) (by omega), hnn, sta_last h5 h3]) (by rw [bo_w (i := n + 1) (by omega) (by push_cast; omega)]; rfl) (by omega)
      · rw [yif' hl, s46 h1 h2 h3 h4 h5 h6 h7' (by omega) (by omega)]
        simp only [Option.bind_some]
        have es2 : arReal .sub .i64 (wd 9 [f, (L : Int), (H : Int), (D : Int)]) 2 = (((H + 1 - L) * D : Nat) : Int) := by
          rw [ew, ar_sub' ⟨by omega, by omega⟩]; omega
        have eh : (if decide ((n : Int) < arReal .sub .i64 (wd 9 [f, (L : Int), (H : Int), (D : Int)]) 2) = true then (d46 nm 9 (vi [f, (L : Int), (H : Int), (D : Int)]) ks (arReal .add .i64 (n : Int) 1)).bind fun x27 => some x27 else some (f ^ (H + 1))) = some (sta f L D (n + 1)) := by
          rw [es2]
          by_cases hlt : n < (H + 1 - L) * D
          · rw [yif (by omega), succ_i hlt (by omega), s46 h1 h2 h3 h4 h5 h6 h7' (by omega) (by omega)]; rfl
          · rw [yif' (by omega)]
            have : n = (H + 1 - L) * D := by omega
            rw [this, sta_last h5 h3]
        rw [s43 h]
        simp only [Option.bind_some]
        rw [eh]
        simp only [Option.bind_some]
        have b1 : bo 9 [f, (L : Int), (H : Int), (D : Int)] n = sta f L D n := bo_9 rfl (by omega) (by omega)
        have b2 : bo 9 [f, (L : Int), (H : Int), (D : Int)] (n + 1) = sta f L D (n + 1) := bo_9 rfl (by omega) (by push_cast; omega)
        rw [b1] at k1
        rw [b2] at k2
        unfold rngOf
        rw [b1, b2]
        by_cases hg : sta f L D n ≥ sta f L D (n + 1)
        · rw [yif hg, if_pos (by omega)]
        · rw [yif' hg, if_neg (by omega), ar_sub' ⟨by omega, by omega⟩]
end Go.Proofs.Ytmofhbedamjblaa
end
section
namespace Go.Proofs.Ytmofhbedamjblaa
open Go.Ab Go.RowKit
set_option maxRecDepth 100000
def vu (l : List Int) : List V := l.map (fun x : Int => V.i .u64 x)
def nb : List Int → Int
  | [] => 0
  | a :: r => a + 4294967296 * nb r
def Dig (l : List Int) : Prop := ∀ x ∈ l, 0 ≤ x ∧ x < 4294967296
def Nrm (l : List Int) : Prop := ∀ x, l.getLast? = some x → x ≠ 0
abbrev bp (n : Nat) : Int := 4294967296 ^ n
theorem bp_pos (n : Nat) : 0 < bp n := Int.pow_pos (by omega)
theorem bp_succ (n : Nat) : bp (n + 1) = 4294967296 * bp n := by show (4294967296 : Int) ^ (n + 1) = _; rw [Int.pow_succ, Int.mul_comm]
theorem bp_add (m n : Nat) : bp (m + n) = bp m * bp n := Int.pow_add _ _ _
theorem vu_len (l : List Int) : lenI (vu l) = ((l.length : Nat) : Int) := by unfold lenI vu; rw [List.length_map]
theorem vu_length (l : List Int) : (vu l).length = l.length := by unfold vu; rw [List.length_map]
theorem gI_vu (l : List Int) (i : Nat) (h : i < l.length) : gI (vu l) (i : Int) 0 = l[i] := by
 rw [gI_nat _ _ (by rw [vu_length]; exact h)]
 unfold vu
 rw [List.getElem_map]
 rfl
theorem putL_vu (l : List Int) (j : Nat) (x : Int) (h : j < l.length) : putL (vu l) (j : Int) 0 [.i .u64 x] = vu (l.set j x) := by
 unfold putL
 have : (vu l).getD (Int.toNat (j : Int)) V.dead = .i .u64 l[j] := by
  rw [Int.toNat_natCast, List.getD_eq_getElem?_getD]
  simp [vu, h]
 rw [this, Int.toNat_natCast]
 show (vu l).set j (.i .u64 x) = _
 unfold vu
 rw [List.map_set]
theorem vu_take (l : List Int) (n : Nat) : (vu l).take n = vu (l.take n) := by unfold vu; rw [List.map_take]
theorem nb_app : ∀ a b : List Int, nb (a ++ b) = nb a + bp a.length * nb b
 | [], b => by simp [nb]
 | x :: a, b => by
  simp only [List.cons_append, nb, nb_app a b, List.length_cons, bp_succ]
  rw [Int.mul_add, Int.mul_assoc, Int.add_assoc]
theorem nb_rng : ∀ {l : List Int}, Dig l → 0 ≤ nb l ∧ nb l < bp l.length
 | [], _ => ⟨by decide, by decide⟩
 | a :: r, h => by
  have ih := nb_rng (l := r) (fun x hx => h x (by simp [hx]))
  have ha := h a (by simp)
  rw [List.length_cons, bp_succ]
  simp only [nb]
  have := bp_pos r.length
  omega
theorem nb_take {l : List Int} {k : Nat} (h : k < l.length) : nb (l.take (k + 1)) = nb (l.take k) + bp k * l[k] := by
 rw [List.take_succ_eq_append_getElem h, nb_app, List.length_take, Nat.min_eq_left (by omega)]
 simp [nb]
theorem nb_set : ∀ (l : List Int) (i : Nat) (x : Int) (h : i < l.length), nb (l.set i x) = nb l + (x - l[i]) * bp i
 | [], i, x, h => by simp at h
 | a :: r, 0, x, h => by
  rw [List.set_cons_zero]
  simp only [nb, List.getElem_cons_zero]
  rw [show bp 0 = 1 from rfl]; omega
 | a :: r, i + 1, x, h => by
  have ih := nb_set r i x (by simpa using h)
  rw [List.set_cons_succ]
  simp only [nb, List.getElem_cons_succ]
  rw [ih, bp_succ, Int.mul_add, Int.mul_left_comm]
  omega
theorem Dig.set {l : List Int} (h : Dig l) (i : Nat) {x : Int} (hx : 0 ≤ x ∧ x < 4294967296) : Dig (l.set i x) := by
 intro y hy
 rcases List.mem_or_eq_of_mem_set hy with hy | rfl
 ·exact h y hy
 ·exact hx
theorem Dig.take {l : List Int} (h : Dig l) (n : Nat) : Dig (l.take n) := fun x hx => h x (List.mem_of_mem_take hx)
theorem s131 : ∀ (n : Nat) (l : List Int), l.length = n → n ≤ 2000 → Dig l → ∃ l', iter d131_b1 (vu l) = some (vu l') ∧ nb l' = nb l ∧ Dig l' ∧ Nrm l' ∧ l'.length ≤ l.length
  | 0, l, hn, _, hd => by
    obtain rfl := List.length_eq_zero_iff.1 hn
    refine ⟨[], iter_inr ?_, rfl, hd, fun x hx => by simp at hx, Nat.le_refl _⟩
    unfold d131_b1
    rw [vu_len, if_neg (by decide)]
  | n + 1, l, hn, h2, hd => by
    have hlast : n < l.length := by omega
    have e1 : arReal .sub .i64 ((l.length : Nat) : Int) 1 = (n : Int) := by rw [ar_sub' ⟨by omega, by omega⟩]; omega
    have eq : l = l.take n ++ [l[n]] := by
      have := List.take_succ_eq_append_getElem hlast
      rw [← this, List.take_of_length_le (by omega)]
    by_cases hz : l[n] = 0
    · obtain ⟨l', a1, a2, a3, a4, a5⟩ := s131 n (l.take n) (by rw [List.length_take]; omega) (by omega) (hd.take n)
      refine ⟨l', ?_, ?_, a3, a4, by rw [List.length_take] at a5; omega⟩
      · rw [← a1]
        refine iter_inl ?_
        unfold d131_b1
        rw [vu_len, if_pos (by rw [c_gtr]; exact dT (by omega)), e1, if_pos (inb_i hlast), gI_vu _ _ hlast, hz, if_pos (by decide), if_pos (show Bnd 0 (n : Int) (l.length : Int) from ⟨by omega, by omega, by omega⟩)]
        unfold subL
        rw [Int.toNat_natCast, show (0 : Int).toNat = 0 from rfl, List.drop_zero, vu_take]
      · rw [a2]
        conv => rhs; rw [eq]
        rw [nb_app, hz]; simp [nb]
    · refine ⟨l, iter_inr ?_, rfl, hd, fun x hx => ?_, Nat.le_refl _⟩
      · unfold d131_b1
        rw [vu_len, if_pos (by rw [c_gtr]; exact dT (by omega)), e1, if_pos (inb_i hlast), gI_vu _ _ hlast, c_eql, yif' hz]
      · rw [eq, List.getLast?_concat] at hx
        rw [← Option.some.inj hx]; exact hz
def Big (l : List Int) (n : Int) : Prop := nb l = n ∧ Dig l ∧ Nrm l
theorem s131' {l : List Int} (hl : l.length ≤ 2000) (hd : Dig l) : ∃ l', d131 (vu l) = some (vu l') ∧ Big l' (nb l) ∧ l'.length ≤ l.length := by
 obtain ⟨l', a1, a2, a3, a4, a5⟩ := s131 l.length l rfl hl hd
 refine ⟨l', ?_, ⟨a2, a3, a4⟩, a5⟩
 unfold d131
 rw [a1]; rfl
theorem s112 {n : Int} (h : U64 n) : ∃ l, d112 n = some (vu l) ∧ Big l n ∧ l.length ≤ 2 := by
 obtain ⟨h0, h1⟩ := h
 obtain ⟨l', a1, a2, a3⟩ := s131' (l := [n % 4294967296, n / 4294967296]) (show 2 ≤ 2000 by decide) (fun x hx => by
  simp only [List.mem_cons, List.not_mem_nil, or_false] at hx
  rcases hx with rfl | rfl <;> omega)
 have e : nb [n % 4294967296, n / 4294967296] = n := by simp only [nb]; omega
 rw [e] at a2
 refine ⟨l', ?_, a2, a3⟩
 unfold d112
 rw [if_pos (by decide), if_pos (by decide), ar_remu h0 h1 (by omega), ar_quou h0 h1 (by omega)]
 exact bnd1 a1 rfl
theorem s114 {h l : Int} (uh : U64 h) (ul : U64 l) : ∃ r, d114 h l = some (vu r) ∧ Big r (W2 h l) ∧ r.length ≤ 4 := by
 obtain ⟨h0, h1⟩ := uh
 obtain ⟨l0, l1⟩ := ul
 obtain ⟨l', a1, a2, a3⟩ := s131' (l := [l % 4294967296, l / 4294967296, h % 4294967296, h / 4294967296]) (show 4 ≤ 2000 by decide) (fun x hx => by
  simp only [List.mem_cons, List.not_mem_nil, or_false] at hx
  rcases hx with rfl | rfl | rfl | rfl <;> omega)
 have e : nb [l % 4294967296, l / 4294967296, h % 4294967296, h / 4294967296] = W2 h l := by simp only [nb]; unfold W2; omega
 rw [e] at a2
 refine ⟨l', ?_, a2, a3⟩
 unfold d114
 rw [if_pos (by decide), if_pos (by decide), if_pos (by decide), if_pos (by decide), ar_remu h0 h1 (by omega), ar_quou h0 h1 (by omega), ar_remu l0 l1 (by omega), ar_quou l0 l1 (by omega)]
 exact bnd1 a1 rfl
def row (b : List Int) (x : Int) (i : Nat) : Nat → Int × List Int → Int × List Int
  | 0, s => s
  | k + 1, s => let t := row b x i k s; ((t.2.getD (i + k) 0 + x * b.getD k 0 + t.1) / 4294967296, t.2.set (i + k) ((t.2.getD (i + k) 0 + x * b.getD k 0 + t.1) % 4294967296))
theorem row_ok {b o : List Int} {x : Int} {i : Nat} (hb : Dig b) (ho : Dig o) (hx : 0 ≤ x ∧ x < 4294967296) (hl : i + b.length < o.length) : ∀ k, k ≤ b.length →
  (0 ≤ (row b x i k (0, o)).1 ∧ (row b x i k (0, o)).1 < 4294967296) ∧ Dig (row b x i k (0, o)).2 ∧ (row b x i k (0, o)).2.length = o.length ∧
  nb (row b x i k (0, o)).2 + (row b x i k (0, o)).1 * bp (i + k) = nb o + x * nb (b.take k) * bp i ∧ ∀ j, i + k ≤ j → (row b x i k (0, o)).2.getD j 0 = o.getD j 0
 | 0, _ => by
  refine ⟨⟨show (0 : Int) ≤ 0 by decide, show (0 : Int) < 4294967296 by decide⟩, ho, rfl, ?_, fun j _ => rfl⟩
  show nb o + 0 * _ = nb o + x * 0 * _
  rw [Int.zero_mul, Int.mul_zero, Int.zero_mul]
 | k + 1, hk => by
  obtain ⟨⟨c0, c1⟩, d, l, e, f⟩ := row_ok hb ho hx hl k (by omega)
  have hkb : k < b.length := by omega
  have hik : i + k < (row b x i k (0, o)).2.length := by omega
  have hbk := hb _ (List.getElem_mem hkb)
  have hok := d _ (List.getElem_mem hik)
  have eb : b.getD k 0 = b[k] := getD_get hkb
  have eo : (row b x i k (0, o)).2.getD (i + k) 0 = (row b x i k (0, o)).2[i + k] := getD_get hik
  have m := mul_rng (x := x) (y := b[k]) (by omega) (by omega) (by omega) (by omega)
  have es : row b x i (k + 1) (0, o) = (((row b x i k (0, o)).2[i + k] + x * b[k] + (row b x i k (0, o)).1) / 4294967296, (row b x i k (0, o)).2.set (i + k) (((row b x i k (0, o)).2[i + k] + x * b[k] + (row b x i k (0, o)).1) % 4294967296)) := by
   rw [← eb, ← eo]; rfl
  rw [es]
  dsimp only
  refine ⟨by omega, d.set _ (by omega), by rw [List.length_set]; exact l, ?_, fun j hj => ?_⟩
  ·rw [nb_set _ _ _ hik, nb_take hkb, show i + (k + 1) = (i + k) + 1 by omega, bp_succ, Int.mul_add, Int.add_mul, ← Int.add_assoc, ← e, bp_add]
   generalize (row b x i k (0, o)).2[i + k] = O at *
   generalize (row b x i k (0, o)).1 = C at *
   generalize hT : O + x * b[k] + C = T at *
   have hT2 := Int.emod_add_mul_ediv T 4294967296
   generalize T % 4294967296 = R at *
   generalize T / 4294967296 = Q at *
   generalize nb (row b x i k (0, o)).2 = N
   generalize bp i = I
   generalize bp k = K
   have : R = O + x * b[k] + C - 4294967296 * Q := by omega
   rw [this]
   grind
  ·rw [List.getD_eq_getElem?_getD, List.getElem?_set_ne (by omega), ← List.getD_eq_getElem?_getD]
   exact f j (by omega)
theorem row_loop {a b o : List Int} {i : Nat} (ha : Dig a) (hb : Dig b) (ho : Dig o) (hi : i < a.length) (hl : o.length = a.length + b.length) (hn : o.length ≤ 2000) :
  iter (d113_b2 (vu a) (vu b) ((i : Int), vu o)) (0, 0, vu o) = some ((row b a[i] i b.length (0, o)).1, vu (row b a[i] i b.length (0, o)).2) := by
 have hx := ha _ (List.getElem_mem hi)
 have hI : iter (d113_b2 (vu a) (vu b) ((i : Int), vu o)) ((row b a[i] i 0 (0, o)).1, ((0 : Nat) : Int), vu (row b a[i] i 0 (0, o)).2) = some ((row b a[i] i b.length (0, o)).1, vu (row b a[i] i b.length (0, o)).2) := by
  refine scan (d113_b2 (vu a) (vu b) ((i : Int), vu o)) (fun k => ((row b a[i] i k (0, o)).1, (k : Int), vu (row b a[i] i k (0, o)).2)) (i := b.length) (Nat.zero_le _) (fun k _ hk => ?_) ?_
  ·obtain ⟨⟨c0, c1⟩, d, l, e, f⟩ := row_ok hb ho hx (i := i) (by omega) k (by omega)
   have hik : i + k < (row b a[i] i k (0, o)).2.length := by omega
   have hbk := hb _ (List.getElem_mem hk)
   have hok := d _ (List.getElem_mem hik)
   have m := mul_rng (x := a[i]) (y := b[k]) (by omega) (by omega) (by omega) (by omega)
   have eik : arReal .add .i64 (i : Int) (k : Int) = ((i + k : Nat) : Int) := by rw [ar_add' ⟨by omega, by omega⟩]; push_cast; rfl
   have es : row b a[i] i (k + 1) (0, o) = (((row b a[i] i k (0, o)).2[i + k] + a[i] * b[k] + (row b a[i] i k (0, o)).1) / 4294967296, (row b a[i] i k (0, o)).2.set (i + k) (((row b a[i] i k (0, o)).2[i + k] + a[i] * b[k] + (row b a[i] i k (0, o)).1) % 4294967296)) := by
    rw [← getD_get hk, ← getD_get hik]; rfl
   rw [es]
   unfold d113_b2
   dsimp only
   rw [vu_len, vu_len, vu_len, if_pos (lt_i hk), eik, if_pos (inb_i hik), if_pos (inb_i hi), if_pos (inb_i hk), if_pos (by decide), if_pos (inb_i hik), if_pos (by decide), gI_vu _ _ hik, gI_vu _ _ hi, gI_vu _ _ hk, putL_vu _ _ _ hik]
   generalize (row b a[i] i k (0, o)).2[i + k] = O at *
   generalize (row b a[i] i k (0, o)).1 = C at *
   rw [ar_mulu' ⟨by omega, by omega⟩, ar_addu' (a := O) ⟨by omega, by omega⟩, ar_addu' ⟨by omega, by omega⟩, ar_quou (by omega) (by omega) (by omega), ar_remu (by omega) (by omega) (by omega), succ_i hk (by omega)]
  ·unfold d113_b2
   dsimp only
   rw [vu_len, if_neg (nlt_i _)]
 exact hI
def prod (a b : List Int) : Nat → List Int → List Int
  | 0, o => o
  | i + 1, o => let t := row b (a.getD i 0) i b.length (0, prod a b i o); t.2.set (i + b.length) t.1
theorem prod_ok {a b : List Int} (ha : Dig a) (hb : Dig b) : ∀ i, i ≤ a.length → Dig (prod a b i (List.replicate (a.length + b.length) 0)) ∧ (prod a b i (List.replicate (a.length + b.length) 0)).length = a.length + b.length ∧
  nb (prod a b i (List.replicate (a.length + b.length) 0)) = nb (a.take i) * nb b ∧ ∀ j, i + b.length ≤ j → (prod a b i (List.replicate (a.length + b.length) 0)).getD j 0 = 0
 | 0, _ => by
  refine ⟨fun x hx => by rw [List.eq_of_mem_replicate hx]; omega, List.length_replicate, ?_, fun j _ => ?_⟩
  ·show nb (List.replicate _ 0) = 0 * _
   rw [Int.zero_mul]
   generalize a.length + b.length = n
   induction n with
   | zero => rfl
   | succ n ih => rw [List.replicate_succ]; simp only [nb, ih]; omega
  ·show (List.replicate _ 0).getD j 0 = 0
   rw [List.getD_eq_getElem?_getD, List.getElem?_replicate]
   split <;> rfl
 | i + 1, hi => by
  obtain ⟨d, l, e, z⟩ := prod_ok ha hb i (by omega)
  have hia : i < a.length := by omega
  have ea : a.getD i 0 = a[i] := getD_get hia
  have hx := ha _ (List.getElem_mem hia)
  obtain ⟨c, d2, l2, e2, f2⟩ := row_ok hb d hx (i := i) (by omega) b.length (Nat.le_refl _)
  have es : prod a b (i + 1) (List.replicate (a.length + b.length) 0) = (row b a[i] i b.length (0, prod a b i (List.replicate (a.length + b.length) 0))).2.set (i + b.length) (row b a[i] i b.length (0, prod a b i (List.replicate (a.length + b.length) 0))).1 := by
   rw [← ea]; rfl
  rw [es]
  have hib : i + b.length < (row b a[i] i b.length (0, prod a b i (List.replicate (a.length + b.length) 0))).2.length := by omega
  have h0 : (row b a[i] i b.length (0, prod a b i (List.replicate (a.length + b.length) 0))).2[i + b.length] = 0 := by
   rw [← getD_get hib, f2 _ (Nat.le_refl _)]; exact z _ (Nat.le_refl _)
  refine ⟨d2.set _ c, by rw [List.length_set, l2, l], ?_, fun j hj => ?_⟩
  ·rw [nb_set _ _ _ hib, h0, Int.sub_zero, e2, e, List.take_length, nb_take hia]
   grind
  ·rw [List.getD_eq_getElem?_getD, List.getElem?_set_ne (by omega), ← List.getD_eq_getElem?_getD, f2 j (by omega)]
   exact z j (by omega)
theorem s113 {a b : List Int} (ha : Dig a) (hb : Dig b) (hl : a.length + b.length ≤ 2000) : ∃ r, d113 (vu a) (vu b) = some (vu r) ∧ Big r (nb a * nb b) ∧ r.length ≤ a.length + b.length := by
 have el : arReal .add .i64 (lenI (vu a)) (lenI (vu b)) = ((a.length + b.length : Nat) : Int) := by
  rw [vu_len, vu_len, ar_add' ⟨by omega, by omega⟩]; push_cast; rfl
 have er : repL ((a.length + b.length : Nat) : Int) (.i .u64 0) = vu (List.replicate (a.length + b.length) 0) := by
  unfold repL vu
  rw [Int.toNat_natCast, List.map_replicate]
 have hI : iter (d113_b1 (vu a) (vu b)) (((0 : Nat) : Int), vu (prod a b 0 (List.replicate (a.length + b.length) 0))) = some (vu (prod a b a.length (List.replicate (a.length + b.length) 0))) := by
  refine scan (d113_b1 (vu a) (vu b)) (fun i => ((i : Int), vu (prod a b i (List.replicate (a.length + b.length) 0)))) (i := a.length) (Nat.zero_le _) (fun i _ hi => ?_) ?_
  ·obtain ⟨d, l, e, z⟩ := prod_ok ha hb i (by omega)
   have hx := ha _ (List.getElem_mem hi)
   obtain ⟨c, d2, l2, e2, f2⟩ := row_ok hb d hx (i := i) (by omega) b.length (Nat.le_refl _)
   have es : prod a b (i + 1) (List.replicate (a.length + b.length) 0) = (row b a[i] i b.length (0, prod a b i (List.replicate (a.length + b.length) 0))).2.set (i + b.length) (row b a[i] i b.length (0, prod a b i (List.replicate (a.length + b.length) 0))).1 := by
    rw [← getD_get hi]; rfl
   have hib : i + b.length < (row b a[i] i b.length (0, prod a b i (List.replicate (a.length + b.length) 0))).2.length := by omega
   have eib : arReal .add .i64 (i : Int) (lenI (vu b)) = ((i + b.length : Nat) : Int) := by
    rw [vu_len, ar_add' ⟨by omega, by omega⟩]; push_cast; rfl
   unfold d113_b1
   dsimp only
   rw [vu_len a, if_pos (lt_i hi), row_loop ha hb d hi l (by omega)]
   simp only [Option.bind_some]
   rw [eib, vu_len, if_pos (inb_i hib), putL_vu _ _ _ hib, ← es, succ_i hi (by omega)]
   rfl
  ·unfold d113_b1
   dsimp only
   rw [vu_len, if_neg (nlt_i _)]
 obtain ⟨d, l, e, z⟩ := prod_ok ha hb a.length (Nat.le_refl _)
 rw [List.take_length] at e
 obtain ⟨r, a1, a2, a3⟩ := s131' (l := prod a b a.length (List.replicate (a.length + b.length) 0)) (by omega) d
 rw [e] at a2
 refine ⟨r, ?_, a2, by omega⟩
 unfold d113
 rw [el, er, if_pos (show Ge0 _ by unfold Ge0; omega), if_pos (show Room _ 8 from ⟨by omega, by omega⟩)]
 have hI' : iter (d113_b1 (vu a) (vu b)) (0, vu (List.replicate (a.length + b.length) 0)) = _ := hI
 rw [hI']
 simp only [Option.bind_some]
 rw [a1]
 rfl
theorem nb_split {l : List Int} {j : Nat} (h : j < l.length) : nb l = nb (l.take j) + bp j * (l[j] + 4294967296 * nb (l.drop (j + 1))) := by
 have e : l = l.take j ++ (l[j] :: l.drop (j + 1)) := by rw [← List.drop_eq_getElem_cons h, List.take_append_drop]
 conv => lhs; rw [e]
 rw [nb_app, List.length_take, Nat.min_eq_left (by omega)]
 rfl
theorem nrm_big {l : List Int} (hd : Dig l) (hn : Nrm l) (h : 0 < l.length) : bp (l.length - 1) ≤ nb l := by
 have hj : l.length - 1 < l.length := by omega
 have e := nb_split hj
 have h1 := nb_rng (hd.take (l.length - 1))
 have hx := hd _ (List.getElem_mem hj)
 have hne : l[l.length - 1] ≠ 0 := hn _ (by rw [List.getLast?_eq_getElem?, List.getElem?_eq_getElem hj])
 have hz : l.drop (l.length - 1 + 1) = [] := List.drop_of_length_le (by omega)
 rw [hz] at e
 have : bp (l.length - 1) * 1 ≤ bp (l.length - 1) * (l[l.length - 1] + 4294967296 * nb []) := by
  refine Int.mul_le_mul_of_nonneg_left ?_ (Int.le_of_lt (bp_pos _))
  simp only [nb]; omega
 omega
theorem bp_mono {m n : Nat} (h : m ≤ n) : bp m ≤ bp n := pow_mono (by omega) h
theorem s116 {a b : List Int} (ha : Dig a) (hb : Dig b) (na : Nrm a) (nb' : Nrm b) (hl : a.length ≤ 2000) : d116 (vu a) (vu b) = some (if nb a < nb b then -1 else if nb a > nb b then 1 else 0) := by
  have ra := nb_rng ha
  have rb := nb_rng hb
  unfold d116
  rw [vu_len, vu_len, c_neq, c_lss]
  rcases Classical.em ((a.length : Int) = b.length) with hne | hne
  rotate_left
  · rw [nif' hne]
    by_cases hlt : (a.length : Int) < b.length
    · rw [yif hlt]
      have h1 := nrm_big hb nb' (by omega)
      have h2 := bp_mono (show a.length ≤ b.length - 1 by omega)
      rw [if_pos (by omega)]
    · rw [yif' hlt]
      have h1 := nrm_big ha na (by omega)
      have h2 := bp_mono (show b.length ≤ a.length - 1 by omega)
      rw [if_neg (by omega), if_pos (by omega)]
  have hab : a.length = b.length := by omega
  rw [nif hne]
  have low : ∀ j : Nat, (h1 : j < a.length) → (h2 : j < b.length) → a.drop (j + 1) = b.drop (j + 1) → (a[j] < b[j] → nb a < nb b) := by
    intro j h1 h2 he hlt
    have e1 := nb_split h1
    have e2 := nb_split h2
    have r1 := nb_rng (ha.take j)
    have r2 := nb_rng (hb.take j)
    rw [List.length_take, Nat.min_eq_left (by omega)] at r1 r2
    rw [he] at e1
    have := Int.mul_le_mul_of_nonneg_left (show a[j] + 4294967296 * nb (b.drop (j + 1)) + 1 ≤ b[j] + 4294967296 * nb (b.drop (j + 1)) by omega) (Int.le_of_lt (bp_pos j))
    rw [Int.mul_add, Int.mul_one] at this
    omega
  have high : ∀ j : Nat, (h1 : j < a.length) → (h2 : j < b.length) → a.drop (j + 1) = b.drop (j + 1) → (a[j] > b[j] → nb a > nb b) := by
    intro j h1 h2 he hlt
    have e1 := nb_split h1
    have e2 := nb_split h2
    have r1 := nb_rng (ha.take j)
    have r2 := nb_rng (hb.take j)
    rw [List.length_take, Nat.min_eq_left (by omega)] at r1 r2
    rw [he] at e1
    have := Int.mul_le_mul_of_nonneg_left (show b[j] + 4294967296 * nb (b.drop (j + 1)) + 1 ≤ a[j] + 4294967296 * nb (b.drop (j + 1)) by omega) (Int.le_of_lt (bp_pos j))
    rw [Int.mul_add, Int.mul_one] at this
    omega
  have main : ∀ n : Nat, n ≤ a.length → a.drop n = b.drop n → iter (d116_b1 (vu a) (vu b)) ((n : Int) - 1) = some (if nb a < nb b then (.inl (-1) : Int ⊕ Unit) else if nb a > nb b then .inl 1 else .inr ()) := by
    intro n
    induction n with
    | zero =>
      intro _ he
      rw [List.drop_zero, List.drop_zero] at he
      refine iter_inr ?_
      unfold d116_b1
      rw [if_neg (by decide), he, if_neg (by omega), if_neg (by omega)]
    | succ n ih =>
      intro hn he
      have h1 : n < a.length := by omega
      have h2 : n < b.length := by omega
      have ei : ((n + 1 : Nat) : Int) - 1 = (n : Int) := by omega
      rw [ei]
      by_cases q1 : a[n] < b[n]
      · rw [if_pos (low n h1 h2 he q1)]
        refine iter_inr ?_
        unfold d116_b1
        rw [vu_len, vu_len, if_pos (by rw [c_geq]; exact dT (by omega)), if_pos (inb_i h1), if_pos (inb_i h2), gI_vu _ _ h1, gI_vu _ _ h2, c_lss, yif q1]
      · by_cases q2 : a[n] > b[n]
        · have hg := high n h1 h2 he q2
          rw [if_neg (by omega), if_pos hg]
          refine iter_inr ?_
          unfold d116_b1
          rw [vu_len, vu_len, if_pos (by rw [c_geq]; exact dT (by omega)), if_pos (inb_i h1), if_pos (inb_i h2), gI_vu _ _ h1, gI_vu _ _ h2, c_lss, yif' q1, if_pos (inb_i h1), if_pos (inb_i h2), c_gtr, yif q2]
        · have e : a[n] = b[n] := by omega
          rw [← ih (by omega) (by rw [List.drop_eq_getElem_cons h1, List.drop_eq_getElem_cons h2, he, e])]
          refine iter_inl ?_
          unfold d116_b1
          rw [vu_len, vu_len, if_pos (by rw [c_geq]; exact dT (by omega)), if_pos (inb_i h1), if_pos (inb_i h2), gI_vu _ _ h1, gI_vu _ _ h2, c_lss, yif' q1, if_pos (inb_i h1), if_pos (inb_i h2), c_gtr, yif' q2, ar_sub' ⟨by omega, by omega⟩]
  have e0 : arReal .sub .i64 ((a.length : Nat) : Int) 1 = ((a.length : Nat) : Int) - 1 := ar_sub' ⟨by omega, by omega⟩
  rw [e0, main a.length (Nat.le_refl _) (by rw [List.drop_of_length_le (Nat.le_refl _), List.drop_of_length_le (by omega)])]
  by_cases h1 : nb a < nb b
  · rw [if_pos h1, if_pos h1]; rfl
  · rw [if_neg h1, if_neg h1]
    by_cases h2 : nb a > nb b
    · rw [if_pos h2, if_pos h2]; rfl
    · rw [if_neg h2, if_neg h2]; rfl
def subs (b : List Int) : Nat → Int × List Int → Int × List Int
  | 0, s => s
  | i + 1, s => let t := subs b i s; let n := t.1 + b.getD i 0; if t.2.getD i 0 ≥ n then (0, t.2.set i (t.2.getD i 0 - n)) else (1, t.2.set i (t.2.getD i 0 + 4294967296 - n))
theorem dig_getD {b : List Int} (hb : Dig b) (i : Nat) : 0 ≤ b.getD i 0 ∧ b.getD i 0 < 4294967296 := by
 by_cases h : i < b.length
 ·rw [getD_get h]; exact hb _ (List.getElem_mem h)
 ·rw [List.getD_eq_getElem?_getD, List.getElem?_eq_none (by omega)]; exact ⟨by decide, by decide⟩
theorem nb_take' {l : List Int} (k : Nat) : nb (l.take (k + 1)) = nb (l.take k) + bp k * l.getD k 0 := by
 by_cases h : k < l.length
 ·rw [nb_take h, getD_get h]
 ·rw [List.take_of_length_le (by omega), List.take_of_length_le (by omega), List.getD_eq_getElem?_getD, List.getElem?_eq_none (by omega)]
  simp
theorem subs_ok {a b : List Int} (ha : Dig a) (hb : Dig b) : ∀ i, i ≤ a.length → ((subs b i (0, a)).1 = 0 ∨ (subs b i (0, a)).1 = 1) ∧ Dig (subs b i (0, a)).2 ∧ (subs b i (0, a)).2.length = a.length ∧ nb (subs b i (0, a)).2 - (subs b i (0, a)).1 * bp i = nb a - nb (b.take i)
 | 0, _ => by
  refine ⟨.inl rfl, ha, rfl, ?_⟩
  show nb a - 0 * _ = nb a - 0
  rw [Int.zero_mul]
 | i + 1, hi => by
  obtain ⟨c, d, l, e⟩ := subs_ok ha hb i (by omega)
  have hil : i < (subs b i (0, a)).2.length := by omega
  have hx := d _ (List.getElem_mem hil)
  have hbi := dig_getD hb i
  have eg : (subs b i (0, a)).2.getD i 0 = (subs b i (0, a)).2[i] := getD_get hil
  have es : subs b (i + 1) (0, a) = if (subs b i (0, a)).2[i] ≥ (subs b i (0, a)).1 + b.getD i 0 then (0, (subs b i (0, a)).2.set i ((subs b i (0, a)).2[i] - ((subs b i (0, a)).1 + b.getD i 0))) else (1, (subs b i (0, a)).2.set i ((subs b i (0, a)).2[i] + 4294967296 - ((subs b i (0, a)).1 + b.getD i 0))) := by
   rw [← eg]; rfl
  rw [es]
  by_cases h : (subs b i (0, a)).2[i] ≥ (subs b i (0, a)).1 + b.getD i 0
  ·rw [if_pos h]
   dsimp only
   refine ⟨.inl rfl, d.set _ (by omega), by rw [List.length_set]; exact l, ?_⟩
   rw [nb_set _ _ _ hil, nb_take', Int.zero_mul]
   generalize (subs b i (0, a)).2[i] = X at *
   generalize (subs b i (0, a)).1 = C at *
   generalize b.getD i 0 = Y at *
   have : (X - (C + Y) - X) * bp i = -(C * bp i) - bp i * Y := by grind
   omega
  ·rw [if_neg h]
   dsimp only
   refine ⟨.inr rfl, d.set _ (by omega), by rw [List.length_set]; exact l, ?_⟩
   rw [nb_set _ _ _ hil, nb_take', Int.one_mul, bp_succ]
   generalize (subs b i (0, a)).2[i] = X at *
   generalize (subs b i (0, a)).1 = C at *
   generalize b.getD i 0 = Y at *
   have : (X + 4294967296 - (C + Y) - X) * bp i = 4294967296 * bp i - C * bp i - bp i * Y := by grind
   omega
theorem s117 {a b : List Int} (ha : Dig a) (hb : Dig b) (hl : a.length ≤ 2000) (hbl : b.length ≤ 2000) (hle : nb b ≤ nb a) (nb2 : Nrm b) : ∃ r, d117 (vu a) (vu b) = some (vu r) ∧ Big r (nb a - nb b) ∧ r.length ≤ a.length := by
 have hba : b.length ≤ a.length := by
  apply Classical.byContradiction
  intro h
  have h1 := nrm_big hb nb2 (by omega)
  have h2 := nb_rng ha
  have h3 := bp_mono (show a.length ≤ b.length - 1 by omega)
  omega
 have hI : iter (d117_b1 (vu b)) ((subs b 0 (0, a)).1, ((0 : Nat) : Int), vu (subs b 0 (0, a)).2) = some (vu (subs b a.length (0, a)).2) := by
  refine scan (d117_b1 (vu b)) (fun i => ((subs b i (0, a)).1, (i : Int), vu (subs b i (0, a)).2)) (i := a.length) (Nat.zero_le _) (fun i _ hi => ?_) ?_
  ·obtain ⟨c, d, l, e⟩ := subs_ok ha hb i (by omega)
   have hil : i < (subs b i (0, a)).2.length := by omega
   have hx := d _ (List.getElem_mem hil)
   have hbi := dig_getD hb i
   have eg : (subs b i (0, a)).2.getD i 0 = (subs b i (0, a)).2[i] := getD_get hil
   have es : subs b (i + 1) (0, a) = if (subs b i (0, a)).2[i] ≥ (subs b i (0, a)).1 + b.getD i 0 then (0, (subs b i (0, a)).2.set i ((subs b i (0, a)).2[i] - ((subs b i (0, a)).1 + b.getD i 0))) else (1, (subs b i (0, a)).2.set i ((subs b i (0, a)).2[i] + 4294967296 - ((subs b i (0, a)).1 + b.getD i 0))) := by
    rw [← eg]; rfl
   rw [es]
   unfold d117_b1
   dsimp only
   rw [vu_len, vu_len, if_pos (lt_i hil)]
   have en : (if cmpLit .lss (i : Int) ((b.length : Nat) : Int) = true then (if Inb (i : Int) ((b.length : Nat) : Int) then some (arReal .add .u64 (subs b i (0, a)).1 (gI (vu b) (i : Int) 0)) else none) else some (subs b i (0, a)).1) = some ((subs b i (0, a)).1 + b.getD i 0) := by
    rw [c_lss]
    by_cases q : i < b.length
    ·rw [yif (show (i : Int) < (b.length : Int) by omega), if_pos (inb_i q), gI_vu _ _ q, getD_get q]
     have := hb _ (List.getElem_mem q)
     rw [ar_addu' ⟨by omega, by omega⟩]
    ·rw [yif' (show ¬ (i : Int) < (b.length : Int) by omega), List.getD_eq_getElem?_getD, List.getElem?_eq_none (by omega)]
     simp
   rw [en]
   simp only [Option.bind_some]
   rw [if_pos (inb_i hil), gI_vu _ _ hil, c_geq, succ_i hi (by omega)]
   generalize hX : (subs b i (0, a)).2[i] = X at *
   generalize hN : (subs b i (0, a)).1 + b.getD i 0 = Y at *
   by_cases h : X ≥ Y
   ·rw [yif h, if_pos h, if_pos (inb_i hil), if_pos (inb_i hil), ar_subu' ⟨by omega, by omega⟩, putL_vu _ _ _ hil]
   ·rw [yif' h, if_neg h, if_pos (inb_i hil), if_pos (inb_i hil), ar_addu' ⟨by omega, by omega⟩, ar_subu' ⟨by omega, by omega⟩, putL_vu _ _ _ hil]
  ·obtain ⟨c, d, l, e⟩ := subs_ok ha hb a.length (Nat.le_refl _)
   unfold d117_b1
   dsimp only
   rw [vu_len, l, if_neg (nlt_i _)]
 obtain ⟨c, d, l, e⟩ := subs_ok ha hb a.length (Nat.le_refl _)
 rw [List.take_of_length_le hba] at e
 have r1 := nb_rng d
 rw [l] at r1
 have e2 : nb (subs b a.length (0, a)).2 = nb a - nb b := by
  rcases c with c | c
  ·rw [c, Int.zero_mul] at e; omega
  ·rw [c, Int.one_mul] at e; omega
 obtain ⟨r, a1, a2, a3⟩ := s131' (l := (subs b a.length (0, a)).2) (by omega) d
 rw [e2] at a2
 refine ⟨r, ?_, a2, by omega⟩
 have hr : Room (lenI (appL [] (vu a))) 8 := by
  show Room (lenI (vu a)) 8
  rw [vu_len]
  exact ⟨by omega, by omega⟩
 have hI' : iter (d117_b1 (vu b)) (0, 0, appL [] (vu a)) = some (vu (subs b a.length (0, a)).2) := hI
 unfold d117
 rw [if_pos hr, hI']
 simp only [Option.bind_some]
 rw [a1]
 rfl
end Go.Proofs.Ytmofhbedamjblaa
end
section
namespace Go.Proofs.Ytmofhbedamjblaa
open Go.Ab Go.RowKit
set_option maxRecDepth 100000
theorem dv_bits {n sum S : Int} (hn : 0 < n) : bits (dvP n sum S) 63 0 = dv n sum S := by
  by_cases hS : S = 0
  · rw [dv_0 (.inr hS)]
    refine bits_none (fun r hr h => ?_) 63
    unfold dvP at h
    rw [hS, Int.mul_zero] at h
    have h1 : 0 < (r * n) * (r * n) := Int.mul_pos (Int.mul_pos hr hn) (Int.mul_pos hr hn)
    have h2 : 0 ≤ sum * sum := by
      by_cases q : 0 ≤ sum
      · exact Int.mul_nonneg q q
      · rw [← Int.neg_mul_neg]; exact Int.mul_nonneg (by omega) (by omega)
    omega
  · exact (dv_1 (by omega) hS).symm
theorem s115 {v : Int} (hv : I64 v) : ∃ u, d115 v = some u ∧ U64 u ∧ u * u = v * v := by
  obtain ⟨v0, v1⟩ := hv
  unfold d115
  rw [c_lss]
  by_cases h : v < 0
  · have e : unReal .neg .u64 (wrapK .u64 v) = -v := by
      show wrapK .u64 (0 - wrapK .u64 v) = -v
      rw [wk_u64, wk_u64]; omega
    rw [yif h, e]
    exact ⟨-v, rfl, ⟨by omega, by omega⟩, Int.neg_mul_neg _ _⟩
  · rw [yif' h, wk_u ⟨by omega, by omega⟩]
    exact ⟨v, rfl, ⟨by omega, by omega⟩, rfl⟩
open Classical in
theorem s75 {n sum h l : Int} (hn : Cnt n) (hsum : I64 sum) : d75 n sum h l = some (dv n sum (Sq h l)) := by
  obtain ⟨n0, n1⟩ := hn
  unfold d75
  rw [c_eql]
  by_cases hz : n = 0
  · rw [yif hz, dv_0 (.inl hz)]
  rw [yif' hz]
  have un : U64 n := ⟨n0, by omega⟩
  rw [wk_u un]
  obtain ⟨a, ea, ⟨ba, da, na⟩, la⟩ := s112 un
  obtain ⟨b, eb, ⟨bb, db, nb'⟩, lb⟩ := s114 (wku_u h) (wku_u l)
  obtain ⟨c, ec, ⟨bc, dc, nc⟩, lc⟩ := s113 da db (by omega)
  obtain ⟨u, eu, uu, uq⟩ := s115 hsum
  obtain ⟨d, ed, ⟨bd, dd, nd⟩, ld⟩ := s112 uu
  obtain ⟨e, ee, ⟨be, de, ne⟩, le⟩ := s113 dd dd (by omega)
  have hS : W2 (wrapK .u64 h) (wrapK .u64 l) = Sq h l := rfl
  rw [ba, bb, hS] at bc
  rw [bd, uq] at be
  refine bnd1 ea ?_
  refine bnd1 eb ?_
  refine bnd1 ec ?_
  refine bnd1 eu ?_
  refine bnd1 ed ?_
  refine bnd1 eu ?_
  refine bnd1 ed ?_
  refine bnd1 ee ?_
  refine bnd1 (s116 dc de nc ne (by omega)) ?_
  rw [bc, be, c_lss]
  by_cases hlt : n * Sq h l < sum * sum
  · rw [if_pos hlt, yif (by decide), ← dv_bits (by omega)]
    rw [bits_none (fun r hr k => ?_) 63]
    unfold dvP at k
    have : 0 ≤ (r * n) * (r * n) := Int.mul_nonneg (Int.mul_nonneg (by omega) n0) (Int.mul_nonneg (by omega) n0)
    omega
  rw [if_neg hlt, yif' (by split <;> decide)]
  obtain ⟨f, ef, ⟨bf, df, nf⟩, lf⟩ := s117 dc de (by omega) (by omega) (by rw [bc, be]; omega) ne
  obtain ⟨g, eg, ⟨bg, dg, ng⟩, lg⟩ := s113 da da (by omega)
  rw [bc, be] at bf
  rw [ba] at bg
  refine bnd1 ef ?_
  refine bnd1 eg ?_
  have hb : ∀ (k : Nat) (x : Int), k ≤ 62 → 0 ≤ x → x * 2 ^ (k + 1) + 2 ^ (k + 1) ≤ 9223372036854775808 → d75_b1 (vu f) (vu g) (x * 2 ^ (k + 1), (k : Int)) = some (.inl (if dvP n sum (Sq h l) (x * 2 ^ (k + 1) + 2 ^ k) then x * 2 ^ (k + 1) + 2 ^ k else x * 2 ^ (k + 1), (k : Int) - 1)) := by
    intro k x hk hx hab
    have ep := two_succ k
    have hp := two_pos k
    have hm : 0 ≤ x * 2 ^ (k + 1) := Int.mul_nonneg hx (by omega)
    have e2 : ((2 ^ k : Nat) : Int) = (2 : Int) ^ k := by push_cast; rfl
    have e1 : arReal .shl .u64 1 (k : Int) = 2 ^ k := by
      rw [ar_shlu _ _ (by omega), Int.one_mul, e2]
      omega
    have es : arReal .sub .i64 (k : Int) 1 = (k : Int) - 1 := ar_sub' ⟨by omega, by omega⟩
    unfold d75_b1
    dsimp only
    rw [if_pos (by rw [c_geq]; exact dT (by omega)), if_pos (show Ge0 (k : Int) by unfold Ge0; omega), e1, es, ar_addu' ⟨by omega, by omega⟩]
    generalize x * 2 ^ (k + 1) = r at *
    generalize (2 : Int) ^ k = t at *
    have ur : U64 (r + t) := ⟨by omega, by omega⟩
    obtain ⟨p1, q1, ⟨z1, y1, w1⟩, l1⟩ := s112 ur
    obtain ⟨p2, q2, ⟨z2, y2, w2⟩, l2⟩ := s113 y1 y1 (by omega)
    obtain ⟨p3, q3, ⟨z3, y3, w3⟩, l3⟩ := s113 y2 dg (by omega)
    rw [z1] at z2
    rw [z2, bg] at z3
    refine bnd1 q1 ?_
    refine bnd1 q1 ?_
    refine bnd1 q2 ?_
    refine bnd1 q3 ?_
    refine bnd1 (s116 y3 df w3 nf (by omega)) ?_
    rw [z3, bf, c_leq]
    have hiff : dvP n sum (Sq h l) (r + t) ↔ ¬ ((r + t) * (r + t) * (n * n) > n * Sq h l - sum * sum) := by
      unfold dvP
      have : (r + t) * (r + t) * (n * n) = (r + t) * n * ((r + t) * n) := by grind
      rw [this]; omega
    by_cases hP : dvP n sum (Sq h l) (r + t)
    · rw [if_pos hP, if_neg (hiff.1 hP)]
      exact if_pos (by split <;> decide)
    · have hq : (r + t) * (r + t) * (n * n) > n * Sq h l - sum * sum := Classical.byContradiction fun k => hP (hiff.2 k)
      have hnl : ¬ (r + t) * (r + t) * (n * n) < n * Sq h l - sum * sum := by omega
      rw [if_neg hP, if_neg hnl, if_pos hq]
      exact if_neg (by decide)
  have hI := bits_iter (d75_b1 (vu f) (vu g)) (dvP n sum (Sq h l)) (fun r => by unfold d75_b1; rw [if_neg (by dsimp only; decide)]) hb 63 0 (by omega) (by omega) (by decide)
  rw [Int.zero_mul, show ((63 : Nat) : Int) - 1 = 62 by decide] at hI
  rw [hI.1]
  simp only [Option.bind_some]
  rw [wk_i ⟨by have := hI.2.1; omega, by have := hI.2.2; omega⟩, dv_bits (by omega)]
theorem s48 {nm : ByteArray} {fn : Int} {p : List Int} {ks : List V} (h : okA nm fn p ks) {s : List Int} (hs : valS fn p s) (hi : ∀ x ∈ s, I64 x) : d48 nm fn (vi p) ks (vi s) = some (val fn s) := by
  have ls := val_len h hs
  have t := s110 nm fn (vi p) ks s (by omega)
  unfold d110 at t
  have tt : ((iter (d48_b1 (vi s)) (0, 0)).bind fun y15 => some y15) = some (tot s) := by
    rw [e48b]
    cases hI : iter (d110_b1 (vi s)) (0, 0) with
    | none => rw [hI] at t; simp at t
    | some y => rw [hI] at t; simpa using t
  unfold d48
  rcases fn_cases h.fn with rfl | rfl | rfl | rfl | rfl | rfl | h7
  · obtain ⟨a, rfl, ha⟩ := v1 hs
    refine bnd1 (a := true) rfl (dif1 rfl ?_)
    exact dif1 (iv10 a) rfl
  · obtain ⟨a, rfl⟩ := v2 hs
    refine bnd1 (a := true) rfl (dif1 rfl ?_)
    exact dif1 (iv10 a) rfl
  · obtain ⟨a, x, rfl, ha, _⟩ := v345 (by omega) hs
    refine bnd1 (a := false) rfl (dif0 (by decide) (bnd1 (a := true) rfl (dif1 rfl ?_)))
    exact dif1 (iv21 a x) rfl
  · obtain ⟨a, x, rfl, ha, _⟩ := v345 (by omega) hs
    refine bnd1 (a := false) rfl (dif0 (by decide) (bnd1 (a := true) rfl (dif1 rfl ?_)))
    exact dif1 (iv21 a x) rfl
  · obtain ⟨a, x, rfl, ha, _⟩ := v345 (by omega) hs
    refine bnd1 (a := false) rfl (dif0 (by decide) (bnd1 (a := false) rfl (dif0 (by decide) (dif1 (by decide) ?_))))
    have e : val 5 [a, x] = if a = 0 then 0 else arReal .quo .i64 x a := by unfold val; rw [if_neg (by omega), if_neg (by omega), if_pos rfl]; rfl
    simp only [iv20, iv21, ↓reduceIte, g20, g21, c_eql]
    rw [e]
    by_cases hz : a = 0
    · rw [yif hz, if_pos hz]
    · rw [yif' hz, if_neg hz, if_pos (show Ne0 a from hz)]
  · obtain ⟨a, x, y, z, rfl, ha, _⟩ := v6 hs
    refine bnd1 (a := false) rfl (dif0 (by decide) (bnd1 (a := false) rfl (dif0 (by decide) (dif0 (by decide) (dif1 (by decide) ?_)))))
    simp only [iv40, iv41, iv42, iv43, ↓reduceIte, g40, g41, g42, g43]
    rw [s75 ha (hi x (by simp)), val_6]
    rfl
  · have e : val fn s = tot s := by unfold val; rw [if_neg (by omega), if_neg (by omega), if_neg (by omega), if_neg (by omega)]
    have c : ∀ k : Int, k < 7 → cmpLit .eql fn k = false := fun k hk => by rw [c_eql]; exact dF (by omega)
    rw [e, c 1 (by omega), c 2 (by omega), c 3 (by omega), c 4 (by omega), c 5 (by omega), c 6 (by omega)]
    refine bnd1 (a := false) rfl (dif0 (by decide) (bnd1 (a := false) rfl (dif0 (by decide) (dif0 (by decide) (dif0 (by decide) ?_)))))
    exact bnd1 tt rfl
theorem loop16 {n : Int} (hn : 1 ≤ n) (s : List Int) (hs : s.length ≤ 2000) : iter (d16_b1 (vi s) n) (0, []) = some (vi (s.map (dq n))) := by
  have hI : iter (d16_b1 (vi s) n) (((0 : Nat) : Int), vi ((s.take 0).map (dq n))) = some (vi ((s.take s.length).map (dq n))) := by
    refine scan (d16_b1 (vi s) n) (fun j => ((j : Int), vi ((s.take j).map (dq n)))) (i := s.length) (Nat.zero_le _) (fun j _ hj => ?_) ?_
    · have ea : appL (vi ((s.take j).map (dq n))) [.i .i64 (arReal .quo .i64 s[j] n)] = vi ((s.take (j + 1)).map (dq n)) := by
        rw [List.take_succ_eq_append_getElem hj, List.map_append, vi_app]; rfl
      unfold d16_b1
      dsimp only
      rw [lenI_vi, if_pos (lt_i hj), if_pos (inb_i hj), if_pos (show Ne0 n by unfold Ne0; omega), gI_vi _ _ hj, ea, if_pos (by rw [lenI_vi, List.length_map, List.length_take]; exact ⟨by omega, by omega⟩), succ_i hj (by omega)]
    · unfold d16_b1
      dsimp only
      rw [lenI_vi, if_neg (nlt_i _)]
  rw [List.take_length] at hI
  exact hI
theorem s16 (nm : ByteArray) (fn : Int) (p : List Int) (ks : List V) (hp : ∀ x ∈ p, I64 x) (s : List Int) (hs : s.length ≤ 9223372036854775807) (hi : ∀ x ∈ s, I64 x) (n : Int) :
    d16 nm fn (vi p) ks (vi s) n = some (if chkS nm fn p ks s = 0 then (if n < 1 then ([], 1) else (vi (shown fn n s), 0)) else ([], chkS nm fn p ks s)) := by
  unfold d16
  refine bnd1 (s47 nm fn p ks hp s hs) ?_
  by_cases h1 : chkS nm fn p ks s = 0
  · obtain ⟨hA, hV⟩ := chk0.1 h1
    have ls := val_len hA hV
    rw [h1, if_pos rfl]
    by_cases h2 : n < 1
    · rw [if_pos h2]
      refine bnd1 (a := (1 : Int)) (dif1 (by decide) (dif1 (by rw [c_lss]; exact dT h2) rfl)) ?_
      exact dif1 (by decide) rfl
    · rw [if_neg h2]
      refine bnd1 (a := (0 : Int)) (dif1 (by decide) (dif0 (by rw [c_lss, dF h2]; simp) rfl)) ?_
      refine dif0 (by decide) ?_
      refine bnd1 (s31 nm fn (vi p) ks) ?_
      unfold shown
      by_cases h7 : fn ≥ 7
      · rw [if_pos h7]
        refine dif0 (by rw [notB_dec, dF (fun k => k h7)]; simp) ?_
        rw [loop16 (by omega) s (by omega)]
        rfl
      · rw [if_neg h7]
        refine dif1 (by rw [notB_dec]; exact dT h7) ?_
        refine bnd1 (s48 hA hV hi) ?_
        exact dif1 (show Ne0 n by unfold Ne0; omega) rfl
  · rw [if_neg h1]
    refine bnd1 (a := chkS nm fn p ks s) (dif0 (by rw [c_eql, dF h1]; simp) rfl) ?_
    exact dif1 (by rw [c_neq]; exact dT h1) rfl
open Classical in
theorem p3 (nm : ByteArray) (fn : Int) (p : List Int) (ks : List V) (hp : ∀ x ∈ p, I64 x) (s : List Int) (hs : s.length ≤ 9223372036854775807) (hi : ∀ x ∈ s, I64 x) (a b c : Int) (ha : I64 a) (hb : I64 b) (hc : I64 c) : d3 nm fn (vi p) ks (vi s) a b c = some true := by
  unfold d3
  refine bnd1 s10 ?_
  refine bnd1 (s11 nm fn p ks hp ha) ?_
  refine bnd1 (s12 nm fn p ks hp b) ?_
  refine bnd1 (s13 nm fn p ks hp s hs hi c) ?_
  refine bnd1 (s14 nm fn p ks hp ha) ?_
  refine bnd1 (s15 nm fn p ks hp b) ?_
  refine bnd1 (s16 nm fn p ks hp s hs hi c) ?_
  have q : ∀ x : Int, cmpLit .eql x x = true := fun x => by rw [c_eql]; exact dT rfl
  have bq : ∀ x : Bool, beqB x x = true := fun x => by cases x <;> rfl
  refine dif1 rfl (dif1 (q _) (dif1 (q _) (dif1 (q _) (dif1 (q _) (dif1 (q _) (dif1 (bq _) (dif1 (q _) ?_)))))))
  have : ∃ l : List Int, l.length ≤ 2000 ∧ (if chkS nm fn p ks s = 0 then (if c < 1 then (([] : List V), (1 : Int)) else (vi (shown fn c s), 0)) else ([], chkS nm fn p ks s)).1 = vi l := by
    by_cases h1 : chkS nm fn p ks s = 0
    · rw [if_pos h1]
      obtain ⟨hA, hV⟩ := chk0.1 h1
      by_cases h2 : c < 1
      · rw [if_pos h2]; exact ⟨[], by decide, rfl⟩
      · rw [if_neg h2]; exact ⟨_, shown_len hA hV c, rfl⟩
    · rw [if_neg h1]; exact ⟨[], by decide, rfl⟩
  obtain ⟨l, hl, e⟩ := this
  rw [e]
  exact bnd1 (sn_q l (by omega)) rfl
end Go.Proofs.Ytmofhbedamjblaa
end
section
namespace Go.Proofs.Ytmofhbedamjblaa
open Go.Ab Go.RowKit 
set_option maxRecDepth 100000
set_option maxHeartbeats 40000000
noncomputable def w10_c : Code := (Try.f10.body).getD .skip
theorem w10_h : Try.f10.body = some w10_c := by kernel_rfl
theorem w10 (r : Bool) (h : d10 = some r) : Ab.Fn Try.prog TT 10 [] (.b r) [] := by
 refine fn_pure tok W0 Try.func10 (by kernel_rfl) w10_h (by kernel_rfl) ?_
 intro _ _ _ _ _ _ _ _ _ _ _ _ _ _ _ _ _ _ _ _ _ _ _ _ _ _ _ _ _ _ _ _ _ _ _ _ _ _ _ _ _ E R K hK
 have D := E.D
 clear E
 have S := And.intro D.hcmp (D.hnt)
 unfold d10 at h
 cbv
 refine R.callD h (fun x1 hx1 h2 => ?_)
 clear h; have h := h2; clear h2
 refine R.callN (w20 _ _ _ hx1) (by simp only [fitA, fitV, fitS1, fitL, D.hcmp, D.hnt, and_self]) ?_
 clear hx1; cbv
 refine R.callD h (fun x2 hx2 h2 => ?_)
 clear h; have h := h2; clear h2
 refine R.call' (w19 _ _ _ _ _ _ hx2) (by first|(simp only [S]<;>rfl)|rfl) ?_
 clear hx2; cbv
 refine R.callD h (fun x3 hx3 h2 => ?_)
 clear h; have h := h2; clear h2
 refine R.callN (w20 _ _ _ hx3) (by simp only [fitA, fitV, fitS1, fitL, D.hcmp, D.hnt, and_self]) ?_
 clear hx3; cbv
 refine R.callD h (fun x4 hx4 h2 => ?_)
 clear h; have h := h2; clear h2
 refine R.call' (w21 _ _ _ _ _ _ hx4) (by first|(simp only [S]<;>rfl)|rfl) ?_
 clear hx4; cbv
 refine R.callD h (fun x5 hx5 h2 => ?_)
 clear h; have h := h2; clear h2
 refine R.callN (w20 _ _ _ hx5) (by simp only [fitA, fitV, fitS1, fitL, D.hcmp, D.hnt, and_self]) ?_
 clear hx5; cbv
 refine R.callD h (fun x6 hx6 h2 => ?_)
 clear h; have h := h2; clear h2
 refine R.call' (w19 _ _ _ _ _ _ hx6) (by first|(simp only [S]<;>rfl)|rfl) ?_
 clear hx6; cbv
 refine R.callD h (fun x7 hx7 h2 => ?_)
 clear h; have h := h2; clear h2
 refine R.callN (w20 _ _ _ hx7) (by simp only [fitA, fitV, fitS1, fitL, D.hcmp, D.hnt, and_self]) ?_
 clear hx7; cbv
 refine R.callD h (fun x8 hx8 h2 => ?_)
 clear h; have h := h2; clear h2
 refine R.call' (w21 _ _ _ _ _ _ hx8) (by first|(simp only [S]<;>rfl)|rfl) ?_
 clear hx8; cbv
 refine R.cut' (by kernel_rfl) (by kernel_rfl) ?_
 cbv
 refine R.cutB (fun p => p) (fun _ _ e => e) h [] (fun p18 => [(78, .b p18)]) (fun p18 => []) (by kernel_rfl) (by kernel_rfl) (fun y15 hy hFy15 L hLy15 => ?_) (fun p18 h2 => ?_)
 ·clear h; have h := hy; clear hy; cbv
  refine R.brD h (by first|(simp only [S]<;>rfl)|rfl) ?_ ?_<;>clear h<;>intro h<;>cbv
  ·obtain ⟨s', e, hi⟩ := jn_some (fun p => p) h
   refine hLy15 s' _ _ hi ⟨by kernel_rfl, ?_, ?_, by kernel_rfl, by kernel_rfl⟩<;>cbv<;>(try (subst e;simp only [S,and_self,and_true,true_and]<;>(repeat' apply And.intro)<;>rfl))
  ·refine R.brD h (by first|(simp only [S]<;>rfl)|rfl) ?_ ?_<;>clear h<;>intro h<;>cbv
   ·obtain ⟨s', e, hi⟩ := jn_some (fun p => p) h
    refine hLy15 s' _ _ hi ⟨by kernel_rfl, ?_, ?_, by kernel_rfl, by kernel_rfl⟩<;>cbv<;>(try (subst e;simp only [S,and_self,and_true,true_and]<;>(repeat' apply And.intro)<;>rfl))
   ·refine R.brD h (by first|(simp only [S]<;>rfl)|rfl) ?_ ?_<;>clear h<;>intro h<;>cbv
    ·obtain ⟨s', e, hi⟩ := jn_some (fun p => p) h
     refine hLy15 s' _ _ hi ⟨by kernel_rfl, ?_, ?_, by kernel_rfl, by kernel_rfl⟩<;>cbv<;>(try (subst e;simp only [S,and_self,and_true,true_and]<;>(repeat' apply And.intro)<;>rfl))
    ·refine R.brD h (by first|(simp only [S]<;>rfl)|rfl) ?_ ?_<;>clear h<;>intro h<;>cbv
     ·obtain ⟨s', e, hi⟩ := jn_some (fun p => p) h
      refine hLy15 s' _ _ hi ⟨by kernel_rfl, ?_, ?_, by kernel_rfl, by kernel_rfl⟩<;>cbv<;>(try (subst e;simp only [S,and_self,and_true,true_and]<;>(repeat' apply And.intro)<;>rfl))
     ·refine R.callD h (fun x16 hx16 h2 => ?_)
      clear h; have h := h2; clear h2
      refine R.call' (w17 _ _ _ hx16) (by first|(simp only [S]<;>rfl)|rfl) ?_
      clear hx16; cbv
      refine R.brD h (by first|(simp only [S]<;>rfl)|rfl) ?_ ?_<;>clear h<;>intro h<;>cbv
      ·obtain ⟨s', e, hi⟩ := jn_some (fun p => p) h
       refine hLy15 s' _ _ hi ⟨by kernel_rfl, ?_, ?_, by kernel_rfl, by kernel_rfl⟩<;>cbv<;>(try (subst e;simp only [S,and_self,and_true,true_and]<;>(repeat' apply And.intro)<;>rfl))
      ·refine R.brD h (by first|(simp only [S]<;>rfl)|rfl) ?_ ?_<;>clear h<;>intro h<;>cbv
       ·obtain ⟨s', e, hi⟩ := jn_some (fun p => p) h
        refine hLy15 s' _ _ hi ⟨by kernel_rfl, ?_, ?_, by kernel_rfl, by kernel_rfl⟩<;>cbv<;>(try (subst e;simp only [S,and_self,and_true,true_and]<;>(repeat' apply And.intro)<;>rfl))
       ·refine R.callD h (fun x17 hx17 h2 => ?_)
        clear h; have h := h2; clear h2
        refine R.call' (w17 _ _ _ hx17) (by first|(simp only [S]<;>rfl)|rfl) ?_
        clear hx17; cbv
        refine R.brD h (by first|(simp only [S]<;>rfl)|rfl) ?_ ?_<;>clear h<;>intro h<;>cbv
        ·obtain ⟨s', e, hi⟩ := jn_some (fun p => p) h
         refine hLy15 s' _ _ hi ⟨by kernel_rfl, ?_, ?_, by kernel_rfl, by kernel_rfl⟩<;>cbv<;>(try (subst e;simp only [S,and_self,and_true,true_and]<;>(repeat' apply And.intro)<;>rfl))
        ·obtain ⟨s', e, hi⟩ := jn_some (fun p => p) h
         refine hLy15 s' _ _ hi ⟨by kernel_rfl, ?_, ?_, by kernel_rfl, by kernel_rfl⟩<;>cbv<;>(try (subst e;simp only [S,and_self,and_true,true_and]<;>(repeat' apply And.intro)<;>rfl))
 ·as_aux_lemma =>
  clear h; have h := h2; clear h2; try dsimp only at h
  cbv
  refine R.brD h (by first|(simp only [S]<;>rfl)|rfl) ?_ ?_<;>clear h<;>intro h<;>cbv
  ·have e := ret_some h; clear h
   refine hK _ _ ?_
   cbv
   try (subst e; simp only [S, and_self, and_true, true_and] <;> (repeat' apply And.intro) <;> rfl)
  ·as_aux_lemma =>
   refine R.callD h (fun x19 hx19 h2 => ?_)
   clear h; have h := h2; clear h2
   refine R.callN (w20 _ _ _ hx19) (by simp only [fitA, fitV, fitS1, fitL, D.hcmp, D.hnt, and_self]) ?_
   clear hx19; cbv
   refine R.callD h (fun x20 hx20 h2 => ?_)
   clear h; have h := h2; clear h2
   refine R.call' (w11 _ _ _ _ _ _ hx20) (by first|(simp only [S]<;>rfl)|rfl) ?_
   clear hx20; cbv
   refine R.callD h (fun x21 hx21 h2 => ?_)
   clear h; have h := h2; clear h2
   refine R.call' (w20 _ _ _ hx21) (by first|(simp only [S]<;>rfl)|rfl) ?_
   clear hx21; cbv
   refine R.callD h (fun x22 hx22 h2 => ?_)
   clear h; have h := h2; clear h2
   refine R.call' (w11 _ _ _ _ _ _ hx22) (by first|(simp only [S]<;>rfl)|rfl) ?_
   clear hx22; cbv
   refine R.callD h (fun x23 hx23 h2 => ?_)
   clear h; have h := h2; clear h2
   refine R.call' (w20 _ _ _ hx23) (by first|(simp only [S]<;>rfl)|rfl) ?_
   clear hx23; cbv
   refine R.callD h (fun x24 hx24 h2 => ?_)
   clear h; have h := h2; clear h2
   refine R.call' (w11 _ _ _ _ _ _ hx24) (by first|(simp only [S]<;>rfl)|rfl) ?_
   clear hx24; cbv
   refine R.callD h (fun x25 hx25 h2 => ?_)
   clear h; have h := h2; clear h2
   refine R.call' (w20 _ _ _ hx25) (by first|(simp only [S]<;>rfl)|rfl) ?_
   clear hx25; cbv
   refine R.callD h (fun x26 hx26 h2 => ?_)
   clear h; have h := h2; clear h2
   refine R.call' (w12 _ _ _ _ _ _ hx26) (by first|(simp only [S]<;>rfl)|rfl) ?_
   clear hx26; cbv
   refine R.cut' (by kernel_rfl) (by kernel_rfl) ?_
   cbv
   refine R.cutB (fun p => p) (fun _ _ e => e) h [] (fun p30 => [(141, .b p30)]) (fun p30 => []) (by kernel_rfl) (by kernel_rfl) (fun y29 hy hFy29 L hLy29 => ?_) (fun p30 h2 => ?_)
   ·clear h; have h := hy; clear hy; cbv
    refine R.brD h (by first|(simp only [S]<;>rfl)|rfl) ?_ ?_<;>clear h<;>intro h<;>cbv
    ·obtain ⟨s', e, hi⟩ := jn_some (fun p => p) h
     refine hLy29 s' _ _ hi ⟨by kernel_rfl, ?_, ?_, by kernel_rfl, by kernel_rfl⟩<;>cbv<;>(try (subst e;simp only [S,and_self,and_true,true_and]<;>(repeat' apply And.intro)<;>rfl))
    ·refine R.brD h (by first|(simp only [S]<;>rfl)|rfl) ?_ ?_<;>clear h<;>intro h<;>cbv
     ·obtain ⟨s', e, hi⟩ := jn_some (fun p => p) h
      refine hLy29 s' _ _ hi ⟨by kernel_rfl, ?_, ?_, by kernel_rfl, by kernel_rfl⟩<;>cbv<;>(try (subst e;simp only [S,and_self,and_true,true_and]<;>(repeat' apply And.intro)<;>rfl))
     ·refine R.brD h (by first|(simp only [S]<;>rfl)|rfl) ?_ ?_<;>clear h<;>intro h<;>cbv
      ·obtain ⟨s', e, hi⟩ := jn_some (fun p => p) h
       refine hLy29 s' _ _ hi ⟨by kernel_rfl, ?_, ?_, by kernel_rfl, by kernel_rfl⟩<;>cbv<;>(try (subst e;simp only [S,and_self,and_true,true_and]<;>(repeat' apply And.intro)<;>rfl))
      ·refine R.brD h (by first|(simp only [S]<;>rfl)|rfl) ?_ ?_<;>clear h<;>intro h<;>cbv
       ·obtain ⟨s', e, hi⟩ := jn_some (fun p => p) h
        refine hLy29 s' _ _ hi ⟨by kernel_rfl, ?_, ?_, by kernel_rfl, by kernel_rfl⟩<;>cbv<;>(try (subst e;simp only [S,and_self,and_true,true_and]<;>(repeat' apply And.intro)<;>rfl))
       ·refine R.brD h (by first|(simp only [S]<;>rfl)|rfl) ?_ ?_<;>clear h<;>intro h<;>cbv
        ·obtain ⟨s', e, hi⟩ := jn_some (fun p => p) h
         refine hLy29 s' _ _ hi ⟨by kernel_rfl, ?_, ?_, by kernel_rfl, by kernel_rfl⟩<;>cbv<;>(try (subst e;simp only [S,and_self,and_true,true_and]<;>(repeat' apply And.intro)<;>rfl))
        ·refine R.brD h (by first|(simp only [S]<;>rfl)|rfl) ?_ ?_<;>clear h<;>intro h<;>cbv
         ·obtain ⟨s', e, hi⟩ := jn_some (fun p => p) h
          refine hLy29 s' _ _ hi ⟨by kernel_rfl, ?_, ?_, by kernel_rfl, by kernel_rfl⟩<;>cbv<;>(try (subst e;simp only [S,and_self,and_true,true_and]<;>(repeat' apply And.intro)<;>rfl))
         ·refine R.brD h (by first|(simp only [S]<;>rfl)|rfl) ?_ ?_<;>clear h<;>intro h<;>cbv
          ·obtain ⟨s', e, hi⟩ := jn_some (fun p => p) h
           refine hLy29 s' _ _ hi ⟨by kernel_rfl, ?_, ?_, by kernel_rfl, by kernel_rfl⟩<;>cbv<;>(try (subst e;simp only [S,and_self,and_true,true_and]<;>(repeat' apply And.intro)<;>rfl))
          ·refine R.brD h (by first|(simp only [S]<;>rfl)|rfl) ?_ ?_<;>clear h<;>intro h<;>cbv
           ·obtain ⟨s', e, hi⟩ := jn_some (fun p => p) h
            refine hLy29 s' _ _ hi ⟨by kernel_rfl, ?_, ?_, by kernel_rfl, by kernel_rfl⟩<;>cbv<;>(try (subst e;simp only [S,and_self,and_true,true_and]<;>(repeat' apply And.intro)<;>rfl))
           ·refine R.brD h (by first|(simp only [S]<;>rfl)|rfl) ?_ ?_<;>clear h<;>intro h<;>cbv
            ·obtain ⟨s', e, hi⟩ := jn_some (fun p => p) h
             refine hLy29 s' _ _ hi ⟨by kernel_rfl, ?_, ?_, by kernel_rfl, by kernel_rfl⟩<;>cbv<;>(try (subst e;simp only [S,and_self,and_true,true_and]<;>(repeat' apply And.intro)<;>rfl))
            ·obtain ⟨s', e, hi⟩ := jn_some (fun p => p) h
             refine hLy29 s' _ _ hi ⟨by kernel_rfl, ?_, ?_, by kernel_rfl, by kernel_rfl⟩<;>cbv<;>(try (subst e;simp only [S,and_self,and_true,true_and]<;>(repeat' apply And.intro)<;>rfl))
   ·clear h; have h := h2; clear h2; try dsimp only at h
    cbv
    refine R.brD h (by first|(simp only [S]<;>rfl)|rfl) ?_ ?_<;>clear h<;>intro h<;>cbv
    ·have e := ret_some h; clear h
     refine hK _ _ ?_
     cbv
     try (subst e; simp only [S, and_self, and_true, true_and] <;> (repeat' apply And.intro) <;> rfl)
    ·refine R.callD h (fun x31 hx31 h2 => ?_)
     clear h; have h := h2; clear h2
     refine R.callN (w20 _ _ _ hx31) (by simp only [fitA, fitV, fitS1, fitL, D.hcmp, D.hnt, and_self]) ?_
     clear hx31; cbv
     refine R.callD h (fun x32 hx32 h2 => ?_)
     clear h; have h := h2; clear h2
     refine R.call' (w13s _ _ _ _ _ _ _ hx32) (by first|(simp only [S]<;>rfl)|rfl) ?_
     clear hx32; cbv
     refine R.cut' (by kernel_rfl) (by kernel_rfl) ?_
     cbv
     refine R.brD h (by first|(simp only [S]<;>rfl)|rfl) ?_ ?_<;>clear h<;>intro h<;>cbv
     ·refine R.callD h (fun x34 hx34 h2 => ?_)
      clear h; have h := h2; clear h2
      refine R.call' (w17 _ _ _ hx34) (by first|(simp only [S]<;>rfl)|rfl) ?_
      clear hx34; cbv
      have e := ret_some h; clear h
      refine hK _ _ ?_
      cbv
      try (subst e; simp only [S, and_self, and_true, true_and] <;> (repeat' apply And.intro) <;> rfl)
     ·have e := ret_some h; clear h
      refine hK _ _ ?_
      cbv
      try (subst e; simp only [S, and_self, and_true, true_and] <;> (repeat' apply And.intro) <;> rfl)
end Go.Proofs.Ytmofhbedamjblaa
end
section
namespace Go.Proofs.Ytmofhbedamjblaa
open Go.Ab Go.RowKit 
set_option maxRecDepth 100000
set_option maxHeartbeats 40000000
end Go.Proofs.Ytmofhbedamjblaa
end
section
namespace Go.Ab
open Go.RowKit Go.ChangeShapes Go.WideShapes Go.ChangeAt Go.Deep
section
variable {H : Type} {enc : TypeId × Value → H} {P : Program} {T : Tr} {w : World}
theorem OpV.arr3 (htok : TyOk P T) {α : Type} {t e : Nat} {te : TE} {mk : α → List V} {ok : α → Prop} (ht : T.look t = some te) (hd : te.desc = .array 3 e) (hct : P.cellsOf t = 3) (hce : P.cellsOf e = 1) (ho : OpV T enc P w e [e] mk ok) :
    OpV T enc P w t [e, e, e] (fun x : α × (α × α) => mk x.1 ++ (mk x.2.1 ++ mk x.2.2)) (fun x => ok x.1 ∧ (ok x.2.1 ∧ ok x.2.2)) := by
  intro fuel cs x h
  have hu := htok.und _ _ ht
  rw [hd] at hu
  cases fuel with
  | zero => simp [DataW.trod] at h
  | succ n =>
    unfold DataW.trod at h
    rw [hu] at h
    have r3 : List.range 3 = [0, 1, 2] := rfl
    simp [r3, hce, hct] at h
    obtain ⟨hl, h⟩ := h
    match cs, hl with
    | [c0, c1, c2], _ =>
      simp at h
      cases h0 : DataW.trod enc P w 0 (fun _ => true) true n e [c0] with
      | none => simp [h0] at h
      | some y0 =>
        cases h1 : DataW.trod enc P w 0 (fun _ => true) true n e [c1] with
        | none => simp [h0, h1] at h
        | some y1 =>
          cases h2 : DataW.trod enc P w 0 (fun _ => true) true n e [c2] with
          | none => simp [h0, h1, h2] at h
          | some y2 =>
            obtain ⟨a, a1, a2, a3, a4⟩ := ho _ _ _ h0
            obtain ⟨b, b1, b2, b3, b4⟩ := ho _ _ _ h1
            obtain ⟨c, c1', c2', c3, c4⟩ := ho _ _ _ h2
            refine ⟨(a, b, c), relL_app a1 (relL_app b1 c1'), fun u hu => ?_, wtC_append a3 (wtC_append b3 c3), a4, b4, c4⟩
            rcases List.mem_cons.1 hu with rfl | hu
            · exact a2 _ (by simp)
            · rcases List.mem_cons.1 hu with rfl | hu
              · exact b2 _ (by simp)
              · exact c2' _ hu
theorem okWide_arr {n e : Nat} {t : TypeId} {v : Value} {r : Reach} {base : Nat} (ht : P.underlying t = some (.array n e)) (h : Value.okWide P w r base t v) : ∃ cs, v = .agg cs ∧ cs.size = P.cellsOf t := by
  simp only [Value.okWide, ht] at h
  obtain ⟨cs, h1, h2, _⟩ := h
  exact ⟨cs, h1, h2⟩
end
end Go.Ab
end
