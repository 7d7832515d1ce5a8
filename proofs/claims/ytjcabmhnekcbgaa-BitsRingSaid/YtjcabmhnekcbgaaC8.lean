/- Texts of this seat, merged in build order. No statement of its own. -/
import Derived.Test.YtjcabmhnekcbgaaC7
set_option linter.unusedVariables false
set_option linter.unusedSimpArgs false
section
namespace Go.Proofs.Ytjcabmhnekcbgaa
open Go.Ab Go.RowKit Go.Proofs.Ytjcabmhnekcbgaa.G
/-- A string's bytes, as_ numbers. -/
def nb (s : ByteArray) : List Int := s.data.toList.map fun b => (b.toNat : Int)
theorem nb_len (s : ByteArray) : (nb s).length = s.size := by unfold nb; rw [List.length_map]; rfl
theorem str_ext {s t : ByteArray} (h : s.data.toList = t.data.toList) : s = t := ByteArray.ext (Array.toList_inj.1 h)
theorem nb_inj {s t : ByteArray} (h : nb s = nb t) : s = t := by
  refine str_ext ((List.map_inj_right (fun a b e => ?_)).1 h)
  exact UInt8.toNat_inj.1 (by exact_mod_cast e)
theorem strOf_nb (s : ByteArray) : strOfNums (nb s) = s := by
  refine str_ext ?_
  simp [strOfNums, nb, Function.comp_def]
def Bs (l : List Int) : Prop := ∀ x ∈ l, 0 ≤ x ∧ x < 256
theorem nb_strOf {l : List Int} (h : Bs l) : nb (strOfNums l) = l := by
  simp only [nb, strOfNums, List.map_map]
  refine (List.map_congr_left fun x hx => ?_).trans (List.map_id l)
  have := h x hx
  simp only [Function.comp_def, id]
  rw [UInt8.toNat_ofNat']
  omega
theorem nb_bs (s : ByteArray) : Bs (nb s) := by
  intro x hx
  obtain ⟨b, _, rfl⟩ := List.mem_map.1 hx
  have := b.toNat_lt
  omega
theorem slen_nb (s : ByteArray) : slenI s = (nb s).length := by rw [nb_len]; rfl
theorem sbyte_nb (s : ByteArray) (i : Nat) (h : i < (nb s).length) : sbyteI s i = (nb s)[i] := by
  have hs : i < s.size := by rwa [nb_len] at h
  unfold sbyteI
  simp [hs, nb]
  rfl
theorem sub_nb (s : ByteArray) (a b : Int) : nb (subS s a b) = ((nb s).take b.toNat).drop a.toNat := by
  unfold nb subS
  rw [ByteArray.data_extract, Array.toList_extract, List.drop_take, ← List.map_drop, ← List.map_take]
theorem scmp_eql (s t : ByteArray) : strCmp .eql s t = decide (s = t) := by
  simp only [strCmp, ByteArray.toList_eq, Bool.beq_eq_decide_eq, decide_eq_decide]
  exact ⟨fun h => str_ext h, fun h => by rw [h]⟩
theorem scmp_neq (s t : ByteArray) : strCmp .neq s t = decide (s ≠ t) := by
  have := scmp_eql s t
  simp only [strCmp] at this ⊢
  rw [this]; simp
theorem cat_strOf (l m : List Int) : catS (strOfNums l) (strOfNums m) = strOfNums (l ++ m) := by
  refine str_ext ?_
  simp [catS, strOfNums, ByteArray.data_append]
theorem decN_bs : ∀ (k n : Nat), n ≤ k → Bs (decN n) := by
  intro k
  induction k with
  | zero => intro n h x hx; unfold decN at hx; rw [if_pos (by omega)] at hx; simp at hx; omega
  | succ k ih =>
    intro n h x hx
    unfold decN at hx
    split at hx
    · simp at hx; omega
    · rcases List.mem_append.1 hx with hx | hx
      · exact ih (n / 10) (by omega) x hx
      · simp at hx; omega
theorem dec_bs (u : Int) : Bs (dec u) := decN_bs _ _ (Nat.le_refl _)
theorem decN_dig : ∀ (k n : Nat), n ≤ k → ∀ x ∈ decN n, 48 ≤ x ∧ x ≤ 57 := by
  intro k
  induction k with
  | zero => intro n h x hx; unfold decN at hx; rw [if_pos (by omega)] at hx; simp at hx; omega
  | succ k ih =>
    intro n h x hx
    unfold decN at hx
    split at hx
    · simp at hx; omega
    · rcases List.mem_append.1 hx with hx | hx
      · exact ih (n / 10) (by omega) x hx
      · simp at hx; omega
theorem dec_dig (u : Int) : ∀ x ∈ dec u, 48 ≤ x ∧ x ≤ 57 := decN_dig _ _ (Nat.le_refl _)
theorem dec_ne (u : Int) : dec u ≠ [] := by
  unfold dec decN; split <;> simp
/-- A number's text. -/
def textN (n : Int) : List Int := if n < 0 then 45 :: dec (-n) else dec n
def numT (z : Int) (b : Bool) (v : Int) : Int := if v < 0 ∧ z = 8 ∧ b = false then v + 18446744073709551616 else v
theorem textN_bs (n : Int) : Bs (textN n) := by
  unfold textN
  split
  · intro x hx
    rcases List.mem_cons.1 hx with rfl | hx
    · omega
    · exact dec_bs _ x hx
  · exact dec_bs _
theorem s44 (z : Int) (b : Bool) : d44 z b = some (decide (z = 8 ∧ b = false)) := by
  simp only [d44, c_eql, notB', decide_eq_true_eq]
  by_cases h : z = 8 <;> cases b <;> simp [h]
theorem s78 {u : Int} (h0 : 0 ≤ u) (h1 : u < 18446744073709551616) : d78 u = some (strOfNums (dec u)) := by unfold d78; rw [if_pos ⟨h0, h1⟩]
theorem un_neg64 (a : Int) : unReal .neg .u64 a = wrapK .u64 (0 - a) := rfl
theorem un_negi (a : Int) : unReal .neg .i64 a = wrapK .i64 (0 - a) := rfl
theorem s41 (z : Int) (b : Bool) {v : Int} (hv : I64 v) : d41 z b v = some (strOfNums (textN (numT z b v))) := by
  obtain ⟨l, u⟩ := hv
  have e1 : strOfNums [45] = ByteArray.mk #[45] := rfl
  unfold d41
  simp only [c_lss, s44, Option.bind_some, notB', un_neg64, wk_u64, decide_eq_true_eq, numT]
  by_cases h : v < 0
  · by_cases k : z = 8 ∧ b = false
    · rw [if_pos h, if_neg (by simp [k]), if_pos ⟨h, k⟩]
      have e : v % 18446744073709551616 = v + 18446744073709551616 := by omega
      rw [e, s78 (by omega) (by omega), textN, if_neg (by omega)]; rfl
    · rw [if_pos h, if_pos (by simp only [k]; rfl), if_neg (fun q => k q.2)]
      have e : (0 - v % 18446744073709551616) % 18446744073709551616 = -v := by omega
      rw [e, s78 (by omega) (by omega)]
      simp only [Option.bind_some]
      rw [if_pos, ← e1, cat_strOf, textN, if_pos h]
      · rfl
      · show _ ≤ _
        have := dec_len (-v) (by omega)
        have e2 : (strOfNums (dec (-v))).size = (dec (-v)).length := strOfNums_size _
        have e3 : (ByteArray.mk #[45]).size = 1 := rfl
        omega
  · rw [if_neg h, if_neg (fun q => h q.1)]
    have e : v % 18446744073709551616 = v := by omega
    rw [e, s78 (by omega) (by omega), textN, if_neg h]; rfl
/-- The value of a digit; 16: none. -/
def digV (c : Int) : Int := if 48 ≤ c ∧ c ≤ 57 then c - 48 else if 97 ≤ c ∧ c ≤ 102 then c - 87 else if 65 ≤ c ∧ c ≤ 70 then c - 55 else 16
theorem digV_rng (c : Int) : 0 ≤ digV c ∧ digV c ≤ 16 := by unfold digV; repeat' split <;> omega
def numF (base : Int) : List Int → Int → Option Int
  | [], n => some n
  | c :: r, n => if base ≤ digV c ∨ 18446744073709551616 ≤ n * base + digV c then none else numF base r (n * base + digV c)
theorem s80 {c : Int} (h0 : 0 ≤ c) (h1 : c < 256) : d80 c = some (digV c) := by
  have a1 : ∀ x y : Int, arReal .sub .u8 x y = wrapK .u8 (x - y) := fun _ _ => rfl
  have a2 : ∀ x y : Int, arReal .add .u64 x y = wrapK .u64 (x + y) := fun _ _ => rfl
  simp only [d80, c_geq, c_leq, a1, a2, wk_u8, wk_u64, digV]
  by_cases h48 : 48 ≤ c <;> by_cases h57 : c ≤ 57 <;> by_cases h97 : 97 ≤ c <;> by_cases h102 : c ≤ 102 <;> by_cases h65 : 65 ≤ c <;> by_cases h70 : c ≤ 70 <;> simp [h48, h57, h97, h102, h65, h70] <;> omega
theorem and_mask {a : Int} (h0 : 0 ≤ a) (h1 : a < 18446744073709551616) : arReal .and .u64 a 4294967295 = a % 4294967296 := by
  show wrapK .u64 ((BitVec.ofInt 64 a &&& BitVec.ofInt 64 4294967295).toNat : Nat) = _
  rw [wk_u64, BitVec.toNat_and, bv_nat, bv_nat]
  have e : ((4294967295 : Int) % 18446744073709551616).toNat = 2 ^ 32 - 1 := by decide
  rw [e, Nat.and_two_pow_sub_one_eq_mod]
  omega
theorem shr_32 {a : Int} : arReal .shr .u64 a 32 = a / 4294967296 := by
  show a.fdiv (2 ^ (min (32 : Int).toNat 64)) = _
  rw [Int.fdiv_eq_ediv_of_nonneg]
  · rfl
  · decide
theorem s81 {a b : Int} (h0 : 0 ≤ a) (h1 : a < 18446744073709551616) (hb : b = 10 ∨ b = 16) : d81 a b = some (a * b / 18446744073709551616, a * b % 18446744073709551616) := by
  have g : Ge0 32 := by decide
  have a2 : ∀ x y : Int, arReal .add .u64 x y = wrapK .u64 (x + y) := fun _ _ => rfl
  have a3 : ∀ x y : Int, arReal .mul .u64 x y = wrapK .u64 (x * y) := fun _ _ => rfl
  have e1 := and_mask h0 h1
  have e4 : arReal .shr .u64 a 32 = a / 4294967296 := shr_32
  have hx : 0 ≤ a / 4294967296 ∧ a / 4294967296 < 4294967296 := by omega
  have hy : 0 ≤ a % 4294967296 ∧ a % 4294967296 < 4294967296 := by omega
  have ha : a = 4294967296 * (a / 4294967296) + a % 4294967296 := by omega
  have e3 : arReal .shr .u64 b 32 = 0 := by rw [shr_32]; rcases hb with rfl | rfl <;> rfl
  have e2 : arReal .and .u64 b 4294967295 = b := by rcases hb with rfl | rfl <;> (rw [and_mask (by decide) (by decide)]; rfl)
  unfold d81
  simp only [if_pos g, e1, e2, e3, e4]
  generalize a / 4294967296 = x at *
  generalize a % 4294967296 = y at *
  subst ha
  simp only [shr_32, a2, a3, wk_u64, Int.mul_zero]
  rcases hb with rfl | rfl
  · have q1 : x * 10 % 18446744073709551616 = x * 10 := by omega
    have q2 : y * 10 % 18446744073709551616 = y * 10 := by omega
    have q3 : (x * 10 + y * 10 / 4294967296) % 18446744073709551616 = x * 10 + y * 10 / 4294967296 := by omega
    rw [q1, q2, q3, and_mask (by omega) (by omega)]
    have q5 : (4294967296 * x + y) * 10 / 18446744073709551616 = (x * 10 + y * 10 / 4294967296) / 4294967296 := by omega
    have q6 : x * 10 + y * 10 / 4294967296 < 18446744073709551616 := by omega
    have q7 : 0 ≤ x * 10 + y * 10 / 4294967296 := by omega
    rw [q5]
    generalize x * 10 + y * 10 / 4294967296 = t at *
    congr 1; apply Prod.ext <;> simp only [] <;> omega
  · have q1 : x * 16 % 18446744073709551616 = x * 16 := by omega
    have q2 : y * 16 % 18446744073709551616 = y * 16 := by omega
    have q3 : (x * 16 + y * 16 / 4294967296) % 18446744073709551616 = x * 16 + y * 16 / 4294967296 := by omega
    rw [q1, q2, q3, and_mask (by omega) (by omega)]
    have q5 : (4294967296 * x + y) * 16 / 18446744073709551616 = (x * 16 + y * 16 / 4294967296) / 4294967296 := by omega
    have q6 : x * 16 + y * 16 / 4294967296 < 18446744073709551616 := by omega
    have q7 : 0 ≤ x * 16 + y * 16 / 4294967296 := by omega
    rw [q5]
    generalize x * 16 + y * 16 / 4294967296 = t at *
    congr 1; apply Prod.ext <;> simp only [] <;> omega
theorem s43_b (s : ByteArray) (hs : s.size ≤ 9223372036854775807) (b : Int) (hb : b = 10 ∨ b = 16) : iter (d43_b1 s b) (0, 0) = some (match numF b (nb s) 0 with | some n => .inr n | none => .inl (0, false)) := by
  refine iter_fun (fun p : Int × Int => 0 ≤ p.1 ∧ p.1 < 18446744073709551616 ∧ 0 ≤ p.2 ∧ p.2 ≤ (nb s).length) (fun p => (((nb s).length : Int) - p.2).toNat) (fun p => (match numF b ((nb s).drop p.2.toNat) p.1 with | some n => .inr n | none => .inl (0, false) : (Int × Bool) ⊕ Int)) (fun p hp => ?_) (0, 0) ⟨by decide, by decide, by decide, by simp⟩
  obtain ⟨n, i⟩ := p
  obtain ⟨h0, h1, h2, h3⟩ := hp
  simp only at h0 h1 h2 h3 ⊢
  obtain ⟨j, rfl⟩ := Int.eq_ofNat_of_zero_le h2
  have hl : (nb s).length = s.size := nb_len s
  unfold d43_b1
  simp only [c_lss, slen_nb, decide_eq_true_eq, Int.toNat_natCast]
  by_cases hlt : j < (nb s).length
  · have hi : Inb (j : Int) ((nb s).length : Int) := ⟨by omega, by omega⟩
    rw [if_pos (by omega), if_pos hi, sbyte_nb s j hlt]
    have hc := nb_bs s (nb s)[j] (List.getElem_mem hlt)
    have hd := digV_rng (nb s)[j]
    have hdr : (nb s).drop j = (nb s)[j] :: (nb s).drop (j + 1) := (List.drop_eq_getElem_cons hlt)
    rw [hdr]
    generalize (nb s)[j] = c at hc hd ⊢
    rw [s80 hc.1 hc.2, Option.bind_some, s81 h0 h1 hb, Option.bind_some]
    have hm : 0 ≤ n * b % 18446744073709551616 := Int.emod_nonneg _ (by decide)
    simp only [d82]
    rw [if_pos ⟨hm, hd.1, by omega, by omega⟩]
    simp only [Option.bind_some, c_geq, c_neq, decide_eq_true_eq, numF]
    by_cases hq : b ≤ digV c
    · have hR : ∀ X : Option Int, (if b ≤ digV c ∨ 18446744073709551616 ≤ n * b + digV c then none else X) = none := fun X => if_pos (.inl hq)
      rw [if_pos hq, hR]; exact .inr rfl
    · rw [if_neg hq]
      by_cases hk : 18446744073709551616 ≤ n * b + digV c
      · have hR : ∀ X : Option Int, (if b ≤ digV c ∨ 18446744073709551616 ≤ n * b + digV c then none else X) = none := fun X => if_pos (.inr hk)
        rw [hR]
        refine .inr ?_
        by_cases hh : n * b / 18446744073709551616 = 0
        · rw [if_neg (by simp [hh]), if_pos]
          omega
        · rw [if_pos hh]
      · have hR : ∀ X : Option Int, (if b ≤ digV c ∨ 18446744073709551616 ≤ n * b + digV c then none else X) = X := fun X => if_neg (by omega)
        rw [hR]
        have hnb : 0 ≤ n * b := Int.mul_nonneg h0 (by omega)
        have hh : n * b / 18446744073709551616 = 0 := by omega
        have hh2 : n * b % 18446744073709551616 = n * b := by omega
        rw [if_neg (by simp [hh]), hh2, if_neg (by simp; omega)]
        have ea : arReal .add .i64 (j : Int) 1 = ((j + 1 : Nat) : Int) := by
          show wrapK .i64 _ = _
          rw [wk_i64]; omega
        refine .inl ⟨_, rfl, ⟨by simp only []; omega, by simp only []; omega, by simp only []; omega, by simp only []; omega⟩, by simp only []; omega, ?_⟩
        simp only [ea, Int.toNat_natCast]
        have : (n * b + digV c + 0) % 18446744073709551616 = n * b + digV c := by omega
        rw [this]
  · rw [if_neg (by omega)]
    have : (nb s).drop j = [] := List.drop_eq_nil_of_le (by omega)
    rw [this]
    exact .inr rfl
theorem s43 (s : ByteArray) (hs : s.size ≤ 9223372036854775807) (b : Int) (hb : b = 10 ∨ b = 16) : d43 s b = some (match numF b (nb s) 0 with | some n => (n, decide (nb s ≠ [])) | none => (0, false)) := by
  unfold d43
  rw [s43_b s hs b hb]
  cases numF b (nb s) 0 with
  | none => rfl
  | some n =>
    simp only [Option.bind_some, scmp_neq]
    congr 2
    simp only [decide_eq_decide, ne_eq]
    exact not_congr ⟨fun h => by rw [h]; rfl, fun h => nb_inj h⟩
theorem numF_app (b : Int) : ∀ (l m : List Int) (n : Int), numF b (l ++ m) n = (numF b l n).bind (numF b m)
  | [], m, n => rfl
  | c :: r, m, n => by
    simp only [List.cons_append, numF]
    split
    · rfl
    · exact numF_app b r m _
theorem numF_decN : ∀ (k n : Nat), n ≤ k → (n : Int) < 18446744073709551616 → numF 10 (decN n) 0 = some (n : Int) := by
  intro k
  induction k with
  | zero =>
    intro n h h2
    obtain rfl : n = 0 := by omega
    unfold decN
    rfl
  | succ k ih =>
    intro n h h2
    unfold decN
    split
    · have : digV (48 + (n : Int)) = n := by unfold digV; rw [if_pos (by omega)]; omega
      simp only [numF, this]
      rw [if_neg (by omega)]
      congr 1; omega
    · have : digV (48 + ((n % 10 : Nat) : Int)) = ((n % 10 : Nat) : Int) := by unfold digV; rw [if_pos (by omega)]; omega
      rw [numF_app, ih (n / 10) (by omega) (by omega)]
      simp only [Option.bind_some, numF, this]
      rw [if_neg (by omega)]
      congr 1; omega
theorem numF_dec {u : Int} (h0 : 0 ≤ u) (h1 : u < 18446744073709551616) : numF 10 (dec u) 0 = some u := by
  have := numF_decN _ u.toNat (Nat.le_refl _) (by omega)
  rw [Int.toNat_of_nonneg h0] at this
  exact this
/-- The head of a number's digits. -/
theorem dec_head (u : Int) : ∃ c r, dec u = c :: r ∧ 48 ≤ c ∧ c ≤ 57 := by
  cases h : dec u with
  | nil => exact absurd h (dec_ne u)
  | cons c r => exact ⟨c, r, rfl, dec_dig u c (by rw [h]; simp)⟩
def sgn (l : List Int) : Bool := decide (l.take 1 = [45])
def absL (l : List Int) : List Int := if sgn l = true then l.drop 1 else l
theorem textN_neg {n : Int} (h : n < 0) : sgn (textN n) = true ∧ absL (textN n) = dec (-n) := by
  unfold absL textN; rw [if_pos h]; simp [sgn]
theorem textN_nn {n : Int} (h : ¬ n < 0) : sgn (textN n) = false ∧ absL (textN n) = dec n := by
  obtain ⟨c, r, e, h1, h2⟩ := dec_head n
  have : sgn (textN n) = false := by
    unfold textN sgn; rw [if_neg h, e]; simp; omega
  refine ⟨this, ?_⟩
  unfold absL; rw [if_neg (by simp [this])]; unfold textN; rw [if_neg h]
theorem textN_inj {m n : Int} (hm : -18446744073709551616 < m ∧ m < 18446744073709551616) (hn : -18446744073709551616 < n ∧ n < 18446744073709551616) (h : textN m = textN n) : m = n := by
  by_cases a : m < 0 <;> by_cases b : n < 0
  · have e1 := (textN_neg a).2; have e2 := (textN_neg b).2
    rw [h, e2] at e1
    have f1 := numF_dec (u := -m) (by omega) (by omega)
    have f2 := numF_dec (u := -n) (by omega) (by omega)
    rw [e1, f1] at f2
    have := Option.some.inj f2; omega
  · have e1 := (textN_neg a).1; have e2 := (textN_nn b).1
    rw [h, e2] at e1; cases e1
  · have e1 := (textN_nn a).1; have e2 := (textN_neg b).1
    rw [h, e2] at e1; cases e1
  · have e1 := (textN_nn a).2; have e2 := (textN_nn b).2
    rw [h, e2] at e1
    have f1 := numF_dec (u := m) (by omega) (by omega)
    have f2 := numF_dec (u := n) (by omega) (by omega)
    rw [e1, f1] at f2
    have := Option.some.inj f2; omega
theorem numT_rng (z : Int) (b : Bool) {v : Int} (hv : I64 v) : -18446744073709551616 < numT z b v ∧ numT z b v < 18446744073709551616 := by
  unfold I64 at hv; unfold numT; split <;> omega
/-- No number's text begins with '0x'. -/
theorem textN_hex (n : Int) : (textN n).take 2 ≠ [48, 120] := by
  intro h
  unfold textN at h
  have key : ∀ (u : Int) (l : List Int), (∀ x ∈ l, x ∈ dec u ∨ x = 45) → l.take 2 ≠ [48, 120] := by
    intro u l hl e
    have : (120 : Int) ∈ l := List.mem_of_mem_take (by rw [e]; simp)
    rcases hl _ this with k | k
    · have := dec_dig u _ k; omega
    · omega
  split at h
  · exact key (-n) _ (fun x hx => by rcases List.mem_cons.1 hx with k | k; exact .inr k; exact .inl k) h
  · exact key n _ (fun x hx => .inl hx) h
theorem s84 (s : ByteArray) {p : List Int} (hp : Bs p) : d84 s (strOfNums p) = some (decide ((nb s).take p.length = p)) := by
  have e : slenI (strOfNums p) = p.length := by rw [slen_nb, nb_strOf hp]
  unfold d84
  simp only [c_geq, e, slen_nb, decide_eq_true_eq]
  by_cases h : p.length ≤ (nb s).length
  · rw [if_pos (by omega), if_pos ⟨by omega, by omega, by omega⟩, scmp_eql]
    congr 1
    rw [decide_eq_decide]
    constructor
    · intro q
      have := congrArg nb q
      rw [sub_nb, nb_strOf hp] at this
      simpa using this
    · intro q
      apply nb_inj
      rw [sub_nb, nb_strOf hp]
      simpa using q
  · rw [if_neg (by omega)]
    congr 1
    symm
    rw [decide_eq_false_iff_not]
    intro q
    have := congrArg List.length q
    simp at this
    omega
theorem s79 (s : ByteArray) {p : List Int} (hp : Bs p) : d79 s (strOfNums p) = some (if (nb s).take p.length = p then (strOfNums ((nb s).drop p.length), true) else (s, false)) := by
  have e : slenI (strOfNums p) = p.length := by rw [slen_nb, nb_strOf hp]
  unfold d79
  rw [s84 s hp]
  simp only [Option.bind_some, notB', e, slen_nb]
  by_cases h : (nb s).take p.length = p
  · have hl : p.length ≤ (nb s).length := by have := congrArg List.length h; simp at this; omega
    rw [if_neg (by simp [h]), if_pos ⟨by omega, by omega, by omega⟩, if_pos h]
    congr 2
    apply nb_inj
    rw [sub_nb, nb_strOf (fun x hx => nb_bs s x (List.mem_of_mem_drop hx))]
    simp
  · rw [if_pos (by simp [h]), if_neg h]
theorem s83 (s : ByteArray) {p : List Int} (hp : Bs p) : d83 s (strOfNums p) = some (if (nb s).take p.length = p then strOfNums ((nb s).drop p.length) else s) := by
  have e : slenI (strOfNums p) = p.length := by rw [slen_nb, nb_strOf hp]
  unfold d83
  rw [s84 s hp]
  simp only [Option.bind_some, e, slen_nb]
  by_cases h : (nb s).take p.length = p
  · have hl : p.length ≤ (nb s).length := by have := congrArg List.length h; simp at this; omega
    rw [if_pos (by simp [h]), if_pos ⟨by omega, by omega, by omega⟩, if_pos h]
    congr 1
    apply nb_inj
    rw [sub_nb, nb_strOf (fun x hx => nb_bs s x (List.mem_of_mem_drop hx))]
    simp
  · rw [if_neg (by simp [h]), if_neg h]
end Go.Proofs.Ytjcabmhnekcbgaa
end
section
namespace Go.Proofs.Ytjcabmhnekcbgaa
open Go.Ab Go.RowKit Go.Proofs.Ytjcabmhnekcbgaa.G
def uns (z : Int) (b : Bool) : Prop := z = 8 ∧ b = false
instance (z : Int) (b : Bool) : Decidable (uns z b) := by unfold uns; infer_instance
/-- The value that a decimal string comes to. -/
def valD (l : List Int) : Option Int := match numF 10 (absL l) 0 with
  | none => none
  | some n => if absL l = [] then none else some (if sgn l = true then wrapK .i64 (0 - wrapK .i64 n) else wrapK .i64 n)
def valX (z : Int) (b : Bool) (l : List Int) : Option Int := match numF 16 l 0 with
  | none => none
  | some n => if l = [] ∨ 16 < l.length ∨ wT z b (wrapK .i64 n) ≠ wrapK .i64 n ∨ (wrapK .i64 n < 0 ∧ ¬ uns z b) then none else some (wrapK .i64 n)
def parseV (z : Int) (b : Bool) (l : List Int) : Option Int :=
  if l.take 2 = [48, 120] then valX z b (l.drop 2)
  else match valD l with
    | none => none
    | some v => if textN (numT z b (wT z b v)) = l then some v else none
def errV (o : Option Int) : Int × Int := match o with | some v => (v, 0) | none => (0, 13)
theorem s18_x (z : Int) (b : Bool) (s : ByteArray) (h : OkZ z) (hs : s.size ≤ 9223372036854775807) (hx : (nb s).take 2 = [48, 120]) : d18 z b s = some (errV (valX z b ((nb s).drop 2))) := by
  have hp : Bs [48, 120] := by intro x hx; simp at hx; omega
  have e2 : ByteArray.mk #[48, 120] = strOfNums [48, 120] := rfl
  have hb2 : Bs ((nb s).drop 2) := fun x hx => nb_bs s x (List.mem_of_mem_drop hx)
  have e3 : nb (strOfNums ((nb s).drop 2)) = (nb s).drop 2 := nb_strOf hb2
  have hsz : (strOfNums ((nb s).drop 2)).size ≤ 9223372036854775807 := by
    rw [strOfNums_size, List.length_drop, nb_len]; omega
  have e79 : d79 s (strOfNums [48, 120]) = some (strOfNums ((nb s).drop 2), true) := by
    rw [s79 s hp]; exact congrArg some (if_pos hx)
  unfold d18 d42
  rw [e2, e79, s10, if_pos h]
  simp only [Option.bind_some, c_neq]
  rw [s43 _ hsz 16 (.inr rfl), e3]
  unfold valX errV
  generalize (nb s).drop 2 = L at *
  cases hn : numF 16 L 0 with
  | none => simp [notB']
  | some n =>
    have hi := wk_in n
    simp only [Option.bind_some, c_gtr, slen_nb, e3, s32 b h hi, s44, c_neq, c_lss, notB', decide_eq_true_eq]
    generalize wrapK .i64 n = v at *
    by_cases k1 : L = []
    · simp [k1]
    · by_cases k2 : (16 : Int) < (L.length : Int)
      · have : 16 < L.length := by omega
        rw [if_pos k2]
        simp [k1, this]
      · have k2' : ¬ 16 < L.length := by omega
        rw [if_neg k2]
        by_cases k3 : wT z b v = v
        · by_cases k4 : v < 0
          · by_cases k5 : uns z b
            · have k5' : z = 8 ∧ b = false := k5
              obtain ⟨rfl, rfl⟩ := k5'
              simp [k1, k2', k3, k4, k5]
            · have k5' : ¬ (z = 8 ∧ b = false) := k5
              simp [k1, k2', k3, k4, k5, k5']
          · simp [k1, k2', k3, k4]
        · simp [k1, k2', k3]
theorem s18_d (z : Int) (b : Bool) (s : ByteArray) (h : OkZ z) (hs : s.size ≤ 9223372036854775807) (hx : ¬ (nb s).take 2 = [48, 120]) : d18 z b s = some (errV (match valD (nb s) with
    | none => none
    | some v => if textN (numT z b (wT z b v)) = nb s then some v else none)) := by
  have hp : Bs [48, 120] := by intro x hx; simp at hx; omega
  have hq : Bs [45] := by intro x hx; simp at hx; omega
  have e2 : ByteArray.mk #[48, 120] = strOfNums [48, 120] := rfl
  have e1 : ByteArray.mk #[45] = strOfNums [45] := rfl
  have hb2 : Bs ((nb s).drop 1) := fun x hx => nb_bs s x (List.mem_of_mem_drop hx)
  have ha : nb (if (nb s).take 1 = [45] then strOfNums ((nb s).drop 1) else s) = absL (nb s) := by
    unfold absL sgn
    by_cases k : (nb s).take 1 = [45]
    · simp only [k, if_true, decide_true]; exact nb_strOf hb2
    · simp [k]
  have hsz : (if (nb s).take 1 = [45] then strOfNums ((nb s).drop 1) else s).size ≤ 9223372036854775807 := by
    split
    · rw [strOfNums_size, List.length_drop, nb_len]; omega
    · exact hs
  have e79 : d79 s (strOfNums [48, 120]) = some (s, false) := by
    rw [s79 s hp]; exact congrArg some (if_neg hx)
  have e83 : d83 s (strOfNums [45]) = some (if (nb s).take 1 = [45] then strOfNums ((nb s).drop 1) else s) := s83 s hq
  have e84 : d84 s (strOfNums [45]) = some (decide ((nb s).take 1 = [45])) := s84 s hq
  unfold d18 d42 d45 d46
  rw [e2, e1, e79, s10, if_pos h, e83, e84]
  simp only [Option.bind_some, c_neq]
  rw [s43 _ hsz 10 (.inl rfl), ha]
  unfold valD errV
  cases hn : numF 10 (absL (nb s)) 0 with
  | none => by_cases k : (nb s).take 1 = [45] <;> simp [notB', k]
  | some n =>
    have hi := wk_in n
    by_cases k1 : absL (nb s) = []
    · by_cases k : (nb s).take 1 = [45] <;> simp [notB', k, k1]
    · have hq2 : ∀ v : Int, I64 v → ((d32 z b v).bind fun x37 => (d41 z b x37).bind fun x38 => if strCmp .neq x38 s = true then some ((0 : Int), (13 : Int)) else some (v, 0)) = some (match (if textN (numT z b (wT z b v)) = nb s then some v else none : Option Int) with | some v => (v, 0) | none => (0, 13)) := by
        intro v hv
        rw [s32 b h hv, Option.bind_some, s41 z b (wT_i64 b v), Option.bind_some, scmp_neq]
        have : strOfNums (textN (numT z b (wT z b v))) = s ↔ textN (numT z b (wT z b v)) = nb s :=
          ⟨fun e => by rw [← e, nb_strOf (textN_bs _)], fun e => by rw [e, strOf_nb]⟩
        by_cases k : textN (numT z b (wT z b v)) = nb s
        · have k2 := this.2 k
          rw [if_pos k, if_neg (by rw [k2]; simp)]
        · have k2 : strOfNums (textN (numT z b (wT z b v))) ≠ s := fun e => k (this.1 e)
          rw [if_neg k, if_pos (decide_eq_true k2)]
      have hk1 : decide (absL (nb s) ≠ []) = true := by simp [k1]
      simp only [Option.bind_some, hk1, notB', un_negi, sgn, decide_eq_true_eq, if_neg k1]
      by_cases k : (nb s).take 1 = [45]
      · simp only [k, if_true, decide_true, Option.bind_some]
        exact hq2 _ (wk_in _)
      · simp only [k, if_false, decide_false, Option.bind_some]
        exact hq2 _ (wk_in _)
theorem s18 (z : Int) (b : Bool) (s : ByteArray) (h : OkZ z) (hs : s.size ≤ 9223372036854775807) : d18 z b s = some (errV (parseV z b (nb s))) := by
  unfold parseV
  by_cases hx : (nb s).take 2 = [48, 120]
  · rw [s18_x z b s h hs hx, if_pos hx]
  · rw [s18_d z b s h hs hx, if_neg hx]
end Go.Proofs.Ytjcabmhnekcbgaa
end
section
namespace Go.Proofs.Ytjcabmhnekcbgaa
open Go.Ab Go.RowKit Go.Proofs.Ytjcabmhnekcbgaa.G
def cmpV (a b : Int) : Int := if a < b then -1 else if b < a then 1 else 0
theorem s76 (a b : Int) : d76 a b = some (cmpV a b) := by
  simp only [d76, d87, Option.bind_some, c_neq, c_lss, c_gtr, decide_eq_true_eq, ne_eq, not_true_eq_false, if_false, cmpV]
  split
  · rfl
  · split <;> rfl
theorem s77 (a b : Int) : d77 a b = some (cmpV a b) := by
  simp only [d77, d88, Option.bind_some, c_neq, c_lss, c_gtr, decide_eq_true_eq, ne_eq, not_true_eq_false, if_false, cmpV]
  split
  · rfl
  · split <;> rfl
theorem numT8 (v : Int) : numT 8 false v = if v < 0 then v + 18446744073709551616 else v := by simp [numT]
theorem num_u64 {v : Int} (hv : I64 v) : wrapK .u64 v = numT 8 false v := by
  unfold I64 at hv; rw [wk_u64, numT8]; split <;> omega
theorem numT_s {z : Int} {b : Bool} (h : ¬ (z = 8 ∧ b = false)) (v : Int) : numT z b v = v := by unfold numT; rw [if_neg (fun q => h q.2)]
theorem s38 (z : Int) (b : Bool) {v u : Int} (hv : I64 v) (hu : I64 u) : d38 z b v u = some (cmpV (numT z b v) (numT z b u)) := by
  unfold d38
  rw [s44, Option.bind_some]
  by_cases h : z = 8 ∧ b = false
  · rw [if_pos (by simp only [h]; rfl), s76, num_u64 hv, num_u64 hu, h.1, h.2]; rfl
  · rw [if_neg (by simp only [h]; decide), s77, numT_s h, numT_s h]; rfl
def relH (o k : Int) : Bool := if o = 11 then decide (k < 0) else if o = 12 then decide (k ≤ 0) else if o = 13 then decide (0 < k) else if o = 14 then decide (0 ≤ k) else if o = 15 then decide (k = 0) else decide (k ≠ 0)
def Rel (o : Int) : Prop := o = 11 ∨ o = 12 ∨ o = 13 ∨ o = 14 ∨ o = 15 ∨ o = 16
def b01 (c : Bool) : Int := if c = true then 1 else 0
theorem s37 (c : Bool) : d37 c = some (b01 c) := by unfold d37 b01; split <;> rfl
theorem s14r {o : Int} (ho : Rel o) {z : Int} (b : Bool) {y : Int} (c : Bool) {v u : Int} (hz : OkZ z) (hy : OkZ y) (hv : I64 v) (hu : I64 u) :
    d14 o z b v y c u = some (4, true, b01 (relH o (cmpV (numT (uz z y) (ub z b y c) (wT (uz z y) (ub z b y c) (wT z b v))) (numT (uz z y) (ub z b y c) (wT (uz z y) (ub z b y c) (wT y c u))))), 0) := by
  have hq := uz_ok hz hy
  have e1 := s32 b hz hv
  have e2 := s32 c hy hu
  have e3 := s32 (ub z b y c) hq (wT_i64 b (z := z) v)
  have e4 := s32 (ub z b y c) hq (wT_i64 c (z := y) u)
  have e5 := s38 (uz z y) (ub z b y c) (wT_i64 (ub z b y c) (z := uz z y) (wT z b v)) (wT_i64 (ub z b y c) (z := uz z y) (wT y c u))
  have e6 : d31 z b y c = some 0 := by rw [s31, if_pos ⟨hz, hy⟩]
  unfold d14
  simp only [e6, Option.bind_some, c_neq, e1, e2, s33, d34, d35, d36, c_eql, e3, e4, e5, s37, d70, d71, d72, d73, d74, d75, c_lss, c_leq, c_gtr, c_geq]
  rcases ho with rfl | rfl | rfl | rfl | rfl | rfl <;> simp [relH]
/-- Quotient and remainder of two values of a type. -/
def divQ (z : Int) (b : Bool) (x w : Int) : Int := if z = 8 ∧ b = false then wrapK .i64 (numT z b x / numT z b w) else if w = -1 then wrapK .i64 (0 - x) else wrapK .i64 (x.tdiv w)
def divR (z : Int) (b : Bool) (x w : Int) : Int := if z = 8 ∧ b = false then wrapK .i64 (numT z b x % numT z b w) else if w = -1 then 0 else x.tmod w
theorem num_nn {v : Int} (hv : I64 v) : 0 ≤ numT 8 false v ∧ numT 8 false v < 18446744073709551616 := by
  unfold I64 at hv; rw [numT8]; split <;> omega
theorem num_ne {v : Int} (hv : I64 v) (h : v ≠ 0) : numT 8 false v ≠ 0 := by
  unfold I64 at hv; rw [numT8]; split <;> omega
theorem s68 (z : Int) (b : Bool) {x w : Int} (hx : I64 x) (hw : I64 w) (h0 : w ≠ 0) : d68 z b x w = some (divQ z b x w, divR z b x w) := by
  unfold d68 divQ divR
  rw [s44, Option.bind_some]
  by_cases h : z = 8 ∧ b = false
  · obtain ⟨rfl, rfl⟩ := h
    have hn := num_ne hw h0
    have hp := num_nn hw
    have hq := num_nn hx
    have e : d86 0 (numT 8 false x) (numT 8 false w) = some (numT 8 false x / numT 8 false w, numT 8 false x % numT 8 false w) := by
      generalize numT 8 false x = p at *
      generalize numT 8 false w = q at *
      unfold d86
      have a1 : arReal .quo .u64 p q = p / q := by
        show wrapK .u64 (p.tdiv q) = _
        rw [wk_u64, Int.tdiv_eq_ediv_of_nonneg hq.1]
        have h1 : 0 ≤ p / q := Int.ediv_nonneg hq.1 hp.1
        have h2 : p / q ≤ p := Int.ediv_le_self q hq.1
        omega
      have a2 : arReal .rem .u64 p q = p % q := Int.tmod_eq_emod_of_nonneg hq.1
      have hle : ¬ q ≤ 0 := by omega
      have hN : Ne0 q := hn
      simp only [c_eql, c_leq, decide_eq_true_eq]
      rw [if_neg hn, if_neg hle, if_pos trivial, if_pos hN, if_pos hN, a1, a2]
    rw [if_pos (by decide), num_u64 hx, num_u64 hw, e]
    rfl
  · rw [if_neg (by simp only [h]; decide), if_neg h, if_neg h]
    simp only [c_eql, decide_eq_true_eq]
    by_cases h1 : w = -1
    · rw [if_pos h1, if_pos h1, if_pos h1]; rfl
    · have hN : Ne0 w := h0
      rw [if_neg h1, if_neg h1, if_neg h1, if_pos hN, if_pos hN]; rfl
theorem divQ_i64 (z : Int) (b : Bool) (x w : Int) : I64 (divQ z b x w) := by unfold divQ; repeat' split
                                                                             all_goals exact wk_in _
theorem divR_i64 (z : Int) (b : Bool) {x w : Int} (hx : I64 x) (hw : I64 w) (h0 : w ≠ 0) : I64 (divR z b x w) := by
  unfold divR
  split
  · exact wk_in _
  · split
    · unfold I64; omega
    · unfold I64 at *
      have h1 : (x.tmod w).natAbs ≤ x.natAbs := by rw [Int.natAbs_tmod]; exact Nat.mod_le _ _
      rcases Int.lt_or_le x 0 with h | h
      · have : x.tmod w ≤ 0 := by
          have := Int.tmod_nonneg w (a := -x) (by omega)
          rw [Int.neg_tmod] at this; omega
        omega
      · have := Int.tmod_nonneg w h
        omega
theorem s14d {o : Int} (ho : o = 4 ∨ o = 5) {z : Int} (b : Bool) {y : Int} (c : Bool) {v u : Int} (hz : OkZ z) (hy : OkZ y) (hv : I64 v) (hu : I64 u) :
    d14 o z b v y c u = some (if wT (uz z y) (ub z b y c) (wT y c u) = 0 then (0, false, 0, 12) else
      (uz z y, ub z b y c, wT (uz z y) (ub z b y c) ((if o = 4 then divQ else divR) (uz z y) (ub z b y c) (wT (uz z y) (ub z b y c) (wT z b v)) (wT (uz z y) (ub z b y c) (wT y c u))), 0)) := by
  have hq := uz_ok hz hy
  have e1 := s32 b hz hv
  have e2 := s32 c hy hu
  have e3 := s32 (ub z b y c) hq (wT_i64 b (z := z) v)
  have e4 := s32 (ub z b y c) hq (wT_i64 c (z := y) u)
  have e6 : d31 z b y c = some 0 := by rw [s31, if_pos ⟨hz, hy⟩]
  have hx := wT_i64 (ub z b y c) (z := uz z y) (wT z b v)
  have hw := wT_i64 (ub z b y c) (z := uz z y) (wT y c u)
  unfold d14
  simp only [e6, Option.bind_some, c_neq, e1, e2, s33, d34, c_eql, e3, e4]
  generalize wT (uz z y) (ub z b y c) (wT z b v) = X at *
  generalize wT (uz z y) (ub z b y c) (wT y c u) = W at *
  by_cases h0 : W = 0
  · rcases ho with rfl | rfl <;> simp [h0]
  · have e7 := s68 (uz z y) (ub z b y c) hx hw h0
    rcases ho with rfl | rfl
    · have e8 := s32 (ub z b y c) hq (divQ_i64 (uz z y) (ub z b y c) X W)
      simp [h0, d67, e7, e8]
    · have e8 := s32 (ub z b y c) hq (divR_i64 (uz z y) (ub z b y c) hx hw h0)
      simp [h0, d69, e7, e8]
end Go.Proofs.Ytjcabmhnekcbgaa
end
section
namespace Go.Proofs.Ytjcabmhnekcbgaa
open Go.Ab Go.RowKit Go.Proofs.Ytjcabmhnekcbgaa.G
/-- The text of a value. -/
def txt (z : Int) (b : Bool) (v : Int) : List Int := textN (numT z b (wT z b v))
theorem s17 {z : Int} (b : Bool) {v : Int} (h : OkZ z) (hv : I64 v) : d17 z b v = some (strOfNums (txt z b v), 0) := by
  unfold d17
  rw [s10, if_pos h]
  simp only [Option.bind_some, c_neq, s32 b h hv]
  rw [s41 z b (wT_i64 b v)]
  rfl
theorem s19 {z : Int} (b : Bool) {v u : Int} (h : OkZ z) (hv : I64 v) (hu : I64 u) : d19 z b v u = some (cmpV (numT z b (wT z b v)) (numT z b (wT z b u)), 0) := by
  unfold d19
  rw [s10, if_pos h]
  simp only [Option.bind_some, c_neq, s32 b h hv, s32 b h hu]
  rw [s38 z b (wT_i64 b v) (wT_i64 b u)]
  rfl
theorem i_lit {v : Int} (h : decide (-9223372036854775808 ≤ v ∧ v < 9223372036854775808) = true) : I64 v := by
  have := of_decide_eq_true h
  exact this
theorem z1 : OkZ 1 := .inl rfl
theorem z4 : OkZ 4 := .inr (.inr (.inl rfl))
theorem z8 : OkZ 8 := .inr (.inr (.inr rfl))
theorem h6 : d28 1 true 200 = some (-56, 0) := by rw [s28 1 true (i_lit rfl), if_pos z1]; rfl
theorem h8 : d15 4 false 8 true = some (8, true, 0) := by rw [s15, if_pos ⟨z4, z8⟩]; rfl
theorem h9 : d14 11 4 true (-1) 4 false 1 = some (4, true, 0, 0) := by rw [s14r (.inl rfl) true false z4 z4 (i_lit rfl) (i_lit rfl)]; rfl
theorem h10 : d14 1 1 false 255 1 false 1 = some (4, true, 256, 0) := by rw [s14 (.inl rfl) false false z1 z1 (i_lit rfl) (i_lit rfl)]; rfl
theorem h11 : d14 4 4 true (-7) 4 true 2 = some (4, true, -3, 0) := by rw [s14d (.inl rfl) true true z4 z4 (i_lit rfl) (i_lit rfl)]; rfl
theorem h12 : d14 10 4 true (-5) 4 true 1 = some (4, true, -3, 0) := by
  have e1 : d32 4 true (-5) = some (-5) := s32 true z4 (i_lit rfl)
  have e2 : d32 4 true 1 = some 1 := s32 true z4 (i_lit rfl)
  have e3 : d31 4 true 4 true = some 0 := by rw [s31, if_pos ⟨z4, z4⟩]
  have e4 : d30 4 true = some (4, true) := s30 4 true
  have e5 : d44 4 true = some false := s44 4 true
  have e6 : arReal .rem .u64 (wrapK .u64 1) (wrapK .u64 (arReal .mul .i64 8 4)) = 1 := by decide
  have e7 : arReal .shr .i64 (-5) 1 = -3 := by decide
  have e8 : Ne0 (wrapK .u64 (arReal .mul .i64 8 4)) := by decide
  have e9 : Ge0 1 := by decide
  unfold d14
  simp only [e1, e2, e3, e4, s33, d34, d35, Option.bind_some, c_neq, c_eql, d39, d40, e5, e6, e7, if_pos e8, if_pos e9]
  decide
theorem decN_step {n q r : Nat} (h : n = 10 * q + r) (hr : r < 10) (hq : 0 < q) : decN n = decN q ++ [48 + (r : Int)] := by
  have e1 : n / 10 = q := by omega
  have e2 : n % 10 = r := by omega
  rw [decN, if_neg (by omega), e1, e2]
theorem decN_1 : decN 1 = [49] := by rw [decN, if_pos (by decide)]; rfl
theorem decN_2 : decN 18 = [49, 56] := by
  rw [decN_step (n := 18) (q := 1) (r := 8) (by decide) (by decide) (by decide), decN_1]; rfl
theorem decN_3 : decN 184 = [49, 56, 52] := by
  rw [decN_step (n := 184) (q := 18) (r := 4) (by decide) (by decide) (by decide), decN_2]; rfl
theorem decN_4 : decN 1844 = [49, 56, 52, 52] := by
  rw [decN_step (n := 1844) (q := 184) (r := 4) (by decide) (by decide) (by decide), decN_3]; rfl
theorem decN_5 : decN 18446 = [49, 56, 52, 52, 54] := by
  rw [decN_step (n := 18446) (q := 1844) (r := 6) (by decide) (by decide) (by decide), decN_4]; rfl
theorem decN_6 : decN 184467 = [49, 56, 52, 52, 54, 55] := by
  rw [decN_step (n := 184467) (q := 18446) (r := 7) (by decide) (by decide) (by decide), decN_5]; rfl
theorem decN_7 : decN 1844674 = [49, 56, 52, 52, 54, 55, 52] := by
  rw [decN_step (n := 1844674) (q := 184467) (r := 4) (by decide) (by decide) (by decide), decN_6]; rfl
theorem decN_8 : decN 18446744 = [49, 56, 52, 52, 54, 55, 52, 52] := by
  rw [decN_step (n := 18446744) (q := 1844674) (r := 4) (by decide) (by decide) (by decide), decN_7]; rfl
theorem decN_9 : decN 184467440 = [49, 56, 52, 52, 54, 55, 52, 52, 48] := by
  rw [decN_step (n := 184467440) (q := 18446744) (r := 0) (by decide) (by decide) (by decide), decN_8]; rfl
theorem decN_10 : decN 1844674407 = [49, 56, 52, 52, 54, 55, 52, 52, 48, 55] := by
  rw [decN_step (n := 1844674407) (q := 184467440) (r := 7) (by decide) (by decide) (by decide), decN_9]; rfl
theorem decN_11 : decN 18446744073 = [49, 56, 52, 52, 54, 55, 52, 52, 48, 55, 51] := by
  rw [decN_step (n := 18446744073) (q := 1844674407) (r := 3) (by decide) (by decide) (by decide), decN_10]; rfl
theorem decN_12 : decN 184467440737 = [49, 56, 52, 52, 54, 55, 52, 52, 48, 55, 51, 55] := by
  rw [decN_step (n := 184467440737) (q := 18446744073) (r := 7) (by decide) (by decide) (by decide), decN_11]; rfl
theorem decN_13 : decN 1844674407370 = [49, 56, 52, 52, 54, 55, 52, 52, 48, 55, 51, 55, 48] := by
  rw [decN_step (n := 1844674407370) (q := 184467440737) (r := 0) (by decide) (by decide) (by decide), decN_12]; rfl
theorem decN_14 : decN 18446744073709 = [49, 56, 52, 52, 54, 55, 52, 52, 48, 55, 51, 55, 48, 57] := by
  rw [decN_step (n := 18446744073709) (q := 1844674407370) (r := 9) (by decide) (by decide) (by decide), decN_13]; rfl
theorem decN_15 : decN 184467440737095 = [49, 56, 52, 52, 54, 55, 52, 52, 48, 55, 51, 55, 48, 57, 53] := by
  rw [decN_step (n := 184467440737095) (q := 18446744073709) (r := 5) (by decide) (by decide) (by decide), decN_14]; rfl
theorem decN_16 : decN 1844674407370955 = [49, 56, 52, 52, 54, 55, 52, 52, 48, 55, 51, 55, 48, 57, 53, 53] := by
  rw [decN_step (n := 1844674407370955) (q := 184467440737095) (r := 5) (by decide) (by decide) (by decide), decN_15]; rfl
theorem decN_17 : decN 18446744073709551 = [49, 56, 52, 52, 54, 55, 52, 52, 48, 55, 51, 55, 48, 57, 53, 53, 49] := by
  rw [decN_step (n := 18446744073709551) (q := 1844674407370955) (r := 1) (by decide) (by decide) (by decide), decN_16]; rfl
theorem decN_18 : decN 184467440737095516 = [49, 56, 52, 52, 54, 55, 52, 52, 48, 55, 51, 55, 48, 57, 53, 53, 49, 54] := by
  rw [decN_step (n := 184467440737095516) (q := 18446744073709551) (r := 6) (by decide) (by decide) (by decide), decN_17]; rfl
theorem decN_19 : decN 1844674407370955161 = [49, 56, 52, 52, 54, 55, 52, 52, 48, 55, 51, 55, 48, 57, 53, 53, 49, 54, 49] := by
  rw [decN_step (n := 1844674407370955161) (q := 184467440737095516) (r := 1) (by decide) (by decide) (by decide), decN_18]; rfl
theorem decN_20 : decN 18446744073709551615 = [49, 56, 52, 52, 54, 55, 52, 52, 48, 55, 51, 55, 48, 57, 53, 53, 49, 54, 49, 53] := by
  rw [decN_step (n := 18446744073709551615) (q := 1844674407370955161) (r := 5) (by decide) (by decide) (by decide), decN_19]; rfl
theorem dec_max : dec 18446744073709551615 = [49, 56, 52, 52, 54, 55, 52, 52, 48, 55, 51, 55, 48, 57, 53, 53, 49, 54, 49, 53] := decN_20
theorem h13 : d17 8 false (-1) = some (ByteArray.mk #[49, 56, 52, 52, 54, 55, 52, 52, 48, 55, 51, 55, 48, 57, 53, 53, 49, 54, 49, 53], 0) := by
  rw [s17 false z8 (i_lit rfl)]
  have e1 : numT 8 false (wT 8 false (-1)) = 18446744073709551615 := by decide
  have e : txt 8 false (-1) = dec 18446744073709551615 := by unfold txt; rw [e1]; unfold textN; rw [if_neg (by decide)]
  rw [e, dec_max]; rfl
theorem h14 : d18 8 false (ByteArray.mk #[48, 120, 102, 102, 102, 102, 102, 102, 102, 102, 102, 102, 102, 102, 102, 102, 102, 102]) = some (-1, 0) := by
  rw [s18 8 false _ z8 (by decide)]
  rfl
theorem h15 : d18 1 true (ByteArray.mk #[49, 50, 56]) = some (0, 13) := by
  rw [s18 1 true _ z1 (by decide)]
  have e1 : nb (ByteArray.mk #[49, 50, 56]) = [49, 50, 56] := rfl
  have e2 : valD [49, 50, 56] = some 128 := rfl
  have e3 : numT 1 true (wT 1 true 128) = -128 := rfl
  have e4 : textN (-128) ≠ [49, 50, 56] := by unfold textN; rw [if_pos (by decide)]; simp
  rw [e1, parseV, if_neg (by decide), e2]
  simp only [e3, if_neg e4]
  rfl
theorem s9 : d9 = some true := by
  unfold d9
  simp only [d27, Option.bind_some, h6, h8, h9, h10, h11, h12, h13, h14, h15, c_neq, c_eql, scmp_eql, andB', beqB]
  decide
end Go.Proofs.Ytjcabmhnekcbgaa
end
section
namespace Go.Proofs.Ytjcabmhnekcbgaa
open Go.Ab Go.RowKit
theorem pz_id {z : Int} (h : 4 ≤ z) : pz z = z := by unfold pz; rw [if_neg (by omega)]
theorem pb_id {z : Int} (h : 4 ≤ z) (b : Bool) : pb z b = b := by unfold pb; rw [if_neg (by omega)]
theorem uz_4 {z y : Int} (h : OkZ z) (k : OkZ y) : 4 ≤ uz z y := by
  have := pz_4 h; have := pz_4 k
  unfold uz; split <;> omega
theorem us_self (z : Int) (b : Bool) : uz z z = pz z ∧ ub z b z b = pb z b := by
  unfold uz ub; simp
end Go.Proofs.Ytjcabmhnekcbgaa
end
section
namespace Go.Proofs.Ytjcabmhnekcbgaa
open Go.Ab Go.RowKit 
set_option maxRecDepth 100000
set_option maxHeartbeats 4000000
end Go.Proofs.Ytjcabmhnekcbgaa
end
section
/- What a reading of an array of two or three brings. No statement of its own. -/

namespace Go.Ab
open Go.RowKit Go.ChangeShapes Go.WideShapes Go.ChangeAt Go.Deep
section
variable {H : Type} {enc : TypeId × Value → H} {P : Program} {T : Tr} {w : World}
theorem OpV.arr2 (htok : TyOk P T) {α : Type} {t e : Nat} {te : TE} {mk : α → List V} {ok : α → Prop} (ht : T.look t = some te) (hd : te.desc = .array 2 e) (hct : P.cellsOf t = 2) (hce : P.cellsOf e = 1) (ho : OpV T enc P w e [e] mk ok) :
    OpV T enc P w t [e, e] (fun x : α × α => mk x.1 ++ mk x.2) (fun x => ok x.1 ∧ ok x.2) := by
  intro fuel cs x h
  have hu := htok.und _ _ ht
  rw [hd] at hu
  cases fuel with
  | zero => simp [DataW.trod] at h
  | succ n =>
    unfold DataW.trod at h
    rw [hu] at h
    have r2 : List.range 2 = [0, 1] := rfl
    simp [r2, hce, hct] at h
    obtain ⟨hl, h⟩ := h
    match cs, hl with
    | [c0, c1], _ =>
      simp at h
      cases h0 : DataW.trod enc P w 0 (fun _ => true) true n e [c0] with
      | none => simp [h0] at h
      | some y0 =>
        cases h1 : DataW.trod enc P w 0 (fun _ => true) true n e [c1] with
        | none => simp [h0, h1] at h
        | some y1 =>
          obtain ⟨a, a1, a2, a3, a4⟩ := ho _ _ _ h0
          obtain ⟨b, b1, b2, b3, b4⟩ := ho _ _ _ h1
          refine ⟨(a, b), relL_app a1 b1, fun u hu => ?_, wtC_append a3 b3, a4, b4⟩
          rcases List.mem_cons.1 hu with rfl | hu
          · exact a2 _ (by simp)
          · exact b2 _ hu
theorem OpV.arr3 (htok : TyOk P T) {α : Type} {t e : Nat} {te : TE} {mk : α → List V} {ok : α → Prop} (ht : T.look t = some te) (hd : te.desc = .array 3 e) (hct : P.cellsOf t = 3) (hce : P.cellsOf e = 1) (ho : OpV T enc P w e [e] mk ok) :
    OpV T enc P w t [e, e, e] (fun x : α × (α × α) => mk x.1 ++ (mk x.2.1 ++ mk x.2.2)) (fun x => ok x.1 ∧ (ok x.2.1 ∧ ok x.2.2)) := by
  intro fuel cs x h
  have hu := htok.und _ _ ht
  rw [hd] at hu
  cases fuel with
  | zero => simp [DataW.trod] at h
  | succ n =>
    unfold DataW.trod at h
    rw [hu] at h
    have r3 : List.range 3 = [0, 1, 2] := rfl
    simp [r3, hce, hct] at h
    obtain ⟨hl, h⟩ := h
    match cs, hl with
    | [c0, c1, c2], _ =>
      simp at h
      cases h0 : DataW.trod enc P w 0 (fun _ => true) true n e [c0] with
      | none => simp [h0] at h
      | some y0 =>
        cases h1 : DataW.trod enc P w 0 (fun _ => true) true n e [c1] with
        | none => simp [h0, h1] at h
        | some y1 =>
          cases h2 : DataW.trod enc P w 0 (fun _ => true) true n e [c2] with
          | none => simp [h0, h1, h2] at h
          | some y2 =>
            obtain ⟨a, a1, a2, a3, a4⟩ := ho _ _ _ h0
            obtain ⟨b, b1, b2, b3, b4⟩ := ho _ _ _ h1
            obtain ⟨c, c1', c2', c3, c4⟩ := ho _ _ _ h2
            refine ⟨(a, b, c), relL_app a1 (relL_app b1 c1'), fun u hu => ?_, wtC_append a3 (wtC_append b3 c3), a4, b4, c4⟩
            rcases List.mem_cons.1 hu with rfl | hu
            · exact a2 _ (by simp)
            · rcases List.mem_cons.1 hu with rfl | hu
              · exact b2 _ (by simp)
              · exact c2' _ hu
theorem okWide_arr {n e : Nat} {t : TypeId} {v : Value} {r : Reach} {base : Nat} (ht : P.underlying t = some (.array n e)) (h : Value.okWide P w r base t v) : ∃ cs, v = .agg cs ∧ cs.size = P.cellsOf t := by
  simp only [Value.okWide, ht] at h
  obtain ⟨cs, h1, h2, _⟩ := h
  exact ⟨cs, h1, h2⟩
end
end Go.Ab
end
section
namespace Go.Proofs.Ytjcabmhnekcbgaa
open Go.Ab Go.RowKit Go.Proofs.Ytjcabmhnekcbgaa.G
theorem i64_wf' {n : Int} (h : (Lit.int .i64 n).wf = true) : I64 n := by
  simp [Lit.wf, IntKind.min, IntKind.max, IntKind.bits, IntKind.signed] at h
  unfold I64
  omega
theorem numT_mod (z : Int) (b : Bool) (v : Int) : numT z b v % 18446744073709551616 = v % 18446744073709551616 := by
  unfold numT; split <;> omega
theorem wk_id {v : Int} (h : I64 v) : wrapK .i64 v = v := by unfold I64 at h; rw [wk_i64]; omega
theorem wk_congr {v u : Int} (h : v % 18446744073709551616 = u % 18446744073709551616) : wrapK .i64 v = wrapK .i64 u := by
  rw [wk_i64, wk_i64]; omega
theorem absL_text (n : Int) : absL (textN n) ≠ [] := by
  by_cases h : n < 0
  · rw [(textN_neg h).2]; exact dec_ne _
  · rw [(textN_nn h).2]; exact dec_ne _
theorem valD_text {n : Int} (h : -18446744073709551616 < n ∧ n < 18446744073709551616) : valD (textN n) = some (wrapK .i64 n) := by
  unfold valD
  simp only [if_neg (absL_text n)]
  by_cases k : n < 0
  · rw [(textN_neg k).2, (textN_neg k).1, numF_dec (by omega) (by omega)]
    simp only [if_true]
    congr 1
    refine wk_congr ?_
    have := wk_mod (-n)
    omega
  · rw [(textN_nn k).2, (textN_nn k).1, numF_dec (by omega) (by omega)]
    simp
/-- What a number's text comes to, read as_ a value of a type. -/
theorem parse_text (z : Int) (b : Bool) {n : Int} (h : -18446744073709551616 < n ∧ n < 18446744073709551616) : parseV z b (textN n) = if numT z b (wT z b (wrapK .i64 n)) = n then some (wrapK .i64 n) else none := by
  unfold parseV
  rw [if_neg (textN_hex n), valD_text h]
  simp only []
  by_cases k : numT z b (wT z b (wrapK .i64 n)) = n
  · rw [if_pos k, if_pos (by rw [k])]
  · rw [if_neg k, if_neg]
    exact fun e => k (textN_inj (numT_rng z b (wT_i64 b _)) h e)
theorem txt_bs (z : Int) (b : Bool) (v : Int) : Bs (txt z b v) := textN_bs _
theorem txt_id {z : Int} (h : OkZ z) (b : Bool) (v : Int) : txt z b (wT z b v) = txt z b v := by unfold txt; rw [wT_id h]
theorem txt_len (z : Int) (b : Bool) (v : Int) : (txt z b v).length ≤ 21 := by
  have hr := numT_rng z b (wT_i64 (z := z) b v)
  unfold txt textN
  split
  · have := dec_len (-numT z b (wT z b v)) (by omega)
    simp; omega
  · have := dec_len (numT z b (wT z b v)) (by omega)
    omega
theorem txt_size (z : Int) (b : Bool) (v : Int) : (strOfNums (txt z b v)).size ≤ 9223372036854775807 := by
  rw [strOfNums_size]
  have := txt_len z b v
  omega
/-- The text of a value, read as_ one of another type. -/
theorem s18_txt {z y : Int} (b c : Bool) (v : Int) (h : OkZ z) (k : OkZ y) : d18 y c (strOfNums (txt z b v)) = some (if numT y c (wT y c (wT z b v)) = numT z b (wT z b v) then (wrapK .i64 (numT z b (wT z b v)), 0) else (0, 13)) := by
  rw [s18 y c _ k (txt_size z b v), nb_strOf (txt_bs z b v)]
  have e : wT y c (wrapK .i64 (numT z b (wT z b v))) = wT y c (wT z b v) := wT_congr k c (mod_64 k (by rw [wk_mod, numT_mod]))
  unfold txt
  rw [parse_text y c (numT_rng z b (wT_i64 b v)), e]
  by_cases q : numT y c (wT y c (wT z b v)) = numT z b (wT z b v)
  · rw [if_pos q, if_pos q]; rfl
  · rw [if_neg q, if_neg q]; rfl
end Go.Proofs.Ytjcabmhnekcbgaa
end
section
namespace Go.Proofs.Ytjcabmhnekcbgaa
open Go.Ab Go.RowKit 
set_option maxRecDepth 100000
set_option maxHeartbeats 4000000
noncomputable def d20_b1 (a0_0 : Int) (s6 : Int × Int × List V) : Option ((Int × Int × List V) ⊕ (List V)) :=
  if (cmpLit .lss s6.2.1 a0_0) = true then
    if (Room (lenI (appL s6.2.2 [.i .u8 (wrapK .u8 s6.1)])) 1) then
      if (Ge0 8) then
        some (.inl ((arReal .shr .i64 s6.1 8), (arReal .add .i64 s6.2.1 1), (appL s6.2.2 [.i .u8 (wrapK .u8 s6.1)])))
      else none
    else none
  else
    some (.inr s6.2.2)
noncomputable def d20 (a0_0 : Int) (a0_1 : Bool) (a1 : Int) : Option (List V × Int) :=
  (d10 a0_0 a0_1).bind fun x2 =>
  if (cmpLit .neq x2 0) = true then
    some ([], x2)
  else
    Option.bind (α := List V) (
      (iter (d20_b1 a0_0) (a1, 0, [])).bind fun y7 =>
      some y7) fun y5 =>
    some (y5, 0)
noncomputable def w20_c : Code := (Try.f20.body).getD .skip
theorem w20_h : Try.f20.body = some w20_c := by kernel_rfl
theorem w20 (a0_0 : Int) (a0_1 : Bool) (a1 : Int) (r : List V × Int) (h : d20 a0_0 a0_1 a1 = some r) : Ab.Fn Try.prog TT 20 [.agg [.i .i64 a0_0, .b a0_1], .i .i64 a1] (.tup [.row 0, .i .i64 r.2]) [(0, .row 5 r.1)] := by
  refine fn_own tok W0 Try.func20 (by kernel_rfl) w20_h (by kernel_rfl) ?_
  intro ar un cv mn mx pl mi cmp nt beq an scmp cat slen sbyte ssub ofB toB len gi gb gs gl sub put app ovl rep ne0 ge0 inb bnd room sroom need br call loop cut nl E R K hK
  have D := E.D
  clear E
  unfold d20 at h
  cbv
  refine R.cut' (by kernel_rfl) (by kernel_rfl) ?_
  cbv
  refine R.callD h (fun x2 hx2 h2 => ?_)
  clear h; have h := h2; clear h2
  refine R.call' (w10 _ _ _ hx2) (by (first | rfl | (simp only [D.happ, D.har, D.hcmp, D.hcv, D.hge0, D.hlen, D.hroom]; done) | (simp only [D.happ, D.har, D.hcmp, D.hcv, D.hge0, D.hlen, D.hroom]; rfl))) ?_
  clear hx2; cbv
  refine R.brD h (by (first | rfl | (simp only [D.happ, D.har, D.hcmp, D.hcv, D.hge0, D.hlen, D.hroom]; done) | (simp only [D.happ, D.har, D.hcmp, D.hcv, D.hge0, D.hlen, D.hroom]; rfl))) ?_ ?_ <;> clear h <;> intro h <;> cbv
  · have e := ret_some h; clear h
    refine hK _ _ ⟨rfl, ⟨?_, rfl, rfl, rfl, ?_⟩⟩ <;> cbv <;> (try (subst e; simp only [D.happ, D.har, D.hcmp, D.hcv, D.hge0, D.hlen, D.hroom, and_self, and_true, true_and] <;> (repeat' apply And.intro) <;> rfl))
  · refine R.cutB (fun p => p) (fun _ _ e => e) h [] (fun p9 => [(7, .row 127)]) (fun p9 => [(127, .row 5 p9)]) (by kernel_rfl) (by kernel_rfl) (fun y5 hy hFy5 L hLy5 => ?_) (fun p9 h2 => ?_)
    · clear h; have h := hy; clear hy; cbv
      refine R.loopD h (fun s0 y7 e0 hi hFs6 => ?_)
      clear h
      refine R.born' (e := te5) 7 127 5 rfl rfl (by kernel_rfl) (by decide) ?_
      refine R.loopI hi [] (fun s6 => [(1, .i .i64 s6.1), (7, .row 127), (15, .i .i64 s6.2.1)]) (fun s6 => [(127, .row 5 s6.2.2)]) ⟨rfl, ?_, ?_, rfl, rfl⟩ (by kernel_rfl) ?_
      · cbv; try (subst e0; simp only [D.happ, D.har, D.hcmp, D.hcv, D.hge0, D.hlen, D.hroom, and_self, and_true, true_and] <;> (repeat' apply And.intro) <;> rfl)
      · cbv; try (subst e0; simp only [D.happ, D.har, D.hcmp, D.hcv, D.hge0, D.hlen, D.hroom, and_self, and_true, true_and] <;> (repeat' apply And.intro) <;> rfl)
      clear hi e0
      intro s6 m y' hy hins6 houts6 L hLs6
      have h := hy; clear hy; unfold d20_b1 at h
      cbv
      refine R.cut' (by kernel_rfl) (by kernel_rfl) ?_
      cbv
      refine R.brD h (by (first | rfl | (simp only [D.happ, D.har, D.hcmp, D.hcv, D.hge0, D.hlen, D.hroom]; done) | (simp only [D.happ, D.har, D.hcmp, D.hcv, D.hge0, D.hlen, D.hroom]; rfl))) ?_ ?_ <;> clear h <;> intro h <;> cbv
      · refine R.cut' (by kernel_rfl) (by kernel_rfl) ?_
        cbv
        refine R.needD h (by (first | rfl | (simp only [D.happ, D.har, D.hcmp, D.hcv, D.hge0, D.hlen, D.hroom]; done) | (simp only [D.happ, D.har, D.hcmp, D.hcv, D.hge0, D.hlen, D.hroom]; rfl))) ?_
        clear h; intro h; cbv
        refine R.needD h (by (first | rfl | (simp only [D.happ, D.har, D.hcmp, D.hcv, D.hge0, D.hlen, D.hroom]; done) | (simp only [D.happ, D.har, D.hcmp, D.hcv, D.hge0, D.hlen, D.hroom]; rfl))) ?_
        clear h; intro h; cbv
        obtain ⟨s', e, hi⟩ := inl_some h hins6
        refine hLs6 s' _ _ hi ⟨rfl, ?_, ?_, rfl, rfl⟩ <;> cbv <;> (try (subst e; simp only [D.happ, D.har, D.hcmp, D.hcv, D.hge0, D.hlen, D.hroom, and_self, and_true, true_and] <;> (repeat' apply And.intro) <;> rfl))
      · have e := inr_some h houts6; clear h
        have h := hFs6; rw [e] at h; clear e; try dsimp only at h
        cbv
        obtain ⟨s', e, hi⟩ := jn_some (fun p => p) h
        refine hLy5 s' _ _ hi ⟨rfl, ?_, ?_, rfl, rfl⟩ <;> cbv <;> (try (subst e; simp only [D.happ, D.har, D.hcmp, D.hcv, D.hge0, D.hlen, D.hroom, and_self, and_true, true_and] <;> (repeat' apply And.intro) <;> rfl))
    · clear h; have h := h2; clear h2; try dsimp only at h
      cbv
      have e := ret_some h; clear h
      refine hK _ _ ⟨rfl, ⟨?_, rfl, rfl, rfl, ?_⟩⟩ <;> cbv <;> (try (subst e; simp only [D.happ, D.har, D.hcmp, D.hcv, D.hge0, D.hlen, D.hroom, and_self, and_true, true_and] <;> (repeat' apply And.intro) <;> rfl))
theorem w20s (a0_0 : Int) (a0_1 : Bool) (a1 : Int) (r : List V × Int) (h : d20 a0_0 a0_1 a1 = some r) : Ab.Fn Try.prog TT 20 [.agg [.i .i64 a0_0, .b a0_1], .i .i64 a1] (.tup [.sl 5 r.1, .i .i64 r.2]) [] :=
  (w20 a0_0 a0_1 a1 r h).pure (by simp [ple, ple1, ple1L, pleL, pleS, Ab.look])

noncomputable def d21_b1 (a1 : List V) (s6 : Int × Int) : Option ((Int × Int) ⊕ (Int)) :=
  if (cmpLit .lss s6.2 (lenI a1)) = true then
    if (Inb s6.2 (lenI a1)) then
      if (Ge0 (arReal .mul .i64 8 s6.2)) then
        some (.inl ((arReal .or .u64 s6.1 (arReal .shl .u64 (wrapK .u64 (gI a1 s6.2 0)) (arReal .mul .i64 8 s6.2))), (arReal .add .i64 s6.2 1)))
      else none
    else none
  else
    some (.inr s6.1)
noncomputable def d21 (a0_0 : Int) (a0_1 : Bool) (a1 : List V) : Option (Int × Int) :=
  (d10 a0_0 a0_1).bind fun x2 =>
  if (cmpLit .neq x2 0) = true then
    some (0, x2)
  else
    if (cmpLit .neq (lenI a1) a0_0) = true then
      some (0, 1)
    else
      Option.bind (α := Int) (
        (iter (d21_b1 a1) (0, 0)).bind fun y7 =>
        some y7) fun y5 =>
      (d32 a0_0 a0_1 (wrapK .i64 y5)).bind fun x10 =>
      some (x10, 0)
noncomputable def w21_c : Code := (Try.f21.body).getD .skip
theorem w21_h : Try.f21.body = some w21_c := by kernel_rfl
theorem w21 (a0_0 : Int) (a0_1 : Bool) (a1 : List V) (r : Int × Int) (h : d21 a0_0 a0_1 a1 = some r) : Ab.Fn Try.prog TT 21 [.agg [.i .i64 a0_0, .b a0_1], .sl 5 a1] (.tup [.i .i64 r.1, .i .i64 r.2]) [] := by
  refine fn_pure tok W0 Try.func21 (by kernel_rfl) w21_h (by kernel_rfl) ?_
  intro ar un cv mn mx pl mi cmp nt beq an scmp cat slen sbyte ssub ofB toB len gi gb gs gl sub put app ovl rep ne0 ge0 inb bnd room sroom need br call loop cut nl E R K hK
  have D := E.D
  clear E
  unfold d21 at h
  cbv
  refine R.cut' (by kernel_rfl) (by kernel_rfl) ?_
  cbv
  refine R.callD h (fun x2 hx2 h2 => ?_)
  clear h; have h := h2; clear h2
  refine R.call' (w10 _ _ _ hx2) (by (first | rfl | (simp only [D.har, D.hcmp, D.hcv, D.hge0, D.hgi, D.hinb, D.hlen]; done) | (simp only [D.har, D.hcmp, D.hcv, D.hge0, D.hgi, D.hinb, D.hlen]; rfl))) ?_
  clear hx2; cbv
  refine R.brD h (by (first | rfl | (simp only [D.har, D.hcmp, D.hcv, D.hge0, D.hgi, D.hinb, D.hlen]; done) | (simp only [D.har, D.hcmp, D.hcv, D.hge0, D.hgi, D.hinb, D.hlen]; rfl))) ?_ ?_ <;> clear h <;> intro h <;> cbv
  · have e := ret_some h; clear h
    refine hK _ _ ?_
    cbv
    try (subst e; simp only [D.har, D.hcmp, D.hcv, D.hge0, D.hgi, D.hinb, D.hlen, and_self, and_true, true_and] <;> (repeat' apply And.intro) <;> rfl)
  · refine R.cut' (by kernel_rfl) (by kernel_rfl) ?_
    cbv
    refine R.brD h (by (first | rfl | (simp only [D.har, D.hcmp, D.hcv, D.hge0, D.hgi, D.hinb, D.hlen]; done) | (simp only [D.har, D.hcmp, D.hcv, D.hge0, D.hgi, D.hinb, D.hlen]; rfl))) ?_ ?_ <;> clear h <;> intro h <;> cbv
    · have e := ret_some h; clear h
      refine hK _ _ ?_
      cbv
      try (subst e; simp only [D.har, D.hcmp, D.hcv, D.hge0, D.hgi, D.hinb, D.hlen, and_self, and_true, true_and] <;> (repeat' apply And.intro) <;> rfl)
    · refine R.cutB (fun p => p) (fun _ _ e => e) h [] (fun p9 => [(7, .i .u64 p9)]) (fun p9 => []) (by kernel_rfl) (by kernel_rfl) (fun y5 hy hFy5 L hLy5 => ?_) (fun p9 h2 => ?_)
      · clear h; have h := hy; clear hy; cbv
        refine R.loopD h (fun s0 y7 e0 hi hFs6 => ?_)
        clear h
        refine R.loopI hi [] (fun s6 => [(7, .i .u64 s6.1), (22, .i .i64 s6.2)]) (fun s6 => []) ⟨rfl, ?_, ?_, rfl, rfl⟩ (by kernel_rfl) ?_
        · cbv; try (subst e0; simp only [D.har, D.hcmp, D.hcv, D.hge0, D.hgi, D.hinb, D.hlen, and_self, and_true, true_and] <;> (repeat' apply And.intro) <;> rfl)
        · cbv; try (subst e0; simp only [D.har, D.hcmp, D.hcv, D.hge0, D.hgi, D.hinb, D.hlen, and_self, and_true, true_and] <;> (repeat' apply And.intro) <;> rfl)
        clear hi e0
        intro s6 m y' hy hins6 houts6 L hLs6
        have h := hy; clear hy; unfold d21_b1 at h
        cbv
        refine R.cut' (by kernel_rfl) (by kernel_rfl) ?_
        cbv
        refine R.brD h (by (first | rfl | (simp only [D.har, D.hcmp, D.hcv, D.hge0, D.hgi, D.hinb, D.hlen]; done) | (simp only [D.har, D.hcmp, D.hcv, D.hge0, D.hgi, D.hinb, D.hlen]; rfl))) ?_ ?_ <;> clear h <;> intro h <;> cbv
        · refine R.cut' (by kernel_rfl) (by kernel_rfl) ?_
          cbv
          refine R.needD h (by (first | rfl | (simp only [D.har, D.hcmp, D.hcv, D.hge0, D.hgi, D.hinb, D.hlen]; done) | (simp only [D.har, D.hcmp, D.hcv, D.hge0, D.hgi, D.hinb, D.hlen]; rfl))) ?_
          clear h; intro h; cbv
          refine R.needD h (by (first | rfl | (simp only [D.har, D.hcmp, D.hcv, D.hge0, D.hgi, D.hinb, D.hlen]; done) | (simp only [D.har, D.hcmp, D.hcv, D.hge0, D.hgi, D.hinb, D.hlen]; rfl))) ?_
          clear h; intro h; cbv
          obtain ⟨s', e, hi⟩ := inl_some h hins6
          refine hLs6 s' _ _ hi ⟨rfl, ?_, ?_, rfl, rfl⟩ <;> cbv <;> (try (subst e; simp only [D.har, D.hcmp, D.hcv, D.hge0, D.hgi, D.hinb, D.hlen, and_self, and_true, true_and] <;> (repeat' apply And.intro) <;> rfl))
        · have e := inr_some h houts6; clear h
          have h := hFs6; rw [e] at h; clear e; try dsimp only at h
          cbv
          obtain ⟨s', e, hi⟩ := jn_some (fun p => p) h
          refine hLy5 s' _ _ hi ⟨rfl, ?_, ?_, rfl, rfl⟩ <;> cbv <;> (try (subst e; simp only [D.har, D.hcmp, D.hcv, D.hge0, D.hgi, D.hinb, D.hlen, and_self, and_true, true_and] <;> (repeat' apply And.intro) <;> rfl))
      · clear h; have h := h2; clear h2; try dsimp only at h
        cbv
        refine R.callD h (fun x10 hx10 h2 => ?_)
        clear h; have h := h2; clear h2
        refine R.call' (w32 _ _ _ _ hx10) (by (first | rfl | (simp only [D.har, D.hcmp, D.hcv, D.hge0, D.hgi, D.hinb, D.hlen]; done) | (simp only [D.har, D.hcmp, D.hcv, D.hge0, D.hgi, D.hinb, D.hlen]; rfl))) ?_
        clear hx10; cbv
        have e := ret_some h; clear h
        refine hK _ _ ?_
        cbv
        try (subst e; simp only [D.har, D.hcmp, D.hcv, D.hge0, D.hgi, D.hinb, D.hlen, and_self, and_true, true_and] <;> (repeat' apply And.intro) <;> rfl)
end Go.Proofs.Ytjcabmhnekcbgaa
end
section
namespace Go.Proofs.Ytjcabmhnekcbgaa
open Go.Ab Go.RowKit Go.Proofs.Ytjcabmhnekcbgaa.G
def u8s (l : List Int) : List V := l.map fun n => V.i .u8 n
/-- The lowest bytes of a number. -/
def leN : Nat → Int → List Int
  | 0, _ => []
  | n + 1, v => v % 256 :: leN n (v / 256)
def leV : List Int → Int
  | [] => 0
  | c :: r => c + 256 * leV r
theorem leN_len : ∀ (n : Nat) (v : Int), (leN n v).length = n
  | 0, _ => rfl
  | n + 1, v => by simp [leN, leN_len n]
theorem leN_bs : ∀ (n : Nat) (v : Int), Bs (leN n v)
  | 0, _ => by intro x hx; cases hx
  | n + 1, v => by
    intro x hx
    rcases List.mem_cons.1 hx with rfl | hx
    · omega
    · exact leN_bs n _ x hx
theorem leN_leV : ∀ {l : List Int}, Bs l → leN l.length (leV l) = l
  | [], _ => rfl
  | c :: r, h => by
    have hc := h c (by simp)
    have hr : Bs r := fun x hx => h x (by simp [hx])
    simp only [leV, List.length_cons, leN]
    have e1 : (c + 256 * leV r) % 256 = c := by omega
    have e2 : (c + 256 * leV r) / 256 = leV r := by omega
    rw [e1, e2, leN_leV hr]
theorem leV_leN {z : Int} (h : OkZ z) (v : Int) : leV (leN z.toNat v) = v % md z := by
  rcases h with rfl | rfl | rfl | rfl
  · show v % 256 + 256 * 0 = v % 256; omega
  · show v % 256 + 256 * (v / 256 % 256 + 256 * 0) = v % 65536; omega
  · show v % 256 + 256 * (v / 256 % 256 + 256 * (v / 256 / 256 % 256 + 256 * (v / 256 / 256 / 256 % 256 + 256 * 0))) = v % 4294967296; omega
  · show v % 256 + 256 * (v / 256 % 256 + 256 * (v / 256 / 256 % 256 + 256 * (v / 256 / 256 / 256 % 256 + 256 * (v / 256 / 256 / 256 / 256 % 256 + 256 * (v / 256 / 256 / 256 / 256 / 256 % 256 + 256 * (v / 256 / 256 / 256 / 256 / 256 / 256 % 256 + 256 * (v / 256 / 256 / 256 / 256 / 256 / 256 / 256 % 256 + 256 * 0))))))) = v % 18446744073709551616; omega
theorem leN_congr {z : Int} (h : OkZ z) {v u : Int} (e : v % md z = u % md z) : leN z.toNat v = leN z.toNat u := by
  have h1 := leN_leV (leN_bs z.toNat v)
  have h2 := leN_leV (leN_bs z.toNat u)
  rw [leV_leN h, leN_len] at h1 h2
  rw [← h1, ← h2, e]
theorem lenI_u8s (l : List Int) : lenI (u8s l) = l.length := by simp [lenI, u8s]
theorem gI_u8s (l : List Int) (i : Nat) (h : i < l.length) : gI (u8s l) i 0 = l[i] := by
  simp [gI, u8s, elAt, cellAt, h, Ab.asInt]
theorem okz_le {z : Int} (h : OkZ z) : 1 ≤ z ∧ z ≤ 8 := by rcases h with rfl | rfl | rfl | rfl <;> decide
theorem ar_shr8 (v : Int) : arReal .shr .i64 v 8 = v / 256 := by
  show v.fdiv (2 ^ (min (8 : Int).toNat 64)) = _
  rw [Int.fdiv_eq_ediv_of_nonneg]
  · rfl
  · decide
theorem ar_addi {a b : Int} (h : I64 (a + b)) : arReal .add .i64 a b = a + b := wk_id h
theorem ar_muli {a b : Int} (h : I64 (a * b)) : arReal .mul .i64 a b = a * b := wk_id h
theorem s20_it {z : Int} (hz : OkZ z) (v : Int) : iter (d20_b1 z) (v, 0, []) = some (u8s (leN z.toNat v)) := by
  have hz8 := okz_le hz
  refine (iter_fun (fun s : Int × Int × List V => 0 ≤ s.2.1 ∧ s.2.1 ≤ z ∧ lenI s.2.2 = s.2.1) (fun s => (z - s.2.1).toNat) (fun s => s.2.2 ++ u8s (leN (z - s.2.1).toNat s.1)) (fun s hs => ?_) (v, 0, []) ⟨by simp, by simp; omega, rfl⟩).trans (by simp)
  obtain ⟨w, i, l⟩ := s
  obtain ⟨h0, h1, h2⟩ := hs
  simp only at h0 h1 h2 ⊢
  unfold d20_b1
  simp only [c_lss, decide_eq_true_eq]
  by_cases hl : i < z
  · have hlen : lenI (appL l [V.i .u8 (wrapK .u8 w)]) = i + 1 := by rw [← h2]; simp [lenI, appL]
    have hR : Room (lenI (appL l [V.i .u8 (wrapK .u8 w)])) 1 := by rw [hlen]; exact ⟨by omega, by omega⟩
    have hg : Ge0 8 := by decide
    rw [if_pos hl, if_pos hR, if_pos hg, ar_shr8, ar_addi (by unfold I64; omega)]
    refine .inl ⟨_, rfl, ⟨by simp only []; omega, by simp only []; omega, hlen⟩, by simp only []; omega, ?_⟩
    obtain ⟨k, hk⟩ : ∃ k : Nat, (z - i).toNat = k + 1 := ⟨(z - i).toNat - 1, by omega⟩
    have hk2 : (z - (i + 1)).toNat = k := by omega
    simp only [hk, hk2, leN, wk_u8]
    simp [appL, u8s]
  · rw [if_neg hl]
    have : (z - i).toNat = 0 := by omega
    rw [this]
    exact .inr (by simp [leN, u8s])
theorem s20 {z : Int} (b : Bool) (v : Int) (h : OkZ z) : d20 z b v = some (u8s (leN z.toNat v), 0) := by
  unfold d20
  rw [s10, if_pos h]
  simp only [Option.bind_some, c_neq, s20_it h v]
  rfl
/-- Bytes put one above the other, by 'or'. -/
theorem or_shl {a c : Int} {i : Nat} (hi : i ≤ 7) (ha : 0 ≤ a) (h : a < 2 ^ (8 * i)) (hc : 0 ≤ c ∧ c < 256) :
    arReal .or .u64 a (arReal .shl .u64 (wrapK .u64 c) (8 * (i : Int))) = a + c * 2 ^ (8 * i) := by
  have e1 : arReal .shl .u64 (wrapK .u64 c) (8 * (i : Int)) = c * 2 ^ (8 * i) := by
    show wrapK .u64 (wrapK .u64 c * 2 ^ (min (8 * (i : Int)).toNat 64)) = _
    have : min (8 * (i : Int)).toNat 64 = 8 * i := by omega
    rw [this, wk_u64, wk_u64]
    have hc2 : c % 18446744073709551616 = c := by omega
    rw [hc2]
    obtain rfl | rfl | rfl | rfl | rfl | rfl | rfl | rfl : i = 0 ∨ i = 1 ∨ i = 2 ∨ i = 3 ∨ i = 4 ∨ i = 5 ∨ i = 6 ∨ i = 7 := by omega
    all_goals (simp only [Nat.mul_zero, Nat.mul_one, Nat.reduceMul, Int.reducePow]; omega)
  rw [e1]
  show wrapK .u64 ((BitVec.ofInt 64 a ||| BitVec.ofInt 64 (c * 2 ^ (8 * i))).toNat : Nat) = _
  have hp : (2 : Int) ^ (8 * i) = ((2 ^ (8 * i) : Nat) : Int) := by simp
  have hb : a + c * 2 ^ (8 * i) < 18446744073709551616 ∧ a < 18446744073709551616 ∧ 0 ≤ c * 2 ^ (8 * i) ∧ c * 2 ^ (8 * i) < 18446744073709551616 := by
    obtain rfl | rfl | rfl | rfl | rfl | rfl | rfl | rfl : i = 0 ∨ i = 1 ∨ i = 2 ∨ i = 3 ∨ i = 4 ∨ i = 5 ∨ i = 6 ∨ i = 7 := by omega
    all_goals (simp only [Nat.mul_zero, Nat.mul_one, Nat.reduceMul, Int.reducePow] at h ⊢; omega)
  rw [wk_u64, BitVec.toNat_or, bv_nat, bv_nat]
  have e2 : a % 18446744073709551616 = a := by omega
  have e3 : c * 2 ^ (8 * i) % 18446744073709551616 = c * 2 ^ (8 * i) := by omega
  rw [e2, e3]
  obtain ⟨m, rfl⟩ := Int.eq_ofNat_of_zero_le ha
  obtain ⟨k, rfl⟩ := Int.eq_ofNat_of_zero_le hc.1
  rw [hp] at h hb ⊢
  have e4 : ((k : Int) * ((2 ^ (8 * i) : Nat) : Int)).toNat = 2 ^ (8 * i) * k := by
    rw [← Int.natCast_mul, Int.toNat_natCast, Nat.mul_comm]
  have e5 : m < 2 ^ (8 * i) := by exact_mod_cast h
  rw [e4, Int.toNat_natCast, Nat.or_comm, ← Nat.two_pow_add_eq_or_of_lt e5]
  have e6 : ((2 ^ (8 * i) * k + m : Nat) : Int) = m + k * ((2 ^ (8 * i) : Nat) : Int) := by
    rw [Int.natCast_add, Int.natCast_mul, Int.mul_comm, Int.add_comm]
  rw [e6]
  omega
theorem leV_app : ∀ (l m : List Int), leV (l ++ m) = leV l + 2 ^ (8 * l.length) * leV m
  | [], m => by simp [leV]
  | c :: r, m => by
    simp only [List.cons_append, leV, leV_app r m, List.length_cons]
    have : (2 : Int) ^ (8 * (r.length + 1)) = 256 * 2 ^ (8 * r.length) := by
      rw [Nat.mul_add, Nat.mul_one, Int.pow_add, Int.mul_comm]; rfl
    rw [this, Int.mul_add, Int.add_assoc, Int.mul_assoc]
theorem leV_lt : ∀ {l : List Int}, Bs l → 0 ≤ leV l ∧ leV l < 2 ^ (8 * l.length)
  | [], _ => by simp [leV]
  | c :: r, h => by
    have hc := h c (by simp)
    have hr := leV_lt (l := r) fun x hx => h x (by simp [hx])
    have : (2 : Int) ^ (8 * (r.length + 1)) = 256 * 2 ^ (8 * r.length) := by
      rw [Nat.mul_add, Nat.mul_one, Int.pow_add, Int.mul_comm]; rfl
    simp only [leV, List.length_cons, this]
    omega
theorem s21_it {l : List Int} (hl : Bs l) (hn : l.length ≤ 8) : iter (d21_b1 (u8s l)) (0, 0) = some (leV l) := by
  refine iter_fun (fun s : Int × Int => 0 ≤ s.2 ∧ s.2 ≤ l.length ∧ s.1 = leV (l.take s.2.toNat)) (fun s => ((l.length : Int) - s.2).toNat) (fun _ => leV l) (fun s hs => ?_) (0, 0) ⟨by simp, by simp, by simp [leV]⟩
  obtain ⟨a, i⟩ := s
  obtain ⟨h0, h1, h2⟩ := hs
  simp only at h0 h1 h2 ⊢
  obtain ⟨j, rfl⟩ := Int.eq_ofNat_of_zero_le h0
  rw [Int.toNat_natCast] at h2
  unfold d21_b1
  simp only [c_lss, decide_eq_true_eq, lenI_u8s]
  by_cases hlt : j < l.length
  · have hg : Ge0 (8 * (j : Int)) := by show (0 : Int) ≤ _; omega
    have hI : Inb (j : Int) (l.length : Int) := ⟨by omega, by omega⟩
    have hc := hl l[j] (List.getElem_mem hlt)
    have ht : Bs (l.take j) := fun x hx => hl x (List.mem_of_mem_take hx)
    have hlen : (l.take j).length = j := by simp; omega
    have hv := leV_lt ht
    rw [hlen] at hv
    rw [if_pos (by omega), if_pos hI, ar_muli (by unfold I64; omega), if_pos hg, gI_u8s l j hlt, h2, or_shl (by omega) hv.1 hv.2 hc, ar_addi (by unfold I64; omega)]
    refine .inl ⟨_, rfl, ⟨by simp only []; omega, by simp only []; omega, ?_⟩, by simp only []; omega, trivial⟩
    have e : ((j : Int) + 1).toNat = j + 1 := by omega
    simp only [e]
    rw [List.take_succ_eq_append_getElem hlt, leV_app, hlen]
    simp only [leV]
    rw [Int.mul_zero, Int.add_zero, Int.mul_comm]
  · have : j = l.length := by omega
    rw [if_neg (by omega), h2, this, List.take_length]
    exact .inr rfl
theorem s21 {z : Int} (b : Bool) {l : List Int} (h : OkZ z) (hl : Bs l) : d21 z b (u8s l) = some (if (l.length : Int) = z then (wT z b (leV l), 0) else (0, 1)) := by
  have hz8 := okz_le h
  unfold d21
  rw [s10, if_pos h]
  simp only [Option.bind_some, c_neq, lenI_u8s]
  by_cases k : (l.length : Int) = z
  · rw [s21_it hl (by omega)]
    have e : wT z b (wrapK .i64 (leV l)) = wT z b (leV l) := wT_congr h b (mod_64 h (wk_mod _))
    simp only [Option.bind_some, s32 b h (wk_in _), e]
    simp [k]
  · simp [k]
theorem strBytes_nb (s : ByteArray) : strBytes s = u8s (nb s) := by simp [strBytes, u8s, nb]
theorem toBy_u8s (l : List Int) : toBy (u8s l) = strOfNums l := by simp [toBy, u8s, strOfNums, Ab.asInt, Function.comp_def]
end Go.Proofs.Ytjcabmhnekcbgaa
end
section
namespace Go.Proofs.Ytjcabmhnekcbgaa
open Go.Ab Go.RowKit 
set_option maxRecDepth 100000
set_option maxHeartbeats 4000000
end Go.Proofs.Ytjcabmhnekcbgaa
end
