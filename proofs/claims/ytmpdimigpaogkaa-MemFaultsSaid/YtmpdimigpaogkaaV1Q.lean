/- A text of the proof of MemFaults: what of it that proof uses. No statement of its own. -/
import Derived.Test.YtmpdimigpaogkaaV1Mx6
import Derived.Test.YtmpdimigpaogkaaV1Mx7
namespace Go.Proofs.Ytmpdimigpaogkaa.Q
open Go.RowKit Go.Proofs.Ytmpdimigpaogkaa.M Go.Proofs.Ytmpdimigpaogkaa.G Go.Proofs.YtmpdimigpaogkaaW.PrintWords Go.Proofs.YtmpdimigpaogkaaW.PrintLast
set_option linter.unusedVariables false
set_option linter.unusedSimpArgs false
set_option maxRecDepth 100000 in
theorem sane_ok : taplinelaw03_sane.f 60 = some true := by decide +kernel
theorem sane_at (k : Nat) (h : 60 ≤ k) : taplinelaw03_sane.f k = some true := by
  obtain ⟨d, rfl⟩ : ∃ d, k = 60 + d := ⟨k - 60, by omega⟩
  clear h
  induction d with
  | zero => exact sane_ok
  | succ d ih => exact taplinelaw03_sane.mono (60 + d) _ ih
theorem need1_kind {P : List Int} {len a perm : Int} {f : Int × Int} (hp : perm = 0 ∨ perm = 1 ∨ perm = 2 ∨ perm = 4) (h : need1 P len a perm = some f) : f.1 ≠ 0 := by
  unfold need1 at h
  split at h
  · split at h
    · cases h
    · rename_i hne
      cases h
      rcases hp with rfl | rfl | rfl | rfl
      · exact absurd (by simp [Go.bits]; decide) hne
      all_goals simp [kindOf]
  · cases h; show (1 : Int) ≠ 0; decide
theorem needs_kind {P : List Int} {len a perm : Int} {f : Int × Int} (hp : perm = 0 ∨ perm = 1 ∨ perm = 2 ∨ perm = 4) : ∀ m i, needs P len a perm m i = some f → f.1 ≠ 0
  | 0, _, h => by cases h
  | m + 1, i, h => by
    unfold needs at h
    split at h
    · rename_i f' hf
      cases h
      exact need1_kind hp hf
    · exact needs_kind hp m _ h
theorem needs_none {P : List Int} {len a perm : Int} : ∀ m i, needs P len a perm m i = none → ∀ j : Nat, j < m → need1 P len (wrap64 (a + (i + j))) perm = none
  | 0, _, _, j, hj => by omega
  | m + 1, i, h, j, hj => by
    unfold needs at h
    split at h
    · cases h
    · rename_i hn
      cases j with
      | zero => simpa using hn
      | succ j =>
        have := needs_none m _ h j (by omega)
        rw [show i + ((j + 1 : Nat) : Int) = i + 1 + (j : Int) from by omega]
        exact this
theorem wf64 {a : Int} (h : (Lit.int .i64 a).wf = true) : -9223372036854775808 ≤ a ∧ a ≤ 9223372036854775807 := by
  simp only [Lit.wf, Bool.and_eq_true, decide_eq_true_eq] at h
  have h1 : IntKind.i64.min = -9223372036854775808 := by decide
  have h2 : IntKind.i64.max = 9223372036854775807 := by decide
  omega
theorem need1_range {P : List Int} {len a perm : Int} (h : need1 P len a perm = none) : 0 ≤ a ∧ a < len := by
  unfold need1 at h
  split at h
  · assumption
  · cases h
theorem needs_range {P : List Int} {len a perm : Int} {m : Nat} (ha : -9223372036854775808 ≤ a ∧ a ≤ 9223372036854775807) (hl : len ≤ 2048) (hm : 0 < m) (hm2 : m ≤ 4000) (h : needs P len a perm m 0 = none) : 0 ≤ a ∧ a + m ≤ len := by
  have h0 := need1_range (needs_none m 0 h 0 hm)
  have h1 := need1_range (needs_none m 0 h (m - 1) (by omega))
  unfold wrap64 at h0 h1
  omega
theorem check_two (P B : List Int) : (checkV P B = 0 ∧ P.length ≤ 32 ∧ B.length = 64 * P.length ∧ P.all permOk = true) ∨ checkV P B = 30 := by
  unfold checkV
  split
  · rename_i h; exact .inl ⟨rfl, h⟩
  · exact .inr rfl
theorem faults_at {P B : List Int} (hl : B.length = 64 * P.length) (a n perm : Int) (hn : n ≤ 9223372036854775807) : mem_faults.f P B a n perm = some ((needs P B.length a perm n.toNat 0).getD (0, 0)) := by
  unfold mem_faults.f
  rw [if_pos ⟨by omega, hn⟩]
theorem ty_cases {s : Int} (h : tyOk s = true) : s = 1 ∨ s = 2 ∨ s = 4 ∨ s = 8 := by
  simp only [tyOk, Bool.or_eq_true, beq_iff_eq] at h
  omega
/-- bits.FromBytes of as many bytes as the type has. -/
theorem from_loop (l : List Int) (s : Int) (g : Bool) (h : tyOk s = true) (hl : l.length ≤ 8) : ∀ d i k x, i + d = l.length → d < k → ∃ v, bits_FromBytes.l0 k x l l.length i s g = some (v, 0)
  | 0, i, k, x, hi, hk => by
    obtain ⟨k, rfl⟩ : ∃ m, k = m + 1 := ⟨k - 1, by omega⟩
    simp only [bits_FromBytes.l0]
    rw [if_neg (by omega)]
    unfold bits_wrap.f
    rw [if_pos h]
    exact ⟨_, rfl⟩
  | d + 1, i, k, x, hi, hk => by
    obtain ⟨k, rfl⟩ : ∃ m, k = m + 1 := ⟨k - 1, by omega⟩
    simp only [bits_FromBytes.l0]
    have hw : wrap64 (8 * (i : Int)) = 8 * i := by unfold wrap64; omega
    have hw2 : wrap64 ((i : Int) + 1) = ((i + 1 : Nat) : Int) := by unfold wrap64; omega
    rw [if_pos (by omega), if_pos (by omega), if_pos (by omega), if_pos (by rw [hw]; omega), hw2]
    exact from_loop l s g h hl d (i + 1) k _ (by omega) (by omega)
theorem from_ok (k : Nat) (hk : 20 ≤ k) (l : List Int) (s : Int) (g : Bool) (h : tyOk s = true) (hl : (l.length : Int) = s) : ∃ v, bits_FromBytes.f k s g l = some (v, 0) := by
  have h8 : l.length ≤ 8 := by rcases ty_cases h with rfl | rfl | rfl | rfl <;> omega
  obtain ⟨v, hv⟩ := from_loop l s g h h8 l.length 0 k 0 (by omega) (by omega)
  refine ⟨v, ?_⟩
  unfold bits_FromBytes.f bits_Check.f
  simp only [h, if_true, Option.bind_some]
  rw [if_pos hl]
  exact hv
def leBytes : Nat → Int → List Int
  | 0, _ => []
  | n + 1, v => v % 256 :: leBytes n (v / 256)
theorem leBytes_length : ∀ n v, (leBytes n v).length = n
  | 0, _ => rfl
  | n + 1, v => by simp [leBytes, leBytes_length n]
theorem bytes_loop : ∀ d (i n k : Nat) v acc, i + d = n → n ≤ 8 → d < k → acc.length ≤ 100 + i → bits_Bytes.l0 k v acc n i = some (acc ++ leBytes d v, 0)
  | 0, i, n, k, v, acc, hi, hn, hk, ha => by
    obtain ⟨k, rfl⟩ : ∃ m, k = m + 1 := ⟨k - 1, by omega⟩
    simp only [bits_Bytes.l0]
    rw [if_neg (by omega)]
    simp [leBytes]
  | d + 1, i, n, k, v, acc, hi, hn, hk, ha => by
    obtain ⟨k, rfl⟩ : ∃ m, k = m + 1 := ⟨k - 1, by omega⟩
    simp only [bits_Bytes.l0]
    have hw2 : wrap64 ((i : Int) + 1) = ((i + 1 : Nat) : Int) := by unfold wrap64; omega
    rw [if_pos (by omega), if_pos (by omega), hw2, bytes_loop d (i + 1) n k _ _ (by omega) hn (by omega) (by simp; omega)]
    simp [leBytes]
theorem bytes_ok (k : Nat) (hk : 20 ≤ k) (s : Int) (g : Bool) (v : Int) (h : tyOk s = true) : bits_Bytes.f k s g v = some (leBytes s.toNat v, 0) := by
  have hs : ((s.toNat : Nat) : Int) = s := by rcases ty_cases h with rfl | rfl | rfl | rfl <;> rfl
  have h8 : s.toNat ≤ 8 := by rcases ty_cases h with rfl | rfl | rfl | rfl <;> decide
  unfold bits_Bytes.f bits_Check.f
  simp only [h, if_true, Option.bind_some]
  have := bytes_loop s.toNat 0 s.toNat k v [] (by omega) h8 (by omega) (by simp)
  rw [hs] at this
  simpa using this
theorem copied_at {P B : List Int} (hp : P.length ≤ 32) (hl : B.length = 64 * P.length) : mem_copied.f P B = some (P, B) := by
  unfold mem_copied.f
  rw [if_pos ⟨hp, hl⟩]
end Go.Proofs.Ytmpdimigpaogkaa.Q
