/- The pure statement of MemDiffs: what the printed function answers is true, for all lists of its kinds. Conditions: none. -/
import Derived.Test.YtmpdimigpaogkaaV9Q
import Derived.Test.YtmpdimigpaogkaaV9SMemDiffs
namespace Go.Proofs.Ytmpdimigpaogkaa
open Go.RowKit Go.Proofs.Ytmpdimigpaogkaa.M Go.Proofs.Ytmpdimigpaogkaa.G Go.Proofs.Ytmpdimigpaogkaa.Q Go.Proofs.YtmpdimigpaogkaaW.PrintWords Go.Proofs.YtmpdimigpaogkaaW.PrintLast
set_option linter.unusedVariables false
set_option linter.unusedSimpArgs false
namespace MemDiffs
theorem wr1 {i : Nat} (h : i ≤ 100000) : wrap64 ((i : Int) + 1) = ((i + 1 : Nat) : Int) := by unfold wrap64; omega
theorem permitted_at (p : Int) : taplineref03_permitted.f p = some (permOk p) := by
  unfold taplineref03_permitted.f permOk
  by_cases h0 : p = 0
  · simp [h0]
  · by_cases h1 : p = 1
    · simp [h1]
    · by_cases h3 : p = 3
      · simp [h3]
      · simp [h0, h1, h3]
theorem rd_drop {l : List Int} {i : Nat} (h : i < l.length) : l.drop i = rd l i :: l.drop (i + 1) := by
  rw [List.drop_eq_getElem_cons h]
  simp [rd, List.getD_eq_getElem?_getD, h]
theorem check_loop (P B : List Int) (hP : P.length ≤ 32) : ∀ d i k, i + d = P.length → d < k → taplineref03_Check.l0 k i P B = some (if (P.drop i).all permOk = true then 0 else 30)
  | 0, i, k, hi, hk => by
    obtain ⟨k, rfl⟩ : ∃ m, k = m + 1 := ⟨k - 1, by omega⟩
    simp only [taplineref03_Check.l0]
    rw [if_neg (by omega), List.drop_of_length_le (by omega)]
    rfl
  | d + 1, i, k, hi, hk => by
    obtain ⟨k, rfl⟩ : ∃ m, k = m + 1 := ⟨k - 1, by omega⟩
    simp only [taplineref03_Check.l0]
    rw [if_pos (by omega), if_pos (by omega), permitted_at, wr1 (by omega), rd_drop (by omega : i < P.length)]
    simp only [Option.bind_some, List.all_cons]
    by_cases hp : permOk (rd P i) = true
    · rw [if_pos hp, check_loop P B hP d (i + 1) k (by omega) (by omega)]; simp [hp]
    · rw [if_neg hp]; simp [hp]
theorem refcheck (P B : List Int) (k : Nat) (hk : 40 ≤ k) : taplineref03_Check.f k P B = some (checkV P B) := by
  obtain ⟨k, rfl⟩ : ∃ m, k = m + 1 := ⟨k - 1, by omega⟩
  unfold taplineref03_Check.f checkV
  by_cases h : (P.length : Int) > 32
  · rw [if_pos h, if_neg (by omega)]
    simp [taplineref03_Check.j0]
  · rw [if_neg h, show wrap64 ((P.length : Int) * 64) = 64 * P.length from by unfold wrap64; omega]
    simp only [taplineref03_Check.j0]
    by_cases h2 : B.length = 64 * P.length
    · rw [if_neg (by simp; omega), show (0 : Int) = ((0 : Nat) : Int) from rfl, check_loop P B (by omega) P.length 0 k (by omega) (by omega)]
      have h32 : P.length ≤ 32 := by omega
      by_cases h3 : P.all permOk = true
      · simp [h3, h2, h32]
      · simp [h3, h2]
    · rw [if_pos (by simp; omega), if_neg (fun q => h2 q.2.1)]
theorem eq_loop (a b : List Int) (hl : a.length = b.length) (ha : a.length ≤ 2048) : ∀ d i k, i + d = a.length → d < k → slices_Equal_int_int.l0 k a b a.length i = some (decide (a.drop i = b.drop i))
  | 0, i, k, hi, hk => by
    obtain ⟨k, rfl⟩ : ∃ m, k = m + 1 := ⟨k - 1, by omega⟩
    simp only [slices_Equal_int_int.l0]
    rw [if_neg (by omega), List.drop_of_length_le (by omega), List.drop_of_length_le (by omega)]
    rfl
  | d + 1, i, k, hi, hk => by
    obtain ⟨k, rfl⟩ : ∃ m, k = m + 1 := ⟨k - 1, by omega⟩
    simp only [slices_Equal_int_int.l0]
    rw [if_pos (by omega), if_pos (by omega), if_pos (by omega), if_pos (by omega), wr1 (by omega), rd_drop (by omega : i < a.length), rd_drop (by omega : i < b.length)]
    by_cases h : rd a i = rd b i
    · rw [if_pos h, eq_loop a b hl ha d (i + 1) k (by omega) (by omega)]
      simp [h]
    · rw [if_neg h]; simp [h]
theorem eq_at (a b : List Int) (ha : a.length ≤ 2048) (k : Nat) (hk : 2060 ≤ k) : slices_Equal_int_int.f k a b = some (decide (a = b)) := by
  unfold slices_Equal_int_int.f
  by_cases h : a.length = b.length
  · rw [if_pos (by omega)]
    have := eq_loop a b h ha a.length 0 k (by omega) (by omega)
    simpa using this
  · rw [if_neg (by omega)]
    have : a ≠ b := fun e => h (by rw [e])
    simp [this]
theorem perm_loop (a x b y : List Int) (hl : a.length = b.length) (ha : a.length ≤ 2048) : ∀ d i k, i + d = a.length → d < k → taplineref03_SamePerm.l0 k i a x b y = some (decide (a.drop i = b.drop i))
  | 0, i, k, hi, hk => by
    obtain ⟨k, rfl⟩ : ∃ m, k = m + 1 := ⟨k - 1, by omega⟩
    simp only [taplineref03_SamePerm.l0]
    rw [if_neg (by omega), List.drop_of_length_le (by omega), List.drop_of_length_le (by omega)]
    rfl
  | d + 1, i, k, hi, hk => by
    obtain ⟨k, rfl⟩ : ∃ m, k = m + 1 := ⟨k - 1, by omega⟩
    simp only [taplineref03_SamePerm.l0]
    rw [if_pos (by omega), if_pos (by omega), if_pos (by omega), wr1 (by omega), rd_drop (by omega : i < a.length), rd_drop (by omega : i < b.length)]
    by_cases h : rd a i = rd b i
    · rw [if_pos h, perm_loop a x b y hl ha d (i + 1) k (by omega) (by omega)]
      simp [h]
    · rw [if_neg h]; simp [h]
theorem perm_at (a x b y : List Int) (ha : a.length ≤ 2048) (k : Nat) (hk : 2060 ≤ k) : taplineref03_SamePerm.f k a x b y = some (decide (a = b)) := by
  unfold taplineref03_SamePerm.f
  by_cases h : a.length = b.length
  · rw [if_pos (by omega)]
    have := perm_loop a x b y h ha a.length 0 k (by omega) (by omega)
    simpa using this
  · rw [if_neg (by omega)]
    have : a ≠ b := fun e => h (by rw [e])
    simp [this]
/-- the differences from number i on. -/
def df (B C : List Int) : Nat → Nat → List S94 → List S94
  | 0, _, acc => acc
  | d + 1, i, acc => if rd B i = rd C i then df B C d (i + 1) acc else df B C d (i + 1) (acc ++ [⟨i, rd B i, rd C i⟩])
theorem df_length (B C : List Int) : ∀ d i acc, (df B C d i acc).length ≤ acc.length + d
  | 0, _, _ => by simp [df]
  | d + 1, i, acc => by
    unfold df
    split
    · have := df_length B C d (i + 1) acc; omega
    · have := df_length B C d (i + 1) (acc ++ [⟨i, rd B i, rd C i⟩]); simp at this; omega
theorem ml1 (B C P : List Int) (hl : B.length = C.length) (hB : B.length ≤ 2048) : ∀ d i k acc, i + d = B.length → d < k → acc.length ≤ i → mem_Diff.l1 k acc B B.length i P C = some (df B C d i acc, 0)
  | 0, i, k, acc, hi, hk, ha => by
    obtain ⟨k, rfl⟩ : ∃ m, k = m + 1 := ⟨k - 1, by omega⟩
    simp only [mem_Diff.l1]
    rw [if_neg (by omega)]
    rfl
  | d + 1, i, k, acc, hi, hk, ha => by
    obtain ⟨k, rfl⟩ : ∃ m, k = m + 1 := ⟨k - 1, by omega⟩
    simp only [mem_Diff.l1, df]
    rw [if_pos (by omega), if_pos (by omega), if_pos (by omega), if_pos (by omega), wr1 (by omega)]
    by_cases h : rd B i = rd C i
    · rw [if_pos h, if_pos h]; exact ml1 B C P hl hB d (i + 1) k acc (by omega) (by omega) (by omega)
    · rw [if_neg h, if_neg h, if_pos (by omega)]; exact ml1 B C P hl hB d (i + 1) k _ (by omega) (by omega) (by simp; omega)
theorem rl0 (P B Q C : List Int) (hl : B.length = C.length) (hB : B.length ≤ 2048) : ∀ d i k acc, i + d = B.length → d < k → acc.length ≤ i → taplineref03_Diff.l0 k acc i P B Q C = some (df B C d i acc, 0)
  | 0, i, k, acc, hi, hk, ha => by
    obtain ⟨k, rfl⟩ : ∃ m, k = m + 1 := ⟨k - 1, by omega⟩
    simp only [taplineref03_Diff.l0]
    rw [if_neg (by omega)]
    rfl
  | d + 1, i, k, acc, hi, hk, ha => by
    obtain ⟨k, rfl⟩ : ∃ m, k = m + 1 := ⟨k - 1, by omega⟩
    simp only [taplineref03_Diff.l0, df]
    rw [if_pos (by omega), if_pos (by omega), if_pos (by omega), wr1 (by omega)]
    by_cases h : rd B i = rd C i
    · rw [if_pos h, if_pos h]; exact rl0 P B Q C hl hB d (i + 1) k acc (by omega) (by omega) (by omega)
    · rw [if_neg h, if_neg h, if_pos (by omega)]; exact rl0 P B Q C hl hB d (i + 1) k _ (by omega) (by omega) (by simp; omega)
theorem same_loop (l : List S94) (hl : l.length ≤ 2048) : ∀ d i k, i + d = l.length → d < k → taplineref03_SameChanges.l0 k l l i = some true
  | 0, i, k, hi, hk => by
    obtain ⟨k, rfl⟩ : ∃ m, k = m + 1 := ⟨k - 1, by omega⟩
    simp only [taplineref03_SameChanges.l0]
    rw [if_neg (by omega)]
  | d + 1, i, k, hi, hk => by
    obtain ⟨k, rfl⟩ : ∃ m, k = m + 1 := ⟨k - 1, by omega⟩
    simp only [taplineref03_SameChanges.l0]
    rw [if_pos (by omega), if_pos (by omega), if_pos (by omega), if_neg (by simp), wr1 (by omega)]
    exact same_loop l hl d (i + 1) k (by omega) (by omega)
theorem same_at (l : List S94) (hl : l.length ≤ 2048) (k : Nat) (hk : 2060 ≤ k) : taplineref03_SameChanges.f k l l = some true := by
  unfold taplineref03_SameChanges.f
  rw [if_pos rfl]
  exact same_loop l hl l.length 0 k (by omega) (by omega)
def val (P B Q C : List Int) : List S94 × Int := if checkV P B = 0 ∧ checkV Q C = 0 then (if P = Q then (df B C B.length 0 [], 0) else ([], 1)) else ([], 30)
theorem mem_at (P B Q C : List Int) (k : Nat) (hk : 2070 ≤ k) : mem_Diff.f k P B Q C = some (val P B Q C) := by
  obtain ⟨k, rfl⟩ : ∃ m, k = m + 3 := ⟨k - 3, by omega⟩
  unfold mem_Diff.f val
  have e2 : wrap64 1 = 1 := by unfold wrap64; omega
  have e3 : wrap64 2 = 2 := by unfold wrap64; omega
  simp only [Option.bind_some, mem_Diff.l0, List.length_cons, List.length_nil, mem_Check.f]
  rcases check_two P B with ⟨hc, hp, hl, _⟩ | hc
  · rcases check_two Q C with ⟨hc2, hp2, hl2, _⟩ | hc2
    · rw [eq_at P Q (by omega) k (by omega)]
      by_cases h : P = Q
      · subst h
        have := ml1 B C P (by omega) (by omega) B.length 0 k [] (by omega) (by omega) (by simp)
        simp [rd_T25, hc, hc2, e2, e3]
        exact this
      · simp [rd_T25, hc, hc2, e2, e3, h]
    · simp [rd_T25, hc, hc2, e2, e3]
  · simp [rd_T25, hc, e2, e3]
theorem ref_at (P B Q C : List Int) (k : Nat) (hk : 2070 ≤ k) : taplineref03_Diff.f k P B Q C = some (val P B Q C) := by
  obtain ⟨k, rfl⟩ : ∃ m, k = m + 1 := ⟨k - 1, by omega⟩
  unfold taplineref03_Diff.f val
  rw [refcheck P B _ (by omega), refcheck Q C _ (by omega)]
  simp only [Option.bind_some, taplineref03_Diff.j0]
  rcases check_two P B with ⟨hc, hp, hl, _⟩ | hc
  · rcases check_two Q C with ⟨hc2, hp2, hl2, _⟩ | hc2
    · rw [perm_at P B Q C (by omega) k (by omega)]
      by_cases h : P = Q
      · subst h
        have := rl0 P B P C (by omega) (by omega) B.length 0 k [] (by omega) (by omega) (by simp)
        simp [hc, hc2]
        exact this
      · simp [hc, hc2, h]
    · simp [hc, hc2]
  · simp [hc]
end MemDiffs
theorem MemDiffs.pure : MemDiffs.Pure := by
  intro P B Q C _ _ _ _ _ _ _ _
  obtain ⟨K, hK⟩ : ∃ K, 4999 ≤ K := ⟨_, Nat.le_refl _⟩
  refine ⟨K, ?_⟩
  unfold taplinelaw03_MemDiffs.f
  have hlen : (MemDiffs.val P B Q C).1.length ≤ 2048 := by
    unfold MemDiffs.val
    split
    · rename_i h
      split
      · have := MemDiffs.df_length B C B.length 0 []
        rcases check_two P B with ⟨hc, hp, hl, _⟩ | hc
        · simp at this ⊢; omega
        · rw [hc] at h; exact absurd h.1 (by decide)
      · simp
    · simp
  rw [sane_at K (by omega), MemDiffs.mem_at P B Q C K (by omega), MemDiffs.ref_at P B Q C K (by omega)]
  simp only [Option.bind_some, if_true]
  rw [MemDiffs.same_at _ hlen K (by omega)]
  rfl
end Go.Proofs.Ytmpdimigpaogkaa
