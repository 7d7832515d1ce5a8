/- The pure statement of MemFaults: what the printed function answers is true, for all lists and numbers of its kinds. Conditions: none. -/
import Derived.Test.YtmpdimigpaogkaaV1Q
import Derived.Test.YtmpdimigpaogkaaV1SMemFaults
namespace Go.Proofs.Ytmpdimigpaogkaa
open Go.RowKit Go.Proofs.Ytmpdimigpaogkaa.M Go.Proofs.Ytmpdimigpaogkaa.G Go.Proofs.Ytmpdimigpaogkaa.Q Go.Proofs.YtmpdimigpaogkaaW.PrintWords Go.Proofs.YtmpdimigpaogkaaW.PrintLast
set_option linter.unusedVariables false
set_option linter.unusedSimpArgs false
namespace MemFaults
variable {P B : List Int}
theorem access_at (hc : checkV P B = 0) (hl : B.length = 64 * P.length) (a n perm : Int) :
    mem_Access.f P B a n perm = some (if 0 ≤ n ∧ n ≤ 2048 ∧ (perm = 1 ∨ perm = 2 ∨ perm = 4) then (((needs P B.length a perm n.toNat 0).getD (0, 0)).1, ((needs P B.length a perm n.toNat 0).getD (0, 0)).2, 0) else (0, 0, 1)) := by
  unfold mem_Access.f mem_Check.f
  simp only [Option.bind_some, hc, if_true]
  by_cases h1 : n < 0
  · rw [if_pos h1, if_neg (by omega)]
  · rw [if_neg h1]
    by_cases h2 : n > 2048
    · rw [if_pos h2, if_neg (by omega)]
    · rw [if_neg h2]
      simp only [faults_at hl a n perm (by omega), Option.bind_some]
      by_cases p1 : perm = 1
      · rw [if_pos p1, if_pos ⟨by omega, by omega, by omega⟩]
      · rw [if_neg p1]
        by_cases p2 : perm = 2
        · rw [if_pos p2, if_pos ⟨by omega, by omega, by omega⟩]
        · rw [if_neg p2]
          by_cases p4 : perm = 4
          · rw [if_pos p4, if_pos ⟨by omega, by omega, by omega⟩]
          · rw [if_neg p4, if_neg (by omega)]
theorem access_bad (hc : checkV P B = 30) (a n perm : Int) : mem_Access.f P B a n perm = some (0, 0, 30) := by
  unfold mem_Access.f mem_Check.f
  simp only [Option.bind_some, hc]
  rw [if_neg (by decide)]
theorem getD_kind {a perm : Int} {m : Nat} (hp : perm = 1 ∨ perm = 2 ∨ perm = 4) : needs P B.length a perm m 0 = none ∨ ∃ f, needs P B.length a perm m 0 = some f ∧ f.1 ≠ 0 := by
  cases hn : needs P B.length a perm m 0 with
  | none => exact .inl rfl
  | some f => exact .inr ⟨f, rfl, needs_kind (by omega) m 0 hn⟩
theorem load_at (hc : checkV P B = 0) (hp : P.length ≤ 32) (hl : B.length = 64 * P.length) (a : Int) (ha : -9223372036854775808 ≤ a ∧ a ≤ 9223372036854775807) (s : Int) (g : Bool) (hty : tyOk s = true) (k : Nat) (hk : 20 ≤ k) :
    ∃ v, mem_Load.f k P B a s g = some (v, ((needs P B.length a 1 s.toNat 0).getD (0, 0)).1, ((needs P B.length a 1 s.toNat 0).getD (0, 0)).2, 0) := by
  have h8 : 0 < s.toNat ∧ s.toNat ≤ 8 ∧ ((s.toNat : Nat) : Int) = s := by rcases ty_cases hty with rfl | rfl | rfl | rfl <;> decide
  unfold mem_Load.f mem_Check.f bits_Check.f
  simp only [Option.bind_some, hc, hty, if_true, faults_at hl a s 1 (by omega)]
  rcases getD_kind (P := P) (B := B) (a := a) (perm := 1) (m := s.toNat) (by omega) with h | ⟨f, h, hf⟩
  · rw [h]
    obtain ⟨r0, r1⟩ := needs_range ha (by omega) h8.1 (by omega) h
    have hw : wrap64 (a + s) = a + s := by unfold wrap64; omega
    obtain ⟨v, hv⟩ := from_ok k hk ((B.take (a + s).toNat).drop a.toNat) s g hty (by simp; omega)
    simp only [Option.getD_none, if_true, hw]
    rw [if_pos (by omega), if_pos (by omega), if_pos (by omega), hv]
    exact ⟨v, rfl⟩
  · rw [h]
    simp only [Option.getD_some]
    rw [if_neg hf]
    exact ⟨0, rfl⟩
theorem store_at (hc : checkV P B = 0) (hp : P.length ≤ 32) (hl : B.length = 64 * P.length) (a : Int) (ha : -9223372036854775808 ≤ a ∧ a ≤ 9223372036854775807) (s : Int) (g : Bool) (v : Int) (hty : tyOk s = true) (k : Nat) (hk : 20 ≤ k) :
    ∃ p b, mem_Store.f k P B a s g v = some (p, b, ((needs P B.length a 2 s.toNat 0).getD (0, 0)).1, ((needs P B.length a 2 s.toNat 0).getD (0, 0)).2, 0) := by
  have h8 : 0 < s.toNat ∧ s.toNat ≤ 8 ∧ ((s.toNat : Nat) : Int) = s := by rcases ty_cases hty with rfl | rfl | rfl | rfl <;> decide
  unfold mem_Store.f mem_Check.f bits_Wrap.f bits_wrap.f bits_Check.f
  simp only [Option.bind_some, hc, hty, if_true, faults_at hl a s 2 (by omega), bytes_ok k hk s g _ hty]
  rcases getD_kind (P := P) (B := B) (a := a) (perm := 2) (m := s.toNat) (by omega) with h | ⟨f, h, hf⟩
  · rw [h]
    obtain ⟨r0, r1⟩ := needs_range ha (by omega) h8.1 (by omega) h
    simp only [copied_at hp hl, Option.getD_none, if_true, Option.bind_some, leBytes_length]
    rw [if_pos ⟨r0, h8.1, by omega⟩]
    exact ⟨_, _, rfl⟩
  · rw [h]
    simp only [Option.getD_some]
    rw [if_neg hf]
    exact ⟨_, _, rfl⟩
theorem load_ty (hc : checkV P B = 0) (a s : Int) (g : Bool) (hty : tyOk s = false) (k : Nat) : mem_Load.f k P B a s g = some (0, 0, 0, 10) := by
  unfold mem_Load.f mem_Check.f bits_Check.f
  simp [hc, hty]
theorem store_ty (hc : checkV P B = 0) (a s : Int) (g : Bool) (v : Int) (hty : tyOk s = false) (k : Nat) : mem_Store.f k P B a s g v = some ([], [], 0, 0, 10) := by
  unfold mem_Store.f mem_Check.f bits_Check.f
  simp [hc, hty]
/-- behind the loop. -/
theorem fin_ (hc : checkV P B = 0) (hp : P.length ≤ 32) (hl : B.length = 64 * P.length) (x0 x1 x2 a s : Int) (g : Bool) (v : Int) (ha : -9223372036854775808 ≤ a ∧ a ≤ 9223372036854775807) (f : Int × Int) (i : Int) (k : Nat) (hk : 30 ≤ k) :
    taplinelaw03_MemFaults.j2 k i false P B x0 x1 x2 a s g v f.1 f.2 f.1 f.2 = some true := by
  obtain ⟨k, rfl⟩ : ∃ m, k = m + 2 := ⟨k - 2, by omega⟩
  unfold taplinelaw03_MemFaults.j2
  rw [if_neg (by decide), if_neg (by simp)]
  cases hty : tyOk s with
  | false =>
    rw [load_ty hc a s g hty, store_ty hc a s g v hty]
    simp [taplinelaw03_MemFaults.j3]
  | true =>
    have h8 : 0 < s.toNat ∧ s.toNat ≤ 8 ∧ ((s.toNat : Nat) : Int) = s := by rcases ty_cases hty with rfl | rfl | rfl | rfl <;> decide
    obtain ⟨u, hu⟩ := load_at hc hp hl a ha s g hty (k + 1) (by omega)
    obtain ⟨p, b, hs⟩ := store_at hc hp hl a ha s g v hty (k + 1) (by omega)
    rw [hu, hs]
    simp only [Option.bind_some, if_true]
    simp only [taplinelaw03_MemFaults.j3]
    rw [if_neg (by decide), access_at hc hl, access_at hc hl, if_pos ⟨by omega, by omega, by omega⟩, if_pos ⟨by omega, by omega, by omega⟩]
    simp
theorem loop_ (hc : checkV P B = 0) (hp : P.length ≤ 32) (hl : B.length = 64 * P.length) (at_ n m a s : Int) (g : Bool) (v : Int) (ha : -9223372036854775808 ≤ a ∧ a ≤ 9223372036854775807) (hm : m = 1 ∨ m = 2 ∨ m = 4) (hn : n ≤ 2048) :
    ∀ (d i k : Nat), (i : Int) + d = n → 2 * d + 40 ≤ k → taplinelaw03_MemFaults.l0 k i P B at_ n m a s g v ((needs P B.length at_ m d i).getD (0, 0)).1 ((needs P B.length at_ m d i).getD (0, 0)).2 0 0 = some true
  | 0, i, k, hi, hk => by
    obtain ⟨k, rfl⟩ : ∃ m, k = m + 1 := ⟨k - 1, by omega⟩
    simp only [taplinelaw03_MemFaults.l0]
    rw [if_neg (by omega)]
    exact fin_ hc hp hl at_ n m a s g v ha (0, 0) i k (by omega)
  | d + 1, i, k, hi, hk => by
    obtain ⟨k, rfl⟩ : ∃ m, k = m + 2 := ⟨k - 2, by omega⟩
    simp only [taplinelaw03_MemFaults.l0]
    rw [if_pos (by omega)]
    simp only [taplinelaw03_MemFaults.j2]
    rw [if_pos (by decide), access_at hc hl, if_pos ⟨by omega, by omega, hm⟩]
    simp only [Option.bind_some, if_true]
    have hw2 : wrap64 ((i : Int) + 1) = ((i + 1 : Nat) : Int) := by unfold wrap64; omega
    rw [hw2, needs_one P B.length at_ i m]
    unfold needs
    cases h1 : need1 P B.length (wrap64 (at_ + i)) m with
    | none =>
      have := loop_ hc hp hl at_ n m a s g v ha hm hn d (i + 1) k (by omega) (by omega)
      rw [show (((i + 1 : Nat)) : Int) = (i : Int) + 1 from by omega] at this ⊢
      exact this
    | some f =>
      have hf := need1_kind (by omega) h1
      simp only [Option.getD_some]
      obtain ⟨k, rfl⟩ : ∃ m, k = m + 1 := ⟨k - 1, by omega⟩
      simp only [taplinelaw03_MemFaults.l0]
      have hb : (f.1 == 0) = false := by simpa using hf
      rw [hb]
      by_cases h2 : ((i + 1 : Nat) : Int) < n
      · rw [if_pos h2]; exact fin_ hc hp hl at_ n m a s g v ha f _ k (by omega)
      · rw [if_neg h2]; exact fin_ hc hp hl at_ n m a s g v ha f _ k (by omega)
end MemFaults
theorem MemFaults.pure : MemFaults.Pure := by
  intro P B at_ n m a s g v _ _ _ _ _ _ _ ha _ _
  have ha := wf64 ha
  obtain ⟨K, hK⟩ : ∃ K, 4999 ≤ K := ⟨_, Nat.le_refl _⟩
  refine ⟨K + 1, ?_⟩
  unfold taplinelaw03_MemFaults.f
  rw [sane_at (K + 1) (by omega)]
  simp only [Option.bind_some, if_true]
  rcases check_two P B with ⟨hc, hp, hl, hall⟩ | hc
  · rw [MemFaults.access_at hc hl]
    by_cases h : 0 ≤ n ∧ n ≤ 2048 ∧ (m = 1 ∨ m = 2 ∨ m = 4)
    · rw [if_pos h]
      simp only [Option.bind_some]
      simp only [taplinelaw03_MemFaults.j0]
      rw [if_neg (by simp)]
      have := MemFaults.loop_ hc hp hl at_ n m a s g v ha h.2.2 h.2.1 n.toNat 0 K (by omega) (by omega)
      exact this
    · rw [if_neg h]
      simp [taplinelaw03_MemFaults.j0]
  · rw [MemFaults.access_bad hc]
    simp [taplinelaw03_MemFaults.j0]
end Go.Proofs.Ytmpdimigpaogkaa
