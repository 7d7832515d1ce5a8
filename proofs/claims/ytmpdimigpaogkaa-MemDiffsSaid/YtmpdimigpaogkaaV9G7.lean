/- A text of the proof of MemDiffs: what of it that proof uses. No statement of its own. -/
import Derived.Test.YtmpdimigpaogkaaV9G6
namespace Go.Proofs.Ytmpdimigpaogkaa.G
open Go.RowKit Go.Proofs.YtmpdimigpaogkaaW.PrintWords Go.Proofs.YtmpdimigpaogkaaW.PrintLast Go.Proofs.YtmpdimigpaogkaaW.PrintMore
set_option linter.unusedVariables false
set_option linter.unusedSimpArgs false

def permOk (p : Int) : Bool := p == 0 || p == 1 || p == 3 || p == 4
/-- mem.Check: 0, or ErrSpace. -/
def checkV (l0 l1 : List Int) : Int := if l0.length ≤ 32 ∧ l1.length = 64 * l0.length ∧ l0.all permOk = true then 0 else 30
def mem_Check.f (l0_0 l0_1 : List Int) : Option Int := some (checkV l0_0 l0_1)
def IntPost (w : World) (r : Int) (e : Ending) (w' : World) : Prop := e = .returned (.int .i64 r) ∧ Below w.heap.size w w'
theorem permOk_no {p : Int} (h : permOk p = false) : p ≠ 0 ∧ p ≠ 1 ∧ p ≠ 3 ∧ p ≠ 4 := by
  simp only [permOk, Bool.or_eq_false_iff, beq_eq_false_iff_ne] at h
  exact ⟨h.1.1.1, h.1.1.2, h.1.2, h.2⟩
theorem permOk_yes {p : Int} (h : permOk p = true) : p = 0 ∨ p = 1 ∨ p = 3 ∨ p = 4 := by
  simp only [permOk, Bool.or_eq_true, beq_iff_eq] at h
  omega
set_option maxRecDepth 100000 in
set_option maxHeartbeats 2000000 in
theorem check_walk (A0 : Option Addr) (c0 : Nat) (l0 : List Int) (A1 : Option Addr) (c1 : Nat) (l1 : List Int) (w : World) (hr0 : Kd.C (Kd.int .i64) w A0 l0.length l0) :
    Calls Try.prog 18 #[.agg #[.slice A0 l0.length c0, .slice A1 l1.length c1]] w (IntPost w (checkV l0 l1)) := by
  have HR0 := Aside0.mk hr0
  have HB0 := Aside0.mk ((Below.refl w.heap.size w).alloc (Nat.le_refl _) (.cells #[.slice A0 l0.length c0, .slice A1 l1.length c1] 25))
  clear hr0
  by_cases h1 : l0.length ≤ 32
  · by_cases h2 : l1.length = 64 * l0.length
    · have hb1 : decide (32 < (l0.length : Int)) = false := decide_eq_false (by omega)
      have hb2 : decide (32 < l0.length) = false := decide_eq_false (by omega)
      have hb3 : ((l1.length : Int) != 64 * (l0.length : Int)) = false := bne_eq_false_iff_eq.2 (by omega)
      have HL := Aside0.mk h2
      clear h2
      go_enter Try.func18, Try.ntmps18
      go_wp2
      go_loopw [22] (fun i wr => ∃ k : Nat, i = .int .i64 k ∧ k ≤ l0.length ∧ Aside0 ((l0.take k).all permOk = true) ∧ wr = w.alloc (.cells #[.slice A0 l0.length c0, .slice A1 l1.length c1] 25)) (fun i _ => l0.length - (intOf i).toNat)
      case atStart => exact ⟨0, rfl, Nat.zero_le _, ⟨by simp⟩, rfl⟩
      case round =>
        obtain ⟨k, rfl, hk, HA, rfl⟩ := hrel
        by_cases hlt : k < l0.length
        · obtain ⟨ad, hA, hcell⟩ := Kd.at_int (Kd.C_below HR0.out HB0.out) (k : Int) (by omega) (by omega)
          subst hA
          have hc : (w.alloc (.cells #[.slice (some ad) l0.length c0, .slice A1 l1.length c1] 25)).cell? (ad.add k) = some (.int .i64 (rd l0 k)) := by simpa using hcell
          clear hcell
          cases hp : permOk (rd l0 k)
          · have hbad : l0.all permOk = false := by
              rw [List.all_eq_false]
              refine ⟨l0[k], List.getElem_mem hlt, ?_⟩
              have : rd l0 k = l0[k] := by simp [rd, List.getD_eq_getElem?_getD, hlt]
              rw [this] at hp
              simp [hp]
            have HF := Aside0.mk (show checkV l0 l1 = 30 from by unfold checkV; rw [if_neg (by simp [hbad])])
            obtain ⟨q1, q2, q3, q4⟩ := permOk_no hp
            clear hp HA hbad
            generalize rd l0 k = p at *
            have e1 : (p != 0) = true := bne_iff_ne.2 q1
            have e2 : (p != 1) = true := bne_iff_ne.2 q2
            have e3 : (p != 3) = true := bne_iff_ne.2 q3
            have e4 : (p != 4) = true := bne_iff_ne.2 q4
            clear q1 q2 q3 q4
            go_wp2
            go_ret
            exact ⟨by rw [HF.out]; rfl, HB0.out⟩
          · have HA2 : Aside0 ((l0.take (k + 1)).all permOk = true) := ⟨by
              rw [List.take_succ_eq_append_getElem hlt, List.all_append, HA.out]
              have : rd l0 k = l0[k] := by simp [rd, List.getD_eq_getElem?_getD, hlt]
              rw [this] at hp
              simp [hp]⟩
            have hp2 := permOk_yes hp
            clear hp HA
            generalize rd l0 k = p at *
            rcases hp2 with rfl | rfl | rfl | rfl
            all_goals
              go_wp2
              go_roundw
              case rel => exact ⟨k + 1, by go_num, by omega, HA2, trivial⟩
              case measure => simp [intOf]; omega
        · have hk2 : k = l0.length := by omega
          have HF := Aside0.mk (show checkV l0 l1 = 0 from by
            have h3 := HA.out
            rw [hk2, List.take_length] at h3
            unfold checkV
            rw [if_pos ⟨h1, HL.out, h3⟩])
          clear hk2 HA
          go_wp2
          go_ret
          exact ⟨by rw [HF.out]; rfl, HB0.out⟩
    · have hb1 : decide (32 < (l0.length : Int)) = false := decide_eq_false (by omega)
      have hb2 : decide (32 < l0.length) = false := decide_eq_false (by omega)
      have hb3 : ((l1.length : Int) != 64 * (l0.length : Int)) = true := bne_iff_ne.2 (by omega)
      have HF := Aside0.mk (show checkV l0 l1 = 30 from by unfold checkV; rw [if_neg (fun h => h2 h.2.1)])
      clear h2
      go_enter Try.func18, Try.ntmps18
      go_wp2
      go_ret
      exact ⟨by rw [HF.out]; rfl, HB0.out⟩
  · have hb1 : decide (32 < (l0.length : Int)) = true := decide_eq_true (by omega)
    have hb2 : decide (32 < l0.length) = true := decide_eq_true (by omega)
    have HF := Aside0.mk (show checkV l0 l1 = 30 from by unfold checkV; rw [if_neg (fun h => h1 h.1)])
    go_enter Try.func18, Try.ntmps18
    go_wp2
    go_ret
    exact ⟨by rw [HF.out]; rfl, HB0.out⟩
theorem mem_Check.calls (A0_0 : Option Addr) (c0_0 : Nat) (l0_0 : List Int) (A0_1 : Option Addr) (c0_1 : Nat) (l0_1 : List Int) (r : Int) (w : World) (hr0_0 : Kd.C (Kd.int .i64) w A0_0 l0_0.length l0_0) (hc0_0 : l0_0.length ≤ c0_0) (hr0_1 : Kd.C (Kd.int .u8) w A0_1 l0_1.length l0_1) (hc0_1 : l0_1.length ≤ c0_1) (h : mem_Check.f l0_0 l0_1 = some r) :
    Calls Try.prog 18 #[.agg #[.slice A0_0 l0_0.length c0_0, .slice A0_1 l0_1.length c0_1]] w fun e w' => e = .returned (.int .i64 r) ∧ Below w.heap.size w w' := by
  obtain rfl := Option.some.inj h
  exact check_walk A0_0 c0_0 l0_0 A0_1 c0_1 l0_1 w hr0_0
def mem_faults.f (l0_0 l0_1 : List Int) (a1 a2 a3 : Int) : Option (Int × Int) := if l0_1.length ≤ 64 * l0_0.length ∧ a2 ≤ 9223372036854775807 then some ((needs l0_0 l0_1.length a1 a3 a2.toNat 0).getD (0, 0)) else none
theorem mem_faults.calls (A0_0 : Option Addr) (c0_0 : Nat) (l0_0 : List Int) (A0_1 : Option Addr) (c0_1 : Nat) (l0_1 : List Int) (a1 a2 a3 : Int) (r1 r2 : Int) (w : World) (hr0_0 : Kd.C (Kd.int .i64) w A0_0 l0_0.length l0_0) (hc0_0 : l0_0.length ≤ c0_0) (hr0_1 : Kd.C (Kd.int .u8) w A0_1 l0_1.length l0_1) (hc0_1 : l0_1.length ≤ c0_1) (h : mem_faults.f l0_0 l0_1 a1 a2 a3 = some (r1, r2)) :
    Calls Try.prog 47 #[.agg #[.slice A0_0 l0_0.length c0_0, .slice A0_1 l0_1.length c0_1], .int .i64 a1, .int .i64 a2, .int .i64 a3] w fun e w' => e = .returned (.agg #[.int .i64 r1, .int .i64 r2]) ∧ Below w.heap.size w w' := by
  unfold mem_faults.f at h
  by_cases hc : l0_1.length ≤ 64 * l0_0.length ∧ a2 ≤ 9223372036854775807
  · rw [if_pos hc] at h
    have h2 := Option.some.inj h
    have h3 := faults_walk A0_0 c0_0 l0_0 A0_1 c0_1 l0_1 a1 a2 a3 w hr0_0 hc.1 hc.2
    rw [h2] at h3
    exact h3
  · rw [if_neg hc] at h
    cases h
end Go.Proofs.Ytmpdimigpaogkaa.G
