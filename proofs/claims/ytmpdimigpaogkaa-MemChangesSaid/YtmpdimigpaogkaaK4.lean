/- Texts of this seat, merged in build order. No statement of its own. -/
import Derived.Test.YtmpdimigpaogkaaK3
set_option linter.unusedVariables false
set_option linter.unusedSimpArgs false
section
namespace Go.Proofs.Ytmpdimigpaogkaa.G
open Go.RowKit Go.Proofs.YtmpdimigpaogkaaW.PrintWords Go.Proofs.YtmpdimigpaogkaaW.PrintLast Go.Proofs.YtmpdimigpaogkaaW.PrintMore

theorem caught_idle (p : Addr) (w : World) :
    CallsD Try.prog 64 #[.pointer (some p)] .returning w fun e u' w' => e = .returned (.tuple #[]) ∧ u' = .returning ∧ w' = w := by
  refine callsD_of_wpS Try.func64 rfl fun c₀ cs hu => ?_
  apply wpS_seq
  apply wpS_region
  simp [wpOpsS, go_sem, recoverD, hu, Try.ntmps64, Exit.thenS]
  refine wpS_of_wp ?_
  go_wp2
  cases c₀
  simp_all [bodyPostS, results, Try.results64]
set_option maxRecDepth 100000 in
set_option maxHeartbeats 1000000 in
theorem caught_panicking (b : Nat) (k a k0 a0 : Int) (older : List PanicEntry) (w : World) (hc : w.heap[b]? = some (.cells #[.int .i64 k0, .int .i64 a0] 34 (0, 0))) :
    CallsD Try.prog 64 #[.pointer (some ⟨b, 0, none⟩)] (.panicking ({ v := .iface 123 (.agg #[.int .i64 k, .int .i64 a]), recovered := false } :: older)) w fun e u' w' =>
      e = .returned (.tuple #[]) ∧ u' = .panicking ({ v := .iface 123 (.agg #[.int .i64 k, .int .i64 a]), recovered := true } :: older) ∧ w' = ((w.setCell ⟨b, 0, none⟩ (.int .i64 k)).setCell ⟨b, 1, none⟩ (.int .i64 a)).alloc (.cells #[.int .i64 k, .int .i64 a] 123) := by
  have hlt := blk_lt hc
  have z0 : w.cell? ⟨b, 0, none⟩ = some (.int .i64 k0) := (blk_cell hc 0).trans rfl
  have z1 : w.cell? ⟨b, 1, none⟩ = some (.int .i64 a0) := (blk_cell hc 1).trans rfl
  have hta : ∀ (v : Value) (w : World), (Instr.typeAssert (.iface 123 v) 20 123 true).run Try.prog w = .ok (.tuple #[v, .bool true]) w := fun v w => by
    simp only [Instr.typeAssert, Sem.run_bind, run_underlying Try.underlying123, Result.andThen_ok]
    rfl
  have f0 := blk_frozen hc 0
  have f1 := blk_frozen hc 1
  clear hc
  refine callsD_of_wpS Try.func64 rfl fun c₀ cs hu => ?_
  simp only [Try.ntmps64, List.size_toArray, List.length_cons, List.length_nil, Nat.reduceAdd, Nat.reduceSub, Array.replicate_succ, Array.replicate_zero, List.push_toArray, List.append_toArray, List.nil_append, List.cons_append]
  apply wpS_seq
  apply wpS_region
  simp [wpOpsS, go_sem, recoverD, hu, Exit.thenS]
  refine wpS_of_wp ?_
  go_wp2
  cases c₀
  simp_all [bodyPostS, results, Try.results64]

def FaultPost (w : World) (f : Int × Int) (e : Ending) (w' : World) : Prop := e = .returned (.agg #[.int .i64 f.1, .int .i64 f.2]) ∧ Below w.heap.size w w'
set_option maxRecDepth 100000 in
set_option maxHeartbeats 1000000 in
theorem faults_walk (A0 : Option Addr) (c0 : Nat) (l0 : List Int) (A1 : Option Addr) (c1 : Nat) (l1 : List Int) (at_ n perm : Int) (w : World) (hr0 : Kd.C (Kd.int .i64) w A0 l0.length l0) (hl : l1.length ≤ 64 * l0.length) (hn1 : n ≤ 9223372036854775807) :
    Calls Try.prog 47 #[.agg #[.slice A0 l0.length c0, .slice A1 l1.length c1], .int .i64 at_, .int .i64 n, .int .i64 perm] w (FaultPost w ((needs l0 l1.length at_ perm n.toNat 0).getD (0, 0))) := by
  have HR0 := Aside0.mk hr0
  have HL := Aside0.mk hl
  clear hr0 hl
  obtain ⟨R, hR⟩ : ∃ R, needs l0 l1.length at_ perm n.toNat 0 = R := ⟨_, rfl⟩
  rw [hR]
  have HRR := Aside0.mk hR
  clear hR
  have HB0 := Aside0.mk (((Below.refl w.heap.size w).alloc (Nat.le_refl _) (.cells #[.slice A0 l0.length c0, .slice A1 l1.length c1] 25)).alloc (by simp) (.cells #[.int .i64 0, .int .i64 0] 34))
  cases R with
  | none =>
    go_enter_defers Try.func47, Try.ntmps47
    go_wp2_with (go_at_call 65; refine (need_walk A0 c0 l0 A1 c1 l1 at_ n perm none _ (Kd.C_below HR0.out HB0.out) HL.out hn1 HRR.out).mono ?_; rintro e w1 ⟨hb, rfl⟩; obtain ⟨hb1, hk1, hk2, hs1⟩ := two_blocks hb; have HB1 := Aside0.mk hb1; have BK2 := Aside0.mk hk2; have HS1 := Aside0.mk hs1; clear hb1 hk1 hk2 hs1 hb; have z0 : w1.cell? ⟨w.heap.size + 1, 0, none⟩ = some (.int .i64 0) := (blk_cell BK2.out 0).trans rfl; have z1 : w1.cell? ⟨w.heap.size + 1, 1, none⟩ = some (.int .i64 0) := (blk_cell BK2.out 1).trans rfl; have f0 := blk_frozen BK2.out 0; have f1 := blk_frozen BK2.out 1)
    have s1 := heap_setCell_same w1 (w.heap.size + 1) 0 _ 34 (.int .i64 0) BK2.out
    have s2 := heap_setCell_same _ (w.heap.size + 1) 1 _ 34 (.int .i64 0) s1
    refine leaves_cons (f := 64) (args := #[.pointer (some ⟨w.heap.size + 1, 0, none⟩)]) (by simp) (by simp [go_sem]) ?_
    refine (caught_idle ⟨w.heap.size + 1, 0, none⟩ _).mono ?_
    rintro e u' w'' ⟨rfl, rfl, rfl⟩
    exact ⟨_, results_cell_row rfl _ _ (w.heap.size + 1) 34 _ (0, 0) _ rfl s2 Try.underlying34 rfl (by kernel_rfl), rfl, (HB1.out.setCell (p := ⟨w.heap.size + 1, 0, none⟩) (by simp) _).setCell (p := ⟨w.heap.size + 1, 1, none⟩) (by simp) _⟩
  | some f =>
    go_enter_defers Try.func47, Try.ntmps47
    go_wp2_with (go_at_call 65; refine (need_walk A0 c0 l0 A1 c1 l1 at_ n perm (some f) _ (Kd.C_below HR0.out HB0.out) HL.out hn1 HRR.out).mono ?_; rintro e w1 ⟨hb, rfl⟩; obtain ⟨hb1, hk1, hk2, hs1⟩ := two_blocks hb; have HB1 := Aside0.mk hb1; have BK2 := Aside0.mk hk2; have HS1 := Aside0.mk hs1; clear hb1 hk1 hk2 hs1 hb)
    have hcp := caught_panicking (w.heap.size + 1) f.1 f.2 0 0 [] w1 BK2.out
    have s1 := heap_setCell_same w1 (w.heap.size + 1) 0 _ 34 (.int .i64 f.1) BK2.out
    have s2 := heap_setCell_same _ (w.heap.size + 1) 1 _ 34 (.int .i64 f.2) s1
    refine leaves_cons (f := 64) (args := #[.pointer (some ⟨w.heap.size + 1, 0, none⟩)]) (by simp) (by simp [go_sem]) ?_
    refine hcp.mono ?_
    rintro e u' w'' ⟨rfl, rfl, rfl⟩
    have hb2 := (((HB1.out.setCell (p := ⟨w.heap.size + 1, 0, none⟩) (by simp) (.int .i64 f.1)).setCell (p := ⟨w.heap.size + 1, 1, none⟩) (by simp) (.int .i64 f.2)))
    have hlt := blk_lt s2
    refine ⟨_, results_cell_row rfl _ _ (w.heap.size + 1) 34 _ (0, 0) _ rfl ((Below.heap_alloc _ _ _ hlt).trans s2) Try.underlying34 rfl (by kernel_rfl), rfl, hb2.alloc hb2.size _⟩
end Go.Proofs.Ytmpdimigpaogkaa.G
end
section
namespace Go.Proofs.Ytmpdimigpaogkaa.G
open Go.RowKit Go.Proofs.YtmpdimigpaogkaaW.PrintWords Go.Proofs.YtmpdimigpaogkaaW.PrintLast Go.Proofs.YtmpdimigpaogkaaW.PrintMore

def permOk (p : Int) : Bool := p == 0 || p == 1 || p == 3 || p == 4
/-- mem.Check: 0, or ErrSpace. -/
def checkV (l0 l1 : List Int) : Int := if l0.length ≤ 32 ∧ l1.length = 64 * l0.length ∧ l0.all permOk = true then 0 else 30
def IntPost (w : World) (r : Int) (e : Ending) (w' : World) : Prop := e = .returned (.int .i64 r) ∧ Below w.heap.size w w'
theorem permOk_no {p : Int} (h : permOk p = false) : p ≠ 0 ∧ p ≠ 1 ∧ p ≠ 3 ∧ p ≠ 4 := by
  simp only [permOk, Bool.or_eq_false_iff, beq_eq_false_iff_ne] at h
  exact ⟨h.1.1.1, h.1.1.2, h.1.2, h.2⟩
theorem permOk_yes {p : Int} (h : permOk p = true) : p = 0 ∨ p = 1 ∨ p = 3 ∨ p = 4 := by
  simp only [permOk, Bool.or_eq_true, beq_iff_eq] at h
  omega
set_option maxRecDepth 100000 in
set_option maxHeartbeats 2000000 in
theorem check_walk (A0 : Option Addr) (c0 : Nat) (l0 : List Int) (A1 : Option Addr) (c1 : Nat) (l1 : List Int) (w : World) (hr0 : Kd.C (Kd.int .i64) w A0 l0.length l0) :
    Calls Try.prog 18 #[.agg #[.slice A0 l0.length c0, .slice A1 l1.length c1]] w (IntPost w (checkV l0 l1)) := by
  have HR0 := Aside0.mk hr0
  have HB0 := Aside0.mk ((Below.refl w.heap.size w).alloc (Nat.le_refl _) (.cells #[.slice A0 l0.length c0, .slice A1 l1.length c1] 25))
  clear hr0
  by_cases h1 : l0.length ≤ 32
  · by_cases h2 : l1.length = 64 * l0.length
    · have hb1 : decide (32 < (l0.length : Int)) = false := decide_eq_false (by omega)
      have hb2 : decide (32 < l0.length) = false := decide_eq_false (by omega)
      have hb3 : ((l1.length : Int) != 64 * (l0.length : Int)) = false := bne_eq_false_iff_eq.2 (by omega)
      have HL := Aside0.mk h2
      clear h2
      go_enter Try.func18, Try.ntmps18
      go_wp2
      go_loopw [22] (fun i wr => ∃ k : Nat, i = .int .i64 k ∧ k ≤ l0.length ∧ Aside0 ((l0.take k).all permOk = true) ∧ wr = w.alloc (.cells #[.slice A0 l0.length c0, .slice A1 l1.length c1] 25)) (fun i _ => l0.length - (intOf i).toNat)
      case atStart => exact ⟨0, rfl, Nat.zero_le _, ⟨by simp⟩, rfl⟩
      case round =>
        obtain ⟨k, rfl, hk, HA, rfl⟩ := hrel
        by_cases hlt : k < l0.length
        · obtain ⟨ad, hA, hcell⟩ := Kd.at_int (Kd.C_below HR0.out HB0.out) (k : Int) (by omega) (by omega)
          subst hA
          have hc : (w.alloc (.cells #[.slice (some ad) l0.length c0, .slice A1 l1.length c1] 25)).cell? (ad.add k) = some (.int .i64 (rd l0 k)) := by simpa using hcell
          clear hcell
          cases hp : permOk (rd l0 k)
          · have hbad : l0.all permOk = false := by
              rw [List.all_eq_false]
              refine ⟨l0[k], List.getElem_mem hlt, ?_⟩
              have : rd l0 k = l0[k] := by simp [rd, List.getD_eq_getElem?_getD, hlt]
              rw [this] at hp
              simp [hp]
            have HF := Aside0.mk (show checkV l0 l1 = 30 from by unfold checkV; rw [if_neg (by simp [hbad])])
            obtain ⟨q1, q2, q3, q4⟩ := permOk_no hp
            clear hp HA hbad
            generalize rd l0 k = p at *
            have e1 : (p != 0) = true := bne_iff_ne.2 q1
            have e2 : (p != 1) = true := bne_iff_ne.2 q2
            have e3 : (p != 3) = true := bne_iff_ne.2 q3
            have e4 : (p != 4) = true := bne_iff_ne.2 q4
            clear q1 q2 q3 q4
            go_wp2
            go_ret
            exact ⟨by rw [HF.out]; rfl, HB0.out⟩
          · have HA2 : Aside0 ((l0.take (k + 1)).all permOk = true) := ⟨by
              rw [List.take_succ_eq_append_getElem hlt, List.all_append, HA.out]
              have : rd l0 k = l0[k] := by simp [rd, List.getD_eq_getElem?_getD, hlt]
              rw [this] at hp
              simp [hp]⟩
            have hp2 := permOk_yes hp
            clear hp HA
            generalize rd l0 k = p at *
            rcases hp2 with rfl | rfl | rfl | rfl
            all_goals
              go_wp2
              go_roundw
              case rel => exact ⟨k + 1, by go_num, by omega, HA2, trivial⟩
              case measure => simp [intOf]; omega
        · have hk2 : k = l0.length := by omega
          have HF := Aside0.mk (show checkV l0 l1 = 0 from by
            have h3 := HA.out
            rw [hk2, List.take_length] at h3
            unfold checkV
            rw [if_pos ⟨h1, HL.out, h3⟩])
          clear hk2 HA
          go_wp2
          go_ret
          exact ⟨by rw [HF.out]; rfl, HB0.out⟩
    · have hb1 : decide (32 < (l0.length : Int)) = false := decide_eq_false (by omega)
      have hb2 : decide (32 < l0.length) = false := decide_eq_false (by omega)
      have hb3 : ((l1.length : Int) != 64 * (l0.length : Int)) = true := bne_iff_ne.2 (by omega)
      have HF := Aside0.mk (show checkV l0 l1 = 30 from by unfold checkV; rw [if_neg (fun h => h2 h.2.1)])
      clear h2
      go_enter Try.func18, Try.ntmps18
      go_wp2
      go_ret
      exact ⟨by rw [HF.out]; rfl, HB0.out⟩
  · have hb1 : decide (32 < (l0.length : Int)) = true := decide_eq_true (by omega)
    have hb2 : decide (32 < l0.length) = true := decide_eq_true (by omega)
    have HF := Aside0.mk (show checkV l0 l1 = 30 from by unfold checkV; rw [if_neg (fun h => h1 h.1)])
    go_enter Try.func18, Try.ntmps18
    go_wp2
    go_ret
    exact ⟨by rw [HF.out]; rfl, HB0.out⟩
def mem_faults.f (l0_0 l0_1 : List Int) (a1 a2 a3 : Int) : Option (Int × Int) := if l0_1.length ≤ 64 * l0_0.length ∧ a2 ≤ 9223372036854775807 then some ((needs l0_0 l0_1.length a1 a3 a2.toNat 0).getD (0, 0)) else none
theorem mem_faults.calls (A0_0 : Option Addr) (c0_0 : Nat) (l0_0 : List Int) (A0_1 : Option Addr) (c0_1 : Nat) (l0_1 : List Int) (a1 a2 a3 : Int) (r1 r2 : Int) (w : World) (hr0_0 : Kd.C (Kd.int .i64) w A0_0 l0_0.length l0_0) (hc0_0 : l0_0.length ≤ c0_0) (hr0_1 : Kd.C (Kd.int .u8) w A0_1 l0_1.length l0_1) (hc0_1 : l0_1.length ≤ c0_1) (h : mem_faults.f l0_0 l0_1 a1 a2 a3 = some (r1, r2)) :
    Calls Try.prog 47 #[.agg #[.slice A0_0 l0_0.length c0_0, .slice A0_1 l0_1.length c0_1], .int .i64 a1, .int .i64 a2, .int .i64 a3] w fun e w' => e = .returned (.agg #[.int .i64 r1, .int .i64 r2]) ∧ Below w.heap.size w w' := by
  unfold mem_faults.f at h
  by_cases hc : l0_1.length ≤ 64 * l0_0.length ∧ a2 ≤ 9223372036854775807
  · rw [if_pos hc] at h
    have h2 := Option.some.inj h
    have h3 := faults_walk A0_0 c0_0 l0_0 A0_1 c0_1 l0_1 a1 a2 a3 w hr0_0 hc.1 hc.2
    rw [h2] at h3
    exact h3
  · rw [if_neg hc] at h
    cases h
end Go.Proofs.Ytmpdimigpaogkaa.G
end
section
namespace Go.Proofs.Ytmpdimigpaogkaa.G
open Go.RowKit Go.Proofs.YtmpdimigpaogkaaW.PrintWords Go.Proofs.YtmpdimigpaogkaaW.PrintLast Go.Proofs.YtmpdimigpaogkaaW.PrintMore

/-- mem.String's loop: what is read, or the fault. -/
def strFrom (P B : List Int) (at_ : Int) : Nat → Int → List Int → List Int × Option (Int × Int)
  | 0, _, acc => (acc, none)
  | m + 1, i, acc => match need1 P B.length (wrap64 (at_ + i)) 1 with
    | some f => ([], some f)
    | none => if rd B (wrap64 (at_ + i)) = 0 then (acc, none) else strFrom P B at_ m (i + 1) (acc ++ [rd B (wrap64 (at_ + i))])
theorem need1_none {P : List Int} {len : Nat} {a perm : Int} (h : need1 P len a perm = none) : 0 ≤ a ∧ a < len := by
  unfold need1 at h
  split at h
  · assumption
  · cases h
def StrPost (w : World) (t : List Int) (f : Int × Int) (c : Int) (e : Ending) (w' : World) : Prop := e = .returned (.tuple #[.string (strOfNums t), .agg #[.int .i64 f.1, .int .i64 f.2], .int .i64 c]) ∧ Below w.heap.size w w'
theorem str_nil : strOfNums [] = ⟨#[]⟩ := by rfl
theorem needs_one (P : List Int) (len at_ k perm : Int) : needs P len (wrap64 (at_ + k)) perm (1 : Int).toNat 0 = need1 P len (wrap64 (at_ + k)) perm := by
  show needs P len (wrap64 (at_ + k)) perm 1 0 = _
  unfold needs
  rw [show wrap64 (wrap64 (at_ + k) + 0) = wrap64 (at_ + k) from by unfold wrap64; omega]
  cases need1 P len (wrap64 (at_ + k)) perm <;> rfl
theorem results36 (W : World) (g : Nat) (t : Value) (a b : Int) (c : Value) (tmps : Array Value) (h6 : tmps.getD 6 undef = t) (h7 : tmps.getD 7 undef = .pointer (some ⟨g, 0, none⟩)) (h8 : tmps.getD 8 undef = c) (hg : W.heap[g]? = some (.cells #[.int .i64 a, .int .i64 b] 34 (0, 0))) :
    (results Try.f36 tmps).run Try.prog W = .ok (.tuple #[t, .agg #[.int .i64 a, .int .i64 b], c]) W := by
  have hl := run_loadVar_row (P := Try.prog) W g 34 34 _ (0, 0) _ hg Try.underlying34 rfl (by kernel_rfl)
  have h6' : tmps[6]?.getD undef = t := by simpa using h6
  have h7' : tmps[7]?.getD undef = .pointer (some ⟨g, 0, none⟩) := by simpa using h7
  have h8' : tmps[8]?.getD undef = c := by simpa using h8
  simp [results, Try.results36, h6', h7', h8', asAddr, hl]
set_option maxRecDepth 100000 in
set_option maxHeartbeats 2000000 in
theorem string_bad (A0 : Option Addr) (c0 : Nat) (l0 : List Int) (A1 : Option Addr) (c1 : Nat) (l1 : List Int) (at_ m : Int) (w : World) (hr0 : Kd.C (Kd.int .i64) w A0 l0.length l0) (hc : checkV l0 l1 = 30) :
    Calls Try.prog 36 #[.agg #[.slice A0 l0.length c0, .slice A1 l1.length c1], .int .i64 at_, .int .i64 m] w (StrPost w [] (0, 0) 30) := by
  have HR0 := Aside0.mk hr0
  have HC := Aside0.mk hc
  clear hr0 hc
  have HB0 := Aside0.mk (((Below.refl w.heap.size w).alloc (Nat.le_refl _) (.cells #[.slice A0 l0.length c0, .slice A1 l1.length c1] 25)).alloc (by simp) (.cells #[.int .i64 0, .int .i64 0] 34))
  go_enter_defers Try.func36, Try.ntmps36
  go_wp2_with (go_at_call 18; refine (check_walk A0 c0 l0 A1 c1 l1 _ (Kd.C_below HR0.out HB0.out)).mono ?_; rintro e w1 ⟨rfl, hb⟩; rw [HC.out]; obtain ⟨hb1, hk1, hk2, hs1⟩ := two_blocks hb; have HB1 := Aside0.mk hb1; have BK2 := Aside0.mk hk2; have HS1 := Aside0.mk hs1; clear hb1 hk1 hk2 hs1 hb; have z0 : w1.cell? ⟨w.heap.size + 1, 0, none⟩ = some (.int .i64 0) := (blk_cell BK2.out 0).trans rfl; have z1 : w1.cell? ⟨w.heap.size + 1, 1, none⟩ = some (.int .i64 0) := (blk_cell BK2.out 1).trans rfl; have f0 := blk_frozen BK2.out 0; have f1 := blk_frozen BK2.out 1)
  have s1 := heap_setCell_same w1 (w.heap.size + 1) 0 _ 34 (.int .i64 0) BK2.out
  have s2 := heap_setCell_same _ (w.heap.size + 1) 1 _ 34 (.int .i64 0) s1
  refine ⟨_, results36 _ (w.heap.size + 1) _ _ _ _ _ rfl rfl rfl s2, by rw [str_nil]; rfl, (HB1.out.setCell (p := ⟨w.heap.size + 1, 0, none⟩) (by simp) _).setCell (p := ⟨w.heap.size + 1, 1, none⟩) (by simp) _⟩
set_option maxRecDepth 100000 in
set_option maxHeartbeats 2000000 in
theorem string_arg (A0 : Option Addr) (c0 : Nat) (l0 : List Int) (A1 : Option Addr) (c1 : Nat) (l1 : List Int) (at_ m : Int) (w : World) (hr0 : Kd.C (Kd.int .i64) w A0 l0.length l0) (hc : checkV l0 l1 = 0) (hm : m < 0 ∨ 64 < m) :
    Calls Try.prog 36 #[.agg #[.slice A0 l0.length c0, .slice A1 l1.length c1], .int .i64 at_, .int .i64 m] w (StrPost w [] (0, 0) 1) := by
  have HR0 := Aside0.mk hr0
  have HC := Aside0.mk hc
  clear hr0 hc
  have HB0 := Aside0.mk (((Below.refl w.heap.size w).alloc (Nat.le_refl _) (.cells #[.slice A0 l0.length c0, .slice A1 l1.length c1] 25)).alloc (by simp) (.cells #[.int .i64 0, .int .i64 0] 34))
  rcases hm with hm | hm
  all_goals
    go_enter_defers Try.func36, Try.ntmps36
    go_wp2_with (go_at_call 18; refine (check_walk A0 c0 l0 A1 c1 l1 _ (Kd.C_below HR0.out HB0.out)).mono ?_; rintro e w1 ⟨rfl, hb⟩; rw [HC.out]; obtain ⟨hb1, hk1, hk2, hs1⟩ := two_blocks hb; have HB1 := Aside0.mk hb1; have BK2 := Aside0.mk hk2; have HS1 := Aside0.mk hs1; clear hb1 hk1 hk2 hs1 hb; have z0 : w1.cell? ⟨w.heap.size + 1, 0, none⟩ = some (.int .i64 0) := (blk_cell BK2.out 0).trans rfl; have z1 : w1.cell? ⟨w.heap.size + 1, 1, none⟩ = some (.int .i64 0) := (blk_cell BK2.out 1).trans rfl; have f0 := blk_frozen BK2.out 0; have f1 := blk_frozen BK2.out 1)
    have s1 := heap_setCell_same w1 (w.heap.size + 1) 0 _ 34 (.int .i64 0) BK2.out
    have s2 := heap_setCell_same _ (w.heap.size + 1) 1 _ 34 (.int .i64 0) s1
    refine ⟨_, results36 _ (w.heap.size + 1) _ _ _ _ _ rfl rfl rfl s2, by rw [str_nil]; rfl, (HB1.out.setCell (p := ⟨w.heap.size + 1, 0, none⟩) (by simp) _).setCell (p := ⟨w.heap.size + 1, 1, none⟩) (by simp) _⟩
theorem StrPost_out {w : World} {t : List Int} {f : Int × Int} {c : Int} {W : World} (v : Value) (hv : v = .tuple #[.string (strOfNums t), .agg #[.int .i64 f.1, .int .i64 f.2], .int .i64 c]) (hb : Below w.heap.size w W) : StrPost w t f c (.returned v) W := by
  subst hv
  exact ⟨rfl, hb⟩
set_option maxRecDepth 100000 in
set_option maxHeartbeats 4000000 in
theorem string_ok (A0 : Option Addr) (c0 : Nat) (l0 : List Int) (A1 : Option Addr) (c1 : Nat) (l1 : List Int) (at_ : Int) (m : Nat) (w : World) (hr0 : Kd.C (Kd.int .i64) w A0 l0.length l0) (hr1 : Kd.C (Kd.int .u8) w A1 l1.length l1) (hc : checkV l0 l1 = 0) (hl : l1.length ≤ 64 * l0.length) (hm : m ≤ 64)
    (R : List Int × Option (Int × Int)) (hR : strFrom l0 l1 at_ m 0 [] = R) :
    Calls Try.prog 36 #[.agg #[.slice A0 l0.length c0, .slice A1 l1.length c1], .int .i64 at_, .int .i64 m] w (StrPost w R.1 (R.2.getD (0, 0)) 0) := by
  have HR0 := Aside0.mk hr0
  have HR1 := Aside0.mk hr1
  have HC := Aside0.mk hc
  have HL := Aside0.mk hl
  have HR := Aside0.mk hR
  clear hr0 hc hl hR hr1
  have HB0 := Aside0.mk (((Below.refl w.heap.size w).alloc (Nat.le_refl _) (.cells #[.slice A0 l0.length c0, .slice A1 l1.length c1] 25)).alloc (by simp) (.cells #[.int .i64 0, .int .i64 0] 34))
  have hm1 : (0 : Int) ≤ m := by omega
  have hm2 : (m : Int) ≤ 64 := by omega
  go_enter_defers Try.func36, Try.ntmps36
  go_wp2_with (go_at_call 18; refine (check_walk A0 c0 l0 A1 c1 l1 _ (Kd.C_below HR0.out HB0.out)).mono ?_; rintro e w1 ⟨rfl, hb⟩; rw [HC.out]; obtain ⟨hb1, hk1, hk2, hs1⟩ := two_blocks hb; have HB1 := Aside0.mk hb1; have BK1 := Aside0.mk hk1; have BK2 := Aside0.mk hk2; have HS1 := Aside0.mk hs1; clear hb1 hk1 hk2 hs1 hb)
  go_loopw [10, 27] (fun v i wr => ∃ (k : Nat) (acc : List Int), i = .int .i64 k ∧ k ≤ m ∧ Aside0 (Kd.R (Kd.int .u8) 5 wr w.heap.size (fun _ => True) v acc) ∧ Aside0 (acc.length ≤ k) ∧ Aside0 (strFrom l0 l1 at_ (m - k) k acc = R) ∧ Aside0 (Below w.heap.size w wr) ∧
    Aside0 (wr.heap[w.heap.size]? = some (.cells #[.slice A0 l0.length c0, .slice A1 l1.length c1] 25 (0, 0))) ∧ Aside0 (wr.heap[w.heap.size + 1]? = some (.cells #[.int .i64 0, .int .i64 0] 34 (0, 0)))) (fun _ i _ => m - (intOf i).toNat)
  case atStart => exact ⟨0, [], rfl, Nat.zero_le _, ⟨Kd.R_nil _ _ _ _ _⟩, ⟨Nat.le_refl _⟩, HR, HB1, BK1, BK2⟩
  case round =>
    clear HB1 BK1 BK2 HS1 HR HC HB0
    obtain ⟨k, acc, rfl, hk, HO, HA, HR, HB, BK1, BK2⟩ := hrel
    obtain ⟨Av, cv, rfl⟩ := Kd.R_slice HO.out
    have z0 : wr.cell? ⟨w.heap.size, 0, none⟩ = some (.slice A0 l0.length c0) := (blk_cell BK1.out 0).trans rfl
    have z1w : wr.cell? ⟨w.heap.size, 1, none⟩ = some (.slice A1 l1.length c1) := (blk_cell BK1.out 1).trans rfl
    by_cases hlt : k < m
    · have hrd := HR.out
      rw [show m - k = (m - (k + 1)) + 1 from by omega] at hrd
      unfold strFrom at hrd
      obtain ⟨N, hN⟩ : ∃ N, need1 l0 l1.length (wrap64 (at_ + k)) 1 = N := ⟨_, rfl⟩
      rw [hN] at hrd
      have HN := Aside0.mk ((needs_one l0 l1.length at_ k 1).trans hN)
      cases N with
      | some f =>
        simp only at hrd
        have HRD := Aside0.mk hrd
        clear hrd hN HR
        go_wp2_with (go_at_call 65; refine (need_walk A0 c0 l0 A1 c1 l1 (wrap64 (at_ + k)) 1 1 (some f) _ (Kd.C_below HR0.out HB.out) HL.out (by decide) HN.out).mono ?_; rintro e w2 ⟨hb, rfl⟩; have HB2 := Aside0.mk (HB.out.trans (hb.mono HB.out.size)); have BK3 := Aside0.mk ((hb.block _ (blk_lt BK2.out)).trans BK2.out); clear hb)
        have hcp := caught_panicking (w.heap.size + 1) f.1 f.2 0 0 [] w2 BK3.out
        have s1 := heap_setCell_same w2 (w.heap.size + 1) 0 _ 34 (.int .i64 f.1) BK3.out
        have s2 := heap_setCell_same _ (w.heap.size + 1) 1 _ 34 (.int .i64 f.2) s1
        refine leaves_cons (f := 64) (args := #[.pointer (some ⟨w.heap.size + 1, 0, none⟩)]) (by simp) (by simp [go_sem]) ?_
        refine hcp.mono ?_
        rintro e u' w'' ⟨rfl, rfl, rfl⟩
        have hb2 := (((HB2.out.setCell (p := ⟨w.heap.size + 1, 0, none⟩) (by simp) (.int .i64 f.1)).setCell (p := ⟨w.heap.size + 1, 1, none⟩) (by simp) (.int .i64 f.2)))
        have hlt2 := blk_lt s2
        refine ⟨_, results36 _ (w.heap.size + 1) _ _ _ _ _ rfl rfl rfl ((Below.heap_alloc _ _ _ hlt2).trans s2), StrPost_out _ (by rw [← HRD.out, str_nil]; rfl) (hb2.alloc hb2.size _)⟩
      | none =>
        simp only at hrd
        have HRD := Aside0.mk hrd
        clear hrd HR
        obtain ⟨hi0, hi1⟩ := need1_none hN
        clear hN
        obtain ⟨ad, hA, hcell⟩ := Kd.at_int (Kd.C_below HR1.out HB.out) (wrap64 (at_ + k)) hi0 (by omega)
        subst hA
        by_cases hz : rd l1 (wrap64 (at_ + k)) = 0
        · have hrd := HRD.out
          rw [if_pos hz] at hrd
          have HRE := Aside0.mk hrd
          clear hrd HRD
          have hzb : (rd l1 (wrap64 (at_ + k)) == 0) = true := by rw [hz]; rfl
          go_wp2_with (go_at_call 65; refine (need_walk A0 c0 l0 (some ad) c1 l1 (wrap64 (at_ + k)) 1 1 none _ (Kd.C_below HR0.out HB.out) HL.out (by decide) HN.out).mono ?_; rintro e w2 ⟨hb, rfl⟩; have HB2 := Aside0.mk (HB.out.trans (hb.mono HB.out.size)); have HO2 := Aside0.mk (Kd.R_below HO.out hb); have BK3 := Aside0.mk ((hb.block _ (blk_lt BK2.out)).trans BK2.out);  have BK4 := Aside0.mk ((hb.block _ (blk_lt BK1.out)).trans BK1.out); have z1 := (blk_cell BK4.out 1).trans rfl; obtain ⟨ad2, hA2, hcell2⟩ := Kd.at_int (Kd.C_below HR1.out HB2.out) (wrap64 (at_ + k)) hi0 (by omega); cases hA2; clear hb; have hcv := Kd.C_string (P := Try.prog) (A := Av) (c := cv) Try.underlying23 Try.underlying5 Try.underlying9 (Kd.R_reads' HO2.out).2.2; have y0 : w2.cell? ⟨w.heap.size + 1, 0, none⟩ = some (.int .i64 0) := (blk_cell BK3.out 0).trans rfl; have y1 : w2.cell? ⟨w.heap.size + 1, 1, none⟩ = some (.int .i64 0) := (blk_cell BK3.out 1).trans rfl; have f0 := blk_frozen BK3.out 0; have f1 := blk_frozen BK3.out 1)
          have s1 := heap_setCell_same w2 (w.heap.size + 1) 0 _ 34 (.int .i64 0) BK3.out
          have s2 := heap_setCell_same _ (w.heap.size + 1) 1 _ 34 (.int .i64 0) s1
          refine leaves_cons (f := 64) (args := #[.pointer (some ⟨w.heap.size + 1, 0, none⟩)]) (by simp) (by simp [go_sem]) ?_
          refine (caught_idle ⟨w.heap.size + 1, 0, none⟩ _).mono ?_
          rintro e u' w'' ⟨rfl, rfl, rfl⟩
          exact ⟨_, results36 _ (w.heap.size + 1) _ _ _ _ _ rfl rfl rfl s2, StrPost_out _ (by rw [← HRE.out]; rfl) ((HB2.out.setCell (p := ⟨w.heap.size + 1, 0, none⟩) (by simp) _).setCell (p := ⟨w.heap.size + 1, 1, none⟩) (by simp) _)⟩
        have hrd := HRD.out
        rw [if_neg hz] at hrd
        have HRE := Aside0.mk hrd
        clear hrd HRD
        have hzb : (rd l1 (wrap64 (at_ + k)) == 0) = false := by simpa using hz
        go_wp2_with (first | (go_at_call 65; refine (need_walk A0 c0 l0 (some ad) c1 l1 (wrap64 (at_ + k)) 1 1 none _ (Kd.C_below HR0.out HB.out) HL.out (by decide) HN.out).mono ?_; rintro e w2 ⟨hb, rfl⟩; have HB2 := Aside0.mk (HB.out.trans (hb.mono HB.out.size)); have HO2 := Aside0.mk (Kd.R_below HO.out hb); have BK3 := Aside0.mk ((hb.block _ (blk_lt BK2.out)).trans BK2.out);  have BK4 := Aside0.mk ((hb.block _ (blk_lt BK1.out)).trans BK1.out); have z1 := (blk_cell BK4.out 1).trans rfl; obtain ⟨ad2, hA2, hcell2⟩ := Kd.at_int (Kd.C_below HR1.out HB2.out) (wrap64 (at_ + k)) hi0 (by omega); cases hA2; clear hb) | ((with_reducible refine gate_builtin (b := .append) (xs := #[.tmp 42, .tmp 48]) rfl ?_); at_builtin; refine Kd.R_append (Kd.int .u8) (w0 := w) w.heap.size rfl (.tmp 42) (.tmp 48) 23 5 (.int .u8 0) 1 rfl Try.underlying23 cinfo5 rfl (by decide) (by omega) (.slice Av acc.length cv) acc (rd l1 (wrap64 (at_ + k))) [.int .u8 (rd l1 (wrap64 (at_ + k)))] (fun _ => True) (fun _ => False) rfl rfl ?aP (fun _ hk => hk.elim) ?aF ?aO ?aB ?aS ?aL ?_; (case aP => exact rfl); (case aB => exact HB2.out); (case aF => exact (fun _ _ => trivial)); (case aO => exact HO2.out); (case aS => exact HB2.out.size); (case aL => have := HA.out; omega); intro v3 w3 ho hb hg hat; have HO3 := Aside0.mk ho; have HB3 := Aside0.mk hb; have BK5 := Aside0.mk (blk_grown (g := w.heap.size) (o := .cells #[.slice A0 l0.length c0, .slice (some ad) l1.length c1] 25 (0, 0)) BK4.out hg (Kd.R_ne HO2.out BK4.out (by decide))); have BK6 := Aside0.mk (blk_grown (g := w.heap.size + 1) (o := .cells #[.int .i64 0, .int .i64 0] 34 (0, 0)) BK3.out hg (Kd.R_ne HO2.out BK3.out (by decide))); clear ho hb hg hat))
        go_roundw
        case rel => exact ⟨k + 1, acc ++ [rd l1 (wrap64 (at_ + k))], by go_num, by omega, HO3, ⟨by have := HA.out; simp; omega⟩, HRE, HB3, BK5, BK6⟩
        case measure => simp [intOf]; omega
    · obtain rfl : k = m := by omega
      have hrd := HR.out
      rw [show k - k = 0 from by omega] at hrd
      have HRE := Aside0.mk (show (acc, none) = R from hrd)
      clear hrd HR
      have hcv := Kd.C_string (P := Try.prog) (A := Av) (c := cv) Try.underlying23 Try.underlying5 Try.underlying9 (Kd.R_reads' HO.out).2.2
      have y0 : wr.cell? ⟨w.heap.size + 1, 0, none⟩ = some (.int .i64 0) := (blk_cell BK2.out 0).trans rfl
      have y1 : wr.cell? ⟨w.heap.size + 1, 1, none⟩ = some (.int .i64 0) := (blk_cell BK2.out 1).trans rfl
      have f0 := blk_frozen BK2.out 0
      have f1 := blk_frozen BK2.out 1
      go_wp2
      have s1 := heap_setCell_same wr (w.heap.size + 1) 0 _ 34 (.int .i64 0) BK2.out
      have s2 := heap_setCell_same _ (w.heap.size + 1) 1 _ 34 (.int .i64 0) s1
      refine leaves_cons (f := 64) (args := #[.pointer (some ⟨w.heap.size + 1, 0, none⟩)]) (by simp) (by simp [go_sem]) ?_
      refine (caught_idle ⟨w.heap.size + 1, 0, none⟩ _).mono ?_
      rintro e u' w'' ⟨rfl, rfl, rfl⟩
      exact ⟨_, results36 _ (w.heap.size + 1) _ _ _ _ _ rfl rfl rfl s2, StrPost_out _ (by rw [← HRE.out]; rfl) ((HB.out.setCell (p := ⟨w.heap.size + 1, 0, none⟩) (by simp) _).setCell (p := ⟨w.heap.size + 1, 1, none⟩) (by simp) _)⟩
def mem_String.f (l0_0 l0_1 : List Int) (a1 a2 : Int) : Option (ByteArray × Int × Int × Int) :=
  if checkV l0_0 l0_1 = 0 then
    (if a2 < 0 ∨ 64 < a2 then some (⟨#[]⟩, 0, 0, 1) else
      some (strOfNums (strFrom l0_0 l0_1 a1 a2.toNat 0 []).1, ((strFrom l0_0 l0_1 a1 a2.toNat 0 []).2.getD (0, 0)).1, ((strFrom l0_0 l0_1 a1 a2.toNat 0 []).2.getD (0, 0)).2, 0))
  else some (⟨#[]⟩, 0, 0, 30)
theorem checkV_two (P B : List Int) : checkV P B = 0 ∨ checkV P B = 30 := by
  unfold checkV; split <;> simp
theorem checkV_len {P B : List Int} (h : checkV P B = 0) : B.length ≤ 64 * P.length := by
  unfold checkV at h
  split at h
  · omega
  · cases h
theorem mem_String.calls (A0_0 : Option Addr) (c0_0 : Nat) (l0_0 : List Int) (A0_1 : Option Addr) (c0_1 : Nat) (l0_1 : List Int) (a1 a2 : Int) (r1 : ByteArray) (r2 r3 r4 : Int) (w : World) (hr0_0 : Kd.C (Kd.int .i64) w A0_0 l0_0.length l0_0) (hc0_0 : l0_0.length ≤ c0_0) (hr0_1 : Kd.C (Kd.int .u8) w A0_1 l0_1.length l0_1) (hc0_1 : l0_1.length ≤ c0_1) (h : mem_String.f l0_0 l0_1 a1 a2 = some (r1, r2, r3, r4)) :
    Calls Try.prog 36 #[.agg #[.slice A0_0 l0_0.length c0_0, .slice A0_1 l0_1.length c0_1], .int .i64 a1, .int .i64 a2] w fun e w' => e = .returned (.tuple #[.string r1, .agg #[.int .i64 r2, .int .i64 r3], .int .i64 r4]) ∧ Below w.heap.size w w' := by
  unfold mem_String.f at h
  rcases checkV_two l0_0 l0_1 with hc | hc
  · rw [if_pos hc] at h
    by_cases hm : a2 < 0 ∨ 64 < a2
    · rw [if_pos hm] at h
      cases h
      exact string_arg A0_0 c0_0 l0_0 A0_1 c0_1 l0_1 a1 a2 w hr0_0 hc hm
    · rw [if_neg hm] at h
      cases h
      have h3 := string_ok A0_0 c0_0 l0_0 A0_1 c0_1 l0_1 a1 a2.toNat w hr0_0 hr0_1 hc (checkV_len hc) (by omega) _ rfl
      rw [Int.toNat_of_nonneg (by omega)] at h3
      exact h3
  · rw [if_neg (by rw [hc]; decide)] at h
    cases h
    exact string_bad A0_0 c0_0 l0_0 A0_1 c0_1 l0_1 a1 a2 w hr0_0 hc
end Go.Proofs.Ytmpdimigpaogkaa.G
end
section
/- Contracts that were proved by hand, as_ the calculus tells them. No statement of its own. -/

namespace Go.Ab
open Go.RowKit

section
variable {P : Program} {T : Tr} {w w' : World} {φ : Nat → Option Loc} {S : Nat → Prop} {hp : Hp} {b0 : Nat → Prop} {x : Value}

theorem HOk.empty (hold : ∀ k, S k → k < w.heap.size) : HOk T (fun _ => none) b0 w S [] :=
  ⟨fun n => (by simp [look]), fun n b h => (by cases h), fun n b l B h => (by cases h), fun n m b c l k B h => (by cases h), hold⟩

theorem addRow {n et g cap : Nat} {es : List V} {cur : Array Value} {te : TE} (h : HOk T φ b0 w S hp) (hn : look hp n = none) (he : T.look et = some te) (h1 : te.size = 1) (hg : ¬ b0 g) (hheap : w.heap[g]? = some (.cells cur et (0, 0))) (hS : ¬ S g) (hwt : wtL T et es) (hlen : es.length ≤ cap) (hcap : cap ≤ maxLen) (hcur : cur.size = cap) (hin : inRow T φ w S cur 0 1 es)
    (hother : ∀ m c l, look hp m = some c → c.own = true → φ m = some l → l.blk ≠ some g) :
    ∃ φ', LocLe φ φ' ∧ HOk T φ' b0 w S ((n, .row et es) :: hp) ∧ rel T φ' w S (.row n) (.slice (some ⟨g, 0, none⟩) es.length cap) ∧ ∀ m l, φ' m = some l → m = n ∧ l.blk = some g ∨ φ m = some l := by
  have hφ : φ n = none := (h.dom n).2 hn
  refine ⟨upd φ n (.rw g 0 es.length cap 1), upd_le hφ, ?_, ?_, fun m l hm => ?_⟩
  · refine h.cons (upd_le hφ) (fun m hm => upd_ne hm) (by rw [upd_self]; simp) (fun _ _ => rfl) (fun _ h => h) (fun m c l B hm hc hc2 hl hB => ⟨rfl, (h.own m c l B hc hc2 hl hB).2.2⟩) (Nat.le_refl _) ?_ (fun _ l B hl hB => ?_) h.old
    · refine ⟨hwt, te, he, by omega, .inl ⟨g, 0, cap, cur, by rw [upd_self, h1], hheap, rfl, hcur, by rw [h1]; omega, ?_⟩⟩
      rw [h1]
      exact inRow_mono (upd_le hφ) (fun _ _ => rfl) (fun _ h => h) hin
    · rw [upd_self] at hl; injection hl with hl; subst hl
      injection hB with hB; subst hB
      exact ⟨hg, (Array.getElem?_eq_some_iff.1 hheap).1, hS, fun m c k hm hc hc2 hk => hother m c k hc hc2 hk⟩
  · simp only [rel]
    exact .inl ⟨g, 0, es.length, cap, 1, cap, upd_self, rfl, hlen, hcap, by omega⟩
  · by_cases e : m = n
    · subst e; rw [upd_self] at hm; injection hm with hm; subst hm; exact .inl ⟨rfl, rfl⟩
    · rw [upd_ne e] at hm; exact .inr hm

theorem addNil {n et : Nat} {te : TE} (h : HOk T φ b0 w S hp) (hn : look hp n = none) (he : T.look et = some te) (h1 : te.size = 1) :
    ∃ φ', LocLe φ φ' ∧ HOk T φ' b0 w S ((n, .row et []) :: hp) ∧ rel T φ' w S (.row n) (.slice none 0 0) ∧ ∀ m l, φ' m = some l → m = n ∧ l.blk = none ∨ φ m = some l := by
  have hφ : φ n = none := (h.dom n).2 hn
  refine ⟨upd φ n .nilrow, upd_le hφ, ?_, ?_, fun m l hm => ?_⟩
  · refine h.cons (upd_le hφ) (fun k hk => upd_ne hk) (by rw [upd_self]; simp) (fun _ _ => rfl) (fun _ h => h) (fun k c l B hk hc hc2 hl hB => ⟨rfl, (h.own k c l B hc hc2 hl hB).2.2⟩) (Nat.le_refl _) ?_ (fun _ l B hl hB => ?_) h.old
    · exact ⟨by simp [wtL], te, he, by omega, .inr ⟨upd_self, rfl⟩⟩
    · rw [upd_self] at hl; injection hl with hl; subst hl; cases hB
  · simp only [rel]; exact .inr ⟨upd_self, none, rfl⟩
  · by_cases e : m = n
    · subst e; rw [upd_self] at hm; injection hm with hm; subst hm; exact .inl ⟨rfl, rfl⟩
    · rw [upd_ne e] at hm; exact .inr hm

theorem nums_wt {et : Nat} {te : TE} {k : IntKind} {l : List Int} (he : T.look et = some te) (hd : te.desc = .int k) : wtL T et (l.map fun n => V.i k n) :=
  wtL_iff.2 (fun v hv => by
    obtain ⟨n, _, rfl⟩ := List.mem_map.1 hv
    simp only [wt]
    exact ⟨te, he, hd⟩)

theorem nums_in {k : IntKind} {l : List Int} {cur : Array Value} (h : ∀ (j : Nat) (n : Int), l[j]? = some n → cur[j]? = some (Value.int k n)) : inRow T φ w S cur 0 1 (l.map fun n => V.i k n) := by
  intro j e hj
  rw [List.getElem?_map, Option.map_eq_some_iff] at hj
  obtain ⟨n, hn, rfl⟩ := hj
  refine ⟨.int k n, rel_i _ _, rfl, fun u hu => by simp [Value.cells] at hu; subst hu; rfl, fun q u hu => ?_⟩
  cases q with
  | zero => simp [Value.cells] at hu; subst hu; rw [show 0 + j * 1 + 0 = j from by omega]; exact h j n hn
  | succ q => simp [Value.cells] at hu

theorem nums_of {et : Nat} {te : TE} {k : IntKind} {l : List Int} (he : T.look et = some te) (h1 : te.size = 1) (h : rel T φ w S (.sl et (l.map fun n => V.i k n)) x) :
    ∃ A c, x = .slice A l.length c ∧ l.length ≤ c ∧ l.length ≤ maxLen ∧ (0 < l.length → ∃ ad, A = some ad ∧ ∀ (j : Nat) (n : Int), l[j]? = some n → w.cell? (ad.add j) = some (Value.int k n)) := by
  simp only [rel] at h
  obtain ⟨A, c, rfl, h2, h3, _, h4⟩ := h
  simp only [List.length_map] at h2 h3 ⊢
  refine ⟨A, c, rfl, h2, h3, fun hpos => ?_⟩
  obtain ⟨ad, e, rfl, he', hz, hS, hE⟩ := h4 (fun hn => by have := congrArg List.length hn; simp at this; subst this; simp at hpos)
  rw [he] at he'; injection he' with he'; subst he'
  refine ⟨ad, rfl, fun j n hj => ?_⟩
  obtain ⟨y, y1, y2, y3, y4⟩ := relE_iff.1 hE j (.i k n) (by rw [List.getElem?_map, hj]; rfl)
  simp only [rel] at y1
  subst y1
  have := y4 0 (.int k n) rfl
  rw [h1] at this
  simpa using this
end
end Go.Ab
end
section
/- The contracts of layer 03 that were proved by hand, as_ the calculus tells them. No statement of its own. -/

namespace Go.Proofs.Ytmpdimigpaogkaa
open Go.Ab Go.RowKit Go.Proofs.Ytmpdimigpaogkaa.G Go.Proofs.YtmpdimigpaogkaaW.PrintWords Go.Proofs.YtmpdimigpaogkaaW.PrintLast

def ints (l : List Int) : List V := l.map fun n => .i .i64 n
def u8s (l : List Int) : List V := l.map fun n => .i .u8 n

section
variable {φ : Nat → Option Ab.Loc} {w w' : World} {S : Nat → Prop} {x : Value}
theorem kd_of {et : Nat} {te : TE} {k : IntKind} {l : List Int} (he : TT.look et = some te) (h1 : te.size = 1) (h : rel TT φ w S (.sl et (l.map fun n => V.i k n)) x) : ∃ A c, x = .slice A l.length c ∧ l.length ≤ c ∧ Kd.C (Kd.int k) w A l.length l := by
  obtain ⟨A, c, rfl, h2, h3, h4⟩ := nums_of he h1 h
  refine ⟨A, c, rfl, h2, rfl, h3, fun hp => ?_⟩
  obtain ⟨ad, rfl, hc⟩ := h4 hp
  refine ⟨ad, rfl, fun j p hj => ⟨[.int k p], rfl, rfl, fun i u hu => ?_⟩⟩
  cases i with
  | zero =>
    simp at hu; subst hu
    show w.cell? (ad.add (j * 1 + 0)) = _
    rw [Nat.mul_one, Nat.add_zero]
    exact hc j p hj
  | succ i => simp at hu

theorem space_of {P B : List Int} (h : rel TT φ w S (.agg [.sl 3 (ints P), .sl 5 (u8s B)]) x) : ∃ A0 c0 A1 c1, x = .agg #[.slice A0 P.length c0, .slice A1 B.length c1] ∧ P.length ≤ c0 ∧ B.length ≤ c1 ∧ Kd.C (Kd.int .i64) w A0 P.length P ∧ Kd.C (Kd.int .u8) w A1 B.length B := by
  simp only [rel, relL] at h
  obtain ⟨a, rfl, ⟨x0, xs0, e0, r0, x1, xs1, e1, r1, e2⟩, _⟩ := h
  subst e2; subst e1
  have r0 : rel TT φ w S (.sl 3 (ints P)) x0 := by simp only [rel]; exact r0
  have r1 : rel TT φ w S (.sl 5 (u8s B)) x1 := by simp only [rel]; exact r1
  obtain ⟨A0, c0, rfl, h2, h3⟩ := kd_of (te := te3) (by kernel_rfl) rfl r0
  obtain ⟨A1, c1, rfl, k2, k3⟩ := kd_of (te := te5) (by kernel_rfl) rfl r1
  exact ⟨A0, c0, A1, c1, by congr 1; apply Array.ext'; simpa using e0, h2, k2, h3, k3⟩
end

theorem since_of {w w' : World} (h : Below w.heap.size w w') : Since (.of w) w' := ⟨h.os, h.tape, h.output, h.size, h.block⟩

theorem fn_plain {f : Nat} {args : List V} {res : V} (hb : ∃ fn c, Try.prog.funcs[f]? = some fn ∧ (fn.name == "runtime.NumGoroutine") = false ∧ fn.body = some c) (h : ∀ w S vals, relL TT (fun _ => none) w S args vals → ∃ x, (∀ w' S', rel TT (fun _ => none) w' S' res x) ∧ Calls Try.prog f vals.toArray w fun e w' => e = .returned x ∧ Below w.heap.size w w') : Ab.Fn Try.prog TT f args res [] := by
  refine ⟨hb, fun w S vals hold hr => ?_⟩
  obtain ⟨x, h1, h2⟩ := h w S vals hr
  exact Calls.weaken h2 (fun e w' ⟨e1, e2⟩ => ⟨x, fun _ => none, S, e1, since_of e2, HOk.empty (fun k hk => Nat.lt_of_lt_of_le (hold k hk) e2.size), h1 _ _, fun k hk => .inl hk⟩)

theorem body_of {f : Nat} {fn : Func} (hf : Try.prog.funcs[f]? = some fn) (hn : (fn.name == "runtime.NumGoroutine") = false) (hb : fn.body.isSome = true) : ∃ fn c, Try.prog.funcs[f]? = some fn ∧ (fn.name == "runtime.NumGoroutine") = false ∧ fn.body = some c := by
  obtain ⟨c, hc⟩ := Option.isSome_iff_exists.1 hb
  exact ⟨fn, c, hf, hn, hc⟩

theorem f48_ok (a : Int) (b : Bool) : Ab.Fn Try.prog TT 48 [.agg [.i .i64 a, .b b]] (.i .i64 (if tyOk a = true then 0 else 10)) [] := by
  refine fn_plain (body_of Try.func48 (by kernel_rfl) (by kernel_rfl)) (fun w S vals hr => ⟨_, fun w' S' => rel_i _ _, ?_⟩)
  simp only [relL, rel] at hr
  obtain ⟨x, xs, rfl, ⟨c, rfl, ⟨x0, xs0, e0, rfl, x1, xs1, e1, rfl, e2⟩, _⟩, rfl⟩ := hr
  subst e2; subst e1
  obtain rfl : c = #[.int .i64 a, .bool b] := Array.ext' (by simpa using e0)
  exact bits_Check.calls a b _ w rfl

theorem f69_ok (a : Int) (b : Bool) (v : Int) (h : tyOk a = true) : Ab.Fn Try.prog TT 69 [.agg [.i .i64 a, .b b], .i .i64 v] (.i .i64 (wrapT a b v)) [] := by
  refine fn_plain (body_of Try.func69 (by kernel_rfl) (by kernel_rfl)) (fun w S vals hr => ⟨_, fun w' S' => rel_i _ _, ?_⟩)
  simp only [relL, rel] at hr
  obtain ⟨x, xs, rfl, ⟨c, rfl, ⟨x0, xs0, e0, rfl, x1, xs1, e1, rfl, e2⟩, _⟩, y, ys, rfl, rfl, rfl⟩ := hr
  subst e2; subst e1
  obtain rfl : c = #[.int .i64 a, .bool b] := Array.ext' (by simpa using e0)
  exact bits_wrap.calls a b v _ w (by unfold bits_wrap.f; rw [if_pos h])

theorem f47_ok (P B : List Int) (a1 a2 a3 : Int) (h : B.length ≤ 64 * P.length ∧ a2 ≤ 9223372036854775807) : Ab.Fn Try.prog TT 47 [.agg [.sl 3 (ints P), .sl 5 (u8s B)], .i .i64 a1, .i .i64 a2, .i .i64 a3] (.agg [.i .i64 ((needs P B.length a1 a3 a2.toNat 0).getD (0, 0)).1, .i .i64 ((needs P B.length a1 a3 a2.toNat 0).getD (0, 0)).2]) [] := by
  refine fn_plain (body_of Try.func47 (by kernel_rfl) (by kernel_rfl)) (fun w S vals hr => ⟨.agg #[.int .i64 ((needs P B.length a1 a3 a2.toNat 0).getD (0, 0)).1, .int .i64 ((needs P B.length a1 a3 a2.toNat 0).getD (0, 0)).2], fun w' S' => ?_, ?_⟩)
  · simp only [rel, relL]
    exact ⟨_, rfl, ⟨_, _, rfl, rfl, _, _, rfl, rfl, rfl⟩, by simp [Value.oneCell']⟩
  · simp only [relL] at hr
    obtain ⟨x, xs, rfl, hx, y1, ys1, rfl, r1, y2, ys2, rfl, r2, y3, ys3, rfl, r3, rfl⟩ := hr
    simp only [rel] at r1 r2 r3
    subst r1; subst r2; subst r3
    obtain ⟨A0, c0, A1, c1, rfl, k0, k1, k2, k3⟩ := space_of hx
    exact mem_faults.calls A0 c0 P A1 c1 B a1 a2 a3 _ _ w k2 k0 k3 k1 (by unfold mem_faults.f; rw [if_pos h])

theorem row_of {k : IntKind} {e : Nat} {w : World} {base : Nat} {ok : Nat → Prop} {v : Value} {xs : List Int} (h : Kd.R (Kd.int k) e w base ok v xs) :
    (v = .slice none 0 0 ∧ xs = []) ∨ ∃ g cap cur, v = .slice (some ⟨g, 0, none⟩) xs.length cap ∧ base ≤ g ∧ w.heap[g]? = some (.cells cur e (0, 0)) ∧ xs.length ≤ cap ∧ cap ≤ maxLen ∧ cur.size = cap ∧ ∀ (j : Nat) (n : Int), xs[j]? = some n → cur[j]? = some (Value.int k n) := by
  obtain ⟨_, inner, ⟨h1, h2⟩, hr⟩ := h
  rcases h2 with ⟨rfl, h3⟩ | ⟨g, cap, cur, rfl, hg, hh, hc, hm, hs, ht⟩
  · exact .inl ⟨rfl, List.eq_nil_of_length_eq_zero h3⟩
  · refine .inr ⟨g, cap, cur, rfl, hg, hh, hc, hm, by simpa [Kd.int, Kd.scalar] using hs, fun j n hj => ?_⟩
    obtain ⟨hl, hq⟩ := hr
    have hl : inner.length = xs.length * 1 := hl
    have hq : (inner.drop (j * 1)).take 1 = [Value.int k n] := hq j n hj
    rw [Nat.mul_one] at hq hl
    have hjl : j < xs.length := (List.getElem?_eq_some_iff.1 hj).1
    have h0 := congrArg (fun l => l[0]?) hq
    rw [← ht] at h0
    have hz : (Kd.int k).sz = 1 := rfl
    simp only [List.getElem?_take, List.getElem?_drop, hz, Nat.mul_one, List.getElem?_cons_zero] at h0
    simp only [Nat.add_zero] at h0
    rw [if_pos (by omega), if_pos hjl] at h0
    rw [← Array.getElem?_toList]
    exact h0

theorem one_row {k : IntKind} {et : Nat} {te : TE} {w w' : World} {S : Nat → Prop} {v : Value} {xs : List Int} (he : TT.look et = some te) (h1 : te.size = 1) (hd : te.desc = .int k) (hb : Below w.heap.size w w') (hold : ∀ i, S i → i < w.heap.size) (h : Kd.R (Kd.int k) et w' w.heap.size (fun _ => True) v xs) :
    ∃ φ, HOk TT φ (oldZ w) w' S [(0, .row et (xs.map fun n => V.i k n))] ∧ rel TT φ w' S (.row 0) v := by
  have h0 : HOk TT (fun _ => none) (oldZ w) w' S [] := HOk.empty (fun i hi => Nat.lt_of_lt_of_le (hold i hi) hb.size)
  rcases row_of h with ⟨rfl, rfl⟩ | ⟨g, cap, cur, rfl, hg, hh, hc, hm, hs, hq⟩
  · obtain ⟨φ, _, a2, a3, _⟩ := addNil h0 (n := 0) rfl he h1
    exact ⟨φ, a2, a3⟩
  · obtain ⟨φ, _, a2, a3, _⟩ := addRow (cap := cap) h0 (n := 0) rfl he h1 (Nat.not_lt.2 hg) hh (fun hS => by have := hold g hS; omega) (nums_wt he hd) (by simpa using hc) hm hs (nums_in hq) (fun m c l hl => by cases hl)
    refine ⟨φ, a2, ?_⟩
    simpa using a3

theorem f52_ok (P B : List Int) (h : P.length ≤ 32 ∧ B.length = 64 * P.length) : Ab.Fn Try.prog TT 52 [.agg [.sl 3 (ints P), .sl 5 (u8s B)]] (.agg [.row 0, .row 1]) [(1, .row 5 (u8s B)), (0, .row 3 (ints P))] := by
  refine ⟨body_of Try.func52 (by kernel_rfl) (by kernel_rfl), fun w S vals hold hr => ?_⟩
  simp only [relL] at hr
  obtain ⟨x, xs, rfl, hx, rfl⟩ := hr
  obtain ⟨A0, c0, A1, c1, rfl, k0, k1, k2, k3⟩ := space_of hx
  refine Calls.weaken (mem_copied.calls A0 c0 P A1 c1 B P B w k2 k0 k3 k1 (by unfold mem_copied.f; rw [if_pos h])) ?_
  rintro e w' ⟨v0, v1, rfl, hR0, hR1, hb⟩
  obtain ⟨φ, a1, a2⟩ := one_row (te := te3) (S := S) (by kernel_rfl) rfl rfl hb hold hR0
  have fin : ∀ φ2, LocLe φ φ2 → HOk TT φ2 (oldZ w) w' S [(1, .row 5 (u8s B)), (0, .row 3 (ints P))] → rel TT φ2 w' S (.row 1) v1 → v0.oneCell' = true → v1.oneCell' = true →
      ∃ x φ' S', Ending.returned (.agg #[v0, v1]) = .returned x ∧ Since (.of w) w' ∧ HOk TT φ' (oldZ w) w' S' [(1, .row 5 (u8s B)), (0, .row 3 (ints P))] ∧ rel TT φ' w' S' (.agg [.row 0, .row 1]) x ∧ (∀ k, S' k → S k ∨ w.heap.size ≤ k) := by
    intro φ2 hle h1 h2 o0 o1
    refine ⟨_, φ2, S, rfl, since_of hb, h1, ?_, fun i hi => .inl hi⟩
    have r0 := rel_mono (S' := S) hle (fun _ _ => rfl) (fun _ h => h) _ _ a2
    show rel TT φ2 w' S (.agg [.row 0, .row 1]) (.agg #[v0, v1])
    rw [rel]
    exact ⟨_, rfl, by simp only [relL]; exact ⟨v0, [v1], rfl, r0, v1, [], rfl, h2, rfl⟩, fun u hu => by
      simp at hu
      rcases hu with rfl | rfl
      · exact o0
      · exact o1⟩
  have one : ∀ {φ : Nat → Option Ab.Loc} {n : Nat} {v : Value}, rel TT φ w' S (.row n) v → v.oneCell' = true := fun h => by
    rw [rel] at h
    rcases h with ⟨B, off, len, room, sz, cap, _, rfl, _⟩ | ⟨_, _, rfl⟩ <;> rfl
  rcases row_of hR1 with ⟨rfl, rfl⟩ | ⟨g, cap, cur, rfl, hg, hh, hc, hm, hs, hq⟩
  · obtain ⟨φ2, b1, b2, b3, _⟩ := addNil (et := 5) (te := te5) a1 (n := 1) rfl (by kernel_rfl) rfl
    exact fin φ2 b1 b2 b3 (one a2) rfl
  · obtain ⟨φ2, b1, b2, b3, _⟩ := addRow (te := te5) (cap := cap) (es := u8s B) a1 (n := 1) rfl (by kernel_rfl) rfl (Nat.not_lt.2 hg) hh (fun hS => by have := hold g hS; omega) (nums_wt (te := te5) (by kernel_rfl) rfl) (by simpa [u8s] using hc) hm hs (nums_in hq) (fun m c l hl hown hφ hB => by
      rw [look_cons] at hl
      split at hl
      · rename_i em
        subst em
        injection hl with hl
        subst hl
        obtain ⟨_, te, hte, _, hbk⟩ := a1.blk 0 _ (by rw [look_cons, if_pos rfl])
        rcases hbk with ⟨B', off, room, arr, e1, e2, _⟩ | ⟨e1, _⟩
        · rw [e1] at hφ; injection hφ with hφ; subst hφ
          injection hB with hB; subst hB
          rw [hh] at e2
          injection e2 with e2
          injection e2 with _ e2
          cases e2
        · rw [e1] at hφ; injection hφ with hφ; subst hφ; cases hB
      · cases hl)
    refine fin φ2 b1 b2 ?_ (one a2) rfl
    simpa [u8s] using b3

theorem f36_ok (P B : List Int) (a1 a2 : Int) (r1 : ByteArray) (r2 r3 r4 : Int) (h : mem_String.f P B a1 a2 = some (r1, r2, r3, r4)) : Ab.Fn Try.prog TT 36 [.agg [.sl 3 (ints P), .sl 5 (u8s B)], .i .i64 a1, .i .i64 a2] (.tup [.str r1, .agg [.i .i64 r2, .i .i64 r3], .i .i64 r4]) [] := by
  refine fn_plain (body_of Try.func36 (by kernel_rfl) (by kernel_rfl)) (fun w S vals hr => ⟨.tuple #[.string r1, .agg #[.int .i64 r2, .int .i64 r3], .int .i64 r4], fun w' S' => ?_, ?_⟩)
  · simp only [rel, relL]
    exact ⟨_, rfl, ⟨_, _, rfl, rfl, _, _, rfl, ⟨_, rfl, ⟨_, _, rfl, rfl, _, _, rfl, rfl, rfl⟩, by simp [Value.oneCell']⟩, _, _, rfl, rfl, rfl⟩⟩
  · simp only [relL] at hr
    obtain ⟨x, xs, rfl, hx, y1, ys1, rfl, r1', y2, ys2, rfl, r2', rfl⟩ := hr
    simp only [rel] at r1' r2'
    subst r1'; subst r2'
    obtain ⟨A0, c0, A1, c1, rfl, k0, k1, k2, k3⟩ := space_of hx
    exact mem_String.calls A0 c0 P A1 c1 B a1 a2 _ _ _ _ w k2 k0 k3 k1 h
end Go.Proofs.Ytmpdimigpaogkaa
end
section
/- Answers told by values alone: what a caller that only reads needs. No statement of its own. -/

namespace Go.Ab
open Go.RowKit

def pleS (h : Hp) (v v' : V) : Prop := match v' with
  | .sl u es => match v with
    | .nil => es = []
    | .row n => match look h n with
      | some (.row u' es') => u' = u ∧ es' = es
      | some (.ro u' es') => u' = u ∧ es' = es
      | _ => False
    | .sl u' es' => u' = u ∧ es' = es
    | _ => False
  | .i k n => match v with
    | .i k' n' => k' = k ∧ n' = n
    | _ => False
  | .b c => match v with
    | .b c' => c' = c
    | _ => False
  | .str s => match v with
    | .str s' => s' = s
    | _ => False
  | .nil => match v with
    | .nil => True
    | _ => False
  | _ => False

def pleL (h : Hp) : List V → List V → Prop
  | [], [] => True
  | v :: r, v' :: r' => pleS h v v' ∧ pleL h r r'
  | _, _ => False

def ple1 (h : Hp) (v v' : V) : Prop := match v' with
  | .agg ds => match v with
    | .agg cs => pleL h cs ds
    | _ => False
  | v' => pleS h v v'

def ple1L (h : Hp) : List V → List V → Prop
  | [], [] => True
  | v :: r, v' :: r' => ple1 h v v' ∧ ple1L h r r'
  | _, _ => False

def ple (h : Hp) (v v' : V) : Prop := match v' with
  | .tup ds => match v with
    | .tup cs => ple1L h cs ds
    | _ => False
  | v' => ple1 h v v'

section
variable {P : Program} {T : Tr} {w0 : Base} {φ : Nat → Option Loc} {w w' : World} {S S' : Nat → Prop} {v v' : V} {hp h : Hp} {b0 : Nat → Prop} {x : Value}

def allS (φ : Nat → Option Loc) (S : Nat → Prop) (h : Hp) (k : Nat) : Prop := S k ∨ ∃ n u es l, look h n = some (.row u es) ∧ φ n = some l ∧ l.blk = some k

theorem pleS_rel (P : Program) (w0 : Base) (hh : HOk T φ b0 w S h) (hr : rel T φ w S v x) (hp : pleS h v v') : rel T (fun _ => none) w (allS φ S h) v' x := by
  have free : ∀ {S1 : Nat → Prop} {et es}, (∀ k, S1 k → allS φ S h k) → rel T φ w S1 (.sl et es) x → rel T (fun _ => none) w (allS φ S h) (.sl et es) x := by
    intro S1 et es hS hr
    have hr := rel_mono (LocLe.refl φ) (w' := w) (fun _ _ => rfl) hS _ _ hr
    simp only [rel] at hr ⊢
    obtain ⟨A, cap, h1, h2, h3, h5, h6⟩ := hr
    refine ⟨A, cap, h1, h2, h3, h5, fun hne => ?_⟩
    obtain ⟨ad, e, ha, hl, hz, hs, he⟩ := h6 hne
    exact ⟨ad, e, ha, hl, hz, hs, wtL_free es et 0 ad e.size h5 he⟩
  cases v' with
  | sl u es =>
    simp only [pleS] at hp
    split at hp
    · subst hp
      simp only [rel] at hr ⊢
      subst hr
      exact ⟨none, 0, rfl, Nat.le_refl _, Nat.zero_le _, by simp [wtL], fun hne => absurd rfl hne⟩
    · rename_i n
      have hx := expS_ok (P := P) (w0 := w0) hh hr
      split at hp
      · rename_i u' es' hl
        obtain ⟨rfl, rfl⟩ := hp
        simp only [expS, hl] at hx
        refine free (fun k hk => ?_) hx
        rcases hk with hk | ⟨m, hm, l, h1, h2⟩
        · exact .inl hk
        · simp only [rowsS, List.mem_singleton] at hm
          subst hm
          exact .inr ⟨m, _, _, l, hl, h1, h2⟩
      · rename_i u' es' hl
        obtain ⟨rfl, rfl⟩ := hp
        simp only [expS, hl] at hx
        refine free (fun k hk => ?_) hx
        rcases hk with hk | ⟨m, hm, l, h1, h2⟩
        · exact .inl hk
        · simp only [rowsS, List.mem_singleton] at hm
          subst hm
          exact .inl (ro_S hh hl l k h1 h2)
      · exact hp.elim
    · obtain ⟨rfl, rfl⟩ := hp
      exact free (fun k hk => .inl hk) hr
    · exact hp.elim
  | i k n =>
    simp only [pleS] at hp
    split at hp
    · obtain ⟨rfl, rfl⟩ := hp; simpa only [rel] using hr
    · exact hp.elim
  | b c =>
    simp only [pleS] at hp
    split at hp
    · subst hp; simpa only [rel] using hr
    · exact hp.elim
  | str s =>
    simp only [pleS] at hp
    split at hp
    · subst hp; simpa only [rel] using hr
    · exact hp.elim
  | nil =>
    simp only [pleS] at hp
    split at hp
    · simpa only [rel] using hr
    · exact hp.elim
  | _ => exact hp.elim

theorem pleL_rel (P : Program) (w0 : Base) (hh : HOk T φ b0 w S h) : ∀ {cs ds : List V} {xs : List Value}, relL T φ w S cs xs → pleL h cs ds → relL T (fun _ => none) w (allS φ S h) ds xs
  | [], [], xs, hr, _ => by simpa only [relL] using hr
  | v :: r, v' :: r', xs, hr, hp => by
    simp only [relL, pleL] at hr hp ⊢
    obtain ⟨x, xs', h1, h2, h3⟩ := hr
    exact ⟨x, xs', h1, pleS_rel P w0 hh h2 hp.1, pleL_rel P w0 hh h3 hp.2⟩
  | [], _ :: _, _, _, hp => hp.elim
  | _ :: _, [], _, _, hp => hp.elim

theorem ple1_rel (P : Program) (w0 : Base) (hh : HOk T φ b0 w S h) (hr : rel T φ w S v x) (hp : ple1 h v v') : rel T (fun _ => none) w (allS φ S h) v' x := by
  cases v' with
  | agg ds =>
    simp only [ple1] at hp
    split at hp
    · simp only [rel] at hr ⊢
      obtain ⟨a, h1, h2, h3⟩ := hr
      exact ⟨a, h1, pleL_rel P w0 hh h2 hp, h3⟩
    · exact hp.elim
  | _ => exact pleS_rel P w0 hh hr (by simpa only [ple1] using hp)

theorem ple1L_rel (P : Program) (w0 : Base) (hh : HOk T φ b0 w S h) : ∀ {cs ds : List V} {xs : List Value}, relL T φ w S cs xs → ple1L h cs ds → relL T (fun _ => none) w (allS φ S h) ds xs
  | [], [], xs, hr, _ => by simpa only [relL] using hr
  | v :: r, v' :: r', xs, hr, hp => by
    simp only [relL, ple1L] at hr hp ⊢
    obtain ⟨x, xs', h1, h2, h3⟩ := hr
    exact ⟨x, xs', h1, ple1_rel P w0 hh h2 hp.1, ple1L_rel P w0 hh h3 hp.2⟩
  | [], _ :: _, _, _, hp => hp.elim
  | _ :: _, [], _, _, hp => hp.elim

theorem ple_rel (P : Program) (w0 : Base) (hh : HOk T φ b0 w S h) (hr : rel T φ w S v x) (hp : ple h v v') : rel T (fun _ => none) w (allS φ S h) v' x := by
  cases v' with
  | tup ds =>
    simp only [ple] at hp
    split at hp
    · simp only [rel] at hr ⊢
      obtain ⟨a, h1, h2⟩ := hr
      exact ⟨a, h1, ple1L_rel P w0 hh h2 hp⟩
    · exact hp.elim
  | _ => exact ple1_rel P w0 hh hr (by simpa only [ple] using hp)

def FnR (P : Program) (T : Tr) (f : Nat) (args : List V) (R : V → Hp → Prop) : Prop :=
  (∃ fn c, P.funcs[f]? = some fn ∧ (fn.name == "runtime.NumGoroutine") = false ∧ fn.body = some c) ∧ ∀ (w : World) (S : Nat → Prop) (vals : List Value), (∀ k, S k → k < w.heap.size) → relL T (fun _ => none) w S args vals →
    Calls P f vals.toArray w fun e w' => ∃ x φ' S' v post, e = .returned x ∧ Since (.of w) w' ∧ HOk T φ' (oldZ w) w' S' post ∧ rel T φ' w' S' v x ∧ (∀ k, S' k → S k ∨ w.heap.size ≤ k) ∧ R v post

theorem FnR.pure {f : Nat} {args : List V} {res : V} (hf : FnR P T f args fun v h => ple h v res) : Fn P T f args res [] := by
  refine ⟨hf.1, fun w S vals hold hr => Calls.weaken (hf.2 w S vals hold hr) (fun e w' hq => ?_)⟩
  obtain ⟨x, φ', S', v, post, he, h1, h2, h3, h4, h5⟩ := hq
  have hx := ple_rel P (.of w) h2 h3 h5
  refine ⟨x, fun _ => none, allS φ' S' post, he, h1, HOk.empty (fun k hk => ?_), hx, fun k hk => ?_⟩
  · rcases hk with hk | ⟨n, u, es, l, g1, g2, g3⟩
    · exact h2.old k hk
    · exact (h2.own n _ l k g1 rfl g2 g3).2.1
  · rcases hk with hk | ⟨n, u, es, l, g1, g2, g3⟩
    · exact h4 k hk
    · exact .inr (Nat.not_lt.1 (h2.own n _ l k g1 rfl g2 g3).1)

theorem FnR.of {f : Nat} {args : List V} {res : V} {post : Hp} {R : V → Hp → Prop} (hf : Fn P T f args res post) (hR : R res post) : FnR P T f args R :=
  ⟨hf.1, fun w S vals hold hr => Calls.weaken (hf.2 w S vals hold hr) (fun e w' ⟨x, φ', S', he, h1, h2, h3, h4⟩ => ⟨x, φ', S', res, post, he, h1, h2, h3, h4, hR⟩)⟩

theorem Fn.pure {f : Nat} {args : List V} {res res' : V} {post : Hp} (hf : Fn P T f args res post) (hp : ple post res res') : Fn P T f args res' [] :=
  FnR.pure (FnR.of hf hp)

theorem fnr_of_vc (htok : TyOk P T) {f : Nat} {fn : Func} {c : Code} {W : Nat → List (List Nat)} {args : List V} {R : V → Hp → Prop} (hf : P.funcs[f]? = some fn) (hname : (fn.name == "runtime.NumGoroutine") = false) (hb : fn.body = some c) (hok : codeOk W c = true)
    (h : ∀ w : World, vc (real P T (.of w)) T W c (retK (real P T (.of w)) T fn.results.toList R) (args ++ List.replicate (fn.ntmps - args.length) .dead) []) : FnR P T f args R := by
  refine ⟨⟨fn, c, hf, hname, hb⟩, fun w S vals hold hr => ?_⟩
  have hlen := (relL_iff.1 hr).1
  refine calls_of_wp hf hb ?_
  have hi : Inv T (.of w) (fun _ => none) S (args ++ List.replicate (fn.ntmps - args.length) .dead) [] { tmps := vals.toArray ++ Array.replicate (fn.ntmps - vals.toArray.size) undef, defers := [] } w := by
    refine ⟨Since.refl w, by simp [hlen], fun t => ?_, rfl, ⟨fun n => by simp [look], fun n b h => (by cases h), fun n b l B h => (by cases h), fun n m b c l k B h => (by cases h), hold⟩, fun p hp => by cases hp⟩
    by_cases ht : t < args.length
    · obtain ⟨u, h1, h2⟩ := relL_get hr ht
      have e1 : (args ++ List.replicate (fn.ntmps - args.length) V.dead).getD t .dead = args.getD t .dead := by
        simp only [List.getD_eq_getElem?_getD, List.getElem?_append_left ht]
      have e2 : (vals.toArray ++ Array.replicate (fn.ntmps - vals.toArray.size) undef).getD t undef = u := by
        rw [Array.getD_eq_getD_getElem?, Array.getElem?_append_left (by simp; omega)]
        simp [h1]
      rw [e1, e2]
      exact h2
    · have e1 : (args ++ List.replicate (fn.ntmps - args.length) V.dead).getD t .dead = .dead := by
        simp only [List.getD_eq_getElem?_getD, List.getElem?_append_right (by omega : args.length ≤ t), List.getElem?_replicate]
        split <;> rfl
      rw [e1]
      simp only [rel]
  have key : ∀ {tm hp φ S' a w'}, SLe (oldZ w) S S' → Inv T (.of w) φ S' tm hp a w' → retF (real P T (.of w)) T fn.results.toList R tm hp →
      a.defers = [] ∧ ∃ v, (results fn a.tmps).run P w' = .ok v w' ∧ ∃ x φ' S' r post, Ending.returned v = .returned x ∧ Since (.of w) w' ∧ HOk T φ' (oldZ w) w' S' post ∧ rel T φ' w' S' r x ∧ (∀ k, S' k → S k ∨ w.heap.size ≤ k) ∧ R r post := by
    intro tm hp φ S' a w' hS hi h
    obtain ⟨x, v, φ', S2, post', h1, h2, h3, h4, h5⟩ := results_ok htok hi h
    exact ⟨hi.dfr, x, h1, x, φ', S2, v, post', rfl, hi.since, h3, h4, fun k hk => ((hS.trans h2).2 k hk).imp id Nat.not_lt.1, h5⟩
  refine wp_mono (vc_ok htok c hok (h w) _ _ _ _ hi) (fun e a' w' hp => ?_)
  obtain ⟨φ', S', tm', hp', h1, h2, h3, h4⟩ := hp
  cases e with
  | normal => exact key h1 h2 h3
  | ret => exact key h1 h2 h3
  | exit i => exact h3.elim
  | _ => exact h4.elim

theorem fn_pure (htok : TyOk P T) {f : Nat} {fn : Func} {c : Code} (W : Nat → List (List Nat)) {args : List V} {res : V} (hf : P.funcs[f]? = some fn) (hname : (fn.name == "runtime.NumGoroutine") = false) (hb : fn.body = some c) (hok : codeOk W c = true)
    (h : ∀ ar un cv mn mx pl mi cmp nt beq an scmp cat slen sbyte ssub ofB toB len gi gb gs gl sub put app ovl rep ne0 ge0 inb bnd room sroom need br call loop cut nl, Eqs ar un cv mn mx pl mi cmp nt beq an scmp cat slen sbyte ssub ofB toB len gi gb gs gl sub put app ovl rep ne0 ge0 inb bnd room sroom → Rules P T W [] ar un cv mn mx pl mi cmp nt beq an scmp cat slen sbyte ssub ofB toB len gi gb gs gl sub put app ovl rep ne0 ge0 inb bnd room sroom need br call loop cut nl → ∀ K : V → Hp → Prop, (∀ v h, ple h v res → K v h) → vc ⟨ar, un, cv, mn, mx, pl, mi, cmp, nt, beq, an, scmp, cat, slen, sbyte, ssub, ofB, toB, len, gi, gb, gs, gl, sub, put, app, ovl, rep, ne0, ge0, inb, bnd, room, sroom, need, br, call, loop, cut, nl⟩ T W c (retK ⟨ar, un, cv, mn, mx, pl, mi, cmp, nt, beq, an, scmp, cat, slen, sbyte, ssub, ofB, toB, len, gi, gb, gs, gl, sub, put, app, ovl, rep, ne0, ge0, inb, bnd, room, sroom, need, br, call, loop, cut, nl⟩ T fn.results.toList K) (args ++ List.replicate (fn.ntmps - args.length) .dead) []) : Ab.Fn P T f args res [] := by
  refine FnR.pure (fnr_of_vc htok hf hname hb hok (fun w => ?_))
  generalize ho : real P T (.of w) = o
  have ho := ho.symm
  obtain ⟨ar, un, cv, mn, mx, pl, mi, cmp, nt, beq, an, scmp, cat, slen, sbyte, ssub, ofB, toB, len, gi, gb, gs, gl, sub, put, app, ovl, rep, ne0, ge0, inb, bnd, room, sroom, need, br, call, loop, cut, nl⟩ := o
  refine h _ _ _ _ _ _ _ _ _ _ _ _ _ _ _ _ _ _ _ _ _ _ _ _ _ _ _ _ _ _ _ _ _ _ _ _ _ _ _ _ ?_ ?_ _ (fun v h hp => hp)
  · have e := ho.symm
    unfold real at e
    injection e with e_ar e_un e_cv e_mn e_mx e_pl e_mi e_cmp e_nt e_beq e_an e_scmp e_cat e_slen e_sbyte e_ssub e_ofB e_toB e_len e_gi e_gb e_gs e_gl e_sub e_put e_app e_ovl e_rep e_ne0 e_ge0 e_inb e_bnd e_room e_sroom e_need e_br e_call e_loop e_cut e_nl
    subst e_ar e_un e_cv e_mn e_mx e_pl e_mi e_cmp e_nt e_beq e_an e_scmp e_cat e_slen e_sbyte e_ssub e_ofB e_toB e_len e_gi e_gb e_gs e_gl e_sub e_put e_app e_ovl e_rep e_ne0 e_ge0 e_inb e_bnd e_room e_sroom e_need e_br e_call e_loop e_cut e_nl
    constructor <;> intros <;> rfl
  · exact ⟨fun h1 h2 => real_need ho h1 h2, fun h1 h2 => real_br ho h1 h2, fun h1 h2 h3 => by subst h2; exact real_call ho h1 h3, fun t n et _ h1 h2 h3 h4 h5 => real_born ho h1 h2 h3 h4 h5, fun n0 j n et _ _ _ h0 h1 h2 h3 h4 h5 => real_bornC ho h0 h1 h2 h3 h4 h5, fun h1 h2 => real_nl ho h1 h2, fun ha hb h => real_cut ho htok ha hb h, fun n sl hs ha hb h hk => real_cutF ho htok (fun p hp => by cases hp) n sl hs ha hb h hk, fun n sl hs I μ a0 ρ0 h0 h1 h2 h3 => real_loop_ok ho htok (fun p hp => by cases hp) n sl hs I μ a0 ρ0 h0 h1 h2 h3⟩
end
end Go.Ab
end
section
/- Loops told by what changes in them. No statement of its own. -/

namespace Go.Ab
open Go.RowKit

def dstsOf : List Oper → List Nat
  | [] => []
  | x :: r => match x.dst with
    | some t => t :: dstsOf r
    | none => dstsOf r

def asgs : Code → List Nat
  | .region _ ops _ => dstsOf ops.toList
  | .seq a b => asgs a ++ asgs b
  | .cond _ a b => asgs a ++ asgs b
  | .block _ b => asgs b
  | .loop b => asgs b
  | .scope b => asgs b
  | .rangeFunc _ ps a b => ps.toList ++ (asgs a ++ asgs b)
  | _ => []

def anyN : List Nat → List Nat → Bool
  | [], _ => false
  | n :: r, l => match memN n l with
    | true => true
    | false => anyN r l

def stays (as_ ns : List Nat) : Nat → List V → List (Nat × V)
  | _, [] => []
  | t, v :: r => match memN t as_ with
    | true => stays as_ ns (t + 1) r
    | false => match v with
      | .dead => stays as_ ns (t + 1) r
      | v => match anyN (names v) ns with
        | true => stays as_ ns (t + 1) r
        | false => (t, v) :: stays as_ ns (t + 1) r

def namesU : List (Nat × V) → List Nat
  | [] => []
  | (_, v) :: r => names v ++ namesU r

def keysOf {α : Type} : List (Nat × α) → List Nat
  | [] => []
  | (n, _) :: r => n :: keysOf r

def slotsU (b : Code) (dr : List Nat) (tm : List V) (up : List (Nat × V)) : List (Nat × V) := up ++ stays (keysOf up ++ asgs b) (namesU up ++ dr) 0 tm

def restH (seen : List Nat) : Hp → Hp
  | [] => []
  | (n, b) :: r => match memN n seen with
    | true => restH seen r
    | false => match b with
      | .gone => restH (n :: seen) r
      | b => (n, b) :: restH (n :: seen) r

def heapU (dr : List Nat) (hp uh : Hp) : Hp := uh ++ restH (keysOf uh ++ dr) hp

def matV : V → V → List (Nat × Nat)
  | .row n, .row m => [(n, m)]
  | .rowp n _ _, .rowp m _ _ => [(n, m)]
  | .ptr n _, .ptr m _ => [(n, m)]
  | .ep n _ _, .ep m _ _ => [(n, m)]
  | _, _ => []

def matL : List V → List V → List (Nat × Nat)
  | a :: r, b :: s => matV a b ++ matL r s
  | _, _ => []

def mat1 : V → V → List (Nat × Nat)
  | .agg cs, .agg ds => matL cs ds
  | a, b => matV a b

def matU : List (Nat × V) → List V → List (Nat × Nat)
  | [], _ => []
  | (t, v) :: r, tm => mat1 v (tm.getD t .dead) ++ matU r tm

def matH : Hp → Hp → List (Nat × Nat)
  | [], _ => []
  | (n, b) :: r, hp => (match b, look hp n with
    | .cells _ cs, some (.cells _ ds) => matL cs ds
    | _, _ => []) ++ matH r hp

def rhoU (up : List (Nat × V)) (uh : Hp) (tm : List V) (hp : Hp) : List (Nat × Nat) := matU up tm ++ matH uh hp

structure FitsU (ns : List Nat) (b : Code) (dr : List Nat) (tm0 : List V) (hp0 : Hp) (up : List (Nat × V)) (uh : Hp) (tm : List V) (hp : Hp) : Prop where
  len : tm.length = tm0.length
  slots : fitsS (rhoU up uh tm hp) tm (slotsU b dr tm0 up)
  rows : fitsH (rhoU up uh tm hp) hp (heapU dr hp0 uh)
  ok : okState (rhoU up uh tm hp) (slotsU b dr tm0 up) (heapU dr hp0 uh) = true
  anc : ancOk (rhoU up uh tm hp) (heapU dr hp0 uh) ns = true

theorem FitsU.fits {ns : List Nat} {b : Code} {dr : List Nat} {tm0 : List V} {hp0 : Hp} {up : List (Nat × V)} {uh : Hp} {tm : List V} {hp : Hp} (h : FitsU ns b dr tm0 hp0 up uh tm hp) : Fits ns tm0.length (rhoU up uh tm hp) (slotsU b dr tm0 up) (heapU dr hp0 uh) tm hp :=
  ⟨h.len, h.slots, h.rows, h.ok, h.anc⟩

section
variable {P : Program} {T : Tr} {W : Nat → List (List Nat)} {ns : List Nat} {ar : BinOp → IntKind → Int → Int → Int} {un : UnOp → IntKind → Int → Int} {cv : IntKind → Int → Int} {mn : Int → Int → Int} {mx : Int → Int → Int} {pl : Int → Int → Int} {mi : Int → Int → Int} {cmp : BinOp → Int → Int → Bool} {nt : Bool → Bool} {beq : Bool → Bool → Bool} {an : Bool → Bool → Bool} {scmp : BinOp → ByteArray → ByteArray → Bool} {cat : ByteArray → ByteArray → ByteArray} {slen : ByteArray → Int} {sbyte : ByteArray → Int → Int} {ssub : ByteArray → Int → Int → ByteArray} {ofB : ByteArray → List V} {toB : List V → ByteArray} {len : List V → Int} {gi : List V → Int → Nat → Int} {gb : List V → Int → Nat → Bool} {gs : List V → Int → Nat → ByteArray} {gl : List V → Int → Nat → List V} {sub : List V → Int → Int → List V} {put : List V → Int → Nat → List V → List V} {app : List V → List V → List V} {ovl : List V → Int → List V → List V} {rep : Int → V → List V} {ne0 : Int → Prop} {ge0 : Int → Prop} {inb : Int → Int → Prop} {bnd : Int → Int → Int → Prop} {room : Int → Nat → Prop} {sroom : ByteArray → ByteArray → Prop} {need : Prop → Prop → Prop} {br : Bool → (Unit → Prop) → (Unit → Prop) → Prop} {call : Nat → List V → (V → Hp → Prop) → Prop} {loop : Code → (Exit → List V → Hp → Prop) → List V → Hp → Prop} {cut : Code → Code → (Exit → List V → Hp → Prop) → List V → Hp → Prop} {nl : List V → (Unit → Prop) → (Unit → Prop) → Prop}

theorem Rules.loopU (R : Rules P T W ns ar un cv mn mx pl mi cmp nt beq an scmp cat slen sbyte ssub ofB toB len gi gb gs gl sub put app ovl rep ne0 ge0 inb bnd room sroom need br call loop cut nl)
    {b : Code} {K : Exit → List V → Hp → Prop} {tm : List V} {hp : Hp} {α : Type} (dr : List Nat) (up : α → List (Nat × V)) (uh : α → Hp) (I : α → Prop) (μ : α → Nat) (a0 : α) (h0 : I a0) (hf : FitsU ns b dr tm hp (up a0) (uh a0) tm hp) (hok : codeOk W b = true)
    (hs : ∀ a, I a → ∀ L : List V → Hp → Prop, (∀ a' tm' hp', I a' → μ a' < μ a → FitsU ns b dr tm hp (up a') (uh a') tm' hp' → L tm' hp') → vc ⟨ar, un, cv, mn, mx, pl, mi, cmp, nt, beq, an, scmp, cat, slen, sbyte, ssub, ofB, toB, len, gi, gb, gs, gl, sub, put, app, ovl, rep, ne0, ge0, inb, bnd, room, sroom, need, br, call, loop, cut, nl⟩ T W b (fun e tm hp => match e with | .normal => L tm hp | e => K e tm hp) (mkS tm.length (slotsU b dr tm (up a))) (heapU dr hp (uh a))) : loop b K tm hp := by
  refine R.loop' tm.length (fun a => slotsU b dr tm (up a)) (fun a => heapU dr hp (uh a)) I (fun a => μ a) a0 _ h0 hf.fits hok (fun a ha L hL => ?_)
  exact hs a ha L (fun a' tm' hp' h1 h2 h3 => hL a' _ tm' hp' h1 h2 h3.fits)
end
end Go.Ab
end
section
/- Rounds as_ a function; answers of which some rows are handed on. No statement of its own. -/

namespace Go.Ab
open Go.RowKit

/-! ### rounds -/
section
variable {S R : Type}

def iterN (f : S → Option (S ⊕ R)) : Nat → S → Option R
  | 0, _ => none
  | n + 1, s => match f s with
    | none => none
    | some (.inl s') => iterN f n s'
    | some (.inr r) => some r

theorem iterN_more {f : S → Option (S ⊕ R)} {r : R} : ∀ {n m : Nat} {s : S}, iterN f n s = some r → n ≤ m → iterN f m s = some r
  | 0, _, _, h, _ => by cases h
  | n + 1, 0, _, _, hm => by omega
  | n + 1, m + 1, s, h, hm => by
    simp only [iterN] at h ⊢
    split at h
    · cases h
    · exact iterN_more h (by omega)
    · exact h

open Classical in
noncomputable def iter (f : S → Option (S ⊕ R)) (s : S) : Option R := if h : ∃ r, ∃ n, iterN f n s = some r then some h.choose else none

theorem iter_iff {f : S → Option (S ⊕ R)} {s : S} {r : R} : iter f s = some r ↔ ∃ n, iterN f n s = some r := by
  unfold iter
  constructor
  · intro h
    split at h
    · rename_i hx
      injection h with h
      rw [← h]
      exact hx.choose_spec
    · cases h
  · rintro ⟨n, hn⟩
    have hx : ∃ r, ∃ n, iterN f n s = some r := ⟨r, n, hn⟩
    rw [dif_pos hx]
    obtain ⟨m, hm⟩ := hx.choose_spec
    have h1 := iterN_more hn (Nat.le_max_left n m)
    have h2 := iterN_more hm (Nat.le_max_right n m)
    rw [h1] at h2
    exact h2.symm

theorem iter_inl {f : S → Option (S ⊕ R)} {s s' : S} (h : f s = some (.inl s')) : iter f s = iter f s' := by
  cases hx : iter f s' with
  | some r =>
    obtain ⟨n, hn⟩ := iter_iff.1 hx
    exact iter_iff.2 ⟨n + 1, by simp only [iterN, h]; exact hn⟩
  | none =>
    cases hy : iter f s with
    | none => rfl
    | some r =>
      obtain ⟨n, hn⟩ := iter_iff.1 hy
      cases n with
      | zero => cases hn
      | succ n =>
        simp only [iterN, h] at hn
        rw [iter_iff.2 ⟨n, hn⟩] at hx
        cases hx

theorem iter_inr {f : S → Option (S ⊕ R)} {s : S} {r : R} (h : f s = some (.inr r)) : iter f s = some r := iter_iff.2 ⟨1, by simp only [iterN, h]⟩

theorem iter_fun {f : S → Option (S ⊕ R)} (I : S → Prop) (μ : S → Nat) (g : S → R) (h : ∀ s, I s → (∃ s', f s = some (.inl s') ∧ I s' ∧ μ s' < μ s ∧ g s' = g s) ∨ f s = some (.inr (g s))) (s : S) (h0 : I s) : iter f s = some (g s) := by
  have key : ∀ n s, μ s < n → I s → iter f s = some (g s) := by
    intro n
    induction n with
    | zero => intro s hs; omega
    | succ n ih =>
      intro s hs hi
      rcases h s hi with ⟨s', h1, h2, h3, h4⟩ | h1
      · rw [iter_inl h1, ih s' (by omega) h2, h4]
      · exact iter_inr h1
  exact key _ s (Nat.lt_succ_self _) h0

theorem iter_of {f : S → Option (S ⊕ R)} (I : S → Prop) (μ : S → Nat) (Q : R → Prop) (h : ∀ s, I s → (∃ s', f s = some (.inl s') ∧ I s' ∧ μ s' < μ s) ∨ ∃ r, f s = some (.inr r) ∧ Q r) (s : S) (h0 : I s) : ∃ r, iter f s = some r ∧ Q r := by
  have key : ∀ n s, μ s < n → I s → ∃ r, iter f s = some r ∧ Q r := by
    intro n
    induction n with
    | zero => intro s hs; omega
    | succ n ih =>
      intro s hs hi
      rcases h s hi with ⟨s', h1, h2, h3⟩ | ⟨r, h1, h2⟩
      · rw [iter_inl h1]; exact ih s' (by omega) h2
      · exact ⟨r, iter_inr h1, h2⟩
  exact key _ s (Nat.lt_succ_self _) h0

theorem iterN_succ {f : S → Option (S ⊕ R)} {n : Nat} {s : S} {r : R} (h : iterN f n s = some r) : ∃ m, n = m + 1 ∧ ∃ y, f s = some y ∧ (match y with | .inl s' => iterN f m s' = some r | .inr q => q = r) := by
  cases n with
  | zero => cases h
  | succ m =>
    simp only [iterN] at h
    refine ⟨m, rfl, ?_⟩
    split at h
    · cases h
    · rename_i s' e; exact ⟨_, e, h⟩
    · rename_i q e; injection h with h; exact ⟨_, e, h⟩
end

theorem need_some {α : Type} {p : Prop} [Decidable p] {x : Option α} {r : α} (h : (if p then x else none) = some r) : p ∧ x = some r := by
  by_cases hp : p
  · rw [if_pos hp] at h; exact ⟨hp, h⟩
  · rw [if_neg hp] at h; cases h

theorem bind_some' {α β : Type} {x : Option α} {f : α → Option β} {r : β} (h : x.bind f = some r) : ∃ a, x = some a ∧ f a = some r := Option.bind_eq_some_iff.1 h

/-! ### answers of which some rows are handed on -/
def ownS (v v' : V) : List (Nat × Nat) := match v' with
  | .row j => match v with
    | .row n => [(j, n)]
    | _ => []
  | _ => []

def ownL : List V → List V → List (Nat × Nat)
  | v :: r, v' :: r' => ownS v v' ++ ownL r r'
  | _, _ => []

def own1 (v v' : V) : List (Nat × Nat) := match v' with
  | .agg ds => match v with
    | .agg cs => ownL cs ds
    | _ => []
  | v' => ownS v v'

def own1L : List V → List V → List (Nat × Nat)
  | v :: r, v' :: r' => own1 v v' ++ own1L r r'
  | _, _ => []

def ownV (v v' : V) : List (Nat × Nat) := match v' with
  | .tup ds => match v with
    | .tup cs => own1L cs ds
    | _ => []
  | v' => own1 v v'

def shwS (v v' : V) : List Nat := match v' with
  | .sl _ _ => match v with
    | .row n => [n]
    | _ => []
  | _ => []

def shwL : List V → List V → List Nat
  | v :: r, v' :: r' => shwS v v' ++ shwL r r'
  | _, _ => []

def shw1 (v v' : V) : List Nat := match v' with
  | .agg ds => match v with
    | .agg cs => shwL cs ds
    | _ => []
  | v' => shwS v v'

def shw1L : List V → List V → List Nat
  | v :: r, v' :: r' => shw1 v v' ++ shw1L r r'
  | _, _ => []

def shwV (v v' : V) : List Nat := match v' with
  | .tup ds => match v with
    | .tup cs => shw1L cs ds
    | _ => []
  | v' => shw1 v v'

def oleS (ρ : List (Nat × Nat)) (h post : Hp) (v v' : V) : Prop := match v' with
  | .row j => match v with
    | .row n => nameR ρ j = n ∧ hasN post j = true
    | _ => False
  | v' => pleS h v v'

def oleL (ρ : List (Nat × Nat)) (h post : Hp) : List V → List V → Prop
  | [], [] => True
  | v :: r, v' :: r' => oleS ρ h post v v' ∧ oleL ρ h post r r'
  | _, _ => False

def ole1 (ρ : List (Nat × Nat)) (h post : Hp) (v v' : V) : Prop := match v' with
  | .agg ds => match v with
    | .agg cs => oleL ρ h post cs ds
    | _ => False
  | v' => oleS ρ h post v v'

def ole1L (ρ : List (Nat × Nat)) (h post : Hp) : List V → List V → Prop
  | [], [] => True
  | v :: r, v' :: r' => ole1 ρ h post v v' ∧ ole1L ρ h post r r'
  | _, _ => False

def ole (ρ : List (Nat × Nat)) (h post : Hp) (v v' : V) : Prop := match v' with
  | .tup ds => match v with
    | .tup cs => ole1L ρ h post cs ds
    | _ => False
  | v' => ole1 ρ h post v v'

def bnS (post : Hp) (v v' : V) : V := match v' with
  | .row j => match v with
    | .nil => match look post j with
      | some (.row _ _) => .row (1000000 + j)
      | _ => v
    | v => v
  | _ => v

def bnL (post : Hp) : List V → List V → List V
  | v :: r, v' :: r' => bnS post v v' :: bnL post r r'
  | vs, _ => vs

def bn1 (post : Hp) (v v' : V) : V := match v' with
  | .agg ds => match v with
    | .agg cs => .agg (bnL post cs ds)
    | v => v
  | v' => bnS post v v'

def bn1L (post : Hp) : List V → List V → List V
  | v :: r, v' :: r' => bn1 post v v' :: bn1L post r r'
  | vs, _ => vs

def bnV (post : Hp) (v v' : V) : V := match v' with
  | .tup ds => match v with
    | .tup cs => .tup (bn1L post cs ds)
    | v => v
  | v' => bn1 post v v'

def bhS (post : Hp) (v v' : V) : Hp := match v' with
  | .row j => match v with
    | .nil => match look post j with
      | some (.row u _) => [(1000000 + j, .row u [])]
      | _ => []
    | _ => []
  | _ => []

def bhL (post : Hp) : List V → List V → Hp
  | v :: r, v' :: r' => bhS post v v' ++ bhL post r r'
  | _, _ => []

def bh1 (post : Hp) (v v' : V) : Hp := match v' with
  | .agg ds => match v with
    | .agg cs => bhL post cs ds
    | _ => []
  | v' => bhS post v v'

def bh1L (post : Hp) : List V → List V → Hp
  | v :: r, v' :: r' => bh1 post v v' ++ bh1L post r r'
  | _, _ => []

def bhV (post : Hp) (v v' : V) : Hp := match v' with
  | .tup ds => match v with
    | .tup cs => bh1L post cs ds
    | _ => []
  | v' => bh1 post v v'

def bhOk (T : Tr) (h : Hp) : Hp → Bool
  | [] => true
  | (n, b) :: r => match bhOk T h r with
    | false => false
    | true => match look (r ++ h) n with
      | some _ => false
      | none => match b with
        | .row u es => match es with
          | [] => match T.look u with
            | some e => Nat.blt 0 e.size
            | none => false
          | _ :: _ => false
        | _ => false

structure OwnOk0 (post : Hp) (v' : V) (v : V) (h : Hp) : Prop where
  rows : fitsH (ownV v v') (frzN h (shwV v v') ++ h) post
  blks : okBlks post post = true
  once : once (ownV v v') post [] [] = true
  live : liveN h (shwV v v') = true
  le : ole (ownV v v') h post v v'

structure OwnOk (T : Tr) (post : Hp) (v' : V) (v : V) (h : Hp) : Prop where
  born : bhOk T h (bhV post v v') = true
  own : OwnOk0 post v' (bnV post v v') (bhV post v v' ++ h)

section
variable {P : Program} {T : Tr} {w0 : Base} {φ : Nat → Option Loc} {w w' : World} {S S' : Nat → Prop} {v v' : V} {hp h post : Hp} {b0 : Nat → Prop} {x : Value}

theorem HOk.fit {ρ : List (Nat × Nat)} {hp' : Hp} (h : HOk T φ b0 w S hp) (f2 : fitsH ρ hp hp') (n2 : okBlks hp' hp' = true) (f3 : Ab.once ρ hp' [] [] = true) : HOk T (fitφ φ ρ hp') b0 w S hp' := by
  have inj := (once_inj f3).2
  have at' : ∀ {n b}, look hp' n = some b → fitφ φ ρ hp' n = φ (nameR ρ n) := fun hb => by
    simp only [fitφ, if_pos (hasN_iff.2 ⟨_, hb⟩)]
  refine ⟨fun n => ?_, fun n b hb => ?_, fun n b l B hb ho hl hB => ?_, fun n m b c l k B hb hc ho ho' hl hk hB hB' => ?_, h.old⟩
  · constructor
    · intro hn
      cases hb : look hp' n with
      | none => rfl
      | some b =>
        rw [at' hb] at hn
        have := (h.dom _).1 hn
        obtain ⟨c, hc, _⟩ := sameB_some (T := T) (φ := φ) (w := w) (S := S) (fitsH_look f2 n b hb)
        rw [hc] at this
        cases this
    · intro hn
      simp only [fitφ]
      rw [if_neg (fun e => by obtain ⟨b, hb⟩ := hasN_iff.1 e; rw [hn] at hb; cases hb)]
  · obtain ⟨c, hl, _, hc⟩ := sameB_some (T := T) (φ := φ) (w := w) (S := S) (fitsH_look f2 n b hb)
    have hB := hc _ (h.blk _ _ hl)
    cases b with
    | cells t cs =>
      obtain ⟨B, arr, h1, h2, h3, h4⟩ := hB
      exact ⟨B, arr, by rw [at' hb]; exact h1, h2, fit_relL cs _ (okBlks_look n2 n _ hb) h3, h4⟩
    | row et es =>
      obtain ⟨hw, e, he, hz, hh⟩ := hB
      refine ⟨hw, e, he, hz, ?_⟩
      rcases hh with ⟨B, off, room, arr, h1, h2, h3, h4, h5, h6⟩ | ⟨h1, h2⟩
      · refine .inl ⟨B, off, room, arr, by rw [at' hb]; exact h1, h2, h3, h4, h5, fun j c hj => ?_⟩
        obtain ⟨y, y1, y2⟩ := h6 j c hj
        exact ⟨y, wt_free c et y (wtL_iff.1 hw c (List.mem_of_getElem? hj)) y1, y2⟩
      · exact .inr ⟨by rw [at' hb]; exact h1, h2⟩
    | ro et es =>
      obtain ⟨hw, e, he, hz, hh⟩ := hB
      refine ⟨hw, e, he, hz, ?_⟩
      rcases hh with ⟨B, off, room, arr, fz, h1, h2, h3, h4, h5, h6⟩ | ⟨h1, h2⟩
      · refine .inl ⟨B, off, room, arr, fz, by rw [at' hb]; exact h1, h2, h3, h4, h5, fun j c hj => ?_⟩
        obtain ⟨y, y1, y2⟩ := h6 j c hj
        exact ⟨y, wt_free c et y (wtL_iff.1 hw c (List.mem_of_getElem? hj)) y1, y2⟩
      · exact .inr ⟨by rw [at' hb]; exact h1, h2⟩
    | gone => trivial
  · rw [at' hb] at hl
    obtain ⟨c, hc, hco, _⟩ := sameB_some (T := T) (φ := φ) (w := w) (S := S) (fitsH_look f2 n b hb)
    exact h.own _ _ l B hc (by rw [hco, renRB_own]; exact ho) hl hB
  · rw [at' hb] at hl
    rw [at' hc] at hk
    obtain ⟨b1, hb1, hbo, _⟩ := sameB_some (T := T) (φ := φ) (w := w) (S := S) (fitsH_look f2 n b hb)
    obtain ⟨c1, hc1, hco, _⟩ := sameB_some (T := T) (φ := φ) (w := w) (S := S) (fitsH_look f2 m c hc)
    exact inj n m b c hb hc (h.inj _ _ _ _ l k B hb1 hc1 (by rw [hbo, renRB_own]; exact ho) (by rw [hco, renRB_own]; exact ho') hl hk hB hB')

theorem oleS_rel (P : Program) (w0 : Base) {ρ : List (Nat × Nat)} (hh : HOk T φ b0 w S h) (hS : ∀ k, S k → S' k) (hO : ∀ k, OB φ (shwS v v') k → S' k) (hr : rel T φ w S v x) (hp : oleS ρ h post v v') : rel T (fitφ φ ρ post) w S' v' x := by
  have free : ∀ {S1 : Nat → Prop} {et es}, (∀ k, S1 k → S' k) → rel T φ w S1 (.sl et es) x → rel T (fitφ φ ρ post) w S' (.sl et es) x := by
    intro S1 et es hS hr
    have hr := rel_mono (LocLe.refl φ) (w' := w) (fun _ _ => rfl) hS _ _ hr
    simp only [rel] at hr ⊢
    obtain ⟨A, cap, h1, h2, h3, h5, h6⟩ := hr
    refine ⟨A, cap, h1, h2, h3, h5, fun hne => ?_⟩
    obtain ⟨ad, e, ha, hl, hz, hs, he⟩ := h6 hne
    exact ⟨ad, e, ha, hl, hz, hs, wtL_free es et 0 ad e.size h5 he⟩
  cases v' with
  | row j =>
    simp only [oleS] at hp
    split at hp
    · rename_i n
      obtain ⟨h1, h2⟩ := hp
      have hj : fitφ φ ρ post j = φ n := by simp only [fitφ, if_pos h2, h1]
      simp only [rel] at hr ⊢
      rw [hj]
      exact hr
    · exact hp.elim
  | sl u es =>
    simp only [oleS, pleS] at hp
    split at hp
    · subst hp
      simp only [rel] at hr ⊢
      subst hr
      exact ⟨none, 0, rfl, Nat.le_refl _, Nat.zero_le _, by simp [wtL], fun hne => absurd rfl hne⟩
    · rename_i n
      have hx := expS_ok (P := P) (w0 := w0) hh hr
      have hO' : ∀ k, (S k ∨ OB φ (rowsS (.row n)) k) → S' k := fun k hk => hk.elim (hS k) (fun hk => hO k (by simpa [shwS, rowsS] using hk))
      split at hp
      · rename_i u' es' hl
        obtain ⟨rfl, rfl⟩ := hp
        simp only [expS, hl] at hx
        exact free hO' hx
      · rename_i u' es' hl
        obtain ⟨rfl, rfl⟩ := hp
        simp only [expS, hl] at hx
        exact free hO' hx
      · exact hp.elim
    · obtain ⟨rfl, rfl⟩ := hp
      exact free hS hr
    · exact hp.elim
  | i k n =>
    simp only [oleS, pleS] at hp
    split at hp
    · obtain ⟨rfl, rfl⟩ := hp; simpa only [rel] using hr
    · exact hp.elim
  | b c =>
    simp only [oleS, pleS] at hp
    split at hp
    · subst hp; simpa only [rel] using hr
    · exact hp.elim
  | str s =>
    simp only [oleS, pleS] at hp
    split at hp
    · subst hp; simpa only [rel] using hr
    · exact hp.elim
  | nil =>
    simp only [oleS, pleS] at hp
    split at hp
    · simpa only [rel] using hr
    · exact hp.elim
  | _ => exact hp.elim

theorem OB_left {a b : List Nat} {k : Nat} (h : OB φ a k) : OB φ (a ++ b) k := by
  obtain ⟨n, hn, h⟩ := h
  exact ⟨n, List.mem_append_left _ hn, h⟩
theorem OB_right {a b : List Nat} {k : Nat} (h : OB φ b k) : OB φ (a ++ b) k := by
  obtain ⟨n, hn, h⟩ := h
  exact ⟨n, List.mem_append_right _ hn, h⟩

theorem oleL_rel (P : Program) (w0 : Base) {ρ : List (Nat × Nat)} (hh : HOk T φ b0 w S h) (hS : ∀ k, S k → S' k) : ∀ {cs ds : List V} {xs : List Value}, (∀ k, OB φ (shwL cs ds) k → S' k) → relL T φ w S cs xs → oleL ρ h post cs ds → relL T (fitφ φ ρ post) w S' ds xs
  | [], [], xs, _, hr, _ => by simpa only [relL] using hr
  | v :: r, v' :: r', xs, hO, hr, hp => by
    simp only [relL, oleL] at hr hp ⊢
    obtain ⟨x, xs', h1, h2, h3⟩ := hr
    exact ⟨x, xs', h1, oleS_rel P w0 hh hS (fun k hk => hO k (by simp only [shwL]; exact OB_left hk)) h2 hp.1, oleL_rel P w0 hh hS (fun k hk => hO k (by simp only [shwL]; exact OB_right hk)) h3 hp.2⟩
  | [], _ :: _, _, _, _, hp => hp.elim
  | _ :: _, [], _, _, _, hp => hp.elim

theorem ole1_rel (P : Program) (w0 : Base) {ρ : List (Nat × Nat)} (hh : HOk T φ b0 w S h) (hS : ∀ k, S k → S' k) (hO : ∀ k, OB φ (shw1 v v') k → S' k) (hr : rel T φ w S v x) (hp : ole1 ρ h post v v') : rel T (fitφ φ ρ post) w S' v' x := by
  cases v' with
  | agg ds =>
    simp only [ole1] at hp
    split at hp
    · simp only [rel] at hr ⊢
      obtain ⟨a, h1, h2, h3⟩ := hr
      exact ⟨a, h1, oleL_rel P w0 hh hS (by simpa only [shw1] using hO) h2 hp, h3⟩
    · exact hp.elim
  | _ => exact oleS_rel P w0 hh hS (by simpa only [shw1] using hO) hr (by simpa only [ole1] using hp)

theorem ole1L_rel (P : Program) (w0 : Base) {ρ : List (Nat × Nat)} (hh : HOk T φ b0 w S h) (hS : ∀ k, S k → S' k) : ∀ {cs ds : List V} {xs : List Value}, (∀ k, OB φ (shw1L cs ds) k → S' k) → relL T φ w S cs xs → ole1L ρ h post cs ds → relL T (fitφ φ ρ post) w S' ds xs
  | [], [], xs, _, hr, _ => by simpa only [relL] using hr
  | v :: r, v' :: r', xs, hO, hr, hp => by
    simp only [relL, ole1L] at hr hp ⊢
    obtain ⟨x, xs', h1, h2, h3⟩ := hr
    exact ⟨x, xs', h1, ole1_rel P w0 hh hS (fun k hk => hO k (by simp only [shw1L]; exact OB_left hk)) h2 hp.1, ole1L_rel P w0 hh hS (fun k hk => hO k (by simp only [shw1L]; exact OB_right hk)) h3 hp.2⟩
  | [], _ :: _, _, _, _, hp => hp.elim
  | _ :: _, [], _, _, _, hp => hp.elim

theorem ole_rel (P : Program) (w0 : Base) {ρ : List (Nat × Nat)} (hh : HOk T φ b0 w S h) (hS : ∀ k, S k → S' k) (hO : ∀ k, OB φ (shwV v v') k → S' k) (hr : rel T φ w S v x) (hp : ole ρ h post v v') : rel T (fitφ φ ρ post) w S' v' x := by
  cases v' with
  | tup ds =>
    simp only [ole] at hp
    split at hp
    · simp only [rel] at hr ⊢
      obtain ⟨a, h1, h2⟩ := hr
      exact ⟨a, h1, ole1L_rel P w0 hh hS (by simpa only [shwV] using hO) h2 hp⟩
    · exact hp.elim
  | _ => exact ole1_rel P w0 hh hS (by simpa only [shwV] using hO) hr (by simpa only [ole] using hp)

theorem HOk.nilrows {h : Hp} (hh : HOk T φ b0 w S h) : ∀ {r : Hp}, bhOk T h r = true → ∃ φ', LocLe φ φ' ∧ HOk T φ' b0 w S (r ++ h) ∧ ∀ n b, (n, b) ∈ r → φ' n = some .nilrow
  | [], _ => ⟨φ, LocLe.refl _, hh, fun n b hb => by cases hb⟩
  | (n, b) :: r, hok => by
    simp only [bhOk] at hok
    split at hok
    · cases hok
    · rename_i hr
      obtain ⟨φ1, l1, h1, m1⟩ := hh.nilrows hr
      split at hok
      · cases hok
      · rename_i hn
        split at hok
        · split at hok
          · split at hok
            · rename_i e he
              have hz : 0 < e.size := by simp [Nat.blt] at hok; omega
              have hφ : φ1 n = none := (h1.dom n).2 hn
              refine ⟨upd φ1 n .nilrow, l1.trans (upd_le hφ), ?_, fun m b hm => ?_⟩
              · refine h1.cons (upd_le hφ) (fun k hk => upd_ne hk) (by rw [upd_self]; simp) (fun _ _ => rfl) (fun _ h => h) (fun k c l B hk hc hc2 hl hB => ⟨rfl, (h1.own k c l B hc hc2 hl hB).2.2⟩) (Nat.le_refl _) ?_ (fun _ l B hl hB => ?_) h1.old
                · exact ⟨by simp [wtL], e, he, hz, .inr ⟨upd_self, rfl⟩⟩
                · rw [upd_self] at hl; injection hl with hl; subst hl; cases hB
              · rcases List.mem_cons.1 hm with hm | hm
                · injection hm with e1 e2; subst e1; exact upd_self
                · by_cases e : m = n
                  · subst e; exact upd_self
                  · rw [upd_ne e]; exact m1 m b hm
            · cases hok
          · cases hok
        · cases hok

theorem bnS_rel {φ' : Nat → Option Loc} (hle : LocLe φ φ') (hn : ∀ n b, (n, b) ∈ bhS post v v' → φ' n = some .nilrow) (hr : rel T φ w S v x) : rel T φ' w S (bnS post v v') x := by
  have up := rel_mono hle (w' := w) (fun _ _ => rfl) (fun _ h => h) _ _ hr
  unfold bnS
  split
  · split
    · split
      · rename_i hl
        simp only [rel] at hr ⊢
        rename_i u _
        refine .inr ⟨hn _ (.row u []) ?_, none, hr⟩
        simp only [bhS, hl]
        exact List.mem_singleton.2 rfl
      · exact up
    · exact up
  · exact up
theorem bnL_rel {φ' : Nat → Option Loc} (hle : LocLe φ φ') : ∀ {cs ds : List V} {xs : List Value}, (∀ n b, (n, b) ∈ bhL post cs ds → φ' n = some .nilrow) → relL T φ w S cs xs → relL T φ' w S (bnL post cs ds) xs
  | [], ds, xs, _, hr => by cases ds <;> simpa only [bnL, relL] using hr
  | v :: r, [], xs, _, hr => by simpa only [bnL] using relL_mono hle (w' := w) (fun _ _ => rfl) (fun _ h => h) _ _ hr
  | v :: r, v' :: r', xs, hn, hr => by
    simp only [bnL, relL] at hr ⊢
    obtain ⟨x, xs', h1, h2, h3⟩ := hr
    exact ⟨x, xs', h1, bnS_rel hle (fun n b hb => hn n b (List.mem_append_left _ hb)) h2, bnL_rel hle (fun n b hb => hn n b (List.mem_append_right _ hb)) h3⟩
theorem bn1_rel {φ' : Nat → Option Loc} (hle : LocLe φ φ') (hn : ∀ n b, (n, b) ∈ bh1 post v v' → φ' n = some .nilrow) (hr : rel T φ w S v x) : rel T φ' w S (bn1 post v v') x := by
  have up := rel_mono hle (w' := w) (fun _ _ => rfl) (fun _ h => h) _ _ hr
  unfold bn1
  split
  · split
    · simp only [rel] at hr ⊢
      obtain ⟨a, h1, h2, h3⟩ := hr
      exact ⟨a, h1, bnL_rel hle (by simpa only [bh1] using hn) h2, h3⟩
    · exact up
  · rename_i h
    refine bnS_rel hle (fun n b hb => hn n b ?_) hr
    unfold bh1
    split
    · exact absurd rfl (h _)
    · exact hb
theorem bn1L_rel {φ' : Nat → Option Loc} (hle : LocLe φ φ') : ∀ {cs ds : List V} {xs : List Value}, (∀ n b, (n, b) ∈ bh1L post cs ds → φ' n = some .nilrow) → relL T φ w S cs xs → relL T φ' w S (bn1L post cs ds) xs
  | [], ds, xs, _, hr => by cases ds <;> simpa only [bn1L, relL] using hr
  | v :: r, [], xs, _, hr => by simpa only [bn1L] using relL_mono hle (w' := w) (fun _ _ => rfl) (fun _ h => h) _ _ hr
  | v :: r, v' :: r', xs, hn, hr => by
    simp only [bn1L, relL] at hr ⊢
    obtain ⟨x, xs', h1, h2, h3⟩ := hr
    exact ⟨x, xs', h1, bn1_rel hle (fun n b hb => hn n b (List.mem_append_left _ hb)) h2, bn1L_rel hle (fun n b hb => hn n b (List.mem_append_right _ hb)) h3⟩
theorem bnV_rel {φ' : Nat → Option Loc} (hle : LocLe φ φ') (hn : ∀ n b, (n, b) ∈ bhV post v v' → φ' n = some .nilrow) (hr : rel T φ w S v x) : rel T φ' w S (bnV post v v') x := by
  have up := rel_mono hle (w' := w) (fun _ _ => rfl) (fun _ h => h) _ _ hr
  unfold bnV
  split
  · split
    · simp only [rel] at hr ⊢
      obtain ⟨a, h1, h2⟩ := hr
      exact ⟨a, h1, bn1L_rel hle (by simpa only [bhV] using hn) h2⟩
    · exact up
  · rename_i h
    refine bn1_rel hle (fun n b hb => hn n b ?_) hr
    unfold bhV
    split
    · exact absurd rfl (h _)
    · exact hb

theorem FnR.own {f : Nat} {args : List V} {res : V} {post : Hp} (hf : FnR P T f args fun v h => OwnOk T post res v h) : Fn P T f args res post := by
  refine ⟨hf.1, fun w S vals hold hr => Calls.weaken (hf.2 w S vals hold hr) (fun e w' hq => ?_)⟩
  obtain ⟨x, φ0, S1, v0, h0, he, h1, g2, g3, h4, g5⟩ := hq
  obtain ⟨φ', l1, h2, l3⟩ := g2.nilrows g5.born
  have h3 := bnV_rel l1 l3 g3
  have ho := g5.own
  generalize bnV post v0 res = v at h3 ho
  generalize bhV post v0 res ++ h0 = h at h2 ho
  obtain ⟨S2, s1, s2, s3, s4⟩ := frzN_ok (shwV v res) h2
  have hx := ole_rel P (.of w) h2 s1 (s3 ho.live) h3 ho.le
  refine ⟨x, _, S2, he, h1, s2.fit ho.rows ho.blks ho.once, hx, fun k hk => ?_⟩
  rcases s4 k hk with hk | ⟨n, et, es, l, g1, g2, g3⟩
  · exact h4 k hk
  · exact .inr (Nat.not_lt.1 (h2.own n _ l k g1 rfl g2 g3).1)

theorem fn_own (htok : TyOk P T) {f : Nat} {fn : Func} {c : Code} (W : Nat → List (List Nat)) {args : List V} {res : V} {post : Hp} (hf : P.funcs[f]? = some fn) (hname : (fn.name == "runtime.NumGoroutine") = false) (hb : fn.body = some c) (hok : codeOk W c = true)
    (h : ∀ ar un cv mn mx pl mi cmp nt beq an scmp cat slen sbyte ssub ofB toB len gi gb gs gl sub put app ovl rep ne0 ge0 inb bnd room sroom need br call loop cut nl, Eqs ar un cv mn mx pl mi cmp nt beq an scmp cat slen sbyte ssub ofB toB len gi gb gs gl sub put app ovl rep ne0 ge0 inb bnd room sroom → Rules P T W [] ar un cv mn mx pl mi cmp nt beq an scmp cat slen sbyte ssub ofB toB len gi gb gs gl sub put app ovl rep ne0 ge0 inb bnd room sroom need br call loop cut nl → ∀ K : V → Hp → Prop, (∀ v h, OwnOk T post res v h → K v h) → vc ⟨ar, un, cv, mn, mx, pl, mi, cmp, nt, beq, an, scmp, cat, slen, sbyte, ssub, ofB, toB, len, gi, gb, gs, gl, sub, put, app, ovl, rep, ne0, ge0, inb, bnd, room, sroom, need, br, call, loop, cut, nl⟩ T W c (retK ⟨ar, un, cv, mn, mx, pl, mi, cmp, nt, beq, an, scmp, cat, slen, sbyte, ssub, ofB, toB, len, gi, gb, gs, gl, sub, put, app, ovl, rep, ne0, ge0, inb, bnd, room, sroom, need, br, call, loop, cut, nl⟩ T fn.results.toList K) (args ++ List.replicate (fn.ntmps - args.length) .dead) []) : Ab.Fn P T f args res post := by
  refine FnR.own (fnr_of_vc htok hf hname hb hok (fun w => ?_))
  generalize ho : real P T (.of w) = o
  have ho := ho.symm
  obtain ⟨ar, un, cv, mn, mx, pl, mi, cmp, nt, beq, an, scmp, cat, slen, sbyte, ssub, ofB, toB, len, gi, gb, gs, gl, sub, put, app, ovl, rep, ne0, ge0, inb, bnd, room, sroom, need, br, call, loop, cut, nl⟩ := o
  refine h _ _ _ _ _ _ _ _ _ _ _ _ _ _ _ _ _ _ _ _ _ _ _ _ _ _ _ _ _ _ _ _ _ _ _ _ _ _ _ _ ?_ ?_ _ (fun v h hp => hp)
  · have e := ho.symm
    unfold real at e
    injection e with e_ar e_un e_cv e_mn e_mx e_pl e_mi e_cmp e_nt e_beq e_an e_scmp e_cat e_slen e_sbyte e_ssub e_ofB e_toB e_len e_gi e_gb e_gs e_gl e_sub e_put e_app e_ovl e_rep e_ne0 e_ge0 e_inb e_bnd e_room e_sroom e_need e_br e_call e_loop e_cut e_nl
    subst e_ar e_un e_cv e_mn e_mx e_pl e_mi e_cmp e_nt e_beq e_an e_scmp e_cat e_slen e_sbyte e_ssub e_ofB e_toB e_len e_gi e_gb e_gs e_gl e_sub e_put e_app e_ovl e_rep e_ne0 e_ge0 e_inb e_bnd e_room e_sroom e_need e_br e_call e_loop e_cut e_nl
    constructor <;> intros <;> rfl
  · exact ⟨fun h1 h2 => real_need ho h1 h2, fun h1 h2 => real_br ho h1 h2, fun h1 h2 h3 => by subst h2; exact real_call ho h1 h3, fun t n et _ h1 h2 h3 h4 h5 => real_born ho h1 h2 h3 h4 h5, fun n0 j n et _ _ _ h0 h1 h2 h3 h4 h5 => real_bornC ho h0 h1 h2 h3 h4 h5, fun h1 h2 => real_nl ho h1 h2, fun ha hb h => real_cut ho htok ha hb h, fun n sl hs ha hb h hk => real_cutF ho htok (fun p hp => by cases hp) n sl hs ha hb h hk, fun n sl hs I μ a0 ρ0 h0 h1 h2 h3 => real_loop_ok ho htok (fun p hp => by cases hp) n sl hs I μ a0 ρ0 h0 h1 h2 h3⟩
end
end Go.Ab
end
section
/- What the printed walks use: the folded operations under their real names, the rules along a function told in Lean. No statement of its own. -/

namespace Go.Ab
open Go.RowKit

def wrapK (k : IntKind) (a : Int) : Int := k.wrap a
def mnI (a b : Int) : Int := if b < a then b else a
def mxI (a b : Int) : Int := if b > a then b else a
def plI (a b : Int) : Int := a + b
def miI (a b : Int) : Int := a - b
def notB' (b : Bool) : Bool := !b
def beqB (a b : Bool) : Bool := a == b
def andB' (a b : Bool) : Bool := a && b
def catS (a b : ByteArray) : ByteArray := a ++ b
def subS (s : ByteArray) (l h : Int) : ByteArray := s.extract l.toNat h.toNat
def toBy (es : List V) : ByteArray := ⟨(es.map fun e => UInt8.ofNat (Ab.asInt e).toNat).toArray⟩
def gI (es : List V) (i : Int) (j : Nat) : Int := Ab.asInt (elAt es i j)
def gB (es : List V) (i : Int) (j : Nat) : Bool := boolOf (elAt es i j)
def gS (es : List V) (i : Int) (j : Nat) : ByteArray := strOf (elAt es i j)
def gL (es : List V) (i : Int) (j : Nat) : List V := listOf (elAt es i j)
def subL (es : List V) (l h : Int) : List V := (es.take h.toNat).drop l.toNat
def putL (es : List V) (i : Int) (j : Nat) (cs : List V) : List V := es.set i.toNat (putCells (es.getD i.toNat .dead) j cs)
def appL (es xs : List V) : List V := es ++ xs
def repL (n : Int) (v : V) : List V := List.replicate n.toNat v
def Ne0 (n : Int) : Prop := n ≠ 0
def Ge0 (n : Int) : Prop := 0 ≤ n
def Inb (i n : Int) : Prop := 0 ≤ i ∧ i < n
def Bnd (l h n : Int) : Prop := 0 ≤ l ∧ l ≤ h ∧ h ≤ n
def Room (n : Int) (b : Nat) : Prop := n ≤ 140737488355328 ∧ n.toNat * b ≤ 140737488355328
def Sroom (a b : ByteArray) : Prop := a.size + b.size ≤ 9223372036854775807
instance (n : Int) : Decidable (Ne0 n) := by unfold Ne0; infer_instance
instance (n : Int) : Decidable (Ge0 n) := by unfold Ge0; infer_instance
instance (i n : Int) : Decidable (Inb i n) := by unfold Inb; infer_instance
instance (l h n : Int) : Decidable (Bnd l h n) := by unfold Bnd; infer_instance
instance (n : Int) (b : Nat) : Decidable (Room n b) := by unfold Room; infer_instance
instance (a b : ByteArray) : Decidable (Sroom a b) := by unfold Sroom; infer_instance

structure Real (ar : BinOp → IntKind → Int → Int → Int) (un : UnOp → IntKind → Int → Int) (cv : IntKind → Int → Int) (mn : Int → Int → Int) (mx : Int → Int → Int) (pl : Int → Int → Int) (mi : Int → Int → Int) (cmp : BinOp → Int → Int → Bool) (nt : Bool → Bool) (beq : Bool → Bool → Bool) (an : Bool → Bool → Bool) (scmp : BinOp → ByteArray → ByteArray → Bool) (cat : ByteArray → ByteArray → ByteArray) (slen : ByteArray → Int) (sbyte : ByteArray → Int → Int) (ssub : ByteArray → Int → Int → ByteArray) (ofB : ByteArray → List V) (toB : List V → ByteArray) (len : List V → Int) (gi : List V → Int → Nat → Int) (gb : List V → Int → Nat → Bool) (gs : List V → Int → Nat → ByteArray) (gl : List V → Int → Nat → List V) (sub : List V → Int → Int → List V) (put : List V → Int → Nat → List V → List V) (app : List V → List V → List V) (ovl : List V → Int → List V → List V) (rep : Int → V → List V) (ne0 : Int → Prop) (ge0 : Int → Prop) (inb : Int → Int → Prop) (bnd : Int → Int → Int → Prop) (room : Int → Nat → Prop) (sroom : ByteArray → ByteArray → Prop) : Prop where
  har : ar = arReal
  hun : un = unReal
  hcv : cv = wrapK
  hmn : mn = mnI
  hmx : mx = mxI
  hpl : pl = plI
  hmi : mi = miI
  hcmp : cmp = cmpLit
  hnt : nt = notB'
  hbeq : beq = beqB
  han : an = andB'
  hscmp : scmp = strCmp
  hcat : cat = catS
  hslen : slen = slenI
  hsbyte : sbyte = sbyteI
  hssub : ssub = subS
  hofB : ofB = strBytes
  htoB : toB = toBy
  hlen : len = lenI
  hgi : gi = gI
  hgb : gb = gB
  hgs : gs = gS
  hgl : gl = gL
  hsub : sub = subL
  hput : put = putL
  happ : app = appL
  hovl : ovl = ovlReal
  hrep : rep = repL
  hne0 : ne0 = Ne0
  hge0 : ge0 = Ge0
  hinb : inb = Inb
  hbnd : bnd = Bnd
  hroom : room = Room
  hsroom : sroom = Sroom

section
variable {P : Program} {T : Tr} {W : Nat → List (List Nat)} {ns : List Nat} {ar : BinOp → IntKind → Int → Int → Int} {un : UnOp → IntKind → Int → Int} {cv : IntKind → Int → Int} {mn : Int → Int → Int} {mx : Int → Int → Int} {pl : Int → Int → Int} {mi : Int → Int → Int} {cmp : BinOp → Int → Int → Bool} {nt : Bool → Bool} {beq : Bool → Bool → Bool} {an : Bool → Bool → Bool} {scmp : BinOp → ByteArray → ByteArray → Bool} {cat : ByteArray → ByteArray → ByteArray} {slen : ByteArray → Int} {sbyte : ByteArray → Int → Int} {ssub : ByteArray → Int → Int → ByteArray} {ofB : ByteArray → List V} {toB : List V → ByteArray} {len : List V → Int} {gi : List V → Int → Nat → Int} {gb : List V → Int → Nat → Bool} {gs : List V → Int → Nat → ByteArray} {gl : List V → Int → Nat → List V} {sub : List V → Int → Int → List V} {put : List V → Int → Nat → List V → List V} {app : List V → List V → List V} {ovl : List V → Int → List V → List V} {rep : Int → V → List V} {ne0 : Int → Prop} {ge0 : Int → Prop} {inb : Int → Int → Prop} {bnd : Int → Int → Int → Prop} {room : Int → Nat → Prop} {sroom : ByteArray → ByteArray → Prop} {need : Prop → Prop → Prop} {br : Bool → (Unit → Prop) → (Unit → Prop) → Prop} {call : Nat → List V → (V → Hp → Prop) → Prop} {loop : Code → (Exit → List V → Hp → Prop) → List V → Hp → Prop} {cut : Code → Code → (Exit → List V → Hp → Prop) → List V → Hp → Prop} {nl : List V → (Unit → Prop) → (Unit → Prop) → Prop}

theorem Eqs.D (E : Eqs ar un cv mn mx pl mi cmp nt beq an scmp cat slen sbyte ssub ofB toB len gi gb gs gl sub put app ovl rep ne0 ge0 inb bnd room sroom) : Real ar un cv mn mx pl mi cmp nt beq an scmp cat slen sbyte ssub ofB toB len gi gb gs gl sub put app ovl rep ne0 ge0 inb bnd room sroom := by
  constructor
  · exact E.har
  · exact E.hun
  · funext a b; exact E.hcv a b
  · funext a b; exact E.hmn a b
  · funext a b; exact E.hmx a b
  · funext a b; exact E.hpl a b
  · funext a b; exact E.hmi a b
  · exact E.hcmp
  · funext a; exact E.hnt a
  · funext a b; exact E.hbeq a b
  · funext a b; exact E.han a b
  · exact E.hscmp
  · funext a b; exact E.hcat a b
  · funext a; exact E.hslen a
  · funext a b; exact E.hsbyte a b
  · funext a b c; exact E.hssub a b c
  · exact E.hofB
  · funext a; exact E.htoB a
  · funext a; exact E.hlen a
  · funext a b c; exact E.hgi a b c
  · funext a b c; exact E.hgb a b c
  · funext a b c; exact E.hgs a b c
  · funext a b c; exact E.hgl a b c
  · funext a b c; exact E.hsub a b c
  · funext a b c d; exact E.hput a b c d
  · funext a b; exact E.happ a b
  · exact E.hovl
  · funext a b; exact E.hrep a b
  · funext a; exact E.hne0 a
  · funext a; exact E.hge0 a
  · funext a b; exact E.hinb a b
  · funext a b c; exact E.hbnd a b c
  · funext a b; exact E.hroom a b
  · funext a b; exact E.hsroom a b

theorem Rules.brD (R : Rules P T W ns ar un cv mn mx pl mi cmp nt beq an scmp cat slen sbyte ssub ofB toB len gi gb gs gl sub put app ovl rep ne0 ge0 inb bnd room sroom need br call loop cut nl) {α : Type} {c c' : Bool} {A B : Unit → Prop} {X Y : Option α} {r : α} (h : (if c' = true then X else Y) = some r) (e : c = c') (h1 : X = some r → A ()) (h2 : Y = some r → B ()) : br c A B := by
  subst e
  refine R.br' (fun hc => h1 ?_) (fun hc => h2 ?_)
  · rw [if_pos hc] at h; exact h
  · rw [if_neg (by rw [hc]; exact Bool.false_ne_true)] at h; exact h
theorem Rules.needD (R : Rules P T W ns ar un cv mn mx pl mi cmp nt beq an scmp cat slen sbyte ssub ofB toB len gi gb gs gl sub put app ovl rep ne0 ge0 inb bnd room sroom need br call loop cut nl) {α : Type} {p p' q : Prop} [Decidable p'] {X : Option α} {r : α} (h : (if p' then X else none) = some r) (e : p = p') (h1 : X = some r → q) : need p q := by
  subst e
  obtain ⟨h2, h3⟩ := need_some h
  exact R.need' h2 (h1 h3)
theorem Rules.callD (R : Rules P T W ns ar un cv mn mx pl mi cmp nt beq an scmp cat slen sbyte ssub ofB toB len gi gb gs gl sub put app ovl rep ne0 ge0 inb bnd room sroom need br call loop cut nl) {α β : Type} {f : Nat} {args : List V} {K : V → Hp → Prop} {x : Option α} {F : α → Option β} {r : β} (h : x.bind F = some r) (k : ∀ a, x = some a → F a = some r → call f args K) : call f args K := by
  obtain ⟨a, h1, h2⟩ := bind_some' h
  exact k a h1 h2
theorem Rules.loopD (R : Rules P T W ns ar un cv mn mx pl mi cmp nt beq an scmp cat slen sbyte ssub ofB toB len gi gb gs gl sub put app ovl rep ne0 ge0 inb bnd room sroom need br call loop cut nl) {b : Code} {K : Exit → List V → Hp → Prop} {tm : List V} {hp : Hp} {S A β : Type} {f : S → Option (S ⊕ A)} {s0 : S} {F : A → Option β} {r : β} (h : (iter f s0).bind F = some r) (k : ∀ s x, s = s0 → iter f s = some x → F x = some r → loop b K tm hp) : loop b K tm hp := by
  obtain ⟨a, h1, h2⟩ := bind_some' h
  exact k s0 a rfl h1 h2
theorem Rules.loopI (R : Rules P T W ns ar un cv mn mx pl mi cmp nt beq an scmp cat slen sbyte ssub ofB toB len gi gb gs gl sub put app ovl rep ne0 ge0 inb bnd room sroom need br call loop cut nl) {b : Code} {K : Exit → List V → Hp → Prop} {tm : List V} {hp : Hp} {S A : Type} {f : S → Option (S ⊕ A)} {s0 : S} {x : A} (hx : iter f s0 = some x) (dr : List Nat) (up : S → List (Nat × V)) (uh : S → Hp) (hf : FitsU ns b dr tm hp (up s0) (uh s0) tm hp) (hok : codeOk W b = true)
    (hs : ∀ s m y, f s = some y → (∀ s', y = .inl s' → iterN f m s' = some x) → (∀ q, y = .inr q → q = x) → ∀ L : List V → Hp → Prop, (∀ s' tm' hp', iterN f m s' = some x → FitsU ns b dr tm hp (up s') (uh s') tm' hp' → L tm' hp') → vc ⟨ar, un, cv, mn, mx, pl, mi, cmp, nt, beq, an, scmp, cat, slen, sbyte, ssub, ofB, toB, len, gi, gb, gs, gl, sub, put, app, ovl, rep, ne0, ge0, inb, bnd, room, sroom, need, br, call, loop, cut, nl⟩ T W b (fun e tm hp => match e with | .normal => L tm hp | e => K e tm hp) (mkS tm.length (slotsU b dr tm (up s))) (heapU dr hp (uh s))) : loop b K tm hp := by
  obtain ⟨n, hn⟩ := iter_iff.1 hx
  refine R.loopU dr (fun a : Nat × S => up a.2) (fun a => uh a.2) (fun a => iterN f a.1 a.2 = some x) (fun a => a.1) (n, s0) hn hf hok (fun a ha L hL => ?_)
  obtain ⟨n, s⟩ := a
  obtain ⟨m, rfl, y, hy, hz⟩ := iterN_succ ha
  exact hs s m y hy (fun s' e => by subst e; exact hz) (fun q e => by subst e; exact hz) L (fun s' tm' hp' h1 h2 => hL (m, s') tm' hp' h1 (Nat.lt_succ_self _) h2)
theorem Rules.cutB (R : Rules P T W ns ar un cv mn mx pl mi cmp nt beq an scmp cat slen sbyte ssub ofB toB len gi gb gs gl sub put app ovl rep ne0 ge0 inb bnd room sroom need br call loop cut nl) {a b : Code} {K : Exit → List V → Hp → Prop} {tm : List V} {hp : Hp} {Y S β : Type} {x : Option Y} {F : Y → Option β} {r : β} (inj : S → Y) (hij : ∀ p q, inj p = inj q → p = q) (h : x.bind F = some r) (dr : List Nat) (up : S → List (Nat × V)) (uh : S → Hp) (ha : codeOk W a = true) (hb : codeOk W b = true)
    (hs : ∀ y, x = some y → F y = some r → ∀ L : List V → Hp → Prop, (∀ p tm' hp', y = inj p → FitsU ns a dr tm hp (up p) (uh p) tm' hp' → L tm' hp') → vc ⟨ar, un, cv, mn, mx, pl, mi, cmp, nt, beq, an, scmp, cat, slen, sbyte, ssub, ofB, toB, len, gi, gb, gs, gl, sub, put, app, ovl, rep, ne0, ge0, inb, bnd, room, sroom, need, br, call, loop, cut, nl⟩ T W a (fun e tm hp => match e with | .normal => L tm hp | e => K e tm hp) tm hp)
    (hk : ∀ p, F (inj p) = some r → vc ⟨ar, un, cv, mn, mx, pl, mi, cmp, nt, beq, an, scmp, cat, slen, sbyte, ssub, ofB, toB, len, gi, gb, gs, gl, sub, put, app, ovl, rep, ne0, ge0, inb, bnd, room, sroom, need, br, call, loop, cut, nl⟩ T W b K (mkS tm.length (slotsU a dr tm (up p))) (heapU dr hp (uh p))) : cut a b K tm hp := by
  obtain ⟨y, h1, h2⟩ := bind_some' h
  by_cases hy : ∃ p, y = inj p
  · obtain ⟨p, rfl⟩ := hy
    refine R.cutF tm.length (slotsU a dr tm (up p)) (heapU dr hp (uh p)) ha hb (fun L hL => hs _ h1 h2 (fun tm' hp' => L tm' hp') (fun q tm' hp' e hf => ?_)) (hk p h2)
    have e := hij _ _ e; subst e; exact hL _ tm' hp' hf.fits
  · exact R.cut' ha hb (hs y h1 h2 _ (fun p tm' hp' e _ => absurd ⟨p, e⟩ hy))
theorem inl_some {S A : Type} {a : S} {y : S ⊕ A} {f : S → Option (S ⊕ A)} {m : Nat} {x : A} (h : some (Sum.inl a) = some y) (hi : ∀ s', y = .inl s' → iterN f m s' = some x) : ∃ s, s = a ∧ iterN f m s = some x := by
  injection h with h
  exact ⟨a, rfl, hi a h.symm⟩
theorem inr_some {S A : Type} {a x : A} {y : S ⊕ A} (h : some (Sum.inr a) = some y) (hq : ∀ q, y = .inr q → q = x) : x = a := by
  injection h with h
  exact (hq a h.symm).symm
theorem ret_some {α : Type} {a r : α} (h : some a = some r) : r = a := by injection h with h; exact h.symm
theorem jn_some {Y S : Type} {y : Y} {a : S} (f : S → Y) (h : some (f a) = some y) : ∃ s, s = a ∧ y = f s := by injection h with h; exact ⟨a, rfl, h.symm⟩
open Classical in
noncomputable def nlD {α : Type} (es : List V) (A B : Option α) : Option α := if es = [] ∧ A ≠ B then none else B
theorem nlD_ne {α : Type} {es : List V} {A B : Option α} (h : es ≠ []) : nlD es A B = B := by unfold nlD; rw [if_neg (fun k => h k.1)]
theorem nlD_eq {α : Type} {es : List V} {A B : Option α} (h : A = B) : nlD es A B = B := by unfold nlD; rw [if_neg (fun k => k.2 h)]
theorem Rules.nlD (R : Rules P T W ns ar un cv mn mx pl mi cmp nt beq an scmp cat slen sbyte ssub ofB toB len gi gb gs gl sub put app ovl rep ne0 ge0 inb bnd room sroom need br call loop cut nl) {α : Type} {es es' : List V} {A B : Unit → Prop} {X Y : Option α} {r : α} (h : nlD es' X Y = some r) (e : es = es') (h1 : es' = [] → X = some r → A ()) (h2 : Y = some r → B ()) : nl es A B := by
  subst e
  unfold Go.Ab.nlD at h
  split at h
  · cases h
  · rename_i hn
    refine R.nl' (fun he => h1 he ?_) (h2 h)
    by_cases k : X = Y
    · rw [k]; exact h
    · exact absurd ⟨he, k⟩ hn
def fitA : List V → List V → Prop
  | [], [] => True
  | a :: r, b :: s => fitV a b ∧ fitA r s
  | _, _ => False
theorem fitA_rel {φ : Nat → Option Loc} {w : World} {S : Nat → Prop} : ∀ {as_ bs : List V} {xs : List Value}, fitA as_ bs → relL T φ w S as_ xs → relL T φ w S bs xs
  | [], [], xs, _, h => h
  | a :: r, b :: s, xs, hf, h => by
    simp only [relL, fitA] at h hf ⊢
    obtain ⟨x, xs', h1, h2, h3⟩ := h
    exact ⟨x, xs', h1, fitV_rel hf.1 h2, fitA_rel hf.2 h3⟩
  | [], _ :: _, _, hf, _ => hf.elim
  | _ :: _, [], _, hf, _ => hf.elim
theorem Fn.args_le {f : Nat} {args args' : List V} {v : V} {h : Hp} (hf : Ab.Fn P T f args' v h) (ha : fitA args args') : Ab.Fn P T f args v h :=
  ⟨hf.1, fun w S vals hS hr => hf.2 w S vals hS (fitA_rel ha hr)⟩
theorem Rules.callN (R : Rules P T W ns ar un cv mn mx pl mi cmp nt beq an scmp cat slen sbyte ssub ofB toB len gi gb gs gl sub put app ovl rep ne0 ge0 inb bnd room sroom need br call loop cut nl) {f : Nat} {args args' : List V} {K : V → Hp → Prop} {v : V} {h : Hp} (hf : Ab.Fn P T f args' v h) (ha : fitA args args') (k : K v h) : call f args K := R.call' (hf.args_le ha) rfl k
def W0 (r : Nat) : List (List Nat) := []
theorem none_some {α : Type} {a : α} (h : (none : Option α) = some a) : False := by cases h
theorem if_tt {α : Type} (a b : α) : (if true = true then a else b) = a := if_pos rfl
theorem if_ff {α : Type} (a b : α) : (if false = true then a else b) = b := if_neg Bool.false_ne_true
end
end Go.Ab
end
section
/- The contracts of layer 03 that were proved by hand, as_ the printed walks ask for them. No statement of its own. -/

namespace Go.Proofs.Ytmpdimigpaogkaa
open Go.Ab Go.RowKit Go.Proofs.Ytmpdimigpaogkaa.G Go.Proofs.YtmpdimigpaogkaaW.PrintWords Go.Proofs.YtmpdimigpaogkaaW.PrintLast
theorem if_some {α : Type} {p : Prop} {d : Decidable p} {x r : α} (h : (@ite _ p d (some x) none) = some r) : p ∧ x = r := by
  split at h
  · rename_i hp; injection h with h; exact ⟨hp, h⟩
  · cases h
def unI (es : List V) : List Int := es.map Ab.asInt
theorem unI_ints (l : List Int) : unI (ints l) = l := by simp [unI, ints, Ab.asInt, Function.comp_def]
theorem unI_u8s (l : List Int) : unI (u8s l) = l := by simp [unI, u8s, Ab.asInt, Function.comp_def]
open Classical
noncomputable def d48 (a0_0 : Int) (a0_1 : Bool) : Option Int := some (if tyOk a0_0 = true then 0 else 10)
theorem w48 (a0_0 : Int) (a0_1 : Bool) (r : Int) (h : d48 a0_0 a0_1 = some r) : Ab.Fn Try.prog TT 48 [.agg [.i .i64 a0_0, .b a0_1]] (.i .i64 r) [] := by
  injection h with h; subst h; exact f48_ok a0_0 a0_1
noncomputable def d69 (a0_0 : Int) (a0_1 : Bool) (a1 : Int) : Option Int := if tyOk a0_0 = true then some (wrapT a0_0 a0_1 a1) else none
theorem w69 (a0_0 : Int) (a0_1 : Bool) (a1 : Int) (r : Int) (h : d69 a0_0 a0_1 a1 = some r) : Ab.Fn Try.prog TT 69 [.agg [.i .i64 a0_0, .b a0_1], .i .i64 a1] (.i .i64 r) [] := by
  obtain ⟨h1, h2⟩ := if_some h; subst h2; exact f69_ok a0_0 a0_1 a1 h1
noncomputable def d47 (a0_0 : List V) (a0_1 : List V) (a1 : Int) (a2 : Int) (a3 : Int) : Option (Int × Int) :=
  if a0_0 = ints (unI a0_0) ∧ a0_1 = u8s (unI a0_1) ∧ (unI a0_1).length ≤ 64 * (unI a0_0).length ∧ a2 ≤ 9223372036854775807 then some ((needs (unI a0_0) (unI a0_1).length a1 a3 a2.toNat 0).getD (0, 0)) else none
theorem w47 (a0_0 : List V) (a0_1 : List V) (a1 : Int) (a2 : Int) (a3 : Int) (r : Int × Int) (h : d47 a0_0 a0_1 a1 a2 a3 = some r) : Ab.Fn Try.prog TT 47 [.agg [.sl 3 a0_0, .sl 5 a0_1], .i .i64 a1, .i .i64 a2, .i .i64 a3] (.agg [.i .i64 r.1, .i .i64 r.2]) [] := by
  obtain ⟨⟨h1, h2, h3, h4⟩, h5⟩ := if_some h
  subst h5
  have := f47_ok (unI a0_0) (unI a0_1) a1 a2 a3 ⟨h3, h4⟩
  rwa [← h1, ← h2] at this
noncomputable def d36 (a0_0 : List V) (a0_1 : List V) (a1 : Int) (a2 : Int) : Option (ByteArray × Int × Int × Int) :=
  if a0_0 = ints (unI a0_0) ∧ a0_1 = u8s (unI a0_1) then mem_String.f (unI a0_0) (unI a0_1) a1 a2 else none
theorem w36 (a0_0 : List V) (a0_1 : List V) (a1 : Int) (a2 : Int) (r : ByteArray × Int × Int × Int) (h : d36 a0_0 a0_1 a1 a2 = some r) : Ab.Fn Try.prog TT 36 [.agg [.sl 3 a0_0, .sl 5 a0_1], .i .i64 a1, .i .i64 a2] (.tup [.str r.1, .agg [.i .i64 r.2.1, .i .i64 r.2.2.1], .i .i64 r.2.2.2]) [] := by
  unfold d36 at h
  split at h
  · rename_i h1
    have := f36_ok (unI a0_0) (unI a0_1) a1 a2 r.1 r.2.1 r.2.2.1 r.2.2.2 h
    rwa [← h1.1, ← h1.2] at this
  · cases h
noncomputable def d52 (a0_0 : List V) (a0_1 : List V) : Option (List V × List V) :=
  if a0_0 = ints (unI a0_0) ∧ a0_1 = u8s (unI a0_1) ∧ (unI a0_0).length ≤ 32 ∧ (unI a0_1).length = 64 * (unI a0_0).length then some (a0_0, a0_1) else none
theorem w52 (a0_0 : List V) (a0_1 : List V) (r : List V × List V) (h : d52 a0_0 a0_1 = some r) : Ab.Fn Try.prog TT 52 [.agg [.sl 3 a0_0, .sl 5 a0_1]] (.agg [.row 0, .row 1]) [(1, .row 5 r.2), (0, .row 3 r.1)] := by
  obtain ⟨⟨h1, h2, h3, h4⟩, h5⟩ := if_some h
  subst h5
  have := f52_ok (unI a0_0) (unI a0_1) ⟨h3, h4⟩
  rwa [← h1, ← h2] at this
theorem w52s (a0_0 : List V) (a0_1 : List V) (r : List V × List V) (h : d52 a0_0 a0_1 = some r) : Ab.Fn Try.prog TT 52 [.agg [.sl 3 a0_0, .sl 5 a0_1]] (.agg [.sl 3 r.1, .sl 5 r.2]) [] :=
  (w52 a0_0 a0_1 r h).pure (by simp [ple, ple1, ple1L, pleL, pleS, Ab.look])
end Go.Proofs.Ytmpdimigpaogkaa
end
section
/- Plain laws of the memory of layer 03: spaces' checks, faults, bytes in order. No statement of its own. -/

namespace Go.Proofs.Ytmpdimigpaogkaa
open Go.Ab Go.RowKit Go.Proofs.Ytmpdimigpaogkaa.G Go.Proofs.YtmpdimigpaogkaaW.PrintWords Go.Proofs.YtmpdimigpaogkaaW.PrintLast
theorem wr {a : Int} (h : -9223372036854775808 ≤ a) (k : a < 9223372036854775808) : IntKind.i64.wrap a = a := by
  simp [IntKind.wrap, IntKind.bits, IntKind.signed]
  omega
theorem li {P : List Int} {es : List V} (h : ints P = es) : lenI es = P.length := by rw [lenI_eq, ← h]; simp [ints]
theorem lu {P : List Int} {es : List V} (h : u8s P = es) : lenI es = P.length := by rw [lenI_eq, ← h]; simp [u8s]
theorem set_nums {k : IntKind} (P : List Int) (i : Nat) (v : Int) : (P.map fun n => V.i k n).set i (putCells ((P.map fun n => V.i k n).getD i .dead) 0 [.i k v]) = (P.set i v).map fun n => V.i k n := by
  by_cases h : i < P.length
  · have e : (P.map fun n => V.i k n).getD i .dead = V.i k P[i] := by simp [List.getD_eq_getElem?_getD, h]
    rw [e]
    simp [putCells, List.map_set]
  · rw [List.set_eq_of_length_le (by simpa using Nat.le_of_not_lt h), List.set_eq_of_length_le (Nat.le_of_not_lt h)]
def rdI (l : List Int) (i : Int) : Int := l.getD i.toNat 0
theorem gi_nums {k : IntKind} (P : List Int) (i : Int) : Ab.asInt (elAt (P.map fun n => V.i k n) i 0) = rdI P i := by
  simp only [elAt, rdI, List.getD_eq_getElem?_getD, List.getElem?_map]
  cases h : P[i.toNat]? <;> simp [cellAt, Ab.asInt]
theorem checkV_0 {P B : List Int} (h : checkV P B = 0) : P.length ≤ 32 ∧ B.length = 64 * P.length ∧ P.all permOk = true := by
  unfold checkV at h
  split at h
  · assumption
  · cases h
theorem need1_kind {P : List Int} {len a perm : Int} {f : Int × Int} (hp : perm = 0 ∨ perm = 1 ∨ perm = 2 ∨ perm = 4) (h : need1 P len a perm = some f) : f.1 ≠ 0 := by
  unfold need1 at h
  split at h
  · split at h
    · cases h
    · rename_i hne
      cases h
      rcases hp with rfl | rfl | rfl | rfl
      · exact absurd (by simp [Go.bits]; decide) hne
      all_goals simp [kindOf]
  · cases h; show (1 : Int) ≠ 0; decide
theorem needs_kind {P : List Int} {len a perm : Int} {f : Int × Int} (hp : perm = 0 ∨ perm = 1 ∨ perm = 2 ∨ perm = 4) : ∀ m i, needs P len a perm m i = some f → f.1 ≠ 0
  | 0, _, h => by cases h
  | m + 1, i, h => by
    unfold needs at h
    split at h
    · rename_i f' hf
      cases h
      exact need1_kind hp hf
    · exact needs_kind hp m _ h
theorem needs_none {P : List Int} {len a perm : Int} : ∀ m i, needs P len a perm m i = none → ∀ j : Nat, j < m → need1 P len (wrap64 (a + (i + j))) perm = none
  | 0, _, _, j, hj => by omega
  | m + 1, i, h, j, hj => by
    unfold needs at h
    split at h
    · cases h
    · rename_i hn
      cases j with
      | zero => simpa using hn
      | succ j =>
        have := needs_none m _ h j (by omega)
        rw [show i + ((j + 1 : Nat) : Int) = i + 1 + (j : Int) from by omega]
        exact this
theorem needs_of_none {P : List Int} {len a perm : Int} : ∀ m i, (∀ j : Nat, j < m → need1 P len (wrap64 (a + (i + j))) perm = none) → needs P len a perm m i = none
  | 0, _, _ => rfl
  | m + 1, i, h => by
    unfold needs
    have h0 := h 0 (by omega)
    rw [show i + ((0 : Nat) : Int) = i from by omega] at h0
    rw [h0]
    exact needs_of_none m _ (fun j hj => by rw [show i + 1 + (j : Int) = i + ((j + 1 : Nat) : Int) from by omega]; exact h (j + 1) (by omega))
theorem wf64 {a : Int} (h : (Lit.int .i64 a).wf = true) : -9223372036854775808 ≤ a ∧ a ≤ 9223372036854775807 := by
  simp only [Lit.wf, Bool.and_eq_true, decide_eq_true_eq] at h
  have h1 : IntKind.i64.min = -9223372036854775808 := by decide
  have h2 : IntKind.i64.max = 9223372036854775807 := by decide
  omega
theorem need1_range {P : List Int} {len a perm : Int} (h : need1 P len a perm = none) : 0 ≤ a ∧ a < len := by
  unfold need1 at h
  split at h
  · assumption
  · cases h
theorem needs_range {P : List Int} {len a perm : Int} {m : Nat} (ha : -9223372036854775808 ≤ a ∧ a ≤ 9223372036854775807) (hl : len ≤ 2048) (hm : 0 < m) (hm2 : m ≤ 4000) (h : needs P len a perm m 0 = none) : 0 ≤ a ∧ a + m ≤ len := by
  have h0 := need1_range (needs_none m 0 h 0 hm)
  have h1 := need1_range (needs_none m 0 h (m - 1) (by omega))
  unfold wrap64 at h0 h1
  omega
def fault (P B : List Int) (at_ n perm : Int) : Int × Int := (needs P B.length at_ perm n.toNat 0).getD (0, 0)
theorem fault_0 {P B : List Int} {at_ n perm : Int} (hp : perm = 0 ∨ perm = 1 ∨ perm = 2 ∨ perm = 4) (h : (fault P B at_ n perm).1 = 0) : needs P B.length at_ perm n.toNat 0 = none := by
  unfold fault at h
  cases hn : needs P B.length at_ perm n.toNat 0 with
  | none => rfl
  | some f => rw [hn] at h; exact absurd h (needs_kind hp _ _ hn)
def ln (l : List Int) : Int := l.length
theorem ln_nn (l : List Int) : 0 ≤ ln l := by unfold ln; omega
theorem lnu {P : List Int} {es : List V} (h : u8s P = es) : lenI es = ln P := lu h
theorem lni {P : List Int} {es : List V} (h : ints P = es) : lenI es = ln P := li h
theorem fault_in {P B : List Int} {at_ n perm : Int} (hc : checkV P B = 0) (ha : -9223372036854775808 ≤ at_ ∧ at_ ≤ 9223372036854775807) (h0 : 0 < n) (h1 : n ≤ 2048) (hp : perm = 0 ∨ perm = 1 ∨ perm = 2 ∨ perm = 4) (h : (fault P B at_ n perm).1 = 0) : 0 ≤ at_ ∧ at_ + n ≤ ln B ∧ ln B ≤ 2048 := by
  unfold ln
  obtain ⟨v1, v2, _⟩ := checkV_0 hc
  have := needs_range ha (by omega) (by omega) (by omega) (fault_0 hp h)
  omega
theorem nums_sub {k : IntKind} (P : List Int) (l h : Int) : ((P.map fun n => V.i k n).take h.toNat).drop l.toNat = ((P.take h.toNat).drop l.toNat).map fun n => V.i k n := by
  rw [List.map_drop, List.map_take]
def leBytes : Nat → Int → List Int
  | 0, _ => []
  | n + 1, v => v % 256 :: leBytes n (v / 256)
theorem leBytes_length : ∀ n v, (leBytes n v).length = n
  | 0, _ => rfl
  | n + 1, v => by simp [leBytes, leBytes_length n]
theorem u8_wrap (v : Int) : IntKind.u8.wrap v = v % 256 := by simp [IntKind.wrap, IntKind.bits, IntKind.signed]
theorem leBytes_cons (v : Int) (n : Nat) : leBytes (n + 1) v = v % 256 :: leBytes n (v / 256) := rfl
def le : List Int → Int
  | [] => 0
  | b :: l => b + 256 * le l
def Bytes (l : List Int) : Prop := ∀ x ∈ l, 0 ≤ x ∧ x < 256
theorem le_bound : ∀ l, Bytes l → 0 ≤ le l ∧ le l < 2 ^ (8 * l.length)
  | [], _ => by simp [le]
  | b :: l, h => by
    have h1 := h b (by simp)
    have h2 := le_bound l (fun x hx => h x (by simp [hx]))
    have e : (2 : Int) ^ (8 * (b :: l).length) = 256 * 2 ^ (8 * l.length) := by
      rw [List.length_cons, Nat.mul_add, Int.pow_add, Int.mul_comm]
      rfl
    rw [e]
    simp only [le]
    omega
theorem le_append (l m : List Int) : le (l ++ m) = le l + 2 ^ (8 * l.length) * le m := by
  induction l with
  | nil => simp [le]
  | cons b l ih =>
    simp only [List.cons_append, le, ih, List.length_cons, Nat.mul_add, Int.pow_add]
    rw [show (2 : Int) ^ (8 * 1) = 256 from by decide, Int.mul_add, ← Int.mul_assoc, Int.mul_comm (2 ^ (8 * l.length)) 256]
    omega
theorem or_add (x b : Int) (i : Nat) (hx0 : 0 ≤ x) (hx : x < 2 ^ (8 * i)) (hb0 : 0 ≤ b) (hb : b < 256) (hi : i < 8) : Go.bits .or .u64 x (shl .u64 b (8 * i)) = x + b * 2 ^ (8 * i) := by
  obtain ⟨x, rfl⟩ := Int.eq_ofNat_of_zero_le hx0
  obtain ⟨b, rfl⟩ := Int.eq_ofNat_of_zero_le hb0
  have h64 : (b : Int) * 2 ^ (8 * i) < 2 ^ 64 := by
    have : (2 : Int) ^ (8 * i) ≤ 2 ^ 56 := by have h := Nat.pow_le_pow_right (n := 2) (by decide) (show 8 * i ≤ 56 by omega); exact_mod_cast h
    have : (b : Int) * 2 ^ (8 * i) ≤ 255 * 2 ^ 56 := Int.mul_le_mul (by omega) this (Int.le_of_lt (Int.pow_pos (by decide))) (by decide)
    have : (255 : Int) * 2 ^ 56 < 2 ^ 64 := by decide
    omega
  have hs : shl .u64 (b : Int) (8 * i) = ((b * 2 ^ (8 * i) : Nat) : Int) := by
    unfold shl
    have e : min ((8 * (i : Int)).toNat) IntKind.u64.bits = 8 * i := by
      have : IntKind.u64.bits = 64 := rfl
      omega
    rw [e, IntKind.wrap_u64]
    push_cast
    have e64 : (2 : Int) ^ 64 = 18446744073709551616 := by decide
    exact Int.emod_eq_of_lt (Int.mul_nonneg (by omega) (Int.le_of_lt (Int.pow_pos (by decide)))) (by rw [← e64]; exact h64)
  rw [hs]
  have hxn : x < 2 ^ (8 * i) := by exact_mod_cast hx
  have hbn : b * 2 ^ (8 * i) < 2 ^ 64 := Int.ofNat_lt.mp (by rw [Int.natCast_mul, Int.natCast_pow, Int.natCast_pow]; exact h64)
  have hx64 : x < 2 ^ 64 := Nat.lt_of_lt_of_le hxn (Nat.pow_le_pow_right (by decide) (by omega))
  rw [(bits_nat .u64 64 (by decide) (fun n h0 h1 => by rw [IntKind.wrap_u64]; omega) x _ hx64 hbn).2]
  rw [Nat.or_comm, ← Nat.shiftLeft_eq, ← Nat.shiftLeft_add_eq_or_of_lt hxn, Nat.shiftLeft_eq]
  push_cast
  omega
theorem fb_step {l : List Int} (hb : Bytes l) (h8 : l.length ≤ 8) {i : Int} (h0 : 0 ≤ i) (h1 : i < ln l) : arReal .or .u64 (le (l.take i.toNat)) (arReal .shl .u64 (IntKind.u64.wrap (rdI l i)) (8 * i)) = le (l.take (i + 1).toNat) := by
  obtain ⟨i, rfl⟩ := Int.eq_ofNat_of_zero_le h0
  unfold ln at h1
  have hil : i < l.length := by omega
  have hrd : rdI l i = l[i] := by simp [rdI, List.getD_eq_getElem?_getD, hil]
  have hbi := hb l[i] (by simp)
  have htk := le_bound (l.take i) (fun x hx => hb x (List.mem_of_mem_take hx))
  rw [List.length_take, Nat.min_eq_left (by omega)] at htk
  have e1 : ((i : Int) + 1).toNat = i + 1 := by omega
  rw [hrd, e1, List.take_succ_eq_append_getElem hil, le_append, List.length_take, Nat.min_eq_left (by omega)]
  have e2 : IntKind.u64.wrap l[i] = l[i] := by rw [IntKind.wrap_u64]; omega
  rw [e2]
  have := or_add (le (l.take i)) l[i] i htk.1 htk.2 hbi.1 hbi.2 (by omega)
  rw [show ((i : Int)).toNat = i from by omega]
  show Go.bits .or .u64 (le (l.take i)) (shl .u64 l[i] (8 * (i : Int))) = _
  rw [this]
  simp only [le, Int.mul_zero, Int.add_zero]
  rw [Int.mul_comm]
def part (B : List Int) (at_ n : Int) : List Int := (B.take (at_ + n).toNat).drop at_.toNat
theorem part_ln {B : List Int} {at_ n : Int} (h0 : 0 ≤ at_) (hn : 0 ≤ n) (h1 : at_ + n ≤ ln B) : ln (part B at_ n) = n := by
  unfold ln at *
  unfold part
  simp
  omega
theorem part_bytes {B : List Int} {at_ n : Int} (h : Bytes B) : Bytes (part B at_ n) := fun x hx => h x (List.mem_of_mem_take (List.mem_of_mem_drop hx))
theorem ty_pos {a : Int} (h : tyOk a = true) : 0 < a ∧ a ≤ 8 := by simp [tyOk] at h; omega
def loaded (B : List Int) (at_ a : Int) (b : Bool) : Int := wrapT a b (IntKind.i64.wrap (le (part B at_ a)))
def spl (l : List Int) (n : Nat) (b : List Int) : List Int := l.take n ++ (b ++ l.drop (n + b.length))
theorem ovl_u8 {B b : List Int} {lo m : Int} (h0 : 0 ≤ lo) (h1 : lo + ln b ≤ ln B) (hm : m = ln b) : ovlReal (u8s B) lo (((u8s b).take m.toNat).drop (0 : Int).toNat) = u8s (spl B lo.toNat b) := by
  subst hm
  unfold ln at *
  have e : ((u8s b).take (b.length : Int).toNat).drop (0 : Int).toNat = u8s b := by
    rw [List.take_of_length_le (by simp [u8s])]
    rfl
  rw [e]
  unfold ovlReal
  have e2 : (u8s b).take ((u8s B).length - lo.toNat) = u8s b := List.take_of_length_le (by simp [u8s]; omega)
  rw [e2]
  simp [u8s, spl, List.map_append, List.map_take, List.map_drop]
def stored (B : List Int) (at_ a : Int) (b : Bool) (v : Int) : List Int := spl B at_.toNat (leBytes a.toNat (wrapT a b v))
theorem leBytes_len : ∀ n v, (leBytes n v).length = n
  | 0, _ => rfl
  | n + 1, v => by simp [leBytes, leBytes_len n]
def hasB (B : List Int) (x : Int) : Bool := decide (0 ≤ x ∧ x < ln B)
theorem wr_lt {n : Int} (h : 0 ≤ n) (k : n ≤ 9223372036854775807) : IntKind.i64.wrap n = n := wr (by omega) (by omega)
def fetched (P B : List Int) (at_ : Int) : Nat → Int → List Int
  | 0, _ => []
  | m + 1, i => if hasB B (IntKind.i64.wrap (at_ + i)) = true ∧ rdI P (IntKind.i64.wrap (at_ + i) / 64) = 4 then rdI B (IntKind.i64.wrap (at_ + i)) :: fetched P B at_ m (i + 1) else []
theorem eq_of_rd {A B : List Int} (hl : ln A = ln B) (h : ∀ i, 0 ≤ i → i < ln A → rdI A i = rdI B i) : A = B := by
  unfold ln at *
  apply List.ext_getElem (by omega)
  intro i h1 h2
  have := h i (by omega) (by omega)
  simpa [rdI, List.getD_eq_getElem?_getD, h1, h2] using this
theorem toBy_eq {A B : List Int} (hA : Bytes A) (hB : Bytes B) : strCmp .eql (toBy (u8s A)) (toBy (u8s B)) = decide (A = B) := by
  have e : ∀ l : List Int, (toBy (u8s l)).toList = l.map fun n => UInt8.ofNat n.toNat := fun l => by
    rw [ByteArray.toList_eq]
    simp [toBy, u8s, List.map_map, Function.comp_def, Ab.asInt]
  show ((toBy (u8s A)).toList == (toBy (u8s B)).toList) = _
  rw [e, e]
  by_cases h : A = B
  · subst h; simp
  · rw [decide_eq_false h, beq_eq_false_iff_ne]
    intro k
    apply h
    have hl : A.length = B.length := by simpa using congrArg List.length k
    apply List.ext_getElem hl
    intro i h1 h2
    have ki := congrArg (fun l => l[i]?) k
    simp only [List.getElem?_map, List.getElem?_eq_getElem h1, List.getElem?_eq_getElem h2, Option.map_some, Option.some.injEq] at ki
    have a := hA A[i] (List.getElem_mem h1)
    have b := hB B[i] (List.getElem_mem h2)
    have := congrArg UInt8.toNat ki
    simp only [UInt8.toNat_ofNat'] at this
    omega
def tyE (k : Bool) : Int := if k = true then 0 else 10
theorem ty_iff {a : Int} : tyOk a = true ↔ (a = 1 ∨ a = 2 ∨ a = 4 ∨ a = 8) := by simp [tyOk]; omega
def apartB (x n y m : Int) : Bool := decide (0 ≤ x ∧ 0 ≤ y ∧ x < 1099511627776 ∧ y < 1099511627776 ∧ (IntKind.i64.wrap (x + n) ≤ y ∨ IntKind.i64.wrap (y + m) ≤ x))
theorem check_all {P B : List Int} (h1 : ln P ≤ 32) (h2 : ln B = 64 * ln P) (h : ∀ i, 0 ≤ i → i < ln P → permOk (rdI P i) = true) : checkV P B = 0 := by
  unfold ln at *
  unfold checkV
  refine if_pos ⟨by omega, by omega, ?_⟩
  rw [List.all_eq_true]
  intro x hx
  obtain ⟨k, hk, rfl⟩ := List.getElem_of_mem hx
  have := h k (by omega) (by omega)
  simpa [rdI, List.getD_eq_getElem?_getD, hk] using this
theorem check_bad {P B : List Int} (h : ¬ (ln P ≤ 32 ∧ ln B = 64 * ln P)) : checkV P B = 30 := by
  unfold ln at h
  unfold checkV
  rw [if_neg (fun k => h ⟨by omega, by omega⟩)]
theorem check_perm {P B : List Int} {i : Int} (h0 : 0 ≤ i) (h1 : i < ln P) (h : permOk (rdI P i) = false) : checkV P B = 30 := by
  unfold ln at h1
  unfold checkV
  refine if_neg (fun k => ?_)
  have := List.all_eq_true.1 k.2.2 (P[i.toNat]'(by omega)) (List.getElem_mem _)
  have e : rdI P i = P[i.toNat]'(by omega) := by simp [rdI, List.getD_eq_getElem?_getD, show i.toNat < P.length from by omega]
  rw [← e, h] at this
  cases this
theorem wrap_i32' (n : Int) : IntKind.i32.wrap n = (n + 2147483648) % 4294967296 - 2147483648 := by
  simp [IntKind.wrap, IntKind.bits, IntKind.signed]
  split <;> omega
theorem wrap_u16' (n : Int) : IntKind.u16.wrap n = n % 65536 := by simp [IntKind.wrap, IntKind.bits, IntKind.signed]
theorem wrap_u32' (n : Int) : IntKind.u32.wrap n = n % 4294967296 := by simp [IntKind.wrap, IntKind.bits, IntKind.signed]
theorem wrap_u8' (n : Int) : IntKind.u8.wrap n = n % 256 := by simp [IntKind.wrap, IntKind.bits, IntKind.signed]
def fault1 (P B : List Int) (x perm : Int) : Int × Int :=
  if hasB B x = true then
    (if perm = 1 ∧ arReal .and .i64 (rdI P (x / 64)) 1 = 0 then (2, x) else if perm = 2 ∧ arReal .and .i64 (rdI P (x / 64)) 2 = 0 then (3, x) else if perm = 4 ∧ rdI P (x / 64) ≠ 4 then (4, x) else (0, 0))
  else (1, x)
def faultR (P B : List Int) (at_ perm : Int) : Nat → Int → Int × Int
  | 0, _ => (0, 0)
  | m + 1, i => if (fault1 P B (IntKind.i64.wrap (at_ + i)) perm).1 ≠ 0 then fault1 P B (IntKind.i64.wrap (at_ + i)) perm else faultR P B at_ perm m (i + 1)
theorem perm_at {P B : List Int} (hc : checkV P B = 0) {x : Int} (h0 : 0 ≤ x) (h1 : x < ln B) : rdI P (x / 64) = 0 ∨ rdI P (x / 64) = 1 ∨ rdI P (x / 64) = 3 ∨ rdI P (x / 64) = 4 := by
  obtain ⟨v1, v2, v3⟩ := checkV_0 hc
  unfold ln at h1
  have hl : (x / 64).toNat < P.length := by omega
  have := List.all_eq_true.1 v3 P[(x / 64).toNat] (List.getElem_mem hl)
  have e : rdI P (x / 64) = P[(x / 64).toNat] := by simp [rdI, List.getD_eq_getElem?_getD, hl]
  rw [e]
  simp [permOk] at this
  omega
theorem fault1_need {P B : List Int} (hc : checkV P B = 0) {perm : Int} (hp : perm = 0 ∨ perm = 1 ∨ perm = 2 ∨ perm = 4) (x : Int) : need1 P B.length x perm = if (fault1 P B x perm).1 ≠ 0 then some (fault1 P B x perm) else none := by
  unfold need1 fault1
  by_cases hx : 0 ≤ x ∧ x < (B.length : Int)
  · have hh : hasB B x = true := by simp [hasB, ln, hx]
    have hr := perm_at hc hx.1 hx.2
    have e : rd P (x / 64) = rdI P (x / 64) := rfl
    rw [if_pos hx, if_pos hh, e]
    have ea : ∀ p q, arReal .and .i64 p q = Go.bits .and .i64 p q := fun _ _ => rfl
    rw [ea, ea]
    generalize rdI P (x / 64) = p at hr
    rcases hr with rfl | rfl | rfl | rfl <;> rcases hp with rfl | rfl | rfl | rfl <;> simp [show Go.bits .and .i64 0 0 = 0 from by decide, show Go.bits .and .i64 0 1 = 0 from by decide, show Go.bits .and .i64 0 2 = 0 from by decide, show Go.bits .and .i64 0 4 = 0 from by decide, show Go.bits .and .i64 1 0 = 0 from by decide, show Go.bits .and .i64 1 1 = 1 from by decide, show Go.bits .and .i64 1 2 = 0 from by decide, show Go.bits .and .i64 1 4 = 0 from by decide, show Go.bits .and .i64 3 0 = 0 from by decide, show Go.bits .and .i64 3 1 = 1 from by decide, show Go.bits .and .i64 3 2 = 2 from by decide, show Go.bits .and .i64 3 4 = 0 from by decide, show Go.bits .and .i64 4 0 = 0 from by decide, show Go.bits .and .i64 4 1 = 0 from by decide, show Go.bits .and .i64 4 2 = 0 from by decide, show Go.bits .and .i64 4 4 = 4 from by decide, kindOf]
  · have hh : hasB B x = false := by unfold hasB ln; exact decide_eq_false hx
    rw [if_neg hx, hh]
    simp
theorem faultR_fault {P B : List Int} (hc : checkV P B = 0) {perm : Int} (hp : perm = 0 ∨ perm = 1 ∨ perm = 2 ∨ perm = 4) (at_ : Int) : ∀ m i, faultR P B at_ perm m i = (needs P B.length at_ perm m i).getD (0, 0)
  | 0, _ => rfl
  | m + 1, i => by
    simp only [faultR]
    unfold needs
    have hw : wrap64 (at_ + i) = IntKind.i64.wrap (at_ + i) := by rw [IntKind.wrap_i64]; unfold wrap64; omega
    rw [hw, fault1_need hc hp, faultR_fault hc hp at_ m (i + 1)]
    split <;> simp
theorem check_30 {P B : List Int} (h : checkV P B ≠ 0) : checkV P B = 30 := by unfold checkV at h ⊢; split <;> simp_all
theorem part_step {B : List Int} {at_ i : Int} (h0 : 0 ≤ at_) (hi : 0 ≤ i) (h1 : at_ + i < ln B) : part B at_ i ++ [rdI B (at_ + i)] = part B at_ (i + 1) := by
  unfold ln at h1
  unfold part
  have hl : (at_ + i).toNat < B.length := by omega
  have e1 : (at_ + (i + 1)).toNat = (at_ + i).toNat + 1 := by omega
  have e2 : rdI B (at_ + i) = B[(at_ + i).toNat] := by simp [rdI, List.getD_eq_getElem?_getD, hl]
  rw [e1, List.take_succ_eq_append_getElem hl, List.drop_append_of_le_length (by simp; omega), e2]
theorem part_zero (B : List Int) (at_ : Int) (h : 0 ≤ at_) : part B at_ 0 = [] := by
  unfold part
  rw [Int.add_zero]
  apply List.drop_eq_nil_of_le
  simp
  omega
end Go.Proofs.Ytmpdimigpaogkaa
end
section
namespace Go.Proofs.Ytmpdimigpaogkaa
open Go.Ab Go.RowKit Go.Proofs.Ytmpdimigpaogkaa.G Go.Proofs.YtmpdimigpaogkaaW.PrintWords Go.Proofs.YtmpdimigpaogkaaW.PrintLast
set_option maxRecDepth 100000
set_option maxHeartbeats 4000000
noncomputable def d23 (a0 : Int) : Option (List V × List V × Int) :=
  if (cmpLit .lss a0 0) = true then
    some ([], [], 1)
  else
    if (cmpLit .gtr a0 32) = true then
      some ([], [], 1)
    else
      if (Ge0 a0) then
        if (Room a0 8) then
          if (Ge0 (arReal .mul .i64 a0 64)) then
            if (Room (arReal .mul .i64 a0 64) 1) then
              some ((repL a0 (.i .i64 0)), (repL (arReal .mul .i64 a0 64) (.i .u8 0)), 0)
            else none
          else none
        else none
      else none
noncomputable def w23_c : Code := (Try.f23.body).getD .skip
theorem w23_h : Try.f23.body = some w23_c := by kernel_rfl
theorem w23 (a0 : Int) (r : List V × List V × Int) (h : d23 a0 = some r) : Ab.Fn Try.prog TT 23 [.i .i64 a0] (.tup [.agg [.row 0, .row 1], .i .i64 r.2.2]) [(0, .row 3 r.1), (1, .row 5 r.2.1)] := by
  refine fn_own tok (fun r => match r with | 3 => [[],[0],[],[2],[2,3],[0,1,2,3,4],[0,1,2,3,4,5],[0,1,2,3,4,5,6]] | _ => []) Try.func23 (by kernel_rfl) w23_h (by kernel_rfl) ?_
  intro ar un cv mn mx pl mi cmp nt beq an scmp cat slen sbyte ssub ofB toB len gi gb gs gl sub put app ovl rep ne0 ge0 inb bnd room sroom need br call loop cut nl E R K hK
  have D := E.D
  clear E
  unfold d23 at h
  cbv
  refine R.cut' (by kernel_rfl) (by kernel_rfl) ?_
  cbv
  refine R.cut' (by kernel_rfl) (by kernel_rfl) ?_
  cbv
  refine R.brD h (by (first | rfl | simp only [D.har, D.hcmp, D.hge0, D.hrep, D.hroom])) ?_ ?_ <;> clear h <;> intro h <;> cbv
  · have e := ret_some h; clear h
    refine hK _ _ ⟨rfl, ⟨?_, rfl, rfl, rfl, ?_⟩⟩ <;> cbv <;> (try (subst e; simp only [D.har, D.hcmp, D.hge0, D.hrep, D.hroom, and_self, and_true, true_and] <;> (repeat' apply And.intro) <;> rfl))
  · refine R.brD h (by (first | rfl | simp only [D.har, D.hcmp, D.hge0, D.hrep, D.hroom])) ?_ ?_ <;> clear h <;> intro h <;> cbv
    · have e := ret_some h; clear h
      refine hK _ _ ⟨rfl, ⟨?_, rfl, rfl, rfl, ?_⟩⟩ <;> cbv <;> (try (subst e; simp only [D.har, D.hcmp, D.hge0, D.hrep, D.hroom, and_self, and_true, true_and] <;> (repeat' apply And.intro) <;> rfl))
    · refine R.needD h (by (first | rfl | simp only [D.har, D.hcmp, D.hge0, D.hrep, D.hroom])) ?_
      clear h; intro h; cbv
      refine R.needD h (by (first | rfl | simp only [D.har, D.hcmp, D.hge0, D.hrep, D.hroom])) ?_
      clear h; intro h; cbv
      refine R.needD h (by (first | rfl | simp only [D.har, D.hcmp, D.hge0, D.hrep, D.hroom])) ?_
      clear h; intro h; cbv
      refine R.needD h (by (first | rfl | simp only [D.har, D.hcmp, D.hge0, D.hrep, D.hroom])) ?_
      clear h; intro h; cbv
      have e := ret_some h; clear h
      refine hK _ _ ⟨rfl, ⟨?_, rfl, rfl, rfl, ?_⟩⟩ <;> cbv <;> (try (subst e; simp only [D.har, D.hcmp, D.hge0, D.hrep, D.hroom, and_self, and_true, true_and] <;> (repeat' apply And.intro) <;> rfl))
theorem w23s (a0 : Int) (r : List V × List V × Int) (h : d23 a0 = some r) : Ab.Fn Try.prog TT 23 [.i .i64 a0] (.tup [.agg [.sl 3 r.1, .sl 5 r.2.1], .i .i64 r.2.2]) [] :=
  (w23 a0 r h).pure (by simp [ple, ple1, ple1L, pleL, pleS, Ab.look])

noncomputable def d18_b1 (a0_0 : List V) (s16 : Int) : Option ((Int) ⊕ ((Int) ⊕ (Unit))) :=
  if (cmpLit .lss s16 (lenI a0_0)) = true then
    if (Inb s16 (lenI a0_0)) then
      Option.bind (α := Bool) (
        if (cmpLit .neq (gI a0_0 s16 0) 0) = true then
          if (cmpLit .neq (gI a0_0 s16 0) 1) = true then
            if (cmpLit .neq (gI a0_0 s16 0) 3) = true then
              some (cmpLit .neq (gI a0_0 s16 0) 4)
            else
              some false
          else
            some false
        else
          some false) fun y24 =>
      if y24 = true then
        some (.inr (.inl 30))
      else
        some (.inl (arReal .add .i64 s16 1))
    else none
  else
    some (.inr (.inr ()))
noncomputable def d18 (a0_0 : List V) (a0_1 : List V) : Option (Int) :=
  if (cmpLit .gtr (lenI a0_0) 32) = true then
    some 30
  else
    if (cmpLit .neq (lenI a0_1) (arReal .mul .i64 64 (lenI a0_0))) = true then
      some 30
    else
      Option.bind (α := (Unit) ⊕ (Int)) (
        (iter (d18_b1 a0_0) 0).bind fun y21 =>
        match y21 with
        | .inl p26 =>
          some (.inr p26)
        | .inr y21r0 =>
          some (.inl ())) fun y11 =>
      match y11 with
      | .inl p28 =>
        some 0
      | .inr y11r0 =>
        some y11r0
noncomputable def w18_c : Code := (Try.f18.body).getD .skip
theorem w18_h : Try.f18.body = some w18_c := by kernel_rfl
theorem w18 (a0_0 : List V) (a0_1 : List V) (r : Int) (h : d18 a0_0 a0_1 = some r) : Ab.Fn Try.prog TT 18 [.agg [.sl 3 a0_0, .sl 5 a0_1]] (.i .i64 r) [] := by
  refine fn_pure tok W0 Try.func18 (by kernel_rfl) w18_h (by kernel_rfl) ?_
  intro ar un cv mn mx pl mi cmp nt beq an scmp cat slen sbyte ssub ofB toB len gi gb gs gl sub put app ovl rep ne0 ge0 inb bnd room sroom need br call loop cut nl E R K hK
  have D := E.D
  clear E
  unfold d18 at h
  cbv
  refine R.cut' (by kernel_rfl) (by kernel_rfl) ?_
  cbv
  refine R.cut' (by kernel_rfl) (by kernel_rfl) ?_
  cbv
  refine R.brD h (by (first | rfl | simp only [D.har, D.hcmp, D.hgi, D.hinb, D.hlen])) ?_ ?_ <;> clear h <;> intro h <;> cbv
  · have e := ret_some h; clear h
    refine hK _ _ ?_
    cbv
    try (subst e; simp only [D.har, D.hcmp, D.hgi, D.hinb, D.hlen, and_self, and_true, true_and] <;> (repeat' apply And.intro) <;> rfl)
  · refine R.brD h (by (first | rfl | simp only [D.har, D.hcmp, D.hgi, D.hinb, D.hlen])) ?_ ?_ <;> clear h <;> intro h <;> cbv
    · have e := ret_some h; clear h
      refine hK _ _ ?_
      cbv
      try (subst e; simp only [D.har, D.hcmp, D.hgi, D.hinb, D.hlen, and_self, and_true, true_and] <;> (repeat' apply And.intro) <;> rfl)
    · refine R.cutB Sum.inl (fun _ _ e => Sum.inl.inj e) h [] (fun p28 => []) (fun p28 => []) (by kernel_rfl) (by kernel_rfl) (fun y11 hy hFy11 L hLy11 => ?_) (fun p28 h2 => ?_)
      · clear h; have h := hy; clear hy; cbv
        refine R.loopD h (fun s0 y21 e0 hi hFs16 => ?_)
        clear h
        refine R.loopI hi [] (fun s16 => [(22, .i .i64 s16)]) (fun s16 => []) ⟨rfl, ?_, ?_, rfl, rfl⟩ (by kernel_rfl) ?_
        · cbv; try (subst e0; simp only [D.har, D.hcmp, D.hgi, D.hinb, D.hlen, and_self, and_true, true_and] <;> (repeat' apply And.intro) <;> rfl)
        · cbv; try (subst e0; simp only [D.har, D.hcmp, D.hgi, D.hinb, D.hlen, and_self, and_true, true_and] <;> (repeat' apply And.intro) <;> rfl)
        clear hi e0
        intro s16 m y' hy hins16 houts16 L hLs16
        have h := hy; clear hy; unfold d18_b1 at h
        cbv
        refine R.cut' (by kernel_rfl) (by kernel_rfl) ?_
        cbv
        refine R.brD h (by (first | rfl | simp only [D.har, D.hcmp, D.hgi, D.hinb, D.hlen])) ?_ ?_ <;> clear h <;> intro h <;> cbv
        · refine R.cut' (by kernel_rfl) (by kernel_rfl) ?_
          cbv
          refine R.needD h (by (first | rfl | simp only [D.har, D.hcmp, D.hgi, D.hinb, D.hlen])) ?_
          clear h; intro h; cbv
          refine R.cutB (fun p => p) (fun _ _ e => e) h [] (fun p25 => [(39, .b p25)]) (fun p25 => []) (by kernel_rfl) (by kernel_rfl) (fun y24 hy hFy24 L hLy24 => ?_) (fun p25 h2 => ?_)
          · clear h; have h := hy; clear hy; cbv
            refine R.brD h (by (first | rfl | simp only [D.har, D.hcmp, D.hgi, D.hinb, D.hlen])) ?_ ?_ <;> clear h <;> intro h <;> cbv
            · refine R.brD h (by (first | rfl | simp only [D.har, D.hcmp, D.hgi, D.hinb, D.hlen])) ?_ ?_ <;> clear h <;> intro h <;> cbv
              · refine R.brD h (by (first | rfl | simp only [D.har, D.hcmp, D.hgi, D.hinb, D.hlen])) ?_ ?_ <;> clear h <;> intro h <;> cbv
                · obtain ⟨s', e, hi⟩ := jn_some (fun p => p) h
                  refine hLy24 s' _ _ hi ⟨rfl, ?_, ?_, rfl, rfl⟩ <;> cbv <;> (try (subst e; simp only [D.har, D.hcmp, D.hgi, D.hinb, D.hlen, and_self, and_true, true_and] <;> (repeat' apply And.intro) <;> rfl))
                · obtain ⟨s', e, hi⟩ := jn_some (fun p => p) h
                  refine hLy24 s' _ _ hi ⟨rfl, ?_, ?_, rfl, rfl⟩ <;> cbv <;> (try (subst e; simp only [D.har, D.hcmp, D.hgi, D.hinb, D.hlen, and_self, and_true, true_and] <;> (repeat' apply And.intro) <;> rfl))
              · obtain ⟨s', e, hi⟩ := jn_some (fun p => p) h
                refine hLy24 s' _ _ hi ⟨rfl, ?_, ?_, rfl, rfl⟩ <;> cbv <;> (try (subst e; simp only [D.har, D.hcmp, D.hgi, D.hinb, D.hlen, and_self, and_true, true_and] <;> (repeat' apply And.intro) <;> rfl))
            · obtain ⟨s', e, hi⟩ := jn_some (fun p => p) h
              refine hLy24 s' _ _ hi ⟨rfl, ?_, ?_, rfl, rfl⟩ <;> cbv <;> (try (subst e; simp only [D.har, D.hcmp, D.hgi, D.hinb, D.hlen, and_self, and_true, true_and] <;> (repeat' apply And.intro) <;> rfl))
          · clear h; have h := h2; clear h2; try dsimp only at h
            cbv
            refine R.brD h (by (first | rfl | simp only [D.har, D.hcmp, D.hgi, D.hinb, D.hlen])) ?_ ?_ <;> clear h <;> intro h <;> cbv
            · have e := inr_some h houts16; clear h
              have h := hFs16; rw [e] at h; clear e; try dsimp only at h
              cbv
              have e := ret_some h; clear h
              have h := hFy11; rw [e] at h; clear e; try dsimp only at h
              cbv
              have e := ret_some h; clear h
              refine hK _ _ ?_
              cbv
              try (subst e; simp only [D.har, D.hcmp, D.hgi, D.hinb, D.hlen, and_self, and_true, true_and] <;> (repeat' apply And.intro) <;> rfl)
            · obtain ⟨s', e, hi⟩ := inl_some h hins16
              refine hLs16 s' _ _ hi ⟨rfl, ?_, ?_, rfl, rfl⟩ <;> cbv <;> (try (subst e; simp only [D.har, D.hcmp, D.hgi, D.hinb, D.hlen, and_self, and_true, true_and] <;> (repeat' apply And.intro) <;> rfl))
        · have e := inr_some h houts16; clear h
          have h := hFs16; rw [e] at h; clear e; try dsimp only at h
          cbv
          obtain ⟨s', e, hi⟩ := jn_some Sum.inl h
          refine hLy11 s' _ _ hi ⟨rfl, ?_, ?_, rfl, rfl⟩ <;> cbv <;> (try (subst e; simp only [D.har, D.hcmp, D.hgi, D.hinb, D.hlen, and_self, and_true, true_and] <;> (repeat' apply And.intro) <;> rfl))
      · clear h; have h := h2; clear h2; try dsimp only at h
        cbv
        have e := ret_some h; clear h
        refine hK _ _ ?_
        cbv
        try (subst e; simp only [D.har, D.hcmp, D.hgi, D.hinb, D.hlen, and_self, and_true, true_and] <;> (repeat' apply And.intro) <;> rfl)

noncomputable def d21 (a0_0 : List V) (a0_1 : List V) (a1 : Int) (a2 : Int) : Option (List V × List V × Int) :=
  (d18 a0_0 a0_1).bind fun x2 =>
  if (cmpLit .neq x2 0) = true then
    some ([], [], x2)
  else
    Option.bind (α := Bool) (
      if (cmpLit .eql a2 0) = true then
        some true
      else
        if (cmpLit .eql a2 1) = true then
          some true
        else
          some (cmpLit .eql a2 3)) fun y3 =>
    Option.bind (α := Bool) (
      if (cmpLit .lss a1 0) = true then
        some true
      else
        if (cmpLit .geq a1 (lenI a0_0)) = true then
          some true
        else
          if (Inb a1 (lenI a0_0)) then
            if (cmpLit .eql (gI a0_0 a1 0) 4) = true then
              some true
            else
              some (notB' y3)
          else none) fun y7 =>
    if y7 = true then
      some ([], [], 31)
    else
      (d52 a0_0 a0_1).bind fun x9 =>
      if (Inb a1 (lenI x9.1)) then
        some ((putL x9.1 a1 0 [.i .i64 a2]), x9.2, 0)
      else none
noncomputable def w21_c : Code := (Try.f21.body).getD .skip
theorem w21_h : Try.f21.body = some w21_c := by kernel_rfl
theorem w21 (a0_0 : List V) (a0_1 : List V) (a1 : Int) (a2 : Int) (r : List V × List V × Int) (h : d21 a0_0 a0_1 a1 a2 = some r) : Ab.Fn Try.prog TT 21 [.agg [.sl 3 a0_0, .sl 5 a0_1], .i .i64 a1, .i .i64 a2] (.tup [.agg [.row 0, .row 1], .i .i64 r.2.2]) [(0, .row 3 r.1), (1, .row 5 r.2.1)] := by
  refine fn_own tok W0 Try.func21 (by kernel_rfl) w21_h (by kernel_rfl) ?_
  intro ar un cv mn mx pl mi cmp nt beq an scmp cat slen sbyte ssub ofB toB len gi gb gs gl sub put app ovl rep ne0 ge0 inb bnd room sroom need br call loop cut nl E R K hK
  have D := E.D
  clear E
  unfold d21 at h
  cbv
  refine R.cut' (by kernel_rfl) (by kernel_rfl) ?_
  cbv
  refine R.callD h (fun x2 hx2 h2 => ?_)
  clear h; have h := h2; clear h2
  refine R.call' (w18 _ _ _ hx2) (by (first | rfl | simp only [D.hcmp, D.hgi, D.hinb, D.hlen, D.hnt, D.hput])) ?_
  clear hx2; cbv
  refine R.brD h (by (first | rfl | simp only [D.hcmp, D.hgi, D.hinb, D.hlen, D.hnt, D.hput])) ?_ ?_ <;> clear h <;> intro h <;> cbv
  · have e := ret_some h; clear h
    refine hK _ _ ⟨rfl, ⟨?_, rfl, rfl, rfl, ?_⟩⟩ <;> cbv <;> (try (subst e; simp only [D.hcmp, D.hgi, D.hinb, D.hlen, D.hnt, D.hput, and_self, and_true, true_and] <;> (repeat' apply And.intro) <;> rfl))
  · refine R.cutB (fun p => p) (fun _ _ e => e) h [] (fun p4 => [(9, .b p4)]) (fun p4 => []) (by kernel_rfl) (by kernel_rfl) (fun y3 hy hFy3 L hLy3 => ?_) (fun p4 h2 => ?_)
    · clear h; have h := hy; clear hy; cbv
      refine R.brD h (by (first | rfl | simp only [D.hcmp, D.hgi, D.hinb, D.hlen, D.hnt, D.hput])) ?_ ?_ <;> clear h <;> intro h <;> cbv
      · obtain ⟨s', e, hi⟩ := jn_some (fun p => p) h
        refine hLy3 s' _ _ hi ⟨rfl, ?_, ?_, rfl, rfl⟩ <;> cbv <;> (try (subst e; simp only [D.hcmp, D.hgi, D.hinb, D.hlen, D.hnt, D.hput, and_self, and_true, true_and] <;> (repeat' apply And.intro) <;> rfl))
      · refine R.brD h (by (first | rfl | simp only [D.hcmp, D.hgi, D.hinb, D.hlen, D.hnt, D.hput])) ?_ ?_ <;> clear h <;> intro h <;> cbv
        · obtain ⟨s', e, hi⟩ := jn_some (fun p => p) h
          refine hLy3 s' _ _ hi ⟨rfl, ?_, ?_, rfl, rfl⟩ <;> cbv <;> (try (subst e; simp only [D.hcmp, D.hgi, D.hinb, D.hlen, D.hnt, D.hput, and_self, and_true, true_and] <;> (repeat' apply And.intro) <;> rfl))
        · obtain ⟨s', e, hi⟩ := jn_some (fun p => p) h
          refine hLy3 s' _ _ hi ⟨rfl, ?_, ?_, rfl, rfl⟩ <;> cbv <;> (try (subst e; simp only [D.hcmp, D.hgi, D.hinb, D.hlen, D.hnt, D.hput, and_self, and_true, true_and] <;> (repeat' apply And.intro) <;> rfl))
    · clear h; have h := h2; clear h2; try dsimp only at h
      cbv
      refine R.cut' (by kernel_rfl) (by kernel_rfl) ?_
      cbv
      refine R.cutB (fun p => p) (fun _ _ e => e) h [] (fun p8 => [(47, .b p8)]) (fun p8 => []) (by kernel_rfl) (by kernel_rfl) (fun y7 hy hFy7 L hLy7 => ?_) (fun p8 h2 => ?_)
      · clear h; have h := hy; clear hy; cbv
        refine R.brD h (by (first | rfl | simp only [D.hcmp, D.hgi, D.hinb, D.hlen, D.hnt, D.hput])) ?_ ?_ <;> clear h <;> intro h <;> cbv
        · obtain ⟨s', e, hi⟩ := jn_some (fun p => p) h
          refine hLy7 s' _ _ hi ⟨rfl, ?_, ?_, rfl, rfl⟩ <;> cbv <;> (try (subst e; simp only [D.hcmp, D.hgi, D.hinb, D.hlen, D.hnt, D.hput, and_self, and_true, true_and] <;> (repeat' apply And.intro) <;> rfl))
        · refine R.brD h (by (first | rfl | simp only [D.hcmp, D.hgi, D.hinb, D.hlen, D.hnt, D.hput])) ?_ ?_ <;> clear h <;> intro h <;> cbv
          · obtain ⟨s', e, hi⟩ := jn_some (fun p => p) h
            refine hLy7 s' _ _ hi ⟨rfl, ?_, ?_, rfl, rfl⟩ <;> cbv <;> (try (subst e; simp only [D.hcmp, D.hgi, D.hinb, D.hlen, D.hnt, D.hput, and_self, and_true, true_and] <;> (repeat' apply And.intro) <;> rfl))
          · refine R.needD h (by (first | rfl | simp only [D.hcmp, D.hgi, D.hinb, D.hlen, D.hnt, D.hput])) ?_
            clear h; intro h; cbv
            refine R.brD h (by (first | rfl | simp only [D.hcmp, D.hgi, D.hinb, D.hlen, D.hnt, D.hput])) ?_ ?_ <;> clear h <;> intro h <;> cbv
            · obtain ⟨s', e, hi⟩ := jn_some (fun p => p) h
              refine hLy7 s' _ _ hi ⟨rfl, ?_, ?_, rfl, rfl⟩ <;> cbv <;> (try (subst e; simp only [D.hcmp, D.hgi, D.hinb, D.hlen, D.hnt, D.hput, and_self, and_true, true_and] <;> (repeat' apply And.intro) <;> rfl))
            · obtain ⟨s', e, hi⟩ := jn_some (fun p => p) h
              refine hLy7 s' _ _ hi ⟨rfl, ?_, ?_, rfl, rfl⟩ <;> cbv <;> (try (subst e; simp only [D.hcmp, D.hgi, D.hinb, D.hlen, D.hnt, D.hput, and_self, and_true, true_and] <;> (repeat' apply And.intro) <;> rfl))
      · clear h; have h := h2; clear h2; try dsimp only at h
        cbv
        refine R.brD h (by (first | rfl | simp only [D.hcmp, D.hgi, D.hinb, D.hlen, D.hnt, D.hput])) ?_ ?_ <;> clear h <;> intro h <;> cbv
        · have e := ret_some h; clear h
          refine hK _ _ ⟨rfl, ⟨?_, rfl, rfl, rfl, ?_⟩⟩ <;> cbv <;> (try (subst e; simp only [D.hcmp, D.hgi, D.hinb, D.hlen, D.hnt, D.hput, and_self, and_true, true_and] <;> (repeat' apply And.intro) <;> rfl))
        · refine R.callD h (fun x9 hx9 h2 => ?_)
          clear h; have h := h2; clear h2
          refine R.call' (w52 _ _ _ hx9) (by (first | rfl | simp only [D.hcmp, D.hgi, D.hinb, D.hlen, D.hnt, D.hput])) ?_
          clear hx9; cbv
          refine R.needD h (by (first | rfl | simp only [D.hcmp, D.hgi, D.hinb, D.hlen, D.hnt, D.hput])) ?_
          clear h; intro h; cbv
          have e := ret_some h; clear h
          refine hK _ _ ⟨rfl, ⟨?_, rfl, rfl, rfl, ?_⟩⟩ <;> cbv <;> (try (subst e; simp only [D.hcmp, D.hgi, D.hinb, D.hlen, D.hnt, D.hput, and_self, and_true, true_and] <;> (repeat' apply And.intro) <;> rfl))
theorem w21s (a0_0 : List V) (a0_1 : List V) (a1 : Int) (a2 : Int) (r : List V × List V × Int) (h : d21 a0_0 a0_1 a1 a2 = some r) : Ab.Fn Try.prog TT 21 [.agg [.sl 3 a0_0, .sl 5 a0_1], .i .i64 a1, .i .i64 a2] (.tup [.agg [.sl 3 r.1, .sl 5 r.2.1], .i .i64 r.2.2]) [] :=
  (w21 a0_0 a0_1 a1 a2 r h).pure (by simp [ple, ple1, ple1L, pleL, pleS, Ab.look])

noncomputable def d22 (a0_0 : List V) (a0_1 : List V) (a1 : Int) : Option (List V × List V × Int) :=
  (d18 a0_0 a0_1).bind fun x2 =>
  if (cmpLit .neq x2 0) = true then
    some ([], [], x2)
  else
    if (cmpLit .lss a1 0) = true then
      some ([], [], 31)
    else
      if (cmpLit .geq a1 (lenI a0_0)) = true then
        some ([], [], 31)
      else
        (d52 a0_0 a0_1).bind fun x3 =>
        if (Inb a1 (lenI x3.1)) then
          some ((putL x3.1 a1 0 [.i .i64 4]), x3.2, 0)
        else none
noncomputable def w22_c : Code := (Try.f22.body).getD .skip
theorem w22_h : Try.f22.body = some w22_c := by kernel_rfl
theorem w22 (a0_0 : List V) (a0_1 : List V) (a1 : Int) (r : List V × List V × Int) (h : d22 a0_0 a0_1 a1 = some r) : Ab.Fn Try.prog TT 22 [.agg [.sl 3 a0_0, .sl 5 a0_1], .i .i64 a1] (.tup [.agg [.row 0, .row 1], .i .i64 r.2.2]) [(0, .row 3 r.1), (1, .row 5 r.2.1)] := by
  refine fn_own tok W0 Try.func22 (by kernel_rfl) w22_h (by kernel_rfl) ?_
  intro ar un cv mn mx pl mi cmp nt beq an scmp cat slen sbyte ssub ofB toB len gi gb gs gl sub put app ovl rep ne0 ge0 inb bnd room sroom need br call loop cut nl E R K hK
  have D := E.D
  clear E
  unfold d22 at h
  cbv
  refine R.cut' (by kernel_rfl) (by kernel_rfl) ?_
  cbv
  refine R.callD h (fun x2 hx2 h2 => ?_)
  clear h; have h := h2; clear h2
  refine R.call' (w18 _ _ _ hx2) (by (first | rfl | simp only [D.hcmp, D.hinb, D.hlen, D.hput])) ?_
  clear hx2; cbv
  refine R.brD h (by (first | rfl | simp only [D.hcmp, D.hinb, D.hlen, D.hput])) ?_ ?_ <;> clear h <;> intro h <;> cbv
  · have e := ret_some h; clear h
    refine hK _ _ ⟨rfl, ⟨?_, rfl, rfl, rfl, ?_⟩⟩ <;> cbv <;> (try (subst e; simp only [D.hcmp, D.hinb, D.hlen, D.hput, and_self, and_true, true_and] <;> (repeat' apply And.intro) <;> rfl))
  · refine R.cut' (by kernel_rfl) (by kernel_rfl) ?_
    cbv
    refine R.cut' (by kernel_rfl) (by kernel_rfl) ?_
    cbv
    refine R.brD h (by (first | rfl | simp only [D.hcmp, D.hinb, D.hlen, D.hput])) ?_ ?_ <;> clear h <;> intro h <;> cbv
    · have e := ret_some h; clear h
      refine hK _ _ ⟨rfl, ⟨?_, rfl, rfl, rfl, ?_⟩⟩ <;> cbv <;> (try (subst e; simp only [D.hcmp, D.hinb, D.hlen, D.hput, and_self, and_true, true_and] <;> (repeat' apply And.intro) <;> rfl))
    · refine R.brD h (by (first | rfl | simp only [D.hcmp, D.hinb, D.hlen, D.hput])) ?_ ?_ <;> clear h <;> intro h <;> cbv
      · have e := ret_some h; clear h
        refine hK _ _ ⟨rfl, ⟨?_, rfl, rfl, rfl, ?_⟩⟩ <;> cbv <;> (try (subst e; simp only [D.hcmp, D.hinb, D.hlen, D.hput, and_self, and_true, true_and] <;> (repeat' apply And.intro) <;> rfl))
      · refine R.callD h (fun x3 hx3 h2 => ?_)
        clear h; have h := h2; clear h2
        refine R.call' (w52 _ _ _ hx3) (by (first | rfl | simp only [D.hcmp, D.hinb, D.hlen, D.hput])) ?_
        clear hx3; cbv
        refine R.needD h (by (first | rfl | simp only [D.hcmp, D.hinb, D.hlen, D.hput])) ?_
        clear h; intro h; cbv
        have e := ret_some h; clear h
        refine hK _ _ ⟨rfl, ⟨?_, rfl, rfl, rfl, ?_⟩⟩ <;> cbv <;> (try (subst e; simp only [D.hcmp, D.hinb, D.hlen, D.hput, and_self, and_true, true_and] <;> (repeat' apply And.intro) <;> rfl))
theorem w22s (a0_0 : List V) (a0_1 : List V) (a1 : Int) (r : List V × List V × Int) (h : d22 a0_0 a0_1 a1 = some r) : Ab.Fn Try.prog TT 22 [.agg [.sl 3 a0_0, .sl 5 a0_1], .i .i64 a1] (.tup [.agg [.sl 3 r.1, .sl 5 r.2.1], .i .i64 r.2.2]) [] :=
  (w22 a0_0 a0_1 a1 r h).pure (by simp [ple, ple1, ple1L, pleL, pleS, Ab.look])

noncomputable def d46 : Option (List V × List V) :=
  (d23 3).bind fun x1 =>
  (d21 x1.1 x1.2.1 0 3).bind fun x2 =>
  (d21 x2.1 x2.2.1 1 1).bind fun x3 =>
  (d22 x3.1 x3.2.1 2).bind fun x4 =>
  some (x4.1, x4.2.1)
noncomputable def w46_c : Code := (Try.f46.body).getD .skip
theorem w46_h : Try.f46.body = some w46_c := by kernel_rfl
theorem w46 (r : List V × List V) (h : d46 = some r) : Ab.Fn Try.prog TT 46 [] (.agg [.sl 3 r.1, .sl 5 r.2]) [] := by
  refine fn_pure tok W0 Try.func46 (by kernel_rfl) w46_h (by kernel_rfl) ?_
  intro ar un cv mn mx pl mi cmp nt beq an scmp cat slen sbyte ssub ofB toB len gi gb gs gl sub put app ovl rep ne0 ge0 inb bnd room sroom need br call loop cut nl E R K hK
  have D := E.D
  clear E
  unfold d46 at h
  cbv
  refine R.callD h (fun x1 hx1 h2 => ?_)
  clear h; have h := h2; clear h2
  refine R.call' (w23s _ _ hx1) (by rfl) ?_
  clear hx1; cbv
  refine R.callD h (fun x2 hx2 h2 => ?_)
  clear h; have h := h2; clear h2
  refine R.call' (w21s _ _ _ _ _ hx2) (by rfl) ?_
  clear hx2; cbv
  refine R.callD h (fun x3 hx3 h2 => ?_)
  clear h; have h := h2; clear h2
  refine R.call' (w21s _ _ _ _ _ hx3) (by rfl) ?_
  clear hx3; cbv
  refine R.callD h (fun x4 hx4 h2 => ?_)
  clear h; have h := h2; clear h2
  refine R.call' (w22s _ _ _ _ hx4) (by rfl) ?_
  clear hx4; cbv
  have e := ret_some h; clear h
  refine hK _ _ ?_
  cbv
  try (subst e; simp only [and_self, and_true, true_and] <;> (repeat' apply And.intro) <;> rfl)

noncomputable def d50 (a0_0 : Int) (a0_1 : Bool) (a1 : Int) : Option (Int × Int) :=
  (d48 a0_0 a0_1).bind fun x2 =>
  if (cmpLit .neq x2 0) = true then
    some (0, x2)
  else
    (d69 a0_0 a0_1 a1).bind fun x3 =>
    some (x3, 0)
noncomputable def w50_c : Code := (Try.f50.body).getD .skip
theorem w50_h : Try.f50.body = some w50_c := by kernel_rfl
theorem w50 (a0_0 : Int) (a0_1 : Bool) (a1 : Int) (r : Int × Int) (h : d50 a0_0 a0_1 a1 = some r) : Ab.Fn Try.prog TT 50 [.agg [.i .i64 a0_0, .b a0_1], .i .i64 a1] (.tup [.i .i64 r.1, .i .i64 r.2]) [] := by
  refine fn_pure tok W0 Try.func50 (by kernel_rfl) w50_h (by kernel_rfl) ?_
  intro ar un cv mn mx pl mi cmp nt beq an scmp cat slen sbyte ssub ofB toB len gi gb gs gl sub put app ovl rep ne0 ge0 inb bnd room sroom need br call loop cut nl E R K hK
  have D := E.D
  clear E
  unfold d50 at h
  cbv
  refine R.cut' (by kernel_rfl) (by kernel_rfl) ?_
  cbv
  refine R.callD h (fun x2 hx2 h2 => ?_)
  clear h; have h := h2; clear h2
  refine R.call' (w48 _ _ _ hx2) (by (first | rfl | simp only [D.hcmp])) ?_
  clear hx2; cbv
  refine R.brD h (by (first | rfl | simp only [D.hcmp])) ?_ ?_ <;> clear h <;> intro h <;> cbv
  · have e := ret_some h; clear h
    refine hK _ _ ?_
    cbv
    try (subst e; simp only [D.hcmp, and_self, and_true, true_and] <;> (repeat' apply And.intro) <;> rfl)
  · refine R.callD h (fun x3 hx3 h2 => ?_)
    clear h; have h := h2; clear h2
    refine R.call' (w69 _ _ _ _ hx3) (by (first | rfl | simp only [D.hcmp])) ?_
    clear hx3; cbv
    have e := ret_some h; clear h
    refine hK _ _ ?_
    cbv
    try (subst e; simp only [D.hcmp, and_self, and_true, true_and] <;> (repeat' apply And.intro) <;> rfl)

noncomputable def d51_b1 (a0_0 : Int) (s6 : Int × Int × List V) : Option ((Int × Int × List V) ⊕ (List V)) :=
  if (cmpLit .lss s6.2.1 a0_0) = true then
    if (Room (lenI (appL s6.2.2 [.i .u8 (wrapK .u8 s6.1)])) 1) then
      if (Ge0 8) then
        some (.inl ((arReal .shr .i64 s6.1 8), (arReal .add .i64 s6.2.1 1), (appL s6.2.2 [.i .u8 (wrapK .u8 s6.1)])))
      else none
    else none
  else
    some (.inr s6.2.2)
noncomputable def d51 (a0_0 : Int) (a0_1 : Bool) (a1 : Int) : Option (List V × Int) :=
  (d48 a0_0 a0_1).bind fun x2 =>
  if (cmpLit .neq x2 0) = true then
    some ([], x2)
  else
    Option.bind (α := List V) (
      (iter (d51_b1 a0_0) (a1, 0, [])).bind fun y7 =>
      some y7) fun y5 =>
    some (y5, 0)
noncomputable def w51_c : Code := (Try.f51.body).getD .skip
theorem w51_h : Try.f51.body = some w51_c := by kernel_rfl
theorem w51 (a0_0 : Int) (a0_1 : Bool) (a1 : Int) (r : List V × Int) (h : d51 a0_0 a0_1 a1 = some r) : Ab.Fn Try.prog TT 51 [.agg [.i .i64 a0_0, .b a0_1], .i .i64 a1] (.tup [.row 0, .i .i64 r.2]) [(0, .row 5 r.1)] := by
  refine fn_own tok W0 Try.func51 (by kernel_rfl) w51_h (by kernel_rfl) ?_
  intro ar un cv mn mx pl mi cmp nt beq an scmp cat slen sbyte ssub ofB toB len gi gb gs gl sub put app ovl rep ne0 ge0 inb bnd room sroom need br call loop cut nl E R K hK
  have D := E.D
  clear E
  unfold d51 at h
  cbv
  refine R.cut' (by kernel_rfl) (by kernel_rfl) ?_
  cbv
  refine R.callD h (fun x2 hx2 h2 => ?_)
  clear h; have h := h2; clear h2
  refine R.call' (w48 _ _ _ hx2) (by (first | rfl | simp only [D.happ, D.har, D.hcmp, D.hcv, D.hge0, D.hlen, D.hroom])) ?_
  clear hx2; cbv
  refine R.brD h (by (first | rfl | simp only [D.happ, D.har, D.hcmp, D.hcv, D.hge0, D.hlen, D.hroom])) ?_ ?_ <;> clear h <;> intro h <;> cbv
  · have e := ret_some h; clear h
    refine hK _ _ ⟨rfl, ⟨?_, rfl, rfl, rfl, ?_⟩⟩ <;> cbv <;> (try (subst e; simp only [D.happ, D.har, D.hcmp, D.hcv, D.hge0, D.hlen, D.hroom, and_self, and_true, true_and] <;> (repeat' apply And.intro) <;> rfl))
  · refine R.cutB (fun p => p) (fun _ _ e => e) h [] (fun p9 => [(7, .row 127)]) (fun p9 => [(127, .row 5 p9)]) (by kernel_rfl) (by kernel_rfl) (fun y5 hy hFy5 L hLy5 => ?_) (fun p9 h2 => ?_)
    · clear h; have h := hy; clear hy; cbv
      refine R.loopD h (fun s0 y7 e0 hi hFs6 => ?_)
      clear h
      refine R.born' (e := te5) 7 127 5 rfl rfl (by kernel_rfl) (by decide) ?_
      refine R.loopI hi [] (fun s6 => [(1, .i .i64 s6.1), (7, .row 127), (15, .i .i64 s6.2.1)]) (fun s6 => [(127, .row 5 s6.2.2)]) ⟨rfl, ?_, ?_, rfl, rfl⟩ (by kernel_rfl) ?_
      · cbv; try (subst e0; simp only [D.happ, D.har, D.hcmp, D.hcv, D.hge0, D.hlen, D.hroom, and_self, and_true, true_and] <;> (repeat' apply And.intro) <;> rfl)
      · cbv; try (subst e0; simp only [D.happ, D.har, D.hcmp, D.hcv, D.hge0, D.hlen, D.hroom, and_self, and_true, true_and] <;> (repeat' apply And.intro) <;> rfl)
      clear hi e0
      intro s6 m y' hy hins6 houts6 L hLs6
      have h := hy; clear hy; unfold d51_b1 at h
      cbv
      refine R.cut' (by kernel_rfl) (by kernel_rfl) ?_
      cbv
      refine R.brD h (by (first | rfl | simp only [D.happ, D.har, D.hcmp, D.hcv, D.hge0, D.hlen, D.hroom])) ?_ ?_ <;> clear h <;> intro h <;> cbv
      · refine R.cut' (by kernel_rfl) (by kernel_rfl) ?_
        cbv
        refine R.needD h (by (first | rfl | simp only [D.happ, D.har, D.hcmp, D.hcv, D.hge0, D.hlen, D.hroom])) ?_
        clear h; intro h; cbv
        refine R.needD h (by (first | rfl | simp only [D.happ, D.har, D.hcmp, D.hcv, D.hge0, D.hlen, D.hroom])) ?_
        clear h; intro h; cbv
        obtain ⟨s', e, hi⟩ := inl_some h hins6
        refine hLs6 s' _ _ hi ⟨rfl, ?_, ?_, rfl, rfl⟩ <;> cbv <;> (try (subst e; simp only [D.happ, D.har, D.hcmp, D.hcv, D.hge0, D.hlen, D.hroom, and_self, and_true, true_and] <;> (repeat' apply And.intro) <;> rfl))
      · have e := inr_some h houts6; clear h
        have h := hFs6; rw [e] at h; clear e; try dsimp only at h
        cbv
        obtain ⟨s', e, hi⟩ := jn_some (fun p => p) h
        refine hLy5 s' _ _ hi ⟨rfl, ?_, ?_, rfl, rfl⟩ <;> cbv <;> (try (subst e; simp only [D.happ, D.har, D.hcmp, D.hcv, D.hge0, D.hlen, D.hroom, and_self, and_true, true_and] <;> (repeat' apply And.intro) <;> rfl))
    · clear h; have h := h2; clear h2; try dsimp only at h
      cbv
      have e := ret_some h; clear h
      refine hK _ _ ⟨rfl, ⟨?_, rfl, rfl, rfl, ?_⟩⟩ <;> cbv <;> (try (subst e; simp only [D.happ, D.har, D.hcmp, D.hcv, D.hge0, D.hlen, D.hroom, and_self, and_true, true_and] <;> (repeat' apply And.intro) <;> rfl))
end Go.Proofs.Ytmpdimigpaogkaa
end
section
namespace Go.Proofs.Ytmpdimigpaogkaa
open Go.Ab Go.RowKit Go.Proofs.Ytmpdimigpaogkaa.G Go.Proofs.YtmpdimigpaogkaaW.PrintWords Go.Proofs.YtmpdimigpaogkaaW.PrintLast
set_option maxRecDepth 100000
set_option maxHeartbeats 4000000
noncomputable def d17 (a0_0 : List V) (a0_1 : List V) (a1 : Int) (a2_0 : Int) (a2_1 : Bool) (a3 : Int) : Option (List V × List V × Int × Int × Int) :=
  (d18 a0_0 a0_1).bind fun x2 =>
  if (cmpLit .neq x2 0) = true then
    some ([], [], 0, 0, x2)
  else
    (d48 a2_0 a2_1).bind fun x4 =>
    if (cmpLit .neq x4 0) = true then
      some ([], [], 0, 0, x4)
    else
      (d47 a0_0 a0_1 a1 a2_0 2).bind fun x6 =>
      if (cmpLit .neq x6.1 0) = true then
        some ([], [], x6.1, x6.2, 0)
      else
        (d50 a2_0 a2_1 a3).bind fun x7 =>
        if (cmpLit .neq x7.2 0) = true then
          some ([], [], 0, 0, x7.2)
        else
          (d51 a2_0 a2_1 x7.1).bind fun x8 =>
          if (cmpLit .neq x8.2 0) = true then
            some ([], [], 0, 0, x8.2)
          else
            (d52 a0_0 a0_1).bind fun x9 =>
            if (Bnd a1 (lenI x9.2) (lenI x9.2)) then
              some (x9.1, (ovlReal x9.2 a1 (subL x8.1 0 (mnI (lenI x8.1) (miI (lenI x9.2) a1)))), 0, 0, 0)
            else none
noncomputable def w17_c : Code := (Try.f17.body).getD .skip
theorem w17_h : Try.f17.body = some w17_c := by kernel_rfl
theorem w17 (a0_0 : List V) (a0_1 : List V) (a1 : Int) (a2_0 : Int) (a2_1 : Bool) (a3 : Int) (r : List V × List V × Int × Int × Int) (h : d17 a0_0 a0_1 a1 a2_0 a2_1 a3 = some r) : Ab.Fn Try.prog TT 17 [.agg [.sl 3 a0_0, .sl 5 a0_1], .i .i64 a1, .agg [.i .i64 a2_0, .b a2_1], .i .i64 a3] (.tup [.agg [.row 0, .row 1], .agg [.i .i64 r.2.2.1, .i .i64 r.2.2.2.1], .i .i64 r.2.2.2.2]) [(0, .row 3 r.1), (1, .row 5 r.2.1)] := by
  refine fn_own tok (fun r => match r with | 9 => [[],[],[0],[0,1,2],[0,1,2,3]] | _ => []) Try.func17 (by kernel_rfl) w17_h (by kernel_rfl) ?_
  intro ar un cv mn mx pl mi cmp nt beq an scmp cat slen sbyte ssub ofB toB len gi gb gs gl sub put app ovl rep ne0 ge0 inb bnd room sroom need br call loop cut nl E R K hK
  have D := E.D
  clear E
  unfold d17 at h
  cbv
  refine R.cut' (by kernel_rfl) (by kernel_rfl) ?_
  cbv
  refine R.callD h (fun x2 hx2 h2 => ?_)
  clear h; have h := h2; clear h2
  refine R.call' (w18 _ _ _ hx2) (by (first | rfl | simp only [D.hbnd, D.hcmp, D.hlen, D.hmi, D.hmn, D.hovl, D.hsub])) ?_
  clear hx2; cbv
  refine R.brD h (by (first | rfl | simp only [D.hbnd, D.hcmp, D.hlen, D.hmi, D.hmn, D.hovl, D.hsub])) ?_ ?_ <;> clear h <;> intro h <;> cbv
  · have e := ret_some h; clear h
    refine hK _ _ ⟨rfl, ⟨?_, rfl, rfl, rfl, ?_⟩⟩ <;> cbv <;> (try (subst e; simp only [D.hbnd, D.hcmp, D.hlen, D.hmi, D.hmn, D.hovl, D.hsub, and_self, and_true, true_and] <;> (repeat' apply And.intro) <;> rfl))
  · refine R.cut' (by kernel_rfl) (by kernel_rfl) ?_
    cbv
    refine R.callD h (fun x4 hx4 h2 => ?_)
    clear h; have h := h2; clear h2
    refine R.call' (w48 _ _ _ hx4) (by (first | rfl | simp only [D.hbnd, D.hcmp, D.hlen, D.hmi, D.hmn, D.hovl, D.hsub])) ?_
    clear hx4; cbv
    refine R.brD h (by (first | rfl | simp only [D.hbnd, D.hcmp, D.hlen, D.hmi, D.hmn, D.hovl, D.hsub])) ?_ ?_ <;> clear h <;> intro h <;> cbv
    · have e := ret_some h; clear h
      refine hK _ _ ⟨rfl, ⟨?_, rfl, rfl, rfl, ?_⟩⟩ <;> cbv <;> (try (subst e; simp only [D.hbnd, D.hcmp, D.hlen, D.hmi, D.hmn, D.hovl, D.hsub, and_self, and_true, true_and] <;> (repeat' apply And.intro) <;> rfl))
    · refine R.cut' (by kernel_rfl) (by kernel_rfl) ?_
      cbv
      refine R.callD h (fun x6 hx6 h2 => ?_)
      clear h; have h := h2; clear h2
      refine R.call' (w47 _ _ _ _ _ _ hx6) (by (first | rfl | simp only [D.hbnd, D.hcmp, D.hlen, D.hmi, D.hmn, D.hovl, D.hsub])) ?_
      clear hx6; cbv
      refine R.brD h (by (first | rfl | simp only [D.hbnd, D.hcmp, D.hlen, D.hmi, D.hmn, D.hovl, D.hsub])) ?_ ?_ <;> clear h <;> intro h <;> cbv
      · have e := ret_some h; clear h
        refine hK _ _ ⟨rfl, ⟨?_, rfl, rfl, rfl, ?_⟩⟩ <;> cbv <;> (try (subst e; simp only [D.hbnd, D.hcmp, D.hlen, D.hmi, D.hmn, D.hovl, D.hsub, and_self, and_true, true_and] <;> (repeat' apply And.intro) <;> rfl))
      · refine R.callD h (fun x7 hx7 h2 => ?_)
        clear h; have h := h2; clear h2
        refine R.call' (w50 _ _ _ _ hx7) (by (first | rfl | simp only [D.hbnd, D.hcmp, D.hlen, D.hmi, D.hmn, D.hovl, D.hsub])) ?_
        clear hx7; cbv
        refine R.cut' (by kernel_rfl) (by kernel_rfl) ?_
        cbv
        refine R.brD h (by (first | rfl | simp only [D.hbnd, D.hcmp, D.hlen, D.hmi, D.hmn, D.hovl, D.hsub])) ?_ ?_ <;> clear h <;> intro h <;> cbv
        · have e := ret_some h; clear h
          refine hK _ _ ⟨rfl, ⟨?_, rfl, rfl, rfl, ?_⟩⟩ <;> cbv <;> (try (subst e; simp only [D.hbnd, D.hcmp, D.hlen, D.hmi, D.hmn, D.hovl, D.hsub, and_self, and_true, true_and] <;> (repeat' apply And.intro) <;> rfl))
        · refine R.callD h (fun x8 hx8 h2 => ?_)
          clear h; have h := h2; clear h2
          refine R.call' (w51 _ _ _ _ hx8) (by (first | rfl | simp only [D.hbnd, D.hcmp, D.hlen, D.hmi, D.hmn, D.hovl, D.hsub])) ?_
          clear hx8; cbv
          refine R.cut' (by kernel_rfl) (by kernel_rfl) ?_
          cbv
          refine R.brD h (by (first | rfl | simp only [D.hbnd, D.hcmp, D.hlen, D.hmi, D.hmn, D.hovl, D.hsub])) ?_ ?_ <;> clear h <;> intro h <;> cbv
          · have e := ret_some h; clear h
            refine hK _ _ ⟨rfl, ⟨?_, rfl, rfl, rfl, ?_⟩⟩ <;> cbv <;> (try (subst e; simp only [D.hbnd, D.hcmp, D.hlen, D.hmi, D.hmn, D.hovl, D.hsub, and_self, and_true, true_and] <;> (repeat' apply And.intro) <;> rfl))
          · refine R.callD h (fun x9 hx9 h2 => ?_)
            clear h; have h := h2; clear h2
            refine R.call' (w52 _ _ _ hx9) (by (first | rfl | simp only [D.hbnd, D.hcmp, D.hlen, D.hmi, D.hmn, D.hovl, D.hsub])) ?_
            clear hx9; cbv
            refine R.needD h (by (first | rfl | simp only [D.hbnd, D.hcmp, D.hlen, D.hmi, D.hmn, D.hovl, D.hsub])) ?_
            clear h; intro h; cbv
            have e := ret_some h; clear h
            refine hK _ _ ⟨rfl, ⟨?_, rfl, rfl, rfl, ?_⟩⟩ <;> cbv <;> (try (subst e; simp only [D.hbnd, D.hcmp, D.hlen, D.hmi, D.hmn, D.hovl, D.hsub, and_self, and_true, true_and] <;> (repeat' apply And.intro) <;> rfl))
theorem w17s (a0_0 : List V) (a0_1 : List V) (a1 : Int) (a2_0 : Int) (a2_1 : Bool) (a3 : Int) (r : List V × List V × Int × Int × Int) (h : d17 a0_0 a0_1 a1 a2_0 a2_1 a3 = some r) : Ab.Fn Try.prog TT 17 [.agg [.sl 3 a0_0, .sl 5 a0_1], .i .i64 a1, .agg [.i .i64 a2_0, .b a2_1], .i .i64 a3] (.tup [.agg [.sl 3 r.1, .sl 5 r.2.1], .agg [.i .i64 r.2.2.1, .i .i64 r.2.2.2.1], .i .i64 r.2.2.2.2]) [] :=
  (w17 a0_0 a0_1 a1 a2_0 a2_1 a3 r h).pure (by simp [ple, ple1, ple1L, pleL, pleS, Ab.look])

noncomputable def d49_b1 (a1 : List V) (s6 : Int × Int) : Option ((Int × Int) ⊕ (Int)) :=
  if (cmpLit .lss s6.2 (lenI a1)) = true then
    if (Inb s6.2 (lenI a1)) then
      if (Ge0 (arReal .mul .i64 8 s6.2)) then
        some (.inl ((arReal .or .u64 s6.1 (arReal .shl .u64 (wrapK .u64 (gI a1 s6.2 0)) (arReal .mul .i64 8 s6.2))), (arReal .add .i64 s6.2 1)))
      else none
    else none
  else
    some (.inr s6.1)
noncomputable def d49 (a0_0 : Int) (a0_1 : Bool) (a1 : List V) : Option (Int × Int) :=
  (d48 a0_0 a0_1).bind fun x2 =>
  if (cmpLit .neq x2 0) = true then
    some (0, x2)
  else
    if (cmpLit .neq (lenI a1) a0_0) = true then
      some (0, 1)
    else
      Option.bind (α := Int) (
        (iter (d49_b1 a1) (0, 0)).bind fun y7 =>
        some y7) fun y5 =>
      (d69 a0_0 a0_1 (wrapK .i64 y5)).bind fun x10 =>
      some (x10, 0)
noncomputable def w49_c : Code := (Try.f49.body).getD .skip
theorem w49_h : Try.f49.body = some w49_c := by kernel_rfl
theorem w49 (a0_0 : Int) (a0_1 : Bool) (a1 : List V) (r : Int × Int) (h : d49 a0_0 a0_1 a1 = some r) : Ab.Fn Try.prog TT 49 [.agg [.i .i64 a0_0, .b a0_1], .sl 5 a1] (.tup [.i .i64 r.1, .i .i64 r.2]) [] := by
  refine fn_pure tok W0 Try.func49 (by kernel_rfl) w49_h (by kernel_rfl) ?_
  intro ar un cv mn mx pl mi cmp nt beq an scmp cat slen sbyte ssub ofB toB len gi gb gs gl sub put app ovl rep ne0 ge0 inb bnd room sroom need br call loop cut nl E R K hK
  have D := E.D
  clear E
  unfold d49 at h
  cbv
  refine R.cut' (by kernel_rfl) (by kernel_rfl) ?_
  cbv
  refine R.callD h (fun x2 hx2 h2 => ?_)
  clear h; have h := h2; clear h2
  refine R.call' (w48 _ _ _ hx2) (by (first | rfl | simp only [D.har, D.hcmp, D.hcv, D.hge0, D.hgi, D.hinb, D.hlen])) ?_
  clear hx2; cbv
  refine R.brD h (by (first | rfl | simp only [D.har, D.hcmp, D.hcv, D.hge0, D.hgi, D.hinb, D.hlen])) ?_ ?_ <;> clear h <;> intro h <;> cbv
  · have e := ret_some h; clear h
    refine hK _ _ ?_
    cbv
    try (subst e; simp only [D.har, D.hcmp, D.hcv, D.hge0, D.hgi, D.hinb, D.hlen, and_self, and_true, true_and] <;> (repeat' apply And.intro) <;> rfl)
  · refine R.cut' (by kernel_rfl) (by kernel_rfl) ?_
    cbv
    refine R.brD h (by (first | rfl | simp only [D.har, D.hcmp, D.hcv, D.hge0, D.hgi, D.hinb, D.hlen])) ?_ ?_ <;> clear h <;> intro h <;> cbv
    · have e := ret_some h; clear h
      refine hK _ _ ?_
      cbv
      try (subst e; simp only [D.har, D.hcmp, D.hcv, D.hge0, D.hgi, D.hinb, D.hlen, and_self, and_true, true_and] <;> (repeat' apply And.intro) <;> rfl)
    · refine R.cutB (fun p => p) (fun _ _ e => e) h [] (fun p9 => [(7, .i .u64 p9)]) (fun p9 => []) (by kernel_rfl) (by kernel_rfl) (fun y5 hy hFy5 L hLy5 => ?_) (fun p9 h2 => ?_)
      · clear h; have h := hy; clear hy; cbv
        refine R.loopD h (fun s0 y7 e0 hi hFs6 => ?_)
        clear h
        refine R.loopI hi [] (fun s6 => [(7, .i .u64 s6.1), (22, .i .i64 s6.2)]) (fun s6 => []) ⟨rfl, ?_, ?_, rfl, rfl⟩ (by kernel_rfl) ?_
        · cbv; try (subst e0; simp only [D.har, D.hcmp, D.hcv, D.hge0, D.hgi, D.hinb, D.hlen, and_self, and_true, true_and] <;> (repeat' apply And.intro) <;> rfl)
        · cbv; try (subst e0; simp only [D.har, D.hcmp, D.hcv, D.hge0, D.hgi, D.hinb, D.hlen, and_self, and_true, true_and] <;> (repeat' apply And.intro) <;> rfl)
        clear hi e0
        intro s6 m y' hy hins6 houts6 L hLs6
        have h := hy; clear hy; unfold d49_b1 at h
        cbv
        refine R.cut' (by kernel_rfl) (by kernel_rfl) ?_
        cbv
        refine R.brD h (by (first | rfl | simp only [D.har, D.hcmp, D.hcv, D.hge0, D.hgi, D.hinb, D.hlen])) ?_ ?_ <;> clear h <;> intro h <;> cbv
        · refine R.cut' (by kernel_rfl) (by kernel_rfl) ?_
          cbv
          refine R.needD h (by (first | rfl | simp only [D.har, D.hcmp, D.hcv, D.hge0, D.hgi, D.hinb, D.hlen])) ?_
          clear h; intro h; cbv
          refine R.needD h (by (first | rfl | simp only [D.har, D.hcmp, D.hcv, D.hge0, D.hgi, D.hinb, D.hlen])) ?_
          clear h; intro h; cbv
          obtain ⟨s', e, hi⟩ := inl_some h hins6
          refine hLs6 s' _ _ hi ⟨rfl, ?_, ?_, rfl, rfl⟩ <;> cbv <;> (try (subst e; simp only [D.har, D.hcmp, D.hcv, D.hge0, D.hgi, D.hinb, D.hlen, and_self, and_true, true_and] <;> (repeat' apply And.intro) <;> rfl))
        · have e := inr_some h houts6; clear h
          have h := hFs6; rw [e] at h; clear e; try dsimp only at h
          cbv
          obtain ⟨s', e, hi⟩ := jn_some (fun p => p) h
          refine hLy5 s' _ _ hi ⟨rfl, ?_, ?_, rfl, rfl⟩ <;> cbv <;> (try (subst e; simp only [D.har, D.hcmp, D.hcv, D.hge0, D.hgi, D.hinb, D.hlen, and_self, and_true, true_and] <;> (repeat' apply And.intro) <;> rfl))
      · clear h; have h := h2; clear h2; try dsimp only at h
        cbv
        refine R.callD h (fun x10 hx10 h2 => ?_)
        clear h; have h := h2; clear h2
        refine R.call' (w69 _ _ _ _ hx10) (by (first | rfl | simp only [D.har, D.hcmp, D.hcv, D.hge0, D.hgi, D.hinb, D.hlen])) ?_
        clear hx10; cbv
        have e := ret_some h; clear h
        refine hK _ _ ?_
        cbv
        try (subst e; simp only [D.har, D.hcmp, D.hcv, D.hge0, D.hgi, D.hinb, D.hlen, and_self, and_true, true_and] <;> (repeat' apply And.intro) <;> rfl)

noncomputable def d16 (a0_0 : List V) (a0_1 : List V) (a1 : Int) (a2_0 : Int) (a2_1 : Bool) : Option (Int × Int × Int × Int) :=
  (d18 a0_0 a0_1).bind fun x2 =>
  if (cmpLit .neq x2 0) = true then
    some (0, 0, 0, x2)
  else
    (d48 a2_0 a2_1).bind fun x4 =>
    if (cmpLit .neq x4 0) = true then
      some (0, 0, 0, x4)
    else
      (d47 a0_0 a0_1 a1 a2_0 1).bind fun x6 =>
      if (cmpLit .neq x6.1 0) = true then
        some (0, x6.1, x6.2, 0)
      else
        if (Bnd a1 (arReal .add .i64 a1 a2_0) (lenI a0_1)) then
          (d49 a2_0 a2_1 (subL a0_1 a1 (arReal .add .i64 a1 a2_0))).bind fun x7 =>
          some (x7.1, 0, 0, x7.2)
        else none
noncomputable def w16_c : Code := (Try.f16.body).getD .skip
theorem w16_h : Try.f16.body = some w16_c := by kernel_rfl
theorem w16 (a0_0 : List V) (a0_1 : List V) (a1 : Int) (a2_0 : Int) (a2_1 : Bool) (r : Int × Int × Int × Int) (h : d16 a0_0 a0_1 a1 a2_0 a2_1 = some r) : Ab.Fn Try.prog TT 16 [.agg [.sl 3 a0_0, .sl 5 a0_1], .i .i64 a1, .agg [.i .i64 a2_0, .b a2_1]] (.tup [.i .i64 r.1, .agg [.i .i64 r.2.1, .i .i64 r.2.2.1], .i .i64 r.2.2.2]) [] := by
  refine fn_pure tok (fun r => match r with | 9 => [[],[],[0,1],[0,1,2]] | 10 => [[],[],[1],[],[],[],[5],[4,5,6],[1,2,3,4,5,6,7],[0,1,2,3,4,5,6,7,8],[0,1,2,3,4,5,6,7,8,9],[0,1,2,3,4,5,6,7,8,9,10],[0,1,2,3,4,5,6,7,8,9,10],[0,1,2,3,4,5,6,7,8,9,10,11],[0,1,2,3,4,5,6,7,8,9,10,11,12,13]] | _ => []) Try.func16 (by kernel_rfl) w16_h (by kernel_rfl) ?_
  intro ar un cv mn mx pl mi cmp nt beq an scmp cat slen sbyte ssub ofB toB len gi gb gs gl sub put app ovl rep ne0 ge0 inb bnd room sroom need br call loop cut nl E R K hK
  have D := E.D
  clear E
  unfold d16 at h
  cbv
  refine R.cut' (by kernel_rfl) (by kernel_rfl) ?_
  cbv
  refine R.callD h (fun x2 hx2 h2 => ?_)
  clear h; have h := h2; clear h2
  refine R.call' (w18 _ _ _ hx2) (by (first | rfl | simp only [D.har, D.hbnd, D.hcmp, D.hlen, D.hsub])) ?_
  clear hx2; cbv
  refine R.brD h (by (first | rfl | simp only [D.har, D.hbnd, D.hcmp, D.hlen, D.hsub])) ?_ ?_ <;> clear h <;> intro h <;> cbv
  · have e := ret_some h; clear h
    refine hK _ _ ?_
    cbv
    try (subst e; simp only [D.har, D.hbnd, D.hcmp, D.hlen, D.hsub, and_self, and_true, true_and] <;> (repeat' apply And.intro) <;> rfl)
  · refine R.cut' (by kernel_rfl) (by kernel_rfl) ?_
    cbv
    refine R.callD h (fun x4 hx4 h2 => ?_)
    clear h; have h := h2; clear h2
    refine R.call' (w48 _ _ _ hx4) (by (first | rfl | simp only [D.har, D.hbnd, D.hcmp, D.hlen, D.hsub])) ?_
    clear hx4; cbv
    refine R.brD h (by (first | rfl | simp only [D.har, D.hbnd, D.hcmp, D.hlen, D.hsub])) ?_ ?_ <;> clear h <;> intro h <;> cbv
    · have e := ret_some h; clear h
      refine hK _ _ ?_
      cbv
      try (subst e; simp only [D.har, D.hbnd, D.hcmp, D.hlen, D.hsub, and_self, and_true, true_and] <;> (repeat' apply And.intro) <;> rfl)
    · refine R.cut' (by kernel_rfl) (by kernel_rfl) ?_
      cbv
      refine R.callD h (fun x6 hx6 h2 => ?_)
      clear h; have h := h2; clear h2
      refine R.call' (w47 _ _ _ _ _ _ hx6) (by (first | rfl | simp only [D.har, D.hbnd, D.hcmp, D.hlen, D.hsub])) ?_
      clear hx6; cbv
      refine R.brD h (by (first | rfl | simp only [D.har, D.hbnd, D.hcmp, D.hlen, D.hsub])) ?_ ?_ <;> clear h <;> intro h <;> cbv
      · have e := ret_some h; clear h
        refine hK _ _ ?_
        cbv
        try (subst e; simp only [D.har, D.hbnd, D.hcmp, D.hlen, D.hsub, and_self, and_true, true_and] <;> (repeat' apply And.intro) <;> rfl)
      · refine R.needD h (by (first | rfl | simp only [D.har, D.hbnd, D.hcmp, D.hlen, D.hsub])) ?_
        clear h; intro h; cbv
        refine R.callD h (fun x7 hx7 h2 => ?_)
        clear h; have h := h2; clear h2
        refine R.call' (w49 _ _ _ _ hx7) (by (first | rfl | simp only [D.har, D.hbnd, D.hcmp, D.hlen, D.hsub])) ?_
        clear hx7; cbv
        have e := ret_some h; clear h
        refine hK _ _ ?_
        cbv
        try (subst e; simp only [D.har, D.hbnd, D.hcmp, D.hlen, D.hsub, and_self, and_true, true_and] <;> (repeat' apply And.intro) <;> rfl)

noncomputable def d53 (a0_0 : List V) (a0_1 : List V) (a1 : Int) : Option (Bool) :=
  if (cmpLit .geq a1 0) = true then
    some (cmpLit .lss a1 (lenI a0_1))
  else
    some false
noncomputable def w53_c : Code := (Try.f53.body).getD .skip
theorem w53_h : Try.f53.body = some w53_c := by kernel_rfl
theorem w53 (a0_0 : List V) (a0_1 : List V) (a1 : Int) (r : Bool) (h : d53 a0_0 a0_1 a1 = some r) : Ab.Fn Try.prog TT 53 [.agg [.sl 3 a0_0, .sl 5 a0_1], .i .i64 a1] (.b r) [] := by
  refine fn_pure tok W0 Try.func53 (by kernel_rfl) w53_h (by kernel_rfl) ?_
  intro ar un cv mn mx pl mi cmp nt beq an scmp cat slen sbyte ssub ofB toB len gi gb gs gl sub put app ovl rep ne0 ge0 inb bnd room sroom need br call loop cut nl E R K hK
  have D := E.D
  clear E
  unfold d53 at h
  cbv
  refine R.cut' (by kernel_rfl) (by kernel_rfl) ?_
  cbv
  refine R.brD h (by (first | rfl | simp only [D.hcmp, D.hlen])) ?_ ?_ <;> clear h <;> intro h <;> cbv
  · have e := ret_some h; clear h
    refine hK _ _ ?_
    cbv
    try (subst e; simp only [D.hcmp, D.hlen, and_self, and_true, true_and] <;> (repeat' apply And.intro) <;> rfl)
  · have e := ret_some h; clear h
    refine hK _ _ ?_
    cbv
    try (subst e; simp only [D.hcmp, D.hlen, and_self, and_true, true_and] <;> (repeat' apply And.intro) <;> rfl)

noncomputable def d19_b1 (a0_0 : List V) (a0_1 : List V) (a1 : Int) (a2 : Int) (s46 : Int × List V) : Option ((Int × List V) ⊕ (List V)) :=
  if (cmpLit .lss s46.1 a2) = true then
    (d53 a0_0 a0_1 (arReal .add .i64 a1 s46.1)).bind fun x63 =>
    if (notB' x63) = true then
      some (.inr s46.2)
    else
      if (Ne0 64) then
        if (Inb (arReal .quo .i64 (arReal .add .i64 a1 s46.1) 64) (lenI a0_0)) then
          if (cmpLit .neq (gI a0_0 (arReal .quo .i64 (arReal .add .i64 a1 s46.1) 64) 0) 4) = true then
            some (.inr s46.2)
          else
            if (Inb (arReal .add .i64 a1 s46.1) (lenI a0_1)) then
              if (Room (lenI (appL s46.2 [.i .u8 (gI a0_1 (arReal .add .i64 a1 s46.1) 0)])) 1) then
                some (.inl ((arReal .add .i64 s46.1 1), (appL s46.2 [.i .u8 (gI a0_1 (arReal .add .i64 a1 s46.1) 0)])))
              else none
            else none
        else none
      else none
  else
    some (.inr s46.2)
noncomputable def d19 (a0_0 : List V) (a0_1 : List V) (a1 : Int) (a2 : Int) : Option (List V × Int) :=
  (d18 a0_0 a0_1).bind fun x2 =>
  if (cmpLit .neq x2 0) = true then
    some ([], x2)
  else
    if (cmpLit .lss a2 0) = true then
      some ([], 1)
    else
      if (cmpLit .gtr a2 2048) = true then
        some ([], 1)
      else
        Option.bind (α := List V) (
          (iter (d19_b1 a0_0 a0_1 a1 a2) (0, [])).bind fun y55 =>
          some y55) fun y29 =>
        some (y29, 0)
noncomputable def w19_c : Code := (Try.f19.body).getD .skip
theorem w19_h : Try.f19.body = some w19_c := by kernel_rfl
theorem w19 (a0_0 : List V) (a0_1 : List V) (a1 : Int) (a2 : Int) (r : List V × Int) (h : d19 a0_0 a0_1 a1 a2 = some r) : Ab.Fn Try.prog TT 19 [.agg [.sl 3 a0_0, .sl 5 a0_1], .i .i64 a1, .i .i64 a2] (.tup [.row 0, .i .i64 r.2]) [(0, .row 5 r.1)] := by
  refine fn_own tok W0 Try.func19 (by kernel_rfl) w19_h (by kernel_rfl) ?_
  intro ar un cv mn mx pl mi cmp nt beq an scmp cat slen sbyte ssub ofB toB len gi gb gs gl sub put app ovl rep ne0 ge0 inb bnd room sroom need br call loop cut nl E R K hK
  have D := E.D
  clear E
  unfold d19 at h
  cbv
  refine R.cut' (by kernel_rfl) (by kernel_rfl) ?_
  cbv
  refine R.callD h (fun x2 hx2 h2 => ?_)
  clear h; have h := h2; clear h2
  refine R.call' (w18 _ _ _ hx2) (by (first | rfl | simp only [D.happ, D.har, D.hcmp, D.hgi, D.hinb, D.hlen, D.hne0, D.hnt, D.hroom])) ?_
  clear hx2; cbv
  refine R.brD h (by (first | rfl | simp only [D.happ, D.har, D.hcmp, D.hgi, D.hinb, D.hlen, D.hne0, D.hnt, D.hroom])) ?_ ?_ <;> clear h <;> intro h <;> cbv
  · have e := ret_some h; clear h
    refine hK _ _ ⟨rfl, ⟨?_, rfl, rfl, rfl, ?_⟩⟩ <;> cbv <;> (try (subst e; simp only [D.happ, D.har, D.hcmp, D.hgi, D.hinb, D.hlen, D.hne0, D.hnt, D.hroom, and_self, and_true, true_and] <;> (repeat' apply And.intro) <;> rfl))
  · refine R.cut' (by kernel_rfl) (by kernel_rfl) ?_
    cbv
    refine R.cut' (by kernel_rfl) (by kernel_rfl) ?_
    cbv
    refine R.brD h (by (first | rfl | simp only [D.happ, D.har, D.hcmp, D.hgi, D.hinb, D.hlen, D.hne0, D.hnt, D.hroom])) ?_ ?_ <;> clear h <;> intro h <;> cbv
    · have e := ret_some h; clear h
      refine hK _ _ ⟨rfl, ⟨?_, rfl, rfl, rfl, ?_⟩⟩ <;> cbv <;> (try (subst e; simp only [D.happ, D.har, D.hcmp, D.hgi, D.hinb, D.hlen, D.hne0, D.hnt, D.hroom, and_self, and_true, true_and] <;> (repeat' apply And.intro) <;> rfl))
    · refine R.brD h (by (first | rfl | simp only [D.happ, D.har, D.hcmp, D.hgi, D.hinb, D.hlen, D.hne0, D.hnt, D.hroom])) ?_ ?_ <;> clear h <;> intro h <;> cbv
      · have e := ret_some h; clear h
        refine hK _ _ ⟨rfl, ⟨?_, rfl, rfl, rfl, ?_⟩⟩ <;> cbv <;> (try (subst e; simp only [D.happ, D.har, D.hcmp, D.hgi, D.hinb, D.hlen, D.hne0, D.hnt, D.hroom, and_self, and_true, true_and] <;> (repeat' apply And.intro) <;> rfl))
      · refine R.cutB (fun p => p) (fun _ _ e => e) h [] (fun p65 => [(9, .row 159)]) (fun p65 => [(159, .row 5 p65)]) (by kernel_rfl) (by kernel_rfl) (fun y29 hy hFy29 L hLy29 => ?_) (fun p65 h2 => ?_)
        · clear h; have h := hy; clear hy; cbv
          refine R.loopD h (fun s0 y55 e0 hi hFs46 => ?_)
          clear h
          refine R.born' (e := te5) 9 159 5 rfl rfl (by kernel_rfl) (by decide) ?_
          refine R.loopI hi [] (fun s46 => [(9, .row 159), (24, .i .i64 s46.1)]) (fun s46 => [(159, .row 5 s46.2)]) ⟨rfl, ?_, ?_, rfl, rfl⟩ (by kernel_rfl) ?_
          · cbv; try (subst e0; simp only [D.happ, D.har, D.hcmp, D.hgi, D.hinb, D.hlen, D.hne0, D.hnt, D.hroom, and_self, and_true, true_and] <;> (repeat' apply And.intro) <;> rfl)
          · cbv; try (subst e0; simp only [D.happ, D.har, D.hcmp, D.hgi, D.hinb, D.hlen, D.hne0, D.hnt, D.hroom, and_self, and_true, true_and] <;> (repeat' apply And.intro) <;> rfl)
          clear hi e0
          intro s46 m y' hy hins46 houts46 L hLs46
          have h := hy; clear hy; unfold d19_b1 at h
          cbv
          refine R.cut' (by kernel_rfl) (by kernel_rfl) ?_
          cbv
          refine R.brD h (by (first | rfl | simp only [D.happ, D.har, D.hcmp, D.hgi, D.hinb, D.hlen, D.hne0, D.hnt, D.hroom])) ?_ ?_ <;> clear h <;> intro h <;> cbv
          · refine R.cut' (by kernel_rfl) (by kernel_rfl) ?_
            cbv
            refine R.cut' (by kernel_rfl) (by kernel_rfl) ?_
            cbv
            refine R.cut' (by kernel_rfl) (by kernel_rfl) ?_
            cbv
            refine R.callD h (fun x63 hx63 h2 => ?_)
            clear h; have h := h2; clear h2
            refine R.call' (w53 _ _ _ _ hx63) (by (first | rfl | simp only [D.happ, D.har, D.hcmp, D.hgi, D.hinb, D.hlen, D.hne0, D.hnt, D.hroom])) ?_
            clear hx63; cbv
            refine R.brD h (by (first | rfl | simp only [D.happ, D.har, D.hcmp, D.hgi, D.hinb, D.hlen, D.hne0, D.hnt, D.hroom])) ?_ ?_ <;> clear h <;> intro h <;> cbv
            · have e := inr_some h houts46; clear h
              have h := hFs46; rw [e] at h; clear e; try dsimp only at h
              cbv
              obtain ⟨s', e, hi⟩ := jn_some (fun p => p) h
              refine hLy29 s' _ _ hi ⟨rfl, ?_, ?_, rfl, rfl⟩ <;> cbv <;> (try (subst e; simp only [D.happ, D.har, D.hcmp, D.hgi, D.hinb, D.hlen, D.hne0, D.hnt, D.hroom, and_self, and_true, true_and] <;> (repeat' apply And.intro) <;> rfl))
            · refine R.needD h (by (first | rfl | simp only [D.happ, D.har, D.hcmp, D.hgi, D.hinb, D.hlen, D.hne0, D.hnt, D.hroom])) ?_
              clear h; intro h; cbv
              refine R.needD h (by (first | rfl | simp only [D.happ, D.har, D.hcmp, D.hgi, D.hinb, D.hlen, D.hne0, D.hnt, D.hroom])) ?_
              clear h; intro h; cbv
              refine R.brD h (by (first | rfl | simp only [D.happ, D.har, D.hcmp, D.hgi, D.hinb, D.hlen, D.hne0, D.hnt, D.hroom])) ?_ ?_ <;> clear h <;> intro h <;> cbv
              · have e := inr_some h houts46; clear h
                have h := hFs46; rw [e] at h; clear e; try dsimp only at h
                cbv
                obtain ⟨s', e, hi⟩ := jn_some (fun p => p) h
                refine hLy29 s' _ _ hi ⟨rfl, ?_, ?_, rfl, rfl⟩ <;> cbv <;> (try (subst e; simp only [D.happ, D.har, D.hcmp, D.hgi, D.hinb, D.hlen, D.hne0, D.hnt, D.hroom, and_self, and_true, true_and] <;> (repeat' apply And.intro) <;> rfl))
              · refine R.needD h (by (first | rfl | simp only [D.happ, D.har, D.hcmp, D.hgi, D.hinb, D.hlen, D.hne0, D.hnt, D.hroom])) ?_
                clear h; intro h; cbv
                refine R.needD h (by (first | rfl | simp only [D.happ, D.har, D.hcmp, D.hgi, D.hinb, D.hlen, D.hne0, D.hnt, D.hroom])) ?_
                clear h; intro h; cbv
                obtain ⟨s', e, hi⟩ := inl_some h hins46
                refine hLs46 s' _ _ hi ⟨rfl, ?_, ?_, rfl, rfl⟩ <;> cbv <;> (try (subst e; simp only [D.happ, D.har, D.hcmp, D.hgi, D.hinb, D.hlen, D.hne0, D.hnt, D.hroom, and_self, and_true, true_and] <;> (repeat' apply And.intro) <;> rfl))
          · have e := inr_some h houts46; clear h
            have h := hFs46; rw [e] at h; clear e; try dsimp only at h
            cbv
            obtain ⟨s', e, hi⟩ := jn_some (fun p => p) h
            refine hLy29 s' _ _ hi ⟨rfl, ?_, ?_, rfl, rfl⟩ <;> cbv <;> (try (subst e; simp only [D.happ, D.har, D.hcmp, D.hgi, D.hinb, D.hlen, D.hne0, D.hnt, D.hroom, and_self, and_true, true_and] <;> (repeat' apply And.intro) <;> rfl))
        · clear h; have h := h2; clear h2; try dsimp only at h
          cbv
          have e := ret_some h; clear h
          refine hK _ _ ⟨rfl, ⟨?_, rfl, rfl, rfl, ?_⟩⟩ <;> cbv <;> (try (subst e; simp only [D.happ, D.har, D.hcmp, D.hgi, D.hinb, D.hlen, D.hne0, D.hnt, D.hroom, and_self, and_true, true_and] <;> (repeat' apply And.intro) <;> rfl))
theorem w19s (a0_0 : List V) (a0_1 : List V) (a1 : Int) (a2 : Int) (r : List V × Int) (h : d19 a0_0 a0_1 a1 a2 = some r) : Ab.Fn Try.prog TT 19 [.agg [.sl 3 a0_0, .sl 5 a0_1], .i .i64 a1, .i .i64 a2] (.tup [.sl 5 r.1, .i .i64 r.2]) [] :=
  (w19 a0_0 a0_1 a1 a2 r h).pure (by simp [ple, ple1, ple1L, pleL, pleS, Ab.look])

noncomputable def d54 (a0 : List V) : Option (List V) :=
  nlD a0
    (
      some [])
    (
      if (Room (lenI (appL [] a0)) 1) then
        some (appL [] a0)
      else none)
noncomputable def w54_c : Code := (Try.f54.body).getD .skip
theorem w54_h : Try.f54.body = some w54_c := by kernel_rfl
theorem w54 (a0 : List V) (r : List V) (h : d54 a0 = some r) : Ab.Fn Try.prog TT 54 [.sl 5 a0] (.row 0) [(0, .row 5 r)] := by
  refine fn_own tok W0 Try.func54 (by kernel_rfl) w54_h (by kernel_rfl) ?_
  intro ar un cv mn mx pl mi cmp nt beq an scmp cat slen sbyte ssub ofB toB len gi gb gs gl sub put app ovl rep ne0 ge0 inb bnd room sroom need br call loop cut nl E R K hK
  have D := E.D
  clear E
  unfold d54 at h
  cbv
  refine R.cut' (by kernel_rfl) (by kernel_rfl) ?_
  cbv
  refine R.nlD h (by (first | rfl | simp only [D.happ, D.hlen, D.hroom])) (fun hn h2 => ?_) (fun h2 => ?_) <;> clear h <;> have h := h2 <;> clear h2 <;> cbv
  · have e := ret_some h; clear h
    refine hK _ _ ⟨rfl, ⟨?_, rfl, rfl, rfl, ?_⟩⟩ <;> cbv <;> (try (subst e; simp only [D.happ, D.hlen, D.hroom, and_self, and_true, true_and] <;> (repeat' apply And.intro) <;> rfl))
  · refine R.needD h (by (first | rfl | simp only [D.happ, D.hlen, D.hroom])) ?_
    clear h; intro h; cbv
    have e := ret_some h; clear h
    refine hK _ _ ⟨rfl, ⟨?_, rfl, rfl, rfl, ?_⟩⟩ <;> cbv <;> (try (subst e; simp only [D.happ, D.hlen, D.hroom, and_self, and_true, true_and] <;> (repeat' apply And.intro) <;> rfl))
theorem w54s (a0 : List V) (r : List V) (h : d54 a0 = some r) : Ab.Fn Try.prog TT 54 [.sl 5 a0] (.sl 5 r) [] :=
  (w54 a0 r h).pure (by simp [ple, ple1, ple1L, pleL, pleS, Ab.look])
end Go.Proofs.Ytmpdimigpaogkaa
end
section
namespace Go.Proofs.Ytmpdimigpaogkaa
open Go.Ab Go.RowKit Go.Proofs.Ytmpdimigpaogkaa.G Go.Proofs.YtmpdimigpaogkaaW.PrintWords Go.Proofs.YtmpdimigpaogkaaW.PrintLast
set_option maxRecDepth 100000
set_option maxHeartbeats 4000000
noncomputable def d20 (a0_0 : List V) (a0_1 : List V) (a1 : Int) (a2 : Int) : Option (List V × Int × Int × Int) :=
  (d18 a0_0 a0_1).bind fun x2 =>
  if (cmpLit .neq x2 0) = true then
    some ([], 0, 0, x2)
  else
    if (cmpLit .lss a2 0) = true then
      some ([], 0, 0, 1)
    else
      if (cmpLit .gtr a2 2048) = true then
        some ([], 0, 0, 1)
      else
        (d47 a0_0 a0_1 a1 a2 0).bind fun x4 =>
        if (cmpLit .neq x4.1 0) = true then
          some ([], x4.1, x4.2, 0)
        else
          if (cmpLit .eql a2 0) = true then
            some ([], x4.1, x4.2, 0)
          else
            if (Bnd a1 (arReal .add .i64 a1 a2) (lenI a0_1)) then
              (d54 (subL a0_1 a1 (arReal .add .i64 a1 a2))).bind fun x5 =>
              some (x5, 0, 0, 0)
            else none
noncomputable def w20_c : Code := (Try.f20.body).getD .skip
theorem w20_h : Try.f20.body = some w20_c := by kernel_rfl
theorem w20 (a0_0 : List V) (a0_1 : List V) (a1 : Int) (a2 : Int) (r : List V × Int × Int × Int) (h : d20 a0_0 a0_1 a1 a2 = some r) : Ab.Fn Try.prog TT 20 [.agg [.sl 3 a0_0, .sl 5 a0_1], .i .i64 a1, .i .i64 a2] (.tup [.sl 5 r.1, .agg [.i .i64 r.2.1, .i .i64 r.2.2.1], .i .i64 r.2.2.2]) [] := by
  refine fn_pure tok (fun r => match r with | 8 => [[],[],[0,1],[0,1,2]] | _ => []) Try.func20 (by kernel_rfl) w20_h (by kernel_rfl) ?_
  intro ar un cv mn mx pl mi cmp nt beq an scmp cat slen sbyte ssub ofB toB len gi gb gs gl sub put app ovl rep ne0 ge0 inb bnd room sroom need br call loop cut nl E R K hK
  have D := E.D
  clear E
  unfold d20 at h
  cbv
  refine R.cut' (by kernel_rfl) (by kernel_rfl) ?_
  cbv
  refine R.callD h (fun x2 hx2 h2 => ?_)
  clear h; have h := h2; clear h2
  refine R.call' (w18 _ _ _ hx2) (by (first | rfl | simp only [D.har, D.hbnd, D.hcmp, D.hlen, D.hsub])) ?_
  clear hx2; cbv
  refine R.brD h (by (first | rfl | simp only [D.har, D.hbnd, D.hcmp, D.hlen, D.hsub])) ?_ ?_ <;> clear h <;> intro h <;> cbv
  · have e := ret_some h; clear h
    refine hK _ _ ?_
    cbv
    try (subst e; simp only [D.har, D.hbnd, D.hcmp, D.hlen, D.hsub, and_self, and_true, true_and] <;> (repeat' apply And.intro) <;> rfl)
  · refine R.cut' (by kernel_rfl) (by kernel_rfl) ?_
    cbv
    refine R.cut' (by kernel_rfl) (by kernel_rfl) ?_
    cbv
    refine R.brD h (by (first | rfl | simp only [D.har, D.hbnd, D.hcmp, D.hlen, D.hsub])) ?_ ?_ <;> clear h <;> intro h <;> cbv
    · have e := ret_some h; clear h
      refine hK _ _ ?_
      cbv
      try (subst e; simp only [D.har, D.hbnd, D.hcmp, D.hlen, D.hsub, and_self, and_true, true_and] <;> (repeat' apply And.intro) <;> rfl)
    · refine R.brD h (by (first | rfl | simp only [D.har, D.hbnd, D.hcmp, D.hlen, D.hsub])) ?_ ?_ <;> clear h <;> intro h <;> cbv
      · have e := ret_some h; clear h
        refine hK _ _ ?_
        cbv
        try (subst e; simp only [D.har, D.hbnd, D.hcmp, D.hlen, D.hsub, and_self, and_true, true_and] <;> (repeat' apply And.intro) <;> rfl)
      · refine R.cut' (by kernel_rfl) (by kernel_rfl) ?_
        cbv
        refine R.callD h (fun x4 hx4 h2 => ?_)
        clear h; have h := h2; clear h2
        refine R.call' (w47 _ _ _ _ _ _ hx4) (by (first | rfl | simp only [D.har, D.hbnd, D.hcmp, D.hlen, D.hsub])) ?_
        clear hx4; cbv
        refine R.cut' (by kernel_rfl) (by kernel_rfl) ?_
        cbv
        refine R.brD h (by (first | rfl | simp only [D.har, D.hbnd, D.hcmp, D.hlen, D.hsub])) ?_ ?_ <;> clear h <;> intro h <;> cbv
        · have e := ret_some h; clear h
          refine hK _ _ ?_
          cbv
          try (subst e; simp only [D.har, D.hbnd, D.hcmp, D.hlen, D.hsub, and_self, and_true, true_and] <;> (repeat' apply And.intro) <;> rfl)
        · refine R.brD h (by (first | rfl | simp only [D.har, D.hbnd, D.hcmp, D.hlen, D.hsub])) ?_ ?_ <;> clear h <;> intro h <;> cbv
          · have e := ret_some h; clear h
            refine hK _ _ ?_
            cbv
            try (subst e; simp only [D.har, D.hbnd, D.hcmp, D.hlen, D.hsub, and_self, and_true, true_and] <;> (repeat' apply And.intro) <;> rfl)
          · refine R.needD h (by (first | rfl | simp only [D.har, D.hbnd, D.hcmp, D.hlen, D.hsub])) ?_
            clear h; intro h; cbv
            refine R.callD h (fun x5 hx5 h2 => ?_)
            clear h; have h := h2; clear h2
            refine R.call' (w54s _ _ hx5) (by (first | rfl | simp only [D.har, D.hbnd, D.hcmp, D.hlen, D.hsub])) ?_
            clear hx5; cbv
            have e := ret_some h; clear h
            refine hK _ _ ?_
            cbv
            try (subst e; simp only [D.har, D.hbnd, D.hcmp, D.hlen, D.hsub, and_self, and_true, true_and] <;> (repeat' apply And.intro) <;> rfl)

noncomputable def d14 : Option (Bool) :=
  (d46).bind fun x1 =>
  (d17 x1.1 x1.2 60 4 false 258).bind fun x2 =>
  (d16 x2.1 x2.2.1 60 4 false).bind fun x3 =>
  (d17 x1.1 x1.2 62 4 false 1).bind fun x4 =>
  (d16 x1.1 x1.2 126 4 false).bind fun x5 =>
  (d19 x1.1 x1.2 190 4).bind fun x6 =>
  (d20 x1.1 x1.2 190 4).bind fun x7 =>
  (d21 x1.1 x1.2 2 1).bind fun x8 =>
  (d21 x1.1 x1.2 1 4).bind fun x9 =>
  Option.bind (α := Bool) (
    if (cmpLit .neq x2.2.2.2.2 0) = true then
      some true
    else
      if (cmpLit .neq x3.2.2.2 0) = true then
        some true
      else
        if (cmpLit .neq x4.2.2.2.2 0) = true then
          some true
        else
          if (cmpLit .neq x5.2.2.2 0) = true then
            some true
          else
            if (cmpLit .neq x6.2 0) = true then
              some true
            else
              if (cmpLit .neq x7.2.2.2 0) = true then
                some true
              else
                if (cmpLit .neq x8.2.2 31) = true then
                  some true
                else
                  some (cmpLit .neq x9.2.2 31)) fun y12 =>
  if y12 = true then
    some false
  else
    if (andB' (cmpLit .eql x2.2.2.1 0) (cmpLit .eql x2.2.2.2.1 0)) = true then
      if (andB' (cmpLit .eql x3.2.1 0) (cmpLit .eql x3.2.2.1 0)) = true then
        if (cmpLit .eql x3.1 258) = true then
          if (andB' (cmpLit .eql x4.2.2.1 3) (cmpLit .eql x4.2.2.2.1 64)) = true then
            if (andB' (cmpLit .eql x5.2.1 2) (cmpLit .eql x5.2.2.1 128)) = true then
              if (cmpLit .eql (lenI x6.1) 2) = true then
                if (andB' (cmpLit .eql x7.2.1 1) (cmpLit .eql x7.2.2.1 192)) = true then
                  (d18 x1.1 x1.2).bind fun x15 =>
                  some (cmpLit .eql x15 0)
                else
                  some false
              else
                some false
            else
              some false
          else
            some false
        else
          some false
      else
        some false
    else
      some false
noncomputable def w14_c : Code := (Try.f14.body).getD .skip
theorem w14_h : Try.f14.body = some w14_c := by kernel_rfl
theorem w14 (r : Bool) (h : d14 = some r) : Ab.Fn Try.prog TT 14 [] (.b r) [] := by
  refine fn_pure tok W0 Try.func14 (by kernel_rfl) w14_h (by kernel_rfl) ?_
  intro ar un cv mn mx pl mi cmp nt beq an scmp cat slen sbyte ssub ofB toB len gi gb gs gl sub put app ovl rep ne0 ge0 inb bnd room sroom need br call loop cut nl E R K hK
  have D := E.D
  clear E
  unfold d14 at h
  cbv
  refine R.callD h (fun x1 hx1 h2 => ?_)
  clear h; have h := h2; clear h2
  refine R.call' (w46 _ hx1) (by (first | rfl | simp only [D.han, D.hcmp, D.hlen])) ?_
  clear hx1; cbv
  refine R.callD h (fun x2 hx2 h2 => ?_)
  clear h; have h := h2; clear h2
  refine R.call' (w17s _ _ _ _ _ _ _ hx2) (by (first | rfl | simp only [D.han, D.hcmp, D.hlen])) ?_
  clear hx2; cbv
  refine R.callD h (fun x3 hx3 h2 => ?_)
  clear h; have h := h2; clear h2
  refine R.call' (w16 _ _ _ _ _ _ hx3) (by (first | rfl | simp only [D.han, D.hcmp, D.hlen])) ?_
  clear hx3; cbv
  refine R.callD h (fun x4 hx4 h2 => ?_)
  clear h; have h := h2; clear h2
  refine R.call' (w17s _ _ _ _ _ _ _ hx4) (by (first | rfl | simp only [D.han, D.hcmp, D.hlen])) ?_
  clear hx4; cbv
  refine R.callD h (fun x5 hx5 h2 => ?_)
  clear h; have h := h2; clear h2
  refine R.call' (w16 _ _ _ _ _ _ hx5) (by (first | rfl | simp only [D.han, D.hcmp, D.hlen])) ?_
  clear hx5; cbv
  refine R.callD h (fun x6 hx6 h2 => ?_)
  clear h; have h := h2; clear h2
  refine R.call' (w19s _ _ _ _ _ hx6) (by (first | rfl | simp only [D.han, D.hcmp, D.hlen])) ?_
  clear hx6; cbv
  refine R.callD h (fun x7 hx7 h2 => ?_)
  clear h; have h := h2; clear h2
  refine R.call' (w20 _ _ _ _ _ hx7) (by (first | rfl | simp only [D.han, D.hcmp, D.hlen])) ?_
  clear hx7; cbv
  refine R.callD h (fun x8 hx8 h2 => ?_)
  clear h; have h := h2; clear h2
  refine R.call' (w21s _ _ _ _ _ hx8) (by (first | rfl | simp only [D.han, D.hcmp, D.hlen])) ?_
  clear hx8; cbv
  refine R.callD h (fun x9 hx9 h2 => ?_)
  clear h; have h := h2; clear h2
  refine R.call' (w21s _ _ _ _ _ hx9) (by (first | rfl | simp only [D.han, D.hcmp, D.hlen])) ?_
  clear hx9; cbv
  refine R.cut' (by kernel_rfl) (by kernel_rfl) ?_
  cbv
  refine R.cutB (fun p => p) (fun _ _ e => e) h [] (fun p13 => [(105, .b p13)]) (fun p13 => []) (by kernel_rfl) (by kernel_rfl) (fun y12 hy hFy12 L hLy12 => ?_) (fun p13 h2 => ?_)
  · clear h; have h := hy; clear hy; cbv
    refine R.brD h (by (first | rfl | simp only [D.han, D.hcmp, D.hlen])) ?_ ?_ <;> clear h <;> intro h <;> cbv
    · obtain ⟨s', e, hi⟩ := jn_some (fun p => p) h
      refine hLy12 s' _ _ hi ⟨rfl, ?_, ?_, rfl, rfl⟩ <;> cbv <;> (try (subst e; simp only [D.han, D.hcmp, D.hlen, and_self, and_true, true_and] <;> (repeat' apply And.intro) <;> rfl))
    · refine R.brD h (by (first | rfl | simp only [D.han, D.hcmp, D.hlen])) ?_ ?_ <;> clear h <;> intro h <;> cbv
      · obtain ⟨s', e, hi⟩ := jn_some (fun p => p) h
        refine hLy12 s' _ _ hi ⟨rfl, ?_, ?_, rfl, rfl⟩ <;> cbv <;> (try (subst e; simp only [D.han, D.hcmp, D.hlen, and_self, and_true, true_and] <;> (repeat' apply And.intro) <;> rfl))
      · refine R.brD h (by (first | rfl | simp only [D.han, D.hcmp, D.hlen])) ?_ ?_ <;> clear h <;> intro h <;> cbv
        · obtain ⟨s', e, hi⟩ := jn_some (fun p => p) h
          refine hLy12 s' _ _ hi ⟨rfl, ?_, ?_, rfl, rfl⟩ <;> cbv <;> (try (subst e; simp only [D.han, D.hcmp, D.hlen, and_self, and_true, true_and] <;> (repeat' apply And.intro) <;> rfl))
        · refine R.brD h (by (first | rfl | simp only [D.han, D.hcmp, D.hlen])) ?_ ?_ <;> clear h <;> intro h <;> cbv
          · obtain ⟨s', e, hi⟩ := jn_some (fun p => p) h
            refine hLy12 s' _ _ hi ⟨rfl, ?_, ?_, rfl, rfl⟩ <;> cbv <;> (try (subst e; simp only [D.han, D.hcmp, D.hlen, and_self, and_true, true_and] <;> (repeat' apply And.intro) <;> rfl))
          · refine R.brD h (by (first | rfl | simp only [D.han, D.hcmp, D.hlen])) ?_ ?_ <;> clear h <;> intro h <;> cbv
            · obtain ⟨s', e, hi⟩ := jn_some (fun p => p) h
              refine hLy12 s' _ _ hi ⟨rfl, ?_, ?_, rfl, rfl⟩ <;> cbv <;> (try (subst e; simp only [D.han, D.hcmp, D.hlen, and_self, and_true, true_and] <;> (repeat' apply And.intro) <;> rfl))
            · refine R.brD h (by (first | rfl | simp only [D.han, D.hcmp, D.hlen])) ?_ ?_ <;> clear h <;> intro h <;> cbv
              · obtain ⟨s', e, hi⟩ := jn_some (fun p => p) h
                refine hLy12 s' _ _ hi ⟨rfl, ?_, ?_, rfl, rfl⟩ <;> cbv <;> (try (subst e; simp only [D.han, D.hcmp, D.hlen, and_self, and_true, true_and] <;> (repeat' apply And.intro) <;> rfl))
              · refine R.brD h (by (first | rfl | simp only [D.han, D.hcmp, D.hlen])) ?_ ?_ <;> clear h <;> intro h <;> cbv
                · obtain ⟨s', e, hi⟩ := jn_some (fun p => p) h
                  refine hLy12 s' _ _ hi ⟨rfl, ?_, ?_, rfl, rfl⟩ <;> cbv <;> (try (subst e; simp only [D.han, D.hcmp, D.hlen, and_self, and_true, true_and] <;> (repeat' apply And.intro) <;> rfl))
                · obtain ⟨s', e, hi⟩ := jn_some (fun p => p) h
                  refine hLy12 s' _ _ hi ⟨rfl, ?_, ?_, rfl, rfl⟩ <;> cbv <;> (try (subst e; simp only [D.han, D.hcmp, D.hlen, and_self, and_true, true_and] <;> (repeat' apply And.intro) <;> rfl))
  · clear h; have h := h2; clear h2; try dsimp only at h
    cbv
    refine R.brD h (by (first | rfl | simp only [D.han, D.hcmp, D.hlen])) ?_ ?_ <;> clear h <;> intro h <;> cbv
    · have e := ret_some h; clear h
      refine hK _ _ ?_
      cbv
      try (subst e; simp only [D.han, D.hcmp, D.hlen, and_self, and_true, true_and] <;> (repeat' apply And.intro) <;> rfl)
    · refine R.cut' (by kernel_rfl) (by kernel_rfl) ?_
      cbv
      refine R.brD h (by (first | rfl | simp only [D.han, D.hcmp, D.hlen])) ?_ ?_ <;> clear h <;> intro h <;> cbv
      · refine R.brD h (by (first | rfl | simp only [D.han, D.hcmp, D.hlen])) ?_ ?_ <;> clear h <;> intro h <;> cbv
        · refine R.brD h (by (first | rfl | simp only [D.han, D.hcmp, D.hlen])) ?_ ?_ <;> clear h <;> intro h <;> cbv
          · refine R.brD h (by (first | rfl | simp only [D.han, D.hcmp, D.hlen])) ?_ ?_ <;> clear h <;> intro h <;> cbv
            · refine R.brD h (by (first | rfl | simp only [D.han, D.hcmp, D.hlen])) ?_ ?_ <;> clear h <;> intro h <;> cbv
              · refine R.brD h (by (first | rfl | simp only [D.han, D.hcmp, D.hlen])) ?_ ?_ <;> clear h <;> intro h <;> cbv
                · refine R.brD h (by (first | rfl | simp only [D.han, D.hcmp, D.hlen])) ?_ ?_ <;> clear h <;> intro h <;> cbv
                  · refine R.callD h (fun x15 hx15 h2 => ?_)
                    clear h; have h := h2; clear h2
                    refine R.call' (w18 _ _ _ hx15) (by (first | rfl | simp only [D.han, D.hcmp, D.hlen])) ?_
                    clear hx15; cbv
                    have e := ret_some h; clear h
                    refine hK _ _ ?_
                    cbv
                    try (subst e; simp only [D.han, D.hcmp, D.hlen, and_self, and_true, true_and] <;> (repeat' apply And.intro) <;> rfl)
                  · have e := ret_some h; clear h
                    refine hK _ _ ?_
                    cbv
                    try (subst e; simp only [D.han, D.hcmp, D.hlen, and_self, and_true, true_and] <;> (repeat' apply And.intro) <;> rfl)
                · have e := ret_some h; clear h
                  refine hK _ _ ?_
                  cbv
                  try (subst e; simp only [D.han, D.hcmp, D.hlen, and_self, and_true, true_and] <;> (repeat' apply And.intro) <;> rfl)
              · have e := ret_some h; clear h
                refine hK _ _ ?_
                cbv
                try (subst e; simp only [D.han, D.hcmp, D.hlen, and_self, and_true, true_and] <;> (repeat' apply And.intro) <;> rfl)
            · have e := ret_some h; clear h
              refine hK _ _ ?_
              cbv
              try (subst e; simp only [D.han, D.hcmp, D.hlen, and_self, and_true, true_and] <;> (repeat' apply And.intro) <;> rfl)
          · have e := ret_some h; clear h
            refine hK _ _ ?_
            cbv
            try (subst e; simp only [D.han, D.hcmp, D.hlen, and_self, and_true, true_and] <;> (repeat' apply And.intro) <;> rfl)
        · have e := ret_some h; clear h
          refine hK _ _ ?_
          cbv
          try (subst e; simp only [D.han, D.hcmp, D.hlen, and_self, and_true, true_and] <;> (repeat' apply And.intro) <;> rfl)
      · have e := ret_some h; clear h
        refine hK _ _ ?_
        cbv
        try (subst e; simp only [D.han, D.hcmp, D.hlen, and_self, and_true, true_and] <;> (repeat' apply And.intro) <;> rfl)

noncomputable def d15 (a0_0 : List V) (a0_1 : List V) (a1 : Int) (a2 : Int) (a3 : Int) : Option (Int × Int × Int) :=
  (d18 a0_0 a0_1).bind fun x2 =>
  if (cmpLit .neq x2 0) = true then
    some (0, 0, x2)
  else
    Option.bind (α := Bool) (
      if (cmpLit .lss a2 0) = true then
        some true
      else
        if (cmpLit .gtr a2 2048) = true then
          some true
        else
          if (cmpLit .neq a3 1) = true then
            if (cmpLit .neq a3 2) = true then
              some (cmpLit .neq a3 4)
            else
              some false
          else
            some false) fun y5 =>
    if y5 = true then
      some (0, 0, 1)
    else
      (d47 a0_0 a0_1 a1 a2 a3).bind fun x7 =>
      some (x7.1, x7.2, 0)
noncomputable def w15_c : Code := (Try.f15.body).getD .skip
theorem w15_h : Try.f15.body = some w15_c := by kernel_rfl
theorem w15 (a0_0 : List V) (a0_1 : List V) (a1 : Int) (a2 : Int) (a3 : Int) (r : Int × Int × Int) (h : d15 a0_0 a0_1 a1 a2 a3 = some r) : Ab.Fn Try.prog TT 15 [.agg [.sl 3 a0_0, .sl 5 a0_1], .i .i64 a1, .i .i64 a2, .i .i64 a3] (.tup [.agg [.i .i64 r.1, .i .i64 r.2.1], .i .i64 r.2.2]) [] := by
  refine fn_pure tok W0 Try.func15 (by kernel_rfl) w15_h (by kernel_rfl) ?_
  intro ar un cv mn mx pl mi cmp nt beq an scmp cat slen sbyte ssub ofB toB len gi gb gs gl sub put app ovl rep ne0 ge0 inb bnd room sroom need br call loop cut nl E R K hK
  have D := E.D
  clear E
  unfold d15 at h
  cbv
  refine R.cut' (by kernel_rfl) (by kernel_rfl) ?_
  cbv
  refine R.callD h (fun x2 hx2 h2 => ?_)
  clear h; have h := h2; clear h2
  refine R.call' (w18 _ _ _ hx2) (by (first | rfl | simp only [D.hcmp])) ?_
  clear hx2; cbv
  refine R.brD h (by (first | rfl | simp only [D.hcmp])) ?_ ?_ <;> clear h <;> intro h <;> cbv
  · have e := ret_some h; clear h
    refine hK _ _ ?_
    cbv
    try (subst e; simp only [D.hcmp, and_self, and_true, true_and] <;> (repeat' apply And.intro) <;> rfl)
  · refine R.cut' (by kernel_rfl) (by kernel_rfl) ?_
    cbv
    refine R.cutB (fun p => p) (fun _ _ e => e) h [] (fun p6 => [(34, .b p6)]) (fun p6 => []) (by kernel_rfl) (by kernel_rfl) (fun y5 hy hFy5 L hLy5 => ?_) (fun p6 h2 => ?_)
    · clear h; have h := hy; clear hy; cbv
      refine R.brD h (by (first | rfl | simp only [D.hcmp])) ?_ ?_ <;> clear h <;> intro h <;> cbv
      · obtain ⟨s', e, hi⟩ := jn_some (fun p => p) h
        refine hLy5 s' _ _ hi ⟨rfl, ?_, ?_, rfl, rfl⟩ <;> cbv <;> (try (subst e; simp only [D.hcmp, and_self, and_true, true_and] <;> (repeat' apply And.intro) <;> rfl))
      · refine R.brD h (by (first | rfl | simp only [D.hcmp])) ?_ ?_ <;> clear h <;> intro h <;> cbv
        · obtain ⟨s', e, hi⟩ := jn_some (fun p => p) h
          refine hLy5 s' _ _ hi ⟨rfl, ?_, ?_, rfl, rfl⟩ <;> cbv <;> (try (subst e; simp only [D.hcmp, and_self, and_true, true_and] <;> (repeat' apply And.intro) <;> rfl))
        · refine R.brD h (by (first | rfl | simp only [D.hcmp])) ?_ ?_ <;> clear h <;> intro h <;> cbv
          · refine R.brD h (by (first | rfl | simp only [D.hcmp])) ?_ ?_ <;> clear h <;> intro h <;> cbv
            · obtain ⟨s', e, hi⟩ := jn_some (fun p => p) h
              refine hLy5 s' _ _ hi ⟨rfl, ?_, ?_, rfl, rfl⟩ <;> cbv <;> (try (subst e; simp only [D.hcmp, and_self, and_true, true_and] <;> (repeat' apply And.intro) <;> rfl))
            · obtain ⟨s', e, hi⟩ := jn_some (fun p => p) h
              refine hLy5 s' _ _ hi ⟨rfl, ?_, ?_, rfl, rfl⟩ <;> cbv <;> (try (subst e; simp only [D.hcmp, and_self, and_true, true_and] <;> (repeat' apply And.intro) <;> rfl))
          · obtain ⟨s', e, hi⟩ := jn_some (fun p => p) h
            refine hLy5 s' _ _ hi ⟨rfl, ?_, ?_, rfl, rfl⟩ <;> cbv <;> (try (subst e; simp only [D.hcmp, and_self, and_true, true_and] <;> (repeat' apply And.intro) <;> rfl))
    · clear h; have h := h2; clear h2; try dsimp only at h
      cbv
      refine R.brD h (by (first | rfl | simp only [D.hcmp])) ?_ ?_ <;> clear h <;> intro h <;> cbv
      · have e := ret_some h; clear h
        refine hK _ _ ?_
        cbv
        try (subst e; simp only [D.hcmp, and_self, and_true, true_and] <;> (repeat' apply And.intro) <;> rfl)
      · refine R.callD h (fun x7 hx7 h2 => ?_)
        clear h; have h := h2; clear h2
        refine R.call' (w47 _ _ _ _ _ _ hx7) (by (first | rfl | simp only [D.hcmp])) ?_
        clear hx7; cbv
        have e := ret_some h; clear h
        refine hK _ _ ?_
        cbv
        try (subst e; simp only [D.hcmp, and_self, and_true, true_and] <;> (repeat' apply And.intro) <;> rfl)
end Go.Proofs.Ytmpdimigpaogkaa
end
section
namespace Go.Proofs.Ytmpdimigpaogkaa
open Go.Ab Go.RowKit Go.Proofs.Ytmpdimigpaogkaa.G Go.Proofs.YtmpdimigpaogkaaW.PrintWords Go.Proofs.YtmpdimigpaogkaaW.PrintLast
theorem lenI_ints (P : List Int) : lenI (ints P) = ln P := by simp [lenI, ints, ln]
theorem lenI_u8s (P : List Int) : lenI (u8s P) = ln P := by simp [lenI, u8s, ln]
theorem gI_ints (P : List Int) (i : Int) : gI (ints P) i 0 = rdI P i := gi_nums P i
theorem gI_u8s (P : List Int) (i : Int) : gI (u8s P) i 0 = rdI P i := gi_nums P i
theorem c_eql (a b : Int) : cmpLit .eql a b = decide (a = b) := by simp [cmpLit, Bool.beq_eq_decide_eq]
theorem c_neq (a b : Int) : cmpLit .neq a b = decide (a ≠ b) := by simp [cmpLit, bne, Bool.beq_eq_decide_eq]
theorem c_lss (a b : Int) : cmpLit .lss a b = decide (a < b) := rfl
theorem c_leq (a b : Int) : cmpLit .leq a b = decide (a ≤ b) := rfl
theorem c_gtr (a b : Int) : cmpLit .gtr a b = decide (b < a) := rfl
theorem c_geq (a b : Int) : cmpLit .geq a b = decide (b ≤ a) := rfl
theorem a_add {a b : Int} (h : -9223372036854775808 ≤ a + b) (k : a + b ≤ 9223372036854775807) : arReal .add .i64 a b = a + b := wr h (by omega)
theorem a_mul {a b : Int} (h : -9223372036854775808 ≤ a * b) (k : a * b ≤ 9223372036854775807) : arReal .mul .i64 a b = a * b := wr h (by omega)
theorem a_sub {a b : Int} (h : -9223372036854775808 ≤ a - b) (k : a - b ≤ 9223372036854775807) : arReal .sub .i64 a b = a - b := wr h (by omega)
theorem room_1 {n : Int} (h : n ≤ 140737488355328) : Room n 1 := ⟨h, by omega⟩
theorem room_8 {n : Int} (h : n ≤ 17592186044416) : Room n 8 := ⟨by omega, by omega⟩
theorem rdI_lt {P : List Int} {j : Nat} (h : j < P.length) : rdI P j = P[j] := by simp [rdI, h]

theorem it18 (P : List Int) (h : ln P ≤ 32) : iter (d18_b1 (ints P)) 0 = some (if P.all permOk = true then .inr () else .inl 30) := by
  refine iter_fun (fun s => 0 ≤ s ∧ s ≤ ln P ∧ ∀ j : Nat, (j : Int) < s → permOk (rdI P j) = true) (fun s => (ln P - s).toNat) (fun _ => (if P.all permOk = true then Sum.inr () else Sum.inl 30 : Int ⊕ Unit)) (fun s hs => ?_) 0 ⟨by omega, ln_nn P, fun j hj => by omega⟩
  obtain ⟨h0, h1, h2⟩ := hs
  unfold d18_b1
  simp only [c_lss, c_neq, lenI_ints, gI_ints, decide_eq_true_eq]
  by_cases hlt : s < ln P
  · rw [if_pos hlt, if_pos ⟨h0, hlt⟩]
    by_cases hp : permOk (rdI P s) = true
    · refine .inl ⟨s + 1, ?_, ⟨by omega, by omega, fun j hj => ?_⟩, by omega, trivial⟩
      · rw [a_add (by omega) (by omega)]
        rcases permOk_yes hp with e | e | e | e <;> simp [e]
      · by_cases e : (j : Int) = s
        · rw [e]; exact hp
        · exact h2 j (by omega)
    · refine .inr ?_
      have hp : permOk (rdI P s) = false := by simpa using hp
      obtain ⟨n0, n1, n3, n4⟩ := permOk_no hp
      have : ¬ P.all permOk = true := fun ha => by
        have hl : s.toNat < P.length := by unfold ln at hlt; omega
        have := List.all_eq_true.1 ha (P[s.toNat]) (List.getElem_mem hl)
        rw [← rdI_lt hl, Int.toNat_of_nonneg h0, hp] at this
        cases this
      rw [if_neg this]
      simp [n0, n1, n3, n4]
  · refine .inr ?_
    rw [if_neg hlt]
    have : P.all permOk = true := List.all_eq_true.2 fun x hx => by
      obtain ⟨j, hj, rfl⟩ := List.getElem_of_mem hx
      rw [← rdI_lt hj]
      exact h2 j (by unfold ln at hlt; omega)
    rw [if_pos this]

theorem s18 (P B : List Int) : d18 (ints P) (u8s B) = some (checkV P B) := by
  unfold d18 checkV
  simp only [c_gtr, c_neq, lenI_ints, lenI_u8s, decide_eq_true_eq]
  by_cases h1 : 32 < ln P
  · rw [if_pos h1, if_neg (fun h => by unfold ln at h1; omega)]
  · rw [if_neg h1, a_mul (by have := ln_nn P; omega) (by omega)]
    by_cases h2 : ln B = 64 * ln P
    · rw [if_neg (not_not_intro h2), it18 P (by omega)]
      by_cases h3 : P.all permOk = true
      · rw [if_pos h3, if_pos ⟨by unfold ln at h1; omega, by unfold ln at h2; omega, h3⟩]; rfl
      · rw [if_neg h3, if_neg (fun h => h3 h.2.2)]; rfl
    · rw [if_pos h2, if_neg (fun h => h2 (by unfold ln; omega))]

theorem s52 {P B : List Int} (h : checkV P B = 0) : d52 (ints P) (u8s B) = some (ints P, u8s B) := by
  obtain ⟨h1, h2, _⟩ := checkV_0 h
  unfold d52
  rw [unI_ints, unI_u8s, if_pos ⟨rfl, rfl, h1, h2⟩]
theorem s47 {P B : List Int} (h : checkV P B = 0) (a n p : Int) (hn : n ≤ 9223372036854775807) : d47 (ints P) (u8s B) a n p = some (fault P B a n p) := by
  obtain ⟨h1, h2, _⟩ := checkV_0 h
  unfold d47 fault
  rw [unI_ints, unI_u8s, if_pos ⟨rfl, rfl, by omega, hn⟩]
theorem s53 (P B : List Int) (x : Int) : d53 (ints P) (u8s B) x = some (hasB B x) := by
  unfold d53 hasB
  simp only [c_geq, c_lss, lenI_u8s, decide_eq_true_eq]
  by_cases h : 0 ≤ x <;> simp [h]
theorem s54 (l : List Int) (h : ln l ≤ 140737488355328) : d54 (u8s l) = some (u8s l) := by
  unfold d54
  have e : appL [] (u8s l) = u8s l := rfl
  rw [e, lenI_u8s, if_pos (room_1 h)]
  cases l with
  | nil => exact nlD_eq rfl
  | cons a r => exact nlD_ne (by simp [u8s])

theorem s21 (P B : List Int) (page perm : Int) : d21 (ints P) (u8s B) page perm = some (if checkV P B ≠ 0 then ([], [], checkV P B) else
    if 0 ≤ page ∧ page < ln P ∧ rdI P page ≠ 4 ∧ (perm = 0 ∨ perm = 1 ∨ perm = 3) then (ints (P.set page.toNat perm), u8s B, 0) else ([], [], 31)) := by
  unfold d21
  rw [s18, Option.bind_some]
  simp only [c_neq, c_eql, c_lss, c_geq, lenI_ints, gI_ints, decide_eq_true_eq]
  by_cases hc : checkV P B = 0
  · rw [if_neg (not_not_intro hc), if_neg (not_not_intro hc), s52 hc]
    simp only [Option.bind_some, lenI_ints]
    by_cases h0 : 0 ≤ page
    · by_cases h1 : page < ln P
      · rw [if_pos (show Inb page (ln P) from ⟨h0, h1⟩)]
        have hi : Inb page (ln P) := ⟨h0, h1⟩
        have e : putL (ints P) page 0 [.i .i64 perm] = ints (P.set page.toNat perm) := set_nums P page.toNat perm
        rw [e]
        have hn : ¬ page < 0 := by omega
        have hm : ¬ ln P ≤ page := by omega
        by_cases h4 : rdI P page = 4
        · by_cases p0 : perm = 0 <;> by_cases p1 : perm = 1 <;> simp [hi, h0, h1, hn, hm, h4, p0, p1]
        · by_cases p0 : perm = 0
          · simp [hi, h0, h1, hn, hm, h4, p0, notB']
          · by_cases p1 : perm = 1
            · simp [hi, h0, h1, hn, hm, h4, p1, notB']
            · by_cases p3 : perm = 3 <;> simp [hi, h0, h1, hn, hm, h4, p0, p1, p3, notB']
      · have hn : ¬ page < 0 := by omega
        have hm : ln P ≤ page := by omega
        by_cases p0 : perm = 0 <;> by_cases p1 : perm = 1 <;> simp [h0, h1, hn, hm, p0, p1]
    · have hn : page < 0 := by omega
      by_cases p0 : perm = 0 <;> by_cases p1 : perm = 1 <;> simp [h0, hn, p0, p1]
  · rw [if_pos hc, if_pos hc]

theorem s22 (P B : List Int) (page : Int) : d22 (ints P) (u8s B) page = some (if checkV P B ≠ 0 then ([], [], checkV P B) else
    if 0 ≤ page ∧ page < ln P then (ints (P.set page.toNat 4), u8s B, 0) else ([], [], 31)) := by
  unfold d22
  rw [s18, Option.bind_some]
  simp only [c_neq, c_eql, c_lss, c_geq, lenI_ints, gI_ints, decide_eq_true_eq]
  by_cases hc : checkV P B = 0
  · rw [if_neg (not_not_intro hc), if_neg (not_not_intro hc), s52 hc]
    simp only [Option.bind_some, lenI_ints]
    have e : putL (ints P) page 0 [.i .i64 4] = ints (P.set page.toNat 4) := set_nums P page.toNat 4
    rw [e]
    by_cases h0 : 0 ≤ page
    · by_cases h1 : page < ln P
      · rw [if_pos (show Inb page (ln P) from ⟨h0, h1⟩), if_neg (by omega), if_neg (by omega), if_pos ⟨h0, h1⟩]
      · rw [if_neg (by omega), if_pos (by omega), if_neg (fun h => h1 h.2)]
    · rw [if_pos (by omega), if_neg (fun h => h0 h.1)]
  · rw [if_pos hc, if_pos hc]

theorem s23 (n : Int) : d23 n = some (if n < 0 ∨ 32 < n then ([], [], 1) else (ints (List.replicate n.toNat 0), u8s (List.replicate (64 * n).toNat 0), 0)) := by
  unfold d23
  simp only [c_lss, c_gtr, decide_eq_true_eq]
  by_cases h0 : n < 0
  · rw [if_pos h0, if_pos (.inl h0)]
  · by_cases h1 : 32 < n
    · rw [if_neg h0, if_pos h1, if_pos (.inr h1)]
    · rw [if_neg h0, if_neg h1, if_neg (show ¬ (n < 0 ∨ 32 < n) by omega), a_mul (by omega) (by omega), if_pos (show Ge0 n by unfold Ge0; omega), if_pos (room_8 (by omega)), if_pos (show Ge0 (n * 64) by unfold Ge0; omega), if_pos (room_1 (by omega))]
      simp [repL, ints, u8s, Int.mul_comm]

/-- mem.Access: the fault and the error. -/
def accessV (P B : List Int) (a n p : Int) : Int × Int × Int := if checkV P B ≠ 0 then (0, 0, checkV P B) else if n < 0 ∨ 2048 < n ∨ ¬ (p = 1 ∨ p = 2 ∨ p = 4) then (0, 0, 1) else ((fault P B a n p).1, (fault P B a n p).2, 0)
theorem s15 (P B : List Int) (a n p : Int) : d15 (ints P) (u8s B) a n p = some (accessV P B a n p) := by
  unfold d15 accessV
  rw [s18, Option.bind_some]
  simp only [c_neq, c_eql, c_lss, c_gtr, decide_eq_true_eq]
  by_cases hc : checkV P B = 0
  · rw [if_neg (not_not_intro hc), if_neg (not_not_intro hc)]
    by_cases h0 : n < 0
    · simp [h0]
    · by_cases h1 : 2048 < n
      · simp [h0, h1]
      · rw [s47 hc a n p (by omega)]
        by_cases p1 : p = 1
        · simp [h0, h1, p1]
        · by_cases p2 : p = 2
          · simp [h0, h1, p1, p2]
          · by_cases p4 : p = 4 <;> simp [h0, h1, p1, p2, p4]
  · rw [if_pos hc, if_pos hc]

/-- mem.Peek: the bytes, the fault, the error. -/
def peekV (P B : List Int) (a n : Int) : List Int × Int × Int × Int := if checkV P B ≠ 0 then ([], 0, 0, checkV P B) else if n < 0 ∨ 2048 < n then ([], 0, 0, 1) else
  if (fault P B a n 0).1 ≠ 0 ∨ n = 0 then ([], (fault P B a n 0).1, (fault P B a n 0).2, 0) else (part B a n, 0, 0, 0)
theorem sub_u8s (B : List Int) (l h : Int) : subL (u8s B) l h = u8s ((B.take h.toNat).drop l.toNat) := nums_sub B l h
theorem s20 (P B : List Int) (a n : Int) (ha : -9223372036854775808 ≤ a ∧ a ≤ 9223372036854775807) : d20 (ints P) (u8s B) a n = some (u8s (peekV P B a n).1, (peekV P B a n).2) := by
  unfold d20 peekV
  rw [s18, Option.bind_some]
  simp only [c_neq, c_eql, c_lss, c_gtr, decide_eq_true_eq]
  by_cases hc : checkV P B = 0
  · rw [if_neg (not_not_intro hc), if_neg (not_not_intro hc)]
    by_cases h0 : n < 0
    · simp [h0, u8s]
    · by_cases h1 : 2048 < n
      · simp [h0, h1, u8s]
      · rw [s47 hc a n 0 (by omega), Option.bind_some, if_neg h0, if_neg h1, if_neg (show ¬ (n < 0 ∨ 2048 < n) by omega)]
        by_cases hf : (fault P B a n 0).1 = 0
        · by_cases hn : n = 0
          · simp [hf, hn, u8s]
          · obtain ⟨f1, f2, f3⟩ := fault_in hc ha (by omega) (by omega) (.inl rfl) hf
            rw [if_neg (not_not_intro hf), if_neg hn, if_neg (show ¬ ((fault P B a n 0).1 ≠ 0 ∨ n = 0) by simp [hf, hn]), a_add (by omega) (by omega), lenI_u8s, if_pos (show Bnd a (a + n) (ln B) from ⟨f1, by omega, f2⟩), sub_u8s, s54 _ (by unfold ln at f3 ⊢; simp; omega)]
            rfl
        · rw [if_pos hf, if_pos (.inl hf)]; rfl
  · rw [if_pos hc, if_pos hc]; rfl
end Go.Proofs.Ytmpdimigpaogkaa
end
section
namespace Go.Proofs.Ytmpdimigpaogkaa
open Go.Ab Go.RowKit Go.Proofs.Ytmpdimigpaogkaa.G Go.Proofs.YtmpdimigpaogkaaW.PrintWords Go.Proofs.YtmpdimigpaogkaaW.PrintLast
theorem s48 (a : Int) (b : Bool) : d48 a b = some (if tyOk a = true then 0 else 10) := rfl
theorem s69 (a : Int) (b : Bool) (v : Int) (h : tyOk a = true) : d69 a b v = some (wrapT a b v) := by unfold d69; rw [if_pos h]
theorem s50 (a : Int) (b : Bool) (v : Int) : d50 a b v = some (if tyOk a = true then (wrapT a b v, 0) else (0, 10)) := by
  unfold d50
  rw [s48, Option.bind_some]
  by_cases h : tyOk a = true
  · rw [if_pos h, if_pos h, s69 a b v h]; rfl
  · rw [if_neg h, if_neg h]; rfl
theorem it51 (a v : Int) (h : 0 ≤ a ∧ a ≤ 8) : iter (d51_b1 a) (v, 0, []) = some (u8s (leBytes a.toNat v)) := by
  have := iter_fun (f := d51_b1 a) (fun s => 0 ≤ s.2.1 ∧ s.2.1 ≤ a ∧ lenI s.2.2 = s.2.1) (fun s => (a - s.2.1).toNat) (fun s => s.2.2 ++ u8s (leBytes (a - s.2.1).toNat s.1)) (fun s hs => ?_) (v, 0, []) ⟨by simp, h.1, rfl⟩
  · simpa using this
  · obtain ⟨x, i, l⟩ := s
    obtain ⟨h0, h1, h2⟩ := hs
    unfold d51_b1
    simp only [c_lss, decide_eq_true_eq] at *
    by_cases hlt : i < a
    · rw [if_pos hlt]
      have hl : lenI (appL l [V.i .u8 (wrapK .u8 x)]) = i + 1 := by rw [← h2]; simp [lenI, appL]
      rw [hl, if_pos (room_1 (by omega)), if_pos (show Ge0 8 by unfold Ge0; omega), a_add (by omega) (by omega)]
      refine .inl ⟨_, rfl, ⟨?_, ?_, ?_⟩, ?_, ?_⟩
      · simp only; omega
      · simp only; omega
      · exact hl
      · simp only; omega
      · simp only
        have e1 : arReal .shr .i64 x 8 = x / 256 := by
          show x.fdiv (2 ^ (min (8 : Int).toNat 64)) = _
          rw [Int.fdiv_eq_ediv_of_nonneg _ (by decide)]
          rfl
        rw [show (a - i).toNat = (a - (i + 1)).toNat + 1 from by omega, leBytes_cons, e1]
        simp [appL, u8s, wrapK, u8_wrap]
    · rw [if_neg hlt]
      refine .inr ?_
      rw [show (a - i).toNat = 0 from by omega]
      simp [leBytes, u8s]
theorem s51 (a : Int) (b : Bool) (v : Int) : d51 a b v = some (if tyOk a = true then (u8s (leBytes a.toNat v), 0) else ([], 10)) := by
  unfold d51
  rw [s48, Option.bind_some]
  by_cases h : tyOk a = true
  · have := ty_pos h
    rw [if_pos h, if_pos h, it51 a v ⟨by omega, by omega⟩]; rfl
  · rw [if_neg h, if_neg h]; rfl
theorem it49 (l : List Int) (hb : Bytes l) (h8 : ln l ≤ 8) : iter (d49_b1 (u8s l)) (0, 0) = some (le l) := by
  refine iter_fun (fun s => 0 ≤ s.2 ∧ s.2 ≤ ln l ∧ s.1 = le (l.take s.2.toNat)) (fun s => (ln l - s.2).toNat) (fun _ => le l) (fun s hs => ?_) (0, 0) ⟨by simp, ln_nn l, rfl⟩
  obtain ⟨x, i⟩ := s
  obtain ⟨h0, h1, h2⟩ := hs
  unfold d49_b1
  simp only [c_lss, decide_eq_true_eq, lenI_u8s, gI_u8s] at *
  by_cases hlt : i < ln l
  · rw [if_pos hlt, if_pos (show Inb i (ln l) from ⟨h0, hlt⟩), a_mul (by omega) (by omega), if_pos (show Ge0 (8 * i) by unfold Ge0; omega), a_add (by omega) (by omega)]
    refine .inl ⟨_, rfl, ⟨?_, ?_, ?_⟩, ?_, trivial⟩
    · simp only; omega
    · simp only; omega
    · simp only; rw [h2]; exact fb_step hb (by unfold ln at h8; omega) h0 hlt
    · simp only; omega
  · rw [if_neg hlt]
    refine .inr ?_
    rw [h2, List.take_of_length_le (by unfold ln at hlt; omega)]
theorem s49 (a : Int) (b : Bool) (l : List Int) (hb : Bytes l) : d49 a b (u8s l) = some (if tyOk a = true then (if ln l = a then (wrapT a b (IntKind.i64.wrap (le l)), 0) else (0, 1)) else (0, 10)) := by
  unfold d49
  rw [s48, Option.bind_some]
  simp only [c_neq, decide_eq_true_eq, lenI_u8s]
  by_cases h : tyOk a = true
  · have := ty_pos h
    rw [if_pos h, if_pos h, if_neg (by simp)]
    by_cases h2 : ln l = a
    · rw [if_neg (not_not_intro h2), if_pos h2, it49 l hb (by omega), Option.bind_some, Option.bind_some, s69 _ _ _ h]; rfl
    · rw [if_pos h2, if_neg h2]
  · rw [if_neg h, if_neg h, if_pos (by simp)]
/-- mem.Load: value, fault, error. -/
def loadV (P B : List Int) (at_ a : Int) (b : Bool) : Int × Int × Int × Int := if checkV P B ≠ 0 then (0, 0, 0, checkV P B) else if tyOk a = true then (if (fault P B at_ a 1).1 ≠ 0 then (0, (fault P B at_ a 1).1, (fault P B at_ a 1).2, 0) else (loaded B at_ a b, 0, 0, 0)) else (0, 0, 0, 10)
theorem s16 (P B : List Int) (hB : Bytes B) (at_ : Int) (ha : -9223372036854775808 ≤ at_ ∧ at_ ≤ 9223372036854775807) (a : Int) (b : Bool) : d16 (ints P) (u8s B) at_ a b = some (loadV P B at_ a b) := by
  unfold d16 loadV
  rw [s18, Option.bind_some, s48, Option.bind_some]
  simp only [c_neq, decide_eq_true_eq]
  by_cases hc : checkV P B = 0
  · rw [if_neg (not_not_intro hc), if_neg (not_not_intro hc)]
    by_cases h : tyOk a = true
    · have := ty_pos h
      rw [if_pos h, if_pos h, if_neg (by simp), s47 hc at_ a 1 (by omega), Option.bind_some]
      by_cases hf : (fault P B at_ a 1).1 = 0
      · obtain ⟨f1, f2, f3⟩ := fault_in hc ha (by omega) (by omega) (.inr (.inl rfl)) hf
        rw [if_neg (not_not_intro hf), if_neg (not_not_intro hf), a_add (by omega) (by omega), lenI_u8s, if_pos (show Bnd at_ (at_ + a) (ln B) from ⟨f1, by omega, f2⟩), sub_u8s]
        have hp := part_ln f1 (by omega) f2
        have hpb := part_bytes (at_ := at_) (n := a) hB
        unfold part at hp hpb
        rw [s49 _ _ _ hpb, if_pos h, if_pos hp]
        rfl
      · rw [if_pos hf, if_pos hf]
    · rw [if_neg h, if_neg h, if_pos (by simp)]
  · rw [if_pos hc, if_pos hc]
/-- mem.Store: space, fault, error. -/
def storeV (P B : List Int) (at_ a : Int) (b : Bool) (v : Int) : List V × List V × Int × Int × Int := if checkV P B ≠ 0 then ([], [], 0, 0, checkV P B) else if tyOk a = true then (if (fault P B at_ a 2).1 ≠ 0 then ([], [], (fault P B at_ a 2).1, (fault P B at_ a 2).2, 0) else (ints P, u8s (stored B at_ a b v), 0, 0, 0)) else ([], [], 0, 0, 10)
theorem s17 (P B : List Int) (at_ : Int) (ha : -9223372036854775808 ≤ at_ ∧ at_ ≤ 9223372036854775807) (a : Int) (b : Bool) (v : Int) : d17 (ints P) (u8s B) at_ a b v = some (storeV P B at_ a b v) := by
  unfold d17 storeV
  rw [s18, Option.bind_some, s48, Option.bind_some]
  simp only [c_neq, decide_eq_true_eq]
  by_cases hc : checkV P B = 0
  · rw [if_neg (not_not_intro hc), if_neg (not_not_intro hc)]
    by_cases h : tyOk a = true
    · have := ty_pos h
      rw [if_pos h, if_pos h, if_neg (by simp), s47 hc at_ a 2 (by omega), Option.bind_some]
      by_cases hf : (fault P B at_ a 2).1 = 0
      · obtain ⟨f1, f2, f3⟩ := fault_in hc ha (by omega) (by omega) (.inr (.inr (.inl rfl))) hf
        rw [if_neg (not_not_intro hf), if_neg (not_not_intro hf), s50, if_pos h, Option.bind_some, if_neg (by simp), s51, if_pos h, Option.bind_some, if_neg (by simp), s52 hc, Option.bind_some]
        simp only [lenI_u8s]
        rw [if_pos (show Bnd at_ (ln B) (ln B) from ⟨f1, by omega, by omega⟩)]
        have hl : ln (leBytes a.toNat (wrapT a b v)) = a := by unfold ln; rw [leBytes_length]; omega
        have hm : mnI (ln (leBytes a.toNat (wrapT a b v))) (miI (ln B) at_) = ln (leBytes a.toNat (wrapT a b v)) := by
          unfold mnI miI; rw [if_neg (by omega)]
        rw [hm]
        have := ovl_u8 (B := B) (b := leBytes a.toNat (wrapT a b v)) f1 (by rw [hl]; exact f2) rfl
        unfold subL
        rw [this]
        rfl
      · rw [if_pos hf, if_pos hf]
    · rw [if_neg h, if_neg h, if_pos (by simp)]
  · rw [if_pos hc, if_pos hc]
theorem it19 (P B : List Int) (hc : checkV P B = 0) (at_ n : Int) (hn : 0 ≤ n ∧ n ≤ 2048) : iter (d19_b1 (ints P) (u8s B) at_ n) (0, []) = some (u8s (fetched P B at_ n.toNat 0)) := by
  have hv : ln B = 64 * ln P ∧ ln P ≤ 32 := by obtain ⟨v1, v2, _⟩ := checkV_0 hc; unfold ln; omega
  have := iter_fun (f := d19_b1 (ints P) (u8s B) at_ n) (fun s => 0 ≤ s.1 ∧ s.1 ≤ n ∧ lenI s.2 = s.1) (fun s => (n - s.1).toNat) (fun s => s.2 ++ u8s (fetched P B at_ (n - s.1).toNat s.1)) (fun s hs => ?_) (0, []) ⟨by simp, hn.1, rfl⟩
  · simpa using this
  · obtain ⟨i, l⟩ := s
    obtain ⟨h0, h1, h2⟩ := hs
    unfold d19_b1
    have ex : arReal .add .i64 at_ i = IntKind.i64.wrap (at_ + i) := rfl
    simp only [c_lss, c_neq, decide_eq_true_eq, lenI_ints, lenI_u8s, gI_ints, gI_u8s, s53, Option.bind_some, ex] at *
    generalize hx : IntKind.i64.wrap (at_ + i) = x
    by_cases hlt : i < n
    · rw [if_pos hlt, show (n - i).toNat = (n - (i + 1)).toNat + 1 from by omega]
      simp only [fetched, hx]
      by_cases hb : hasB B x = true
      · have hr : 0 ≤ x ∧ x < ln B := by simpa [hasB] using hb
        have eq64 : arReal .quo .i64 x 64 = x / 64 := by
          show IntKind.i64.wrap (x.tdiv 64) = _
          rw [Int.tdiv_eq_ediv_of_nonneg hr.1, wr (by omega) (by omega)]
        rw [eq64, if_neg (by simp [hb, notB']), if_pos (show Ne0 64 by unfold Ne0; omega), if_pos (show Inb (x / 64) (ln P) from ⟨by omega, by omega⟩)]
        by_cases h4 : rdI P (x / 64) = 4
        · have hl : lenI (appL l [V.i .u8 (rdI B x)]) = i + 1 := by rw [← h2]; simp [lenI, appL]
          rw [if_neg (not_not_intro h4), if_pos (show Inb x (ln B) from hr), hl, if_pos (room_1 (by omega)), a_add (by omega) (by omega), if_pos ⟨hb, h4⟩]
          refine .inl ⟨_, rfl, ⟨?_, ?_, hl⟩, ?_, ?_⟩
          · simp only; omega
          · simp only; omega
          · simp only; omega
          · simp [appL, u8s]
        · rw [if_pos h4, if_neg (fun h => h4 h.2)]
          refine .inr ?_
          simp [u8s]
      · rw [if_pos (by simp [hb, notB']), if_neg (fun h => hb h.1)]
        refine .inr ?_
        simp [u8s]
    · rw [if_neg hlt, show (n - i).toNat = 0 from by omega]
      refine .inr ?_
      simp [fetched, u8s]
theorem s19 (P B : List Int) (at_ n : Int) : d19 (ints P) (u8s B) at_ n = some (if checkV P B ≠ 0 then ([], checkV P B) else if n < 0 ∨ 2048 < n then ([], 1) else (u8s (fetched P B at_ n.toNat 0), 0)) := by
  unfold d19
  rw [s18, Option.bind_some]
  simp only [c_neq, c_lss, c_gtr, decide_eq_true_eq]
  by_cases hc : checkV P B = 0
  · rw [if_neg (not_not_intro hc), if_neg (not_not_intro hc)]
    by_cases h0 : n < 0
    · rw [if_pos h0, if_pos (.inl h0)]
    · by_cases h1 : 2048 < n
      · rw [if_neg h0, if_pos h1, if_pos (.inr h1)]
      · rw [if_neg h0, if_neg h1, if_neg (show ¬ (n < 0 ∨ 2048 < n) by omega), it19 P B hc at_ n ⟨by omega, by omega⟩]; rfl
  · rw [if_pos hc, if_pos hc]
end Go.Proofs.Ytmpdimigpaogkaa
end
section
namespace Go.Proofs.Ytmpdimigpaogkaa
open Go.Ab Go.RowKit Go.Proofs.Ytmpdimigpaogkaa.G Go.Proofs.YtmpdimigpaogkaaW.PrintWords Go.Proofs.YtmpdimigpaogkaaW.PrintLast
set_option maxRecDepth 100000
def P3 : List Int := [3, 1, 4]
def B3 : List Int := List.replicate 192 0
def S3 : List Int := stored B3 60 4 false 258
theorem s46 : d46 = some (ints P3, u8s B3) := by
  have h1 : d23 3 = some (ints [0, 0, 0], u8s B3, 0) := s23 3
  have h2 : d21 (ints [0, 0, 0]) (u8s B3) 0 3 = some (ints [3, 0, 0], u8s B3, 0) := (s21 _ _ _ _).trans (by kernel_rfl)
  have h3 : d21 (ints [3, 0, 0]) (u8s B3) 1 1 = some (ints [3, 1, 0], u8s B3, 0) := (s21 _ _ _ _).trans (by kernel_rfl)
  have h4 : d22 (ints [3, 1, 0]) (u8s B3) 2 = some (ints P3, u8s B3, 0) := (s22 _ _ _).trans (by kernel_rfl)
  unfold d46
  rw [h1, Option.bind_some, h2, Option.bind_some, h3, Option.bind_some, h4, Option.bind_some]
theorem bytes_of {l : List Int} (h : (l.all fun x => decide (0 ≤ x) && decide (x < 256)) = true) : Bytes l := fun x hx => by
  have := List.all_eq_true.1 h x hx
  simpa using this
theorem s14 : d14 = some true := by
  have e2 : d17 (ints P3) (u8s B3) 60 4 false 258 = some (ints P3, u8s S3, 0, 0, 0) := (s17 _ _ _ (by decide) _ _ _).trans (by kernel_rfl)
  have e3 : d16 (ints P3) (u8s S3) 60 4 false = some (258, 0, 0, 0) := (s16 _ _ (bytes_of (by kernel_rfl)) _ (by decide) _ _).trans (by kernel_rfl)
  have e4 : d17 (ints P3) (u8s B3) 62 4 false 1 = some ([], [], 3, 64, 0) := (s17 _ _ _ (by decide) _ _ _).trans (by kernel_rfl)
  have e5 : d16 (ints P3) (u8s B3) 126 4 false = some (0, 2, 128, 0) := (s16 _ _ (bytes_of (by kernel_rfl)) _ (by decide) _ _).trans (by kernel_rfl)
  have e6 : d19 (ints P3) (u8s B3) 190 4 = some (u8s [0, 0], 0) := (s19 _ _ _ _).trans (by kernel_rfl)
  have e7 : d20 (ints P3) (u8s B3) 190 4 = some ([], 1, 192, 0) := (s20 _ _ _ _ (by decide)).trans (by kernel_rfl)
  have e8 : d21 (ints P3) (u8s B3) 2 1 = some ([], [], 31) := (s21 _ _ _ _).trans (by kernel_rfl)
  have e9 : d21 (ints P3) (u8s B3) 1 4 = some ([], [], 31) := (s21 _ _ _ _).trans (by kernel_rfl)
  have e18 : d18 (ints P3) (u8s B3) = some 0 := (s18 _ _).trans (by kernel_rfl)
  unfold d14
  simp only [s46, e2, e3, e4, e5, e6, e7, e8, e9, e18, Option.bind_some]
  rfl
end Go.Proofs.Ytmpdimigpaogkaa
end
section
namespace Go.Proofs.Ytmpdimigpaogkaa
open Go.Ab Go.RowKit Go.Proofs.Ytmpdimigpaogkaa.G Go.Proofs.YtmpdimigpaogkaaW.PrintWords Go.Proofs.YtmpdimigpaogkaaW.PrintLast
theorem rdI_set {P : List Int} {n i : Int} (v : Int) (hn : 0 ≤ n) (hl : n < ln P) (hi : 0 ≤ i) : rdI (P.set n.toNat v) i = if i = n then v else rdI P i := by
  unfold ln at hl
  unfold rdI
  rw [List.getD_eq_getElem?_getD, List.getD_eq_getElem?_getD, List.getElem?_set]
  by_cases h : i = n
  · subst h; rw [if_pos rfl, if_pos rfl, if_pos (by omega)]; rfl
  · rw [if_neg (by omega), if_neg h]
theorem rdI_part {B : List Int} {a n j : Int} (h0 : 0 ≤ a) (hn : a + n ≤ ln B) (hj : 0 ≤ j) (hj2 : j < n) : rdI (part B a n) j = rdI B (a + j) := by
  unfold rdI part
  rw [List.getD_eq_getElem?_getD, List.getD_eq_getElem?_getD, List.getElem?_drop, List.getElem?_take, if_pos (by omega), show a.toNat + j.toNat = (a + j).toNat from by omega]
theorem ln_spl {B b : List Int} {lo : Int} (h0 : 0 ≤ lo) (h1 : lo + ln b ≤ ln B) : ln (spl B lo.toNat b) = ln B := by
  unfold spl ln at *; simp; omega
theorem rdI_spl {B b : List Int} {lo y : Int} (h0 : 0 ≤ lo) (h1 : lo + ln b ≤ ln B) (hy : 0 ≤ y) (hout : y < lo ∨ lo + ln b ≤ y) : rdI (spl B lo.toNat b) y = rdI B y := by
  unfold spl rdI ln at *
  rw [List.getD_eq_getElem?_getD, List.getD_eq_getElem?_getD]
  by_cases h : y < lo
  · rw [List.getElem?_append_left (by simp; omega), List.getElem?_take, if_pos (by omega)]
  · rw [List.getElem?_append_right (by simp; omega), List.getElem?_append_right (by simp; omega), List.getElem?_drop]
    congr 2
    simp
    omega
theorem check_of {P B : List Int} (h1 : ln P ≤ 32) (h2 : ln B = 64 * ln P) (h : ∀ i, 0 ≤ i → i < ln P → permOk (rdI P i) = true) : checkV P B = 0 := check_all h1 h2 h
theorem check_to {P B : List Int} (h : checkV P B = 0) : ln P ≤ 32 ∧ ln B = 64 * ln P ∧ ∀ i, 0 ≤ i → i < ln P → permOk (rdI P i) = true := by
  obtain ⟨h1, h2, h3⟩ := checkV_0 h
  refine ⟨by unfold ln; omega, by unfold ln; omega, fun i h0 hi => ?_⟩
  have hl : i.toNat < P.length := by unfold ln at hi; omega
  have := List.all_eq_true.1 h3 (P[i.toNat]) (List.getElem_mem hl)
  rwa [← rdI_lt hl, Int.toNat_of_nonneg h0] at this

/-- What may be run in the one space is kept in the other. -/
structure Keeps (P B P2 B2 : List Int) : Prop where
  ok : checkV P2 B2 = 0
  len : ln P2 = ln P
  code : ∀ i, 0 ≤ i → i < ln P → rdI P i = 4 → rdI P2 i = 4 ∧ part B2 (64 * i) 64 = part B (64 * i) 64
theorem Keeps.refl {P B : List Int} (h : checkV P B = 0) : Keeps P B P B := ⟨h, rfl, fun i _ _ h => ⟨h, rfl⟩⟩
theorem Keeps.trans {P B P2 B2 P3 B3 : List Int} (h : Keeps P B P2 B2) (k : Keeps P2 B2 P3 B3) : Keeps P B P3 B3 :=
  ⟨k.ok, k.len.trans h.len, fun i h0 h1 h2 => by
    obtain ⟨a1, a2⟩ := h.code i h0 h1 h2
    obtain ⟨b1, b2⟩ := k.code i h0 (by rw [h.len]; exact h1) a1
    exact ⟨b1, b2.trans a2⟩⟩
theorem set_keeps {P B : List Int} (h : checkV P B = 0) {n v : Int} (hn : 0 ≤ n) (hl : n < ln P) (hv : permOk v = true) (hk : rdI P n = 4 → v = 4) : Keeps P B (P.set n.toNat v) B := by
  obtain ⟨c1, c2, c3⟩ := check_to h
  have e : ln (P.set n.toNat v) = ln P := by simp [ln]
  refine ⟨check_of (by omega) (by omega) (fun i h0 h1 => ?_), e, fun i h0 h1 h2 => ⟨?_, rfl⟩⟩
  · rw [rdI_set v hn hl h0]
    split
    · exact hv
    · exact c3 i h0 (by omega)
  · rw [rdI_set v hn hl h0]
    split
    · rename_i hi; subst hi; exact hk h2
    · exact h2
theorem and_2 {p : Int} (hp : permOk p = true) (h : Go.bits .and .i64 p 2 = 2) : p ≠ 4 := by
  intro e; subst e; revert h; decide
theorem and_4 {p : Int} (hp : permOk p = true) : Go.bits .and .i64 p 4 = 4 ↔ p = 4 := by
  rcases permOk_yes hp with e | e | e | e <;> subst e <;> decide
theorem fault_none {P B : List Int} {a n perm : Int} (hp : perm = 0 ∨ perm = 1 ∨ perm = 2 ∨ perm = 4) (h : (fault P B a n perm).1 = 0) : ∀ j : Nat, (j : Int) < n → need1 P B.length (wrap64 (a + j)) perm = none := fun j hj => by
  have := needs_none _ _ (fault_0 hp h) j (by omega)
  simpa using this
theorem store_keeps {P B : List Int} (hc : checkV P B = 0) {at_ a : Int} {b : Bool} {v : Int} (ha : -9223372036854775808 ≤ at_ ∧ at_ ≤ 9223372036854775807) (ht : tyOk a = true) (hf : (fault P B at_ a 2).1 = 0) : Keeps P B P (stored B at_ a b v) := by
  have := ty_pos ht
  obtain ⟨f1, f2, f3⟩ := fault_in hc ha (by omega) (by omega) (.inr (.inr (.inl rfl))) hf
  obtain ⟨c1, c2, c3⟩ := check_to hc
  have hl : ln (leBytes a.toNat (wrapT a b v)) = a := by unfold ln; rw [leBytes_length]; omega
  have e : ln (stored B at_ a b v) = ln B := ln_spl f1 (by rw [hl]; exact f2)
  refine ⟨check_of c1 (by omega) c3, rfl, fun i h0 h1 h2 => ⟨h2, ?_⟩⟩
  have p1 : ln (part (stored B at_ a b v) (64 * i) 64) = 64 := part_ln (by omega) (by omega) (by omega)
  have p2 : ln (part B (64 * i) 64) = 64 := part_ln (by omega) (by omega) (by omega)
  refine eq_of_rd (by omega) (fun j j0 j1 => ?_)
  rw [rdI_part (by omega) (by omega) j0 (by omega), rdI_part (by omega) (by omega) j0 (by omega)]
  refine rdI_spl f1 (by rw [hl]; exact f2) (by omega) ?_
  rw [hl]
  by_cases hin : 64 * i + j < at_ ∨ at_ + a ≤ 64 * i + j
  · exact hin
  · exfalso
    have h3 := fault_none (.inr (.inr (.inl rfl))) hf (64 * i + j - at_).toNat (by omega)
    rw [show at_ + ((64 * i + j - at_).toNat : Int) = 64 * i + j from by omega] at h3
    have hw : wrap64 (64 * i + j) = 64 * i + j := by unfold wrap64; omega
    rw [hw] at h3
    unfold need1 at h3
    rw [if_pos (by unfold ln at *; omega), show (64 * i + j) / 64 = i from by omega] at h3
    split at h3
    · rename_i h4
      have e4 : rd P i = rdI P i := rfl
      rw [e4] at h4
      exact and_2 (c3 i h0 h1) h4 h2
    · cases h3
/-- What mem.Fetch brings. -/
theorem fetched_all {P B : List Int} {at_ : Int} : ∀ (m : Nat) (i : Int), (fetched P B at_ m i).length ≤ m ∧ (∀ j : Nat, j < (fetched P B at_ m i).length → hasB B (IntKind.i64.wrap (at_ + (i + j))) = true ∧ rdI P (IntKind.i64.wrap (at_ + (i + j)) / 64) = 4 ∧ rdI (fetched P B at_ m i) j = rdI B (IntKind.i64.wrap (at_ + (i + j)))) ∧
    ((fetched P B at_ m i).length < m → ¬ (hasB B (IntKind.i64.wrap (at_ + (i + (fetched P B at_ m i).length))) = true ∧ rdI P (IntKind.i64.wrap (at_ + (i + (fetched P B at_ m i).length)) / 64) = 4))
  | 0, i => ⟨Nat.le_refl _, fun j hj => absurd hj (Nat.not_lt_zero _), fun h => absurd h (Nat.lt_irrefl _)⟩
  | m + 1, i => by
    obtain ⟨h1, h2, h3⟩ := fetched_all (P := P) (B := B) (at_ := at_) m (i + 1)
    unfold fetched
    split
    · rename_i hk
      refine ⟨by simpa using h1, fun j hj => ?_, fun h => ?_⟩
      · cases j with
        | zero => simp only [Int.natCast_zero, Int.add_zero]; exact ⟨hk.1, hk.2, rfl⟩
        | succ j =>
          obtain ⟨g1, g2, g3⟩ := h2 j (by simpa using hj)
          rw [show i + ((j + 1 : Nat) : Int) = i + 1 + (j : Int) from by omega]
          exact ⟨g1, g2, by rw [← g3]; simp [rdI]⟩
      · have := h3 (by simpa using h)
        rw [show i + (((rdI B (IntKind.i64.wrap (at_ + i)) :: fetched P B at_ m (i + 1)).length : Nat) : Int) = i + 1 + ((fetched P B at_ m (i + 1)).length : Int) from by simp; omega]
        exact this
    · rename_i hk
      refine ⟨Nat.zero_le _, fun j hj => absurd hj (Nat.not_lt_zero _), fun _ => ?_⟩
      simpa using hk
end Go.Proofs.Ytmpdimigpaogkaa
end
section
namespace Go.Proofs.Ytmpdimigpaogkaa
open Go.Ab Go.RowKit Go.Proofs.Ytmpdimigpaogkaa.G Go.Proofs.YtmpdimigpaogkaaW.PrintWords Go.Proofs.YtmpdimigpaogkaaW.PrintLast
set_option maxRecDepth 100000
set_option maxHeartbeats 4000000
end Go.Proofs.Ytmpdimigpaogkaa
end
section
namespace Go.Proofs.Ytmpdimigpaogkaa
open Go.Ab Go.RowKit Go.Proofs.Ytmpdimigpaogkaa.G Go.Proofs.YtmpdimigpaogkaaW.PrintWords Go.Proofs.YtmpdimigpaogkaaW.PrintLast
set_option maxRecDepth 100000
set_option maxHeartbeats 4000000
noncomputable def d24_b1 (a0 : Int) (s4 : Int × List V × List V) : Option ((Int × List V × List V) ⊕ (List V × List V)) :=
  if (cmpLit .lss s4.1 a0) = true then
    if (Room (lenI (appL s4.2.1 [.i .i64 0])) 8) then
      if (Ge0 64) then
        if (Room 64 1) then
          if (Room (lenI (appL s4.2.2 (repL 64 (.i .u8 0)))) 1) then
            some (.inl ((arReal .add .i64 s4.1 1), (appL s4.2.1 [.i .i64 0]), (appL s4.2.2 (repL 64 (.i .u8 0)))))
          else none
        else none
      else none
    else none
  else
    some (.inr (s4.2.1, s4.2.2))
noncomputable def d24 (a0 : Int) : Option (List V × List V × Int × Int × Int) :=
  if (cmpLit .lss a0 0) = true then
    some ([], [], 0, 0, 1)
  else
    if (cmpLit .gtr a0 32) = true then
      some ([], [], 0, 0, 1)
    else
      Option.bind (α := List V × List V) (
        (iter (d24_b1 a0) (0, [], [])).bind fun y5 =>
        some (y5.1, y5.2)) fun y3 =>
      some (y3.1, y3.2, 0, 0, 0)
noncomputable def w24_c : Code := (Try.f24.body).getD .skip
theorem w24_h : Try.f24.body = some w24_c := by kernel_rfl
theorem w24 (a0 : Int) (r : List V × List V × Int × Int × Int) (h : d24 a0 = some r) : Ab.Fn Try.prog TT 24 [.i .i64 a0] (.agg [.row 0, .row 1, .i .i64 r.2.2.1, .i .i64 r.2.2.2.1, .i .i64 r.2.2.2.2]) [(0, .row 3 r.1), (1, .row 5 r.2.1)] := by
  refine fn_own tok W0 Try.func24 (by kernel_rfl) w24_h (by kernel_rfl) ?_
  intro ar un cv mn mx pl mi cmp nt beq an scmp cat slen sbyte ssub ofB toB len gi gb gs gl sub put app ovl rep ne0 ge0 inb bnd room sroom need br call loop cut nl E R K hK
  have D := E.D
  clear E
  unfold d24 at h
  cbv
  refine R.cut' (by kernel_rfl) (by kernel_rfl) ?_
  cbv
  refine R.cut' (by kernel_rfl) (by kernel_rfl) ?_
  cbv
  refine R.brD h (by (first | rfl | simp only [D.happ, D.har, D.hcmp, D.hge0, D.hlen, D.hrep, D.hroom])) ?_ ?_ <;> clear h <;> intro h <;> cbv
  · have e := ret_some h; clear h
    refine hK _ _ ⟨rfl, ⟨?_, rfl, rfl, rfl, ?_⟩⟩ <;> cbv <;> (try (subst e; simp only [D.happ, D.har, D.hcmp, D.hge0, D.hlen, D.hrep, D.hroom, and_self, and_true, true_and] <;> (repeat' apply And.intro) <;> rfl))
  · refine R.brD h (by (first | rfl | simp only [D.happ, D.har, D.hcmp, D.hge0, D.hlen, D.hrep, D.hroom])) ?_ ?_ <;> clear h <;> intro h <;> cbv
    · have e := ret_some h; clear h
      refine hK _ _ ⟨rfl, ⟨?_, rfl, rfl, rfl, ?_⟩⟩ <;> cbv <;> (try (subst e; simp only [D.happ, D.har, D.hcmp, D.hge0, D.hlen, D.hrep, D.hroom, and_self, and_true, true_and] <;> (repeat' apply And.intro) <;> rfl))
    · refine R.cutB (fun p => p) (fun _ _ e => e) h [] (fun p7 => []) (fun p7 => [(48, .cells 25 [.row 63, .row 62]), (63, .row 3 p7.1), (62, .row 5 p7.2)]) (by kernel_rfl) (by kernel_rfl) (fun y3 hy hFy3 L hLy3 => ?_) (fun p7 h2 => ?_)
      · clear h; have h := hy; clear hy; cbv
        refine R.loopD h (fun s0 y5 e0 hi hFs4 => ?_)
        clear h
        refine R.bornC' (e := te3) 48 0 63 3 rfl rfl rfl (by kernel_rfl) (by decide) ?_
        refine R.bornC' (e := te5) 48 1 62 5 rfl rfl rfl (by kernel_rfl) (by decide) ?_
        refine R.loopI hi [] (fun s4 => [(4, .i .i64 s4.1)]) (fun s4 => [(63, .row 3 s4.2.1), (62, .row 5 s4.2.2), (48, .cells 25 [.row 63, .row 62])]) ⟨rfl, ?_, ?_, rfl, rfl⟩ (by kernel_rfl) ?_
        · cbv; try (subst e0; simp only [D.happ, D.har, D.hcmp, D.hge0, D.hlen, D.hrep, D.hroom, and_self, and_true, true_and] <;> (repeat' apply And.intro) <;> rfl)
        · cbv; try (subst e0; simp only [D.happ, D.har, D.hcmp, D.hge0, D.hlen, D.hrep, D.hroom, and_self, and_true, true_and] <;> (repeat' apply And.intro) <;> rfl)
        clear hi e0
        intro s4 m y' hy hins4 houts4 L hLs4
        have h := hy; clear hy; unfold d24_b1 at h
        cbv
        refine R.cut' (by kernel_rfl) (by kernel_rfl) ?_
        cbv
        refine R.brD h (by (first | rfl | simp only [D.happ, D.har, D.hcmp, D.hge0, D.hlen, D.hrep, D.hroom])) ?_ ?_ <;> clear h <;> intro h <;> cbv
        · refine R.cut' (by kernel_rfl) (by kernel_rfl) ?_
          cbv
          refine R.needD h (by (first | rfl | simp only [D.happ, D.har, D.hcmp, D.hge0, D.hlen, D.hrep, D.hroom])) ?_
          clear h; intro h; cbv
          refine R.needD h (by (first | rfl | simp only [D.happ, D.har, D.hcmp, D.hge0, D.hlen, D.hrep, D.hroom])) ?_
          clear h; intro h; cbv
          refine R.needD h (by (first | rfl | simp only [D.happ, D.har, D.hcmp, D.hge0, D.hlen, D.hrep, D.hroom])) ?_
          clear h; intro h; cbv
          refine R.needD h (by (first | rfl | simp only [D.happ, D.har, D.hcmp, D.hge0, D.hlen, D.hrep, D.hroom])) ?_
          clear h; intro h; cbv
          obtain ⟨s', e, hi⟩ := inl_some h hins4
          refine hLs4 s' _ _ hi ⟨rfl, ?_, ?_, rfl, rfl⟩ <;> cbv <;> (try (subst e; simp only [D.happ, D.har, D.hcmp, D.hge0, D.hlen, D.hrep, D.hroom, and_self, and_true, true_and] <;> (repeat' apply And.intro) <;> rfl))
        · have e := inr_some h houts4; clear h
          have h := hFs4; rw [e] at h; clear e; try dsimp only at h
          cbv
          obtain ⟨s', e, hi⟩ := jn_some (fun p => p) h
          refine hLy3 s' _ _ hi ⟨rfl, ?_, ?_, rfl, rfl⟩ <;> cbv <;> (try (subst e; simp only [D.happ, D.har, D.hcmp, D.hge0, D.hlen, D.hrep, D.hroom, and_self, and_true, true_and] <;> (repeat' apply And.intro) <;> rfl))
      · clear h; have h := h2; clear h2; try dsimp only at h
        cbv
        have e := ret_some h; clear h
        refine hK _ _ ⟨rfl, ⟨?_, rfl, rfl, rfl, ?_⟩⟩ <;> cbv <;> (try (subst e; simp only [D.happ, D.har, D.hcmp, D.hge0, D.hlen, D.hrep, D.hroom, and_self, and_true, true_and] <;> (repeat' apply And.intro) <;> rfl))
theorem w24s (a0 : Int) (r : List V × List V × Int × Int × Int) (h : d24 a0 = some r) : Ab.Fn Try.prog TT 24 [.i .i64 a0] (.agg [.sl 3 r.1, .sl 5 r.2.1, .i .i64 r.2.2.1, .i .i64 r.2.2.2.1, .i .i64 r.2.2.2.2]) [] :=
  (w24 a0 r h).pure (by simp [ple, ple1, ple1L, pleL, pleS, Ab.look])

noncomputable def d55 (a0 : Int) : Option (Bool) :=
  if (cmpLit .eql a0 0) = true then
    some true
  else
    if (cmpLit .eql a0 1) = true then
      some true
    else
      if (cmpLit .eql a0 3) = true then
        some true
      else
        some (cmpLit .eql a0 4)
noncomputable def w55_c : Code := (Try.f55.body).getD .skip
theorem w55_h : Try.f55.body = some w55_c := by kernel_rfl
theorem w55 (a0 : Int) (r : Bool) (h : d55 a0 = some r) : Ab.Fn Try.prog TT 55 [.i .i64 a0] (.b r) [] := by
  refine fn_pure tok W0 Try.func55 (by kernel_rfl) w55_h (by kernel_rfl) ?_
  intro ar un cv mn mx pl mi cmp nt beq an scmp cat slen sbyte ssub ofB toB len gi gb gs gl sub put app ovl rep ne0 ge0 inb bnd room sroom need br call loop cut nl E R K hK
  have D := E.D
  clear E
  unfold d55 at h
  cbv
  refine R.cut' (by kernel_rfl) (by kernel_rfl) ?_
  cbv
  refine R.brD h (by (first | rfl | simp only [D.hcmp])) ?_ ?_ <;> clear h <;> intro h <;> cbv
  · have e := ret_some h; clear h
    refine hK _ _ ?_
    cbv
    try (subst e; simp only [D.hcmp, and_self, and_true, true_and] <;> (repeat' apply And.intro) <;> rfl)
  · refine R.brD h (by (first | rfl | simp only [D.hcmp])) ?_ ?_ <;> clear h <;> intro h <;> cbv
    · have e := ret_some h; clear h
      refine hK _ _ ?_
      cbv
      try (subst e; simp only [D.hcmp, and_self, and_true, true_and] <;> (repeat' apply And.intro) <;> rfl)
    · refine R.brD h (by (first | rfl | simp only [D.hcmp])) ?_ ?_ <;> clear h <;> intro h <;> cbv
      · have e := ret_some h; clear h
        refine hK _ _ ?_
        cbv
        try (subst e; simp only [D.hcmp, and_self, and_true, true_and] <;> (repeat' apply And.intro) <;> rfl)
      · have e := ret_some h; clear h
        refine hK _ _ ?_
        cbv
        try (subst e; simp only [D.hcmp, and_self, and_true, true_and] <;> (repeat' apply And.intro) <;> rfl)

noncomputable def d27_b1 (a0_0 : List V) (s10 : Int) : Option ((Int) ⊕ ((Int) ⊕ (Unit))) :=
  if (cmpLit .lss s10 (lenI a0_0)) = true then
    if (Inb s10 (lenI a0_0)) then
      (d55 (gI a0_0 s10 0)).bind fun x15 =>
      if (notB' x15) = true then
        some (.inr (.inl 30))
      else
        some (.inl (arReal .add .i64 s10 1))
    else none
  else
    some (.inr (.inr ()))
noncomputable def d27 (a0_0 : List V) (a0_1 : List V) : Option (Int) :=
  if (cmpLit .gtr (lenI a0_0) 32) = true then
    some 30
  else
    if (cmpLit .neq (lenI a0_1) (arReal .mul .i64 (lenI a0_0) 64)) = true then
      some 30
    else
      Option.bind (α := (Unit) ⊕ (Int)) (
        (iter (d27_b1 a0_0) 0).bind fun y13 =>
        match y13 with
        | .inl p16 =>
          some (.inr p16)
        | .inr y13r0 =>
          some (.inl ())) fun y7 =>
      match y7 with
      | .inl p18 =>
        some 0
      | .inr y7r0 =>
        some y7r0
noncomputable def w27_c : Code := (Try.f27.body).getD .skip
theorem w27_h : Try.f27.body = some w27_c := by kernel_rfl
theorem w27 (a0_0 : List V) (a0_1 : List V) (r : Int) (h : d27 a0_0 a0_1 = some r) : Ab.Fn Try.prog TT 27 [.agg [.sl 3 a0_0, .sl 5 a0_1]] (.i .i64 r) [] := by
  refine fn_pure tok W0 Try.func27 (by kernel_rfl) w27_h (by kernel_rfl) ?_
  intro ar un cv mn mx pl mi cmp nt beq an scmp cat slen sbyte ssub ofB toB len gi gb gs gl sub put app ovl rep ne0 ge0 inb bnd room sroom need br call loop cut nl E R K hK
  have D := E.D
  clear E
  unfold d27 at h
  cbv
  refine R.cut' (by kernel_rfl) (by kernel_rfl) ?_
  cbv
  refine R.cut' (by kernel_rfl) (by kernel_rfl) ?_
  cbv
  refine R.brD h (by (first | rfl | simp only [D.har, D.hcmp, D.hgi, D.hinb, D.hlen, D.hnt])) ?_ ?_ <;> clear h <;> intro h <;> cbv
  · have e := ret_some h; clear h
    refine hK _ _ ?_
    cbv
    try (subst e; simp only [D.har, D.hcmp, D.hgi, D.hinb, D.hlen, D.hnt, and_self, and_true, true_and] <;> (repeat' apply And.intro) <;> rfl)
  · refine R.brD h (by (first | rfl | simp only [D.har, D.hcmp, D.hgi, D.hinb, D.hlen, D.hnt])) ?_ ?_ <;> clear h <;> intro h <;> cbv
    · have e := ret_some h; clear h
      refine hK _ _ ?_
      cbv
      try (subst e; simp only [D.har, D.hcmp, D.hgi, D.hinb, D.hlen, D.hnt, and_self, and_true, true_and] <;> (repeat' apply And.intro) <;> rfl)
    · refine R.cutB Sum.inl (fun _ _ e => Sum.inl.inj e) h [] (fun p18 => []) (fun p18 => []) (by kernel_rfl) (by kernel_rfl) (fun y7 hy hFy7 L hLy7 => ?_) (fun p18 h2 => ?_)
      · clear h; have h := hy; clear hy; cbv
        refine R.loopD h (fun s0 y13 e0 hi hFs10 => ?_)
        clear h
        refine R.loopI hi [] (fun s10 => [(3, .i .i64 s10)]) (fun s10 => []) ⟨rfl, ?_, ?_, rfl, rfl⟩ (by kernel_rfl) ?_
        · cbv; try (subst e0; simp only [D.har, D.hcmp, D.hgi, D.hinb, D.hlen, D.hnt, and_self, and_true, true_and] <;> (repeat' apply And.intro) <;> rfl)
        · cbv; try (subst e0; simp only [D.har, D.hcmp, D.hgi, D.hinb, D.hlen, D.hnt, and_self, and_true, true_and] <;> (repeat' apply And.intro) <;> rfl)
        clear hi e0
        intro s10 m y' hy hins10 houts10 L hLs10
        have h := hy; clear hy; unfold d27_b1 at h
        cbv
        refine R.cut' (by kernel_rfl) (by kernel_rfl) ?_
        cbv
        refine R.brD h (by (first | rfl | simp only [D.har, D.hcmp, D.hgi, D.hinb, D.hlen, D.hnt])) ?_ ?_ <;> clear h <;> intro h <;> cbv
        · refine R.cut' (by kernel_rfl) (by kernel_rfl) ?_
          cbv
          refine R.needD h (by (first | rfl | simp only [D.har, D.hcmp, D.hgi, D.hinb, D.hlen, D.hnt])) ?_
          clear h; intro h; cbv
          refine R.callD h (fun x15 hx15 h2 => ?_)
          clear h; have h := h2; clear h2
          refine R.call' (w55 _ _ hx15) (by (first | rfl | simp only [D.har, D.hcmp, D.hgi, D.hinb, D.hlen, D.hnt])) ?_
          clear hx15; cbv
          refine R.brD h (by (first | rfl | simp only [D.har, D.hcmp, D.hgi, D.hinb, D.hlen, D.hnt])) ?_ ?_ <;> clear h <;> intro h <;> cbv
          · have e := inr_some h houts10; clear h
            have h := hFs10; rw [e] at h; clear e; try dsimp only at h
            cbv
            have e := ret_some h; clear h
            have h := hFy7; rw [e] at h; clear e; try dsimp only at h
            cbv
            have e := ret_some h; clear h
            refine hK _ _ ?_
            cbv
            try (subst e; simp only [D.har, D.hcmp, D.hgi, D.hinb, D.hlen, D.hnt, and_self, and_true, true_and] <;> (repeat' apply And.intro) <;> rfl)
          · obtain ⟨s', e, hi⟩ := inl_some h hins10
            refine hLs10 s' _ _ hi ⟨rfl, ?_, ?_, rfl, rfl⟩ <;> cbv <;> (try (subst e; simp only [D.har, D.hcmp, D.hgi, D.hinb, D.hlen, D.hnt, and_self, and_true, true_and] <;> (repeat' apply And.intro) <;> rfl))
        · have e := inr_some h houts10; clear h
          have h := hFs10; rw [e] at h; clear e; try dsimp only at h
          cbv
          obtain ⟨s', e, hi⟩ := jn_some Sum.inl h
          refine hLy7 s' _ _ hi ⟨rfl, ?_, ?_, rfl, rfl⟩ <;> cbv <;> (try (subst e; simp only [D.har, D.hcmp, D.hgi, D.hinb, D.hlen, D.hnt, and_self, and_true, true_and] <;> (repeat' apply And.intro) <;> rfl))
      · clear h; have h := h2; clear h2; try dsimp only at h
        cbv
        have e := ret_some h; clear h
        refine hK _ _ ?_
        cbv
        try (subst e; simp only [D.har, D.hcmp, D.hgi, D.hinb, D.hlen, D.hnt, and_self, and_true, true_and] <;> (repeat' apply And.intro) <;> rfl)

noncomputable def d56 (a0_0 : List V) (a0_1 : List V) : Option (List V × List V) :=
  if (Room (lenI a0_0) 8) then
    if (Room (lenI a0_1) 1) then
      some (a0_0, a0_1)
    else none
  else none
noncomputable def w56_c : Code := (Try.f56.body).getD .skip
theorem w56_h : Try.f56.body = some w56_c := by kernel_rfl
theorem w56 (a0_0 : List V) (a0_1 : List V) (r : List V × List V) (h : d56 a0_0 a0_1 = some r) : Ab.Fn Try.prog TT 56 [.agg [.sl 3 a0_0, .sl 5 a0_1]] (.agg [.row 0, .row 1]) [(0, .row 3 r.1), (1, .row 5 r.2)] := by
  refine fn_own tok W0 Try.func56 (by kernel_rfl) w56_h (by kernel_rfl) ?_
  intro ar un cv mn mx pl mi cmp nt beq an scmp cat slen sbyte ssub ofB toB len gi gb gs gl sub put app ovl rep ne0 ge0 inb bnd room sroom need br call loop cut nl E R K hK
  have D := E.D
  clear E
  unfold d56 at h
  cbv
  refine R.needD h (by (first | rfl | simp only [D.hlen, D.hroom])) ?_
  clear h; intro h; cbv
  refine R.needD h (by (first | rfl | simp only [D.hlen, D.hroom])) ?_
  clear h; intro h; cbv
  have e := ret_some h; clear h
  refine hK _ _ ⟨rfl, ⟨?_, rfl, rfl, rfl, ?_⟩⟩ <;> cbv <;> (try (subst e; simp only [D.hlen, D.hroom, and_self, and_true, true_and] <;> (repeat' apply And.intro) <;> rfl))
noncomputable def d25 (a0_0 : List V) (a0_1 : List V) (a1 : Int) (a2 : Int) : Option (List V × List V × Int × Int × Int) :=
  (d27 a0_0 a0_1).bind fun x2 =>
  if (cmpLit .neq x2 0) = true then
    some ([], [], 0, 0, 30)
  else
    Option.bind (α := Bool) (
      if (cmpLit .lss a1 0) = true then
        some true
      else
        if (cmpLit .geq a1 (lenI a0_0)) = true then
          some true
        else
          if (Inb a1 (lenI a0_0)) then
            if (cmpLit .eql (gI a0_0 a1 0) 4) = true then
              some true
            else
              (d55 a2).bind fun x8 =>
              if (notB' x8) = true then
                some true
              else
                some (cmpLit .eql a2 4)
          else none) fun y7 =>
    if y7 = true then
      some ([], [], 0, 0, 31)
    else
      (d56 a0_0 a0_1).bind fun x10 =>
      if (Inb a1 (lenI x10.1)) then
        some ((putL x10.1 a1 0 [.i .i64 a2]), x10.2, 0, 0, 0)
      else none
noncomputable def w25_c : Code := (Try.f25.body).getD .skip
theorem w25_h : Try.f25.body = some w25_c := by kernel_rfl
theorem w25 (a0_0 : List V) (a0_1 : List V) (a1 : Int) (a2 : Int) (r : List V × List V × Int × Int × Int) (h : d25 a0_0 a0_1 a1 a2 = some r) : Ab.Fn Try.prog TT 25 [.agg [.sl 3 a0_0, .sl 5 a0_1], .i .i64 a1, .i .i64 a2] (.agg [.row 0, .row 1, .i .i64 r.2.2.1, .i .i64 r.2.2.2.1, .i .i64 r.2.2.2.2]) [(0, .row 3 r.1), (1, .row 5 r.2.1)] := by
  refine fn_own tok W0 Try.func25 (by kernel_rfl) w25_h (by kernel_rfl) ?_
  intro ar un cv mn mx pl mi cmp nt beq an scmp cat slen sbyte ssub ofB toB len gi gb gs gl sub put app ovl rep ne0 ge0 inb bnd room sroom need br call loop cut nl E R K hK
  have D := E.D
  clear E
  unfold d25 at h
  cbv
  refine R.cut' (by kernel_rfl) (by kernel_rfl) ?_
  cbv
  refine R.callD h (fun x2 hx2 h2 => ?_)
  clear h; have h := h2; clear h2
  refine R.call' (w27 _ _ _ hx2) (by (first | rfl | simp only [D.hcmp, D.hgi, D.hinb, D.hlen, D.hnt, D.hput])) ?_
  clear hx2; cbv
  refine R.brD h (by (first | rfl | simp only [D.hcmp, D.hgi, D.hinb, D.hlen, D.hnt, D.hput])) ?_ ?_ <;> clear h <;> intro h <;> cbv
  · have e := ret_some h; clear h
    refine hK _ _ ⟨rfl, ⟨?_, rfl, rfl, rfl, ?_⟩⟩ <;> cbv <;> (try (subst e; simp only [D.hcmp, D.hgi, D.hinb, D.hlen, D.hnt, D.hput, and_self, and_true, true_and] <;> (repeat' apply And.intro) <;> rfl))
  · refine R.cut' (by kernel_rfl) (by kernel_rfl) ?_
    cbv
    refine R.cutB (fun p => p) (fun _ _ e => e) h [] (fun p9 => [(37, .b p9)]) (fun p9 => []) (by kernel_rfl) (by kernel_rfl) (fun y7 hy hFy7 L hLy7 => ?_) (fun p9 h2 => ?_)
    · clear h; have h := hy; clear hy; cbv
      refine R.brD h (by (first | rfl | simp only [D.hcmp, D.hgi, D.hinb, D.hlen, D.hnt, D.hput])) ?_ ?_ <;> clear h <;> intro h <;> cbv
      · obtain ⟨s', e, hi⟩ := jn_some (fun p => p) h
        refine hLy7 s' _ _ hi ⟨rfl, ?_, ?_, rfl, rfl⟩ <;> cbv <;> (try (subst e; simp only [D.hcmp, D.hgi, D.hinb, D.hlen, D.hnt, D.hput, and_self, and_true, true_and] <;> (repeat' apply And.intro) <;> rfl))
      · refine R.brD h (by (first | rfl | simp only [D.hcmp, D.hgi, D.hinb, D.hlen, D.hnt, D.hput])) ?_ ?_ <;> clear h <;> intro h <;> cbv
        · obtain ⟨s', e, hi⟩ := jn_some (fun p => p) h
          refine hLy7 s' _ _ hi ⟨rfl, ?_, ?_, rfl, rfl⟩ <;> cbv <;> (try (subst e; simp only [D.hcmp, D.hgi, D.hinb, D.hlen, D.hnt, D.hput, and_self, and_true, true_and] <;> (repeat' apply And.intro) <;> rfl))
        · refine R.needD h (by (first | rfl | simp only [D.hcmp, D.hgi, D.hinb, D.hlen, D.hnt, D.hput])) ?_
          clear h; intro h; cbv
          refine R.brD h (by (first | rfl | simp only [D.hcmp, D.hgi, D.hinb, D.hlen, D.hnt, D.hput])) ?_ ?_ <;> clear h <;> intro h <;> cbv
          · obtain ⟨s', e, hi⟩ := jn_some (fun p => p) h
            refine hLy7 s' _ _ hi ⟨rfl, ?_, ?_, rfl, rfl⟩ <;> cbv <;> (try (subst e; simp only [D.hcmp, D.hgi, D.hinb, D.hlen, D.hnt, D.hput, and_self, and_true, true_and] <;> (repeat' apply And.intro) <;> rfl))
          · refine R.callD h (fun x8 hx8 h2 => ?_)
            clear h; have h := h2; clear h2
            refine R.call' (w55 _ _ hx8) (by (first | rfl | simp only [D.hcmp, D.hgi, D.hinb, D.hlen, D.hnt, D.hput])) ?_
            clear hx8; cbv
            refine R.brD h (by (first | rfl | simp only [D.hcmp, D.hgi, D.hinb, D.hlen, D.hnt, D.hput])) ?_ ?_ <;> clear h <;> intro h <;> cbv
            · obtain ⟨s', e, hi⟩ := jn_some (fun p => p) h
              refine hLy7 s' _ _ hi ⟨rfl, ?_, ?_, rfl, rfl⟩ <;> cbv <;> (try (subst e; simp only [D.hcmp, D.hgi, D.hinb, D.hlen, D.hnt, D.hput, and_self, and_true, true_and] <;> (repeat' apply And.intro) <;> rfl))
            · obtain ⟨s', e, hi⟩ := jn_some (fun p => p) h
              refine hLy7 s' _ _ hi ⟨rfl, ?_, ?_, rfl, rfl⟩ <;> cbv <;> (try (subst e; simp only [D.hcmp, D.hgi, D.hinb, D.hlen, D.hnt, D.hput, and_self, and_true, true_and] <;> (repeat' apply And.intro) <;> rfl))
    · clear h; have h := h2; clear h2; try dsimp only at h
      cbv
      refine R.brD h (by (first | rfl | simp only [D.hcmp, D.hgi, D.hinb, D.hlen, D.hnt, D.hput])) ?_ ?_ <;> clear h <;> intro h <;> cbv
      · have e := ret_some h; clear h
        refine hK _ _ ⟨rfl, ⟨?_, rfl, rfl, rfl, ?_⟩⟩ <;> cbv <;> (try (subst e; simp only [D.hcmp, D.hgi, D.hinb, D.hlen, D.hnt, D.hput, and_self, and_true, true_and] <;> (repeat' apply And.intro) <;> rfl))
      · refine R.callD h (fun x10 hx10 h2 => ?_)
        clear h; have h := h2; clear h2
        refine R.call' (w56 _ _ _ hx10) (by (first | rfl | simp only [D.hcmp, D.hgi, D.hinb, D.hlen, D.hnt, D.hput])) ?_
        clear hx10; cbv
        refine R.needD h (by (first | rfl | simp only [D.hcmp, D.hgi, D.hinb, D.hlen, D.hnt, D.hput])) ?_
        clear h; intro h; cbv
        have e := ret_some h; clear h
        refine hK _ _ ⟨rfl, ⟨?_, rfl, rfl, rfl, ?_⟩⟩ <;> cbv <;> (try (subst e; simp only [D.hcmp, D.hgi, D.hinb, D.hlen, D.hnt, D.hput, and_self, and_true, true_and] <;> (repeat' apply And.intro) <;> rfl))
theorem w25s (a0_0 : List V) (a0_1 : List V) (a1 : Int) (a2 : Int) (r : List V × List V × Int × Int × Int) (h : d25 a0_0 a0_1 a1 a2 = some r) : Ab.Fn Try.prog TT 25 [.agg [.sl 3 a0_0, .sl 5 a0_1], .i .i64 a1, .i .i64 a2] (.agg [.sl 3 r.1, .sl 5 r.2.1, .i .i64 r.2.2.1, .i .i64 r.2.2.2.1, .i .i64 r.2.2.2.2]) [] :=
  (w25 a0_0 a0_1 a1 a2 r h).pure (by simp [ple, ple1, ple1L, pleL, pleS, Ab.look])

noncomputable def d26 (a0_0 : List V) (a0_1 : List V) (a1 : Int) : Option (List V × List V × Int × Int × Int) :=
  (d27 a0_0 a0_1).bind fun x2 =>
  if (cmpLit .neq x2 0) = true then
    some ([], [], 0, 0, 30)
  else
    if (cmpLit .lss a1 0) = true then
      some ([], [], 0, 0, 31)
    else
      if (cmpLit .geq a1 (lenI a0_0)) = true then
        some ([], [], 0, 0, 31)
      else
        (d56 a0_0 a0_1).bind fun x3 =>
        if (Inb a1 (lenI x3.1)) then
          some ((putL x3.1 a1 0 [.i .i64 4]), x3.2, 0, 0, 0)
        else none
noncomputable def w26_c : Code := (Try.f26.body).getD .skip
theorem w26_h : Try.f26.body = some w26_c := by kernel_rfl
theorem w26 (a0_0 : List V) (a0_1 : List V) (a1 : Int) (r : List V × List V × Int × Int × Int) (h : d26 a0_0 a0_1 a1 = some r) : Ab.Fn Try.prog TT 26 [.agg [.sl 3 a0_0, .sl 5 a0_1], .i .i64 a1] (.agg [.row 0, .row 1, .i .i64 r.2.2.1, .i .i64 r.2.2.2.1, .i .i64 r.2.2.2.2]) [(0, .row 3 r.1), (1, .row 5 r.2.1)] := by
  refine fn_own tok W0 Try.func26 (by kernel_rfl) w26_h (by kernel_rfl) ?_
  intro ar un cv mn mx pl mi cmp nt beq an scmp cat slen sbyte ssub ofB toB len gi gb gs gl sub put app ovl rep ne0 ge0 inb bnd room sroom need br call loop cut nl E R K hK
  have D := E.D
  clear E
  unfold d26 at h
  cbv
  refine R.cut' (by kernel_rfl) (by kernel_rfl) ?_
  cbv
  refine R.callD h (fun x2 hx2 h2 => ?_)
  clear h; have h := h2; clear h2
  refine R.call' (w27 _ _ _ hx2) (by (first | rfl | simp only [D.hcmp, D.hinb, D.hlen, D.hput])) ?_
  clear hx2; cbv
  refine R.brD h (by (first | rfl | simp only [D.hcmp, D.hinb, D.hlen, D.hput])) ?_ ?_ <;> clear h <;> intro h <;> cbv
  · have e := ret_some h; clear h
    refine hK _ _ ⟨rfl, ⟨?_, rfl, rfl, rfl, ?_⟩⟩ <;> cbv <;> (try (subst e; simp only [D.hcmp, D.hinb, D.hlen, D.hput, and_self, and_true, true_and] <;> (repeat' apply And.intro) <;> rfl))
  · refine R.cut' (by kernel_rfl) (by kernel_rfl) ?_
    cbv
    refine R.cut' (by kernel_rfl) (by kernel_rfl) ?_
    cbv
    refine R.brD h (by (first | rfl | simp only [D.hcmp, D.hinb, D.hlen, D.hput])) ?_ ?_ <;> clear h <;> intro h <;> cbv
    · have e := ret_some h; clear h
      refine hK _ _ ⟨rfl, ⟨?_, rfl, rfl, rfl, ?_⟩⟩ <;> cbv <;> (try (subst e; simp only [D.hcmp, D.hinb, D.hlen, D.hput, and_self, and_true, true_and] <;> (repeat' apply And.intro) <;> rfl))
    · refine R.brD h (by (first | rfl | simp only [D.hcmp, D.hinb, D.hlen, D.hput])) ?_ ?_ <;> clear h <;> intro h <;> cbv
      · have e := ret_some h; clear h
        refine hK _ _ ⟨rfl, ⟨?_, rfl, rfl, rfl, ?_⟩⟩ <;> cbv <;> (try (subst e; simp only [D.hcmp, D.hinb, D.hlen, D.hput, and_self, and_true, true_and] <;> (repeat' apply And.intro) <;> rfl))
      · refine R.callD h (fun x3 hx3 h2 => ?_)
        clear h; have h := h2; clear h2
        refine R.call' (w56 _ _ _ hx3) (by (first | rfl | simp only [D.hcmp, D.hinb, D.hlen, D.hput])) ?_
        clear hx3; cbv
        refine R.needD h (by (first | rfl | simp only [D.hcmp, D.hinb, D.hlen, D.hput])) ?_
        clear h; intro h; cbv
        have e := ret_some h; clear h
        refine hK _ _ ⟨rfl, ⟨?_, rfl, rfl, rfl, ?_⟩⟩ <;> cbv <;> (try (subst e; simp only [D.hcmp, D.hinb, D.hlen, D.hput, and_self, and_true, true_and] <;> (repeat' apply And.intro) <;> rfl))
theorem w26s (a0_0 : List V) (a0_1 : List V) (a1 : Int) (r : List V × List V × Int × Int × Int) (h : d26 a0_0 a0_1 a1 = some r) : Ab.Fn Try.prog TT 26 [.agg [.sl 3 a0_0, .sl 5 a0_1], .i .i64 a1] (.agg [.sl 3 r.1, .sl 5 r.2.1, .i .i64 r.2.2.1, .i .i64 r.2.2.2.1, .i .i64 r.2.2.2.2]) [] :=
  (w26 a0_0 a0_1 a1 r h).pure (by simp [ple, ple1, ple1L, pleL, pleS, Ab.look])

noncomputable def d57_b1 (a0_0 : List V) (a1_0 : List V) (s4 : Int) : Option ((Int) ⊕ ((Bool) ⊕ (Unit))) :=
  if (cmpLit .lss s4 (lenI a0_0)) = true then
    if (Inb s4 (lenI a0_0)) then
      if (Inb s4 (lenI a1_0)) then
        if (cmpLit .neq (gI a0_0 s4 0) (gI a1_0 s4 0)) = true then
          some (.inr (.inl false))
        else
          some (.inl (arReal .add .i64 s4 1))
      else none
    else none
  else
    some (.inr (.inr ()))
noncomputable def d57 (a0_0 : List V) (a0_1 : List V) (a1_0 : List V) (a1_1 : List V) : Option (Bool) :=
  if (cmpLit .neq (lenI a0_0) (lenI a1_0)) = true then
    some false
  else
    Option.bind (α := (Unit) ⊕ (Bool)) (
      (iter (d57_b1 a0_0 a1_0) 0).bind fun y5 =>
      match y5 with
      | .inl p6 =>
        some (.inr p6)
      | .inr y5r0 =>
        some (.inl ())) fun y3 =>
    match y3 with
    | .inl p8 =>
      some true
    | .inr y3r0 =>
      some y3r0
noncomputable def w57_c : Code := (Try.f57.body).getD .skip
theorem w57_h : Try.f57.body = some w57_c := by kernel_rfl
theorem w57 (a0_0 : List V) (a0_1 : List V) (a1_0 : List V) (a1_1 : List V) (r : Bool) (h : d57 a0_0 a0_1 a1_0 a1_1 = some r) : Ab.Fn Try.prog TT 57 [.agg [.sl 3 a0_0, .sl 5 a0_1], .agg [.sl 3 a1_0, .sl 5 a1_1]] (.b r) [] := by
  refine fn_pure tok (fun r => match r with | 6 => [[],[0],[],[0,1,2],[0,1,2,3],[],[5],[],[5,6,7],[5,6,7,8],[0,1,2,3,4,5,6,7,8,9]] | _ => []) Try.func57 (by kernel_rfl) w57_h (by kernel_rfl) ?_
  intro ar un cv mn mx pl mi cmp nt beq an scmp cat slen sbyte ssub ofB toB len gi gb gs gl sub put app ovl rep ne0 ge0 inb bnd room sroom need br call loop cut nl E R K hK
  have D := E.D
  clear E
  unfold d57 at h
  cbv
  refine R.cut' (by kernel_rfl) (by kernel_rfl) ?_
  cbv
  refine R.brD h (by (first | rfl | simp only [D.har, D.hcmp, D.hgi, D.hinb, D.hlen])) ?_ ?_ <;> clear h <;> intro h <;> cbv
  · have e := ret_some h; clear h
    refine hK _ _ ?_
    cbv
    try (subst e; simp only [D.har, D.hcmp, D.hgi, D.hinb, D.hlen, and_self, and_true, true_and] <;> (repeat' apply And.intro) <;> rfl)
  · refine R.cutB Sum.inl (fun _ _ e => Sum.inl.inj e) h [] (fun p8 => []) (fun p8 => []) (by kernel_rfl) (by kernel_rfl) (fun y3 hy hFy3 L hLy3 => ?_) (fun p8 h2 => ?_)
    · clear h; have h := hy; clear hy; cbv
      refine R.loopD h (fun s0 y5 e0 hi hFs4 => ?_)
      clear h
      refine R.loopI hi [] (fun s4 => [(5, .i .i64 s4)]) (fun s4 => []) ⟨rfl, ?_, ?_, rfl, rfl⟩ (by kernel_rfl) ?_
      · cbv; try (subst e0; simp only [D.har, D.hcmp, D.hgi, D.hinb, D.hlen, and_self, and_true, true_and] <;> (repeat' apply And.intro) <;> rfl)
      · cbv; try (subst e0; simp only [D.har, D.hcmp, D.hgi, D.hinb, D.hlen, and_self, and_true, true_and] <;> (repeat' apply And.intro) <;> rfl)
      clear hi e0
      intro s4 m y' hy hins4 houts4 L hLs4
      have h := hy; clear hy; unfold d57_b1 at h
      cbv
      refine R.cut' (by kernel_rfl) (by kernel_rfl) ?_
      cbv
      refine R.brD h (by (first | rfl | simp only [D.har, D.hcmp, D.hgi, D.hinb, D.hlen])) ?_ ?_ <;> clear h <;> intro h <;> cbv
      · refine R.cut' (by kernel_rfl) (by kernel_rfl) ?_
        cbv
        refine R.needD h (by (first | rfl | simp only [D.har, D.hcmp, D.hgi, D.hinb, D.hlen])) ?_
        clear h; intro h; cbv
        refine R.needD h (by (first | rfl | simp only [D.har, D.hcmp, D.hgi, D.hinb, D.hlen])) ?_
        clear h; intro h; cbv
        refine R.brD h (by (first | rfl | simp only [D.har, D.hcmp, D.hgi, D.hinb, D.hlen])) ?_ ?_ <;> clear h <;> intro h <;> cbv
        · have e := inr_some h houts4; clear h
          have h := hFs4; rw [e] at h; clear e; try dsimp only at h
          cbv
          have e := ret_some h; clear h
          have h := hFy3; rw [e] at h; clear e; try dsimp only at h
          cbv
          have e := ret_some h; clear h
          refine hK _ _ ?_
          cbv
          try (subst e; simp only [D.har, D.hcmp, D.hgi, D.hinb, D.hlen, and_self, and_true, true_and] <;> (repeat' apply And.intro) <;> rfl)
        · obtain ⟨s', e, hi⟩ := inl_some h hins4
          refine hLs4 s' _ _ hi ⟨rfl, ?_, ?_, rfl, rfl⟩ <;> cbv <;> (try (subst e; simp only [D.har, D.hcmp, D.hgi, D.hinb, D.hlen, and_self, and_true, true_and] <;> (repeat' apply And.intro) <;> rfl))
      · have e := inr_some h houts4; clear h
        have h := hFs4; rw [e] at h; clear e; try dsimp only at h
        cbv
        obtain ⟨s', e, hi⟩ := jn_some Sum.inl h
        refine hLy3 s' _ _ hi ⟨rfl, ?_, ?_, rfl, rfl⟩ <;> cbv <;> (try (subst e; simp only [D.har, D.hcmp, D.hgi, D.hinb, D.hlen, and_self, and_true, true_and] <;> (repeat' apply And.intro) <;> rfl))
    · clear h; have h := h2; clear h2; try dsimp only at h
      cbv
      have e := ret_some h; clear h
      refine hK _ _ ?_
      cbv
      try (subst e; simp only [D.har, D.hcmp, D.hgi, D.hinb, D.hlen, and_self, and_true, true_and] <;> (repeat' apply And.intro) <;> rfl)
end Go.Proofs.Ytmpdimigpaogkaa
end
