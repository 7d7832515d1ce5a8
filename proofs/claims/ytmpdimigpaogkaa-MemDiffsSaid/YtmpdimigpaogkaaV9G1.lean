/- The map of conversions that package bits makes: what each key finds. Printed by a program of ours. -/
import Derived.Test.YtmpdimigpaogkaaProg
import Derived.Test.YtmpdimigpaogkaaV9G0
import Derived.Test.YtmpdimigpaogkaaV9WEqStruct
import Derived.KernelRfl
import Derived.Laws.Bits64
import Derived.Laws.BitsAllLaws
import Derived.WalkKit
namespace Go.Proofs.Ytmpdimigpaogkaa.G
open Go.RowKit Go.Proofs.YtmpdimigpaogkaaW.PrintWords Go.Proofs.YtmpdimigpaogkaaW.PrintLast Go.Proofs.YtmpdimigpaogkaaW.PrintMore Go.ChangeMaps
set_option linter.unusedVariables false
set_option linter.unusedSimpArgs false
theorem eqA29 (d : Nat) (w : World) (x0 y0 : Int) (x1 y1 : Bool) :
    (Op.equalIn (d + 2) 29 (.agg #[.int .i64 x0, .bool x1]) (.agg #[.int .i64 y0, .bool y1])).run Try.prog w = .ok (x0 == y0 && (x1 == y1)) w := by
  refine eqA_of Try.underlying29 (by kernel_rfl) ?_
  refine eqf_cons (by rfl) (by go_simp; rfl) (by go_simp; rfl) (by go_simp) ?_
  exact eqf_last (by rfl) (by go_simp; rfl) (by go_simp; rfl) (by go_simp)
/-- Is it this type? -/
def isTy (s : Int) (b : Bool) : Value → Bool
  | .agg ⟨[.int _ n, .bool c]⟩ => s == n && b == c
  | _ => false
def conversions.L : List (Nat × Value × Value) := [(2, (.agg #[.int .i64 1, .bool true]), (.func (.func 73) #[] #[])), (4, (.agg #[.int .i64 1, .bool false]), (.func (.func 74) #[] #[])), (6, (.agg #[.int .i64 2, .bool true]), (.func (.func 75) #[] #[])), (8, (.agg #[.int .i64 2, .bool false]), (.func (.func 76) #[] #[])), (10, (.agg #[.int .i64 4, .bool true]), (.func (.func 77) #[] #[])), (12, (.agg #[.int .i64 4, .bool false]), (.func (.func 78) #[] #[])), (14, (.agg #[.int .i64 8, .bool true]), (.func (.func 79) #[] #[])), (16, (.agg #[.int .i64 8, .bool false]), (.func (.func 80) #[] #[]))]
theorem conversions.ht : Try.prog.underlying 113 = some (.map 29 111) := Try.underlying113
theorem conversions.keys (v : Value) (h : ∃ l ∈ conversions.L, l.2.1 = v) : ∃ n c, v = .agg #[.int .i64 n, .bool c] := by
  obtain ⟨l, hl, rfl⟩ := h
  simp [conversions.L] at hl
  rcases hl with rfl | rfl | rfl | rfl | rfl | rfl | rfl | rfl <;> exact ⟨_, _, rfl⟩
theorem conversions.finds (s : Int) (b : Bool) : Finds Try.prog 29 (.agg #[.int .i64 s, .bool b]) (isTy s b) (fun k => ∃ l ∈ conversions.L, l.2.1 = k) := by
  refine finds_struct Try.underlying29 (fun w em => by
    unfold Instr.checkKey
    have h1 : ∀ (em : Bool) w, (Instr.checkKey em 9999 3 (.int .i64 s)).run Try.prog w = .ok () w := fun em w => by unfold Instr.checkKey; simp [run_underlying Try.underlying3]
    have h2 : ∀ (em : Bool) w, (Instr.checkKey em 9999 4 (.bool b)).run Try.prog w = .ok () w := fun em w => by unfold Instr.checkKey; simp [run_underlying Try.underlying4]
    go_simp
    done) ?_
  intro w k hk
  obtain ⟨n, c, rfl⟩ := conversions.keys k hk
  exact eqA29 _ w s n b c
theorem conversions.apart2 (b : Nat → Bool) (hb : b 2 = false) : ∀ l ∈ conversions.L, b l.1 = true → isTy 1 true l.2.1 = false := by
  intro l hl h
  simp [conversions.L] at hl
  rcases hl with rfl | rfl | rfl | rfl | rfl | rfl | rfl | rfl <;> first | rfl | (simp only at h; rw [hb] at h; cases h)
theorem conversions.apart4 (b : Nat → Bool) (hb : b 4 = false) : ∀ l ∈ conversions.L, b l.1 = true → isTy 1 false l.2.1 = false := by
  intro l hl h
  simp [conversions.L] at hl
  rcases hl with rfl | rfl | rfl | rfl | rfl | rfl | rfl | rfl <;> first | rfl | (simp only at h; rw [hb] at h; cases h)
theorem conversions.apart6 (b : Nat → Bool) (hb : b 6 = false) : ∀ l ∈ conversions.L, b l.1 = true → isTy 2 true l.2.1 = false := by
  intro l hl h
  simp [conversions.L] at hl
  rcases hl with rfl | rfl | rfl | rfl | rfl | rfl | rfl | rfl <;> first | rfl | (simp only at h; rw [hb] at h; cases h)
theorem conversions.apart8 (b : Nat → Bool) (hb : b 8 = false) : ∀ l ∈ conversions.L, b l.1 = true → isTy 2 false l.2.1 = false := by
  intro l hl h
  simp [conversions.L] at hl
  rcases hl with rfl | rfl | rfl | rfl | rfl | rfl | rfl | rfl <;> first | rfl | (simp only at h; rw [hb] at h; cases h)
theorem conversions.apart10 (b : Nat → Bool) (hb : b 10 = false) : ∀ l ∈ conversions.L, b l.1 = true → isTy 4 true l.2.1 = false := by
  intro l hl h
  simp [conversions.L] at hl
  rcases hl with rfl | rfl | rfl | rfl | rfl | rfl | rfl | rfl <;> first | rfl | (simp only at h; rw [hb] at h; cases h)
theorem conversions.apart12 (b : Nat → Bool) (hb : b 12 = false) : ∀ l ∈ conversions.L, b l.1 = true → isTy 4 false l.2.1 = false := by
  intro l hl h
  simp [conversions.L] at hl
  rcases hl with rfl | rfl | rfl | rfl | rfl | rfl | rfl | rfl <;> first | rfl | (simp only at h; rw [hb] at h; cases h)
theorem conversions.apart14 (b : Nat → Bool) (hb : b 14 = false) : ∀ l ∈ conversions.L, b l.1 = true → isTy 8 true l.2.1 = false := by
  intro l hl h
  simp [conversions.L] at hl
  rcases hl with rfl | rfl | rfl | rfl | rfl | rfl | rfl | rfl <;> first | rfl | (simp only at h; rw [hb] at h; cases h)
theorem conversions.apart16 (b : Nat → Bool) (hb : b 16 = false) : ∀ l ∈ conversions.L, b l.1 = true → isTy 8 false l.2.1 = false := by
  intro l hl h
  simp [conversions.L] at hl
  rcases hl with rfl | rfl | rfl | rfl | rfl | rfl | rfl | rfl <;> first | rfl | (simp only at h; rw [hb] at h; cases h)
def conversions.T1 : Bool × List (List Nat × List Nat) := (true, [([], []), ([], []), ([0, 1], [0, 1]), ([], []), ([0, 3], [0, 3]), ([], []), ([0, 5], [0, 5]), ([], []), ([0, 7], [0, 7]), ([], []), ([0, 9], [0, 9]), ([], []), ([0, 11], [0, 11]), ([], []), ([0, 13], [0, 13]), ([], []), ([0, 15], [0, 15]), ([0, 1, 2, 3, 4, 5, 6, 7, 8, 9, 10, 11, 12, 13, 14, 15, 16], [0]), ([17, 0, 1, 2, 3, 4, 5, 6, 7, 8, 9, 10, 11, 12, 13, 14, 15, 16, 17], [17])])
def conversions.B1 : List Nat := [0, 0, 3, 0, 9, 0, 33, 0, 129, 0, 513, 0, 2049, 0, 8193, 0, 32769, 131071, 262143]
theorem conversions.tab1 : rtab .any (opsOf Try.f68 1) = conversions.T1 := by kernel_rfl
theorem conversions.bits1 : waitsOk conversions.T1.2 conversions.B1 = true := by kernel_rfl
set_option maxHeartbeats 2000000 in
set_option maxRecDepth 100000 in
theorem conversions.calls (w : World) : Calls Try.prog 68 #[] w fun e w' => ∃ g, e = .returned (.map (some g)) ∧ w.heap.size ≤ g ∧ MapOf w' g conversions.L (fun _ => true) ∧ Below w.heap.size w w' := by
  go_enter Try.func68, Try.ntmps68
  go_wp2
  refine start_ (n := 19) (S := fun w' => True) (ds := []) #[false, false, false, false, false, false, false, false, false, false, false, false, false, false, false, false, false, false, false] (by kernel_rfl) rfl rfl trivial (fun hHeld => ?_)
  refine with_tabW conversions.tab1 conversions.bits1 (fun HT_ HW_ => ?_)
  refine pure_ (i := 1) (N := some 2) (v := (.agg #[.int .i64 1, .bool true])) #[false, true, false, false, false, false, false, false, false, false, false, false, false, false, false, false, false, false, false] rfl rfl (any_of HT_.out (by kernel_rfl)) (fun _ _ _ h => h) (Or.inl ⟨by rfl, fun w' => by first | (go_simp; done) | (go_simp; rfl)⟩) rfl ?_
  refine pure_ (i := 3) (N := some 3) (v := (.agg #[.int .i64 1, .bool false])) #[false, true, false, true, false, false, false, false, false, false, false, false, false, false, false, false, false, false, false] rfl rfl (any_of HT_.out (by kernel_rfl)) (fun _ _ _ h => h) (Or.inl ⟨by rfl, fun w' => by first | (go_simp; done) | (go_simp; rfl)⟩) rfl ?_
  refine pure_ (i := 5) (N := some 4) (v := (.agg #[.int .i64 2, .bool true])) #[false, true, false, true, false, true, false, false, false, false, false, false, false, false, false, false, false, false, false] rfl rfl (any_of HT_.out (by kernel_rfl)) (fun _ _ _ h => h) (Or.inl ⟨by rfl, fun w' => by first | (go_simp; done) | (go_simp; rfl)⟩) rfl ?_
  refine pure_ (i := 7) (N := some 5) (v := (.agg #[.int .i64 2, .bool false])) #[false, true, false, true, false, true, false, true, false, false, false, false, false, false, false, false, false, false, false] rfl rfl (any_of HT_.out (by kernel_rfl)) (fun _ _ _ h => h) (Or.inl ⟨by rfl, fun w' => by first | (go_simp; done) | (go_simp; rfl)⟩) rfl ?_
  refine pure_ (i := 9) (N := some 6) (v := (.agg #[.int .i64 4, .bool true])) #[false, true, false, true, false, true, false, true, false, true, false, false, false, false, false, false, false, false, false] rfl rfl (any_of HT_.out (by kernel_rfl)) (fun _ _ _ h => h) (Or.inl ⟨by rfl, fun w' => by first | (go_simp; done) | (go_simp; rfl)⟩) rfl ?_
  refine pure_ (i := 11) (N := some 7) (v := (.agg #[.int .i64 4, .bool false])) #[false, true, false, true, false, true, false, true, false, true, false, true, false, false, false, false, false, false, false] rfl rfl (any_of HT_.out (by kernel_rfl)) (fun _ _ _ h => h) (Or.inl ⟨by rfl, fun w' => by first | (go_simp; done) | (go_simp; rfl)⟩) rfl ?_
  refine pure_ (i := 13) (N := some 8) (v := (.agg #[.int .i64 8, .bool true])) #[false, true, false, true, false, true, false, true, false, true, false, true, false, true, false, false, false, false, false] rfl rfl (any_of HT_.out (by kernel_rfl)) (fun _ _ _ h => h) (Or.inl ⟨by rfl, fun w' => by first | (go_simp; done) | (go_simp; rfl)⟩) rfl ?_
  refine pure_ (i := 15) (N := some 9) (v := (.agg #[.int .i64 8, .bool false])) #[false, true, false, true, false, true, false, true, false, true, false, true, false, true, false, true, false, false, false] rfl rfl (any_of HT_.out (by kernel_rfl)) (fun _ _ _ h => h) (Or.inl ⟨by rfl, fun w' => by first | (go_simp; done) | (go_simp; rfl)⟩) rfl ?_
  refine one_ (i := 0) (N := some 1) #[true, true, false, true, false, true, false, true, false, true, false, true, false, true, false, true, false, false, false] rfl rfl (one_of HT_.out (by kernel_rfl)) (by decide) (fun K hK => ?_)
  refine value_ (w1 := w.drew.alloc (.map #[] 0)) (v := .map (some w.heap.size)) (by rfl) rfl (by first | rfl | (go_simp; rfl)) ?_
  refine hK.out _ _ trivial (fun _ => ?_)
  refine norm_ (by simp only [Act.put, List.setIfInBounds_toArray, List.set_cons_zero, List.set_cons_succ]; rfl) ?_
  refine inv_at [2, 4, 6, 8, 10, 12, 14, 16, 17, 18] (fun a0_ b a w' => a = putSel a0_ b [(17, 10, .map (some w.heap.size)), (18, 0, .map (some w.heap.size))] ∧ MapOf w' w.heap.size conversions.L b ∧ Below w.heap.size w w') HT_.out HW_.out (by kernel_rfl) (by kernel_rfl) ?_ ?_ ?_
  · exact ⟨by simp only [putSel, Bool.false_eq_true, if_false], MapOf.made w.drew _ _ (by intros; rfl), ((Below.refl _ _).drew).alloc (Nat.le_refl _) _⟩
  · skip
    refine steps_cons ?_ ?_
    · rintro b a w' ⟨ha, hM, hB⟩ hb_ hon hoff
      refine ⟨_, rfl, fun K hK => ?_⟩
      have e1 : a.tmps[1]? = some (.map (some w.heap.size)) := by rw [ha]; exact (putSel_off rfl).trans rfl
      have e2 : a.tmps[2]? = some ((.agg #[.int .i64 1, .bool true])) := by rw [ha]; exact (putSel_off rfl).trans rfl
      obtain ⟨w1, hrun, hM1, hgr⟩ := hM.put (P := Try.prog) conversions.ht (i := 2) (x := (.agg #[.int .i64 1, .bool true])) (v := (.func (.func 73) #[] #[])) (by simp [conversions.L]) (conversions.finds 1 true) (by exact conversions.apart2 b hb_) (by intro l hl hi; simp [conversions.L] at hl; rcases hl with rfl | rfl | rfl | rfl | rfl | rfl | rfl | rfl <;> first | rfl | (simp at hi))
      refine skip_ (w1 := w1) (by rfl) rfl ?_ ?_
      · unfold execOp
        simp [Act.eval, e1, e2, hrun]
      refine hK.out _ _ ⟨?_, hM1, hB.grown hgr (hB.size) (fun k hk => by cases hk; exact Nat.le_refl _)⟩
      rw [ha]; exact putSel_none (v := undef) rfl
    refine steps_cons ?_ ?_
    · rintro b a w' ⟨ha, hM, hB⟩ hb_ hon hoff
      refine ⟨_, rfl, fun K hK => ?_⟩
      have e1 : a.tmps[1]? = some (.map (some w.heap.size)) := by rw [ha]; exact (putSel_off rfl).trans rfl
      have e3 : a.tmps[3]? = some ((.agg #[.int .i64 1, .bool false])) := by rw [ha]; exact (putSel_off rfl).trans rfl
      obtain ⟨w1, hrun, hM1, hgr⟩ := hM.put (P := Try.prog) conversions.ht (i := 4) (x := (.agg #[.int .i64 1, .bool false])) (v := (.func (.func 74) #[] #[])) (by simp [conversions.L]) (conversions.finds 1 false) (by exact conversions.apart4 b hb_) (by intro l hl hi; simp [conversions.L] at hl; rcases hl with rfl | rfl | rfl | rfl | rfl | rfl | rfl | rfl <;> first | rfl | (simp at hi))
      refine skip_ (w1 := w1) (by rfl) rfl ?_ ?_
      · unfold execOp
        simp [Act.eval, e1, e3, hrun]
      refine hK.out _ _ ⟨?_, hM1, hB.grown hgr (hB.size) (fun k hk => by cases hk; exact Nat.le_refl _)⟩
      rw [ha]; exact putSel_none (v := undef) rfl
    refine steps_cons ?_ ?_
    · rintro b a w' ⟨ha, hM, hB⟩ hb_ hon hoff
      refine ⟨_, rfl, fun K hK => ?_⟩
      have e1 : a.tmps[1]? = some (.map (some w.heap.size)) := by rw [ha]; exact (putSel_off rfl).trans rfl
      have e4 : a.tmps[4]? = some ((.agg #[.int .i64 2, .bool true])) := by rw [ha]; exact (putSel_off rfl).trans rfl
      obtain ⟨w1, hrun, hM1, hgr⟩ := hM.put (P := Try.prog) conversions.ht (i := 6) (x := (.agg #[.int .i64 2, .bool true])) (v := (.func (.func 75) #[] #[])) (by simp [conversions.L]) (conversions.finds 2 true) (by exact conversions.apart6 b hb_) (by intro l hl hi; simp [conversions.L] at hl; rcases hl with rfl | rfl | rfl | rfl | rfl | rfl | rfl | rfl <;> first | rfl | (simp at hi))
      refine skip_ (w1 := w1) (by rfl) rfl ?_ ?_
      · unfold execOp
        simp [Act.eval, e1, e4, hrun]
      refine hK.out _ _ ⟨?_, hM1, hB.grown hgr (hB.size) (fun k hk => by cases hk; exact Nat.le_refl _)⟩
      rw [ha]; exact putSel_none (v := undef) rfl
    refine steps_cons ?_ ?_
    · rintro b a w' ⟨ha, hM, hB⟩ hb_ hon hoff
      refine ⟨_, rfl, fun K hK => ?_⟩
      have e1 : a.tmps[1]? = some (.map (some w.heap.size)) := by rw [ha]; exact (putSel_off rfl).trans rfl
      have e5 : a.tmps[5]? = some ((.agg #[.int .i64 2, .bool false])) := by rw [ha]; exact (putSel_off rfl).trans rfl
      obtain ⟨w1, hrun, hM1, hgr⟩ := hM.put (P := Try.prog) conversions.ht (i := 8) (x := (.agg #[.int .i64 2, .bool false])) (v := (.func (.func 76) #[] #[])) (by simp [conversions.L]) (conversions.finds 2 false) (by exact conversions.apart8 b hb_) (by intro l hl hi; simp [conversions.L] at hl; rcases hl with rfl | rfl | rfl | rfl | rfl | rfl | rfl | rfl <;> first | rfl | (simp at hi))
      refine skip_ (w1 := w1) (by rfl) rfl ?_ ?_
      · unfold execOp
        simp [Act.eval, e1, e5, hrun]
      refine hK.out _ _ ⟨?_, hM1, hB.grown hgr (hB.size) (fun k hk => by cases hk; exact Nat.le_refl _)⟩
      rw [ha]; exact putSel_none (v := undef) rfl
    refine steps_cons ?_ ?_
    · rintro b a w' ⟨ha, hM, hB⟩ hb_ hon hoff
      refine ⟨_, rfl, fun K hK => ?_⟩
      have e1 : a.tmps[1]? = some (.map (some w.heap.size)) := by rw [ha]; exact (putSel_off rfl).trans rfl
      have e6 : a.tmps[6]? = some ((.agg #[.int .i64 4, .bool true])) := by rw [ha]; exact (putSel_off rfl).trans rfl
      obtain ⟨w1, hrun, hM1, hgr⟩ := hM.put (P := Try.prog) conversions.ht (i := 10) (x := (.agg #[.int .i64 4, .bool true])) (v := (.func (.func 77) #[] #[])) (by simp [conversions.L]) (conversions.finds 4 true) (by exact conversions.apart10 b hb_) (by intro l hl hi; simp [conversions.L] at hl; rcases hl with rfl | rfl | rfl | rfl | rfl | rfl | rfl | rfl <;> first | rfl | (simp at hi))
      refine skip_ (w1 := w1) (by rfl) rfl ?_ ?_
      · unfold execOp
        simp [Act.eval, e1, e6, hrun]
      refine hK.out _ _ ⟨?_, hM1, hB.grown hgr (hB.size) (fun k hk => by cases hk; exact Nat.le_refl _)⟩
      rw [ha]; exact putSel_none (v := undef) rfl
    refine steps_cons ?_ ?_
    · rintro b a w' ⟨ha, hM, hB⟩ hb_ hon hoff
      refine ⟨_, rfl, fun K hK => ?_⟩
      have e1 : a.tmps[1]? = some (.map (some w.heap.size)) := by rw [ha]; exact (putSel_off rfl).trans rfl
      have e7 : a.tmps[7]? = some ((.agg #[.int .i64 4, .bool false])) := by rw [ha]; exact (putSel_off rfl).trans rfl
      obtain ⟨w1, hrun, hM1, hgr⟩ := hM.put (P := Try.prog) conversions.ht (i := 12) (x := (.agg #[.int .i64 4, .bool false])) (v := (.func (.func 78) #[] #[])) (by simp [conversions.L]) (conversions.finds 4 false) (by exact conversions.apart12 b hb_) (by intro l hl hi; simp [conversions.L] at hl; rcases hl with rfl | rfl | rfl | rfl | rfl | rfl | rfl | rfl <;> first | rfl | (simp at hi))
      refine skip_ (w1 := w1) (by rfl) rfl ?_ ?_
      · unfold execOp
        simp [Act.eval, e1, e7, hrun]
      refine hK.out _ _ ⟨?_, hM1, hB.grown hgr (hB.size) (fun k hk => by cases hk; exact Nat.le_refl _)⟩
      rw [ha]; exact putSel_none (v := undef) rfl
    refine steps_cons ?_ ?_
    · rintro b a w' ⟨ha, hM, hB⟩ hb_ hon hoff
      refine ⟨_, rfl, fun K hK => ?_⟩
      have e1 : a.tmps[1]? = some (.map (some w.heap.size)) := by rw [ha]; exact (putSel_off rfl).trans rfl
      have e8 : a.tmps[8]? = some ((.agg #[.int .i64 8, .bool true])) := by rw [ha]; exact (putSel_off rfl).trans rfl
      obtain ⟨w1, hrun, hM1, hgr⟩ := hM.put (P := Try.prog) conversions.ht (i := 14) (x := (.agg #[.int .i64 8, .bool true])) (v := (.func (.func 79) #[] #[])) (by simp [conversions.L]) (conversions.finds 8 true) (by exact conversions.apart14 b hb_) (by intro l hl hi; simp [conversions.L] at hl; rcases hl with rfl | rfl | rfl | rfl | rfl | rfl | rfl | rfl <;> first | rfl | (simp at hi))
      refine skip_ (w1 := w1) (by rfl) rfl ?_ ?_
      · unfold execOp
        simp [Act.eval, e1, e8, hrun]
      refine hK.out _ _ ⟨?_, hM1, hB.grown hgr (hB.size) (fun k hk => by cases hk; exact Nat.le_refl _)⟩
      rw [ha]; exact putSel_none (v := undef) rfl
    refine steps_cons ?_ ?_
    · rintro b a w' ⟨ha, hM, hB⟩ hb_ hon hoff
      refine ⟨_, rfl, fun K hK => ?_⟩
      have e1 : a.tmps[1]? = some (.map (some w.heap.size)) := by rw [ha]; exact (putSel_off rfl).trans rfl
      have e9 : a.tmps[9]? = some ((.agg #[.int .i64 8, .bool false])) := by rw [ha]; exact (putSel_off rfl).trans rfl
      obtain ⟨w1, hrun, hM1, hgr⟩ := hM.put (P := Try.prog) conversions.ht (i := 16) (x := (.agg #[.int .i64 8, .bool false])) (v := (.func (.func 80) #[] #[])) (by simp [conversions.L]) (conversions.finds 8 false) (by exact conversions.apart16 b hb_) (by intro l hl hi; simp [conversions.L] at hl; rcases hl with rfl | rfl | rfl | rfl | rfl | rfl | rfl | rfl <;> first | rfl | (simp at hi))
      refine skip_ (w1 := w1) (by rfl) rfl ?_ ?_
      · unfold execOp
        simp [Act.eval, e1, e9, hrun]
      refine hK.out _ _ ⟨?_, hM1, hB.grown hgr (hB.size) (fun k hk => by cases hk; exact Nat.le_refl _)⟩
      rw [ha]; exact putSel_none (v := undef) rfl
    refine steps_cons ?_ ?_
    · rintro b a w' ⟨ha, hM, hB⟩ hb_ hon hoff
      refine ⟨_, rfl, fun K hK => ?_⟩
      have e1 : a.tmps[1]? = some (.map (some w.heap.size)) := by rw [ha]; exact (putSel_off rfl).trans rfl
      refine value_ (w1 := w') (v := .map (some w.heap.size)) (by rfl) rfl ?_ ?_
      · unfold execOp
        simp [Act.eval, e1]
      refine hK.out _ _ ⟨?_, hM.same (by intro l hl; simp [conversions.L] at hl; rcases hl with rfl | rfl | rfl | rfl | rfl | rfl | rfl | rfl <;> rfl), hB⟩
      rw [ha]; exact putSel_upk 0 hb_ rfl rfl rfl
    refine steps_cons ?_ ?_
    · rintro b a w' ⟨ha, hM, hB⟩ hb_ hon hoff
      refine ⟨_, rfl, fun K hK => ?_⟩
      have e10 : a.tmps[10]? = some (.map (some w.heap.size)) := by rw [ha]; exact putSel_on (e := (17, 10, .map (some w.heap.size))) 0 rfl rfl (hon 17 (by kernel_rfl)) rfl
      refine value_ (w1 := w') (v := .map (some w.heap.size)) (by rfl) rfl ?_ ?_
      · unfold execOp
        simp [Act.eval, e10]
      refine hK.out _ _ ⟨?_, hM.same (by intro l hl; simp [conversions.L] at hl; rcases hl with rfl | rfl | rfl | rfl | rfl | rfl | rfl | rfl <;> rfl), hB⟩
      rw [ha]; exact putSel_upk 1 hb_ rfl rfl rfl
    exact steps_nil
  · clear HT_ HW_ hHeld
    rintro b a w1 hall ⟨ha, hM, hB⟩
    have hb17_ := hall 17 (by kernel_rfl)
    have hb18_ := hall 18 (by kernel_rfl)
    replace hM : MapOf w1 w.heap.size conversions.L (fun _ => true) := hM.same (by intro l hl; simp [conversions.L] at hl; rcases hl with rfl | rfl | rfl | rfl | rfl | rfl | rfl | rfl <;> exact (hall _ (by kernel_rfl)).symm)
    subst ha
    simp only [putSel, hb17_, hb18_, if_true, Act.put, List.setIfInBounds_toArray, List.set_cons_zero, List.set_cons_succ]
    go_wp2
    go_ret
    exact ⟨_, rfl, Nat.le_refl _, hM, hB⟩
def bits_Check.T1 : Bool × List (List Nat × List Nat) := (true, [([], []), ([], []), ([0, 1], [0, 1]), ([2], [2]), ([3], [3]), ([3], [3]), ([4, 0, 0, 1, 2, 3, 4], [4]), ([5, 6, 0, 1, 2, 3, 4, 5, 6], [5])])
def bits_Check.B1 : List Nat := [0, 0, 3, 7, 15, 15, 31, 127]
theorem bits_Check.tab1 : rtab .any (opsOf Try.f48 1) = bits_Check.T1 := by kernel_rfl
theorem bits_Check.bits1 : waitsOk bits_Check.T1.2 bits_Check.B1 = true := by kernel_rfl
theorem blk_lt {w : World} {g : Nat} {o : Obj} (h : w.heap[g]? = some o) : g < w.heap.size := (Array.getElem?_eq_some_iff.1 h).1
/-- The types of package bits. -/
def tyOk (s : Int) : Bool := (s == 1 || s == 2 || s == 4 || s == 8)
set_option maxHeartbeats 2000000 in
set_option maxRecDepth 100000 in
theorem bits_Check.walk (sz : Int) (sg : Bool) (v0 : Value) (ok : Bool) (w : World) (hlook : ∀ w' g, MapOf w' g conversions.L (fun _ => true) → (Instr.lookup 113 (.map (some g)) (.agg #[.int .i64 sz, .bool sg]) true).run Try.prog w' = .ok (.tuple #[v0, .bool ok]) w') :
    Calls Try.prog 48 #[.agg #[.int .i64 sz, .bool sg]] w fun e w' => e = .returned (.int .i64 (if ok = true then 0 else 10)) ∧ Below w.heap.size w w' := by
  go_enter Try.func48, Try.ntmps48
  go_wp2
  refine start_ (n := 8) (S := fun w' => True) (ds := []) #[false, false, false, false, false, false, false, false] (by kernel_rfl) rfl rfl trivial (fun hHeld => ?_)
  refine with_tabW bits_Check.tab1 bits_Check.bits1 (fun HT_ HW_ => ?_)
  have BK := Aside0.mk (MapKept.heap_alloc w (.cells #[.int .i64 sz, .bool sg] 29 (0, 0))).1
  have HB := Aside0.mk (((Below.refl w.heap.size w).alloc (Nat.le_refl _) (.cells #[.int .i64 sz, .bool sg] 29 (0, 0))).drew)
  refine inv_at [0, 1, 2, 3, 4, 5, 6, 7] (fun a0_ b a w' => ∃ (g_ : Nat) (m0_ : Value), a = putSel a0_ b [(0, 6, m0_), (1, 7, .agg #[.int .i64 sz, .bool sg]), (2, 8, .tuple #[v0, .bool ok]), (3, 5, .tuple #[v0, .bool ok]), (4, 9, v0), (5, 10, .bool ok), (6, 3, v0), (7, 4, .bool ok)] ∧ (b 0 = true → MapOf w' g_ conversions.L (fun _ => true)) ∧ (w'.heap[w.heap.size]? = some (.cells #[.int .i64 sz, .bool sg] 29 (0, 0))) ∧ (Below w.heap.size w w') ∧ (b 0 = true → (m0_ : Value) = .map (some g_))) HT_.out HW_.out (by kernel_rfl) (by kernel_rfl) ?_ ?_ ?_
  · exact ⟨0, .bool false, by simp only [putSel, Bool.false_eq_true, if_false], fun h_ => absurd h_ (by decide), BK.out, HB.out, fun h_ => absurd h_ (by decide)⟩
  · skip
    clear BK HB
    refine steps_cons ?_ ?_
    · rintro b a w' ⟨g_, m0_, ha, Q_HM, Q_BK, Q_HB, Q_X0_⟩ hb_ hon hoff
      refine ⟨_, rfl, fun K hK => ?_⟩
      replace ha := Aside0.mk ha
      have BK := Aside0.mk Q_BK
      have HB := Aside0.mk Q_HB
      refine goes_ Try.func68 (by kernel_rfl) (by kernel_rfl) #[] (by rfl) rfl rfl (by first | (simp only [List.map_toArray, List.map_cons, List.map_nil, Act.eval, Array.getD_eq_getD_getElem?, Option.getD_some]; done) | (simp only [List.map_toArray, List.map_cons, List.map_nil, Act.eval, Array.getD_eq_getD_getElem?, Option.getD_some]; rfl)) ?_
      refine (conversions.calls _).mono ?_
      rintro e w1 ⟨g1, rfl, hg1, hM1, hB1⟩
      refine ⟨_, rfl, ?_⟩
      refine hK.out _ _ ⟨g1, (.map (some g1)), (by rw [ha.out]; exact putSel_upk 0 hb_ rfl rfl rfl), fun _ => hM1, (hB1.block _ (blk_lt BK.out)).trans BK.out, HB.out.trans (hB1.mono HB.out.size), fun _ => rfl⟩
    refine steps_cons ?_ ?_
    · rintro b a w' ⟨g_, m0_, ha, Q_HM, Q_BK, Q_HB, Q_X0_⟩ hb_ hon hoff
      refine ⟨_, rfl, fun K hK => ?_⟩
      have e1 : a.tmps[1]? = some (.pointer (some ⟨w.heap.size, 0, none⟩)) := by rw [ha]; exact (putSel_off rfl).trans rfl
      replace ha := Aside0.mk ha
      have BK := Aside0.mk Q_BK
      have HB := Aside0.mk Q_HB
      have hc0 := (blk_cell BK.out 0).trans rfl
      have hc1 := (blk_cell BK.out 1).trans rfl
      refine value_ (w1 := w') (v := .agg #[.int .i64 sz, .bool sg]) (by rfl) rfl ?_ ?_
      · go_simp
        (try simp only [i64_w])
        try rfl
      refine hK.out _ _ ⟨g_, m0_, (by rw [ha.out]; exact putSel_upk 1 hb_ rfl rfl rfl), Q_HM, Q_BK, Q_HB, Q_X0_⟩
    refine steps_cons ?_ ?_
    · rintro b a w' ⟨g_, m0_, ha, Q_HM, Q_BK, Q_HB, Q_X0_⟩ hb_ hon hoff
      refine ⟨_, rfl, fun K hK => ?_⟩
      have e6 : a.tmps[6]? = some (m0_) := by rw [ha]; exact putSel_on (e := (0, 6, m0_)) 0 rfl rfl (hon 0 (by kernel_rfl)) rfl
      rw [Q_X0_ (hon 0 (by kernel_rfl))] at e6
      have e7 : a.tmps[7]? = some (.agg #[.int .i64 sz, .bool sg]) := by rw [ha]; exact putSel_on (e := (1, 7, .agg #[.int .i64 sz, .bool sg])) 1 rfl rfl (hon 1 (by kernel_rfl)) rfl
      replace ha := Aside0.mk ha
      have HM := Aside0.mk (Q_HM (hon 0 (by kernel_rfl)))
      have BK := Aside0.mk Q_BK
      have HB := Aside0.mk Q_HB
      have hl := hlook w' g_ HM.out
      refine value_ (w1 := w') (v := .tuple #[v0, .bool ok]) (by rfl) rfl ?_ ?_
      · unfold execOp
        simp [Act.eval, e6, e7, hl]
      refine hK.out _ _ ⟨g_, m0_, (by rw [ha.out]; exact putSel_upk 2 hb_ rfl rfl rfl), fun _ => HM.out, BK.out, HB.out, Q_X0_⟩
    refine steps_cons ?_ ?_
    · rintro b a w' ⟨g_, m0_, ha, Q_HM, Q_BK, Q_HB, Q_X0_⟩ hb_ hon hoff
      refine ⟨_, rfl, fun K hK => ?_⟩
      have e8 : a.tmps[8]? = some (.tuple #[v0, .bool ok]) := by rw [ha]; exact putSel_on (e := (2, 8, .tuple #[v0, .bool ok])) 2 rfl rfl (hon 2 (by kernel_rfl)) rfl
      replace ha := Aside0.mk ha
      have HM := Aside0.mk (Q_HM (hon 0 (by kernel_rfl)))
      have BK := Aside0.mk Q_BK
      have HB := Aside0.mk Q_HB
      refine value_ (w1 := w') (v := .tuple #[v0, .bool ok]) (by rfl) rfl ?_ ?_
      · go_simp
        (try simp only [i64_w])
        try rfl
      refine hK.out _ _ ⟨g_, m0_, (by rw [ha.out]; exact putSel_upk 3 hb_ rfl rfl rfl), Q_HM, Q_BK, Q_HB, Q_X0_⟩
    refine steps_cons ?_ ?_
    · rintro b a w' ⟨g_, m0_, ha, Q_HM, Q_BK, Q_HB, Q_X0_⟩ hb_ hon hoff
      refine ⟨_, rfl, fun K hK => ?_⟩
      have e5 : a.tmps[5]? = some (.tuple #[v0, .bool ok]) := by rw [ha]; exact putSel_on (e := (3, 5, .tuple #[v0, .bool ok])) 3 rfl rfl (hon 3 (by kernel_rfl)) rfl
      replace ha := Aside0.mk ha
      have HM := Aside0.mk (Q_HM (hon 0 (by kernel_rfl)))
      have BK := Aside0.mk Q_BK
      have HB := Aside0.mk Q_HB
      refine value_ (w1 := w') (v := v0) (by rfl) rfl ?_ ?_
      · go_simp
        (try simp only [i64_w])
        try rfl
      refine hK.out _ _ ⟨g_, m0_, (by rw [ha.out]; exact putSel_upk 4 hb_ rfl rfl rfl), Q_HM, Q_BK, Q_HB, Q_X0_⟩
    refine steps_cons ?_ ?_
    · rintro b a w' ⟨g_, m0_, ha, Q_HM, Q_BK, Q_HB, Q_X0_⟩ hb_ hon hoff
      refine ⟨_, rfl, fun K hK => ?_⟩
      have e5 : a.tmps[5]? = some (.tuple #[v0, .bool ok]) := by rw [ha]; exact putSel_on (e := (3, 5, .tuple #[v0, .bool ok])) 3 rfl rfl (hon 3 (by kernel_rfl)) rfl
      replace ha := Aside0.mk ha
      have HM := Aside0.mk (Q_HM (hon 0 (by kernel_rfl)))
      have BK := Aside0.mk Q_BK
      have HB := Aside0.mk Q_HB
      refine value_ (w1 := w') (v := .bool ok) (by rfl) rfl ?_ ?_
      · go_simp
        (try simp only [i64_w])
        try rfl
      refine hK.out _ _ ⟨g_, m0_, (by rw [ha.out]; exact putSel_upk 5 hb_ rfl rfl rfl), Q_HM, Q_BK, Q_HB, Q_X0_⟩
    refine steps_cons ?_ ?_
    · rintro b a w' ⟨g_, m0_, ha, Q_HM, Q_BK, Q_HB, Q_X0_⟩ hb_ hon hoff
      refine ⟨_, rfl, fun K hK => ?_⟩
      have e9 : a.tmps[9]? = some (v0) := by rw [ha]; exact putSel_on (e := (4, 9, v0)) 4 rfl rfl (hon 4 (by kernel_rfl)) rfl
      replace ha := Aside0.mk ha
      have HM := Aside0.mk (Q_HM (hon 0 (by kernel_rfl)))
      have BK := Aside0.mk Q_BK
      have HB := Aside0.mk Q_HB
      refine value_ (w1 := w') (v := v0) (by rfl) rfl ?_ ?_
      · go_simp
        (try simp only [i64_w])
        try rfl
      refine hK.out _ _ ⟨g_, m0_, (by rw [ha.out]; exact putSel_upk 6 hb_ rfl rfl rfl), Q_HM, Q_BK, Q_HB, Q_X0_⟩
    refine steps_cons ?_ ?_
    · rintro b a w' ⟨g_, m0_, ha, Q_HM, Q_BK, Q_HB, Q_X0_⟩ hb_ hon hoff
      refine ⟨_, rfl, fun K hK => ?_⟩
      have e10 : a.tmps[10]? = some (.bool ok) := by rw [ha]; exact putSel_on (e := (5, 10, .bool ok)) 5 rfl rfl (hon 5 (by kernel_rfl)) rfl
      replace ha := Aside0.mk ha
      have HM := Aside0.mk (Q_HM (hon 0 (by kernel_rfl)))
      have BK := Aside0.mk Q_BK
      have HB := Aside0.mk Q_HB
      refine value_ (w1 := w') (v := .bool ok) (by rfl) rfl ?_ ?_
      · go_simp
        (try simp only [i64_w])
        try rfl
      refine hK.out _ _ ⟨g_, m0_, (by rw [ha.out]; exact putSel_upk 7 hb_ rfl rfl rfl), Q_HM, Q_BK, Q_HB, Q_X0_⟩
    exact steps_nil
  · rintro b a w' hall ⟨g_, m0_, ha, Q_HM, Q_BK, Q_HB, Q_X0_⟩
    clear BK HB
    have hb0_ := hall 0 (by kernel_rfl)
    have hb1_ := hall 1 (by kernel_rfl)
    have hb2_ := hall 2 (by kernel_rfl)
    have hb3_ := hall 3 (by kernel_rfl)
    have hb4_ := hall 4 (by kernel_rfl)
    have hb5_ := hall 5 (by kernel_rfl)
    have hb6_ := hall 6 (by kernel_rfl)
    have hb7_ := hall 7 (by kernel_rfl)
    subst ha
    obtain rfl := Q_X0_ hb0_
    simp only [putSel, hb0_, hb1_, hb2_, hb3_, hb4_, hb5_, hb6_, hb7_, if_true, Act.put, List.setIfInBounds_toArray, List.set_cons_zero, List.set_cons_succ]
    have HM := Aside0.mk (Q_HM hb0_)
    clear Q_HM
    have BK := Aside0.mk Q_BK
    clear Q_BK
    have HB := Aside0.mk Q_HB
    clear Q_HB
    clear hall hb0_ hb1_ hb2_ hb3_ hb4_ hb5_ hb6_ hb7_
    cases ok
    all_goals (go_wp2; go_ret; exact ⟨rfl, HB.out⟩)
def bits_wrap.T1 : Bool × List (List Nat × List Nat) := (true, [([], []), ([], []), ([0, 1], [0, 1]), ([], []), ([2, 3, 0], [2, 3]), ([4, 4, 0, 1, 2, 3, 4], [4])])
def bits_wrap.B1 : List Nat := [0, 0, 3, 0, 15, 31]
theorem bits_wrap.tab1 : rtab .any (opsOf Try.f69 1) = bits_wrap.T1 := by kernel_rfl
theorem bits_wrap.bits1 : waitsOk bits_wrap.T1.2 bits_wrap.B1 = true := by kernel_rfl
set_option maxHeartbeats 2000000 in
set_option maxRecDepth 100000 in
theorem bits_wrap.walk (sz : Int) (sg : Bool) (v r : Int) (k : Nat) (w : World) (hlook : ∀ w' g, MapOf w' g conversions.L (fun _ => true) → (Instr.lookup 113 (.map (some g)) (.agg #[.int .i64 sz, .bool sg]) false).run Try.prog w' = .ok (.func (.func k) #[] #[]) w')
    (henter : ∀ w, (callFunc k #[.int .i64 v]).run Try.prog w = .ok (.enter k #[.int .i64 v]) w) (hcall : ∀ w, Calls Try.prog k #[.int .i64 v] w fun e w' => e = .returned (.int .i64 r) ∧ w' = w) :
    Calls Try.prog 69 #[.agg #[.int .i64 sz, .bool sg], .int .i64 v] w fun e w' => e = .returned (.int .i64 r) ∧ Below w.heap.size w w' := by
  go_enter Try.func69, Try.ntmps69
  go_wp2
  refine start_ (n := 6) (S := fun w' => True) (ds := []) #[false, false, false, false, false, false] (by kernel_rfl) rfl rfl trivial (fun hHeld => ?_)
  refine with_tabW bits_wrap.tab1 bits_wrap.bits1 (fun HT_ HW_ => ?_)
  have BK := Aside0.mk (MapKept.heap_alloc w (.cells #[.int .i64 sz, .bool sg] 29 (0, 0))).1
  have HB := Aside0.mk (((Below.refl w.heap.size w).alloc (Nat.le_refl _) (.cells #[.int .i64 sz, .bool sg] 29 (0, 0))).drew)
  refine inv_at [0, 1, 2, 3, 4, 5] (fun a0_ b a w' => ∃ (g_ : Nat) (m0_ : Value), a = putSel a0_ b [(0, 5, m0_), (1, 6, .agg #[.int .i64 sz, .bool sg]), (2, 7, .func (.func k) #[] #[]), (3, 8, .int .i64 v), (4, 9, .int .i64 r), (5, 4, .int .i64 r)] ∧ (b 0 = true → MapOf w' g_ conversions.L (fun _ => true)) ∧ (w'.heap[w.heap.size]? = some (.cells #[.int .i64 sz, .bool sg] 29 (0, 0))) ∧ (Below w.heap.size w w') ∧ (b 0 = true → (m0_ : Value) = .map (some g_))) HT_.out HW_.out (by kernel_rfl) (by kernel_rfl) ?_ ?_ ?_
  · exact ⟨0, .bool false, by simp only [putSel, Bool.false_eq_true, if_false], fun h_ => absurd h_ (by decide), BK.out, HB.out, fun h_ => absurd h_ (by decide)⟩
  · skip
    clear BK HB
    refine steps_cons ?_ ?_
    · rintro b a w' ⟨g_, m0_, ha, Q_HM, Q_BK, Q_HB, Q_X0_⟩ hb_ hon hoff
      refine ⟨_, rfl, fun K hK => ?_⟩
      replace ha := Aside0.mk ha
      have BK := Aside0.mk Q_BK
      have HB := Aside0.mk Q_HB
      refine goes_ Try.func68 (by kernel_rfl) (by kernel_rfl) #[] (by rfl) rfl rfl (by first | (simp only [List.map_toArray, List.map_cons, List.map_nil, Act.eval, Array.getD_eq_getD_getElem?, Option.getD_some]; done) | (simp only [List.map_toArray, List.map_cons, List.map_nil, Act.eval, Array.getD_eq_getD_getElem?, Option.getD_some]; rfl)) ?_
      refine (conversions.calls _).mono ?_
      rintro e w1 ⟨g1, rfl, hg1, hM1, hB1⟩
      refine ⟨_, rfl, ?_⟩
      refine hK.out _ _ ⟨g1, (.map (some g1)), (by rw [ha.out]; exact putSel_upk 0 hb_ rfl rfl rfl), fun _ => hM1, (hB1.block _ (blk_lt BK.out)).trans BK.out, HB.out.trans (hB1.mono HB.out.size), fun _ => rfl⟩
    refine steps_cons ?_ ?_
    · rintro b a w' ⟨g_, m0_, ha, Q_HM, Q_BK, Q_HB, Q_X0_⟩ hb_ hon hoff
      refine ⟨_, rfl, fun K hK => ?_⟩
      have e2 : a.tmps[2]? = some (.pointer (some ⟨w.heap.size, 0, none⟩)) := by rw [ha]; exact (putSel_off rfl).trans rfl
      replace ha := Aside0.mk ha
      have BK := Aside0.mk Q_BK
      have HB := Aside0.mk Q_HB
      have hc0 := (blk_cell BK.out 0).trans rfl
      have hc1 := (blk_cell BK.out 1).trans rfl
      refine value_ (w1 := w') (v := .agg #[.int .i64 sz, .bool sg]) (by rfl) rfl ?_ ?_
      · go_simp
        (try simp only [i64_w])
        try rfl
      refine hK.out _ _ ⟨g_, m0_, (by rw [ha.out]; exact putSel_upk 1 hb_ rfl rfl rfl), Q_HM, Q_BK, Q_HB, Q_X0_⟩
    refine steps_cons ?_ ?_
    · rintro b a w' ⟨g_, m0_, ha, Q_HM, Q_BK, Q_HB, Q_X0_⟩ hb_ hon hoff
      refine ⟨_, rfl, fun K hK => ?_⟩
      have e5 : a.tmps[5]? = some (m0_) := by rw [ha]; exact putSel_on (e := (0, 5, m0_)) 0 rfl rfl (hon 0 (by kernel_rfl)) rfl
      rw [Q_X0_ (hon 0 (by kernel_rfl))] at e5
      have e6 : a.tmps[6]? = some (.agg #[.int .i64 sz, .bool sg]) := by rw [ha]; exact putSel_on (e := (1, 6, .agg #[.int .i64 sz, .bool sg])) 1 rfl rfl (hon 1 (by kernel_rfl)) rfl
      replace ha := Aside0.mk ha
      have HM := Aside0.mk (Q_HM (hon 0 (by kernel_rfl)))
      have BK := Aside0.mk Q_BK
      have HB := Aside0.mk Q_HB
      have hl := hlook w' g_ HM.out
      refine value_ (w1 := w') (v := .func (.func k) #[] #[]) (by rfl) rfl ?_ ?_
      · unfold execOp
        simp [Act.eval, e5, e6, hl]
      refine hK.out _ _ ⟨g_, m0_, (by rw [ha.out]; exact putSel_upk 2 hb_ rfl rfl rfl), fun _ => HM.out, BK.out, HB.out, Q_X0_⟩
    refine steps_cons ?_ ?_
    · rintro b a w' ⟨g_, m0_, ha, Q_HM, Q_BK, Q_HB, Q_X0_⟩ hb_ hon hoff
      refine ⟨_, rfl, fun K hK => ?_⟩
      have e1 : a.tmps[1]? = some (.int .i64 v) := by rw [ha]; exact (putSel_off rfl).trans rfl
      replace ha := Aside0.mk ha
      have BK := Aside0.mk Q_BK
      have HB := Aside0.mk Q_HB
      refine value_ (w1 := w') (v := .int .i64 v) (by rfl) rfl ?_ ?_
      · go_simp
        (try simp only [i64_w])
        try rfl
      refine hK.out _ _ ⟨g_, m0_, (by rw [ha.out]; exact putSel_upk 3 hb_ rfl rfl rfl), Q_HM, Q_BK, Q_HB, Q_X0_⟩
    refine steps_cons ?_ ?_
    · rintro b a w' ⟨g_, m0_, ha, Q_HM, Q_BK, Q_HB, Q_X0_⟩ hb_ hon hoff
      refine ⟨_, rfl, fun K hK => ?_⟩
      have e7 : a.tmps[7]? = some (.func (.func k) #[] #[]) := by rw [ha]; exact putSel_on (e := (2, 7, .func (.func k) #[] #[])) 2 rfl rfl (hon 2 (by kernel_rfl)) rfl
      have e8 : a.tmps[8]? = some (.int .i64 v) := by rw [ha]; exact putSel_on (e := (3, 8, .int .i64 v)) 3 rfl rfl (hon 3 (by kernel_rfl)) rfl
      replace ha := Aside0.mk ha
      have HM := Aside0.mk (Q_HM (hon 0 (by kernel_rfl)))
      have BK := Aside0.mk Q_BK
      have HB := Aside0.mk Q_HB
      refine call_ k #[.int .i64 v] (by rfl) rfl ?_ ?_
      · unfold execOp
        have he := henter w'
        simp [Act.eval, e7, e8, resolve, Deferred.ofValue, invoke, he]
      refine (hcall _).mono ?_
      rintro e w1 ⟨rfl, rfl⟩
      refine ⟨_, rfl, ?_⟩
      refine hK.out _ _ ⟨g_, m0_, (by rw [ha.out]; exact putSel_upk 4 hb_ rfl rfl rfl), fun _ => HM.out, BK.out, HB.out, Q_X0_⟩
    refine steps_cons ?_ ?_
    · rintro b a w' ⟨g_, m0_, ha, Q_HM, Q_BK, Q_HB, Q_X0_⟩ hb_ hon hoff
      refine ⟨_, rfl, fun K hK => ?_⟩
      have e9 : a.tmps[9]? = some (.int .i64 r) := by rw [ha]; exact putSel_on (e := (4, 9, .int .i64 r)) 4 rfl rfl (hon 4 (by kernel_rfl)) rfl
      replace ha := Aside0.mk ha
      have HM := Aside0.mk (Q_HM (hon 0 (by kernel_rfl)))
      have BK := Aside0.mk Q_BK
      have HB := Aside0.mk Q_HB
      refine value_ (w1 := w') (v := .int .i64 r) (by rfl) rfl ?_ ?_
      · go_simp
        (try simp only [i64_w])
        try rfl
      refine hK.out _ _ ⟨g_, m0_, (by rw [ha.out]; exact putSel_upk 5 hb_ rfl rfl rfl), Q_HM, Q_BK, Q_HB, Q_X0_⟩
    exact steps_nil
  · rintro b a w' hall ⟨g_, m0_, ha, Q_HM, Q_BK, Q_HB, Q_X0_⟩
    clear BK HB
    have hb0_ := hall 0 (by kernel_rfl)
    have hb1_ := hall 1 (by kernel_rfl)
    have hb2_ := hall 2 (by kernel_rfl)
    have hb3_ := hall 3 (by kernel_rfl)
    have hb4_ := hall 4 (by kernel_rfl)
    have hb5_ := hall 5 (by kernel_rfl)
    subst ha
    obtain rfl := Q_X0_ hb0_
    simp only [putSel, hb0_, hb1_, hb2_, hb3_, hb4_, hb5_, if_true, Act.put, List.setIfInBounds_toArray, List.set_cons_zero, List.set_cons_succ]
    have HM := Aside0.mk (Q_HM hb0_)
    clear Q_HM
    have BK := Aside0.mk Q_BK
    clear Q_BK
    have HB := Aside0.mk Q_HB
    clear Q_HB
    clear hall hb0_ hb1_ hb2_ hb3_ hb4_ hb5_
    go_wp2; go_ret; exact ⟨rfl, HB.out⟩
/-- The number of v by a type: what its conversion makes of it. -/
def wrapT (s : Int) (b : Bool) (v : Int) : Int := if s = 1 then (if b = true then (v + 128) % 256 - 128 else v % 256) else if s = 2 then (if b = true then (v + 32768) % 65536 - 32768 else v % 65536) else if s = 4 then (if b = true then wrap32 v else v % 4294967296) else if b = true then v else wrap64 v
theorem wrap_i8' (n : Int) : IntKind.i8.wrap n = (n + 128) % 256 - 128 := by
  simp [IntKind.wrap, IntKind.bits, IntKind.signed]
  split <;> omega
theorem wrap_i16' (n : Int) : IntKind.i16.wrap n = (n + 32768) % 65536 - 32768 := by
  simp [IntKind.wrap, IntKind.bits, IntKind.signed]
  split <;> omega
def convOf (s : Int) (b : Bool) : Nat := 73 + (if s = 1 then 0 else if s = 2 then 2 else if s = 4 then 4 else 6) + (if b = true then 0 else 1)
theorem conv_look (s : Int) (b : Bool) (h : tyOk s = true) (c : Bool) (w : World) (g : Nat) (hM : MapOf w g conversions.L (fun _ => true)) :
    (Instr.lookup 113 (.map (some g)) (.agg #[.int .i64 s, .bool b]) c).run Try.prog w = .ok (if c = true then .tuple #[.func (.func (convOf s b)) #[] #[], .bool true] else .func (.func (convOf s b)) #[] #[]) w := by
  refine hM.look (fun _ _ => rfl) conversions.ht (conversions.finds s b) ?_ ?_ c
  · simp only [tyOk, Bool.or_eq_true, beq_iff_eq] at h
    rcases h with ((rfl | rfl) | rfl) | rfl <;> cases b <;> simp [conversions.L, isTy]
  · intro l hl he
    simp only [conversions.L, List.mem_cons, List.not_mem_nil, or_false] at hl
    rcases hl with rfl | rfl | rfl | rfl | rfl | rfl | rfl | rfl <;> simp [isTy] at he <;> obtain ⟨rfl, rfl⟩ := he <;> rfl
set_option maxRecDepth 100000 in
theorem conv_look_no (s : Int) (b : Bool) (h : tyOk s = false) (c : Bool) (w : World) (g : Nat) (hM : MapOf w g conversions.L (fun _ => true)) :
    (Instr.lookup 113 (.map (some g)) (.agg #[.int .i64 s, .bool b]) c).run Try.prog w = .ok (if c = true then .tuple #[.nilFunc, .bool false] else .nilFunc) w := by
  refine hM.look_none (fun _ _ => rfl) conversions.ht (conversions.finds s b) (by rfl) ?_ c
  intro l hl
  simp only [tyOk, Bool.or_eq_false_iff, beq_eq_false_iff_ne] at h
  obtain ⟨⟨⟨h1, h2⟩, h3⟩, h4⟩ := h
  simp only [conversions.L, List.mem_cons, List.not_mem_nil, or_false] at hl
  rcases hl with rfl | rfl | rfl | rfl | rfl | rfl | rfl | rfl <;> simp [isTy, h1, h2, h3, h4]
def bits_Check.f (a0_0 : Int) (a0_1 : Bool) : Option Int := some (if tyOk a0_0 = true then 0 else 10)
theorem bits_Check.calls (a0_0 : Int) (a0_1 : Bool) (r : Int) (w : World) (h : bits_Check.f a0_0 a0_1 = some r) :
    Calls Try.prog 48 #[.agg #[.int .i64 a0_0, .bool a0_1]] w fun e w' => e = .returned (.int .i64 r) ∧ Below w.heap.size w w' := by
  obtain rfl := Option.some.inj h
  cases hk : tyOk a0_0
  · exact bits_Check.walk a0_0 a0_1 .nilFunc false w (fun w' g hM => conv_look_no a0_0 a0_1 hk true w' g hM)
  · exact bits_Check.walk a0_0 a0_1 (.func (.func (convOf a0_0 a0_1)) #[] #[]) true w (fun w' g hM => conv_look a0_0 a0_1 hk true w' g hM)
def bits_wrap.f (a0_0 : Int) (a0_1 : Bool) (a1 : Int) : Option Int := if tyOk a0_0 = true then some (wrapT a0_0 a0_1 a1) else none
theorem through0 (v : Int) (w : World) : Calls Try.prog 73 #[.int .i64 v] w fun e w' => e = .returned (.int .i64 ((v + 128) % 256 - 128)) ∧ w' = w := by
  go_enter Try.func73, Try.ntmps73
  go_wp2
  go_ret
  exact ⟨by first | rfl | (refine congrArg (fun z => Ending.returned (.int .i64 z)) ?_; simp only [wrap64, wrap32, wrap_i8', wrap_i16', IntKind.wrap_u8, IntKind.wrap_u32, IntKind.wrap_u16, IntKind.wrap_u64, IntKind.wrap_i32, IntKind.wrap_i64]; omega), rfl⟩
theorem through1 (v : Int) (w : World) : Calls Try.prog 74 #[.int .i64 v] w fun e w' => e = .returned (.int .i64 (v % 256)) ∧ w' = w := by
  go_enter Try.func74, Try.ntmps74
  go_wp2
  go_ret
  exact ⟨by first | rfl | (refine congrArg (fun z => Ending.returned (.int .i64 z)) ?_; simp only [wrap64, wrap32, wrap_i8', wrap_i16', IntKind.wrap_u8, IntKind.wrap_u32, IntKind.wrap_u16, IntKind.wrap_u64, IntKind.wrap_i32, IntKind.wrap_i64]; omega), rfl⟩
theorem through2 (v : Int) (w : World) : Calls Try.prog 75 #[.int .i64 v] w fun e w' => e = .returned (.int .i64 ((v + 32768) % 65536 - 32768)) ∧ w' = w := by
  go_enter Try.func75, Try.ntmps75
  go_wp2
  go_ret
  exact ⟨by first | rfl | (refine congrArg (fun z => Ending.returned (.int .i64 z)) ?_; simp only [wrap64, wrap32, wrap_i8', wrap_i16', IntKind.wrap_u8, IntKind.wrap_u32, IntKind.wrap_u16, IntKind.wrap_u64, IntKind.wrap_i32, IntKind.wrap_i64]; omega), rfl⟩
theorem through3 (v : Int) (w : World) : Calls Try.prog 76 #[.int .i64 v] w fun e w' => e = .returned (.int .i64 (v % 65536)) ∧ w' = w := by
  go_enter Try.func76, Try.ntmps76
  go_wp2
  go_ret
  exact ⟨by first | rfl | (refine congrArg (fun z => Ending.returned (.int .i64 z)) ?_; simp only [wrap64, wrap32, wrap_i8', wrap_i16', IntKind.wrap_u8, IntKind.wrap_u32, IntKind.wrap_u16, IntKind.wrap_u64, IntKind.wrap_i32, IntKind.wrap_i64]; omega), rfl⟩
theorem through4 (v : Int) (w : World) : Calls Try.prog 77 #[.int .i64 v] w fun e w' => e = .returned (.int .i64 (wrap32 v)) ∧ w' = w := by
  go_enter Try.func77, Try.ntmps77
  go_wp2
  go_ret
  exact ⟨by first | rfl | (refine congrArg (fun z => Ending.returned (.int .i64 z)) ?_; simp only [wrap64, wrap32, wrap_i8', wrap_i16', IntKind.wrap_u8, IntKind.wrap_u32, IntKind.wrap_u16, IntKind.wrap_u64, IntKind.wrap_i32, IntKind.wrap_i64]; omega), rfl⟩
theorem through5 (v : Int) (w : World) : Calls Try.prog 78 #[.int .i64 v] w fun e w' => e = .returned (.int .i64 (v % 4294967296)) ∧ w' = w := by
  go_enter Try.func78, Try.ntmps78
  go_wp2
  go_ret
  exact ⟨by first | rfl | (refine congrArg (fun z => Ending.returned (.int .i64 z)) ?_; simp only [wrap64, wrap32, wrap_i8', wrap_i16', IntKind.wrap_u8, IntKind.wrap_u32, IntKind.wrap_u16, IntKind.wrap_u64, IntKind.wrap_i32, IntKind.wrap_i64]; omega), rfl⟩
theorem through6 (v : Int) (w : World) : Calls Try.prog 79 #[.int .i64 v] w fun e w' => e = .returned (.int .i64 (v)) ∧ w' = w := by
  go_enter Try.func79, Try.ntmps79
  go_wp2
  go_ret
  exact ⟨by first | rfl | (refine congrArg (fun z => Ending.returned (.int .i64 z)) ?_; simp only [wrap64, wrap32, wrap_i8', wrap_i16', IntKind.wrap_u8, IntKind.wrap_u32, IntKind.wrap_u16, IntKind.wrap_u64, IntKind.wrap_i32, IntKind.wrap_i64]; omega), rfl⟩
theorem through7 (v : Int) (w : World) : Calls Try.prog 80 #[.int .i64 v] w fun e w' => e = .returned (.int .i64 (wrap64 v)) ∧ w' = w := by
  go_enter Try.func80, Try.ntmps80
  go_wp2
  go_ret
  exact ⟨by first | rfl | (refine congrArg (fun z => Ending.returned (.int .i64 z)) ?_; simp only [wrap64, wrap32, wrap_i8', wrap_i16', IntKind.wrap_u8, IntKind.wrap_u32, IntKind.wrap_u16, IntKind.wrap_u64, IntKind.wrap_i32, IntKind.wrap_i64]; omega), rfl⟩
theorem bits_wrap.calls (a0_0 : Int) (a0_1 : Bool) (a1 : Int) (r : Int) (w : World) (h : bits_wrap.f a0_0 a0_1 a1 = some r) :
    Calls Try.prog 69 #[.agg #[.int .i64 a0_0, .bool a0_1], .int .i64 a1] w fun e w' => e = .returned (.int .i64 r) ∧ Below w.heap.size w w' := by
  unfold bits_wrap.f at h
  by_cases hk : tyOk a0_0 = true
  · rw [if_pos hk] at h
    obtain rfl := Option.some.inj h
    have hl := conv_look a0_0 a0_1 hk false
    simp only [tyOk, Bool.or_eq_true, beq_iff_eq] at hk
    rcases hk with ((rfl | rfl) | rfl) | rfl <;> cases a0_1
    · exact bits_wrap.walk _ _ a1 _ 74 w hl (fun w => enters_ Try.func74 (by kernel_rfl) (by kernel_rfl) _ w) (through1 a1)
    · exact bits_wrap.walk _ _ a1 _ 73 w hl (fun w => enters_ Try.func73 (by kernel_rfl) (by kernel_rfl) _ w) (through0 a1)
    · exact bits_wrap.walk _ _ a1 _ 76 w hl (fun w => enters_ Try.func76 (by kernel_rfl) (by kernel_rfl) _ w) (through3 a1)
    · exact bits_wrap.walk _ _ a1 _ 75 w hl (fun w => enters_ Try.func75 (by kernel_rfl) (by kernel_rfl) _ w) (through2 a1)
    · exact bits_wrap.walk _ _ a1 _ 78 w hl (fun w => enters_ Try.func78 (by kernel_rfl) (by kernel_rfl) _ w) (through5 a1)
    · exact bits_wrap.walk _ _ a1 _ 77 w hl (fun w => enters_ Try.func77 (by kernel_rfl) (by kernel_rfl) _ w) (through4 a1)
    · exact bits_wrap.walk _ _ a1 _ 80 w hl (fun w => enters_ Try.func80 (by kernel_rfl) (by kernel_rfl) _ w) (through7 a1)
    · exact bits_wrap.walk _ _ a1 _ 79 w hl (fun w => enters_ Try.func79 (by kernel_rfl) (by kernel_rfl) _ w) (through6 a1)
  · rw [if_neg hk] at h
    cases h
end Go.Proofs.Ytmpdimigpaogkaa.G
