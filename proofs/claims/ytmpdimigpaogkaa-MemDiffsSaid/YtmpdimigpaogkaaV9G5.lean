/- A text of the proof of MemDiffs: what of it that proof uses. No statement of its own. -/
import Derived.Test.YtmpdimigpaogkaaV9G4
import Derived.Test.YtmpdimigpaogkaaV9G1
import Derived.Defers
import Derived.Recover
namespace Go.Proofs.Ytmpdimigpaogkaa.G
open Go.RowKit Go.Proofs.YtmpdimigpaogkaaW.PrintWords Go.Proofs.YtmpdimigpaogkaaW.PrintLast Go.Proofs.YtmpdimigpaogkaaW.PrintMore
set_option linter.unusedVariables false
set_option linter.unusedSimpArgs false

section
variable {P : Program} {ops : Array Oper} {rest : List Oper} {o : Oper} {a : Act} {Q : Exit → Act → World → Prop} {w : World}
/-- A row of a map literal, its keys numbers. -/
theorem wpList_insert_int {t kt et g : Nat} {k : IntKind} {L : List (Nat × Value × Value)} {b : Nat → Bool} (m : Operand) (i : Nat) (x : Int) (v : Value) (hg : o.guard = none) (hN : o.dst = none) (hop : o.op = .insert t m (.const (.int k x)) (.const v)) (hm : a.eval m = .map (some g))
    (ht : P.underlying t = some (.map kt et)) (hk : P.underlying kt = some (.int k)) (hM : MapOf w g L b) (hi : (i, .int k x, v) ∈ L) (hK : ∀ l ∈ L, ∃ n, l.2.1 = .int k n) (hne : ∀ l ∈ L, b l.1 = true → isInt x l.2.1 = false) (hu : ∀ l ∈ L, l.1 = i → l = (i, .int k x, v))
    (h : ∀ w', MapOf w' g L (up b i) → w.grownBy w' (some g) → wpList P ops Q rest (a.put o.dst undef) w') : wpList P ops Q (o :: rest) a w := by
  refine wpList_plain hg fun K hKK => ?_
  obtain ⟨w', hrun, h1, h2⟩ := hM.put (P := P) ht hi (finds_int hk (fun v hv => by obtain ⟨l, hl, rfl⟩ := hv; exact hK l hl)) hne hu
  unfold Oper.wp execOp
  simp only [hop, Act.eval, hN] at hm ⊢
  rw [hm, Sem.run_bind, hrun]
  exact hKK _ _ (h w' h1 h2)
end
/-- The kind of a fault, by the permission that lacks. -/
def kindOf (perm : Int) : Int := if perm = 1 then 2 else if perm = 2 then 3 else if perm = 4 then 4 else 0
/-- The fault of one byte: kind and address. -/
def need1 (P : List Int) (len x perm : Int) : Option (Int × Int) :=
  if 0 ≤ x ∧ x < len then (if Go.bits .and .i64 (rd P (x / 64)) perm = perm then none else some (kindOf perm, x)) else some (1, x)
/-- The fault of m bytes from number i on. -/
def needs (P : List Int) (len at_ perm : Int) : Nat → Int → Option (Int × Int)
  | 0, _ => none
  | m + 1, i => match need1 P len (wrap64 (at_ + i)) perm with
    | some f => some f
    | none => needs P len at_ perm m (i + 1)
def NeedPost (R : Option (Int × Int)) (w : World) (e : Ending) (w' : World) : Prop :=
  Below w.heap.size w w' ∧ match R with
    | none => e = .returned (.tuple #[])
    | some f => e = .panicked [{ v := .iface 123 (.agg #[.int .i64 f.1, .int .i64 f.2]), recovered := false }]

theorem quo64 (x : Int) (h0 : 0 ≤ x) (h1 : x ≤ 9223372036854775807) : wrap64 (x.tdiv 64) = x / 64 := by
  rw [Int.tdiv_eq_ediv_of_nonneg h0]
  unfold wrap64
  omega
def kindsL : List (Nat × Value × Value) := [(1, .int .i64 1, .int .i64 2), (2, .int .i64 2, .int .i64 3), (3, .int .i64 4, .int .i64 4)]
theorem kinds_ints : ∀ l ∈ kindsL, ∃ n, l.2.1 = .int .i64 n := by
  intro l hl
  simp [kindsL] at hl
  rcases hl with rfl | rfl | rfl <;> exact ⟨_, rfl⟩
set_option maxRecDepth 100000 in
theorem kinds_look {w : World} {g : Nat} (hM : MapOf w g kindsL (fun _ => true)) (perm : Int) : (Instr.lookup 124 (.map (some g)) (.int .i64 perm) false).run Try.prog w = .ok (.int .i64 (kindOf perm)) w := by
  have hF : Finds Try.prog 3 (.int .i64 perm) (isInt perm) (fun k => ∃ l ∈ kindsL, l.2.1 = k) := finds_int Try.underlying3 (fun v hv => by obtain ⟨l, hl, rfl⟩ := hv; exact kinds_ints l hl)
  unfold kindOf
  by_cases h1 : perm = 1
  · subst h1
    exact hM.look (fun _ _ => rfl) Try.underlying124 hF ⟨_, List.mem_cons_self, rfl⟩ (by intro l hl h; simp [kindsL] at hl; rcases hl with rfl | rfl | rfl <;> first | rfl | (simp [isInt] at h)) false
  · rw [if_neg h1]
    by_cases h2 : perm = 2
    · subst h2
      exact hM.look (fun _ _ => rfl) Try.underlying124 hF ⟨_, List.mem_cons_of_mem _ List.mem_cons_self, rfl⟩ (by intro l hl h; simp [kindsL] at hl; rcases hl with rfl | rfl | rfl <;> first | rfl | (simp [isInt] at h)) false
    · rw [if_neg h2]
      by_cases h3 : perm = 4
      · subst h3
        exact hM.look (fun _ _ => rfl) Try.underlying124 hF ⟨_, List.mem_cons_of_mem _ (List.mem_cons_of_mem _ List.mem_cons_self), rfl⟩ (by intro l hl h; simp [kindsL] at hl; rcases hl with rfl | rfl | rfl <;> first | rfl | (simp [isInt] at h)) false
      · rw [if_neg h3]
        exact hM.look_none (fun _ _ => rfl) Try.underlying124 hF (by rfl) (by intro l hl; simp [kindsL] at hl; rcases hl with rfl | rfl | rfl <;> simp [isInt, h1, h2, h3]) false
set_option maxRecDepth 100000 in
set_option maxHeartbeats 2000000 in
theorem need_walk (A0 : Option Addr) (c0 : Nat) (l0 : List Int) (A1 : Option Addr) (c1 : Nat) (l1 : List Int) (at_ n perm : Int) (R : Option (Int × Int)) (w : World) (hr0 : Kd.C (Kd.int .i64) w A0 l0.length l0) (hl : l1.length ≤ 64 * l0.length) (hn1 : n ≤ 9223372036854775807)
    (hR : needs l0 l1.length at_ perm n.toNat 0 = R) :
    Calls Try.prog 65 #[.agg #[.slice A0 l0.length c0, .slice A1 l1.length c1], .int .i64 at_, .int .i64 n, .int .i64 perm] w (NeedPost R w) := by
  have HR0 := Aside0.mk hr0
  have HL := Aside0.mk hl
  have HR := Aside0.mk hR
  clear hr0 hl hR
  go_enter Try.func65, Try.ntmps65
  have hmk := @run_makeMap Try.prog
  have hB0 := Aside0.mk (((Below.refl w.heap.size w).alloc (Nat.le_refl _) (.cells #[.slice A0 l0.length c0, .slice A1 l1.length c1] 25)).alloc (by simp) (.map #[] 0))
  have hM0 := Aside0.mk (MapOf.made (w.alloc (.cells #[.slice A0 l0.length c0, .slice A1 l1.length c1] 25)) kindsL (fun _ => false) (fun _ _ => rfl))
  have hK0 := Aside0.mk ((Below.heap_alloc (w.alloc (.cells #[.slice A0 l0.length c0, .slice A1 l1.length c1] 25)) (.map #[] 0) w.heap.size (by simp)).trans (World.alloc_heap_new w _))
  go_wp2_with (first
    | (refine wpList_insert_int (g := w.heap.size + 1) (.tmp 11) 1 1 (.int .i64 2) rfl rfl rfl rfl Try.underlying124 Try.underlying3 (by have := hM0.out; rwa [World.size_alloc] at this) (by simp [kindsL]) kinds_ints (by intro l _ h; cases h) (by intro l hl h; simp [kindsL] at hl; rcases hl with rfl | rfl | rfl <;> first | rfl | simp at h) ?_; intro w1 hM hgr; have hM1 := Aside0.mk hM; have hB1 := Aside0.mk (hB0.out.grown hgr (by simp <;> omega) (fun k hk => by cases hk; omega)); have hK1 := Aside0.mk ((hgr.block w.heap.size (by simp <;> omega) (by simp)).trans hK0.out); clear hM hgr hM0 hB0 hK0)
    | (refine wpList_insert_int (g := w.heap.size + 1) (.tmp 11) 2 2 (.int .i64 3) rfl rfl rfl rfl Try.underlying124 Try.underlying3 hM1.out (by simp [kindsL]) kinds_ints (by intro l hl h; simp [kindsL] at hl; rcases hl with rfl | rfl | rfl <;> first | rfl | (simp [up] at h)) (by intro l hl h; simp [kindsL] at hl; rcases hl with rfl | rfl | rfl <;> first | rfl | simp at h) ?_; intro w2 hM hgr; have hM2 := Aside0.mk hM; have hB2 := Aside0.mk (hB1.out.grown hgr hB1.out.size (fun k hk => by cases hk; omega)); have hK2 := Aside0.mk ((hgr.block w.heap.size (blk_lt hK1.out) (by simp)).trans hK1.out); clear hM hgr hM1 hB1 hK1)
    | (refine wpList_insert_int (g := w.heap.size + 1) (.tmp 11) 3 4 (.int .i64 4) rfl rfl rfl rfl Try.underlying124 Try.underlying3 hM2.out (by simp [kindsL]) kinds_ints (by intro l hl h; simp [kindsL] at hl; rcases hl with rfl | rfl | rfl <;> first | rfl | (simp [up] at h)) (by intro l hl h; simp [kindsL] at hl; rcases hl with rfl | rfl | rfl <;> first | rfl | simp at h) ?_; intro w3 hM hgr; have hM3 := Aside0.mk (hM.same (b' := fun _ => true) (by intro l hl; simp [kindsL] at hl; rcases hl with rfl | rfl | rfl <;> rfl)); have hB3 := Aside0.mk (hB2.out.grown hgr hB2.out.size (fun k hk => by cases hk; omega)); have hK3 := Aside0.mk ((hgr.block w.heap.size (blk_lt hK2.out) (by simp)).trans hK2.out); clear hM hgr hM2 hB2 hK2))
  clear hmk
  have hpn : ∀ (t : Nat) (v : Value) (w : World), (Instr.panic (.iface t v)).run Try.prog w = .halt (.panic (.iface t v)) w := fun _ _ _ => rfl
  go_loopw [14] (fun i wr => ∃ k : Nat, i = .int .i64 k ∧ k ≤ n.toNat ∧ Aside0 (needs l0 l1.length at_ perm (n.toNat - k) k = R) ∧ Aside0 (Below w.heap.size w wr) ∧ Aside0 (MapOf wr (w.heap.size + 1) kindsL (fun _ => true)) ∧ Aside0 (wr.heap[w.heap.size]? = some (.cells #[.slice A0 l0.length c0, .slice A1 l1.length c1] 25 (0, 0)))) (fun i _ => n.toNat - (intOf i).toNat)
  case atStart => exact ⟨0, rfl, Nat.zero_le _, ⟨by simpa using HR.out⟩, hB3, hM3, hK3⟩
  case round =>
    clear hB3 hM3 hK3 HR
    obtain ⟨k, rfl, hk, HR, HB, HM, HK⟩ := hrel
    have z0 := (blk_cell HK.out 0).trans rfl
    have z1 := (blk_cell HK.out 1).trans rfl
    have hlw := blk_lt HK.out
    by_cases hlt : (k : Int) < n
    · have hrd := HR.out
      rw [show n.toNat - k = (n.toNat - (k + 1)) + 1 from by omega] at hrd
      unfold needs need1 at hrd
      by_cases hin : 0 ≤ wrap64 (at_ + k) ∧ wrap64 (at_ + k) < l1.length
      · rw [if_pos hin] at hrd
        obtain ⟨h0, h1⟩ := hin
        have hq1 : (0 : Int) ≤ wrap64 (at_ + k) / 64 := by omega
        have hq2 : wrap64 (at_ + k) / 64 < (l0.length : Int) := by have := HL.out; omega
        have hq := quo64 (wrap64 (at_ + k)) h0 (by unfold wrap64; omega)
        obtain ⟨ad, hA, hcell⟩ := Kd.at_int (Kd.C_below HR0.out HB.out) (wrap64 (at_ + k) / 64) hq1 hq2
        subst hA
        by_cases hp : Go.bits .and .i64 (rd l0 (wrap64 (at_ + k) / 64)) perm = perm
        · rw [if_pos hp] at hrd
          have HRD := Aside0.mk hrd
          have hpb : (Go.bits .and .i64 (rd l0 (wrap64 (at_ + k) / 64)) perm != perm) = false := bne_eq_false_iff_eq.2 hp
          have hbl := World.block_lt_of_cell? _ _ hcell
          clear hrd hp HR
          go_wp2
          go_roundw
          case rel => exact ⟨k + 1, by go_num, by omega, ⟨by have := HRD.out; simpa using this⟩, ⟨by first | exact HB.out | (exact HB.out.alloc HB.out.size _)⟩, ⟨HM.out.block (by first | rfl | exact Below.heap_alloc _ _ _ HM.out.lt)⟩, ⟨by first | exact HK.out | exact (Below.heap_alloc _ _ _ hlw).trans HK.out⟩⟩
          case measure => simp [intOf]; omega
        · rw [if_neg hp] at hrd
          have HRD := Aside0.mk hrd
          have hpb : (Go.bits .and .i64 (rd l0 (wrap64 (at_ + k) / 64)) perm != perm) = true := bne_iff_ne.2 hp
          have hlk := fun o => kinds_look (w := wr.alloc o) (HM.out.block (Below.heap_alloc _ _ _ HM.out.lt)) perm
          have hbl := World.block_lt_of_cell? _ _ hcell
          clear hrd hp HR
          go_wp2
          exact ⟨rfl, HB.out.alloc HB.out.size _, by rw [← HRD.out]⟩
      · rw [if_neg hin] at hrd
        have HRD := Aside0.mk hrd
        clear hrd HR
        by_cases h0 : 0 ≤ wrap64 (at_ + k)
        · have h1 : (l1.length : Int) ≤ wrap64 (at_ + k) := by omega
          have hdb : decide (wrap64 (at_ + k) < (l1.length : Int)) = false := decide_eq_false (by omega)
          clear hin
          go_wp2
          exact ⟨rfl, HB.out.alloc HB.out.size _, by rw [← HRD.out]⟩
        · have hdb : decide (0 ≤ wrap64 (at_ + k)) = false := decide_eq_false h0
          clear hin
          go_wp2
          exact ⟨rfl, HB.out.alloc HB.out.size _, by rw [← HRD.out]⟩
    · have hk2 : k = n.toNat := by omega
      have hrd := HR.out
      rw [hk2, Nat.sub_self] at hrd
      unfold needs at hrd
      have HRD := Aside0.mk hrd
      clear hrd HR hk2
      go_wp2
      go_end0
      exact ⟨HB.out, by rw [← HRD.out]⟩
end Go.Proofs.Ytmpdimigpaogkaa.G
