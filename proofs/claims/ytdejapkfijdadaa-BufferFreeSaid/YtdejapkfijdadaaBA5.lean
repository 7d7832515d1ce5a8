/- Texts of this seat, merged in build order. No statement of its own. -/
import Derived.Test.YtdejapkfijdadaaRows
import Derived.Deep.Slices
import Derived.Test.YtdejapkfijdadaaBA4
set_option linter.unusedVariables false
set_option linter.unusedSimpArgs false
section
namespace Go.Proofs.Ytdejapkfijdadaa
open Go.Ab Go.RowKit

theorem c_eql (a b : Int) : cmpLit .eql a b = decide (a = b) := by
  show (a == b) = _
  by_cases h : a = b <;> simp [h]
theorem c_neq (a b : Int) : cmpLit .neq a b = decide (a ≠ b) := by
  show (a != b) = _
  by_cases h : a = b <;> simp [h]
theorem c_lss (a b : Int) : cmpLit .lss a b = decide (a < b) := rfl
theorem c_leq (a b : Int) : cmpLit .leq a b = decide (a ≤ b) := rfl
theorem c_gtr (a b : Int) : cmpLit .gtr a b = decide (a > b) := rfl
theorem c_geq (a b : Int) : cmpLit .geq a b = decide (a ≥ b) := rfl
theorem notB_dec (p : Prop) [i : Decidable p] : notB' (decide p) = decide (¬ p) := by
  unfold notB'
  by_cases h : p <;> simp [h]
theorem bnd1 {α β : Type} {x : Option α} {a : α} {f : α → Option β} {r : Option β} (h : x = some a) (h2 : f a = r) : x.bind f = r := by
  rw [h]; exact h2
theorem dT {p : Prop} {i : Decidable p} (h : p) : @decide p i = true := decide_eq_true h
theorem dF {p : Prop} {i : Decidable p} (h : ¬ p) : @decide p i = false := decide_eq_false h
theorem dC {p q : Prop} {i : Decidable p} {j : Decidable q} (h : p ↔ q) : @decide p i = @decide q j := decide_eq_decide.2 h
theorem len3 (a b c : V) : lenI [a, b, c] = 3 := rfl
theorem dif1 {α : Type} {p : Prop} [Decidable p] {x y r : α} (h : p) (h2 : x = r) : (if p then x else y) = r := by rw [if_pos h]; exact h2
theorem dif0 {α : Type} {p : Prop} [Decidable p] {x y r : α} (h : ¬ p) (h2 : y = r) : (if p then x else y) = r := by rw [if_neg h]; exact h2

abbrev z8 : V := .i .u8 0
/-- So many bytes 0. -/
def zs (n : Nat) : List V := List.replicate n z8
theorem zs_len (n : Nat) : (zs n).length = n := by simp [zs]
theorem zs_u8 (n : Nat) : ∀ v ∈ zs n, U8 v := by
  intro v hv
  rw [List.eq_of_mem_replicate hv]
  exact ⟨0, rfl, by omega, by omega⟩
theorem repL_nat (n : Nat) : repL (n : Int) (.i .u8 0) = zs n := by
  unfold repL zs
  rw [Int.toNat_natCast]
theorem zs_add (m n : Nat) : zs m ++ zs n = zs (m + n) := by
  unfold zs
  rw [List.replicate_append_replicate]
def allz (l : List V) : Prop := ∀ v ∈ l, v = z8
theorem allz_zs (n : Nat) : allz (zs n) := fun v hv => List.eq_of_mem_replicate hv
theorem allz_eq {l : List V} (h : allz l) : l = zs l.length := List.eq_replicate_iff.2 ⟨rfl, h⟩
theorem allz_app {a b : List V} : allz (a ++ b) ↔ allz a ∧ allz b := by
  unfold allz
  constructor
  · intro h
    exact ⟨fun v hv => h v (List.mem_append_left _ hv), fun v hv => h v (List.mem_append_right _ hv)⟩
  · intro h v hv
    rcases List.mem_append.1 hv with hv | hv
    · exact h.1 v hv
    · exact h.2 v hv
theorem ovl_nat (es xs : List V) (k : Nat) (h : k + xs.length ≤ es.length) : ovlReal es (k : Int) xs = es.take k ++ xs ++ es.drop (k + xs.length) := by
  unfold ovlReal
  rw [Int.toNat_natCast, List.take_of_length_le (l := xs) (by omega)]
theorem subL_nat (l : List V) (a b : Nat) : subL l (a : Int) (b : Int) = (l.take b).drop a := by
  unfold subL
  rw [Int.toNat_natCast, Int.toNat_natCast]
theorem subL_u8 {l : List V} (h : ∀ v ∈ l, U8 v) (a b : Int) : ∀ v ∈ subL l a b, U8 v := fun v hv => h v (List.mem_of_mem_take (List.mem_of_mem_drop hv))
theorem subL_len (l : List V) (a b : Int) : (subL l a b).length ≤ l.length := by
  unfold subL
  simp
  omega
theorem gI_at8 (l : List V) (i : Nat) (h : i < l.length) (hb : ∀ v ∈ l, U8 v) : gI l (i : Int) 0 = Ab.asInt l[i] := gI_at l i h (fun v hv => (hb v hv).byte)
theorem u8_zero {v : V} (h : U8 v) : Ab.asInt v = 0 ↔ v = z8 := by
  obtain ⟨n, rfl, _⟩ := h
  constructor
  · intro e
    have : n = 0 := e
    rw [this]
  · intro e; rw [e]; rfl
theorem i64add {a b : Int} (h : -9223372036854775808 ≤ a + b) (h2 : a + b ≤ 9223372036854775807) : arReal .add .i64 a b = a + b := w64_small h h2
theorem i64sub {a b : Int} (h : -9223372036854775808 ≤ a - b) (h2 : a - b ≤ 9223372036854775807) : arReal .sub .i64 a b = a - b := w64_small h h2
open Classical in
/-- zero: all bytes are 0. -/
theorem s58 (l : List V) (hb : ∀ v ∈ l, U8 v) (hl : l.length ≤ 1000000000000) : d58 l = some (decide (allz l)) := by
  have hI : iter (d80f74_b1 l) 0 = some (if allz l then (.inr () : Int ⊕ Unit) else .inl ((l.findIdx (fun v => decide (v ≠ z8)) : Nat) : Int)) := by
    refine iter_fun (fun s => ∃ i : Nat, i ≤ l.length ∧ s = (i : Int) ∧ allz (l.take i)) (fun s => (l.length - s).toNat) (fun _ => _) ?_ _ ⟨0, by omega, rfl, by simp [allz]⟩
    rintro s ⟨i, hi, rfl, hz⟩
    by_cases hlt : i < l.length
    · have hv := gI_at8 l i hlt hb
      have c0 : cmpLit .lss (i : Int) (lenI l) = true := by rw [c_lss]; unfold lenI; simp; omega
      have c1 : Inb (i : Int) (lenI l) := by unfold Inb lenI; omega
      by_cases hz0 : l[i] = z8
      · left
        refine ⟨((i + 1 : Nat) : Int), ?_, ⟨i + 1, by omega, rfl, ?_⟩, by simp; omega, rfl⟩
        · unfold d80f74_b1 d74
          rw [if_pos c0, if_pos c1, hv, hz0]
          simp only [Option.bind_some]
          rw [if_neg (by decide), i64add (by omega) (by omega)]
          push_cast; rfl
        · rw [List.take_succ_eq_append_getElem hlt]
          exact allz_app.2 ⟨hz, fun v hv => by rw [List.mem_singleton.1 hv, hz0]⟩
      · right
        unfold d80f74_b1 d74
        rw [if_pos c0, if_pos c1, hv]
        have hne : Ab.asInt l[i] ≠ 0 := fun e => hz0 ((u8_zero (hb _ (List.getElem_mem hlt))).1 e)
        simp only [Option.bind_some]
        rw [if_pos (by rw [c_neq]; simp [hne]), if_neg (fun h => hz0 (h _ (List.getElem_mem hlt)))]
        have : l.findIdx (fun v => decide (v ≠ z8)) = i := by
          rw [List.findIdx_eq hlt]
          refine ⟨by simp [hz0], fun j hj => ?_⟩
          have := hz (l[j]) (by rw [List.mem_take_iff_getElem]; exact ⟨j, by omega, rfl⟩)
          simp [this]
        rw [this]
    · right
      obtain rfl : i = l.length := by omega
      rw [List.take_length] at hz
      unfold d80f74_b1
      rw [if_neg (by rw [c_lss]; simp [lenI]), if_pos hz]
  unfold d58 d73f74 d80f74
  rw [hI]
  by_cases h : allz l
  · rw [if_pos h, decide_eq_true h]; rfl
  · rw [if_neg h, decide_eq_false h]
    simp only [Option.bind_some, c_geq]
    rw [decide_eq_true (by omega)]; rfl
/-- What is read of bytes. -/
theorem s51 (l : List V) (hb : ∀ v ∈ l, U8 v) (hl : l.length ≤ 1099511627776) : d51 l = some (recs l) := by
  unfold d51
  rw [if_pos ⟨fun v hv => (hb v hv).byte, hl⟩]
end Go.Proofs.Ytdejapkfijdadaa
end
section
namespace Go.Proofs.Ytdejapkfijdadaa
open Go.Ab Go.RowKit

/-- The places of a buffer are right. -/
def plP (p : Int) (b : List V) (s e w : Int) : Prop := 0 ≤ s ∧ s ≤ (b.length : Int) ∧ 0 ≤ e ∧ e ≤ (b.length : Int) ∧ 0 ≤ w ∧ w ≤ (b.length : Int) ∧ (p ≠ 3 → s = 0) ∧ (w ≠ 0 → p = 3 ∧ s < w ∧ e ≤ s) ∧ (w = 0 → s < e ∨ (s = 0 ∧ e = 0))
/-- The numbers of a buffer are right. -/
def numP (p : Int) (b : List V) (s e w dr : Int) (il : List V) (idr : Int) (rd : Bool) : Prop := (1 ≤ p ∧ p ≤ 3 ∧ 64 ≤ (b.length : Int) ∧ (b.length : Int) ≤ 4096) ∧ plP p b s e w ∧ (0 ≤ dr ∧ dr ≤ 1099511627776 ∧ 0 ≤ idr ∧ idr ≤ 1099511627776 ∧ (il.length : Int) ≤ (b.length : Int)) ∧ (rd = true → p = 2) ∧ (rd = false → (il.length : Int) ≤ 0 ∧ idr = 0)
/-- What is not written is 0. -/
def zerP (b : List V) (s e w : Nat) : Prop := if w = 0 then allz (b.take s) ∧ allz (b.drop e) else allz ((b.take s).drop e) ∧ allz (b.drop w)
/-- A buffer is valid. -/
def chkP (p : Int) (b : List V) (s e w dr : Int) (il : List V) (idr : Int) (rd : Bool) : Prop := numP p b s e w dr il idr rd ∧ (recs (subL b s (if w = 0 then e else w))).2 = true ∧ (recs (if w = 0 then [] else subL b 0 e)).2 = true ∧ (recs il).2 = true ∧ zerP b s.toNat e.toNat w.toNat

open Classical in
theorem s57 (p : Int) (b : List V) (s e w dr : Int) (il : List V) (idr : Int) (rd : Bool) : d57 p b s e w dr il idr rd = some (decide (plP p b s e w)) := by
  unfold d57
  refine bnd1 (a := decide (¬ (0 ≤ s ∧ s ≤ (b.length : Int) ∧ 0 ≤ e ∧ e ≤ (b.length : Int) ∧ 0 ≤ w ∧ w ≤ (b.length : Int) ∧ (p ≠ 3 → s = 0)))) ?_ ?_
  · simp only [c_eql, c_neq, c_lss, c_leq, c_gtr, c_geq, lenI, decide_eq_true_eq]
    repeat' split
    all_goals (refine congrArg some ?_; symm; first | (exact dT (by omega)) | (exact dC (by omega)) | (exact dF (by omega)))
  · unfold plP
    simp only [c_eql, c_neq, c_lss, c_leq, c_gtr, c_geq, lenI, decide_eq_true_eq]
    repeat' split
    all_goals (refine congrArg some ?_; symm; first | (exact dT (by omega)) | (exact dC (by omega)) | (exact dF (by omega)))
theorem s29l (il : List V) (x : List V × List V) (r1 r2 r3 : List V × Bool) (h1 : d51 x.1 = some r1) (h2 : d51 x.2 = some r2) (h3 : d51 il = some r3) : iter (d29_b1 il x) 0 = some (if r1.2 = true ∧ r2.2 = true ∧ r3.2 = true then (.inr () : Int ⊕ Unit) else .inl 220) := by
  have q1 : d51 (gL [.sl 5 x.1, .sl 5 x.2, .sl 5 il] 0 0) = some r1 := h1
  have q2 : d51 (gL [.sl 5 x.1, .sl 5 x.2, .sl 5 il] 1 0) = some r2 := h2
  have q3 : d51 (gL [.sl 5 x.1, .sl 5 x.2, .sl 5 il] 2 0) = some r3 := h3
  have e0 : d29_b1 il x 0 = if r1.2 = true then some (.inl 1) else some (.inr (.inl 220)) := by
    unfold d29_b1
    rw [len3, if_pos (by decide), if_pos (by unfold Inb; omega), q1]
    simp only [Option.bind_some]
    cases r1.2 <;> rfl
  have e1 : d29_b1 il x 1 = if r2.2 = true then some (.inl 2) else some (.inr (.inl 220)) := by
    unfold d29_b1
    rw [len3, if_pos (by decide), if_pos (by unfold Inb; omega), q2]
    simp only [Option.bind_some]
    cases r2.2 <;> rfl
  have e2 : d29_b1 il x 2 = if r3.2 = true then some (.inl 3) else some (.inr (.inl 220)) := by
    unfold d29_b1
    rw [len3, if_pos (by decide), if_pos (by unfold Inb; omega), q3]
    simp only [Option.bind_some]
    cases r3.2 <;> rfl
  have e3 : d29_b1 il x 3 = some (.inr (.inr ())) := by
    unfold d29_b1
    rw [len3, if_neg (by decide)]
  by_cases a1 : r1.2 = true
  · rw [if_pos a1] at e0
    rw [iter_inl e0]
    by_cases a2 : r2.2 = true
    · rw [if_pos a2] at e1
      rw [iter_inl e1]
      by_cases a3 : r3.2 = true
      · rw [if_pos a3] at e2
        rw [iter_inl e2, iter_inr e3, if_pos ⟨a1, a2, a3⟩]
      · rw [if_neg a3] at e2
        rw [iter_inr e2, if_neg (fun h => a3 h.2.2)]
    · rw [if_neg a2] at e1
      rw [iter_inr e1, if_neg (fun h => a2 h.2.1)]
  · rw [if_neg a1] at e0
    rw [iter_inr e0, if_neg (fun h => a1 h.1)]
theorem s55 (p : Int) (b : List V) (s e w dr : Int) (il : List V) (idr : Int) (rd : Bool) (h : plP p b s e w) : d55v1 p b s e w dr il idr rd = some (subL b s (if w = 0 then e else w), if w = 0 then [] else subL b 0 e) := by
  unfold plP at h
  unfold d55v1
  by_cases hw : w = 0
  · rw [if_pos (by rw [c_eql]; exact decide_eq_true hw), if_pos (by unfold Bnd; omega), if_pos (by unfold Bnd lenI; omega), if_pos hw, if_pos hw]
  · rw [if_neg (by rw [c_eql]; simp [hw]), if_pos (by unfold Bnd; omega), if_pos (by unfold Bnd lenI; omega), if_pos (by unfold Bnd; omega), if_pos (by unfold Bnd lenI; omega), if_neg hw, if_neg hw]
/-- The bytes of a buffer, what is written cleared. -/
theorem clr (b : List V) (s e w : Nat) (hb : ∀ v ∈ b, U8 v) (hs : s ≤ b.length) (he : e ≤ b.length) (hw : w ≤ b.length) (h1 : w ≠ 0 → s < w ∧ e ≤ s) (h0 : w = 0 → s ≤ e) :
    ∃ c : List V, (if w = 0 then c = ovlReal b (s : Int) (zs (e - s)) else c = ovlReal (ovlReal b (s : Int) (zs (w - s))) 0 (zs e)) ∧ c.length = b.length ∧ (∀ v ∈ c, U8 v) ∧ (allz c ↔ zerP b s e w) := by
  by_cases hw0 : w = 0
  · have := h0 hw0
    refine ⟨_, by rw [if_pos hw0], ?_, ?_, ?_⟩
    all_goals rw [ovl_nat _ _ _ (by rw [zs_len]; omega), zs_len, show s + (e - s) = e by omega]
    · simp [zs_len]; omega
    · intro v hv
      rcases List.mem_append.1 hv with hv | hv
      · rcases List.mem_append.1 hv with hv | hv
        · exact hb v (List.mem_of_mem_take hv)
        · exact zs_u8 _ v hv
      · exact hb v (List.mem_of_mem_drop hv)
    · rw [allz_app, allz_app, zerP, if_pos hw0]
      exact ⟨fun h => ⟨h.1.1, h.2⟩, fun h => ⟨⟨h.1, allz_zs _⟩, h.2⟩⟩
  · obtain ⟨g1, g2⟩ := h1 hw0
    refine ⟨_, by rw [if_neg hw0], ?_, ?_, ?_⟩
    all_goals rw [ovl_nat _ _ _ (by rw [zs_len]; omega), zs_len, show s + (w - s) = w by omega, show (0 : Int) = ((0 : Nat) : Int) from rfl, ovl_nat _ _ _ (by simp [zs_len]; omega), zs_len, List.take_zero, List.nil_append, Nat.zero_add]
    all_goals rw [List.append_assoc, List.drop_append_of_le_length (by simp; omega)]
    · simp [zs_len]; omega
    · intro v hv
      rcases List.mem_append.1 hv with hv | hv
      · exact zs_u8 _ v hv
      · rcases List.mem_append.1 hv with hv | hv
        · exact hb v (List.mem_of_mem_take (List.mem_of_mem_drop hv))
        · rcases List.mem_append.1 hv with hv | hv
          · exact zs_u8 _ v hv
          · exact hb v (List.mem_of_mem_drop hv)
    · rw [allz_app, allz_app, allz_app, zerP, if_neg hw0]
      exact ⟨fun h => ⟨h.2.1, h.2.2.2⟩, fun h => ⟨allz_zs _, h.1, allz_zs _, h.2⟩⟩
open Classical in
theorem s29 (p : Int) (b : List V) (s e w dr : Int) (il : List V) (idr : Int) (rd : Bool) (hb : ∀ v ∈ b, U8 v) (hi : ∀ v ∈ il, U8 v) : d29 p b s e w dr il idr rd = some (if chkP p b s e w dr il idr rd then 0 else 220) := by
  unfold d29
  refine bnd1 (a := decide (¬ ((1 ≤ p ∧ p ≤ 3 ∧ 64 ≤ (b.length : Int) ∧ (b.length : Int) ≤ 4096) ∧ plP p b s e w))) ?_ ?_
  · rw [s57]
    unfold plP
    simp only [Option.bind_some, notB_dec, c_eql, c_neq, c_lss, c_leq, c_gtr, c_geq, lenI, decide_eq_true_eq]
    repeat' split
    all_goals (refine congrArg some ?_; symm; first | (exact dT (by omega)) | (exact dC (by omega)) | (exact dF (by omega)))
  by_cases n1 : (1 ≤ p ∧ p ≤ 3 ∧ 64 ≤ (b.length : Int) ∧ (b.length : Int) ≤ 4096) ∧ plP p b s e w
  rotate_left
  · rw [dT n1, if_pos rfl, if_neg (fun h => n1 ⟨h.1.1, h.1.2.1⟩)]
  refine dif0 (by rw [dF (fun h => h n1)]; decide) ?_
  refine bnd1 (a := decide (¬ (0 ≤ dr ∧ dr ≤ 1099511627776 ∧ 0 ≤ idr ∧ idr ≤ 1099511627776 ∧ (il.length : Int) ≤ (b.length : Int)))) ?_ ?_
  · simp only [c_eql, c_neq, c_lss, c_leq, c_gtr, c_geq, lenI, decide_eq_true_eq]
    repeat' split
    all_goals (refine congrArg some ?_; symm; first | (exact dT (by omega)) | (exact dC (by omega)) | (exact dF (by omega)))
  by_cases n2 : 0 ≤ dr ∧ dr ≤ 1099511627776 ∧ 0 ≤ idr ∧ idr ≤ 1099511627776 ∧ (il.length : Int) ≤ (b.length : Int)
  rotate_left
  · rw [dT n2, if_pos rfl, if_neg (fun h => n2 h.1.2.2.1)]
  refine dif0 (by rw [dF (fun h => h n2)]; decide) ?_
  refine bnd1 (a := decide (¬ ((rd = true → p = 2) ∧ (rd = false → (il.length : Int) ≤ 0 ∧ idr = 0)))) ?_ ?_
  · cases rd
    · refine dif0 Bool.false_ne_true (dif1 (by decide) ?_)
      rw [c_gtr, c_neq]
      by_cases hl : lenI il > 0
      · exact dif1 (dT hl) (congrArg some (dT (fun h => by have := (h.2 rfl).1; unfold lenI at hl; omega)).symm)
      · exact dif0 (by rw [dF hl]; decide) (congrArg some (dC ⟨fun h h2 => h (h2.2 rfl).2, fun h hi => h ⟨fun hh => (by cases hh), fun _ => ⟨by unfold lenI at hl; omega, hi⟩⟩⟩))
    · refine dif1 rfl ?_
      by_cases hp : p = 2
      · exact dif0 (by simp [c_neq, hp]) (dif0 (by decide) (congrArg some (dF (fun h => h ⟨fun _ => hp, fun hh => (by cases hh)⟩)).symm))
      · exact dif1 (by simp [c_neq, hp]) (congrArg some (dT (fun h => hp (h.1 rfl))).symm)
  by_cases n3 : (rd = true → p = 2) ∧ (rd = false → (il.length : Int) ≤ 0 ∧ idr = 0)
  rotate_left
  · rw [dT n3, if_pos rfl, if_neg (fun h => n3 h.1.2.2.2)]
  refine dif0 (by rw [dF (fun h => h n3)]; decide) ?_
  have hn : numP p b s e w dr il idr rd := ⟨n1.1, n1.2, n2, n3⟩
  obtain ⟨n0, hpl⟩ := n1
  have hpl' := hpl
  unfold plP at hpl'
  obtain ⟨S, rfl⟩ : ∃ n : Nat, s = n := ⟨s.toNat, by omega⟩
  obtain ⟨E, rfl⟩ : ∃ n : Nat, e = n := ⟨e.toNat, by omega⟩
  obtain ⟨W, rfl⟩ : ∃ n : Nat, w = n := ⟨w.toNat, by omega⟩
  rw [s54 b (by omega), Option.bind_some]
  obtain ⟨c, hc, cl, cu, cz⟩ := clr b S E W hb (by omega) (by omega) (by omega) (fun h => by omega) (fun h => by omega)
  refine bnd1 (a := c) ?_ ?_
  · by_cases hw : W = 0
    · rw [if_pos hw] at hc
      rw [if_pos (by rw [c_eql]; exact dT (by omega)), if_pos (by unfold Bnd lenI; omega), hc]
      unfold miI
      rw [show ((E : Int) - (S : Int)) = ((E - S : Nat) : Int) by omega, repL_nat]
    · rw [if_neg hw] at hc
      have l1 : lenI (ovlReal b (S : Int) (zs (W - S))) = (b.length : Int) := by
        rw [ovl_nat _ _ _ (by rw [zs_len]; omega)]
        unfold lenI
        simp [zs_len]; omega
      rw [if_neg (by rw [c_eql]; simp; omega)]
      unfold miI
      rw [show ((W : Int) - (S : Int)) = ((W - S : Nat) : Int) by omega, repL_nat, l1, if_pos (by unfold Bnd lenI; omega), if_pos (by unfold Bnd; omega), hc, Int.sub_zero, repL_nat]
  rw [s55 _ _ _ _ _ _ _ _ _ hpl, Option.bind_some]
  have hp1 : ∀ v ∈ subL b (S : Int) (if (W : Int) = 0 then (E : Int) else (W : Int)), U8 v := subL_u8 hb _ _
  have hp2 : ∀ v ∈ (if (W : Int) = 0 then [] else subL b 0 (E : Int)), U8 v := by
    split
    · intro v hv; cases hv
    · exact subL_u8 hb _ _
  have lp1 := subL_len b (S : Int) (if (W : Int) = 0 then (E : Int) else (W : Int))
  have lp2 : (if (W : Int) = 0 then [] else subL b 0 (E : Int)).length ≤ b.length := by
    split
    · simp
    · exact subL_len _ _ _
  have q1 := s51 _ hp1 (by omega)
  have q2 := s51 _ hp2 (by omega)
  have q := s29l il (subL b (S : Int) (if (W : Int) = 0 then (E : Int) else (W : Int)), if (W : Int) = 0 then [] else subL b 0 (E : Int)) _ _ _ q1 q2 (s51 _ hi (by omega))
  rw [q]
  simp only [Option.bind_some]
  by_cases hr : (recs (subL b (S : Int) (if (W : Int) = 0 then (E : Int) else (W : Int)))).2 = true ∧ (recs (if (W : Int) = 0 then [] else subL b 0 (E : Int))).2 = true ∧ (recs il).2 = true
  · rw [if_pos hr]
    simp only [Option.bind_some]
    rw [s58 c cu (by omega)]
    simp only [Option.bind_some, notB_dec, decide_eq_true_eq]
    by_cases hz : allz c
    · rw [if_neg (by simp [hz]), if_pos ⟨hn, hr.1, hr.2.1, hr.2.2, by rw [Int.toNat_natCast, Int.toNat_natCast, Int.toNat_natCast]; exact cz.1 hz⟩]
    · rw [if_pos hz, if_neg (fun h => hz (cz.2 (by have := h.2.2.2.2; rwa [Int.toNat_natCast, Int.toNat_natCast, Int.toNat_natCast] at this)))]
  · rw [if_neg hr]
    simp only [Option.bind_some]
    rw [if_neg (fun h => hr ⟨h.2.1, h.2.2.1, h.2.2.2.1⟩)]
end Go.Proofs.Ytdejapkfijdadaa
end
section
namespace Go.Proofs.Ytdejapkfijdadaa
open Go.Ab Go.RowKit

/-- The size of a record. -/
def rsz (r : Rc) : Nat := 14 + r.2.2.length
def sz : List Rc → Nat
  | [] => 0
  | r :: l => rsz r + sz l
theorem encR1_len (r : Rc) : (encR1 r).length = rsz r := encB_len _ _ _
theorem encAll_len : ∀ l : List Rc, (encAll l).length = sz l
  | [] => rfl
  | r :: l => by simp [encAll, sz, encR1_len, encAll_len l]
theorem sz_app : ∀ a b : List Rc, sz (a ++ b) = sz a + sz b
  | [], b => by simp [sz]
  | r :: a, b => by simp [sz, sz_app a b]; omega
theorem sz_one (r : Rc) : sz [r] = rsz r := by simp [sz]
theorem sz_pos {l : List Rc} (h : l ≠ []) : 14 ≤ sz l := by
  cases l with
  | nil => exact absurd rfl h
  | cons r l => simp [sz, rsz]; omega
theorem okR_sz {r : Rc} (h : okR r) : rsz r ≤ 270 := by
  have := of_decide_eq_true h.1
  unfold rsz
  omega
theorem sz_count : ∀ l : List Rc, 14 * l.length ≤ sz l
  | [] => by simp [sz]
  | r :: l => by
    have := sz_count l
    simp only [sz, rsz, List.length_cons]; omega
/-- A buffer: policy, size, where A begins; A the first part, B the part at the beginning of a buffer that wraps. -/
structure AB where
  p : Int
  n : Nat
  s : Nat
  A : List Rc
  B : List Rc
  wr : Bool
  dr : Int
  I : List Rc
  idr : Int
  rd : Bool
namespace AB
def X (a : AB) : List V := encAll a.B ++ zs (a.s - sz a.B)
def Y (a : AB) : List V := a.X ++ (encAll a.A ++ zs (a.n - a.s - sz a.A))
def S (a : AB) : Int := (a.s : Int)
def e (a : AB) : Nat := if a.wr = true then sz a.B else a.s + sz a.A
def E (a : AB) : Int := (a.e : Int)
def w (a : AB) : Nat := if a.wr = true then a.s + sz a.A else 0
def W (a : AB) : Int := (a.w : Int)
def J (a : AB) : List V := encAll a.I
structure Good (a : AB) : Prop where
  p1 : 1 ≤ a.p ∧ a.p ≤ 3
  n1 : 64 ≤ a.n ∧ a.n ≤ 4096
  okA : ∀ r ∈ a.A, okR r
  okB : ∀ r ∈ a.B, okR r
  okI : ∀ r ∈ a.I, okR r
  dr1 : 0 ≤ a.dr ∧ a.dr ≤ 1099511627776
  id1 : 0 ≤ a.idr ∧ a.idr ≤ 1099511627776
  il : sz a.I ≤ a.n
  rdp : a.rd = true → a.p = 2
  nrd : a.rd = false → a.I = [] ∧ a.idr = 0
  fit : a.s + sz a.A ≤ a.n
  low : sz a.B ≤ a.s
  np : a.p ≠ 3 → a.s = 0 ∧ a.wr = false
  wrA : a.wr = true → a.A ≠ []
  nw : a.wr = false → a.B = [] ∧ (a.A = [] → a.s = 0)
variable {a : AB}
theorem X_len (h : a.Good) : a.X.length = a.s := by
  have := h.low
  unfold X
  simp [encAll_len, zs_len]; omega
theorem Y_len (h : a.Good) : a.Y.length = a.n := by
  have := h.fit
  unfold Y
  simp [X_len h, encAll_len, zs_len]; omega
theorem J_len (a : AB) : a.J.length = sz a.I := encAll_len _
theorem J_u8 (h : a.Good) : ∀ v ∈ a.J, U8 v := encAll_ok h.okI
theorem X_u8 (h : a.Good) : ∀ v ∈ a.X, U8 v := by
  intro v hv
  rcases List.mem_append.1 hv with hv | hv
  · exact encAll_ok h.okB v hv
  · exact zs_u8 _ v hv
theorem Y_u8 (h : a.Good) : ∀ v ∈ a.Y, U8 v := by
  intro v hv
  rcases List.mem_append.1 hv with hv | hv
  · exact X_u8 h v hv
  · rcases List.mem_append.1 hv with hv | hv
    · exact encAll_ok h.okA v hv
    · exact zs_u8 _ v hv
theorem w_zero (h : a.Good) : a.w = 0 ↔ a.wr = false := by
  unfold w
  cases hw : a.wr with
  | false => simp
  | true =>
    have := sz_pos (h.wrA hw)
    simp; omega
theorem part1 (h : a.Good) : subL a.Y a.S (if a.W = 0 then a.E else a.W) = encAll a.A := by
  have e1 : (if a.W = 0 then a.E else a.W) = ((a.s + sz a.A : Nat) : Int) := by
    unfold W E
    cases hw : a.wr with
    | false =>
      have h0 := (w_zero h).2 hw
      rw [h0]; simp [e, hw]
    | true =>
      have h0 : a.w ≠ 0 := fun h' => by have := (w_zero h).1 h'; rw [hw] at this; cases this
      rw [if_neg (by omega)]; simp [w, hw]
  rw [e1]
  unfold S
  rw [subL_nat]
  unfold Y
  have hx := X_len h
  rw [← List.append_assoc, List.take_left' (by rw [List.length_append, encAll_len, hx]), List.drop_left' hx]
theorem part2 (h : a.Good) : (if a.W = 0 then [] else subL a.Y 0 a.E) = encAll a.B := by
  unfold W E
  cases hw : a.wr with
  | false =>
    have h0 := (w_zero h).2 hw
    rw [if_pos (by omega), (h.nw hw).1]; rfl
  | true =>
    have h0 : a.w ≠ 0 := fun h' => by have := (w_zero h).1 h'; rw [hw] at this; cases this
    rw [if_neg (by omega), show (0 : Int) = ((0 : Nat) : Int) from rfl, subL_nat, List.drop_zero]
    unfold Y X e
    rw [if_pos hw, List.append_assoc, List.take_left' (encAll_len _)]
theorem pl (h : a.Good) : plP a.p a.Y a.S a.E a.W := by
  have h1 := Y_len h
  have h2 := h.fit; have h3 := h.low; have h4 := h.np; have h5 := h.n1; have h6 := h.nw; have h7 := h.wrA
  unfold plP S E W e w
  rw [h1]
  cases hw : a.wr with
  | false =>
    obtain ⟨_, g⟩ := h6 hw
    have g' : a.A ≠ [] → 14 ≤ sz a.A := sz_pos
    have g2 : a.A = [] → sz a.A = 0 := fun h => by rw [h]; rfl
    simp only [Bool.false_eq_true, if_false]
    refine ⟨by omega, by omega, by omega, by omega, by omega, by omega, fun hp => by have := (h4 hp).1; omega, fun hf => absurd rfl hf, fun _ => ?_⟩
    by_cases hA : a.A = []
    · right
      have := g hA; have := g2 hA
      omega
    · left
      have := g' hA
      omega
  | true =>
    have g' := sz_pos (h7 hw)
    simp only [if_true]
    refine ⟨by omega, by omega, by omega, by omega, by omega, by omega, fun hp => by have := (h4 hp).1; omega, fun hf => ⟨?_, by omega, by omega⟩, fun _ => by omega⟩
    exact Classical.byContradiction fun hp => by have := (h4 hp).2; rw [hw] at this; cases this
theorem num (h : a.Good) : numP a.p a.Y a.S a.E a.W a.dr a.J a.idr a.rd := by
  have h1 := Y_len h
  have h5 := h.n1; have h8 := h.p1; have h9 := h.dr1; have h10 := h.id1; have h11 := h.il; have h12 := h.nrd
  refine ⟨⟨h8.1, h8.2, by omega, by omega⟩, pl h, ⟨h9.1, h9.2, h10.1, h10.2, ?_⟩, h.rdp, fun hr => ?_⟩
  · rw [J_len, h1]; omega
  · obtain ⟨g1, g2⟩ := h12 hr
    rw [J_len, g1]
    exact ⟨by simp [sz], g2⟩
theorem zer (h : a.Good) : zerP a.Y a.s a.e a.w := by
  have hx := X_len h
  unfold zerP
  by_cases hw : a.w = 0
  · have hwr := (w_zero h).1 hw
    have hB := (h.nw hwr).1
    rw [if_pos hw]
    have e1 : a.e = a.s + sz a.A := by simp [e, hwr]
    rw [e1]
    unfold Y
    constructor
    · rw [List.take_left' hx]
      unfold X
      rw [hB]
      exact allz_zs _
    · rw [← List.append_assoc, List.drop_left' (by rw [List.length_append, encAll_len, hx])]
      exact allz_zs _
  · have hwr : a.wr = true := by
      cases hwr : a.wr with
      | false => exact absurd ((w_zero h).2 hwr) hw
      | true => rfl
    rw [if_neg hw]
    have e1 : a.e = sz a.B := by simp [e, hwr]
    have e2 : a.w = a.s + sz a.A := by simp [w, hwr]
    rw [e1, e2]
    unfold Y
    constructor
    · rw [List.take_left' hx]
      unfold X
      rw [List.drop_left' (encAll_len _)]
      exact allz_zs _
    · rw [← List.append_assoc, List.drop_left' (by rw [List.length_append, encAll_len, hx])]
      exact allz_zs _
theorem chk (h : a.Good) : chkP a.p a.Y a.S a.E a.W a.dr a.J a.idr a.rd := by
  refine ⟨num h, ?_, ?_, ?_, ?_⟩
  · rw [part1 h, recs_all h.okA]
  · rw [part2 h, recs_all h.okB]
  · unfold J; rw [recs_all h.okI]
  · exact zer h
end AB
/-- What is valid is records in places. -/
theorem chk_inv {p : Int} {b : List V} {s e w dr : Int} {il : List V} {idr : Int} {rd : Bool} (hb : ∀ v ∈ b, U8 v) (hi : ∀ v ∈ il, U8 v) (h : chkP p b s e w dr il idr rd) : ∃ a : AB, a.Good ∧ p = a.p ∧ b = a.Y ∧ s = a.S ∧ e = a.E ∧ w = a.W ∧ dr = a.dr ∧ il = a.J ∧ idr = a.idr ∧ rd = a.rd := by
  obtain ⟨⟨n0, hpl, n2, n3, n4⟩, h1, h2, h3, h4⟩ := h
  have hpl' := hpl
  unfold plP at hpl'
  obtain ⟨S, rfl⟩ : ∃ n : Nat, s = n := ⟨s.toNat, by omega⟩
  obtain ⟨E, rfl⟩ : ∃ n : Nat, e = n := ⟨e.toNat, by omega⟩
  obtain ⟨W, rfl⟩ : ∃ n : Nat, w = n := ⟨w.toNat, by omega⟩
  rw [Int.toNat_natCast, Int.toNat_natCast, Int.toNat_natCast] at h4
  obtain ⟨I, okI, _, eI⟩ := recs_of il hi
  obtain ⟨A, okA, _, eA⟩ := recs_of _ (subL_u8 hb (S : Int) (if (W : Int) = 0 then (E : Int) else (W : Int)))
  have eI := eI h3
  have eA := eA h1
  have lI : il.length = sz I := by rw [eI, encAll_len]
  have hrd : rd = false → I = [] ∧ idr = 0 := fun h => by
    obtain ⟨g1, g2⟩ := n4 h
    refine ⟨Classical.byContradiction fun hI => ?_, g2⟩
    have := sz_pos hI
    omega
  by_cases hw : W = 0
  · subst hw
    rw [if_pos (by rfl), subL_nat] at eA
    unfold zerP at h4
    rw [if_pos rfl] at h4
    have lA : sz A = E - S := by rw [← encAll_len, ← eA]; simp; omega
    refine ⟨⟨p, b.length, S, A, [], false, dr, I, idr, rd⟩, ⟨⟨n0.1, n0.2.1⟩, by dsimp only; omega, okA, fun r hr => (by cases hr), okI, ⟨n2.1, n2.2.1⟩, ⟨n2.2.2.1, n2.2.2.2.1⟩, by dsimp only; omega, n3, hrd, by dsimp only; omega, by simp [sz], fun hp => ⟨by have := hpl'.2.2.2.2.2.2.1 hp; dsimp only; omega, rfl⟩, fun h => (by cases h), fun _ => ⟨rfl, fun hA => ?_⟩⟩, rfl, ?_, rfl, ?_, ?_, rfl, eI, rfl, rfl⟩
    · have hA : A = [] := hA
      have : sz A = 0 := by rw [hA]; rfl
      dsimp only; omega
    · unfold AB.Y AB.X
      simp only [encAll, sz, Nat.sub_zero, List.nil_append]
      have e1 := allz_eq h4.1
      have e2 := allz_eq h4.2
      rw [List.length_take, Nat.min_eq_left (by omega)] at e1
      rw [List.length_drop] at e2
      have e3 : b = b.take S ++ ((b.take E).drop S ++ b.drop E) := by
        rw [← List.append_assoc]
        have : b.take S ++ (b.take E).drop S = b.take E := by
          have := List.take_append_drop S (b.take E)
          rwa [List.take_take, Nat.min_eq_left (by omega)] at this
        rw [this, List.take_append_drop]
      rw [show b.length - S - sz A = b.length - E by omega, ← e1, ← e2, ← eA]
      exact e3
    · unfold AB.E AB.e
      simp only [Bool.false_eq_true, if_false]
      omega
    · rfl
  · obtain ⟨B, okB, _, eB⟩ := recs_of (if (W : Int) = 0 then [] else subL b 0 (E : Int)) (by
      split
      · intro v hv; cases hv
      · exact subL_u8 hb _ _)
    have eB := eB h2
    have hw' : ¬ (W : Int) = 0 := by omega
    rw [if_neg hw'] at eA eB
    rw [subL_nat] at eA
    rw [show (0 : Int) = ((0 : Nat) : Int) from rfl, subL_nat, List.drop_zero] at eB
    unfold zerP at h4
    rw [if_neg hw] at h4
    have hq := hpl'.2.2.2.2.2.2.2.1 hw'
    have lA : sz A = W - S := by rw [← encAll_len, ← eA]; simp; omega
    have lB : sz B = E := by rw [← encAll_len, ← eB]; simp; omega
    refine ⟨⟨p, b.length, S, A, B, true, dr, I, idr, rd⟩, ⟨⟨n0.1, n0.2.1⟩, by dsimp only; omega, okA, okB, okI, ⟨n2.1, n2.2.1⟩, ⟨n2.2.2.1, n2.2.2.2.1⟩, by dsimp only; omega, n3, hrd, by dsimp only; omega, by dsimp only; omega, fun hp => absurd hq.1 hp, fun _ hA => ?_, fun h => (by cases h)⟩, rfl, ?_, rfl, ?_, ?_, rfl, eI, rfl, rfl⟩
    · have hA : A = [] := hA
      have : sz A = 0 := by rw [hA]; rfl
      omega
    · unfold AB.Y AB.X
      dsimp only
      have e1 := allz_eq h4.1
      have e2 := allz_eq h4.2
      rw [List.length_drop, List.length_take, Nat.min_eq_left (by omega)] at e1
      rw [List.length_drop] at e2
      have f1 : b.take E ++ (b.take S).drop E = b.take S := by
        have := List.take_append_drop E (b.take S)
        rwa [List.take_take, Nat.min_eq_left (by omega)] at this
      have f2 : b.take S ++ (b.take W).drop S = b.take W := by
        have := List.take_append_drop S (b.take W)
        rwa [List.take_take, Nat.min_eq_left (by omega)] at this
      rw [show b.length - S - sz A = b.length - W by omega, lB, ← e1, ← e2, ← eA, ← eB, f1, ← List.append_assoc, f2, List.take_append_drop]
    · unfold AB.E AB.e
      simp only [if_true]
      omega
    · unfold AB.W AB.w
      simp only [if_true]
      omega
end Go.Proofs.Ytdejapkfijdadaa
end
section
namespace Go.Proofs.Ytdejapkfijdadaa
open Go.Ab Go.RowKit

theorem zs_drop (m k : Nat) : (zs m).drop k = zs (m - k) := List.drop_replicate
theorem ovl_mid (P Q x : List V) (m : Nat) (h : x.length ≤ m) : ovlReal (P ++ (zs m ++ Q)) (P.length : Int) x = P ++ (x ++ (zs (m - x.length) ++ Q)) := by
  rw [ovl_nat _ _ _ (by simp [zs_len]; omega), List.take_left' rfl, ← List.drop_drop, List.drop_left' rfl, List.drop_append_of_le_length (by rw [zs_len]; exact h), zs_drop, List.append_assoc]
theorem ovl_mid2 (P Q x y : List V) (h : y.length = x.length) : ovlReal (P ++ (x ++ Q)) (P.length : Int) y = P ++ (y ++ Q) := by
  rw [ovl_nat _ _ _ (by simp; omega), List.take_left' rfl, ← List.drop_drop, List.drop_left' rfl, h, List.drop_left' rfl, List.append_assoc]
theorem num_enc {r : Rc} (h : okR r) (Q : List V) : numN (((encR1 r ++ Q).drop 12).take 2) = r.2.2.length := by
  have hv := of_decide_eq_true h.1
  have e0 : encR1 r ++ Q = (leB r.1 4 ++ leB r.2.1 8) ++ (leB r.2.2.length 2 ++ (r.2.2 ++ Q)) := by simp [encR1, encB]
  rw [e0, List.drop_left' (by simp [leB_len]), List.take_left' (leB_len _ _), numN_leB]
  exact Nat.mod_eq_of_lt (by omega)
namespace AB
def app (a : AB) (r : Rc) : AB := if a.wr = true then { a with B := a.B ++ [r] } else { a with A := a.A ++ [r] }
def top (a : AB) : Nat := if a.wr = true then a.s else a.n
def emp (a : AB) (dr : Int) : AB := { a with s := 0, A := [], B := [], wr := false, dr := dr }
def old (a : AB) : AB := match a.A with
  | [] => a
  | [_] => { a with s := 0, A := a.B, B := [], wr := false, dr := mnI (a.dr + 1) 1099511627776 }
  | r :: q :: l => { a with s := a.s + rsz r, A := q :: l, dr := mnI (a.dr + 1) 1099511627776 }
def turn (a : AB) : AB := { a with wr := true }
def mu (a : AB) : Nat := 2 * (a.A.length + a.B.length) + (if a.wr = true then 0 else 1)
def ringN : Nat → AB → Rc → AB
  | 0, a, _ => a
  | k + 1, a, r => if a.e + rsz r ≤ a.top then a.app r else if a.wr = true then ringN k a.old r else ringN k a.turn r
def put (a : AB) (r : Rc) : AB × Bool :=
  if a.p = 3 then
    if a.n < rsz r then (a.emp (mnI (a.dr + ((a.A.length + a.B.length : Nat) : Int) + 1) 1099511627776), false)
    else (ringN (a.mu + 1) a r, true)
  else if 0 < a.dr ∨ a.n < a.e + rsz r then ({ a with dr := mnI (a.dr + 1) 1099511627776 }, false)
  else (a.app r, true)
variable {a : AB}
theorem top_le (h : a.Good) : a.top ≤ a.n := by
  have := h.fit
  unfold top
  split <;> omega
theorem e_le (h : a.Good) : a.e ≤ a.top := by
  have := h.fit; have := h.low
  unfold top e
  split <;> omega
theorem mn_ok {x : Int} (h : 0 ≤ x) : 0 ≤ mnI x 1099511627776 ∧ mnI x 1099511627776 ≤ 1099511627776 := by
  unfold mnI
  split <;> omega
theorem e_t (hw : a.wr = true) : a.e = sz a.B := if_pos hw
theorem e_f (hw : a.wr = false) : a.e = a.s + sz a.A := if_neg (by rw [hw]; decide)
theorem top_t (hw : a.wr = true) : a.top = a.s := if_pos hw
theorem top_f (hw : a.wr = false) : a.top = a.n := if_neg (by rw [hw]; decide)
theorem app_t (hw : a.wr = true) (r : Rc) : a.app r = { a with B := a.B ++ [r] } := if_pos hw
theorem app_f (hw : a.wr = false) (r : Rc) : a.app r = { a with A := a.A ++ [r] } := if_neg (by rw [hw]; decide)
theorem app_Y (h : a.Good) (r : Rc) (hf : a.e + rsz r ≤ a.top) : ovlReal a.Y a.E (encR1 r) = (a.app r).Y := by
  have hx := X_len h
  have hlow := h.low
  have hfit := h.fit
  unfold E
  cases hw : a.wr with
  | true =>
    rw [e_t hw, top_t hw] at hf
    rw [e_t hw, app_t hw]
    have e1 : a.Y = encAll a.B ++ (zs (a.s - sz a.B) ++ (encAll a.A ++ zs (a.n - a.s - sz a.A))) := by unfold Y X; rw [List.append_assoc]
    rw [e1, ← encAll_len a.B, ovl_mid _ _ _ _ (by rw [encR1_len, encAll_len]; omega)]
    unfold Y X
    simp only [encAll_app, encAll, List.append_nil, List.append_assoc, sz_app, sz_one, encR1_len, encAll_len]
    rw [show a.s - sz a.B - rsz r = a.s - (sz a.B + rsz r) by omega]
  | false =>
    rw [e_f hw, top_f hw] at hf
    rw [e_f hw, app_f hw]
    have e1 : a.Y = (a.X ++ encAll a.A) ++ (zs (a.n - a.s - sz a.A) ++ []) := by unfold Y; simp
    have e2 : a.s + sz a.A = (a.X ++ encAll a.A).length := by rw [List.length_append, encAll_len, hx]
    rw [e1, e2, ovl_mid _ _ _ _ (by rw [encR1_len]; omega)]
    unfold Y X
    simp only [encAll_app, encAll, List.append_nil, List.append_assoc, sz_app, sz_one, encR1_len, encAll_len]
    rw [show a.n - a.s - sz a.A - rsz r = a.n - a.s - (sz a.A + rsz r) by omega]
theorem app_e (a : AB) (r : Rc) : (a.app r).e = a.e + rsz r := by
  unfold app e
  cases hw : a.wr <;> simp [hw, sz_app, sz_one] <;> omega
theorem app_w (h : a.Good) (r : Rc) : (a.app r).W = a.W := by
  unfold W w app
  cases hw : a.wr <;> simp [hw]
theorem app_good (h : a.Good) {r : Rc} (hr : okR r) (hf : a.e + rsz r ≤ a.top) : (a.app r).Good := by
  have h1 := h.fit; have h2 := h.low; have h3 := h.nw; have h4 := h.wrA; have h5 := h.np
  cases hw : a.wr with
  | true =>
    rw [e_t hw, top_t hw] at hf
    rw [app_t hw]
    exact ⟨h.p1, h.n1, h.okA, fun x hx => by
      rcases List.mem_append.1 hx with hx | hx
      · exact h.okB x hx
      · rw [List.mem_singleton.1 hx]; exact hr, h.okI, h.dr1, h.id1, h.il, h.rdp, h.nrd, h1, by simp only [sz_app, sz_one]; omega, h5, fun _ => h4 hw, fun hh => absurd (hw.symm.trans hh) (by decide)⟩
  | false =>
    rw [e_f hw, top_f hw] at hf
    rw [app_f hw]
    exact ⟨h.p1, h.n1, fun x hx => by
      rcases List.mem_append.1 hx with hx | hx
      · exact h.okA x hx
      · rw [List.mem_singleton.1 hx]; exact hr, h.okB, h.okI, h.dr1, h.id1, h.il, h.rdp, h.nrd, by simp only [sz_app, sz_one]; omega, h2, h5, fun hh => absurd (hw.symm.trans hh) (by decide), fun _ => ⟨(h3 hw).1, fun hh => by simp at hh⟩⟩
theorem emp_Y (a : AB) (dr : Int) : (a.emp dr).Y = zs a.n := by
  unfold Y X emp
  simp [encAll, sz, zs]
theorem emp_good (h : a.Good) {dr : Int} (hd : 0 ≤ dr ∧ dr ≤ 1099511627776) : (a.emp dr).Good :=
  ⟨h.p1, h.n1, fun _ h => by simp [emp] at h, fun _ h => by simp [emp] at h, h.okI, hd, h.id1, h.il, h.rdp, h.nrd, by simp [emp, sz], by simp [emp, sz], fun _ => ⟨rfl, rfl⟩, fun h => by simp [emp] at h, fun _ => ⟨rfl, fun _ => rfl⟩⟩
theorem drop_good (h : a.Good) {dr : Int} (hd : 0 ≤ dr ∧ dr ≤ 1099511627776) : ({ a with dr := dr } : AB).Good :=
  ⟨h.p1, h.n1, h.okA, h.okB, h.okI, hd, h.id1, h.il, h.rdp, h.nrd, h.fit, h.low, h.np, h.wrA, h.nw⟩
theorem turn_good (h : a.Good) (hp : a.p = 3) (hA : a.A ≠ []) (hw : a.wr = false) : a.turn.Good :=
  ⟨h.p1, h.n1, h.okA, h.okB, h.okI, h.dr1, h.id1, h.il, h.rdp, h.nrd, h.fit, h.low, fun h => absurd hp h, fun _ => hA, fun h => by simp [turn] at h⟩
theorem old_good (h : a.Good) (hp : a.p = 3) (hw : a.wr = true) : a.old.Good := by
  have hd := mn_ok (x := a.dr + 1) (by have := h.dr1; omega)
  have h1 := h.fit; have h2 := h.low; have hA := h.wrA hw
  unfold old
  split
  · exact h
  · rename_i r hr
    rw [hr] at h1
    exact ⟨h.p1, h.n1, h.okB, fun x hx => by simp at hx, h.okI, hd, h.id1, h.il, h.rdp, h.nrd, by simp only [sz] at *; omega, by simp [sz], fun hh => absurd hp hh, fun hh => by simp at hh, fun _ => ⟨rfl, fun _ => rfl⟩⟩
  · rename_i r q l hr
    rw [hr] at h1
    exact ⟨h.p1, h.n1, fun x hx => h.okA x (by rw [hr]; exact List.mem_cons_of_mem _ hx), h.okB, h.okI, hd, h.id1, h.il, h.rdp, h.nrd, by simp only [sz] at *; omega, by simp only [sz] at *; omega, fun hh => absurd hp hh, fun _ => by simp, fun hh => by simp [hw] at hh⟩
theorem old_Y (h : a.Good) {r : Rc} {l : List Rc} (hA : a.A = r :: l) : ovlReal a.Y a.S (zs (rsz r)) = a.old.Y := by
  have hx := X_len h
  have hfit := h.fit
  have hlow := h.low
  have e1 : a.Y = a.X ++ (encR1 r ++ (encAll l ++ zs (a.n - a.s - sz a.A))) := by unfold Y; rw [hA]; simp [encAll]
  have q := ovl_mid2 a.X (encAll l ++ zs (a.n - a.s - sz a.A)) (encR1 r) (zs (rsz r)) (by rw [zs_len, encR1_len])
  rw [hx, ← e1] at q
  unfold S
  rw [q]
  clear q e1 hx
  unfold old
  cases l with
  | nil =>
    rw [hA]
    rw [hA] at hfit
    unfold Y X
    simp only [encAll, List.nil_append, sz, Nat.sub_zero, zs, List.replicate_zero, List.append_assoc, List.replicate_append_replicate] at *
    rw [show a.s - sz a.B + (rsz r + (a.n - a.s - (rsz r + 0))) = a.n - sz a.B by omega]
  | cons q l =>
    rw [hA]
    rw [hA] at hfit
    unfold Y X
    simp only [sz] at *
    simp only [List.append_assoc]
    rw [← List.append_assoc (zs (a.s - sz a.B)) (zs (rsz r)), zs_add, show a.s - sz a.B + rsz r = a.s + rsz r - sz a.B by omega, show a.n - a.s - (rsz r + (rsz q + sz l)) = a.n - (a.s + rsz r) - (rsz q + sz l) by omega]
theorem mu_old (h : a.Good) (hw : a.wr = true) : a.old.mu < a.mu := by
  have hA := h.wrA hw
  unfold old mu
  split
  · rename_i e; exact absurd e hA
  · rename_i r hr; simp [hr, hw] <;> omega
  · rename_i r q l hr; simp [hr, hw] <;> omega
theorem mu_turn (hw : a.wr = false) : a.turn.mu < a.mu := by
  unfold turn mu
  simp [hw]
/-- What a write by the policy that keeps the last records does not touch. -/
def Like (a b : AB) : Prop := a.p = b.p ∧ a.n = b.n ∧ a.I = b.I ∧ a.idr = b.idr ∧ a.rd = b.rd
theorem old_like (a : AB) : Like a.old a := by
  unfold old Like
  split <;> exact ⟨rfl, rfl, rfl, rfl, rfl⟩
theorem app_like (a : AB) (r : Rc) : Like (a.app r) a := by
  unfold app Like
  split <;> exact ⟨rfl, rfl, rfl, rfl, rfl⟩
theorem Like.trans {a b c : AB} (h : Like a b) (h' : Like b c) : Like a c := ⟨h.1.trans h'.1, h.2.1.trans h'.2.1, h.2.2.1.trans h'.2.2.1, h.2.2.2.1.trans h'.2.2.2.1, h.2.2.2.2.trans h'.2.2.2.2⟩
theorem fits_empty (h : a.Good) {r : Rc} (hr : rsz r ≤ a.n) (hf : ¬ a.e + rsz r ≤ a.top) (hw : a.wr = false) : a.A ≠ [] := by
  intro hA
  have := (h.nw hw).2 hA
  apply hf
  unfold e top
  simp [hw, hA, sz, this]
  omega
theorem ringN_ok {r : Rc} (hr : okR r) : ∀ (k : Nat) (a : AB), a.Good → a.p = 3 → rsz r ≤ a.n → a.mu < k → (ringN k a r).Good ∧ Like (ringN k a r) a
  | 0, _, _, _, _, h => by omega
  | k + 1, a, h, hp, hn, hk => by
    unfold ringN
    split
    · rename_i hf; exact ⟨app_good h hr hf, app_like a r⟩
    · rename_i hf
      split
      · rename_i hw
        have l := old_like a
        obtain ⟨g1, g2⟩ := ringN_ok hr k a.old (old_good h hp hw) (l.1.trans hp) (by rw [l.2.1]; exact hn) (by have := mu_old h hw; omega)
        exact ⟨g1, g2.trans l⟩
      · rename_i hw
        have hw : a.wr = false := by cases hh : a.wr <;> simp_all
        exact ringN_ok hr k a.turn (turn_good h hp (fits_empty h hn hf hw) hw) hp hn (by have := mu_turn hw; omega)
theorem put_ok {r : Rc} (h : a.Good) (hr : okR r) : (a.put r).1.Good ∧ Like (a.put r).1 a := by
  unfold put
  split
  · rename_i hp
    split
    · exact ⟨emp_good h (mn_ok (by have := h.dr1; omega)), ⟨rfl, rfl, rfl, rfl, rfl⟩⟩
    · exact ringN_ok hr _ _ h hp (by omega) (by omega)
  · rename_i hp
    split
    · exact ⟨drop_good h (mn_ok (by have := h.dr1; omega)), ⟨rfl, rfl, rfl, rfl, rfl⟩⟩
    · rename_i hc
      have hw := (h.np hp).2
      refine ⟨app_good h hr ?_, app_like a r⟩
      unfold top
      rw [if_neg (by rw [hw]; decide)]
      omega
end AB
end Go.Proofs.Ytdejapkfijdadaa
end
section
namespace Go.Proofs.Ytdejapkfijdadaa
open Go.Ab Go.RowKit

theorem s48 (p : Int) (b : List V) (s e w dr : Int) (il : List V) (idr : Int) (rd : Bool) (hb : b.length ≤ 140737488355328) (hi : il.length ≤ 140737488355328) : d48 p b s e w dr il idr rd = some (p, b, s, e, w, dr, il, idr, rd) := by
  unfold d48
  rw [s54 _ hb, s54 _ hi]
  rfl
theorem room40s {n : Int} (h : n ≤ 3000000000000) : Room n 40 := by
  unfold Room
  omega
theorem room1s {n : Int} (h : n ≤ 140737488355328) : Room n 1 := by
  unfold Room
  omega
namespace AB
variable {a : AB}
theorem c29 (h : a.Good) : d29 a.p a.Y a.S a.E a.W a.dr a.J a.idr a.rd = some 0 := by
  rw [s29 _ _ _ _ _ _ _ _ _ (Y_u8 h) (J_u8 h), if_pos (chk h)]
theorem J_small (h : a.Good) : a.J.length ≤ 4096 := by
  have := h.il; have := h.n1
  rw [J_len]; omega
theorem Y_small (h : a.Good) : a.Y.length ≤ 4096 := by
  have := h.n1
  rw [Y_len h]; omega
theorem c48 (h : a.Good) : d48 a.p a.Y a.S a.E a.W a.dr a.J a.idr a.rd = some (a.p, a.Y, a.S, a.E, a.W, a.dr, a.J, a.idr, a.rd) := s48 _ _ _ _ _ _ _ _ _ (by have := Y_small h; omega) (by have := J_small h; omega)
theorem c55 (h : a.Good) : d55v1 a.p a.Y a.S a.E a.W a.dr a.J a.idr a.rd = some (encAll a.A, encAll a.B) := by
  rw [s55 _ _ _ _ _ _ _ _ _ (pl h), part1 h, part2 h]
theorem szA_le (h : a.Good) : sz a.A ≤ 4096 := by
  have := h.fit; have := h.n1; omega
theorem szB_le (h : a.Good) : sz a.B ≤ 4096 := by
  have := h.fit; have := h.n1; have := h.low; omega
/-- The records. -/
def recs (a : AB) : List V := (a.A ++ a.B).map vR
theorem count_le (h : a.Good) : a.A.length + a.B.length ≤ 600 := by
  have := sz_count a.A; have := sz_count a.B; have := szA_le h; have := szB_le h
  omega
theorem rA (h : a.Good) : d51 (encAll a.A) = some (a.A.map vR, true) := by
  rw [s51 _ (encAll_ok h.okA) (by rw [encAll_len]; have := szA_le h; omega), recs_all h.okA]
theorem rB (h : a.Good) : d51 (encAll a.B) = some (a.B.map vR, true) := by
  rw [s51 _ (encAll_ok h.okB) (by rw [encAll_len]; have := szB_le h; omega), recs_all h.okB]
theorem rI (h : a.Good) : d51 a.J = some (a.I.map vR, true) := by
  rw [s51 _ (J_u8 h) (by have := J_small h; omega)]
  unfold J
  rw [recs_all h.okI]
theorem c50 (h : a.Good) : d50v2 a.p a.Y a.S a.E a.W a.dr a.J a.idr a.rd = some a.recs := by
  unfold d50v2
  rw [c55 h]
  simp only [Option.bind_some]
  rw [rA h]
  simp only [Option.bind_some]
  rw [rB h]
  simp only [Option.bind_some]
  have := count_le h
  rw [if_pos (room40s (by simp [lenI, appL]; omega))]
  unfold recs appL
  rw [List.map_append]
theorem W_zero (h : a.Good) : a.W = 0 ↔ a.wr = false := by
  unfold W
  rw [← w_zero h]
  omega
theorem c50p (h : a.Good) : d50v1 a.p a.S a.E a.W a.dr a.idr a.rd a.Y a.J = some a.recs := by
  have hp := pl h
  unfold plP at hp
  have p1 := part1 h
  have p2 := part2 h
  have hc := count_le h
  unfold d50v1 d55v2
  by_cases hw : a.W = 0
  · rw [if_pos hw] at p1 p2
    have p3 : subL a.Y a.S (plI a.S (miI a.E a.S)) = encAll a.A := by
      rw [show plI a.S (miI a.E a.S) = a.E by unfold plI miI; omega]; exact p1
    rw [if_pos (by rw [c_eql]; exact dT hw), if_pos (by unfold Bnd; omega), if_pos (by unfold Bnd lenI; omega)]
    simp only [Option.bind_some, d51p]
    rw [p3, rA h]
    simp only [Option.bind_some]
    rw [p2, rB h]
    simp only [Option.bind_some]
    rw [if_pos (room40s (by simp [lenI, appL]; omega))]
    unfold recs appL
    rw [List.map_append]
  · rw [if_neg hw] at p1 p2
    have p3 : subL a.Y a.S (plI a.S (miI a.W a.S)) = encAll a.A := by
      rw [show plI a.S (miI a.W a.S) = a.W by unfold plI miI; omega]; exact p1
    have p4 : subL a.Y 0 (plI 0 (miI a.E 0)) = encAll a.B := by
      rw [show plI 0 (miI a.E 0) = a.E by unfold plI miI; omega]; exact p2
    rw [if_neg (by rw [c_eql, dF hw]; decide), if_pos (by unfold Bnd; omega), if_pos (by unfold Bnd lenI; omega), if_pos (by unfold Bnd; omega), if_pos (by unfold Bnd lenI; omega)]
    simp only [Option.bind_some, d51p]
    rw [p3, rA h]
    simp only [Option.bind_some]
    rw [p4, rB h]
    simp only [Option.bind_some]
    rw [if_pos (room40s (by simp [lenI, appL]; omega))]
    unfold recs appL
    rw [List.map_append]
theorem c56 (h : a.Good) : d56v1 a.p a.S a.E a.W a.dr a.idr a.rd a.Y a.J = some (zs a.n) := by
  unfold d56v1
  rw [show lenI a.Y = ((a.Y.length : Nat) : Int) from rfl, repL_nat, show (0 : Int) = ((0 : Nat) : Int) from rfl, ovl_nat _ _ _ (by rw [zs_len]; omega), Y_len h, zs_len, List.take_zero, List.nil_append, List.drop_of_length_le (by rw [Y_len h]; omega), List.append_nil]
theorem Ee (a : AB) : a.E = (a.e : Int) := rfl
theorem c68 (h : a.Good) (r : Rc) (hf : a.e + rsz r ≤ a.n) (x1 x2 x3 x5 : Int) (x6 : Bool) (x9 : List V) (x4 : Int) : d68v1 x1 x2 a.E x3 x4 x5 x6 (encR1 r) a.Y x9 = some (((a.e + rsz r : Nat) : Int), ovlReal a.Y a.E (encR1 r)) := by
  have hy := Y_len h
  have hn := h.n1
  unfold d68v1
  have e1 : lenI a.Y = (a.n : Int) := by unfold lenI; rw [hy]
  have e2 : lenI (encR1 r) = (rsz r : Int) := by unfold lenI; rw [encR1_len]
  rw [e1, e2, if_pos (by unfold Bnd; rw [Ee]; omega), i64add (by rw [Ee]; omega) (by rw [Ee]; omega)]
  have e3 : subL (encR1 r) 0 (mnI (rsz r : Int) (miI (a.n : Int) a.E)) = encR1 r := by
    have : mnI (rsz r : Int) (miI (a.n : Int) a.E) = (rsz r : Int) := by
      unfold mnI miI
      rw [Ee, if_neg (by omega)]
    rw [this, show (0 : Int) = ((0 : Nat) : Int) from rfl, subL_nat, List.drop_zero, ← encR1_len, List.take_length]
  rw [e3, Ee]
  push_cast
  rfl
theorem old_e (h : a.Good) (hw : a.wr = true) : a.old.e = a.e := by
  have hA := h.wrA hw
  rw [e_t hw]
  unfold old
  split
  · rename_i hh; exact absurd hh hA
  · unfold e; simp
  · unfold e; simp [hw]
theorem c69 (h : a.Good) (hw : a.wr = true) {r : Rc} {l : List Rc} (hA : a.A = r :: l) (hr : okR r) (x0 x5 : Int) (x6 : Bool) (x8 : List V) : d69v1 x0 a.S a.E a.W a.dr x5 x6 a.Y x8 = some (a.old.S, a.old.W, a.old.dr, a.old.Y) := by
  have hx := X_len h
  have hy := Y_len h
  have hfit := h.fit
  have hn := h.n1
  have hd := h.dr1
  have hsz := okR_sz hr
  have hs14 : 14 ≤ rsz r := by unfold rsz; omega
  have hsA : sz a.A = rsz r + sz l := by rw [hA]; rfl
  have eW : a.W = ((a.s + sz a.A : Nat) : Int) := by unfold W w; rw [if_pos hw]
  have e1 : lenI a.Y = (a.n : Int) := by unfold lenI; rw [hy]
  have t12 : arReal .add .i64 (a.s : Int) 12 = ((a.s + 12 : Nat) : Int) := by rw [i64add (by omega) (by omega)]; push_cast; rfl
  have t14 : arReal .add .i64 (a.s : Int) 14 = ((a.s + 14 : Nat) : Int) := by rw [i64add (by omega) (by omega)]; push_cast; rfl
  have num : subL a.Y ((a.s + 12 : Nat) : Int) (plI ((a.s + 12 : Nat) : Int) (miI ((a.s + 14 : Nat) : Int) ((a.s + 12 : Nat) : Int))) = ((encR1 r ++ (encAll l ++ zs (a.n - a.s - sz a.A))).drop 12).take 2 := by
    rw [show plI ((a.s + 12 : Nat) : Int) (miI ((a.s + 14 : Nat) : Int) ((a.s + 12 : Nat) : Int)) = ((a.s + 14 : Nat) : Int) by unfold plI miI; omega, subL_nat]
    have e2 : a.Y = a.X ++ (encR1 r ++ (encAll l ++ zs (a.n - a.s - sz a.A))) := by unfold Y; rw [hA]; simp [encAll]
    rw [e2, List.drop_take, ← List.drop_drop, List.drop_left' hx, show a.s + 14 - (a.s + 12) = 2 by omega]
  have nu := num_enc hr (encAll l ++ zs (a.n - a.s - sz a.A))
  have hb : ∀ v ∈ ((encR1 r ++ (encAll l ++ zs (a.n - a.s - sz a.A))).drop 12).take 2, ByteV v := by
    intro v hv
    rw [← num] at hv
    exact (subL_u8 (Y_u8 h) _ _ v hv).byte
  unfold d69v1 S
  rw [t12, t14, e1, if_pos (by unfold Bnd; omega), num, s78 _ hb (by simp; omega), nu, w64_small (by unfold rsz at hsz; omega) (by unfold rsz at hsz; omega)]
  simp only [Option.bind_some]
  have t3 : arReal .add .i64 14 ((r.2.2.length : Nat) : Int) = (rsz r : Int) := by rw [i64add (by unfold rsz at hsz; omega) (by unfold rsz at hsz; omega)]; unfold rsz; push_cast; rfl
  have t4 : arReal .add .i64 (a.s : Int) (rsz r : Int) = ((a.s + rsz r : Nat) : Int) := by rw [i64add (by omega) (by omega)]; push_cast; rfl
  have t5 : repL (miI ((a.s + rsz r : Nat) : Int) (a.s : Int)) (.i .u8 0) = zs (rsz r) := by rw [show miI ((a.s + rsz r : Nat) : Int) (a.s : Int) = ((rsz r : Nat) : Int) by unfold miI; omega, repL_nat]
  have t6 := old_Y h hA
  unfold S at t6
  have t7 : arReal .add .i64 a.dr 1 = a.dr + 1 := i64add (by omega) (by omega)
  rw [t3, t4, if_pos (by unfold Bnd; omega), t5, t6]
  unfold d67v1
  simp only [Option.bind_some]
  rw [t7, c_eql, eW]
  cases l with
  | nil =>
    rw [hsA]
    rw [if_pos (dT (by simp [sz]))]
    unfold old
    rw [hA]
    rfl
  | cons q l =>
    have : 14 ≤ sz (q :: l) := sz_pos (by simp)
    rw [if_neg (by rw [dF (by rw [hsA]; omega)]; decide)]
    have o1 : a.old = { a with s := a.s + rsz r, A := q :: l, dr := mnI (a.dr + 1) 1099511627776 } := by unfold old; rw [hA]
    have w2 : a.old.W = ((a.s + sz a.A : Nat) : Int) := by
      rw [o1]
      unfold W w
      rw [if_pos hw, hsA, ← Nat.add_assoc]
    rw [w2, o1]
theorem e_small (h : a.Good) : a.e ≤ 4096 := by
  have := e_le h; have := top_le h; have := h.n1; omega
theorem ring_prog {r : Rc} (hr : okR r) (x5 : Int) (x6 : Bool) (x8 x9 : List V) : ∀ (k : Nat) (a : AB), a.Good → a.p = 3 → rsz r ≤ a.n → x8.length = a.n → a.mu < k → iter (d47v1_b1 a.p x5 x6 (encR1 r) x8 x9) (a.S, a.E, a.W, a.dr, a.Y) = some (true, (ringN k a r).S, (ringN k a r).E, (ringN k a r).W, (ringN k a r).dr, (ringN k a r).Y)
  | 0, _, _, _, _, _, h => by omega
  | k + 1, a, h, hp, hn, hx, hk => by
    have e1 : lenI (encR1 r) = (rsz r : Int) := by unfold lenI; rw [encR1_len]
    have e2 : lenI x8 = (a.n : Int) := by unfold lenI; rw [hx]
    have hsz := okR_sz hr
    have he := e_small h
    have ht := top_le h
    have t1 : arReal .add .i64 a.E (rsz r : Int) = ((a.e + rsz r : Nat) : Int) := by rw [Ee, i64add (by omega) (by omega)]; push_cast; rfl
    -- the test of a round
    have fit : Option.bind (α := Bool) (Option.bind (α := Bool) (if (cmpLit .eql a.W 0) = true then some (cmpLit .leq (arReal .add .i64 a.E (lenI (encR1 r))) (lenI x8)) else some false) fun y56 => if y56 = true then some true else if (cmpLit .neq a.W 0) = true then some (cmpLit .leq (arReal .add .i64 a.E (lenI (encR1 r))) a.S) else some false) some = some (decide (a.e + rsz r ≤ a.top)) := by
      rw [e1, e2, t1, c_eql, c_neq, c_leq, c_leq]
      cases hw : a.wr with
      | false =>
        have w0 := (W_zero h).2 hw
        rw [if_pos (dT w0), top_f hw]
        simp only [Option.bind_some]
        by_cases hf : a.e + rsz r ≤ a.n
        · rw [if_pos (dT (by omega)), dT hf]; rfl
        · rw [if_neg (by rw [dF (by omega)]; decide), dF hf, if_neg (by rw [dF (by simp [w0])]; decide)]; rfl
      | true =>
        have w0 : ¬ a.W = 0 := fun hh => by have := (W_zero h).1 hh; rw [hw] at this; cases this
        rw [if_neg (by rw [dF w0]; decide), top_t hw]
        simp only [Option.bind_some]
        rw [if_neg (by decide), if_pos (dT w0)]
        simp only [Option.bind_some]
        exact congrArg some (dC (by unfold S; omega))
    unfold ringN
    by_cases hf : a.e + rsz r ≤ a.top
    · rw [if_pos hf]
      refine iter_inr ?_
      unfold d47v1_b1
      refine bnd1 (a := true) ?_ ?_
      · have := fit
        rw [dT hf] at this
        simpa using this
      rw [if_pos rfl]
      dsimp only
      rw [c68 h r (by omega)]
      simp only [Option.bind_some]
      rw [app_Y h r hf, app_w h r, Ee (a.app r), app_e]
      have : (a.app r).S = a.S := by unfold app S; split <;> rfl
      rw [this]
      have : (a.app r).dr = a.dr := by unfold app; split <;> rfl
      rw [this]
    · rw [if_neg hf]
      cases hw : a.wr with
      | true =>
        have w0 : ¬ a.W = 0 := fun hh => by have := (W_zero h).1 hh; rw [hw] at this; cases this
        rw [if_pos rfl]
        obtain ⟨q, l, hA⟩ := List.exists_cons_of_ne_nil (h.wrA hw)
        have lk := old_like a
        have ih := ring_prog hr x5 x6 x8 x9 k a.old (old_good h hp hw) (lk.1.trans hp) (by rw [lk.2.1]; exact hn) (by rw [lk.2.1]; exact hx) (by have := mu_old h hw; omega)
        rw [← ih, lk.1]
        refine iter_inl ?_
        unfold d47v1_b1
        refine bnd1 (a := false) ?_ ?_
        · have := fit
          rw [dF hf] at this
          simpa using this
        rw [if_neg (by decide)]
        dsimp only
        rw [if_neg (by rw [c_eql, dF w0]; decide), c69 h hw hA (h.okA q (by rw [hA]; simp))]
        simp only [Option.bind_some]
        rw [Ee a.old, old_e h hw, Ee]
      | false =>
        have w0 := (W_zero h).2 hw
        rw [if_neg (by decide)]
        have hA := fits_empty h hn hf hw
        have ih := ring_prog hr x5 x6 x8 x9 k a.turn (turn_good h hp hA hw) hp hn hx (by have := mu_turn hw; omega)
        rw [← ih]
        refine iter_inl ?_
        unfold d47v1_b1
        refine bnd1 (a := false) ?_ ?_
        · have := fit
          rw [dF hf] at this
          simpa using this
        rw [if_neg (by decide)]
        dsimp only
        rw [if_pos (by rw [c_eql, dT w0])]
        have g1 : a.turn.E = 0 := by
          rw [Ee, e_t rfl]
          show ((sz a.B : Nat) : Int) = 0
          rw [(h.nw hw).1]; rfl
        have g2 : a.turn.W = a.E := by
          rw [Ee, e_f hw]
          rfl
        rw [g1, g2]
        rfl
end AB
end Go.Proofs.Ytdejapkfijdadaa
end
section
namespace Go.Proofs.Ytdejapkfijdadaa
open Go.Ab Go.RowKit

/-- What is no valid buffer: no function but Same says more of it than the error. -/
def nvP (p : Int) (b : List V) (s e w dr : Int) (il : List V) (idr : Int) (rd : Bool) : Prop := (∀ v ∈ b, U8 v) ∧ (∀ v ∈ il, U8 v) ∧ ¬ chkP p b s e w dr il idr rd
theorem b29 {p : Int} {b : List V} {s e w dr : Int} {il : List V} {idr : Int} {rd : Bool} (h : nvP p b s e w dr il idr rd) : d29 p b s e w dr il idr rd = some 220 := by
  rw [s29 _ _ _ _ _ _ _ _ _ h.1 h.2.1, if_neg h.2.2]
/-- A buffer is records in places, or no valid buffer. -/
theorem good_or (p : Int) (b : List V) (s e w dr : Int) (il : List V) (idr : Int) (rd : Bool) (hb : ∀ v ∈ b, U8 v) (hi : ∀ v ∈ il, U8 v) : (∃ a : AB, a.Good ∧ p = a.p ∧ b = a.Y ∧ s = a.S ∧ e = a.E ∧ w = a.W ∧ dr = a.dr ∧ il = a.J ∧ idr = a.idr ∧ rd = a.rd) ∨ nvP p b s e w dr il idr rd := by
  by_cases h : chkP p b s e w dr il idr rd
  · exact .inl (chk_inv hb hi h)
  · exact .inr ⟨hb, hi, h⟩
theorem s49r {r : Rc} (h : okR r) : d49 r.1 r.2.1 r.2.2 = some (encR1 r) := s49 _ _ _ (by have := of_decide_eq_true h.1; omega)
namespace AB
variable {a : AB}
theorem c46 (h : a.Good) (hp : a.p ≠ 3) {r : Rc} (hr : okR r) : d46v1 a.p a.S a.E a.W a.dr a.idr a.rd (encR1 r) a.Y a.J = some ((a.put r).2, (a.put r).1.E, (a.put r).1.dr, (a.put r).1.Y) ∧ (a.put r).1.S = a.S ∧ (a.put r).1.W = a.W := by
  have hd := h.dr1
  have hsz := okR_sz hr
  have he := e_small h
  have hw := (h.np hp).2
  have e1 : lenI (encR1 r) = (rsz r : Int) := by unfold lenI; rw [encR1_len]
  have e2 : lenI a.Y = (a.n : Int) := by unfold lenI; rw [Y_len h]
  have t1 : arReal .add .i64 a.E (rsz r : Int) = ((a.e + rsz r : Nat) : Int) := by rw [Ee, i64add (by omega) (by omega)]; push_cast; rfl
  have t7 : arReal .add .i64 a.dr 1 = a.dr + 1 := i64add (by omega) (by omega)
  unfold put
  rw [if_neg hp]
  unfold d46v1 d67v1
  rw [e1, e2, t1, t7, c_gtr, c_gtr]
  by_cases h0 : 0 < a.dr
  · rw [if_pos (dT (by omega)), if_pos (.inl h0)]
    exact ⟨rfl, rfl, rfl⟩
  · rw [if_neg (by rw [dF (by omega)]; decide)]
    by_cases hf : a.n < a.e + rsz r
    · rw [if_pos (dT (by omega)), if_pos (.inr hf)]
      exact ⟨rfl, rfl, rfl⟩
    · rw [if_neg (by rw [dF (by omega)]; decide), if_neg (by omega), c68 h r (by omega)]
      simp only [Option.bind_some]
      rw [app_Y h r (by rw [top_f hw]; omega), Ee (a.app r), app_e]
      refine ⟨?_, ?_, app_w h r⟩
      · rw [app_f hw]
      · rw [app_f hw]; rfl
theorem c47 (h : a.Good) (hp : a.p = 3) {r : Rc} (hr : okR r) : d47v1 a.p a.S a.E a.W a.dr a.idr a.rd (encR1 r) a.Y a.J = some ((a.put r).2, (a.put r).1.S, (a.put r).1.E, (a.put r).1.W, (a.put r).1.dr, (a.put r).1.Y) := by
  have hd := h.dr1
  have hsz := okR_sz hr
  have hc := count_le h
  have e1 : lenI (encR1 r) = (rsz r : Int) := by unfold lenI; rw [encR1_len]
  have e2 : lenI a.Y = (a.n : Int) := by unfold lenI; rw [Y_len h]
  unfold put
  rw [if_pos hp]
  unfold d47v1
  rw [e1, e2, c_gtr]
  by_cases hn : a.n < rsz r
  · rw [if_pos (dT (by omega)), if_pos hn, c50p h]
    simp only [Option.bind_some]
    rw [c56 h]
    simp only [Option.bind_some]
    unfold d67v1
    simp only [Option.bind_some]
    have e3 : lenI a.recs = ((a.A.length + a.B.length : Nat) : Int) := by unfold lenI recs; rw [List.length_map, List.length_append]
    have t1 : arReal .add .i64 a.dr ((a.A.length + a.B.length : Nat) : Int) = a.dr + ((a.A.length + a.B.length : Nat) : Int) := i64add (by omega) (by omega)
    have t2 : arReal .add .i64 (a.dr + ((a.A.length + a.B.length : Nat) : Int)) 1 = a.dr + ((a.A.length + a.B.length : Nat) : Int) + 1 := i64add (by omega) (by omega)
    have t3 : arReal .add .i64 0 (a.dr + ((a.A.length + a.B.length : Nat) : Int) + 1) = a.dr + ((a.A.length + a.B.length : Nat) : Int) + 1 := by rw [i64add (by omega) (by omega), Int.zero_add]
    rw [e3, t1, t2, t3, emp_Y]
    have g0 : ∀ x : Int, (a.emp x).S = 0 ∧ (a.emp x).E = 0 ∧ (a.emp x).W = 0 ∧ (a.emp x).dr = x := fun x => ⟨rfl, rfl, rfl, rfl⟩
    obtain ⟨g1, g2, g3, g4⟩ := g0 (mnI (a.dr + ((a.A.length + a.B.length : Nat) : Int) + 1) 1099511627776)
    rw [g1, g2, g3, g4]
  · rw [if_neg (by rw [dF (by omega)]; decide), if_neg hn, ring_prog hr _ _ _ _ (a.mu + 1) a h hp (by omega) (Y_len h) (by omega)]
    rfl
theorem Like.J {a b : AB} (h : Like a b) : a.J = b.J := by unfold AB.J; rw [h.2.2.1]
theorem p_cases (h : a.Good) : a.p = 1 ∨ a.p = 2 ∨ a.p = 3 := by
  have := h.p1; omega
theorem c16 (h : a.Good) {r : Rc} (hr : okR r) : d16 a.p a.Y a.S a.E a.W a.dr a.J a.idr a.rd r.1 r.2.1 r.2.2 = some ((a.put r).1.p, (a.put r).1.Y, (a.put r).1.S, (a.put r).1.E, (a.put r).1.W, (a.put r).1.dr, (a.put r).1.J, (a.put r).1.idr, (a.put r).1.rd, (a.put r).2, 0) := by
  have lk := (put_ok h hr).2
  have hv : d45 r.1 r.2.1 r.2.2 = some true := by rw [s45]; exact congrArg some hr.1
  unfold d16
  rw [c29 h]
  simp only [Option.bind_some]
  rw [if_neg (by decide), hv]
  simp only [Option.bind_some]
  rw [if_neg (by decide), c48 h]
  simp only [Option.bind_some]
  rw [lk.1, lk.J, lk.2.2.2.1, lk.2.2.2.2, c_eql, c_eql, c_eql]
  rcases p_cases h with hp | hp | hp
  · have hp3 : a.p ≠ 3 := by omega
    obtain ⟨g1, g2, g3⟩ := c46 h hp3 hr
    rw [if_pos (dT hp), s49r hr]
    simp only [Option.bind_some]
    rw [g1]
    simp only [Option.bind_some]
    rw [g2, g3]
  · have hp3 : a.p ≠ 3 := by omega
    obtain ⟨g1, g2, g3⟩ := c46 h hp3 hr
    rw [if_neg (by rw [dF (by omega)]; decide), if_pos (dT hp), s49r hr]
    simp only [Option.bind_some]
    rw [g1]
    simp only [Option.bind_some]
    rw [g2, g3]
  · have g := c47 h hp hr
    rw [if_neg (by rw [dF (by omega)]; decide), if_neg (by rw [dF (by omega)]; decide), if_pos (dT hp), s49r hr]
    simp only [Option.bind_some]
    rw [g]
    simp only [Option.bind_some]
theorem x16 (h : a.Good) {id t : Int} {d : List V} (hr : validB id t d = false) : d16 a.p a.Y a.S a.E a.W a.dr a.J a.idr a.rd id t d = some (0, [], 0, 0, 0, 0, [], 0, false, false, 221) := by
  have hv : d45 id t d = some false := by rw [s45]; exact congrArg some hr
  unfold d16
  rw [c29 h]
  simp only [Option.bind_some]
  rw [if_neg (by decide), hv]
  rfl
theorem c17 (h : a.Good) : d17 a.p a.Y a.S a.E a.W a.dr a.J a.idr a.rd = some (a.recs, 0) := by
  unfold d17
  rw [c29 h]
  simp only [Option.bind_some]
  rw [if_neg (by decide), c50 h]
  rfl
/-- A buffer behind Switch. -/
def sw (a : AB) : AB := { a.emp 0 with I := a.A, idr := a.dr, rd := true }
theorem sw_good (h : a.Good) (hp : a.p = 2) : a.sw.Good :=
  ⟨h.p1, h.n1, fun _ h => by simp [sw, emp] at h, fun _ h => by simp [sw, emp] at h, h.okA, ⟨by simp [sw, emp], by simp [sw, emp]⟩, h.dr1, by have := h.fit; show sz a.A ≤ a.n; omega, fun _ => hp, fun h => by simp [sw] at h, by simp [sw, emp, sz], by simp [sw, emp, sz], fun _ => ⟨rfl, rfl⟩, fun h => by simp [sw, emp] at h, fun _ => ⟨rfl, fun _ => rfl⟩⟩
theorem c25 (h : a.Good) : d25 a.p a.Y a.S a.E a.W a.dr a.J a.idr a.rd = some (if a.p ≠ 2 then (0, [], 0, 0, 0, 0, [], 0, false, 1) else if a.rd = true then (0, [], 0, 0, 0, 0, [], 0, false, 222) else (a.sw.p, a.sw.Y, a.sw.S, a.sw.E, a.sw.W, a.sw.dr, a.sw.J, a.sw.idr, a.sw.rd, 0)) := by
  unfold d25
  rw [c29 h]
  simp only [Option.bind_some]
  rw [if_neg (by decide), c_neq]
  by_cases hp : a.p ≠ 2
  · rw [if_pos (dT hp), if_pos hp]
  · rw [if_neg (by rw [dF hp]; decide), if_neg hp]
    cases hr : a.rd with
    | true => rfl
    | false =>
      rw [if_neg (by decide), if_neg (by decide)]
      have hB : encAll a.B = [] := by
        have hw := (h.np (by omega)).2
        rw [(h.nw hw).1]; rfl
      rw [← hr, c48 h]
      simp only [Option.bind_some]
      rw [c55 h]
      simp only [Option.bind_some]
      rw [s54 _ (by rw [encAll_len]; have := szA_le h; omega)]
      simp only [Option.bind_some]
      unfold d56v1
      simp only [Option.bind_some]
      rw [show lenI a.Y = ((a.Y.length : Nat) : Int) from rfl, repL_nat, show ovlReal a.Y 0 (zs a.Y.length) = zs a.n by
        rw [show (0 : Int) = ((0 : Nat) : Int) from rfl, ovl_nat _ _ _ (by rw [zs_len]; omega), Y_len h, zs_len, List.take_zero, List.nil_append, List.drop_of_length_le (by rw [Y_len h]; omega), List.append_nil]]
      have : a.sw.Y = zs a.n := emp_Y a 0
      rw [this]
      rfl
theorem c25_ok (h : a.Good) (hp : a.p = 2) (hr : a.rd = false) : d25 a.p a.Y a.S a.E a.W a.dr a.J a.idr a.rd = some (a.sw.p, a.sw.Y, a.sw.S, a.sw.E, a.sw.W, a.sw.dr, a.sw.J, a.sw.idr, a.sw.rd, 0) := by
  rw [c25 h, if_neg (fun h => h hp), if_neg (by rw [hr]; decide)]
theorem c25_idle (h : a.Good) (hp : a.p = 2) (hr : a.rd = true) : d25 a.p a.Y a.S a.E a.W a.dr a.J a.idr a.rd = some (0, [], 0, 0, 0, 0, [], 0, false, 222) := by
  rw [c25 h, if_neg (fun h => h hp), if_pos hr]
theorem c25_arg (h : a.Good) (hp : a.p ≠ 2) : d25 a.p a.Y a.S a.E a.W a.dr a.J a.idr a.rd = some (0, [], 0, 0, 0, 0, [], 0, false, 1) := by
  rw [c25 h, if_pos hp]
/-- A buffer behind Read. -/
def rdd (a : AB) : AB := { a with I := [], idr := 0, rd := false }
theorem rdd_good (h : a.Good) : a.rdd.Good :=
  ⟨h.p1, h.n1, h.okA, h.okB, fun _ h => by simp [rdd] at h, h.dr1, ⟨by simp [rdd], by simp [rdd]⟩, by simp [rdd, sz], fun h => by simp [rdd] at h, fun _ => ⟨rfl, rfl⟩, h.fit, h.low, h.np, h.wrA, h.nw⟩
theorem c26 (h : a.Good) : d26 a.p a.Y a.S a.E a.W a.dr a.J a.idr a.rd = some (if a.p ≠ 2 then (0, [], 0, 0, 0, 0, [], 0, false, [], 0, 1) else if a.rd = false then (0, [], 0, 0, 0, 0, [], 0, false, [], 0, 3) else (a.rdd.p, a.rdd.Y, a.rdd.S, a.rdd.E, a.rdd.W, a.rdd.dr, a.rdd.J, a.rdd.idr, a.rdd.rd, a.I.map vR, a.idr, 0)) := by
  unfold d26
  rw [c29 h]
  simp only [Option.bind_some]
  rw [if_neg (by decide), c_neq]
  by_cases hp : a.p ≠ 2
  · rw [if_pos (dT hp), if_pos hp]
  · rw [if_neg (by rw [dF hp]; decide), if_neg hp]
    cases hr : a.rd with
    | false => rfl
    | true =>
      rw [if_neg (by decide), if_neg (by decide), ← hr, rI h]
      simp only [Option.bind_some]
      rw [c48 h]
      rfl
theorem c26_ok (h : a.Good) (hp : a.p = 2) (hr : a.rd = true) : d26 a.p a.Y a.S a.E a.W a.dr a.J a.idr a.rd = some (a.rdd.p, a.rdd.Y, a.rdd.S, a.rdd.E, a.rdd.W, a.rdd.dr, a.rdd.J, a.rdd.idr, a.rdd.rd, a.I.map vR, a.idr, 0) := by
  rw [c26 h, if_neg (fun h => h hp), if_neg (by rw [hr]; decide)]
theorem c26_none (h : a.Good) (hp : a.p = 2) (hr : a.rd = false) : d26 a.p a.Y a.S a.E a.W a.dr a.J a.idr a.rd = some (0, [], 0, 0, 0, 0, [], 0, false, [], 0, 3) := by
  rw [c26 h, if_neg (fun h => h hp), if_pos hr]
theorem c26_arg (h : a.Good) (hp : a.p ≠ 2) : d26 a.p a.Y a.S a.E a.W a.dr a.J a.idr a.rd = some (0, [], 0, 0, 0, 0, [], 0, false, [], 0, 1) := by
  rw [c26 h, if_pos hp]
theorem c27 (h : a.Good) : d27 a.p a.Y a.S a.E a.W a.dr a.J a.idr a.rd = some (a.I.map vR, a.idr, 0) := by
  unfold d27
  rw [c29 h]
  simp only [Option.bind_some]
  rw [if_neg (by decide), rI h]
  rfl
theorem c28 (h : a.Good) : d28 a.p a.Y a.S a.E a.W a.dr a.J a.idr a.rd = some ((a.emp 0).p, (a.emp 0).Y, (a.emp 0).S, (a.emp 0).E, (a.emp 0).W, (a.emp 0).dr, (a.emp 0).J, (a.emp 0).idr, (a.emp 0).rd, a.recs, a.dr, 0) := by
  unfold d28
  rw [c29 h]
  simp only [Option.bind_some]
  rw [if_neg (by decide), c48 h]
  simp only [Option.bind_some]
  rw [c56 h]
  simp only [Option.bind_some]
  rw [c50 h]
  simp only [Option.bind_some]
  rw [emp_Y]
  rfl
/-- How large a record may be that is stored without another one being removed. -/
def free (a : AB) : Int := if a.p ≠ 3 ∧ a.dr ≠ 0 then 0 else if a.wr = true then (a.s : Int) - a.e else if a.p = 3 then mxI ((a.n : Int) - a.e) a.s else (a.n : Int) - a.e
theorem c30 (h : a.Good) : d30 a.p a.Y a.S a.E a.W a.dr a.J a.idr a.rd = some (a.free, 0) := by
  have he := e_small h
  have hn := h.n1
  have hf := h.fit
  have e2 : lenI a.Y = (a.n : Int) := by unfold lenI; rw [Y_len h]
  unfold d30
  rw [c29 h]
  simp only [Option.bind_some]
  rw [if_neg (by decide)]
  refine bnd1 (a := decide (a.p ≠ 3 ∧ a.dr ≠ 0)) ?_ ?_
  · rw [c_neq, c_neq]
    by_cases hp : a.p ≠ 3
    · rw [if_pos (dT hp)]; exact congrArg some (dC ⟨fun h => ⟨hp, h⟩, fun h => h.2⟩)
    · rw [if_neg (by rw [dF hp]; decide)]; exact congrArg some (dF (fun h => hp h.1)).symm
  unfold free
  by_cases hc : a.p ≠ 3 ∧ a.dr ≠ 0
  · rw [if_pos (dT hc), if_pos hc]
  · rw [if_neg (by rw [dF hc]; decide), if_neg hc, c_neq, c_eql, e2]
    have t1 : arReal .sub .i64 a.S a.E = (a.s : Int) - a.e := by rw [Ee]; unfold S; exact i64sub (by omega) (by omega)
    have t2 : arReal .sub .i64 (a.n : Int) a.E = (a.n : Int) - a.e := by rw [Ee]; exact i64sub (by omega) (by omega)
    rw [t1, t2]
    cases hw : a.wr with
    | true =>
      have w0 : ¬ a.W = 0 := fun hh => by have := (W_zero h).1 hh; rw [hw] at this; cases this
      rw [if_pos (dT w0), if_pos rfl]
    | false =>
      have w0 := (W_zero h).2 hw
      rw [if_neg (by rw [dF (by simp [w0])]; decide)]
      by_cases hp : a.p = 3
      · rw [if_pos (dT hp), if_neg Bool.false_ne_true, if_pos hp]; rfl
      · rw [if_neg (by rw [dF hp]; decide), if_neg Bool.false_ne_true, if_neg hp]
end AB
section
variable {p : Int} {b : List V} {s e w dr : Int} {il : List V} {idr : Int} {rd : Bool}
theorem b16 (h : nvP p b s e w dr il idr rd) (id t : Int) (d : List V) : d16 p b s e w dr il idr rd id t d = some (0, [], 0, 0, 0, 0, [], 0, false, false, 220) := by
  unfold d16; rw [b29 h]; rfl
theorem b17 (h : nvP p b s e w dr il idr rd) : d17 p b s e w dr il idr rd = some ([], 220) := by
  unfold d17; rw [b29 h]; rfl
theorem b25 (h : nvP p b s e w dr il idr rd) : d25 p b s e w dr il idr rd = some (0, [], 0, 0, 0, 0, [], 0, false, 220) := by
  unfold d25; rw [b29 h]; rfl
theorem b26 (h : nvP p b s e w dr il idr rd) : d26 p b s e w dr il idr rd = some (0, [], 0, 0, 0, 0, [], 0, false, [], 0, 220) := by
  unfold d26; rw [b29 h]; rfl
theorem b28 (h : nvP p b s e w dr il idr rd) : d28 p b s e w dr il idr rd = some (0, [], 0, 0, 0, 0, [], 0, false, [], 0, 220) := by
  unfold d28; rw [b29 h]; rfl
theorem b30 (h : nvP p b s e w dr il idr rd) : d30 p b s e w dr il idr rd = some (0, 220) := by
  unfold d30; rw [b29 h]; rfl
end
theorem s31 (id t : Int) (d : List V) : d31 id t d = some (if validB id t d = true then (((14 + d.length : Nat) : Int), 0) else (0, 221)) := by
  unfold d31
  rw [s45]
  simp only [Option.bind_some]
  show (if notB' (validB id t d) = true then _ else _) = _
  cases h : validB id t d
  · rfl
  · have := of_decide_eq_true h
    rw [if_neg (by decide), if_pos rfl, i64add (by unfold lenI; omega) (by unfold lenI; omega)]
    unfold lenI
    push_cast; rfl
/-- New: an empty buffer. -/
def newA (p : Int) (n : Nat) : AB := ⟨p, n, 0, [], [], false, 0, [], 0, false⟩
theorem new_good {p : Int} {n : Nat} (hp : 1 ≤ p ∧ p ≤ 3) (hn : 64 ≤ n ∧ n ≤ 4096) : (newA p n).Good :=
  ⟨hp, hn, fun _ h => by simp [newA] at h, fun _ h => by simp [newA] at h, fun _ h => by simp [newA] at h, ⟨by simp [newA], by simp [newA]⟩, ⟨by simp [newA], by simp [newA]⟩, by simp [newA, sz], fun h => by simp [newA] at h, fun _ => ⟨rfl, rfl⟩, by simp [newA, sz], by simp [newA, sz], fun _ => ⟨rfl, rfl⟩, fun h => by simp [newA] at h, fun _ => ⟨rfl, fun _ => rfl⟩⟩
theorem s15 (p n : Int) (hn : ¬ (p < 1 ∨ p > 3 ∨ n < 64 ∨ n > 4096)) : d15 p n = some ((newA p n.toNat).p, (newA p n.toNat).Y, (newA p n.toNat).S, (newA p n.toNat).E, (newA p n.toNat).W, (newA p n.toNat).dr, (newA p n.toNat).J, (newA p n.toNat).idr, (newA p n.toNat).rd, 0) := by
  unfold d15
  refine bnd1 (a := false) ?_ ?_
  · rw [c_lss, c_gtr, c_lss, c_gtr, if_neg (by rw [dF (by omega)]; decide), if_neg (by rw [dF (by omega)]; decide), if_neg (by rw [dF (by omega)]; decide), dF (by omega)]
  · rw [if_neg (by decide), if_pos (by unfold Ge0; omega), if_pos (room1s (by omega))]
    obtain ⟨m, rfl⟩ : ∃ m : Nat, n = m := ⟨n.toNat, by omega⟩
    rw [repL_nat, Int.toNat_natCast]
    have : (newA p m).Y = zs m := by simp [newA, AB.Y, AB.X, encAll, sz, zs]
    rw [this]
    rfl
theorem x15 (p n : Int) (hn : p < 1 ∨ p > 3 ∨ n < 64 ∨ n > 4096) : d15 p n = some (0, [], 0, 0, 0, 0, [], 0, false, 1) := by
  unfold d15
  refine bnd1 (a := true) ?_ ?_
  · simp only [c_eql, c_neq, c_lss, c_leq, c_gtr, c_geq, decide_eq_true_eq]
    repeat' split
    all_goals first | rfl | exact congrArg some (dT (by omega))
  · rw [if_pos rfl]
end Go.Proofs.Ytdejapkfijdadaa
end
section
namespace Go.Proofs.Ytdejapkfijdadaa
open Go.Ab Go.RowKit

theorem g_0 (rs : List Rc) (i : Nat) (h : i < rs.length) : gI (rs.map vR) (i : Int) 0 = rs[i].1 := by
  unfold gI elAt
  simp [List.getD_eq_getElem?_getD, h, vR, recV, cellAt, Ab.asInt]
theorem g_1 (rs : List Rc) (i : Nat) (h : i < rs.length) : gI (rs.map vR) (i : Int) 1 = rs[i].2.1 := by
  unfold gI elAt
  simp [List.getD_eq_getElem?_getD, h, vR, recV, cellAt, Ab.asInt]
theorem g_2 (rs : List Rc) (i : Nat) (h : i < rs.length) : gL (rs.map vR) (i : Int) 2 = rs[i].2.2 := by
  unfold gL elAt
  simp [List.getD_eq_getElem?_getD, h, vR, recV, cellAt, listOf]
theorem scmp_refl (s : ByteArray) : strCmp .eql s s = true := by simp [strCmp]
theorem scmp_refl' (s : ByteArray) : strCmp .neq s s = false := by simp [strCmp]
theorem s37 (id t : Int) (d : List V) : d37 id t d id t d = some true := by
  unfold d37
  rw [c_eql, c_eql, if_pos (dT rfl), if_pos (dT rfl), scmp_refl]
theorem s18 (l : List V) (hl : l.length ≤ 1000000000000) : d18 l l = some true := by
  have hI : iter (d18_b1 l l) 0 = some (.inr () : Bool ⊕ Unit) := by
    refine iter_fun (fun s => ∃ i : Nat, i ≤ l.length ∧ s = (i : Int)) (fun s => (l.length - s).toNat) (fun _ => _) ?_ _ ⟨0, by omega, rfl⟩
    rintro s ⟨i, hi, rfl⟩
    by_cases hlt : i < l.length
    · left
      refine ⟨((i + 1 : Nat) : Int), ?_, ⟨i + 1, by omega, rfl⟩, by simp; omega, rfl⟩
      unfold d18_b1
      rw [if_pos (by rw [c_lss]; exact dT (by unfold lenI; omega)), if_pos (by unfold Inb lenI; omega), if_pos (by unfold Inb lenI; omega), s37]
      simp only [Option.bind_some]
      rw [if_neg (by decide), i64add (by omega) (by omega)]
      push_cast; rfl
    · right
      unfold d18_b1
      rw [if_neg (by rw [c_lss, dF (by unfold lenI; omega)]; decide)]
  unfold d18
  rw [if_neg (by rw [c_neq, dF (by simp)]; decide), hI]
  rfl
open Classical in
open Classical in
theorem beq_refl (b : Bool) : beqB b b = true := by cases b <;> rfl
end Go.Proofs.Ytdejapkfijdadaa
end
section
namespace Go.Proofs.Ytdejapkfijdadaa
open Go.Ab Go.RowKit
set_option maxRecDepth 100000
noncomputable def d14_b2 (s135 : Int × Int × Int × List V × Int × Int × Int × Int × List V × Int × Bool) : Option ((Int × Int × Int × List V × Int × Int × Int × Int × List V × Int × Bool) ⊕ ((Bool) ⊕ (Int × Int × List V × Int × Int × Int × Int × List V × Int × Bool))) :=
  if (cmpLit .lss s135.2.1 5) = true then
    (d16 s135.2.2.1 s135.2.2.2.1 s135.2.2.2.2.1 s135.2.2.2.2.2.1 s135.2.2.2.2.2.2.1 s135.2.2.2.2.2.2.2.1 s135.2.2.2.2.2.2.2.2.1 s135.2.2.2.2.2.2.2.2.2.1 s135.2.2.2.2.2.2.2.2.2.2 (arReal .add .i64 s135.2.1 1) 0 [.i .u8 1, .i .u8 2]).bind fun x140 =>
    if (cmpLit .neq x140.2.2.2.2.2.2.2.2.2.2 0) = true then
      some (.inr (.inl false))
    else
      if x140.2.2.2.2.2.2.2.2.2.1 = true then
        some (.inl ((arReal .add .i64 s135.1 1), (arReal .add .i64 s135.2.1 1), x140.1, x140.2.1, x140.2.2.1, x140.2.2.2.1, x140.2.2.2.2.1, x140.2.2.2.2.2.1, x140.2.2.2.2.2.2.1, x140.2.2.2.2.2.2.2.1, x140.2.2.2.2.2.2.2.2.1))
      else
        some (.inl (s135.1, (arReal .add .i64 s135.2.1 1), x140.1, x140.2.1, x140.2.2.1, x140.2.2.2.1, x140.2.2.2.2.1, x140.2.2.2.2.2.1, x140.2.2.2.2.2.2.1, x140.2.2.2.2.2.2.2.1, x140.2.2.2.2.2.2.2.2.1))
  else
    some (.inr (.inr (s135.1, s135.2.2.1, s135.2.2.2.1, s135.2.2.2.2.1, s135.2.2.2.2.2.1, s135.2.2.2.2.2.2.1, s135.2.2.2.2.2.2.2.1, s135.2.2.2.2.2.2.2.2.1, s135.2.2.2.2.2.2.2.2.2.1, s135.2.2.2.2.2.2.2.2.2.2)))
noncomputable def d14_b1 (s74 : Int) : Option ((Int) ⊕ ((Bool) ⊕ (Unit))) :=
  if (cmpLit .leq s74 3) = true then
    Option.bind (α := (Unit) ⊕ (Bool)) (
      (d15 s74 64).bind fun x121 =>
      if (cmpLit .neq x121.2.2.2.2.2.2.2.2.2 0) = true then
        some (.inr false)
      else
        Option.bind (α := (Int × Int × List V × Int × Int × Int × Int × List V × Int × Bool) ⊕ (Bool)) (
          (iter (d14_b2) (0, 0, x121.1, x121.2.1, x121.2.2.1, x121.2.2.2.1, x121.2.2.2.2.1, x121.2.2.2.2.2.1, x121.2.2.2.2.2.2.1, x121.2.2.2.2.2.2.2.1, x121.2.2.2.2.2.2.2.2.1)).bind fun y138 =>
          match y138 with
          | .inl p141 =>
            some (.inr p141)
          | .inr y138r0 =>
            some (.inl (y138r0.1, y138r0.2.1, y138r0.2.2.1, y138r0.2.2.2.1, y138r0.2.2.2.2.1, y138r0.2.2.2.2.2.1, y138r0.2.2.2.2.2.2.1, y138r0.2.2.2.2.2.2.2.1, y138r0.2.2.2.2.2.2.2.2.1, y138r0.2.2.2.2.2.2.2.2.2))) fun y130 =>
        match y130 with
        | .inl p143 =>
          (d17 p143.2.1 p143.2.2.1 p143.2.2.2.1 p143.2.2.2.2.1 p143.2.2.2.2.2.1 p143.2.2.2.2.2.2.1 p143.2.2.2.2.2.2.2.1 p143.2.2.2.2.2.2.2.2.1 p143.2.2.2.2.2.2.2.2.2).bind fun x144 =>
          Option.bind (α := Bool) (
            if (cmpLit .neq x144.2 0) = true then
              some true
            else
              if (cmpLit .neq (lenI x144.1) 4) = true then
                some true
              else
                if (cmpLit .neq p143.2.2.2.2.2.2.1 1) = true then
                  some true
                else
                  if (cmpLit .eql s74 3) = true then
                    if (cmpLit .neq p143.2.2.2.1 16) = true then
                      some true
                    else
                      if (cmpLit .neq p143.2.2.2.2.1 16) = true then
                        some true
                      else
                        if (cmpLit .neq p143.2.2.2.2.2.1 64) = true then
                          some true
                        else
                          if (cmpLit .neq p143.1 5) = true then
                            some true
                          else
                            if (Inb 0 (lenI x144.1)) then
                              if (cmpLit .neq (gI x144.1 0 0) 2) = true then
                                some true
                              else
                                if (cmpLit .neq s74 3) = true then
                                  if (cmpLit .neq p143.1 4) = true then
                                    some true
                                  else
                                    if (Inb 0 (lenI x144.1)) then
                                      some (cmpLit .neq (gI x144.1 0 0) 1)
                                    else none
                                else
                                  some false
                            else none
                  else
                    if (cmpLit .neq s74 3) = true then
                      if (cmpLit .neq p143.1 4) = true then
                        some true
                      else
                        if (Inb 0 (lenI x144.1)) then
                          some (cmpLit .neq (gI x144.1 0 0) 1)
                        else none
                    else
                      some false) fun y147 =>
          if y147 = true then
            some (.inr false)
          else
            if (cmpLit .eql s74 2) = true then
              (d25 p143.2.1 p143.2.2.1 p143.2.2.2.1 p143.2.2.2.2.1 p143.2.2.2.2.2.1 p143.2.2.2.2.2.2.1 p143.2.2.2.2.2.2.2.1 p143.2.2.2.2.2.2.2.2.1 p143.2.2.2.2.2.2.2.2.2).bind fun x149 =>
              (d25 x149.1 x149.2.1 x149.2.2.1 x149.2.2.2.1 x149.2.2.2.2.1 x149.2.2.2.2.2.1 x149.2.2.2.2.2.2.1 x149.2.2.2.2.2.2.2.1 x149.2.2.2.2.2.2.2.2.1).bind fun x150 =>
              (d26 x149.1 x149.2.1 x149.2.2.1 x149.2.2.2.1 x149.2.2.2.2.1 x149.2.2.2.2.2.1 x149.2.2.2.2.2.2.1 x149.2.2.2.2.2.2.2.1 x149.2.2.2.2.2.2.2.2.1).bind fun x151 =>
              Option.bind (α := Bool) (
                if (cmpLit .neq x149.2.2.2.2.2.2.2.2.2 0) = true then
                  some true
                else
                  if (cmpLit .neq x150.2.2.2.2.2.2.2.2.2 222) = true then
                    some true
                  else
                    if (cmpLit .neq x151.2.2.2.2.2.2.2.2.2.2.2 0) = true then
                      some true
                    else
                      if (cmpLit .neq (lenI x151.2.2.2.2.2.2.2.2.2.1) 4) = true then
                        some true
                      else
                        if (cmpLit .neq x151.2.2.2.2.2.2.2.2.2.2.1 1) = true then
                          some true
                        else
                          some (cmpLit .neq x149.2.2.2.2.2.1 0)) fun y152 =>
              if y152 = true then
                some (.inr false)
              else
                some (.inl ())
            else
              some (.inl ())
        | .inr y130r0 =>
          some (.inr y130r0)) fun y120 =>
    match y120 with
    | .inl p155 =>
      some (.inl (arReal .add .i64 s74 1))
    | .inr y120r0 =>
      some (.inr (.inl y120r0))
  else
    some (.inr (.inr ()))
noncomputable def d14 : Option (Bool) :=
  (d24 1 2 [.i .u8 9]).bind fun x1 =>
  if (cmpLit .neq x1.2 0) = true then
    some false
  else
    if (strCmp .neq (toBy x1.1) (ByteArray.mk #[1, 0, 0, 0, 2, 0, 0, 0, 0, 0, 0, 0, 1, 0, 9])) = true then
      some false
    else
      Option.bind (α := (Unit) ⊕ (Bool)) (
        (iter (d14_b1) 1).bind fun y98 =>
        match y98 with
        | .inl p157 =>
          some (.inr p157)
        | .inr y98r0 =>
          some (.inl ())) fun y50 =>
      match y50 with
      | .inl p159 =>
        (d44).bind fun x160 =>
        some x160
      | .inr y50r0 =>
        some y50r0
noncomputable def d3_b1 (a0 : List V) (s27 : Int × Int × List V × Int × Int × Int × Int × List V × Int × Bool × Int × List V × Int × Int × Int × Int × List V × Int × Bool) : Option ((Int × Int × List V × Int × Int × Int × Int × List V × Int × Bool × Int × List V × Int × Int × Int × Int × List V × Int × Bool) ⊕ ((Bool) ⊕ (Int × List V × Int × Int × Int × Int × List V × Int × Bool × Int × List V × Int × Int × Int × Int × List V × Int × Bool))) :=
  if (cmpLit .lss s27.1 (lenI a0)) = true then
    if (cmpLit .lss s27.1 120) = true then
      if (Inb s27.1 (lenI a0)) then
        (d16 s27.2.2.2.2.2.2.2.2.2.2.1 s27.2.2.2.2.2.2.2.2.2.2.2.1 s27.2.2.2.2.2.2.2.2.2.2.2.2.1 s27.2.2.2.2.2.2.2.2.2.2.2.2.2.1 s27.2.2.2.2.2.2.2.2.2.2.2.2.2.2.1 s27.2.2.2.2.2.2.2.2.2.2.2.2.2.2.2.1 s27.2.2.2.2.2.2.2.2.2.2.2.2.2.2.2.2.1 s27.2.2.2.2.2.2.2.2.2.2.2.2.2.2.2.2.2.1 s27.2.2.2.2.2.2.2.2.2.2.2.2.2.2.2.2.2.2 (gI a0 s27.1 0) (gI a0 s27.1 1) (gL a0 s27.1 2)).bind fun x35 =>
        if (Inb s27.1 (lenI a0)) then
          (d16 s27.2.1 s27.2.2.1 s27.2.2.2.1 s27.2.2.2.2.1 s27.2.2.2.2.2.1 s27.2.2.2.2.2.2.1 s27.2.2.2.2.2.2.2.1 s27.2.2.2.2.2.2.2.2.1 s27.2.2.2.2.2.2.2.2.2.1 (gI a0 s27.1 0) (gI a0 s27.1 1) (gL a0 s27.1 2)).bind fun x36 =>
          if (cmpLit .neq x35.2.2.2.2.2.2.2.2.2.2 x36.2.2.2.2.2.2.2.2.2.2) = true then
            some (.inr (.inl false))
          else
            if (cmpLit .eql x35.2.2.2.2.2.2.2.2.2.2 0) = true then
              some (.inl ((arReal .add .i64 s27.1 1), x36.1, x36.2.1, x36.2.2.1, x36.2.2.2.1, x36.2.2.2.2.1, x36.2.2.2.2.2.1, x36.2.2.2.2.2.2.1, x36.2.2.2.2.2.2.2.1, x36.2.2.2.2.2.2.2.2.1, x35.1, x35.2.1, x35.2.2.1, x35.2.2.2.1, x35.2.2.2.2.1, x35.2.2.2.2.2.1, x35.2.2.2.2.2.2.1, x35.2.2.2.2.2.2.2.1, x35.2.2.2.2.2.2.2.2.1))
            else
              some (.inl ((arReal .add .i64 s27.1 1), s27.2.1, s27.2.2.1, s27.2.2.2.1, s27.2.2.2.2.1, s27.2.2.2.2.2.1, s27.2.2.2.2.2.2.1, s27.2.2.2.2.2.2.2.1, s27.2.2.2.2.2.2.2.2.1, s27.2.2.2.2.2.2.2.2.2.1, s27.2.2.2.2.2.2.2.2.2.2.1, s27.2.2.2.2.2.2.2.2.2.2.2.1, s27.2.2.2.2.2.2.2.2.2.2.2.2.1, s27.2.2.2.2.2.2.2.2.2.2.2.2.2.1, s27.2.2.2.2.2.2.2.2.2.2.2.2.2.2.1, s27.2.2.2.2.2.2.2.2.2.2.2.2.2.2.2.1, s27.2.2.2.2.2.2.2.2.2.2.2.2.2.2.2.2.1, s27.2.2.2.2.2.2.2.2.2.2.2.2.2.2.2.2.2.1, s27.2.2.2.2.2.2.2.2.2.2.2.2.2.2.2.2.2.2))
        else none
      else none
    else
      some (.inr (.inr (s27.2.1, s27.2.2.1, s27.2.2.2.1, s27.2.2.2.2.1, s27.2.2.2.2.2.1, s27.2.2.2.2.2.2.1, s27.2.2.2.2.2.2.2.1, s27.2.2.2.2.2.2.2.2.1, s27.2.2.2.2.2.2.2.2.2.1, s27.2.2.2.2.2.2.2.2.2.2.1, s27.2.2.2.2.2.2.2.2.2.2.2.1, s27.2.2.2.2.2.2.2.2.2.2.2.2.1, s27.2.2.2.2.2.2.2.2.2.2.2.2.2.1, s27.2.2.2.2.2.2.2.2.2.2.2.2.2.2.1, s27.2.2.2.2.2.2.2.2.2.2.2.2.2.2.2.1, s27.2.2.2.2.2.2.2.2.2.2.2.2.2.2.2.2.1, s27.2.2.2.2.2.2.2.2.2.2.2.2.2.2.2.2.2.1, s27.2.2.2.2.2.2.2.2.2.2.2.2.2.2.2.2.2.2)))
  else
    some (.inr (.inr (s27.2.1, s27.2.2.1, s27.2.2.2.1, s27.2.2.2.2.1, s27.2.2.2.2.2.1, s27.2.2.2.2.2.2.1, s27.2.2.2.2.2.2.2.1, s27.2.2.2.2.2.2.2.2.1, s27.2.2.2.2.2.2.2.2.2.1, s27.2.2.2.2.2.2.2.2.2.2.1, s27.2.2.2.2.2.2.2.2.2.2.2.1, s27.2.2.2.2.2.2.2.2.2.2.2.2.1, s27.2.2.2.2.2.2.2.2.2.2.2.2.2.1, s27.2.2.2.2.2.2.2.2.2.2.2.2.2.2.1, s27.2.2.2.2.2.2.2.2.2.2.2.2.2.2.2.1, s27.2.2.2.2.2.2.2.2.2.2.2.2.2.2.2.2.1, s27.2.2.2.2.2.2.2.2.2.2.2.2.2.2.2.2.2.1, s27.2.2.2.2.2.2.2.2.2.2.2.2.2.2.2.2.2.2)))
noncomputable def d3 (a0 : List V) (a1 : Int) (a2 : Int) : Option (Bool) :=
  (d14).bind fun x1 =>
  (d15 1 a1).bind fun x2 =>
  (d15 1 a2).bind fun x3 =>
  if (cmpLit .neq x2.2.2.2.2.2.2.2.2.2 0) = true then
    some x1
  else
    if (cmpLit .neq x3.2.2.2.2.2.2.2.2.2 0) = true then
      some x1
    else
      if (cmpLit .lss a2 a1) = true then
        some x1
      else
        Option.bind (α := (Int × List V × Int × Int × Int × Int × List V × Int × Bool × Int × List V × Int × Int × Int × Int × List V × Int × Bool) ⊕ (Bool)) (
          (iter (d3_b1 a0) (0, x3.1, x3.2.1, x3.2.2.1, x3.2.2.2.1, x3.2.2.2.2.1, x3.2.2.2.2.2.1, x3.2.2.2.2.2.2.1, x3.2.2.2.2.2.2.2.1, x3.2.2.2.2.2.2.2.2.1, x2.1, x2.2.1, x2.2.2.1, x2.2.2.2.1, x2.2.2.2.2.1, x2.2.2.2.2.2.1, x2.2.2.2.2.2.2.1, x2.2.2.2.2.2.2.2.1, x2.2.2.2.2.2.2.2.2.1)).bind fun y32 =>
          match y32 with
          | .inl p37 =>
            some (.inr p37)
          | .inr y32r0 =>
            some (.inl (y32r0.1, y32r0.2.1, y32r0.2.2.1, y32r0.2.2.2.1, y32r0.2.2.2.2.1, y32r0.2.2.2.2.2.1, y32r0.2.2.2.2.2.2.1, y32r0.2.2.2.2.2.2.2.1, y32r0.2.2.2.2.2.2.2.2.1, y32r0.2.2.2.2.2.2.2.2.2.1, y32r0.2.2.2.2.2.2.2.2.2.2.1, y32r0.2.2.2.2.2.2.2.2.2.2.2.1, y32r0.2.2.2.2.2.2.2.2.2.2.2.2.1, y32r0.2.2.2.2.2.2.2.2.2.2.2.2.2.1, y32r0.2.2.2.2.2.2.2.2.2.2.2.2.2.2.1, y32r0.2.2.2.2.2.2.2.2.2.2.2.2.2.2.2.1, y32r0.2.2.2.2.2.2.2.2.2.2.2.2.2.2.2.2.1, y32r0.2.2.2.2.2.2.2.2.2.2.2.2.2.2.2.2.2))) fun y18 =>
        match y18 with
        | .inl p39 =>
          (d17 p39.2.2.2.2.2.2.2.2.2.1 p39.2.2.2.2.2.2.2.2.2.2.1 p39.2.2.2.2.2.2.2.2.2.2.2.1 p39.2.2.2.2.2.2.2.2.2.2.2.2.1 p39.2.2.2.2.2.2.2.2.2.2.2.2.2.1 p39.2.2.2.2.2.2.2.2.2.2.2.2.2.2.1 p39.2.2.2.2.2.2.2.2.2.2.2.2.2.2.2.1 p39.2.2.2.2.2.2.2.2.2.2.2.2.2.2.2.2.1 p39.2.2.2.2.2.2.2.2.2.2.2.2.2.2.2.2.2).bind fun x40 =>
          (d17 p39.1 p39.2.1 p39.2.2.1 p39.2.2.2.1 p39.2.2.2.2.1 p39.2.2.2.2.2.1 p39.2.2.2.2.2.2.1 p39.2.2.2.2.2.2.2.1 p39.2.2.2.2.2.2.2.2.1).bind fun x41 =>
          if x1 = true then
            if (cmpLit .geq (lenI x41.1) (lenI x40.1)) = true then
              if (Bnd 0 (lenI x40.1) (lenI x41.1)) then
                (d18 (subL x41.1 0 (lenI x40.1)) x40.1).bind fun x43 =>
                if x43 = true then
                  some (cmpLit .leq p39.2.2.2.2.2.1 p39.2.2.2.2.2.2.2.2.2.2.2.2.2.2.1)
                else
                  some false
              else none
            else
              some false
          else
            some false
        | .inr y18r0 =>
          some y18r0
noncomputable def d4_b1 (a1 : Int) (x5 : List V × List V) (s59 : Int × Int × Int × Int × List V × Int × Int × Int × Int × List V × Int × Bool) : Option ((Int × Int × Int × Int × List V × Int × Int × Int × Int × List V × Int × Bool) ⊕ ((Bool) ⊕ (Int × Int × List V × Int × Int × Int × Int × List V × Int × Bool))) :=
  if (cmpLit .lss s59.2.2.1 (lenI x5.1)) = true then
    if (Inb s59.2.2.1 (lenI x5.1)) then
      (d16 s59.2.2.2.1 s59.2.2.2.2.1 s59.2.2.2.2.2.1 s59.2.2.2.2.2.2.1 s59.2.2.2.2.2.2.2.1 s59.2.2.2.2.2.2.2.2.1 s59.2.2.2.2.2.2.2.2.2.1 s59.2.2.2.2.2.2.2.2.2.2.1 s59.2.2.2.2.2.2.2.2.2.2.2 (gI x5.1 s59.2.2.1 0) (gI x5.1 s59.2.2.1 1) (gL x5.1 s59.2.2.1 2)).bind fun x76 =>
      if (cmpLit .neq x76.2.2.2.2.2.2.2.2.2.2 0) = true then
        some (.inr (.inl false))
      else
        Option.bind (α := Bool) (
          if (cmpLit .eql s59.1 s59.2.2.1) = true then
            if (Inb s59.2.2.1 (lenI x5.2)) then
              some (cmpLit .leq (arReal .add .i64 s59.2.1 (gI x5.2 s59.2.2.1 0)) a1)
            else none
          else
            some false) fun y79 =>
        if y79 = true then
          if (Inb s59.2.2.1 (lenI x5.2)) then
            if (notB' (beqB x76.2.2.2.2.2.2.2.2.2.1 (cmpLit .eql (arReal .add .i64 s59.1 1) (arReal .add .i64 s59.2.2.1 1)))) = true then
              some (.inr (.inl false))
            else
              some (.inl ((arReal .add .i64 s59.1 1), (arReal .add .i64 s59.2.1 (gI x5.2 s59.2.2.1 0)), (arReal .add .i64 s59.2.2.1 1), x76.1, x76.2.1, x76.2.2.1, x76.2.2.2.1, x76.2.2.2.2.1, x76.2.2.2.2.2.1, x76.2.2.2.2.2.2.1, x76.2.2.2.2.2.2.2.1, x76.2.2.2.2.2.2.2.2.1))
          else none
        else
          if (notB' (beqB x76.2.2.2.2.2.2.2.2.2.1 (cmpLit .eql s59.1 (arReal .add .i64 s59.2.2.1 1)))) = true then
            some (.inr (.inl false))
          else
            some (.inl (s59.1, s59.2.1, (arReal .add .i64 s59.2.2.1 1), x76.1, x76.2.1, x76.2.2.1, x76.2.2.2.1, x76.2.2.2.2.1, x76.2.2.2.2.2.1, x76.2.2.2.2.2.2.1, x76.2.2.2.2.2.2.2.1, x76.2.2.2.2.2.2.2.2.1))
    else none
  else
    some (.inr (.inr (s59.1, s59.2.2.2.1, s59.2.2.2.2.1, s59.2.2.2.2.2.1, s59.2.2.2.2.2.2.1, s59.2.2.2.2.2.2.2.1, s59.2.2.2.2.2.2.2.2.1, s59.2.2.2.2.2.2.2.2.2.1, s59.2.2.2.2.2.2.2.2.2.2.1, s59.2.2.2.2.2.2.2.2.2.2.2)))
noncomputable def d4 (a0 : List V) (a1 : Int) (a2 : Bool) : Option (Bool) :=
  (d14).bind fun x1 =>
  Option.bind (α := Int) (
    if a2 = true then
      some 2
    else
      some 1) fun y2 =>
  (d15 y2 a1).bind fun x4 =>
  if (cmpLit .neq x4.2.2.2.2.2.2.2.2.2 0) = true then
    some x1
  else
    (d19 a0 120).bind fun x5 =>
    Option.bind (α := (Int × Int × List V × Int × Int × Int × Int × List V × Int × Bool) ⊕ (Bool)) (
      (iter (d4_b1 a1 x5) (0, 0, 0, x4.1, x4.2.1, x4.2.2.1, x4.2.2.2.1, x4.2.2.2.2.1, x4.2.2.2.2.2.1, x4.2.2.2.2.2.2.1, x4.2.2.2.2.2.2.2.1, x4.2.2.2.2.2.2.2.2.1)).bind fun y70 =>
      match y70 with
      | .inl p81 =>
        some (.inr p81)
      | .inr y70r0 =>
        some (.inl (y70r0.1, y70r0.2.1, y70r0.2.2.1, y70r0.2.2.2.1, y70r0.2.2.2.2.1, y70r0.2.2.2.2.2.1, y70r0.2.2.2.2.2.2.1, y70r0.2.2.2.2.2.2.2.1, y70r0.2.2.2.2.2.2.2.2.1, y70r0.2.2.2.2.2.2.2.2.2))) fun y38 =>
    match y38 with
    | .inl p83 =>
      (d17 p83.2.1 p83.2.2.1 p83.2.2.2.1 p83.2.2.2.2.1 p83.2.2.2.2.2.1 p83.2.2.2.2.2.2.1 p83.2.2.2.2.2.2.2.1 p83.2.2.2.2.2.2.2.2.1 p83.2.2.2.2.2.2.2.2.2).bind fun x84 =>
      if x1 = true then
        if (cmpLit .eql x84.2 0) = true then
          if (Bnd 0 p83.1 (lenI x5.1)) then
            (d18 x84.1 (subL x5.1 0 p83.1)).bind fun x86 =>
            if x86 = true then
              some (cmpLit .eql p83.2.2.2.2.2.2.1 (arReal .sub .i64 (lenI x5.1) p83.1))
            else
              some false
          else none
        else
          some false
      else
        some false
    | .inr y38r0 =>
      some y38r0
noncomputable def d5_b1 (x3 : List V × List V) (s7 : Int × Int) : Option ((Int × Int) ⊕ (Int)) :=
  if (cmpLit .lss s7.2 (lenI x3.2)) = true then
    if (Inb s7.2 (lenI x3.2)) then
      some (.inl ((mxI s7.1 (gI x3.2 s7.2 0)), (arReal .add .i64 s7.2 1)))
    else none
  else
    some (.inr s7.1)
noncomputable def d5_b3 (a1 : Int) (x3 : List V × List V) (s125 : Int × Int × Int) : Option ((Int × Int × Int) ⊕ (Int × Int)) :=
  if (cmpLit .geq s125.2.2 0) = true then
    if (Inb s125.2.2 (lenI x3.2)) then
      if (cmpLit .leq (arReal .add .i64 s125.1 (gI x3.2 s125.2.2 0)) a1) = true then
        if (Inb s125.2.2 (lenI x3.2)) then
          some (.inl ((arReal .add .i64 s125.1 (gI x3.2 s125.2.2 0)), (arReal .add .i64 s125.2.1 1), (arReal .sub .i64 s125.2.2 1)))
        else none
      else
        some (.inr (s125.1, s125.2.1))
    else none
  else
    some (.inr (s125.1, s125.2.1))
noncomputable def d5_b2 (a1 : Int) (x3 : List V × List V) (p10 : Int) (s84 : Int × Int × List V × Int × Int × Int × Int × List V × Int × Bool) : Option ((Int × Int × List V × Int × Int × Int × Int × List V × Int × Bool) ⊕ ((Bool) ⊕ (Int × List V × Int × Int × Int × Int × List V × Int × Bool))) :=
  if (cmpLit .lss s84.1 (lenI x3.1)) = true then
    Option.bind (α := (Int × List V × Int × Int × Int × Int × List V × Int × Bool) ⊕ (Bool)) (
      if (Inb s84.1 (lenI x3.1)) then
        (d16 s84.2.1 s84.2.2.1 s84.2.2.2.1 s84.2.2.2.2.1 s84.2.2.2.2.2.1 s84.2.2.2.2.2.2.1 s84.2.2.2.2.2.2.2.1 s84.2.2.2.2.2.2.2.2.1 s84.2.2.2.2.2.2.2.2.2 (gI x3.1 s84.1 0) (gI x3.1 s84.1 1) (gL x3.1 s84.1 2)).bind fun x113 =>
        if (cmpLit .neq x113.2.2.2.2.2.2.2.2.2.2 0) = true then
          some (.inr false)
        else
          if (Inb s84.1 (lenI x3.2)) then
            if (notB' (beqB x113.2.2.2.2.2.2.2.2.2.1 (cmpLit .leq (gI x3.2 s84.1 0) a1))) = true then
              some (.inr false)
            else
              (d17 x113.1 x113.2.1 x113.2.2.1 x113.2.2.2.1 x113.2.2.2.2.1 x113.2.2.2.2.2.1 x113.2.2.2.2.2.2.1 x113.2.2.2.2.2.2.2.1 x113.2.2.2.2.2.2.2.2.1).bind fun x114 =>
              Option.bind (α := Bool) (
                if (cmpLit .neq x114.2 0) = true then
                  some true
                else
                  if (cmpLit .gtr (lenI x114.1) (arReal .add .i64 s84.1 1)) = true then
                    some true
                  else
                    if (cmpLit .neq x113.2.2.2.2.2.1 (arReal .sub .i64 (arReal .add .i64 s84.1 1) (lenI x114.1))) = true then
                      some true
                    else
                      if (Bnd (arReal .sub .i64 (arReal .add .i64 s84.1 1) (lenI x114.1)) (arReal .add .i64 s84.1 1) (lenI x3.1)) then
                        (d18 x114.1 (subL x3.1 (arReal .sub .i64 (arReal .add .i64 s84.1 1) (lenI x114.1)) (arReal .add .i64 s84.1 1))).bind fun x120 =>
                        if (notB' x120) = true then
                          some true
                        else
                          if x113.2.2.2.2.2.2.2.2.2.1 = true then
                            some (cmpLit .eql (lenI x114.1) 0)
                          else
                            some false
                      else none) fun y119 =>
              if y119 = true then
                some (.inr false)
              else
                if (Inb s84.1 (lenI x3.2)) then
                  Option.bind (α := Int × Int) (
                    (iter (d5_b3 a1 x3) ((arReal .add .i64 (gI x3.2 s84.1 0) p10), 1, (arReal .sub .i64 s84.1 1))).bind fun y126 =>
                    some (y126.1, y126.2)) fun y124 =>
                  if x113.2.2.2.2.2.2.2.2.2.1 = true then
                    if (cmpLit .leq y124.1 a1) = true then
                      if (cmpLit .lss (lenI x114.1) y124.2) = true then
                        some (.inr false)
                      else
                        some (.inl (x113.1, x113.2.1, x113.2.2.1, x113.2.2.2.1, x113.2.2.2.2.1, x113.2.2.2.2.2.1, x113.2.2.2.2.2.2.1, x113.2.2.2.2.2.2.2.1, x113.2.2.2.2.2.2.2.2.1))
                    else
                      some (.inl (x113.1, x113.2.1, x113.2.2.1, x113.2.2.2.1, x113.2.2.2.2.1, x113.2.2.2.2.2.1, x113.2.2.2.2.2.2.1, x113.2.2.2.2.2.2.2.1, x113.2.2.2.2.2.2.2.2.1))
                  else
                    some (.inl (x113.1, x113.2.1, x113.2.2.1, x113.2.2.2.1, x113.2.2.2.2.1, x113.2.2.2.2.2.1, x113.2.2.2.2.2.2.1, x113.2.2.2.2.2.2.2.1, x113.2.2.2.2.2.2.2.2.1))
                else none
          else none
      else none) fun y112 =>
    match y112 with
    | .inl p129 =>
      some (.inl ((arReal .add .i64 s84.1 1), p129.1, p129.2.1, p129.2.2.1, p129.2.2.2.1, p129.2.2.2.2.1, p129.2.2.2.2.2.1, p129.2.2.2.2.2.2.1, p129.2.2.2.2.2.2.2.1, p129.2.2.2.2.2.2.2.2))
    | .inr y112r0 =>
      some (.inr (.inl y112r0))
  else
    some (.inr (.inr (s84.2.1, s84.2.2.1, s84.2.2.2.1, s84.2.2.2.2.1, s84.2.2.2.2.2.1, s84.2.2.2.2.2.2.1, s84.2.2.2.2.2.2.2.1, s84.2.2.2.2.2.2.2.2.1, s84.2.2.2.2.2.2.2.2.2)))
noncomputable def d5 (a0 : List V) (a1 : Int) : Option (Bool) :=
  (d14).bind fun x1 =>
  (d15 3 a1).bind fun x2 =>
  if (cmpLit .neq x2.2.2.2.2.2.2.2.2.2 0) = true then
    some x1
  else
    (d19 a0 120).bind fun x3 =>
    Option.bind (α := Int) (
      (iter (d5_b1 x3) (0, 0)).bind fun y8 =>
      some y8) fun y6 =>
    Option.bind (α := (Int × List V × Int × Int × Int × Int × List V × Int × Bool) ⊕ (Bool)) (
      (iter (d5_b2 a1 x3 y6) (0, x2.1, x2.2.1, x2.2.2.1, x2.2.2.2.1, x2.2.2.2.2.1, x2.2.2.2.2.2.1, x2.2.2.2.2.2.2.1, x2.2.2.2.2.2.2.2.1, x2.2.2.2.2.2.2.2.2.1)).bind fun y99 =>
      match y99 with
      | .inl p131 =>
        some (.inr p131)
      | .inr y99r0 =>
        some (.inl (y99r0.1, y99r0.2.1, y99r0.2.2.1, y99r0.2.2.2.1, y99r0.2.2.2.2.1, y99r0.2.2.2.2.2.1, y99r0.2.2.2.2.2.2.1, y99r0.2.2.2.2.2.2.2.1, y99r0.2.2.2.2.2.2.2.2))) fun y55 =>
    match y55 with
    | .inl p133 =>
      some x1
    | .inr y55r0 =>
      some y55r0
noncomputable def d7_b1 (a0 : List V) (s15 : Int × List V × List V) : Option ((Int × List V × List V) ⊕ (List V × List V)) :=
  if (cmpLit .lss s15.1 (lenI a0)) = true then
    if (cmpLit .lss s15.1 100) = true then
      if (Inb s15.1 (lenI a0)) then
        (d24 (gI a0 s15.1 0) (gI a0 s15.1 1) (gL a0 s15.1 2)).bind fun x20 =>
        if (cmpLit .eql x20.2 0) = true then
          if (Room (lenI (appL s15.2.1 x20.1)) 1) then
            if (Inb s15.1 (lenI a0)) then
              if (Room (lenI (appL s15.2.2 [.agg [.i .i64 (gI a0 s15.1 0), .i .i64 (gI a0 s15.1 1), .sl 5 (gL a0 s15.1 2)]])) 40) then
                some (.inl ((arReal .add .i64 s15.1 1), (appL s15.2.1 x20.1), (appL s15.2.2 [.agg [.i .i64 (gI a0 s15.1 0), .i .i64 (gI a0 s15.1 1), .sl 5 (gL a0 s15.1 2)]])))
              else none
            else none
          else none
        else
          some (.inl ((arReal .add .i64 s15.1 1), s15.2.1, s15.2.2))
      else none
    else
      some (.inr (s15.2.1, s15.2.2))
  else
    some (.inr (s15.2.1, s15.2.2))
noncomputable def d7_b2 (x28 : List V × Int) (s42 : Int × List V) : Option ((Int × List V) ⊕ ((Bool) ⊕ (List V))) :=
  if (cmpLit .lss s42.1 (lenI x28.1)) = true then
    if (Inb s42.1 (lenI x28.1)) then
      (d24 (gI x28.1 s42.1 0) (gI x28.1 s42.1 1) (gL x28.1 s42.1 2)).bind fun x47 =>
      if (cmpLit .neq x47.2 0) = true then
        some (.inr (.inl false))
      else
        if (Room (lenI (appL s42.2 x47.1)) 1) then
          some (.inl ((arReal .add .i64 s42.1 1), (appL s42.2 x47.1)))
        else none
    else none
  else
    some (.inr (.inr s42.2))
noncomputable def d7 (a0 : List V) (a1 : List V) : Option (Bool) :=
  (d14).bind fun x1 =>
  Option.bind (α := List V × List V) (
    (iter (d7_b1 a0) (0, [], [])).bind fun y18 =>
    some (y18.1, y18.2)) fun y10 =>
  (d20 y10.1).bind fun x23 =>
  if (cmpLit .neq x23.2 0) = true then
    some false
  else
    (d18 x23.1 y10.2).bind fun x27 =>
    if (notB' x27) = true then
      some false
    else
      (d20 a1).bind fun x28 =>
      if (cmpLit .neq x28.2 0) = true then
        if x1 = true then
          some (cmpLit .eql (lenI x28.1) 0)
        else
          some false
      else
        Option.bind (α := (List V) ⊕ (Bool)) (
          (iter (d7_b2 x28) (0, [])).bind fun y45 =>
          match y45 with
          | .inl p48 =>
            some (.inr p48)
          | .inr y45r0 =>
            some (.inl y45r0)) fun y37 =>
        match y37 with
        | .inl p50 =>
          if x1 = true then
            some (strCmp .eql (toBy p50) (toBy a1))
          else
            some false
        | .inr y37r0 =>
          some y37r0
noncomputable def d8_b1 (a0 : List V) (s33 : Int × List V × Int × List V × Int × Int × Int × Int × List V × Int × Bool × List V) : Option ((Int × List V × Int × List V × Int × Int × Int × Int × List V × Int × Bool × List V) ⊕ (List V × Int × List V × Int × Int × Int × Int × List V × Int × Bool × List V)) :=
  if (cmpLit .lss s33.1 (lenI a0)) = true then
    if (cmpLit .lss s33.1 120) = true then
      Option.bind (α := List V × Int × List V × Int × Int × Int × Int × List V × Int × Bool × List V) (
        if (Inb s33.1 (lenI a0)) then
          if (cmpLit .eql (gI a0 s33.1 0) 0) = true then
            if (Inb s33.1 (lenI a0)) then
              (d16 s33.2.2.1 s33.2.2.2.1 s33.2.2.2.2.1 s33.2.2.2.2.2.1 s33.2.2.2.2.2.2.1 s33.2.2.2.2.2.2.2.1 s33.2.2.2.2.2.2.2.2.1 s33.2.2.2.2.2.2.2.2.2.1 s33.2.2.2.2.2.2.2.2.2.2.1 (gI a0 s33.1 1) (gI a0 s33.1 2) (gL a0 s33.1 3)).bind fun x44 =>
              if (cmpLit .eql x44.2.2.2.2.2.2.2.2.2.2 0) = true then
                if (Inb s33.1 (lenI a0)) then
                  if (Room (lenI (appL s33.2.1 [.agg [.i .i64 (gI a0 s33.1 1), .i .i64 (gI a0 s33.1 2), .sl 5 (gL a0 s33.1 3)]])) 40) then
                    some ((appL s33.2.1 [.agg [.i .i64 (gI a0 s33.1 1), .i .i64 (gI a0 s33.1 2), .sl 5 (gL a0 s33.1 3)]]), x44.1, x44.2.1, x44.2.2.1, x44.2.2.2.1, x44.2.2.2.2.1, x44.2.2.2.2.2.1, x44.2.2.2.2.2.2.1, x44.2.2.2.2.2.2.2.1, x44.2.2.2.2.2.2.2.2.1, s33.2.2.2.2.2.2.2.2.2.2.2)
                  else none
                else none
              else
                some (s33.2.1, s33.2.2.1, s33.2.2.2.1, s33.2.2.2.2.1, s33.2.2.2.2.2.1, s33.2.2.2.2.2.2.1, s33.2.2.2.2.2.2.2.1, s33.2.2.2.2.2.2.2.2.1, s33.2.2.2.2.2.2.2.2.2.1, s33.2.2.2.2.2.2.2.2.2.2.1, s33.2.2.2.2.2.2.2.2.2.2.2)
            else none
          else
            if (cmpLit .eql (gI a0 s33.1 0) 1) = true then
              (d25 s33.2.2.1 s33.2.2.2.1 s33.2.2.2.2.1 s33.2.2.2.2.2.1 s33.2.2.2.2.2.2.1 s33.2.2.2.2.2.2.2.1 s33.2.2.2.2.2.2.2.2.1 s33.2.2.2.2.2.2.2.2.2.1 s33.2.2.2.2.2.2.2.2.2.2.1).bind fun x45 =>
              if (cmpLit .eql x45.2.2.2.2.2.2.2.2.2 0) = true then
                some (s33.2.1, x45.1, x45.2.1, x45.2.2.1, x45.2.2.2.1, x45.2.2.2.2.1, x45.2.2.2.2.2.1, x45.2.2.2.2.2.2.1, x45.2.2.2.2.2.2.2.1, x45.2.2.2.2.2.2.2.2.1, s33.2.2.2.2.2.2.2.2.2.2.2)
              else
                some (s33.2.1, s33.2.2.1, s33.2.2.2.1, s33.2.2.2.2.1, s33.2.2.2.2.2.1, s33.2.2.2.2.2.2.1, s33.2.2.2.2.2.2.2.1, s33.2.2.2.2.2.2.2.2.1, s33.2.2.2.2.2.2.2.2.2.1, s33.2.2.2.2.2.2.2.2.2.2.1, s33.2.2.2.2.2.2.2.2.2.2.2)
            else
              (d26 s33.2.2.1 s33.2.2.2.1 s33.2.2.2.2.1 s33.2.2.2.2.2.1 s33.2.2.2.2.2.2.1 s33.2.2.2.2.2.2.2.1 s33.2.2.2.2.2.2.2.2.1 s33.2.2.2.2.2.2.2.2.2.1 s33.2.2.2.2.2.2.2.2.2.2.1).bind fun x46 =>
              if (cmpLit .eql x46.2.2.2.2.2.2.2.2.2.2.2 0) = true then
                if (Room (lenI (appL s33.2.2.2.2.2.2.2.2.2.2.2 [.agg [.sl 33 x46.2.2.2.2.2.2.2.2.2.1, .i .i64 x46.2.2.2.2.2.2.2.2.2.2.1]])) 32) then
                  some (s33.2.1, x46.1, x46.2.1, x46.2.2.1, x46.2.2.2.1, x46.2.2.2.2.1, x46.2.2.2.2.2.1, x46.2.2.2.2.2.2.1, x46.2.2.2.2.2.2.2.1, x46.2.2.2.2.2.2.2.2.1, (appL s33.2.2.2.2.2.2.2.2.2.2.2 [.agg [.sl 33 x46.2.2.2.2.2.2.2.2.2.1, .i .i64 x46.2.2.2.2.2.2.2.2.2.2.1]]))
                else none
              else
                some (s33.2.1, s33.2.2.1, s33.2.2.2.1, s33.2.2.2.2.1, s33.2.2.2.2.2.1, s33.2.2.2.2.2.2.1, s33.2.2.2.2.2.2.2.1, s33.2.2.2.2.2.2.2.2.1, s33.2.2.2.2.2.2.2.2.2.1, s33.2.2.2.2.2.2.2.2.2.2.1, s33.2.2.2.2.2.2.2.2.2.2.2)
        else none) fun y43 =>
      some (.inl ((arReal .add .i64 s33.1 1), y43.1, y43.2.1, y43.2.2.1, y43.2.2.2.1, y43.2.2.2.2.1, y43.2.2.2.2.2.1, y43.2.2.2.2.2.2.1, y43.2.2.2.2.2.2.2.1, y43.2.2.2.2.2.2.2.2.1, y43.2.2.2.2.2.2.2.2.2.1, y43.2.2.2.2.2.2.2.2.2.2))
    else
      some (.inr (s33.2.1, s33.2.2.1, s33.2.2.2.1, s33.2.2.2.2.1, s33.2.2.2.2.2.1, s33.2.2.2.2.2.2.1, s33.2.2.2.2.2.2.2.1, s33.2.2.2.2.2.2.2.2.1, s33.2.2.2.2.2.2.2.2.2.1, s33.2.2.2.2.2.2.2.2.2.2.1, s33.2.2.2.2.2.2.2.2.2.2.2))
  else
    some (.inr (s33.2.1, s33.2.2.1, s33.2.2.2.1, s33.2.2.2.2.1, s33.2.2.2.2.2.1, s33.2.2.2.2.2.2.1, s33.2.2.2.2.2.2.2.1, s33.2.2.2.2.2.2.2.2.1, s33.2.2.2.2.2.2.2.2.2.1, s33.2.2.2.2.2.2.2.2.2.2.1, s33.2.2.2.2.2.2.2.2.2.2.2))
noncomputable def d8_b2 (p49 : Int × List V × Int × Int × Int × Int × List V × Int × Bool × List V × List V) (x50 : List V × Int × Int) (x51 : List V × Int) (s79 : Int × Int) : Option ((Int × Int) ⊕ ((Bool) ⊕ (Int))) :=
  if (cmpLit .lss s79.2 (lenI (appL p49.2.2.2.2.2.2.2.2.2.2 [.agg [.sl 33 x50.1, .i .i64 x50.2.1], .agg [.sl 33 x51.1, .i .i64 p49.2.2.2.2.2.1]]))) = true then
    if (Inb s79.2 (lenI (appL p49.2.2.2.2.2.2.2.2.2.2 [.agg [.sl 33 x50.1, .i .i64 x50.2.1], .agg [.sl 33 x51.1, .i .i64 p49.2.2.2.2.2.1]]))) then
      if (cmpLit .gtr (arReal .add .i64 s79.1 (lenI (gL (appL p49.2.2.2.2.2.2.2.2.2.2 [.agg [.sl 33 x50.1, .i .i64 x50.2.1], .agg [.sl 33 x51.1, .i .i64 p49.2.2.2.2.2.1]]) s79.2 0))) (lenI p49.2.2.2.2.2.2.2.2.2.1)) = true then
        some (.inr (.inl false))
      else
        if (Inb s79.2 (lenI (appL p49.2.2.2.2.2.2.2.2.2.2 [.agg [.sl 33 x50.1, .i .i64 x50.2.1], .agg [.sl 33 x51.1, .i .i64 p49.2.2.2.2.2.1]]))) then
          if (Bnd s79.1 (arReal .add .i64 s79.1 (lenI (gL (appL p49.2.2.2.2.2.2.2.2.2.2 [.agg [.sl 33 x50.1, .i .i64 x50.2.1], .agg [.sl 33 x51.1, .i .i64 p49.2.2.2.2.2.1]]) s79.2 0))) (lenI p49.2.2.2.2.2.2.2.2.2.1)) then
            (d18 (gL (appL p49.2.2.2.2.2.2.2.2.2.2 [.agg [.sl 33 x50.1, .i .i64 x50.2.1], .agg [.sl 33 x51.1, .i .i64 p49.2.2.2.2.2.1]]) s79.2 0) (subL p49.2.2.2.2.2.2.2.2.2.1 s79.1 (plI s79.1 (miI (arReal .add .i64 s79.1 (lenI (gL (appL p49.2.2.2.2.2.2.2.2.2.2 [.agg [.sl 33 x50.1, .i .i64 x50.2.1], .agg [.sl 33 x51.1, .i .i64 p49.2.2.2.2.2.1]]) s79.2 0))) s79.1)))).bind fun x96 =>
            if (notB' x96) = true then
              some (.inr (.inl false))
            else
              if (Inb s79.2 (lenI (appL p49.2.2.2.2.2.2.2.2.2.2 [.agg [.sl 33 x50.1, .i .i64 x50.2.1], .agg [.sl 33 x51.1, .i .i64 p49.2.2.2.2.2.1]]))) then
                some (.inl ((arReal .add .i64 (arReal .add .i64 s79.1 (lenI (gL (appL p49.2.2.2.2.2.2.2.2.2.2 [.agg [.sl 33 x50.1, .i .i64 x50.2.1], .agg [.sl 33 x51.1, .i .i64 p49.2.2.2.2.2.1]]) s79.2 0))) (gI (appL p49.2.2.2.2.2.2.2.2.2.2 [.agg [.sl 33 x50.1, .i .i64 x50.2.1], .agg [.sl 33 x51.1, .i .i64 p49.2.2.2.2.2.1]]) s79.2 1)), (arReal .add .i64 s79.2 1)))
              else none
          else none
        else none
    else none
  else
    some (.inr (.inr s79.1))
noncomputable def d8 (a0 : List V) (a1 : Int) : Option (Bool) :=
  (d14).bind fun x1 =>
  (d15 2 a1).bind fun x2 =>
  if (cmpLit .neq x2.2.2.2.2.2.2.2.2.2 0) = true then
    some x1
  else
    Option.bind (α := Int × List V × Int × Int × Int × Int × List V × Int × Bool × List V × List V) (
      (iter (d8_b1 a0) (0, [], x2.1, x2.2.1, x2.2.2.1, x2.2.2.2.1, x2.2.2.2.2.1, x2.2.2.2.2.2.1, x2.2.2.2.2.2.2.1, x2.2.2.2.2.2.2.2.1, x2.2.2.2.2.2.2.2.2.1, [])).bind fun y39 =>
      some (y39.2.1, y39.2.2.1, y39.2.2.2.1, y39.2.2.2.2.1, y39.2.2.2.2.2.1, y39.2.2.2.2.2.2.1, y39.2.2.2.2.2.2.2.1, y39.2.2.2.2.2.2.2.2.1, y39.2.2.2.2.2.2.2.2.2.1, y39.1, y39.2.2.2.2.2.2.2.2.2.2)) fun y21 =>
    (d27 y21.1 y21.2.1 y21.2.2.1 y21.2.2.2.1 y21.2.2.2.2.1 y21.2.2.2.2.2.1 y21.2.2.2.2.2.2.1 y21.2.2.2.2.2.2.2.1 y21.2.2.2.2.2.2.2.2.1).bind fun x50 =>
    (d17 y21.1 y21.2.1 y21.2.2.1 y21.2.2.2.1 y21.2.2.2.2.1 y21.2.2.2.2.2.1 y21.2.2.2.2.2.2.1 y21.2.2.2.2.2.2.2.1 y21.2.2.2.2.2.2.2.2.1).bind fun x51 =>
    if (cmpLit .neq x50.2.2 0) = true then
      some false
    else
      if (cmpLit .neq x51.2 0) = true then
        some false
      else
        if (Room (lenI (appL y21.2.2.2.2.2.2.2.2.2.2 [.agg [.sl 33 x50.1, .i .i64 x50.2.1], .agg [.sl 33 x51.1, .i .i64 y21.2.2.2.2.2.1]])) 32) then
          Option.bind (α := (Int) ⊕ (Bool)) (
            (iter (d8_b2 y21 x50 x51) (0, 0)).bind fun y88 =>
            match y88 with
            | .inl p97 =>
              some (.inr p97)
            | .inr y88r0 =>
              some (.inl y88r0)) fun y70 =>
          match y70 with
          | .inl p99 =>
            if x1 = true then
              some (cmpLit .eql p99 (lenI y21.2.2.2.2.2.2.2.2.2.1))
            else
              some false
          | .inr y70r0 =>
            some y70r0
        else none
noncomputable def d9 (a0_0 : Int) (a0_1 : List V) (a0_2 : Int) (a0_3 : Int) (a0_4 : Int) (a0_5 : Int) (a0_6 : List V) (a0_7 : Int) (a0_8 : Bool) (a1_0 : Int) (a1_1 : Int) (a1_2 : List V) (a2 : Int) (a3 : Int) : Option (Bool) :=
  (d14).bind fun x1 =>
  (d15 a2 a3).bind fun x2 =>
  (d16 a0_0 a0_1 a0_2 a0_3 a0_4 a0_5 a0_6 a0_7 a0_8 a1_0 a1_1 a1_2).bind fun x3 =>
  (d25 a0_0 a0_1 a0_2 a0_3 a0_4 a0_5 a0_6 a0_7 a0_8).bind fun x4 =>
  (d26 a0_0 a0_1 a0_2 a0_3 a0_4 a0_5 a0_6 a0_7 a0_8).bind fun x5 =>
  (d28 a0_0 a0_1 a0_2 a0_3 a0_4 a0_5 a0_6 a0_7 a0_8).bind fun x6 =>
  if x1 = true then
    if (cmpLit .neq x2.2.2.2.2.2.2.2.2.2 0) = true then
      if (cmpLit .neq x3.2.2.2.2.2.2.2.2.2.2 0) = true then
        if (cmpLit .neq x4.2.2.2.2.2.2.2.2.2 0) = true then
          if (cmpLit .neq x5.2.2.2.2.2.2.2.2.2.2.2 0) = true then
            if (cmpLit .neq x6.2.2.2.2.2.2.2.2.2.2.2 0) = true then
              some true
            else
              (d29 x6.1 x6.2.1 x6.2.2.1 x6.2.2.2.1 x6.2.2.2.2.1 x6.2.2.2.2.2.1 x6.2.2.2.2.2.2.1 x6.2.2.2.2.2.2.2.1 x6.2.2.2.2.2.2.2.2.1).bind fun x38 =>
              some (cmpLit .eql x38 0)
          else
            (d29 x5.1 x5.2.1 x5.2.2.1 x5.2.2.2.1 x5.2.2.2.2.1 x5.2.2.2.2.2.1 x5.2.2.2.2.2.2.1 x5.2.2.2.2.2.2.2.1 x5.2.2.2.2.2.2.2.2.1).bind fun x39 =>
            if (cmpLit .eql x39 0) = true then
              if (cmpLit .neq x6.2.2.2.2.2.2.2.2.2.2.2 0) = true then
                some true
              else
                (d29 x6.1 x6.2.1 x6.2.2.1 x6.2.2.2.1 x6.2.2.2.2.1 x6.2.2.2.2.2.1 x6.2.2.2.2.2.2.1 x6.2.2.2.2.2.2.2.1 x6.2.2.2.2.2.2.2.2.1).bind fun x40 =>
                some (cmpLit .eql x40 0)
            else
              some false
        else
          (d29 x4.1 x4.2.1 x4.2.2.1 x4.2.2.2.1 x4.2.2.2.2.1 x4.2.2.2.2.2.1 x4.2.2.2.2.2.2.1 x4.2.2.2.2.2.2.2.1 x4.2.2.2.2.2.2.2.2.1).bind fun x41 =>
          if (cmpLit .eql x41 0) = true then
            if (cmpLit .neq x5.2.2.2.2.2.2.2.2.2.2.2 0) = true then
              if (cmpLit .neq x6.2.2.2.2.2.2.2.2.2.2.2 0) = true then
                some true
              else
                (d29 x6.1 x6.2.1 x6.2.2.1 x6.2.2.2.1 x6.2.2.2.2.1 x6.2.2.2.2.2.1 x6.2.2.2.2.2.2.1 x6.2.2.2.2.2.2.2.1 x6.2.2.2.2.2.2.2.2.1).bind fun x42 =>
                some (cmpLit .eql x42 0)
            else
              (d29 x5.1 x5.2.1 x5.2.2.1 x5.2.2.2.1 x5.2.2.2.2.1 x5.2.2.2.2.2.1 x5.2.2.2.2.2.2.1 x5.2.2.2.2.2.2.2.1 x5.2.2.2.2.2.2.2.2.1).bind fun x43 =>
              if (cmpLit .eql x43 0) = true then
                if (cmpLit .neq x6.2.2.2.2.2.2.2.2.2.2.2 0) = true then
                  some true
                else
                  (d29 x6.1 x6.2.1 x6.2.2.1 x6.2.2.2.1 x6.2.2.2.2.1 x6.2.2.2.2.2.1 x6.2.2.2.2.2.2.1 x6.2.2.2.2.2.2.2.1 x6.2.2.2.2.2.2.2.2.1).bind fun x44 =>
                  some (cmpLit .eql x44 0)
              else
                some false
          else
            some false
      else
        (d29 x3.1 x3.2.1 x3.2.2.1 x3.2.2.2.1 x3.2.2.2.2.1 x3.2.2.2.2.2.1 x3.2.2.2.2.2.2.1 x3.2.2.2.2.2.2.2.1 x3.2.2.2.2.2.2.2.2.1).bind fun x45 =>
        if (cmpLit .eql x45 0) = true then
          if (cmpLit .neq x4.2.2.2.2.2.2.2.2.2 0) = true then
            if (cmpLit .neq x5.2.2.2.2.2.2.2.2.2.2.2 0) = true then
              if (cmpLit .neq x6.2.2.2.2.2.2.2.2.2.2.2 0) = true then
                some true
              else
                (d29 x6.1 x6.2.1 x6.2.2.1 x6.2.2.2.1 x6.2.2.2.2.1 x6.2.2.2.2.2.1 x6.2.2.2.2.2.2.1 x6.2.2.2.2.2.2.2.1 x6.2.2.2.2.2.2.2.2.1).bind fun x46 =>
                some (cmpLit .eql x46 0)
            else
              (d29 x5.1 x5.2.1 x5.2.2.1 x5.2.2.2.1 x5.2.2.2.2.1 x5.2.2.2.2.2.1 x5.2.2.2.2.2.2.1 x5.2.2.2.2.2.2.2.1 x5.2.2.2.2.2.2.2.2.1).bind fun x47 =>
              if (cmpLit .eql x47 0) = true then
                if (cmpLit .neq x6.2.2.2.2.2.2.2.2.2.2.2 0) = true then
                  some true
                else
                  (d29 x6.1 x6.2.1 x6.2.2.1 x6.2.2.2.1 x6.2.2.2.2.1 x6.2.2.2.2.2.1 x6.2.2.2.2.2.2.1 x6.2.2.2.2.2.2.2.1 x6.2.2.2.2.2.2.2.2.1).bind fun x48 =>
                  some (cmpLit .eql x48 0)
              else
                some false
          else
            (d29 x4.1 x4.2.1 x4.2.2.1 x4.2.2.2.1 x4.2.2.2.2.1 x4.2.2.2.2.2.1 x4.2.2.2.2.2.2.1 x4.2.2.2.2.2.2.2.1 x4.2.2.2.2.2.2.2.2.1).bind fun x49 =>
            if (cmpLit .eql x49 0) = true then
              if (cmpLit .neq x5.2.2.2.2.2.2.2.2.2.2.2 0) = true then
                if (cmpLit .neq x6.2.2.2.2.2.2.2.2.2.2.2 0) = true then
                  some true
                else
                  (d29 x6.1 x6.2.1 x6.2.2.1 x6.2.2.2.1 x6.2.2.2.2.1 x6.2.2.2.2.2.1 x6.2.2.2.2.2.2.1 x6.2.2.2.2.2.2.2.1 x6.2.2.2.2.2.2.2.2.1).bind fun x50 =>
                  some (cmpLit .eql x50 0)
              else
                (d29 x5.1 x5.2.1 x5.2.2.1 x5.2.2.2.1 x5.2.2.2.2.1 x5.2.2.2.2.2.1 x5.2.2.2.2.2.2.1 x5.2.2.2.2.2.2.2.1 x5.2.2.2.2.2.2.2.2.1).bind fun x51 =>
                if (cmpLit .eql x51 0) = true then
                  if (cmpLit .neq x6.2.2.2.2.2.2.2.2.2.2.2 0) = true then
                    some true
                  else
                    (d29 x6.1 x6.2.1 x6.2.2.1 x6.2.2.2.1 x6.2.2.2.2.1 x6.2.2.2.2.2.1 x6.2.2.2.2.2.2.1 x6.2.2.2.2.2.2.2.1 x6.2.2.2.2.2.2.2.2.1).bind fun x52 =>
                    some (cmpLit .eql x52 0)
                else
                  some false
            else
              some false
        else
          some false
    else
      (d29 x2.1 x2.2.1 x2.2.2.1 x2.2.2.2.1 x2.2.2.2.2.1 x2.2.2.2.2.2.1 x2.2.2.2.2.2.2.1 x2.2.2.2.2.2.2.2.1 x2.2.2.2.2.2.2.2.2.1).bind fun x53 =>
      if (cmpLit .eql x53 0) = true then
        if (cmpLit .neq x3.2.2.2.2.2.2.2.2.2.2 0) = true then
          if (cmpLit .neq x4.2.2.2.2.2.2.2.2.2 0) = true then
            if (cmpLit .neq x5.2.2.2.2.2.2.2.2.2.2.2 0) = true then
              if (cmpLit .neq x6.2.2.2.2.2.2.2.2.2.2.2 0) = true then
                some true
              else
                (d29 x6.1 x6.2.1 x6.2.2.1 x6.2.2.2.1 x6.2.2.2.2.1 x6.2.2.2.2.2.1 x6.2.2.2.2.2.2.1 x6.2.2.2.2.2.2.2.1 x6.2.2.2.2.2.2.2.2.1).bind fun x54 =>
                some (cmpLit .eql x54 0)
            else
              (d29 x5.1 x5.2.1 x5.2.2.1 x5.2.2.2.1 x5.2.2.2.2.1 x5.2.2.2.2.2.1 x5.2.2.2.2.2.2.1 x5.2.2.2.2.2.2.2.1 x5.2.2.2.2.2.2.2.2.1).bind fun x55 =>
              if (cmpLit .eql x55 0) = true then
                if (cmpLit .neq x6.2.2.2.2.2.2.2.2.2.2.2 0) = true then
                  some true
                else
                  (d29 x6.1 x6.2.1 x6.2.2.1 x6.2.2.2.1 x6.2.2.2.2.1 x6.2.2.2.2.2.1 x6.2.2.2.2.2.2.1 x6.2.2.2.2.2.2.2.1 x6.2.2.2.2.2.2.2.2.1).bind fun x56 =>
                  some (cmpLit .eql x56 0)
              else
                some false
          else
            (d29 x4.1 x4.2.1 x4.2.2.1 x4.2.2.2.1 x4.2.2.2.2.1 x4.2.2.2.2.2.1 x4.2.2.2.2.2.2.1 x4.2.2.2.2.2.2.2.1 x4.2.2.2.2.2.2.2.2.1).bind fun x57 =>
            if (cmpLit .eql x57 0) = true then
              if (cmpLit .neq x5.2.2.2.2.2.2.2.2.2.2.2 0) = true then
                if (cmpLit .neq x6.2.2.2.2.2.2.2.2.2.2.2 0) = true then
                  some true
                else
                  (d29 x6.1 x6.2.1 x6.2.2.1 x6.2.2.2.1 x6.2.2.2.2.1 x6.2.2.2.2.2.1 x6.2.2.2.2.2.2.1 x6.2.2.2.2.2.2.2.1 x6.2.2.2.2.2.2.2.2.1).bind fun x58 =>
                  some (cmpLit .eql x58 0)
              else
                (d29 x5.1 x5.2.1 x5.2.2.1 x5.2.2.2.1 x5.2.2.2.2.1 x5.2.2.2.2.2.1 x5.2.2.2.2.2.2.1 x5.2.2.2.2.2.2.2.1 x5.2.2.2.2.2.2.2.2.1).bind fun x59 =>
                if (cmpLit .eql x59 0) = true then
                  if (cmpLit .neq x6.2.2.2.2.2.2.2.2.2.2.2 0) = true then
                    some true
                  else
                    (d29 x6.1 x6.2.1 x6.2.2.1 x6.2.2.2.1 x6.2.2.2.2.1 x6.2.2.2.2.2.1 x6.2.2.2.2.2.2.1 x6.2.2.2.2.2.2.2.1 x6.2.2.2.2.2.2.2.2.1).bind fun x60 =>
                    some (cmpLit .eql x60 0)
                else
                  some false
            else
              some false
        else
          (d29 x3.1 x3.2.1 x3.2.2.1 x3.2.2.2.1 x3.2.2.2.2.1 x3.2.2.2.2.2.1 x3.2.2.2.2.2.2.1 x3.2.2.2.2.2.2.2.1 x3.2.2.2.2.2.2.2.2.1).bind fun x61 =>
          if (cmpLit .eql x61 0) = true then
            if (cmpLit .neq x4.2.2.2.2.2.2.2.2.2 0) = true then
              if (cmpLit .neq x5.2.2.2.2.2.2.2.2.2.2.2 0) = true then
                if (cmpLit .neq x6.2.2.2.2.2.2.2.2.2.2.2 0) = true then
                  some true
                else
                  (d29 x6.1 x6.2.1 x6.2.2.1 x6.2.2.2.1 x6.2.2.2.2.1 x6.2.2.2.2.2.1 x6.2.2.2.2.2.2.1 x6.2.2.2.2.2.2.2.1 x6.2.2.2.2.2.2.2.2.1).bind fun x62 =>
                  some (cmpLit .eql x62 0)
              else
                (d29 x5.1 x5.2.1 x5.2.2.1 x5.2.2.2.1 x5.2.2.2.2.1 x5.2.2.2.2.2.1 x5.2.2.2.2.2.2.1 x5.2.2.2.2.2.2.2.1 x5.2.2.2.2.2.2.2.2.1).bind fun x63 =>
                if (cmpLit .eql x63 0) = true then
                  if (cmpLit .neq x6.2.2.2.2.2.2.2.2.2.2.2 0) = true then
                    some true
                  else
                    (d29 x6.1 x6.2.1 x6.2.2.1 x6.2.2.2.1 x6.2.2.2.2.1 x6.2.2.2.2.2.1 x6.2.2.2.2.2.2.1 x6.2.2.2.2.2.2.2.1 x6.2.2.2.2.2.2.2.2.1).bind fun x64 =>
                    some (cmpLit .eql x64 0)
                else
                  some false
            else
              (d29 x4.1 x4.2.1 x4.2.2.1 x4.2.2.2.1 x4.2.2.2.2.1 x4.2.2.2.2.2.1 x4.2.2.2.2.2.2.1 x4.2.2.2.2.2.2.2.1 x4.2.2.2.2.2.2.2.2.1).bind fun x65 =>
              if (cmpLit .eql x65 0) = true then
                if (cmpLit .neq x5.2.2.2.2.2.2.2.2.2.2.2 0) = true then
                  if (cmpLit .neq x6.2.2.2.2.2.2.2.2.2.2.2 0) = true then
                    some true
                  else
                    (d29 x6.1 x6.2.1 x6.2.2.1 x6.2.2.2.1 x6.2.2.2.2.1 x6.2.2.2.2.2.1 x6.2.2.2.2.2.2.1 x6.2.2.2.2.2.2.2.1 x6.2.2.2.2.2.2.2.2.1).bind fun x66 =>
                    some (cmpLit .eql x66 0)
                else
                  (d29 x5.1 x5.2.1 x5.2.2.1 x5.2.2.2.1 x5.2.2.2.2.1 x5.2.2.2.2.2.1 x5.2.2.2.2.2.2.1 x5.2.2.2.2.2.2.2.1 x5.2.2.2.2.2.2.2.2.1).bind fun x67 =>
                  if (cmpLit .eql x67 0) = true then
                    if (cmpLit .neq x6.2.2.2.2.2.2.2.2.2.2.2 0) = true then
                      some true
                    else
                      (d29 x6.1 x6.2.1 x6.2.2.1 x6.2.2.2.1 x6.2.2.2.2.1 x6.2.2.2.2.2.1 x6.2.2.2.2.2.2.1 x6.2.2.2.2.2.2.2.1 x6.2.2.2.2.2.2.2.2.1).bind fun x68 =>
                      some (cmpLit .eql x68 0)
                  else
                    some false
              else
                some false
          else
            some false
      else
        some false
  else
    some false
noncomputable def d10 (a0_0 : Int) (a0_1 : List V) (a0_2 : Int) (a0_3 : Int) (a0_4 : Int) (a0_5 : Int) (a0_6 : List V) (a0_7 : Int) (a0_8 : Bool) : Option (Bool) :=
  (d14).bind fun x1 =>
  (d17 a0_0 a0_1 a0_2 a0_3 a0_4 a0_5 a0_6 a0_7 a0_8).bind fun x2 =>
  if (cmpLit .neq x2.2 0) = true then
    if x1 = true then
      (d29 a0_0 a0_1 a0_2 a0_3 a0_4 a0_5 a0_6 a0_7 a0_8).bind fun x6 =>
      some (cmpLit .eql x6 x2.2)
    else
      some false
  else
    (d27 a0_0 a0_1 a0_2 a0_3 a0_4 a0_5 a0_6 a0_7 a0_8).bind fun x7 =>
    (d28 a0_0 a0_1 a0_2 a0_3 a0_4 a0_5 a0_6 a0_7 a0_8).bind fun x8 =>
    (d17 x8.1 x8.2.1 x8.2.2.1 x8.2.2.2.1 x8.2.2.2.2.1 x8.2.2.2.2.2.1 x8.2.2.2.2.2.2.1 x8.2.2.2.2.2.2.2.1 x8.2.2.2.2.2.2.2.2.1).bind fun x9 =>
    (d27 x8.1 x8.2.1 x8.2.2.1 x8.2.2.2.1 x8.2.2.2.2.1 x8.2.2.2.2.2.1 x8.2.2.2.2.2.2.1 x8.2.2.2.2.2.2.2.1 x8.2.2.2.2.2.2.2.2.1).bind fun x10 =>
    Option.bind (α := Bool) (
      if (cmpLit .neq x8.2.2.2.2.2.2.2.2.2.2.2 0) = true then
        some true
      else
        (d18 x8.2.2.2.2.2.2.2.2.2.1 x2.1).bind fun x18 =>
        if (notB' x18) = true then
          some true
        else
          if (cmpLit .neq x8.2.2.2.2.2.2.2.2.2.2.1 a0_5) = true then
            some true
          else
            if (cmpLit .neq (lenI x9.1) 0) = true then
              some true
            else
              if (cmpLit .neq x8.2.2.2.2.2.1 0) = true then
                some true
              else
                (d18 x10.1 x7.1).bind fun x19 =>
                if (notB' x19) = true then
                  some true
                else
                  some (cmpLit .neq x10.2.1 x7.2.1)) fun y17 =>
    if y17 = true then
      some false
    else
      (d26 a0_0 a0_1 a0_2 a0_3 a0_4 a0_5 a0_6 a0_7 a0_8).bind fun x21 =>
      Option.bind (α := (Unit) ⊕ (Bool)) (
        if (cmpLit .eql x21.2.2.2.2.2.2.2.2.2.2.2 0) = true then
          (d17 x21.1 x21.2.1 x21.2.2.1 x21.2.2.2.1 x21.2.2.2.2.1 x21.2.2.2.2.2.1 x21.2.2.2.2.2.2.1 x21.2.2.2.2.2.2.2.1 x21.2.2.2.2.2.2.2.2.1).bind fun x29 =>
          (d27 x21.1 x21.2.1 x21.2.2.1 x21.2.2.2.1 x21.2.2.2.2.1 x21.2.2.2.2.2.1 x21.2.2.2.2.2.2.1 x21.2.2.2.2.2.2.2.1 x21.2.2.2.2.2.2.2.2.1).bind fun x30 =>
          Option.bind (α := Bool) (
            (d18 x21.2.2.2.2.2.2.2.2.2.1 x7.1).bind fun x34 =>
            if (notB' x34) = true then
              some true
            else
              if (cmpLit .neq x21.2.2.2.2.2.2.2.2.2.2.1 x7.2.1) = true then
                some true
              else
                if (cmpLit .neq (lenI x30.1) 0) = true then
                  some true
                else
                  if (cmpLit .neq x30.2.1 0) = true then
                    some true
                  else
                    (d18 x29.1 x2.1).bind fun x35 =>
                    if (notB' x35) = true then
                      some true
                    else
                      some (cmpLit .neq x21.2.2.2.2.2.1 a0_5)) fun y33 =>
          if y33 = true then
            some (.inr false)
          else
            some (.inl ())
        else
          some (.inl ())) fun y28 =>
      match y28 with
      | .inl p37 =>
        (d25 a0_0 a0_1 a0_2 a0_3 a0_4 a0_5 a0_6 a0_7 a0_8).bind fun x38 =>
        if (cmpLit .neq x38.2.2.2.2.2.2.2.2.2 0) = true then
          some x1
        else
          (d27 x38.1 x38.2.1 x38.2.2.1 x38.2.2.2.1 x38.2.2.2.2.1 x38.2.2.2.2.2.1 x38.2.2.2.2.2.2.1 x38.2.2.2.2.2.2.2.1 x38.2.2.2.2.2.2.2.2.1).bind fun x39 =>
          (d17 x38.1 x38.2.1 x38.2.2.1 x38.2.2.2.1 x38.2.2.2.2.1 x38.2.2.2.2.2.1 x38.2.2.2.2.2.2.1 x38.2.2.2.2.2.2.2.1 x38.2.2.2.2.2.2.2.2.1).bind fun x40 =>
          if x1 = true then
            (d18 x39.1 x2.1).bind fun x42 =>
            if x42 = true then
              if (cmpLit .eql x39.2.1 a0_5) = true then
                if (cmpLit .eql (lenI x40.1) 0) = true then
                  if (cmpLit .eql x38.2.2.2.2.2.1 0) = true then
                    if (cmpLit .eql (lenI x7.1) 0) = true then
                      some (cmpLit .eql x7.2.1 0)
                    else
                      some false
                  else
                    some false
                else
                  some false
              else
                some false
            else
              some false
          else
            some false
      | .inr y28r0 =>
        some y28r0
noncomputable def d12 (a0_0 : Int) (a0_1 : List V) (a0_2 : Int) (a0_3 : Int) (a0_4 : Int) (a0_5 : Int) (a0_6 : List V) (a0_7 : Int) (a0_8 : Bool) (a1_0 : Int) (a1_1 : Int) (a1_2 : List V) : Option (Bool) :=
  (d14).bind fun x1 =>
  (d30 a0_0 a0_1 a0_2 a0_3 a0_4 a0_5 a0_6 a0_7 a0_8).bind fun x2 =>
  (d31 a1_0 a1_1 a1_2).bind fun x3 =>
  if (cmpLit .neq x2.2 0) = true then
    some x1
  else
    if (cmpLit .neq x3.2 0) = true then
      some x1
    else
      (d17 a0_0 a0_1 a0_2 a0_3 a0_4 a0_5 a0_6 a0_7 a0_8).bind fun x4 =>
      (d16 a0_0 a0_1 a0_2 a0_3 a0_4 a0_5 a0_6 a0_7 a0_8 a1_0 a1_1 a1_2).bind fun x5 =>
      (d17 x5.1 x5.2.1 x5.2.2.1 x5.2.2.2.1 x5.2.2.2.2.1 x5.2.2.2.2.2.1 x5.2.2.2.2.2.2.1 x5.2.2.2.2.2.2.2.1 x5.2.2.2.2.2.2.2.2.1).bind fun x6 =>
      if (cmpLit .neq x5.2.2.2.2.2.2.2.2.2.2 0) = true then
        some false
      else
        if (cmpLit .leq x3.1 x2.1) = true then
          if x1 = true then
            if x5.2.2.2.2.2.2.2.2.2.1 = true then
              if (cmpLit .eql (lenI x6.1) (arReal .add .i64 (lenI x4.1) 1)) = true then
                if (Bnd 0 (lenI x4.1) (lenI x6.1)) then
                  (d18 (subL x6.1 0 (lenI x4.1)) x4.1).bind fun x13 =>
                  if x13 = true then
                    if (Inb (lenI x4.1) (lenI x6.1)) then
                      (d37 (gI x6.1 (lenI x4.1) 0) (gI x6.1 (lenI x4.1) 1) (gL x6.1 (lenI x4.1) 2) a1_0 a1_1 a1_2).bind fun x14 =>
                      if x14 = true then
                        some (cmpLit .eql x5.2.2.2.2.2.1 a0_5)
                      else
                        some false
                    else none
                  else
                    some false
                else none
              else
                some false
            else
              some false
          else
            some false
        else
          if x1 = true then
            if (cmpLit .eql a0_0 3) = true then
              some true
            else
              if (notB' x5.2.2.2.2.2.2.2.2.2.1) = true then
                (d18 x6.1 x4.1).bind fun x16 =>
                some x16
              else
                some false
          else
            some false
end Go.Proofs.Ytdejapkfijdadaa
end
section
namespace Go.Proofs.Ytdejapkfijdadaa
open Go.Ab Go.RowKit
set_option maxRecDepth 100000

def rc (i : Nat) : Rc := (((i + 1 : Nat) : Int), 0, [.i .u8 1, .i .u8 2])
theorem rc_ok (i : Nat) (h : i < 5) : okR (rc i) := by
  refine ⟨decide_eq_true ⟨by show (1 : Int) ≤ ((i + 1 : Nat) : Int); omega, by show ((i + 1 : Nat) : Int) ≤ 1073741824; omega, by show (0 : Int) ≤ 0; omega, by show (0 : Int) ≤ 1099511627776; omega, by show (2 : Int) ≤ 256; omega⟩, ?_⟩
  intro v hv
  rcases List.mem_cons.1 hv with rfl | hv
  · exact ⟨1, rfl, by omega, by omega⟩
  · rw [List.mem_singleton.1 hv]
    exact ⟨2, rfl, by omega, by omega⟩
def five : Nat → Nat → Nat → AB → Nat × AB
  | 0, _, k, a => (k, a)
  | m + 1, i, k, a => five m (i + 1) (if (a.put (rc i)).2 = true then k + 1 else k) (a.put (rc i)).1
theorem five_iter : ∀ (m i k : Nat) (a : AB), i + m = 5 → k ≤ i → a.Good → iter d14_b2 ((k : Int), (i : Int), a.p, a.Y, a.S, a.E, a.W, a.dr, a.J, a.idr, a.rd) = some (.inr (((five m i k a).1 : Int), (five m i k a).2.p, (five m i k a).2.Y, (five m i k a).2.S, (five m i k a).2.E, (five m i k a).2.W, (five m i k a).2.dr, (five m i k a).2.J, (five m i k a).2.idr, (five m i k a).2.rd)) ∧ (five m i k a).2.Good
  | 0, i, k, a, h, hk, hg => by
    refine ⟨iter_inr ?_, hg⟩
    unfold d14_b2
    rw [if_neg (by rw [c_lss, dF (by dsimp only; omega)]; decide)]
    rfl
  | m + 1, i, k, a, h, hk, hg => by
    have hr := rc_ok i (by omega)
    have hp := (AB.put_ok hg hr).1
    have ih := five_iter m (i + 1) (if (a.put (rc i)).2 = true then k + 1 else k) (a.put (rc i)).1 (by omega) (by split <;> omega) hp
    refine ⟨?_, ih.2⟩
    have e1 : five (m + 1) i k a = five m (i + 1) (if (a.put (rc i)).2 = true then k + 1 else k) (a.put (rc i)).1 := rfl
    rw [e1, ← ih.1]
    refine iter_inl ?_
    unfold d14_b2
    rw [if_pos (by rw [c_lss]; exact dT (by dsimp only; omega))]
    dsimp only
    have t1 : arReal .add .i64 (i : Int) 1 = ((i + 1 : Nat) : Int) := by rw [i64add (by omega) (by omega)]; push_cast; rfl
    have t2 : arReal .add .i64 (k : Int) 1 = ((k + 1 : Nat) : Int) := by rw [i64add (by omega) (by omega)]; push_cast; rfl
    have c := AB.c16 hg hr
    simp only [rc] at c
    rw [t1, t2, c]
    simp only [Option.bind_some]
    rw [if_neg (by decide)]
    change (if (a.put (rc i)).2 = true then _ else _) = _
    by_cases hq : (a.put (rc i)).2 = true
    · rw [if_pos hq, if_pos hq]; rfl
    · rw [if_neg hq, if_neg hq]; rfl
theorem five_1 : five 5 0 0 (newA 1 64) = (4, ⟨1, 64, 0, [rc 0, rc 1, rc 2, rc 3], [], false, 1, [], 0, false⟩) := by kernel_rfl
theorem five_2 : five 5 0 0 (newA 2 64) = (4, ⟨2, 64, 0, [rc 0, rc 1, rc 2, rc 3], [], false, 1, [], 0, false⟩) := by kernel_rfl
theorem five_3 : five 5 0 0 (newA 3 64) = (5, ⟨3, 64, 16, [rc 1, rc 2, rc 3], [rc 4], true, 1, [], 0, false⟩) := by kernel_rfl
theorem s15' (p : Int) (hp : 1 ≤ p ∧ p ≤ 3) : d15 p 64 = some ((newA p 64).p, (newA p 64).Y, (newA p 64).S, (newA p 64).E, (newA p 64).W, (newA p 64).dr, (newA p 64).J, (newA p 64).idr, (newA p 64).rd, 0) := s15 p 64 (by omega)
theorem pol (p : Int) (hp : 1 ≤ p ∧ p ≤ 3) : d14_b1 p = some (.inl (p + 1)) := by
  have hg := new_good (n := 64) hp (by omega)
  obtain ⟨hi, hg5⟩ := five_iter 5 0 0 (newA p 64) rfl (Nat.le_refl _) hg
  have t1 : arReal .add .i64 p 1 = p + 1 := i64add (by omega) (by omega)
  unfold d14_b1
  rw [if_pos (by rw [c_leq]; exact dT hp.2), t1]
  refine bnd1 (a := (.inl () : Unit ⊕ Bool)) ?_ rfl
  rw [s15' p hp]
  simp only [Option.bind_some]
  rw [if_neg (by decide)]
  refine bnd1 (bnd1 hi rfl) ?_
  dsimp only
  have c := AB.c17 hg5
  rw [c]
  simp only [Option.bind_some]
  have h3 : p = 1 ∨ p = 2 ∨ p = 3 := by omega
  rcases h3 with rfl | rfl | rfl
  · rw [five_1]
    refine bnd1 (a := false) (by kernel_rfl) ?_
    rw [if_neg (by decide), if_neg (by decide)]
  · rw [five_2]
    refine bnd1 (a := false) (by kernel_rfl) ?_
    rw [if_neg (by decide), if_pos (by decide)]
    rw [five_2] at hg5
    have hs := AB.sw_good hg5 rfl
    have c25 := AB.c25_ok hg5 rfl rfl
    have c25' := AB.c25_idle hs rfl rfl
    have c26 := AB.c26_ok hs rfl rfl
    refine bnd1 c25 ?_
    dsimp only
    refine bnd1 c25' ?_
    refine bnd1 c26 ?_
    refine bnd1 (a := false) (by kernel_rfl) ?_
    rfl
  · rw [five_3]
    refine bnd1 (a := false) (by kernel_rfl) ?_
    rw [if_neg (by decide), if_neg (by decide)]
def rg1 : Rc := (1, 0, List.replicate 26 z8)
def rg2 : Rc := (2, 0, List.replicate 16 z8)
theorem rg1_ok : okR rg1 := ⟨by kernel_rfl, zs_u8 26⟩
theorem rg2_ok : okR rg2 := ⟨by kernel_rfl, zs_u8 16⟩
theorem s44 : d44 = some true := by
  have hg := new_good (p := 3) (n := 64) (by omega) (by omega)
  have c1 := AB.c16 hg rg1_ok
  have hg1 := (AB.put_ok hg rg1_ok).1
  have e1 : (newA 3 64).put rg1 = (⟨3, 64, 0, [rg1], [], false, 0, [], 0, false⟩, true) := by kernel_rfl
  rw [e1] at c1 hg1
  have c2 := AB.c16 hg1 rg2_ok
  have hg2 := (AB.put_ok hg1 rg2_ok).1
  have e2 : AB.put ⟨3, 64, 0, [rg1], [], false, 0, [], 0, false⟩ rg2 = (⟨3, 64, 0, [rg2], [], false, 1, [], 0, false⟩, true) := by kernel_rfl
  rw [e2] at c2 hg2
  have c3 := AB.c17 hg2
  unfold d44
  refine bnd1 (s15' 3 (by omega)) ?_
  dsimp only
  rw [if_pos (by unfold Ge0; omega), if_pos (room1s (by omega))]
  refine bnd1 c1 ?_
  dsimp only
  rw [if_pos (by unfold Ge0; omega), if_pos (room1s (by omega))]
  refine bnd1 c2 ?_
  dsimp only
  refine bnd1 c3 ?_
  kernel_rfl
theorem s14 : d14 = some true := by
  unfold d14
  refine bnd1 (s24 1 2 [.i .u8 9]) ?_
  have hv : validB 1 2 [.i .u8 9] = true := by kernel_rfl
  rw [if_pos hv, if_neg (by decide), if_neg (by
    have : strCmp .neq (toBy (encB 1 2 [.i .u8 9])) (ByteArray.mk #[1, 0, 0, 0, 2, 0, 0, 0, 0, 0, 0, 0, 1, 0, 9]) = false := by
      have : toBy (encB 1 2 [.i .u8 9]) = ByteArray.mk #[1, 0, 0, 0, 2, 0, 0, 0, 0, 0, 0, 0, 1, 0, 9] := by kernel_rfl
      rw [this, scmp_refl']
    rw [this]; decide)]
  have hl : iter d14_b1 1 = some (.inr () : Bool ⊕ Unit) := by
    rw [iter_inl (pol 1 (by omega)), iter_inl (pol (1 + 1) (by omega)), iter_inl (pol (1 + 1 + 1) (by omega))]
    refine iter_inr ?_
    unfold d14_b1
    rw [if_neg (by decide)]
  rw [hl]
  simp only [Option.bind_some]
  rw [s44]
  rfl
end Go.Proofs.Ytdejapkfijdadaa
end
section
namespace Go.Proofs.Ytdejapkfijdadaa
open Go.Ab Go.RowKit
set_option maxRecDepth 100000

/-- A record is valid, or not. -/
theorem ok_or {r : Rc} (h : ∀ v ∈ r.2.2, U8 v) : okR r ∨ validB r.1 r.2.1 r.2.2 = false := by
  cases hv : validB r.1 r.2.1 r.2.2 with
  | true => exact .inl ⟨hv, h⟩
  | false => exact .inr rfl
theorem p9 (p : Int) (b : List V) (s e w dr : Int) (il : List V) (idr : Int) (rd : Bool) (r : Rc) (po n : Int) (hb : ∀ v ∈ b, U8 v) (hi : ∀ v ∈ il, U8 v) (hr : ∀ v ∈ r.2.2, U8 v) : d9 p b s e w dr il idr rd r.1 r.2.1 r.2.2 po n = some true := by
  obtain ⟨x2, h2, k2⟩ : ∃ x, d15 po n = some x ∧ (x.2.2.2.2.2.2.2.2.2 ≠ 0 ∨ x.2.2.2.2.2.2.2.2.2 = 0 ∧ d29 x.1 x.2.1 x.2.2.1 x.2.2.2.1 x.2.2.2.2.1 x.2.2.2.2.2.1 x.2.2.2.2.2.2.1 x.2.2.2.2.2.2.2.1 x.2.2.2.2.2.2.2.2.1 = some 0) := by
    by_cases hn : po < 1 ∨ po > 3 ∨ n < 64 ∨ n > 4096
    · exact ⟨_, x15 _ _ hn, .inl (by dsimp only; decide)⟩
    · exact ⟨_, s15 _ _ hn, .inr ⟨rfl, AB.c29 (new_good (by omega) (by omega))⟩⟩
  obtain ⟨x3, h3, k3⟩ : ∃ x, d16 p b s e w dr il idr rd r.1 r.2.1 r.2.2 = some x ∧ (x.2.2.2.2.2.2.2.2.2.2 ≠ 0 ∨ x.2.2.2.2.2.2.2.2.2.2 = 0 ∧ d29 x.1 x.2.1 x.2.2.1 x.2.2.2.1 x.2.2.2.2.1 x.2.2.2.2.2.1 x.2.2.2.2.2.2.1 x.2.2.2.2.2.2.2.1 x.2.2.2.2.2.2.2.2.1 = some 0) := by
    rcases good_or p b s e w dr il idr rd hb hi with ⟨a, hg, rfl, rfl, rfl, rfl, rfl, rfl, rfl, rfl, rfl⟩ | hn
    · rcases ok_or hr with hv | hv
      · exact ⟨_, AB.c16 hg hv, .inr ⟨rfl, AB.c29 (AB.put_ok hg hv).1⟩⟩
      · exact ⟨_, AB.x16 hg hv, .inl (by dsimp only; decide)⟩
    · exact ⟨_, b16 hn _ _ _, .inl (by dsimp only; decide)⟩
  obtain ⟨x4, h4, k4⟩ : ∃ x, d25 p b s e w dr il idr rd = some x ∧ (x.2.2.2.2.2.2.2.2.2 ≠ 0 ∨ x.2.2.2.2.2.2.2.2.2 = 0 ∧ d29 x.1 x.2.1 x.2.2.1 x.2.2.2.1 x.2.2.2.2.1 x.2.2.2.2.2.1 x.2.2.2.2.2.2.1 x.2.2.2.2.2.2.2.1 x.2.2.2.2.2.2.2.2.1 = some 0) := by
    rcases good_or p b s e w dr il idr rd hb hi with ⟨a, hg, rfl, rfl, rfl, rfl, rfl, rfl, rfl, rfl, rfl⟩ | hn
    · by_cases hp : a.p = 2
      · cases hrd : a.rd with
        | false => rw [← hrd]; exact ⟨_, AB.c25_ok hg hp hrd, .inr ⟨rfl, AB.c29 (AB.sw_good hg hp)⟩⟩
        | true => rw [← hrd]; exact ⟨_, AB.c25_idle hg hp hrd, .inl (by dsimp only; decide)⟩
      · exact ⟨_, AB.c25_arg hg hp, .inl (by dsimp only; decide)⟩
    · exact ⟨_, b25 hn, .inl (by dsimp only; decide)⟩
  obtain ⟨x5, h5, k5⟩ : ∃ x, d26 p b s e w dr il idr rd = some x ∧ (x.2.2.2.2.2.2.2.2.2.2.2 ≠ 0 ∨ x.2.2.2.2.2.2.2.2.2.2.2 = 0 ∧ d29 x.1 x.2.1 x.2.2.1 x.2.2.2.1 x.2.2.2.2.1 x.2.2.2.2.2.1 x.2.2.2.2.2.2.1 x.2.2.2.2.2.2.2.1 x.2.2.2.2.2.2.2.2.1 = some 0) := by
    rcases good_or p b s e w dr il idr rd hb hi with ⟨a, hg, rfl, rfl, rfl, rfl, rfl, rfl, rfl, rfl, rfl⟩ | hn
    · by_cases hp : a.p = 2
      · cases hrd : a.rd with
        | true => rw [← hrd]; exact ⟨_, AB.c26_ok hg hp hrd, .inr ⟨rfl, AB.c29 (AB.rdd_good hg)⟩⟩
        | false => rw [← hrd]; exact ⟨_, AB.c26_none hg hp hrd, .inl (by dsimp only; decide)⟩
      · exact ⟨_, AB.c26_arg hg hp, .inl (by dsimp only; decide)⟩
    · exact ⟨_, b26 hn, .inl (by dsimp only; decide)⟩
  obtain ⟨x6, h6, k6⟩ : ∃ x, d28 p b s e w dr il idr rd = some x ∧ (x.2.2.2.2.2.2.2.2.2.2.2 ≠ 0 ∨ x.2.2.2.2.2.2.2.2.2.2.2 = 0 ∧ d29 x.1 x.2.1 x.2.2.1 x.2.2.2.1 x.2.2.2.2.1 x.2.2.2.2.2.1 x.2.2.2.2.2.2.1 x.2.2.2.2.2.2.2.1 x.2.2.2.2.2.2.2.2.1 = some 0) := by
    rcases good_or p b s e w dr il idr rd hb hi with ⟨a, hg, rfl, rfl, rfl, rfl, rfl, rfl, rfl, rfl, rfl⟩ | hn
    · exact ⟨_, AB.c28 hg, .inr ⟨rfl, AB.c29 (AB.emp_good hg (by omega))⟩⟩
    · exact ⟨_, b28 hn, .inl (by dsimp only; decide)⟩
  unfold d9
  rw [s14]
  simp only [Option.bind_some]
  rw [h2, h3, h4, h5, h6]
  simp only [Option.bind_some, c_neq, c_eql, decide_eq_true_eq, if_true]
  rcases k2 with k2 | ⟨k2, q2⟩ <;> rcases k3 with k3 | ⟨k3, q3⟩ <;> rcases k4 with k4 | ⟨k4, q4⟩ <;> rcases k5 with k5 | ⟨k5, q5⟩ <;> rcases k6 with k6 | ⟨k6, q6⟩ <;> simp only [*, ne_eq, not_true, not_false_eq_true, if_true, if_false, Option.bind_some, decide_true]
theorem recs_app {a : AB} (h : a.Good) (r : Rc) : (a.app r).recs = a.recs ++ [vR r] := by
  unfold AB.recs
  cases hw : a.wr with
  | true => rw [AB.app_t hw]; simp
  | false => rw [AB.app_f hw, (h.nw hw).1]; simp
theorem dr_app (a : AB) (r : Rc) : (a.app r).dr = a.dr := by
  unfold AB.app
  split <;> rfl
/-- A record that fits into what is free is stored behind all others. -/
theorem put_fit {a : AB} (hg : a.Good) {r : Rc} (hv : okR r) (hf : (rsz r : Int) ≤ a.free) : ∃ c, a.put r = (c, true) ∧ c.recs = a.recs ++ [vR r] ∧ c.dr = a.dr := by
  have he := AB.e_le hg
  have hd := hg.dr1
  have ht2 := AB.top_le hg
  have hr14 : 14 ≤ rsz r := by unfold rsz; omega
  unfold AB.free at hf
  unfold AB.put
  by_cases hp : a.p = 3
  · rw [if_neg (fun h => h.1 hp)] at hf
    rw [if_pos hp]
    cases hw : a.wr with
    | true =>
      rw [if_pos hw] at hf
      have ht := AB.top_t hw
      rw [if_neg (by omega)]
      unfold AB.ringN
      rw [if_pos (by omega)]
      exact ⟨_, rfl, recs_app hg r, dr_app a r⟩
    | false =>
      rw [if_neg (by rw [hw]; decide), if_pos hp] at hf
      unfold mxI at hf
      have ht := AB.top_f hw
      have hfit := hg.fit
      by_cases h1 : a.e + rsz r ≤ a.top
      · rw [if_neg (by omega)]
        unfold AB.ringN
        rw [if_pos h1]
        exact ⟨_, rfl, recs_app hg r, dr_app a r⟩
      · have hs : rsz r ≤ a.s := by
          split at hf <;> omega
        rw [if_neg (by omega)]
        have hA := AB.fits_empty hg (by omega) h1 hw
        have hmu : a.mu = (2 * (a.A.length + a.B.length)) + 1 := by unfold AB.mu; rw [hw]; rfl
        have ht3 : a.turn.e + rsz r ≤ a.turn.top := by
          rw [AB.e_t rfl, AB.top_t rfl]
          show sz a.B + rsz r ≤ a.s
          rw [(hg.nw hw).1]
          simp only [sz]; omega
        rw [hmu]
        unfold AB.ringN
        rw [if_neg h1, if_neg (by rw [hw]; decide)]
        unfold AB.ringN
        rw [if_pos ht3]
        exact ⟨_, rfl, recs_app (AB.turn_good hg hp hA hw) r, dr_app a.turn r⟩
  · rw [if_neg hp]
    have hw := (hg.np hp).2
    have ht := AB.top_f hw
    by_cases hd0 : a.dr ≠ 0
    · rw [if_pos ⟨hp, hd0⟩] at hf
      omega
    · rw [if_neg (fun h => hd0 h.2), if_neg (by rw [hw]; decide), if_neg hp] at hf
      rw [if_neg (by omega)]
      exact ⟨_, rfl, recs_app hg r, dr_app a r⟩
/-- A record that does not fit is dropped, but in a ring. -/
theorem put_no {a : AB} (hg : a.Good) {r : Rc} (hf : ¬ (rsz r : Int) ≤ a.free) (hp : a.p ≠ 3) : (a.put r).2 = false ∧ (a.put r).1.recs = a.recs := by
  have hd := hg.dr1
  have hw := (hg.np hp).2
  unfold AB.free at hf
  unfold AB.put
  rw [if_neg hp]
  by_cases hd0 : a.dr ≠ 0
  · rw [if_pos (.inl (by omega))]
    exact ⟨rfl, rfl⟩
  · rw [if_neg (fun h => hd0 h.2), if_neg (by rw [hw]; decide), if_neg hp] at hf
    rw [if_pos (.inr (by omega))]
    exact ⟨rfl, rfl⟩
theorem recs_len (a : AB) : a.recs.length = a.A.length + a.B.length := by
  unfold AB.recs
  rw [List.length_map, List.length_append]
theorem p12 (p : Int) (b : List V) (s e w dr : Int) (il : List V) (idr : Int) (rd : Bool) (r : Rc) (hb : ∀ v ∈ b, U8 v) (hi : ∀ v ∈ il, U8 v) (hr : ∀ v ∈ r.2.2, U8 v) : d12 p b s e w dr il idr rd r.1 r.2.1 r.2.2 = some true := by
  unfold d12
  rw [s14, s31]
  simp only [Option.bind_some, if_true]
  rcases good_or p b s e w dr il idr rd hb hi with ⟨a, hg, rfl, rfl, rfl, rfl, rfl, rfl, rfl, rfl, rfl⟩ | hn
  · rw [AB.c30 hg]
    simp only [Option.bind_some, if_true]
    rw [if_neg (by decide)]
    rcases ok_or hr with hv | hv
    · have hg2 := (AB.put_ok hg hv).1
      have c := AB.c16 hg hv
      have hc := AB.count_le hg
      rw [if_pos hv.1, if_neg (show ¬ cmpLit .neq 0 0 = true by decide), AB.c17 hg]
      simp only [Option.bind_some, if_true]
      rw [c]
      simp only [Option.bind_some, if_true]
      rw [AB.c17 hg2]
      simp only [Option.bind_some, if_true]
      rw [if_neg (by decide), c_leq]
      have hlen : lenI a.recs = (a.recs.length : Int) := rfl
      have hlen' := recs_len a
      have hsz : ((14 + r.2.2.length : Nat) : Int) = (rsz r : Int) := rfl
      rw [hsz]
      by_cases hf : (rsz r : Int) ≤ a.free
      · obtain ⟨c, h1, h2, h3⟩ := put_fit hg hv hf
        have hlc : lenI c.recs = ((a.recs.length + 1 : Nat) : Int) := by rw [h2]; unfold lenI; simp
        have hsub : subL c.recs 0 (a.recs.length : Int) = a.recs := by
          rw [show (0 : Int) = ((0 : Nat) : Int) from rfl, subL_nat, List.drop_zero, h2, List.take_left' rfl]
        rw [if_pos (dT hf), h1]
        simp only [if_true]
        rw [hlc, hlen, i64add (by omega) (by omega), if_pos (by rw [c_eql]; exact dT (by push_cast; rfl)), if_pos (by unfold Bnd; omega), hsub, s18 _ (by omega)]
        simp only [Option.bind_some, if_true]
        have hc' : c.recs = (a.A ++ a.B ++ [r]).map vR := by
          rw [h2]; unfold AB.recs; simp
        have hk : (a.A ++ a.B ++ [r])[a.recs.length]'(by simp [hlen']) = r := by
          simp [hlen']
        rw [if_pos (by unfold Inb; omega), hc', g_0 _ _ (by simp [hlen']), g_1 _ _ (by simp [hlen']), g_2 _ _ (by simp [hlen']), hk, s37]
        simp only [Option.bind_some, if_true]
        rw [h3, c_eql, dT rfl]
      · rw [if_neg (by rw [dF hf]; decide), c_eql]
        by_cases hp : a.p = 3
        · rw [if_pos (dT hp)]
        · obtain ⟨h1, h2⟩ := put_no hg hf hp
          rw [if_neg (by rw [dF hp]; decide), h1, if_pos (by decide), h2, s18 _ (by omega)]
          rfl
    · rw [hv, if_neg Bool.false_ne_true, if_pos (by rw [c_neq]; decide)]
  · rw [b30 hn]
    simp only [Option.bind_some, if_true]
    rw [if_pos (by decide)]
theorem p10 (p : Int) (b : List V) (s e w dr : Int) (il : List V) (idr : Int) (rd : Bool) (hb : ∀ v ∈ b, U8 v) (hi : ∀ v ∈ il, U8 v) : d10 p b s e w dr il idr rd = some true := by
  unfold d10
  rw [s14]
  simp only [Option.bind_some, if_true]
  rcases good_or p b s e w dr il idr rd hb hi with ⟨a, hg, rfl, rfl, rfl, rfl, rfl, rfl, rfl, rfl, rfl⟩ | hn
  · have he := AB.emp_good hg (dr := 0) (by omega)
    have hc := AB.count_le hg
    have hl := recs_len a
    have hI : a.I.length ≤ 600 := by
      have := sz_count a.I; have := hg.il; have := hg.n1; omega
    have hIm : (a.I.map vR).length ≤ 600 := by rw [List.length_map]; exact hI
    have r0 : (a.emp 0).recs = [] := rfl
    have i0 : (a.emp 0).I = a.I := rfl
    have j0 : (a.emp 0).idr = a.idr := rfl
    have k0 : (a.emp 0).dr = 0 := rfl
    rw [AB.c17 hg]
    simp only [Option.bind_some]
    rw [if_neg (by decide), AB.c27 hg]
    simp only [Option.bind_some]
    rw [AB.c28 hg]
    simp only [Option.bind_some]
    rw [AB.c17 he]
    simp only [Option.bind_some]
    rw [AB.c27 he]
    simp only [Option.bind_some]
    refine bnd1 (a := false) ?_ ?_
    · rw [r0, i0, j0, k0, if_neg (by decide), s18 _ (by omega)]
      simp only [Option.bind_some]
      rw [if_neg (by decide), c_neq, dF (by simp), if_neg (by decide), if_neg (by decide), if_neg (by decide), s18 _ (by omega)]
      simp only [Option.bind_some]
      rw [if_neg (by decide), c_neq, dF (by simp)]
    rw [if_neg (by decide)]
    by_cases hp : a.p = 2
    · have hB : a.B = [] := (hg.nw (hg.np (by omega)).2).1
      cases hrd : a.rd with
      | true =>
        have c26 := AB.c26_ok hg hp hrd
        have c25 := AB.c25_idle hg hp hrd
        rw [hrd] at c26 c25
        have hr := AB.rdd_good hg
        have r1 : a.rdd.recs = a.recs := rfl
        have r2 : a.rdd.dr = a.dr := rfl
        have r3 : a.rdd.I = [] := rfl
        have r4 : a.rdd.idr = 0 := rfl
        rw [c26]
        simp only [Option.bind_some]
        refine bnd1 (a := (.inl () : Unit ⊕ Bool)) ?_ ?_
        · rw [if_pos (by decide), AB.c17 hr]
          simp only [Option.bind_some]
          rw [AB.c27 hr]
          simp only [Option.bind_some]
          refine bnd1 (a := false) ?_ (by rw [if_neg (by decide)])
          rw [r1, r2, r3, r4, s18 _ (by omega)]
          simp only [Option.bind_some]
          rw [if_neg (by decide), c_neq, dF (by simp), if_neg (by decide), if_neg (by decide), if_neg (by decide), s18 _ (by omega)]
          simp only [Option.bind_some]
          rw [if_neg (by decide), c_neq, dF (by simp)]
        simp only
        rw [c25]
        simp only [Option.bind_some]
        rw [if_pos (by decide)]
      | false =>
        have c26 := AB.c26_none hg hp hrd
        have c25 := AB.c25_ok hg hp hrd
        rw [hrd] at c26 c25
        have hs := AB.sw_good hg hp
        obtain ⟨n1, n2⟩ := hg.nrd hrd
        have r1 : a.sw.recs = [] := rfl
        have r2 : a.sw.dr = 0 := rfl
        have r3 : a.sw.I = a.A := rfl
        have r4 : a.sw.idr = a.dr := rfl
        have r5 : a.A.map vR = a.recs := by unfold AB.recs; rw [hB, List.append_nil]
        rw [c26]
        simp only [Option.bind_some]
        refine bnd1 (a := (.inl () : Unit ⊕ Bool)) (by rw [if_neg (by decide)]) ?_
        simp only
        rw [c25]
        simp only [Option.bind_some]
        rw [if_neg (by decide), AB.c27 hs]
        simp only [Option.bind_some]
        rw [AB.c17 hs]
        simp only [Option.bind_some]
        rw [r1, r2, r3, r4, r5, s18 _ (by omega)]
        simp only [Option.bind_some, if_true]
        rw [c_eql, if_pos (dT rfl), if_pos (by decide), if_pos (by decide), n1, n2, if_pos (by decide)]
        rfl
    · rw [AB.c26_arg hg hp]
      simp only [Option.bind_some]
      refine bnd1 (a := (.inl () : Unit ⊕ Bool)) (by rw [if_neg (by decide)]) ?_
      simp only
      rw [AB.c25_arg hg hp]
      simp only [Option.bind_some]
      rw [if_pos (by decide)]
  · rw [b17 hn]
    simp only [Option.bind_some]
    rw [if_pos (by decide), b29 hn]
    rfl
end Go.Proofs.Ytdejapkfijdadaa
end
section
namespace Go.Proofs.Ytdejapkfijdadaa
open Go.Ab Go.RowKit
set_option maxRecDepth 100000

theorem mn_eq {x : Int} (h : x ≤ 1099511627776) : mnI x 1099511627776 = x := by
  unfold mnI
  split <;> omega
theorem mn_le {x y : Int} (h : x ≤ y) : mnI x 1099511627776 ≤ mnI y 1099511627776 := by
  unfold mnI
  split <;> split <;> omega
/-- A write by the policies that keep the first records. -/
theorem putf {a : AB} (hg : a.Good) (hp : a.p ≠ 3) (r : Rc) : a.put r = if 0 < a.dr ∨ a.n < sz a.A + rsz r then ({ a with dr := mnI (a.dr + 1) 1099511627776 }, false) else ({ a with A := a.A ++ [r] }, true) := by
  obtain ⟨h0, hw⟩ := hg.np hp
  unfold AB.put
  have e1 : a.e = sz a.A := by rw [AB.e_f hw, h0, Nat.zero_add]
  rw [if_neg hp, e1, AB.app_f hw]
/-- Two buffers that were written alike, the second one not smaller. -/
structure Sz (a b : AB) : Prop where
  ga : a.Good
  gb : b.Good
  pa : a.p = 1
  pb : b.p = 1
  nn : a.n ≤ b.n
  pre : ∃ t, b.A = a.A ++ t
  dd : b.dr ≤ a.dr
  zz : a.dr = 0 → b.dr = 0 ∧ a.A = b.A
theorem Sz.step {a b : AB} (h : Sz a b) {r : Rc} (hr : okR r) : Sz (a.put r).1 (b.put r).1 := by
  have l1 := AB.put_ok h.ga hr
  have l2 := AB.put_ok h.gb hr
  have d1 := h.ga.dr1
  have d2 := h.gb.dr1
  refine ⟨l1.1, l2.1, l1.2.1.trans h.pa, l2.2.1.trans h.pb, by rw [l1.2.2.1, l2.2.2.1]; exact h.nn, ?_, ?_, ?_⟩
  all_goals rw [putf h.ga (by rw [h.pa]; decide), putf h.gb (by rw [h.pb]; decide)]
  · obtain ⟨t, ht⟩ := h.pre
    by_cases c1 : 0 < a.dr ∨ a.n < sz a.A + rsz r
    · rw [if_pos c1]
      by_cases c2 : 0 < b.dr ∨ b.n < sz b.A + rsz r
      · rw [if_pos c2]; exact ⟨t, ht⟩
      · rw [if_neg c2]; exact ⟨t ++ [r], by dsimp only; rw [ht, List.append_assoc]⟩
    · have z := h.zz (by omega)
      have := h.nn
      rw [if_neg c1, if_neg (by rw [← z.2]; omega)]
      exact ⟨[], by dsimp only; rw [z.2, List.append_nil]⟩
  · by_cases c1 : 0 < a.dr ∨ a.n < sz a.A + rsz r
    · rw [if_pos c1]
      by_cases c2 : 0 < b.dr ∨ b.n < sz b.A + rsz r
      · rw [if_pos c2]; exact mn_le (by have := h.dd; omega)
      · rw [if_neg c2]
        have := h.dd
        have q : mnI (b.dr + 1) 1099511627776 ≤ mnI (a.dr + 1) 1099511627776 := mn_le (by omega)
        dsimp only
        unfold mnI at *
        split <;> omega
    · have z := h.zz (by omega)
      have := h.nn
      rw [if_neg c1, if_neg (by rw [← z.2]; omega)]
      exact h.dd
  · by_cases c1 : 0 < a.dr ∨ a.n < sz a.A + rsz r
    · rw [if_pos c1]
      intro hh
      have : mnI (a.dr + 1) 1099511627776 = 0 := hh
      unfold mnI at this
      split at this <;> omega
    · have z := h.zz (by omega)
      have := h.nn
      rw [if_neg c1, if_neg (by rw [← z.2]; omega)]
      exact fun hh => ⟨z.1, by dsimp only; rw [z.2]⟩
theorem p3l (rs : List Rc) (hrs : ∀ r ∈ rs, ∀ v ∈ r.2.2, U8 v) (a b : AB) (h : Sz a b) : ∃ y, iter (d3_b1 (rs.map vR)) (0, b.p, b.Y, b.S, b.E, b.W, b.dr, b.J, b.idr, b.rd, a.p, a.Y, a.S, a.E, a.W, a.dr, a.J, a.idr, a.rd) = some y ∧ ∃ a b : AB, y = .inr (b.p, b.Y, b.S, b.E, b.W, b.dr, b.J, b.idr, b.rd, a.p, a.Y, a.S, a.E, a.W, a.dr, a.J, a.idr, a.rd) ∧ Sz a b := by
  refine iter_of (fun st => ∃ (i : Nat) (a b : AB), st = ((i : Int), b.p, b.Y, b.S, b.E, b.W, b.dr, b.J, b.idr, b.rd, a.p, a.Y, a.S, a.E, a.W, a.dr, a.J, a.idr, a.rd) ∧ i ≤ rs.length ∧ Sz a b) (fun st => (rs.length - st.1).toNat) _ ?_ _ ⟨0, a, b, rfl, by omega, h⟩
  rintro st ⟨i, a, b, rfl, hi, h⟩
  have ll : lenI (rs.map vR) = (rs.length : Int) := by unfold lenI; rw [List.length_map]
  by_cases hlt : i < rs.length
  · by_cases h120 : i < 120
    · left
      have t1 : arReal .add .i64 (i : Int) 1 = ((i + 1 : Nat) : Int) := by rw [i64add (by omega) (by omega)]; push_cast; rfl
      have c0 : cmpLit .lss (i : Int) (lenI (rs.map vR)) = true := by rw [c_lss, ll]; exact dT (by omega)
      have c1 : cmpLit .lss (i : Int) 120 = true := by rw [c_lss]; exact dT (by omega)
      have c2 : Inb (i : Int) (lenI (rs.map vR)) := by rw [ll]; unfold Inb; omega
      have hm := hrs rs[i] (List.getElem_mem hlt)
      rcases ok_or hm with hv | hv
      · have cA := AB.c16 h.ga hv
        have cB := AB.c16 h.gb hv
        refine ⟨_, ?_, ⟨i + 1, (a.put rs[i]).1, (b.put rs[i]).1, rfl, by omega, h.step hv⟩, ?_⟩
        · unfold d3_b1
          dsimp only
          rw [if_pos c0, if_pos c1, if_pos c2, g_0 _ _ hlt, g_1 _ _ hlt, g_2 _ _ hlt, cA]
          simp only [Option.bind_some]
          rw [if_pos c2, cB]
          simp only [Option.bind_some]
          rw [if_neg (by decide), if_pos (by decide), t1]
        · show (((rs.length : Int) - ((i + 1 : Nat) : Int))).toNat < (((rs.length : Int) - ((i : Nat) : Int))).toNat
          omega
      · have cA := AB.x16 h.ga hv
        have cB := AB.x16 h.gb hv
        refine ⟨_, ?_, ⟨i + 1, a, b, rfl, by omega, h⟩, ?_⟩
        · unfold d3_b1
          dsimp only
          rw [if_pos c0, if_pos c1, if_pos c2, g_0 _ _ hlt, g_1 _ _ hlt, g_2 _ _ hlt, cA]
          simp only [Option.bind_some]
          rw [if_pos c2, cB]
          simp only [Option.bind_some]
          rw [if_neg (by decide), if_neg (by decide), t1]
        · show (((rs.length : Int) - ((i + 1 : Nat) : Int))).toNat < (((rs.length : Int) - ((i : Nat) : Int))).toNat
          omega
    · right
      refine ⟨_, ?_, a, b, rfl, h⟩
      unfold d3_b1
      dsimp only
      rw [if_pos (by rw [c_lss, ll]; exact dT (by omega)), if_neg (by rw [c_lss, dF (by omega)]; decide)]
  · right
    refine ⟨_, ?_, a, b, rfl, h⟩
    unfold d3_b1
    dsimp only
    rw [if_neg (by rw [c_lss, ll, dF (by omega)]; decide)]
theorem p3 (rs : List Rc) (hrs : ∀ r ∈ rs, ∀ v ∈ r.2.2, U8 v) (size more : Int) : d3 (rs.map vR) size more = some true := by
  unfold d3
  rw [s14]
  simp only [Option.bind_some, if_true]
  by_cases h1 : (1 : Int) < 1 ∨ (1 : Int) > 3 ∨ size < 64 ∨ size > 4096
  · obtain ⟨y, hy⟩ : ∃ y, d15 1 more = some y := by
      by_cases h2 : (1 : Int) < 1 ∨ (1 : Int) > 3 ∨ more < 64 ∨ more > 4096
      · exact ⟨_, x15 _ _ h2⟩
      · exact ⟨_, s15 _ _ h2⟩
    rw [x15 _ _ h1, hy]
    simp only [Option.bind_some]
    rw [if_pos (by decide)]
  rw [s15 _ _ h1]
  simp only [Option.bind_some]
  by_cases h2 : (1 : Int) < 1 ∨ (1 : Int) > 3 ∨ more < 64 ∨ more > 4096
  · rw [x15 _ _ h2]
    simp only [Option.bind_some]
    rw [if_neg (by decide), if_pos (by decide)]
  rw [s15 _ _ h2]
  simp only [Option.bind_some]
  rw [if_neg (by decide), if_neg (by decide), c_lss]
  by_cases h3 : more < size
  · rw [if_pos (dT h3)]
  rw [if_neg (by rw [dF h3]; decide)]
  have hz : Sz (newA 1 size.toNat) (newA 1 more.toNat) := ⟨new_good (by omega) (by omega), new_good (by omega) (by omega), rfl, rfl, by show size.toNat ≤ more.toNat; omega, ⟨[], rfl⟩, Int.le_refl _, fun _ => ⟨rfl, rfl⟩⟩
  obtain ⟨y, hy, a, b, rfl, h⟩ := p3l rs hrs _ _ hz
  refine bnd1 (bnd1 hy rfl) ?_
  dsimp only
  rw [AB.c17 h.ga]
  simp only [Option.bind_some]
  rw [AB.c17 h.gb]
  simp only [Option.bind_some]
  obtain ⟨t, ht⟩ := h.pre
  have ba : a.B = [] := (h.ga.nw (h.ga.np (by rw [h.pa]; decide)).2).1
  have bb : b.B = [] := (h.gb.nw (h.gb.np (by rw [h.pb]; decide)).2).1
  have hr : b.recs = a.recs ++ t.map vR := by unfold AB.recs; rw [ba, bb, ht]; simp
  have hl := recs_len a
  have hc := AB.count_le h.ga
  have hsub : subL b.recs 0 (lenI a.recs) = a.recs := by
    unfold lenI
    rw [show (0 : Int) = ((0 : Nat) : Int) from rfl, subL_nat, List.drop_zero, hr, List.take_left' rfl]
  have hlen : b.recs.length = a.recs.length + t.length := by rw [hr]; simp
  rw [if_pos (by rw [c_geq]; exact dT (by unfold lenI; omega)), if_pos (by unfold Bnd lenI; omega), hsub, s18 _ (by omega)]
  simp only [Option.bind_some, if_true]
  rw [c_leq, dT h.dd]
end Go.Proofs.Ytdejapkfijdadaa
end
section
namespace Go.Proofs.Ytdejapkfijdadaa
open Go.Ab Go.RowKit
set_option maxRecDepth 100000

/-- The valid ones of records. -/
def vld (rs : List Rc) : List Rc := rs.filter (fun r => validB r.1 r.2.1 r.2.2)
def szV (r : Rc) : V := .i .i64 (rsz r : Int)
theorem vld_ok {rs : List Rc} (hrs : ∀ r ∈ rs, ∀ v ∈ r.2.2, U8 v) : ∀ r ∈ vld rs, okR r := by
  intro r hr
  obtain ⟨h1, h2⟩ := List.mem_filter.1 hr
  exact ⟨h2, hrs r h1⟩
theorem vld_len (rs : List Rc) : (vld rs).length ≤ rs.length := List.length_filter_le _ _
theorem vld_t {rs : List Rc} {i : Nat} (h : i < rs.length) (hv : validB rs[i].1 rs[i].2.1 rs[i].2.2 = true) : vld (rs.take (i + 1)) = vld (rs.take i) ++ [rs[i]] := by
  unfold vld
  rw [List.take_succ_eq_append_getElem h, List.filter_append]
  congr 1
  rw [List.filter_cons, if_pos hv]; rfl
theorem vld_f {rs : List Rc} {i : Nat} (h : i < rs.length) (hv : validB rs[i].1 rs[i].2.1 rs[i].2.2 = false) : vld (rs.take (i + 1)) = vld (rs.take i) := by
  unfold vld
  rw [List.take_succ_eq_append_getElem h, List.filter_append]
  rw [List.filter_cons, if_neg (by rw [hv]; decide), List.filter_nil, List.append_nil]
theorem g_n (rs : List Rc) (i : Nat) (h : i < rs.length) : gI (rs.map szV) (i : Int) 0 = (rsz rs[i] : Int) := by
  unfold gI elAt
  simp [List.getD_eq_getElem?_getD, h, szV, cellAt, Ab.asInt]
theorem s19 (rs : List Rc) : d19 (rs.map vR) 120 = some ((vld (rs.take 120)).map vR, (vld (rs.take 120)).map szV) := by
  have ll : lenI (rs.map vR) = (rs.length : Int) := by unfold lenI; rw [List.length_map]
  have hI : iter (d19_b1 (rs.map vR) 120) ((0 : Int), ([] : List V), ([] : List V)) = some ((vld (rs.take 120)).map vR, (vld (rs.take 120)).map szV) := by
    refine iter_fun (fun st => ∃ i : Nat, i ≤ rs.length ∧ i ≤ 120 ∧ st = ((i : Int), (vld (rs.take i)).map vR, (vld (rs.take i)).map szV)) (fun st => (rs.length - st.1).toNat) (fun _ => _) ?_ _ ⟨0, by omega, by omega, rfl⟩
    rintro st ⟨i, hi, h120, rfl⟩
    by_cases hlt : i < rs.length
    · have c0 : cmpLit .lss (i : Int) (lenI (rs.map vR)) = true := by rw [c_lss, ll]; exact dT (by omega)
      by_cases h12 : i < 120
      · left
        have c1 : cmpLit .lss (i : Int) 120 = true := by rw [c_lss]; exact dT (by omega)
        have c2 : Inb (i : Int) (lenI (rs.map vR)) := by rw [ll]; unfold Inb; omega
        have t1 : arReal .add .i64 (i : Int) 1 = ((i + 1 : Nat) : Int) := by rw [i64add (by omega) (by omega)]; push_cast; rfl
        have hvl := vld_len (rs.take i)
        have htl : (rs.take i).length ≤ 120 := by simp; omega
        refine ⟨_, ?_, ⟨i + 1, by omega, by omega, rfl⟩, by simp; omega, rfl⟩
        unfold d19_b1
        dsimp only
        rw [if_pos c0, if_pos c1, if_pos c2, g_0 _ _ hlt, g_1 _ _ hlt, g_2 _ _ hlt, s31]
        simp only [Option.bind_some]
        cases hv : validB rs[i].1 rs[i].2.1 rs[i].2.2 with
        | true =>
          rw [if_pos rfl, if_pos (show cmpLit .eql 0 0 = true by decide), if_pos c2, if_pos (room40s (by simp [lenI, appL]; omega)), if_pos (by unfold Room lenI appL; simp; omega), vld_t hlt hv, t1, List.map_append, List.map_append]
          rfl
        | false =>
          rw [if_neg Bool.false_ne_true, if_neg (show ¬ cmpLit .eql 221 0 = true by decide), vld_f hlt hv, t1]
      · right
        obtain rfl : i = 120 := by omega
        unfold d19_b1
        dsimp only
        rw [if_pos c0, if_neg (by decide)]
    · right
      unfold d19_b1
      dsimp only
      have e1 : rs.take i = rs.take 120 := by rw [List.take_of_length_le (by omega), List.take_of_length_le (by omega)]
      rw [if_neg (by rw [c_lss, ll, dF (by omega)]; decide), e1]
  unfold d19
  rw [hI]
  rfl
theorem sz_take {rs : List Rc} {i : Nat} (h : i < rs.length) : sz (rs.take (i + 1)) = sz (rs.take i) + rsz rs[i] := by
  rw [List.take_succ_eq_append_getElem h, sz_app, sz_one]
structure Pr (vs : List Rc) (n : Nat) (i k : Nat) (a : AB) : Prop where
  g : a.Good
  p : a.p ≠ 3
  n : a.n = n
  le : k ≤ i
  len : i ≤ vs.length
  A : a.A = vs.take k
  dr : a.dr = ((i - k : Nat) : Int)
theorem pl4l (vs : List Rc) (hvs : ∀ r ∈ vs, okR r) (hl : vs.length ≤ 120) (n : Nat) (hn : n ≤ 4096) (a : AB) (h : Pr vs n 0 0 a) : ∃ y, iter (d4_b1 (n : Int) (vs.map vR, vs.map szV)) (0, 0, 0, a.p, a.Y, a.S, a.E, a.W, a.dr, a.J, a.idr, a.rd) = some y ∧ ∃ (k : Nat) (a : AB), y = .inr ((k : Int), a.p, a.Y, a.S, a.E, a.W, a.dr, a.J, a.idr, a.rd) ∧ Pr vs n vs.length k a := by
  refine iter_of (fun st => ∃ (i k : Nat) (a : AB), st = ((k : Int), ((sz (vs.take k) : Nat) : Int), (i : Int), a.p, a.Y, a.S, a.E, a.W, a.dr, a.J, a.idr, a.rd) ∧ Pr vs n i k a) (fun st => (vs.length - st.2.2.1).toNat) _ ?_ _ ⟨0, 0, a, rfl, h⟩
  rintro st ⟨i, k, a, rfl, h⟩
  have ll : lenI (vs.map vR) = (vs.length : Int) := by unfold lenI; rw [List.length_map]
  have l2 : lenI (vs.map szV) = (vs.length : Int) := by unfold lenI; rw [List.length_map]
  have hk := h.le
  by_cases hlt : i < vs.length
  · left
    have hr := hvs vs[i] (List.getElem_mem hlt)
    have hrs := okR_sz hr
    have ok := AB.put_ok h.g hr
    have c0 : cmpLit .lss (i : Int) (lenI (vs.map vR)) = true := by rw [c_lss, ll]; exact dT (by omega)
    have c2 : Inb (i : Int) (lenI (vs.map vR)) := by rw [ll]; unfold Inb; omega
    have c3 : Inb (i : Int) (lenI (vs.map szV)) := by rw [l2]; unfold Inb; omega
    have t1 : arReal .add .i64 (i : Int) 1 = ((i + 1 : Nat) : Int) := by rw [i64add (by omega) (by omega)]; push_cast; rfl
    have t2 : arReal .add .i64 (k : Int) 1 = ((k + 1 : Nat) : Int) := by rw [i64add (by omega) (by omega)]; push_cast; rfl
    have hsz : sz (vs.take k) ≤ n := by
      have := h.g.fit; rw [h.A, h.n] at this; omega
    have t3 : arReal .add .i64 ((sz (vs.take k) : Nat) : Int) (rsz vs[i] : Int) = ((sz (vs.take k) + rsz vs[i] : Nat) : Int) := by rw [i64add (by omega) (by omega)]; push_cast; rfl
    have hput := putf h.g h.p vs[i]
    rw [h.A, h.n, h.dr] at hput
    have hmes : (((vs.length : Int) - ((i + 1 : Nat) : Int))).toNat < (((vs.length : Int) - ((i : Nat) : Int))).toNat := by omega
    by_cases hki : k = i
    · by_cases hf : sz (vs.take k) + rsz vs[i] ≤ n
      · -- it fits
        rw [if_neg (by omega)] at hput
        have hp2 : (a.put vs[i]).2 = true := by rw [hput]
        refine ⟨_, ?_, ⟨i + 1, k + 1, (a.put vs[i]).1, rfl, ⟨ok.1, by rw [ok.2.1]; exact h.p, by rw [ok.2.2.1]; exact h.n, by omega, by omega, ?_, ?_⟩⟩, hmes⟩
        · unfold d4_b1
          dsimp only
          rw [if_pos c0, if_pos c2, g_0 _ _ hlt, g_1 _ _ hlt, g_2 _ _ hlt, AB.c16 h.g hr]
          simp only [Option.bind_some]
          rw [if_neg (by decide)]
          refine bnd1 (a := true) ?_ ?_
          · rw [c_eql, if_pos (dT (by omega)), if_pos c3, g_n _ _ hlt, t3, c_leq, dT (by omega)]
          rw [if_pos rfl, if_pos c3, g_n _ _ hlt, t3, t1, t2, if_neg (by rw [hp2, c_eql, dT (by omega)]; decide)]
          have := sz_take (rs := vs) (i := i) hlt
          rw [hki, this]
        · rw [hput]
          show vs.take k ++ [vs[i]] = vs.take (k + 1)
          subst hki
          rw [List.take_succ_eq_append_getElem hlt]
        · rw [hput]
          show ((i - k : Nat) : Int) = _
          congr 1; omega
      · rw [if_pos (by omega)] at hput
        have hp2 : (a.put vs[i]).2 = false := by rw [hput]
        refine ⟨_, ?_, ⟨i + 1, k, (a.put vs[i]).1, rfl, ⟨ok.1, by rw [ok.2.1]; exact h.p, by rw [ok.2.2.1]; exact h.n, by omega, by omega, ?_, ?_⟩⟩, hmes⟩
        · unfold d4_b1
          dsimp only
          rw [if_pos c0, if_pos c2, g_0 _ _ hlt, g_1 _ _ hlt, g_2 _ _ hlt, AB.c16 h.g hr]
          simp only [Option.bind_some]
          rw [if_neg (by decide)]
          refine bnd1 (a := false) ?_ ?_
          · rw [c_eql, if_pos (dT (by omega)), if_pos c3, g_n _ _ hlt, t3, c_leq, dF (by omega)]
          rw [if_neg (by decide), t1, if_neg (by rw [hp2, c_eql, dF (by omega)]; decide)]
        · rw [hput]
        · rw [hput]
          show mnI (((i - k : Nat) : Int) + 1) 1099511627776 = _
          rw [mn_eq (by omega)]; omega
    · rw [if_pos (by omega)] at hput
      have hp2 : (a.put vs[i]).2 = false := by rw [hput]
      refine ⟨_, ?_, ⟨i + 1, k, (a.put vs[i]).1, rfl, ⟨ok.1, by rw [ok.2.1]; exact h.p, by rw [ok.2.2.1]; exact h.n, by omega, by omega, ?_, ?_⟩⟩, hmes⟩
      · unfold d4_b1
        dsimp only
        rw [if_pos c0, if_pos c2, g_0 _ _ hlt, g_1 _ _ hlt, g_2 _ _ hlt, AB.c16 h.g hr]
        simp only [Option.bind_some]
        rw [if_neg (by decide)]
        refine bnd1 (a := false) ?_ ?_
        · rw [c_eql, if_neg (by rw [dF (by omega)]; decide)]
        rw [if_neg (by decide), t1, if_neg (by rw [hp2, c_eql, dF (by omega)]; decide)]
      · rw [hput]
      · rw [hput]
        show mnI (((i - k : Nat) : Int) + 1) 1099511627776 = _
        rw [mn_eq (by omega)]; omega
  · right
    obtain rfl : i = vs.length := by have := h.len; omega
    refine ⟨_, ?_, k, a, rfl, h⟩
    unfold d4_b1
    dsimp only
    rw [if_neg (by rw [c_lss, ll, dF (by omega)]; decide)]
theorem pl4 (rs : List Rc) (hrs : ∀ r ∈ rs, ∀ v ∈ r.2.2, U8 v) (size : Int) (other : Bool) : d4 (rs.map vR) size other = some true := by
  unfold d4
  rw [s14]
  simp only [Option.bind_some, if_true]
  obtain ⟨po, hpo, hp⟩ : ∃ po : Int, (if other = true then some 2 else some 1) = some po ∧ (po = 1 ∨ po = 2) := by
    cases other
    · exact ⟨1, rfl, .inl rfl⟩
    · exact ⟨2, rfl, .inr rfl⟩
  refine bnd1 hpo ?_
  by_cases h1 : po < 1 ∨ po > 3 ∨ size < 64 ∨ size > 4096
  · rw [x15 _ _ h1]
    simp only [Option.bind_some]
    rw [if_pos (by decide)]
  rw [s15 _ _ h1]
  simp only [Option.bind_some]
  rw [if_neg (by decide), s19]
  simp only [Option.bind_some]
  have hvs := vld_ok (rs := rs.take 120) (fun r hr => hrs r (List.mem_of_mem_take hr))
  have hvl : (vld (rs.take 120)).length ≤ 120 := by
    have := vld_len (rs.take 120)
    have h2 : (rs.take 120).length ≤ 120 := by simp; omega
    omega
  generalize vld (rs.take 120) = vs at hvs hvl
  obtain ⟨n, rfl⟩ : ∃ n : Nat, size = n := ⟨size.toNat, by omega⟩
  rw [Int.toNat_natCast]
  obtain ⟨y, hy, k, a, rfl, h⟩ := pl4l vs hvs hvl n (by omega) (newA po n) ⟨new_good (by omega) (by omega), by show po ≠ 3; omega, rfl, by omega, by omega, rfl, rfl⟩
  refine bnd1 (bnd1 hy rfl) ?_
  dsimp only
  rw [AB.c17 h.g]
  simp only [Option.bind_some]
  have ll : lenI (vs.map vR) = (vs.length : Int) := by unfold lenI; rw [List.length_map]
  have hk := h.le
  have ba : a.B = [] := (h.g.nw (h.g.np h.p).2).1
  have hr : a.recs = (vs.take k).map vR := by unfold AB.recs; rw [ba, h.A, List.append_nil]
  have hsub : subL (vs.map vR) 0 (k : Int) = a.recs := by
    rw [show (0 : Int) = ((0 : Nat) : Int) from rfl, subL_nat, List.drop_zero, hr, List.map_take]
  have hl := recs_len a
  have hc := AB.count_le h.g
  rw [if_pos (by decide), ll, if_pos (by unfold Bnd; omega), hsub, s18 _ (by omega)]
  simp only [Option.bind_some, if_true]
  rw [i64sub (by omega) (by omega), h.dr, c_eql, dT (by omega)]
end Go.Proofs.Ytdejapkfijdadaa
end
section
namespace Go.Proofs.Ytdejapkfijdadaa
open Go.Ab Go.RowKit
set_option maxRecDepth 100000

/-- An operation: its kind, its record. -/
abbrev Act := Int × Rc
def vA (x : Act) : V := .agg [.i .i64 x.1, .i .i64 x.2.1, .i .i64 x.2.2.1, .sl 5 x.2.2.2]
theorem a_0 (rs : List Act) (i : Nat) (h : i < rs.length) : gI (rs.map vA) (i : Int) 0 = rs[i].1 := by
  unfold gI elAt
  simp [List.getD_eq_getElem?_getD, h, vA, cellAt, Ab.asInt]
theorem a_1 (rs : List Act) (i : Nat) (h : i < rs.length) : gI (rs.map vA) (i : Int) 1 = rs[i].2.1 := by
  unfold gI elAt
  simp [List.getD_eq_getElem?_getD, h, vA, cellAt, Ab.asInt]
theorem a_2 (rs : List Act) (i : Nat) (h : i < rs.length) : gI (rs.map vA) (i : Int) 2 = rs[i].2.2.1 := by
  unfold gI elAt
  simp [List.getD_eq_getElem?_getD, h, vA, cellAt, Ab.asInt]
theorem a_3 (rs : List Act) (i : Nat) (h : i < rs.length) : gL (rs.map vA) (i : Int) 3 = rs[i].2.2.2 := by
  unfold gL elAt
  simp [List.getD_eq_getElem?_getD, h, vA, cellAt, listOf]
abbrev Seg := List Rc × Nat
def vS (x : Seg) : V := .agg [.sl 33 (x.1.map vR), .i .i64 (x.2 : Int)]
theorem t_0 (rs : List Seg) (i : Nat) (h : i < rs.length) : gL (rs.map vS) (i : Int) 0 = rs[i].1.map vR := by
  unfold gL elAt
  simp [List.getD_eq_getElem?_getD, h, vS, cellAt, listOf]
theorem t_1 (rs : List Seg) (i : Nat) (h : i < rs.length) : gI (rs.map vS) (i : Int) 1 = (rs[i].2 : Int) := by
  unfold gI elAt
  simp [List.getD_eq_getElem?_getD, h, vS, cellAt, Ab.asInt]
/-- Records, in segments of what is told and of what was dropped behind it. -/
inductive Split : List Rc → List Seg → Prop
  | nil : Split [] []
  | cons (l d t : List Rc) (r : List Seg) (h : Split t r) : Split (l ++ (d ++ t)) ((l, d.length) :: r)
theorem Split.app {x y : List Rc} {s t : List Seg} (h : Split x s) (h' : Split y t) : Split (x ++ y) (s ++ t) := by
  induction h with
  | nil => exact h'
  | cons l d t r h ih =>
    have := Split.cons l d _ _ ih
    simpa using this
theorem Split.one (l d : List Rc) : Split (l ++ d) [(l, d.length)] := by
  have := Split.cons l d [] [] .nil
  simpa using this
structure De (i : Nat) (all : List Rc) (told : List Seg) (a : AB) (x dI dA : List Rc) : Prop where
  g : a.Good
  p : a.p = 2
  sp : Split x told
  eq : all = x ++ ((a.I ++ dI) ++ (a.A ++ dA))
  i1 : a.idr = (dI.length : Int)
  a1 : a.dr = (dA.length : Int)
  tl : told.length ≤ i
  al : all.length ≤ i
  il : i ≤ 120
theorem pl8l (ac : List Act) (hac : ∀ x ∈ ac, ∀ v ∈ x.2.2.2, U8 v) (a : AB) (h : De 0 [] [] a [] [] []) : ∃ y, iter (d8_b1 (ac.map vA)) (0, [], a.p, a.Y, a.S, a.E, a.W, a.dr, a.J, a.idr, a.rd, []) = some y ∧ ∃ (all : List Rc) (told : List Seg) (a : AB) (x dI dA : List Rc) (i : Nat), y = (all.map vR, a.p, a.Y, a.S, a.E, a.W, a.dr, a.J, a.idr, a.rd, told.map vS) ∧ De i all told a x dI dA := by
  refine iter_of (fun st => ∃ (i : Nat) (all : List Rc) (told : List Seg) (a : AB) (x dI dA : List Rc), st = ((i : Int), all.map vR, a.p, a.Y, a.S, a.E, a.W, a.dr, a.J, a.idr, a.rd, told.map vS) ∧ De i all told a x dI dA) (fun st => (ac.length - st.1).toNat) _ ?_ _ ⟨0, [], [], a, [], [], [], rfl, h⟩
  rintro st ⟨i, all, told, a, x, dI, dA, rfl, h⟩
  have ll : lenI (ac.map vA) = (ac.length : Int) := by unfold lenI; rw [List.length_map]
  have hil := h.il
  have hB : a.B = [] := (h.g.nw (h.g.np (by rw [h.p]; decide)).2).1
  by_cases hlt : i < ac.length
  · have c0 : cmpLit .lss (i : Int) (lenI (ac.map vA)) = true := by rw [c_lss, ll]; exact dT (by omega)
    by_cases h120 : i < 120
    · left
      have c1 : cmpLit .lss (i : Int) 120 = true := by rw [c_lss]; exact dT (by omega)
      have c2 : Inb (i : Int) (lenI (ac.map vA)) := by rw [ll]; unfold Inb; omega
      have t1 : arReal .add .i64 (i : Int) 1 = ((i + 1 : Nat) : Int) := by rw [i64add (by omega) (by omega)]; push_cast; rfl
      have hmes : (((ac.length : Int) - ((i + 1 : Nat) : Int))).toNat < (((ac.length : Int) - ((i : Nat) : Int))).toNat := by omega
      have hm := hac ac[i] (List.getElem_mem hlt)
      have hal := h.al
      have htl := h.tl
      by_cases k0 : ac[i].1 = 0
      · rcases ok_or hm with hv | hv
        · have ok := AB.put_ok h.g hv
          have hput := putf h.g (by rw [h.p]; decide) ac[i].2
          have step : ∃ dA', De (i + 1) (all ++ [ac[i].2]) told (a.put ac[i].2).1 x dI dA' := by
            have lk := ok.2
            by_cases cc : 0 < a.dr ∨ a.n < sz a.A + rsz ac[i].2
            · rw [if_pos cc] at hput
              refine ⟨dA ++ [ac[i].2], ok.1, lk.1.trans h.p, h.sp, ?_, lk.2.2.2.1.trans h.i1, ?_, by omega, by simp; omega, by omega⟩
              · rw [hput, h.eq]; simp
              · rw [hput]
                show mnI (a.dr + 1) 1099511627776 = _
                have : dA.length ≤ 120 := by
                  have := congrArg List.length h.eq
                  simp at this; omega
                rw [h.a1, mn_eq (by omega)]; simp
            · rw [if_neg cc] at hput
              have hz : dA = [] := by
                have : (dA.length : Int) = 0 := by rw [← h.a1]; have := h.g.dr1; omega
                exact List.length_eq_zero_iff.1 (by omega)
              refine ⟨[], ok.1, lk.1.trans h.p, h.sp, ?_, lk.2.2.2.1.trans h.i1, ?_, by omega, by simp; omega, by omega⟩
              · rw [hput, h.eq, hz]; simp
              · rw [hput]
                show a.dr = _
                rw [h.a1, hz]
          obtain ⟨dA', hd⟩ := step
          refine ⟨_, ?_, ⟨i + 1, all ++ [ac[i].2], told, (a.put ac[i].2).1, x, dI, dA', rfl, hd⟩, hmes⟩
          unfold d8_b1
          dsimp only
          rw [if_pos c0, if_pos c1]
          refine bnd1 (a := ((all ++ [ac[i].2]).map vR, (a.put ac[i].2).1.p, (a.put ac[i].2).1.Y, (a.put ac[i].2).1.S, (a.put ac[i].2).1.E, (a.put ac[i].2).1.W, (a.put ac[i].2).1.dr, (a.put ac[i].2).1.J, (a.put ac[i].2).1.idr, (a.put ac[i].2).1.rd, told.map vS)) ?_ ?_
          · rw [if_pos c2, a_0 _ _ hlt, a_1 _ _ hlt, a_2 _ _ hlt, a_3 _ _ hlt, c_eql, if_pos (dT k0), if_pos c2, AB.c16 h.g hv]
            simp only [Option.bind_some]
            rw [if_pos (by decide), if_pos c2, if_pos (room40s (by simp [lenI, appL]; omega)), List.map_append]
            rfl
          · rw [t1]
        · refine ⟨_, ?_, ⟨i + 1, all, told, a, x, dI, dA, rfl, ⟨h.g, h.p, h.sp, h.eq, h.i1, h.a1, by omega, by omega, by omega⟩⟩, hmes⟩
          unfold d8_b1
          dsimp only
          rw [if_pos c0, if_pos c1]
          refine bnd1 (a := (all.map vR, a.p, a.Y, a.S, a.E, a.W, a.dr, a.J, a.idr, a.rd, told.map vS)) ?_ ?_
          · rw [if_pos c2, a_0 _ _ hlt, a_1 _ _ hlt, a_2 _ _ hlt, a_3 _ _ hlt, c_eql, if_pos (dT k0), if_pos c2, AB.x16 h.g hv]
            simp only [Option.bind_some]
            rw [if_neg (by decide)]
          · rw [t1]
      · by_cases k1 : ac[i].1 = 1
        · cases hrd : a.rd with
          | false =>
            obtain ⟨n1, n2⟩ := h.g.nrd hrd
            have hdI : dI = [] := by
              have : (dI.length : Int) = 0 := by rw [← h.i1]; exact n2
              exact List.length_eq_zero_iff.1 (by omega)
            have c25 := AB.c25_ok h.g h.p hrd
            rw [hrd] at c25
            refine ⟨_, ?_, ⟨i + 1, all, told, a.sw, x, dA, [], rfl, ⟨AB.sw_good h.g h.p, h.p, h.sp, ?_, h.a1, rfl, by omega, by omega, by omega⟩⟩, hmes⟩
            · unfold d8_b1
              dsimp only
              rw [if_pos c0, if_pos c1]
              refine bnd1 (a := (all.map vR, a.sw.p, a.sw.Y, a.sw.S, a.sw.E, a.sw.W, a.sw.dr, a.sw.J, a.sw.idr, a.sw.rd, told.map vS)) ?_ ?_
              · rw [if_pos c2, a_0 _ _ hlt, c_eql, c_eql, if_neg (by rw [dF k0]; decide), if_pos (dT k1), c25]
                simp only [Option.bind_some]
                rw [if_pos (by decide)]
              · rw [t1]
            · rw [h.eq, n1, hdI]
              show _ = x ++ ((a.A ++ dA) ++ ([] ++ []))
              simp
          | true =>
            have c25 := AB.c25_idle h.g h.p hrd
            rw [hrd] at c25
            refine ⟨_, ?_, ⟨i + 1, all, told, a, x, dI, dA, rfl, ⟨h.g, h.p, h.sp, h.eq, h.i1, h.a1, by omega, by omega, by omega⟩⟩, hmes⟩
            unfold d8_b1
            dsimp only
            rw [if_pos c0, if_pos c1]
            refine bnd1 (a := (all.map vR, a.p, a.Y, a.S, a.E, a.W, a.dr, a.J, a.idr, a.rd, told.map vS)) ?_ ?_
            · rw [if_pos c2, a_0 _ _ hlt, c_eql, c_eql, if_neg (by rw [dF k0]; decide), if_pos (dT k1), c25]
              simp only [Option.bind_some]
              rw [if_neg (by decide), hrd]
            · rw [t1]
        · cases hrd : a.rd with
          | true =>
            have c26 := AB.c26_ok h.g h.p hrd
            rw [hrd] at c26
            refine ⟨_, ?_, ⟨i + 1, all, told ++ [(a.I, dI.length)], a.rdd, x ++ (a.I ++ dI), [], dA, rfl, ⟨AB.rdd_good h.g, h.p, h.sp.app (Split.one _ _), ?_, rfl, h.a1, by simp; omega, by omega, by omega⟩⟩, hmes⟩
            · unfold d8_b1
              dsimp only
              rw [if_pos c0, if_pos c1]
              refine bnd1 (a := (all.map vR, a.rdd.p, a.rdd.Y, a.rdd.S, a.rdd.E, a.rdd.W, a.rdd.dr, a.rdd.J, a.rdd.idr, a.rdd.rd, (told ++ [(a.I, dI.length)]).map vS)) ?_ ?_
              · rw [if_pos c2, a_0 _ _ hlt, c_eql, c_eql, if_neg (by rw [dF k0]; decide), if_neg (by rw [dF k1]; decide), c26]
                simp only [Option.bind_some]
                rw [if_pos (by decide), if_pos (by unfold Room lenI appL; simp; omega), List.map_append, h.i1]
                rfl
              · rw [t1]
            · rw [h.eq]
              show _ = x ++ (a.I ++ dI) ++ (([] ++ []) ++ (a.A ++ dA))
              simp
          | false =>
            have c26 := AB.c26_none h.g h.p hrd
            rw [hrd] at c26
            refine ⟨_, ?_, ⟨i + 1, all, told, a, x, dI, dA, rfl, ⟨h.g, h.p, h.sp, h.eq, h.i1, h.a1, by omega, by omega, by omega⟩⟩, hmes⟩
            unfold d8_b1
            dsimp only
            rw [if_pos c0, if_pos c1]
            refine bnd1 (a := (all.map vR, a.p, a.Y, a.S, a.E, a.W, a.dr, a.J, a.idr, a.rd, told.map vS)) ?_ ?_
            · rw [if_pos c2, a_0 _ _ hlt, c_eql, c_eql, if_neg (by rw [dF k0]; decide), if_neg (by rw [dF k1]; decide), c26]
              simp only [Option.bind_some]
              rw [if_neg (by decide), hrd]
            · rw [t1]
    · right
      refine ⟨_, ?_, all, told, a, x, dI, dA, i, rfl, h⟩
      unfold d8_b1
      dsimp only
      rw [if_pos c0, if_neg (by rw [c_lss, dF (by omega)]; decide)]
  · right
    refine ⟨_, ?_, all, told, a, x, dI, dA, i, rfl, h⟩
    unfold d8_b1
    dsimp only
    rw [if_neg (by rw [c_lss, ll, dF (by omega)]; decide)]
theorem Split.inv {t : List Rc} {l : List Rc} {n : Nat} {r : List Seg} (h : Split t ((l, n) :: r)) : ∃ d t', d.length = n ∧ t = l ++ (d ++ t') ∧ Split t' r := by
  cases h with
  | cons l d t' r h => exact ⟨d, t', rfl, rfl, h⟩
theorem Split.inv0 {t : List Rc} (h : Split t []) : t = [] := by
  cases h; rfl
theorem pl8m (all : List Rc) (segs : List Seg) (hl : all.length ≤ 1000) (hs : segs.length ≤ 1000) (h : Split all segs) (p : Int × List V × Int × Int × Int × Int × List V × Int × Bool × List V × List V) (x50 : List V × Int × Int) (x51 : List V × Int) (hp : p.2.2.2.2.2.2.2.2.2.1 = all.map vR) (hseg : appL p.2.2.2.2.2.2.2.2.2.2 [.agg [.sl 33 x50.1, .i .i64 x50.2.1], .agg [.sl 33 x51.1, .i .i64 p.2.2.2.2.2.1]] = segs.map vS) : iter (d8_b2 p x50 x51) ((0 : Int), (0 : Int)) = some (.inr (all.length : Int) : Bool ⊕ Int) := by
  refine iter_fun (fun st => ∃ k j : Nat, k ≤ all.length ∧ j ≤ segs.length ∧ st = ((k : Int), (j : Int)) ∧ Split (all.drop k) (segs.drop j)) (fun st => (segs.length - st.2).toNat) (fun _ => _) ?_ _ ⟨0, 0, by omega, by omega, rfl, by simpa using h⟩
  rintro st ⟨k, j, hk, hj, rfl, hsp⟩
  have ls : lenI (segs.map vS) = (segs.length : Int) := by unfold lenI; rw [List.length_map]
  have la : lenI (all.map vR) = (all.length : Int) := by unfold lenI; rw [List.length_map]
  by_cases hlt : j < segs.length
  · left
    have e1 : segs.drop j = (segs[j].1, segs[j].2) :: segs.drop (j + 1) := List.drop_eq_getElem_cons hlt
    rw [e1] at hsp
    obtain ⟨d, t', hd, ht, hsp'⟩ := hsp.inv
    have hlen := congrArg List.length ht
    simp only [List.length_drop, List.length_append] at hlen
    have c0 : cmpLit .lss (j : Int) (lenI (segs.map vS)) = true := by rw [c_lss, ls]; exact dT (by omega)
    have c2 : Inb (j : Int) (lenI (segs.map vS)) := by rw [ls]; unfold Inb; omega
    have l1 : lenI (segs[j].1.map vR) = (segs[j].1.length : Int) := by unfold lenI; rw [List.length_map]
    have t1 : arReal .add .i64 (j : Int) 1 = ((j + 1 : Nat) : Int) := by rw [i64add (by omega) (by omega)]; push_cast; rfl
    have t2 : arReal .add .i64 (k : Int) (segs[j].1.length : Int) = ((k + segs[j].1.length : Nat) : Int) := by rw [i64add (by omega) (by omega)]; push_cast; rfl
    have t3 : arReal .add .i64 ((k + segs[j].1.length : Nat) : Int) (segs[j].2 : Int) = ((k + segs[j].1.length + segs[j].2 : Nat) : Int) := by rw [i64add (by omega) (by omega)]; push_cast; rfl
    have t4 : plI (k : Int) (miI ((k + segs[j].1.length : Nat) : Int) (k : Int)) = ((k + segs[j].1.length : Nat) : Int) := by unfold plI miI; omega
    have hsub : subL (all.map vR) (k : Int) ((k + segs[j].1.length : Nat) : Int) = segs[j].1.map vR := by
      rw [subL_nat, List.drop_take, ← List.map_drop, ht, Nat.add_sub_cancel_left, List.map_append, List.take_left' (by rw [List.length_map])]
    refine ⟨(((k + segs[j].1.length + segs[j].2 : Nat) : Int), ((j + 1 : Nat) : Int)), ?_, ⟨_, j + 1, by omega, by omega, rfl, ?_⟩, ?_, rfl⟩
    · unfold d8_b2
      dsimp only
      rw [hseg, hp, if_pos c0, if_pos c2, t_0 _ _ hlt, t_1 _ _ hlt, l1, t2, c_gtr, la, if_neg (by rw [dF (by omega)]; decide), if_pos c2, if_pos (by unfold Bnd; omega), t4, hsub, s18 _ (by rw [List.length_map]; omega)]
      simp only [Option.bind_some]
      rw [if_neg (by decide), if_pos c2, t3, t1]
    · have e2 : all.drop (k + segs[j].1.length + segs[j].2) = t' := by
        rw [← List.drop_drop, ← List.drop_drop, ht, List.drop_left' rfl, List.drop_left' hd]
      rw [e2]
      exact hsp'
    · show (((segs.length : Int) - ((j + 1 : Nat) : Int))).toNat < (((segs.length : Int) - ((j : Nat) : Int))).toNat
      omega
  · right
    obtain rfl : j = segs.length := by omega
    rw [List.drop_length] at hsp
    have e2 := congrArg List.length hsp.inv0
    rw [List.length_drop, List.length_nil] at e2
    unfold d8_b2
    dsimp only
    rw [hseg, if_neg (by rw [c_lss, ls, dF (by omega)]; decide), show k = all.length by omega]
theorem pl8 (ac : List Act) (hac : ∀ x ∈ ac, ∀ v ∈ x.2.2.2, U8 v) (size : Int) : d8 (ac.map vA) size = some true := by
  unfold d8
  rw [s14]
  simp only [Option.bind_some, if_true]
  by_cases h1 : (2 : Int) < 1 ∨ (2 : Int) > 3 ∨ size < 64 ∨ size > 4096
  · rw [x15 _ _ h1]
    simp only [Option.bind_some]
    rw [if_pos (by decide)]
  rw [s15 _ _ h1]
  simp only [Option.bind_some]
  rw [if_neg (by decide)]
  obtain ⟨n, rfl⟩ : ∃ n : Nat, size = n := ⟨size.toNat, by omega⟩
  rw [Int.toNat_natCast]
  obtain ⟨y, hy, all, told, a, x, dI, dA, i, rfl, h⟩ := pl8l ac hac (newA 2 n) ⟨new_good (by omega) (by omega), rfl, .nil, rfl, rfl, rfl, by simp, by simp, by omega⟩
  refine bnd1 (bnd1 hy rfl) ?_
  dsimp only
  have hB : a.B = [] := (h.g.nw (h.g.np (by rw [h.p]; decide)).2).1
  have hrec : a.recs = a.A.map vR := by unfold AB.recs; rw [hB, List.append_nil]
  rw [AB.c27 h.g]
  simp only [Option.bind_some]
  rw [AB.c17 h.g]
  simp only [Option.bind_some]
  have hil := h.il
  have htl := h.tl
  have hal := h.al
  have hsp : Split all (told ++ [(a.I, dI.length), (a.A, dA.length)]) := by
    rw [h.eq]
    exact h.sp.app ((Split.one a.I dI).app (Split.one a.A dA))
  have hm := pl8m all _ (by omega) (by simp; omega) hsp (a.p, a.Y, a.S, a.E, a.W, a.dr, a.J, a.idr, a.rd, all.map vR, told.map vS) (a.I.map vR, a.idr, 0) (a.recs, 0) rfl (by
    show appL (told.map vS) [.agg [.sl 33 (a.I.map vR), .i .i64 a.idr], .agg [.sl 33 a.recs, .i .i64 a.dr]] = _
    rw [h.i1, h.a1, hrec, List.map_append]
    rfl)
  rw [if_neg (by decide), if_neg (by decide), if_pos (by unfold Room lenI appL; simp; omega)]
  refine bnd1 (bnd1 hm rfl) ?_
  dsimp only
  rw [c_eql, dT (by unfold lenI; rw [List.length_map])]
end Go.Proofs.Ytdejapkfijdadaa
end
section
namespace Go.Proofs.Ytdejapkfijdadaa
open Go.Ab Go.RowKit
set_option maxRecDepth 100000

theorem sz_le : ∀ (rs : List Rc), (∀ r ∈ rs, okR r) → sz rs ≤ 270 * rs.length
  | [], _ => by simp [sz]
  | r :: l, h => by
    have h1 := okR_sz (h r (by simp))
    have h2 := sz_le l (fun x hx => h x (by simp [hx]))
    simp only [sz, List.length_cons]; omega
theorem pl7a (rs : List Rc) (hrs : ∀ r ∈ rs, ∀ v ∈ r.2.2, U8 v) : iter (d7_b1 (rs.map vR)) ((0 : Int), ([] : List V), ([] : List V)) = some (encAll (vld (rs.take 100)), (vld (rs.take 100)).map vR) := by
  have ll : lenI (rs.map vR) = (rs.length : Int) := by unfold lenI; rw [List.length_map]
  refine iter_fun (fun st => ∃ i : Nat, i ≤ rs.length ∧ i ≤ 100 ∧ st = ((i : Int), encAll (vld (rs.take i)), (vld (rs.take i)).map vR)) (fun st => (rs.length - st.1).toNat) (fun _ => _) ?_ _ ⟨0, by omega, by omega, rfl⟩
  rintro st ⟨i, hi, h100, rfl⟩
  by_cases hlt : i < rs.length
  · have c0 : cmpLit .lss (i : Int) (lenI (rs.map vR)) = true := by rw [c_lss, ll]; exact dT (by omega)
    by_cases h12 : i < 100
    · left
      have c1 : cmpLit .lss (i : Int) 100 = true := by rw [c_lss]; exact dT (by omega)
      have c2 : Inb (i : Int) (lenI (rs.map vR)) := by rw [ll]; unfold Inb; omega
      have t1 : arReal .add .i64 (i : Int) 1 = ((i + 1 : Nat) : Int) := by rw [i64add (by omega) (by omega)]; push_cast; rfl
      have hvl := vld_len (rs.take i)
      have htl : (rs.take i).length ≤ 100 := by simp; omega
      have hok := vld_ok (rs := rs.take i) (fun r hr => hrs r (List.mem_of_mem_take hr))
      have hszl := sz_le _ hok
      refine ⟨_, ?_, ⟨i + 1, by omega, by omega, rfl⟩, by simp; omega, rfl⟩
      unfold d7_b1
      dsimp only
      rw [if_pos c0, if_pos c1, if_pos c2, g_0 _ _ hlt, g_1 _ _ hlt, g_2 _ _ hlt, s24]
      simp only [Option.bind_some]
      cases hv : validB rs[i].1 rs[i].2.1 rs[i].2.2 with
      | true =>
        have hr := okR_sz (r := rs[i]) ⟨hv, hrs rs[i] (List.getElem_mem hlt)⟩
        have hre : (encB rs[i].1 rs[i].2.1 rs[i].2.2).length ≤ 270 := by
          have := encR1_len rs[i]
          unfold encR1 at this
          omega
        rw [if_pos rfl, if_pos (show cmpLit .eql 0 0 = true by decide), if_pos (room1s (by unfold lenI appL; rw [List.length_append, encAll_len]; dsimp only; omega)), if_pos c2, if_pos (room40s (by simp [lenI, appL]; omega)), vld_t hlt hv, t1, List.map_append, encAll_app]
        simp only [encAll, List.append_nil]
        rfl
      | false =>
        rw [if_neg Bool.false_ne_true, if_neg (show ¬ cmpLit .eql 221 0 = true by decide), vld_f hlt hv, t1]
    · right
      obtain rfl : i = 100 := by omega
      unfold d7_b1
      dsimp only
      rw [if_pos c0, if_neg (by decide)]
  · right
    unfold d7_b1
    dsimp only
    have e1 : rs.take i = rs.take 100 := by rw [List.take_of_length_le (by omega), List.take_of_length_le (by omega)]
    rw [if_neg (by rw [c_lss, ll, dF (by omega)]; decide), e1]
theorem pl7b (rs : List Rc) (hrs : ∀ r ∈ rs, okR r) (hl : sz rs ≤ 1099511627776) : iter (d7_b2 (rs.map vR, 0)) ((0 : Int), ([] : List V)) = some (.inr (encAll rs) : Bool ⊕ List V) := by
  have ll : lenI (rs.map vR) = (rs.length : Int) := by unfold lenI; rw [List.length_map]
  have hcl := sz_count rs
  refine iter_fun (fun st => ∃ i : Nat, i ≤ rs.length ∧ st = ((i : Int), encAll (rs.take i))) (fun st => (rs.length - st.1).toNat) (fun _ => _) ?_ _ ⟨0, by omega, rfl⟩
  rintro st ⟨i, hi, rfl⟩
  by_cases hlt : i < rs.length
  · left
    have c0 : cmpLit .lss (i : Int) (lenI (rs.map vR)) = true := by rw [c_lss, ll]; exact dT (by omega)
    have c2 : Inb (i : Int) (lenI (rs.map vR)) := by rw [ll]; unfold Inb; omega
    have t1 : arReal .add .i64 (i : Int) 1 = ((i + 1 : Nat) : Int) := by rw [i64add (by omega) (by omega)]; push_cast; rfl
    have hr := hrs rs[i] (List.getElem_mem hlt)
    have hq := okR_sz hr
    have hre : (encB rs[i].1 rs[i].2.1 rs[i].2.2).length ≤ 270 := by
      have := encR1_len rs[i]
      unfold encR1 at this
      omega
    have hsz : sz (rs.take i) ≤ sz rs := by
      have := sz_app (rs.take i) (rs.drop i)
      rw [List.take_append_drop] at this
      omega
    refine ⟨_, ?_, ⟨i + 1, by omega, rfl⟩, by simp; omega, rfl⟩
    unfold d7_b2
    dsimp only
    rw [if_pos c0, if_pos c2, g_0 _ _ hlt, g_1 _ _ hlt, g_2 _ _ hlt, s24]
    simp only [Option.bind_some]
    rw [if_pos hr.1, if_neg (show ¬ cmpLit .neq 0 0 = true by decide), if_pos (room1s (by unfold lenI appL; rw [List.length_append, encAll_len]; dsimp only; omega)), t1, List.take_succ_eq_append_getElem hlt, encAll_app]
    simp only [encAll, List.append_nil]
    rfl
  · right
    obtain rfl : i = rs.length := by omega
    unfold d7_b2
    dsimp only
    rw [if_neg (by rw [c_lss, ll, dF (by omega)]; decide), List.take_length]
theorem s20 (l : List V) (hb : ∀ v ∈ l, U8 v) (hl : l.length ≤ 1099511627776) : d20 l = some (if (recs l).2 = true then ((recs l).1, 0) else ([], 221)) := by
  unfold d20
  rw [s51 l hb hl]
  simp only [Option.bind_some]
  cases (recs l).2 <;> rfl
theorem pl7 (rs : List Rc) (hrs : ∀ r ∈ rs, ∀ v ∈ r.2.2, U8 v) (b : List V) (hb : ∀ v ∈ b, U8 v) (hl : b.length ≤ 1099511627776) : d7 (rs.map vR) b = some true := by
  unfold d7
  rw [s14]
  simp only [Option.bind_some, if_true]
  refine bnd1 (bnd1 (pl7a rs hrs) rfl) ?_
  dsimp only
  have hvs := vld_ok (rs := rs.take 100) (fun r hr => hrs r (List.mem_of_mem_take hr))
  have hvl : (vld (rs.take 100)).length ≤ 100 := by
    have := vld_len (rs.take 100)
    have h2 : (rs.take 100).length ≤ 100 := by simp; omega
    omega
  generalize vld (rs.take 100) = vs at hvs hvl
  have hszl := sz_le _ hvs
  rw [s20 _ (encAll_ok hvs) (by rw [encAll_len]; omega), recs_all hvs, if_pos rfl]
  simp only [Option.bind_some]
  rw [if_neg (by decide), s18 _ (by rw [List.length_map]; omega)]
  simp only [Option.bind_some]
  rw [if_neg (by decide), s20 b hb hl]
  simp only [Option.bind_some]
  obtain ⟨qs, hq1, hq2, hq3⟩ := recs_of b hb
  cases hk : (recs b).2 with
  | false =>
    rw [if_neg Bool.false_ne_true, if_pos (show cmpLit .neq 221 0 = true by decide)]
    rfl
  | true =>
    have hbe := hq3 hk
    have hlen : sz qs ≤ 1099511627776 := by rw [← encAll_len, ← hbe]; exact hl
    rw [if_pos rfl, if_neg (show ¬ cmpLit .neq 0 0 = true by decide), hq2]
    refine bnd1 (bnd1 (pl7b qs hq1 hlen) rfl) ?_
    dsimp only
    rw [← hbe, scmp_refl]
end Go.Proofs.Ytdejapkfijdadaa
end
section
namespace Go.Proofs.Ytdejapkfijdadaa
open Go.Ab Go.RowKit
set_option maxRecDepth 100000

theorem sz_drop (l : List Rc) {a b : Nat} (h : a ≤ b) : sz (l.drop b) ≤ sz (l.drop a) := by
  obtain ⟨c, rfl⟩ : ∃ c, b = a + c := ⟨b - a, by omega⟩
  rw [← List.drop_drop]
  have := sz_app ((l.drop a).take c) ((l.drop a).drop c)
  rw [List.take_append_drop] at this
  omega
/-- A ring behind writes: ws is what was written (the record that is being written with it), k how many left, G the greatest size. -/
structure Ri (n G : Nat) (us : List Rc) (k : Nat) (a : AB) : Prop where
  g : a.Good
  p : a.p = 3
  hn : a.n = n
  eq : a.A ++ a.B = us.drop k
  le : k ≤ us.length
  dr : a.dr = (k : Int)
  w : a.wr = true → n < a.s + sz a.A + G
/-- The last one that left would not have had room with those behind it and the greatest one. -/
def Lo (n G : Nat) (ws : List Rc) (k : Nat) : Prop := 0 < k → n < sz (ws.drop (k - 1)) + G
theorem ring_inv (n G : Nat) (us : List Rc) (r : Rc) (hr : okR r) (hG : rsz r ≤ G) (hrn : rsz r ≤ n) (hus : us.length ≤ 200) : ∀ (m : Nat) (k : Nat) (a : AB), Ri n G us k a → Lo n G (us ++ [r]) k → a.mu < m → ∃ k', k' ≤ us.length ∧ Ri n G (us ++ [r]) k' (AB.ringN m a r) ∧ Lo n G (us ++ [r]) k'
  | 0, _, _, _, _, h => by omega
  | m + 1, k, a, h, hlo, hm => by
    unfold AB.ringN
    have hle := h.le
    by_cases hf : a.e + rsz r ≤ a.top
    · rw [if_pos hf]
      refine ⟨k, hle, ⟨AB.app_good h.g hr hf, (AB.app_like a r).1.trans h.p, (AB.app_like a r).2.1.trans h.hn, ?_, by simp; omega, (dr_app a r).trans h.dr, ?_⟩, hlo⟩
      · rw [List.drop_append_of_le_length hle, ← h.eq]
        cases hw : a.wr with
        | true => rw [AB.app_t hw]; simp
        | false => rw [AB.app_f hw, (h.g.nw hw).1]; simp
      · intro hwa
        cases hw : a.wr with
        | true => rw [AB.app_t hw]; exact h.w hw
        | false => rw [AB.app_f hw] at hwa; exact absurd (hw.symm.trans hwa) (by decide)
    · rw [if_neg hf]
      cases hw : a.wr with
      | true =>
        rw [if_pos rfl]
        have hwn := h.w hw
        rw [AB.e_t hw, AB.top_t hw] at hf
        obtain ⟨x, l, hA⟩ := List.exists_cons_of_ne_nil (h.g.wrA hw)
        have heq := h.eq
        have hlen := congrArg List.length heq
        rw [hA] at hlen
        simp only [List.length_append, List.length_cons, List.length_drop] at hlen
        have hd1 : us.drop (k + 1) = l ++ a.B := by
          rw [← List.drop_drop, ← heq, hA]; rfl
        have hlo' : Lo n G (us ++ [r]) (k + 1) := by
          intro _
          have e1 : (us ++ [r]).drop (k + 1 - 1) = a.A ++ a.B ++ [r] := by
            rw [Nat.add_sub_cancel, List.drop_append_of_le_length hle, ← heq]
          rw [e1, sz_app, sz_app, sz_one]
          omega
        refine ring_inv n G us r hr hG hrn hus m (k + 1) a.old ⟨AB.old_good h.g h.p hw, (AB.old_like a).1.trans h.p, (AB.old_like a).2.1.trans h.hn, ?_, by omega, ?_, ?_⟩ hlo' (by have := AB.mu_old h.g hw; omega)
        · rw [hd1]
          unfold AB.old
          cases l with
          | nil => rw [hA]; simp
          | cons y l => rw [hA]
        · have : a.old.dr = mnI (a.dr + 1) 1099511627776 := by
            unfold AB.old
            cases l with
            | nil => rw [hA]
            | cons y l => rw [hA]
          rw [this, h.dr, mn_eq (by omega)]; push_cast; rfl
        · intro hwo
          cases l with
          | nil =>
            exfalso
            unfold AB.old at hwo
            rw [hA] at hwo
            cases hwo
          | cons y l =>
            have e2 : a.old.s + sz a.old.A = a.s + sz a.A := by
              unfold AB.old
              rw [hA]
              simp only [sz]; omega
            rw [e2]; exact hwn
      | false =>
        rw [if_neg (by decide)]
        have hA := AB.fits_empty h.g (by rw [h.hn]; exact hrn) hf hw
        refine ring_inv n G us r hr hG hrn hus m k a.turn ⟨AB.turn_good h.g h.p hA hw, h.p, h.hn, h.eq, hle, h.dr, fun _ => ?_⟩ hlo (by have := AB.mu_turn hw; omega)
        rw [AB.e_f hw, AB.top_f hw, h.hn] at hf
        show n < a.s + sz a.A + G
        omega
theorem put_inv (n G : Nat) (us : List Rc) (r : Rc) (hr : okR r) (hG : rsz r ≤ G) (hus : us.length ≤ 200) (k : Nat) (a : AB) (h : Ri n G us k a) (hlo : Lo n G us k) : ∃ k', Ri n G (us ++ [r]) k' (a.put r).1 ∧ Lo n G (us ++ [r]) k' ∧ (a.put r).2 = decide (rsz r ≤ n) ∧ (rsz r ≤ n → k' ≤ us.length) := by
  have ok := AB.put_ok h.g hr
  have hle := h.le
  have hlo2 : Lo n G (us ++ [r]) k := by
    intro hk
    have := hlo hk
    rw [List.drop_append_of_le_length (by omega), sz_app]
    omega
  unfold AB.put at ok ⊢
  rw [if_pos h.p] at ok ⊢
  rw [h.hn] at ok ⊢
  by_cases hc : n < rsz r
  · rw [if_pos hc] at ok ⊢
    have hcount : a.A.length + a.B.length = us.length - k := by
      have := congrArg List.length h.eq
      simpa using this
    refine ⟨us.length + 1, ⟨ok.1, h.p, h.hn, ?_, by simp, ?_, fun hw => by cases hw⟩, ?_, ?_, fun h => by omega⟩
    · rw [List.drop_of_length_le (by simp)]; rfl
    · show mnI (a.dr + ((a.A.length + a.B.length : Nat) : Int) + 1) 1099511627776 = _
      rw [h.dr, hcount, mn_eq (by omega)]; omega
    · intro _
      rw [Nat.add_sub_cancel, List.drop_left' rfl, sz_one]
      omega
    · exact (dF (by omega)).symm
  · rw [if_neg hc] at ok ⊢
    obtain ⟨k', h1, h2, h3⟩ := ring_inv n G us r hr hG (by omega) hus (a.mu + 1) k a h hlo2 (by omega)
    exact ⟨k', h2, h3, (dT (by omega)).symm, fun _ => h1⟩
theorem pl5g (vs : List Rc) (hvs : ∀ r ∈ vs, okR r) (hl : vs.length ≤ 120) : ∃ G : Nat, iter (d5_b1 (vs.map vR, vs.map szV)) ((0 : Int), (0 : Int)) = some (G : Int) ∧ G ≤ 270 ∧ ∀ r ∈ vs, rsz r ≤ G := by
  have l2 : lenI (vs.map szV) = (vs.length : Int) := by unfold lenI; rw [List.length_map]
  obtain ⟨y, hy, G, rfl, h1, h2⟩ := iter_of (f := d5_b1 (vs.map vR, vs.map szV)) (fun st => ∃ i G : Nat, i ≤ vs.length ∧ st = ((G : Int), (i : Int)) ∧ G ≤ 270 ∧ ∀ r ∈ vs.take i, rsz r ≤ G) (fun st => (vs.length - st.2).toNat) (fun y => ∃ G : Nat, y = (G : Int) ∧ G ≤ 270 ∧ ∀ r ∈ vs, rsz r ≤ G) (by
      rintro st ⟨i, G, hi, rfl, hG, hall⟩
      by_cases hlt : i < vs.length
      · left
        have t1 : arReal .add .i64 (i : Int) 1 = ((i + 1 : Nat) : Int) := by rw [i64add (by omega) (by omega)]; push_cast; rfl
        have hq := okR_sz (hvs vs[i] (List.getElem_mem hlt))
        refine ⟨((max G (rsz vs[i]) : Nat), ((i + 1 : Nat) : Int)), ?_, ⟨i + 1, max G (rsz vs[i]), by omega, rfl, by omega, ?_⟩, by simp; omega⟩
        · unfold d5_b1
          dsimp only
          rw [if_pos (by rw [c_lss, l2]; exact dT (by omega)), if_pos (by rw [l2]; unfold Inb; omega), g_n _ _ hlt, t1]
          have : mxI (G : Int) (rsz vs[i] : Int) = ((max G (rsz vs[i]) : Nat) : Int) := by
            unfold mxI
            split <;> omega
          rw [this]
        · intro r hr
          rw [List.take_succ_eq_append_getElem hlt] at hr
          rcases List.mem_append.1 hr with hr | hr
          · have := hall r hr; omega
          · rw [List.mem_singleton.1 hr]; omega
      · right
        refine ⟨_, ?_, G, rfl, hG, ?_⟩
        · unfold d5_b1
          dsimp only
          rw [if_neg (by rw [c_lss, l2, dF (by omega)]; decide)]
        · rw [List.take_of_length_le (by omega)] at hall
          exact hall) ((0 : Int), (0 : Int)) ⟨0, 0, by omega, rfl, by omega, by simp⟩
  exact ⟨G, hy, h1, h2⟩
theorem pl5s (vs : List Rc) (hvs : ∀ r ∈ vs, okR r) (hl : vs.length ≤ 120) (G n : Nat) (hG : G ≤ 270) (hn : n ≤ 4096) (i : Nat) (hi : i < vs.length) : ∃ y, iter (d5_b3 (n : Int) (vs.map vR, vs.map szV)) (((rsz vs[i] + G : Nat) : Int), (1 : Int), (i : Int) - 1) = some y ∧ ∃ m : Nat, m ≤ i ∧ y = (((sz ((vs.take (i + 1)).drop m) + G : Nat) : Int), ((i + 1 - m : Nat) : Int)) := by
  have l2 : lenI (vs.map szV) = (vs.length : Int) := by unfold lenI; rw [List.length_map]
  have hd0 : (vs.take (i + 1)).drop i = [vs[i]] := by
    rw [List.take_succ_eq_append_getElem hi, List.drop_left' (by simp; omega)]
  refine iter_of (fun st => ∃ m : Nat, m ≤ i ∧ st = (((sz ((vs.take (i + 1)).drop m) + G : Nat) : Int), ((i + 1 - m : Nat) : Int), (m : Int) - 1)) (fun st => (st.2.2 + 1).toNat) _ ?_ _ ⟨i, Nat.le_refl _, by rw [hd0, sz_one, show i + 1 - i = 1 by omega]; rfl⟩
  rintro st ⟨m, hm, rfl⟩
  have hvt : ∀ r ∈ (vs.take (i + 1)).drop m, okR r := fun r hr => hvs r (List.mem_of_mem_take (List.mem_of_mem_drop hr))
  have hsz := sz_le _ hvt
  have hdl : ((vs.take (i + 1)).drop m).length ≤ 121 := by simp; omega
  by_cases h0 : m = 0
  · right
    subst h0
    refine ⟨_, ?_, 0, by omega, rfl⟩
    unfold d5_b3
    dsimp only
    rw [if_neg (by rw [c_geq, dF (by omega)]; decide)]
  · obtain ⟨m, rfl⟩ : ∃ q, m = q + 1 := ⟨m - 1, by omega⟩
    have ej : ((m + 1 : Nat) : Int) - 1 = (m : Int) := by omega
    have hq := okR_sz (hvs vs[m] (List.getElem_mem (by omega)))
    have hdm : (vs.take (i + 1)).drop m = vs[m] :: (vs.take (i + 1)).drop (m + 1) := by
      rw [List.drop_eq_getElem_cons (by simp; omega), List.getElem_take]
    have t3 : arReal .add .i64 ((sz ((vs.take (i + 1)).drop (m + 1)) + G : Nat) : Int) (rsz vs[m] : Int) = ((sz ((vs.take (i + 1)).drop m) + G : Nat) : Int) := by
      rw [i64add (by omega) (by omega), hdm]
      simp only [sz]; push_cast; omega
    have t4 : arReal .add .i64 ((i + 1 - (m + 1) : Nat) : Int) 1 = ((i + 1 - m : Nat) : Int) := by rw [i64add (by omega) (by omega)]; omega
    have t5 : arReal .sub .i64 (m : Int) 1 = (m : Int) - 1 := i64sub (by omega) (by omega)
    have c2 : Inb (m : Int) (lenI (vs.map szV)) := by rw [l2]; unfold Inb; omega
    rw [ej]
    by_cases hs : ((sz ((vs.take (i + 1)).drop m) + G : Nat) : Int) ≤ (n : Int)
    · left
      refine ⟨_, ?_, ⟨m, by omega, rfl⟩, by dsimp only; omega⟩
      unfold d5_b3
      dsimp only
      rw [if_pos (by rw [c_geq]; exact dT (by omega)), if_pos c2, g_n _ _ (by omega), t3, c_leq, if_pos (dT hs), if_pos c2, t4, t5]
    · right
      refine ⟨_, ?_, m + 1, hm, rfl⟩
      unfold d5_b3
      dsimp only
      rw [if_pos (by rw [c_geq]; exact dT (by omega)), if_pos c2, g_n _ _ (by omega), t3, c_leq, if_neg (by rw [dF hs]; decide)]
theorem pl5l (vs : List Rc) (hvs : ∀ r ∈ vs, okR r) (hl : vs.length ≤ 120) (G n : Nat) (hG : G ≤ 270) (hGa : ∀ r ∈ vs, rsz r ≤ G) (hn : n ≤ 4096) (a : AB) (h : Ri n G [] 0 a) : ∃ y, iter (d5_b2 (n : Int) (vs.map vR, vs.map szV) (G : Int)) ((0 : Int), a.p, a.Y, a.S, a.E, a.W, a.dr, a.J, a.idr, a.rd) = some y ∧ ∃ a : AB, y = .inr (a.p, a.Y, a.S, a.E, a.W, a.dr, a.J, a.idr, a.rd) := by
  refine iter_of (fun st => ∃ (i k : Nat) (a : AB), st = ((i : Int), a.p, a.Y, a.S, a.E, a.W, a.dr, a.J, a.idr, a.rd) ∧ i ≤ vs.length ∧ Ri n G (vs.take i) k a ∧ Lo n G (vs.take i) k) (fun st => (vs.length - st.1).toNat) _ ?_ _ ⟨0, 0, a, rfl, by omega, h, fun h => by omega⟩
  rintro st ⟨i, k, a, rfl, hi, h, hlo⟩
  have ll : lenI (vs.map vR) = (vs.length : Int) := by unfold lenI; rw [List.length_map]
  have l2 : lenI (vs.map szV) = (vs.length : Int) := by unfold lenI; rw [List.length_map]
  by_cases hlt : i < vs.length
  · left
    have hr := hvs vs[i] (List.getElem_mem hlt)
    have hq := okR_sz hr
    obtain ⟨k', h', hlo', his, hkl⟩ := put_inv n G (vs.take i) vs[i] hr (hGa _ (List.getElem_mem hlt)) (by simp; omega) k a h hlo
    rw [← List.take_succ_eq_append_getElem hlt] at h' hlo'
    have htl : (vs.take (i + 1)).length = i + 1 := by simp; omega
    have htl0 : (vs.take i).length = i := by simp; omega
    have hle := h'.le
    rw [htl] at hle
    rw [htl0] at hkl
    have c0 : cmpLit .lss (i : Int) (lenI (vs.map vR)) = true := by rw [c_lss, ll]; exact dT (by omega)
    have c2 : Inb (i : Int) (lenI (vs.map vR)) := by rw [ll]; unfold Inb; omega
    have c3 : Inb (i : Int) (lenI (vs.map szV)) := by rw [l2]; unfold Inb; omega
    have t1 : arReal .add .i64 (i : Int) 1 = ((i + 1 : Nat) : Int) := by rw [i64add (by omega) (by omega)]; push_cast; rfl
    have hmes : (((vs.length : Int) - ((i + 1 : Nat) : Int))).toNat < (((vs.length : Int) - ((i : Nat) : Int))).toNat := by omega
    have hrec : (a.put vs[i]).1.recs = ((vs.take (i + 1)).drop k').map vR := by unfold AB.recs; rw [h'.eq]
    have hrl : lenI (a.put vs[i]).1.recs = ((i + 1 - k' : Nat) : Int) := by rw [hrec]; unfold lenI; simp; omega
    have t6 : arReal .sub .i64 ((i + 1 : Nat) : Int) ((i + 1 - k' : Nat) : Int) = (k' : Int) := by rw [i64sub (by omega) (by omega)]; omega
    have hsub : subL (vs.map vR) (k' : Int) ((i + 1 : Nat) : Int) = (a.put vs[i]).1.recs := by rw [subL_nat, hrec, List.map_drop, List.map_take]
    have hrs : (a.put vs[i]).1.recs.length ≤ 1000 := by rw [hrec]; simp; omega
    have t7 : arReal .add .i64 (rsz vs[i] : Int) (G : Int) = ((rsz vs[i] + G : Nat) : Int) := by rw [i64add (by omega) (by omega)]; push_cast; rfl
    have t8 : arReal .sub .i64 (i : Int) 1 = (i : Int) - 1 := i64sub (by omega) (by omega)
    obtain ⟨y, hy, m, hm, rfl⟩ := pl5s vs hvs hl G n hG hn i hlt
    refine ⟨_, ?_, ⟨i + 1, k', (a.put vs[i]).1, rfl, by omega, h', hlo'⟩, hmes⟩
    unfold d5_b2
    dsimp only
    rw [if_pos c0]
    refine bnd1 (a := .inl ((a.put vs[i]).1.p, (a.put vs[i]).1.Y, (a.put vs[i]).1.S, (a.put vs[i]).1.E, (a.put vs[i]).1.W, (a.put vs[i]).1.dr, (a.put vs[i]).1.J, (a.put vs[i]).1.idr, (a.put vs[i]).1.rd)) ?_ (by rw [t1])
    rw [if_pos c2, g_0 _ _ hlt, g_1 _ _ hlt, g_2 _ _ hlt, AB.c16 h.g hr]
    simp only [Option.bind_some]
    rw [if_neg (by decide), if_pos c3, g_n _ _ hlt, c_leq, his, if_neg (by
      have : decide ((rsz vs[i] : Int) ≤ (n : Int)) = decide (rsz vs[i] ≤ n) := dC (by omega)
      rw [this, beq_refl]; decide), AB.c17 h'.g]
    simp only [Option.bind_some]
    refine bnd1 (a := false) ?_ ?_
    · rw [if_neg (by decide), hrl, t1, c_gtr, if_neg (by rw [dF (by omega)]; decide), t6, h'.dr, c_neq, if_neg (by rw [dF (by omega)]; decide), if_pos (by rw [ll]; unfold Bnd; omega), hsub, s18 _ (by omega)]
      simp only [Option.bind_some]
      rw [if_neg (by decide)]
      by_cases hb : rsz vs[i] ≤ n
      · rw [if_pos (dT hb), c_eql, dF (by have := hkl hb; omega)]
      · rw [if_neg (by rw [dF hb]; decide)]
    rw [if_neg (by decide), if_pos c3, t7, t8]
    refine bnd1 (bnd1 hy rfl) ?_
    dsimp only
    by_cases hb : rsz vs[i] ≤ n
    · rw [if_pos (dT hb), c_leq]
      by_cases hs : ((sz ((vs.take (i + 1)).drop m) + G : Nat) : Int) ≤ (n : Int)
      · have hkm : k' ≤ m := by
          refine Classical.byContradiction fun hc => ?_
          have h1 := hlo' (by omega)
          have h2 := sz_drop (vs.take (i + 1)) (show m ≤ k' - 1 by omega)
          omega
        rw [if_pos (dT hs), hrl, c_lss, if_neg (by rw [dF (by omega)]; decide)]
      · rw [if_neg (by rw [dF hs]; decide)]
    · rw [if_neg (by rw [dF hb]; decide)]
  · right
    refine ⟨_, ?_, a, rfl⟩
    unfold d5_b2
    dsimp only
    rw [if_neg (by rw [c_lss, ll, dF (by omega)]; decide)]
theorem pl5 (rs : List Rc) (hrs : ∀ r ∈ rs, ∀ v ∈ r.2.2, U8 v) (size : Int) : d5 (rs.map vR) size = some true := by
  unfold d5
  rw [s14]
  simp only [Option.bind_some, if_true]
  by_cases h1 : (3 : Int) < 1 ∨ (3 : Int) > 3 ∨ size < 64 ∨ size > 4096
  · rw [x15 _ _ h1]
    simp only [Option.bind_some]
    rw [if_pos (by decide)]
  rw [s15 _ _ h1]
  simp only [Option.bind_some]
  rw [if_neg (by decide), s19]
  simp only [Option.bind_some]
  have hvs := vld_ok (rs := rs.take 120) (fun r hr => hrs r (List.mem_of_mem_take hr))
  have hvl : (vld (rs.take 120)).length ≤ 120 := by
    have := vld_len (rs.take 120)
    have h2 : (rs.take 120).length ≤ 120 := by simp; omega
    omega
  generalize vld (rs.take 120) = vs at hvs hvl
  obtain ⟨n, rfl⟩ : ∃ n : Nat, size = n := ⟨size.toNat, by omega⟩
  rw [Int.toNat_natCast]
  obtain ⟨G, hG, hG1, hG2⟩ := pl5g vs hvs hvl
  refine bnd1 (bnd1 hG rfl) ?_
  obtain ⟨y, hy, a, rfl⟩ := pl5l vs hvs hvl G n hG1 hG2 (by omega) (newA 3 n) ⟨new_good (by omega) (by omega), rfl, rfl, rfl, by simp, rfl, fun h => by cases h⟩
  refine bnd1 (bnd1 hy rfl) ?_
  rfl
end Go.Proofs.Ytdejapkfijdadaa
end
section
namespace Go.Proofs.Ytdejapkfijdadaa
open Go.Ab Go.RowKit
theorem wf_u8 {n : Int} (h : (Lit.int .u8 n).wf = true) : U8 (.i .u8 n) := by
  refine ⟨n, rfl, ?_⟩
  simp [Lit.wf, IntKind.min, IntKind.max, IntKind.signed, IntKind.bits] at h
  omega
theorem u8_map {l : List Int} (h : ∀ x ∈ l, (Lit.int .u8 x).wf = true) : ∀ v ∈ l.map (fun x : Int => V.i .u8 x), U8 v := by
  intro v hv
  obtain ⟨n, hn, rfl⟩ := List.mem_map.1 hv
  exact wf_u8 (h n hn)
/-- A record of numbers. -/
def toR (x : Int × Int × List Int) : Rc := (x.1, x.2.1, x.2.2.map (fun x : Int => .i .u8 x))
def toA (x : Int × Int × Int × List Int) : Act := (x.1, toR x.2)
theorem map_r (l : List (Int × Int × List Int)) : l.map (fun x : Int × Int × List Int => V.agg [.i .i64 x.1, .i .i64 x.2.1, .sl 5 (x.2.2.map (fun x : Int => .i .u8 x))]) = (l.map toR).map vR := by
  rw [List.map_map]; rfl
theorem map_a (l : List (Int × Int × Int × List Int)) : l.map (fun x : Int × Int × Int × List Int => V.agg [.i .i64 x.1, .i .i64 x.2.1, .i .i64 x.2.2.1, .sl 5 (x.2.2.2.map (fun x : Int => .i .u8 x))]) = (l.map toA).map vA := by
  rw [List.map_map]; rfl
theorem ok_r {l : List (Int × Int × List Int)} (h : ∀ x ∈ l, ∀ n ∈ x.2.2, (Lit.int .u8 n).wf = true) : ∀ r ∈ l.map toR, ∀ v ∈ r.2.2, U8 v := by
  intro r hr
  obtain ⟨x, hx, rfl⟩ := List.mem_map.1 hr
  exact u8_map (h x hx)
theorem ok_a {l : List (Int × Int × Int × List Int)} (h : ∀ x ∈ l, ∀ n ∈ x.2.2.2, (Lit.int .u8 n).wf = true) : ∀ r ∈ l.map toA, ∀ v ∈ r.2.2.2, U8 v := by
  intro r hr
  obtain ⟨x, hx, rfl⟩ := List.mem_map.1 hr
  exact u8_map (h x hx)
end Go.Proofs.Ytdejapkfijdadaa
end
section
namespace Go.Proofs.Ytdejapkfijdadaa
open Go.Ab Go.RowKit 
set_option maxRecDepth 100000
set_option maxHeartbeats 40000000
noncomputable def w14_c : Code := (Try.f14.body).getD .skip
theorem w14_h : Try.f14.body = some w14_c := by kernel_rfl
theorem w14 (r : Bool) (h : d14 = some r) : Ab.Fn Try.prog TT 14 [] (.b r) [] := by
  refine fn_pure tok W0 Try.func14 (by kernel_rfl) w14_h (by kernel_rfl) ?_
  intro ar un cv mn mx pl mi cmp nt beq an scmp cat slen sbyte ssub ofB toB len gi gb gs gl sub put app ovl rep ne0 ge0 inb bnd room sroom need br call callb loop cut nl E R K hK
  have D := E.D
  clear E
  unfold d14 at h
  cbv
  refine R.callD h (fun x1 hx1 h2 => ?_)
  clear h; have h := h2; clear h2
  refine R.call' (w24 _ _ _ _ hx1) (by (first | (simp only [D.har, D.hcmp, D.hgi, D.hinb, D.hlen, D.hscmp, D.htoB]; done) | rfl | (simp only [D.har, D.hcmp, D.hgi, D.hinb, D.hlen, D.hscmp, D.htoB]; rfl))) ?_
  clear hx1; cbv
  refine R.cut' (by kernel_rfl) (by kernel_rfl) ?_
  cbv
  refine R.cut' (by kernel_rfl) (by kernel_rfl) ?_
  cbv
  refine R.brD h (by (first | (simp only [D.har, D.hcmp, D.hgi, D.hinb, D.hlen, D.hscmp, D.htoB]; done) | rfl | (simp only [D.har, D.hcmp, D.hgi, D.hinb, D.hlen, D.hscmp, D.htoB]; rfl))) ?_ ?_ <;> clear h <;> intro h <;> cbv
  · have e := ret_some h; clear h
    refine hK _ _ ?_
    cbv
    try (subst e; simp only [D.har, D.hcmp, D.hgi, D.hinb, D.hlen, D.hscmp, D.htoB, and_self, and_true, true_and] <;> (repeat' apply And.intro) <;> rfl)
  · as_aux_lemma =>
    refine R.brD h (by (first | (simp only [D.har, D.hcmp, D.hgi, D.hinb, D.hlen, D.hscmp, D.htoB]; done) | rfl | (simp only [D.har, D.hcmp, D.hgi, D.hinb, D.hlen, D.hscmp, D.htoB]; rfl))) ?_ ?_ <;> clear h <;> intro h <;> cbv
    · have e := ret_some h; clear h
      refine hK _ _ ?_
      cbv
      try (subst e; simp only [D.har, D.hcmp, D.hgi, D.hinb, D.hlen, D.hscmp, D.htoB, and_self, and_true, true_and] <;> (repeat' apply And.intro) <;> rfl)
    · as_aux_lemma =>
      refine R.cutB Sum.inl (fun _ _ e => Sum.inl.inj e) h [] (fun p159 => []) (fun p159 => []) (by kernel_rfl) (by kernel_rfl) (fun y50 hy hFy50 L hLy50 => ?_) (fun p159 h2 => ?_)
      · as_aux_lemma =>
        clear h; have h := hy; clear hy; cbv
        refine R.loopD h (fun s0 y98 e0 hi hFs74 => ?_)
        clear h
        refine R.loopI hi [] (fun s74 => [(3, .i .i64 s74)]) (fun s74 => []) ⟨by kernel_rfl, ?_, ?_, by kernel_rfl, by kernel_rfl⟩ (by kernel_rfl) ?_
        · cbv; try (subst e0; simp only [D.har, D.hcmp, D.hgi, D.hinb, D.hlen, D.hscmp, D.htoB, and_self, and_true, true_and] <;> (repeat' apply And.intro) <;> rfl)
        · cbv; try (subst e0; simp only [D.har, D.hcmp, D.hgi, D.hinb, D.hlen, D.hscmp, D.htoB, and_self, and_true, true_and] <;> (repeat' apply And.intro) <;> rfl)
        clear hi e0
        intro s74 m y' hy hins74 houts74 L hLs74
        have h := hy; clear hy; unfold d14_b1 at h
        cbv
        refine R.cut' (by kernel_rfl) (by kernel_rfl) ?_
        cbv
        refine R.brD h (by (first | (simp only [D.har, D.hcmp, D.hgi, D.hinb, D.hlen, D.hscmp, D.htoB]; done) | rfl | (simp only [D.har, D.hcmp, D.hgi, D.hinb, D.hlen, D.hscmp, D.htoB]; rfl))) ?_ ?_ <;> clear h <;> intro h <;> cbv
        · as_aux_lemma =>
          refine R.cutB Sum.inl (fun _ _ e => Sum.inl.inj e) h [] (fun p155 => []) (fun p155 => []) (by kernel_rfl) (by kernel_rfl) (fun y120 hy hFy120 L hLy120 => ?_) (fun p155 h2 => ?_)
          · as_aux_lemma =>
            clear h; have h := hy; clear hy; cbv
            refine R.callD h (fun x121 hx121 h2 => ?_)
            clear h; have h := h2; clear h2
            refine R.call' (w15s _ _ _ hx121) (by (first | (simp only [D.har, D.hcmp, D.hgi, D.hinb, D.hlen, D.hscmp, D.htoB]; done) | rfl | (simp only [D.har, D.hcmp, D.hgi, D.hinb, D.hlen, D.hscmp, D.htoB]; rfl))) ?_
            clear hx121; cbv
            refine R.cut' (by kernel_rfl) (by kernel_rfl) ?_
            cbv
            refine R.brD h (by (first | (simp only [D.har, D.hcmp, D.hgi, D.hinb, D.hlen, D.hscmp, D.htoB]; done) | rfl | (simp only [D.har, D.hcmp, D.hgi, D.hinb, D.hlen, D.hscmp, D.htoB]; rfl))) ?_ ?_ <;> clear h <;> intro h <;> cbv
            · have e := ret_some h; clear h
              have h := hFy120; rw [e] at h; clear e; try dsimp only at h
              cbv
              have e := inr_some h houts74; clear h
              have h := hFs74; rw [e] at h; clear e; try dsimp only at h
              cbv
              have e := ret_some h; clear h
              have h := hFy50; rw [e] at h; clear e; try dsimp only at h
              cbv
              have e := ret_some h; clear h
              refine hK _ _ ?_
              cbv
              try (subst e; simp only [D.har, D.hcmp, D.hgi, D.hinb, D.hlen, D.hscmp, D.htoB, and_self, and_true, true_and] <;> (repeat' apply And.intro) <;> rfl)
            · as_aux_lemma =>
              refine R.cutB Sum.inl (fun _ _ e => Sum.inl.inj e) h [] (fun p143 => [(6, .i .i64 p143.1)]) (fun p143 => [(64, .cells 26 [.i .i64 p143.2.1, .sl 5 p143.2.2.1, .i .i64 p143.2.2.2.1, .i .i64 p143.2.2.2.2.1, .i .i64 p143.2.2.2.2.2.1, .i .i64 p143.2.2.2.2.2.2.1, .sl 5 p143.2.2.2.2.2.2.2.1, .i .i64 p143.2.2.2.2.2.2.2.2.1, .b p143.2.2.2.2.2.2.2.2.2])]) (by kernel_rfl) (by kernel_rfl) (fun y130 hy hFy130 L hLy130 => ?_) (fun p143 h2 => ?_)
              · as_aux_lemma =>
                clear h; have h := hy; clear hy; cbv
                refine R.loopD h (fun s0 y138 e0 hi hFs135 => ?_)
                clear h
                refine R.loopI hi [] (fun s135 => [(6, .i .i64 s135.1), (7, .i .i64 s135.2.1)]) (fun s135 => [(64, .cells 26 [.i .i64 s135.2.2.1, .sl 5 s135.2.2.2.1, .i .i64 s135.2.2.2.2.1, .i .i64 s135.2.2.2.2.2.1, .i .i64 s135.2.2.2.2.2.2.1, .i .i64 s135.2.2.2.2.2.2.2.1, .sl 5 s135.2.2.2.2.2.2.2.2.1, .i .i64 s135.2.2.2.2.2.2.2.2.2.1, .b s135.2.2.2.2.2.2.2.2.2.2])]) ⟨by kernel_rfl, ?_, ?_, by kernel_rfl, by kernel_rfl⟩ (by kernel_rfl) ?_
                · cbv; try (subst e0; simp only [D.har, D.hcmp, D.hgi, D.hinb, D.hlen, D.hscmp, D.htoB, and_self, and_true, true_and] <;> (repeat' apply And.intro) <;> rfl)
                · cbv; try (subst e0; simp only [D.har, D.hcmp, D.hgi, D.hinb, D.hlen, D.hscmp, D.htoB, and_self, and_true, true_and] <;> (repeat' apply And.intro) <;> rfl)
                clear hi e0
                intro s135 m y' hy hins135 houts135 L hLs135
                have h := hy; clear hy; unfold d14_b2 at h
                cbv
                refine R.cut' (by kernel_rfl) (by kernel_rfl) ?_
                cbv
                refine R.brD h (by (first | (simp only [D.har, D.hcmp, D.hgi, D.hinb, D.hlen, D.hscmp, D.htoB]; done) | rfl | (simp only [D.har, D.hcmp, D.hgi, D.hinb, D.hlen, D.hscmp, D.htoB]; rfl))) ?_ ?_ <;> clear h <;> intro h <;> cbv
                · refine R.cut' (by kernel_rfl) (by kernel_rfl) ?_
                  cbv
                  refine R.callD h (fun x140 hx140 h2 => ?_)
                  clear h; have h := h2; clear h2
                  refine R.call' (w16s _ _ _ _ _ _ _ _ _ _ _ _ _ hx140) (by (first | (simp only [D.har, D.hcmp, D.hgi, D.hinb, D.hlen, D.hscmp, D.htoB]; done) | rfl | (simp only [D.har, D.hcmp, D.hgi, D.hinb, D.hlen, D.hscmp, D.htoB]; rfl))) ?_
                  clear hx140; cbv
                  refine R.cut' (by kernel_rfl) (by kernel_rfl) ?_
                  cbv
                  refine R.brD h (by (first | (simp only [D.har, D.hcmp, D.hgi, D.hinb, D.hlen, D.hscmp, D.htoB]; done) | rfl | (simp only [D.har, D.hcmp, D.hgi, D.hinb, D.hlen, D.hscmp, D.htoB]; rfl))) ?_ ?_ <;> clear h <;> intro h <;> cbv
                  · have e := inr_some h houts135; clear h
                    have h := hFs135; rw [e] at h; clear e; try dsimp only at h
                    cbv
                    have e := ret_some h; clear h
                    have h := hFy130; rw [e] at h; clear e; try dsimp only at h
                    cbv
                    have e := ret_some h; clear h
                    have h := hFy120; rw [e] at h; clear e; try dsimp only at h
                    cbv
                    have e := inr_some h houts74; clear h
                    have h := hFs74; rw [e] at h; clear e; try dsimp only at h
                    cbv
                    have e := ret_some h; clear h
                    have h := hFy50; rw [e] at h; clear e; try dsimp only at h
                    cbv
                    have e := ret_some h; clear h
                    refine hK _ _ ?_
                    cbv
                    try (subst e; simp only [D.har, D.hcmp, D.hgi, D.hinb, D.hlen, D.hscmp, D.htoB, and_self, and_true, true_and] <;> (repeat' apply And.intro) <;> rfl)
                  · refine R.cut' (by kernel_rfl) (by kernel_rfl) ?_
                    cbv
                    refine R.brD h (by (first | (simp only [D.har, D.hcmp, D.hgi, D.hinb, D.hlen, D.hscmp, D.htoB]; done) | rfl | (simp only [D.har, D.hcmp, D.hgi, D.hinb, D.hlen, D.hscmp, D.htoB]; rfl))) ?_ ?_ <;> clear h <;> intro h <;> cbv
                    · obtain ⟨s', e, hi⟩ := inl_some h hins135
                      refine hLs135 s' _ _ hi ⟨by kernel_rfl, ?_, ?_, by kernel_rfl, by kernel_rfl⟩ <;> cbv <;> (try (subst e; simp only [D.har, D.hcmp, D.hgi, D.hinb, D.hlen, D.hscmp, D.htoB, and_self, and_true, true_and] <;> (repeat' apply And.intro) <;> rfl))
                    · obtain ⟨s', e, hi⟩ := inl_some h hins135
                      refine hLs135 s' _ _ hi ⟨by kernel_rfl, ?_, ?_, by kernel_rfl, by kernel_rfl⟩ <;> cbv <;> (try (subst e; simp only [D.har, D.hcmp, D.hgi, D.hinb, D.hlen, D.hscmp, D.htoB, and_self, and_true, true_and] <;> (repeat' apply And.intro) <;> rfl))
                · have e := inr_some h houts135; clear h
                  have h := hFs135; rw [e] at h; clear e; try dsimp only at h
                  cbv
                  obtain ⟨s', e, hi⟩ := jn_some Sum.inl h
                  refine hLy130 s' _ _ hi ⟨by kernel_rfl, ?_, ?_, by kernel_rfl, by kernel_rfl⟩ <;> cbv <;> (try (subst e; simp only [D.har, D.hcmp, D.hgi, D.hinb, D.hlen, D.hscmp, D.htoB, and_self, and_true, true_and] <;> (repeat' apply And.intro) <;> rfl))
              · as_aux_lemma =>
                clear h; have h := h2; clear h2; try dsimp only at h
                cbv
                refine R.callD h (fun x144 hx144 h2 => ?_)
                clear h; have h := h2; clear h2
                refine R.call' (w17s _ _ _ _ _ _ _ _ _ _ hx144) (by (first | (simp only [D.har, D.hcmp, D.hgi, D.hinb, D.hlen, D.hscmp, D.htoB]; done) | rfl | (simp only [D.har, D.hcmp, D.hgi, D.hinb, D.hlen, D.hscmp, D.htoB]; rfl))) ?_
                clear hx144; cbv
                refine R.cut' (by kernel_rfl) (by kernel_rfl) ?_
                cbv
                refine R.cutB (fun p => p) (fun _ _ e => e) h [] (fun p148 => [(126, .b p148)]) (fun p148 => []) (by kernel_rfl) (by kernel_rfl) (fun y147 hy hFy147 L hLy147 => ?_) (fun p148 h2 => ?_)
                · as_aux_lemma =>
                  clear h; have h := hy; clear hy; cbv
                  refine R.brD h (by (first | (simp only [D.har, D.hcmp, D.hgi, D.hinb, D.hlen, D.hscmp, D.htoB]; done) | rfl | (simp only [D.har, D.hcmp, D.hgi, D.hinb, D.hlen, D.hscmp, D.htoB]; rfl))) ?_ ?_ <;> clear h <;> intro h <;> cbv
                  · obtain ⟨s', e, hi⟩ := jn_some (fun p => p) h
                    refine hLy147 s' _ _ hi ⟨by kernel_rfl, ?_, ?_, by kernel_rfl, by kernel_rfl⟩ <;> cbv <;> (try (subst e; simp only [D.har, D.hcmp, D.hgi, D.hinb, D.hlen, D.hscmp, D.htoB, and_self, and_true, true_and] <;> (repeat' apply And.intro) <;> rfl))
                  · as_aux_lemma =>
                    refine R.brD h (by (first | (simp only [D.har, D.hcmp, D.hgi, D.hinb, D.hlen, D.hscmp, D.htoB]; done) | rfl | (simp only [D.har, D.hcmp, D.hgi, D.hinb, D.hlen, D.hscmp, D.htoB]; rfl))) ?_ ?_ <;> clear h <;> intro h <;> cbv
                    · obtain ⟨s', e, hi⟩ := jn_some (fun p => p) h
                      refine hLy147 s' _ _ hi ⟨by kernel_rfl, ?_, ?_, by kernel_rfl, by kernel_rfl⟩ <;> cbv <;> (try (subst e; simp only [D.har, D.hcmp, D.hgi, D.hinb, D.hlen, D.hscmp, D.htoB, and_self, and_true, true_and] <;> (repeat' apply And.intro) <;> rfl))
                    · as_aux_lemma =>
                      refine R.brD h (by (first | (simp only [D.har, D.hcmp, D.hgi, D.hinb, D.hlen, D.hscmp, D.htoB]; done) | rfl | (simp only [D.har, D.hcmp, D.hgi, D.hinb, D.hlen, D.hscmp, D.htoB]; rfl))) ?_ ?_ <;> clear h <;> intro h <;> cbv
                      · obtain ⟨s', e, hi⟩ := jn_some (fun p => p) h
                        refine hLy147 s' _ _ hi ⟨by kernel_rfl, ?_, ?_, by kernel_rfl, by kernel_rfl⟩ <;> cbv <;> (try (subst e; simp only [D.har, D.hcmp, D.hgi, D.hinb, D.hlen, D.hscmp, D.htoB, and_self, and_true, true_and] <;> (repeat' apply And.intro) <;> rfl))
                      · as_aux_lemma =>
                        refine R.brD h (by (first | (simp only [D.har, D.hcmp, D.hgi, D.hinb, D.hlen, D.hscmp, D.htoB]; done) | rfl | (simp only [D.har, D.hcmp, D.hgi, D.hinb, D.hlen, D.hscmp, D.htoB]; rfl))) ?_ ?_ <;> clear h <;> intro h <;> cbv
                        · refine R.brD h (by (first | (simp only [D.har, D.hcmp, D.hgi, D.hinb, D.hlen, D.hscmp, D.htoB]; done) | rfl | (simp only [D.har, D.hcmp, D.hgi, D.hinb, D.hlen, D.hscmp, D.htoB]; rfl))) ?_ ?_ <;> clear h <;> intro h <;> cbv
                          · obtain ⟨s', e, hi⟩ := jn_some (fun p => p) h
                            refine hLy147 s' _ _ hi ⟨by kernel_rfl, ?_, ?_, by kernel_rfl, by kernel_rfl⟩ <;> cbv <;> (try (subst e; simp only [D.har, D.hcmp, D.hgi, D.hinb, D.hlen, D.hscmp, D.htoB, and_self, and_true, true_and] <;> (repeat' apply And.intro) <;> rfl))
                          · refine R.brD h (by (first | (simp only [D.har, D.hcmp, D.hgi, D.hinb, D.hlen, D.hscmp, D.htoB]; done) | rfl | (simp only [D.har, D.hcmp, D.hgi, D.hinb, D.hlen, D.hscmp, D.htoB]; rfl))) ?_ ?_ <;> clear h <;> intro h <;> cbv
                            · obtain ⟨s', e, hi⟩ := jn_some (fun p => p) h
                              refine hLy147 s' _ _ hi ⟨by kernel_rfl, ?_, ?_, by kernel_rfl, by kernel_rfl⟩ <;> cbv <;> (try (subst e; simp only [D.har, D.hcmp, D.hgi, D.hinb, D.hlen, D.hscmp, D.htoB, and_self, and_true, true_and] <;> (repeat' apply And.intro) <;> rfl))
                            · refine R.brD h (by (first | (simp only [D.har, D.hcmp, D.hgi, D.hinb, D.hlen, D.hscmp, D.htoB]; done) | rfl | (simp only [D.har, D.hcmp, D.hgi, D.hinb, D.hlen, D.hscmp, D.htoB]; rfl))) ?_ ?_ <;> clear h <;> intro h <;> cbv
                              · obtain ⟨s', e, hi⟩ := jn_some (fun p => p) h
                                refine hLy147 s' _ _ hi ⟨by kernel_rfl, ?_, ?_, by kernel_rfl, by kernel_rfl⟩ <;> cbv <;> (try (subst e; simp only [D.har, D.hcmp, D.hgi, D.hinb, D.hlen, D.hscmp, D.htoB, and_self, and_true, true_and] <;> (repeat' apply And.intro) <;> rfl))
                              · refine R.brD h (by (first | (simp only [D.har, D.hcmp, D.hgi, D.hinb, D.hlen, D.hscmp, D.htoB]; done) | rfl | (simp only [D.har, D.hcmp, D.hgi, D.hinb, D.hlen, D.hscmp, D.htoB]; rfl))) ?_ ?_ <;> clear h <;> intro h <;> cbv
                                · obtain ⟨s', e, hi⟩ := jn_some (fun p => p) h
                                  refine hLy147 s' _ _ hi ⟨by kernel_rfl, ?_, ?_, by kernel_rfl, by kernel_rfl⟩ <;> cbv <;> (try (subst e; simp only [D.har, D.hcmp, D.hgi, D.hinb, D.hlen, D.hscmp, D.htoB, and_self, and_true, true_and] <;> (repeat' apply And.intro) <;> rfl))
                                · refine R.needD h (by (first | (simp only [D.har, D.hcmp, D.hgi, D.hinb, D.hlen, D.hscmp, D.htoB]; done) | rfl | (simp only [D.har, D.hcmp, D.hgi, D.hinb, D.hlen, D.hscmp, D.htoB]; rfl))) ?_
                                  clear h; intro h; cbv
                                  refine R.brD h (by (first | (simp only [D.har, D.hcmp, D.hgi, D.hinb, D.hlen, D.hscmp, D.htoB]; done) | rfl | (simp only [D.har, D.hcmp, D.hgi, D.hinb, D.hlen, D.hscmp, D.htoB]; rfl))) ?_ ?_ <;> clear h <;> intro h <;> cbv
                                  · obtain ⟨s', e, hi⟩ := jn_some (fun p => p) h
                                    refine hLy147 s' _ _ hi ⟨by kernel_rfl, ?_, ?_, by kernel_rfl, by kernel_rfl⟩ <;> cbv <;> (try (subst e; simp only [D.har, D.hcmp, D.hgi, D.hinb, D.hlen, D.hscmp, D.htoB, and_self, and_true, true_and] <;> (repeat' apply And.intro) <;> rfl))
                                  · refine R.brD h (by (first | (simp only [D.har, D.hcmp, D.hgi, D.hinb, D.hlen, D.hscmp, D.htoB]; done) | rfl | (simp only [D.har, D.hcmp, D.hgi, D.hinb, D.hlen, D.hscmp, D.htoB]; rfl))) ?_ ?_ <;> clear h <;> intro h <;> cbv
                                    · refine R.brD h (by (first | (simp only [D.har, D.hcmp, D.hgi, D.hinb, D.hlen, D.hscmp, D.htoB]; done) | rfl | (simp only [D.har, D.hcmp, D.hgi, D.hinb, D.hlen, D.hscmp, D.htoB]; rfl))) ?_ ?_ <;> clear h <;> intro h <;> cbv
                                      · obtain ⟨s', e, hi⟩ := jn_some (fun p => p) h
                                        refine hLy147 s' _ _ hi ⟨by kernel_rfl, ?_, ?_, by kernel_rfl, by kernel_rfl⟩ <;> cbv <;> (try (subst e; simp only [D.har, D.hcmp, D.hgi, D.hinb, D.hlen, D.hscmp, D.htoB, and_self, and_true, true_and] <;> (repeat' apply And.intro) <;> rfl))
                                      · refine R.needD h (by (first | (simp only [D.har, D.hcmp, D.hgi, D.hinb, D.hlen, D.hscmp, D.htoB]; done) | rfl | (simp only [D.har, D.hcmp, D.hgi, D.hinb, D.hlen, D.hscmp, D.htoB]; rfl))) ?_
                                        clear h; intro h; cbv
                                        obtain ⟨s', e, hi⟩ := jn_some (fun p => p) h
                                        refine hLy147 s' _ _ hi ⟨by kernel_rfl, ?_, ?_, by kernel_rfl, by kernel_rfl⟩ <;> cbv <;> (try (subst e; simp only [D.har, D.hcmp, D.hgi, D.hinb, D.hlen, D.hscmp, D.htoB, and_self, and_true, true_and] <;> (repeat' apply And.intro) <;> rfl))
                                    · obtain ⟨s', e, hi⟩ := jn_some (fun p => p) h
                                      refine hLy147 s' _ _ hi ⟨by kernel_rfl, ?_, ?_, by kernel_rfl, by kernel_rfl⟩ <;> cbv <;> (try (subst e; simp only [D.har, D.hcmp, D.hgi, D.hinb, D.hlen, D.hscmp, D.htoB, and_self, and_true, true_and] <;> (repeat' apply And.intro) <;> rfl))
                        · refine R.brD h (by (first | (simp only [D.har, D.hcmp, D.hgi, D.hinb, D.hlen, D.hscmp, D.htoB]; done) | rfl | (simp only [D.har, D.hcmp, D.hgi, D.hinb, D.hlen, D.hscmp, D.htoB]; rfl))) ?_ ?_ <;> clear h <;> intro h <;> cbv
                          · refine R.brD h (by (first | (simp only [D.har, D.hcmp, D.hgi, D.hinb, D.hlen, D.hscmp, D.htoB]; done) | rfl | (simp only [D.har, D.hcmp, D.hgi, D.hinb, D.hlen, D.hscmp, D.htoB]; rfl))) ?_ ?_ <;> clear h <;> intro h <;> cbv
                            · obtain ⟨s', e, hi⟩ := jn_some (fun p => p) h
                              refine hLy147 s' _ _ hi ⟨by kernel_rfl, ?_, ?_, by kernel_rfl, by kernel_rfl⟩ <;> cbv <;> (try (subst e; simp only [D.har, D.hcmp, D.hgi, D.hinb, D.hlen, D.hscmp, D.htoB, and_self, and_true, true_and] <;> (repeat' apply And.intro) <;> rfl))
                            · refine R.needD h (by (first | (simp only [D.har, D.hcmp, D.hgi, D.hinb, D.hlen, D.hscmp, D.htoB]; done) | rfl | (simp only [D.har, D.hcmp, D.hgi, D.hinb, D.hlen, D.hscmp, D.htoB]; rfl))) ?_
                              clear h; intro h; cbv
                              obtain ⟨s', e, hi⟩ := jn_some (fun p => p) h
                              refine hLy147 s' _ _ hi ⟨by kernel_rfl, ?_, ?_, by kernel_rfl, by kernel_rfl⟩ <;> cbv <;> (try (subst e; simp only [D.har, D.hcmp, D.hgi, D.hinb, D.hlen, D.hscmp, D.htoB, and_self, and_true, true_and] <;> (repeat' apply And.intro) <;> rfl))
                          · obtain ⟨s', e, hi⟩ := jn_some (fun p => p) h
                            refine hLy147 s' _ _ hi ⟨by kernel_rfl, ?_, ?_, by kernel_rfl, by kernel_rfl⟩ <;> cbv <;> (try (subst e; simp only [D.har, D.hcmp, D.hgi, D.hinb, D.hlen, D.hscmp, D.htoB, and_self, and_true, true_and] <;> (repeat' apply And.intro) <;> rfl))
                · as_aux_lemma =>
                  clear h; have h := h2; clear h2; try dsimp only at h
                  cbv
                  refine R.brD h (by (first | (simp only [D.har, D.hcmp, D.hgi, D.hinb, D.hlen, D.hscmp, D.htoB]; done) | rfl | (simp only [D.har, D.hcmp, D.hgi, D.hinb, D.hlen, D.hscmp, D.htoB]; rfl))) ?_ ?_ <;> clear h <;> intro h <;> cbv
                  · have e := ret_some h; clear h
                    have h := hFy120; rw [e] at h; clear e; try dsimp only at h
                    cbv
                    have e := inr_some h houts74; clear h
                    have h := hFs74; rw [e] at h; clear e; try dsimp only at h
                    cbv
                    have e := ret_some h; clear h
                    have h := hFy50; rw [e] at h; clear e; try dsimp only at h
                    cbv
                    have e := ret_some h; clear h
                    refine hK _ _ ?_
                    cbv
                    try (subst e; simp only [D.har, D.hcmp, D.hgi, D.hinb, D.hlen, D.hscmp, D.htoB, and_self, and_true, true_and] <;> (repeat' apply And.intro) <;> rfl)
                  · as_aux_lemma =>
                    refine R.brD h (by (first | (simp only [D.har, D.hcmp, D.hgi, D.hinb, D.hlen, D.hscmp, D.htoB]; done) | rfl | (simp only [D.har, D.hcmp, D.hgi, D.hinb, D.hlen, D.hscmp, D.htoB]; rfl))) ?_ ?_ <;> clear h <;> intro h <;> cbv
                    · as_aux_lemma =>
                      refine R.callD h (fun x149 hx149 h2 => ?_)
                      clear h; have h := h2; clear h2
                      refine R.call' (w25s _ _ _ _ _ _ _ _ _ _ hx149) (by (first | (simp only [D.har, D.hcmp, D.hgi, D.hinb, D.hlen, D.hscmp, D.htoB]; done) | rfl | (simp only [D.har, D.hcmp, D.hgi, D.hinb, D.hlen, D.hscmp, D.htoB]; rfl))) ?_
                      clear hx149; cbv
                      refine R.callD h (fun x150 hx150 h2 => ?_)
                      clear h; have h := h2; clear h2
                      refine R.call' (w25s _ _ _ _ _ _ _ _ _ _ hx150) (by (first | (simp only [D.har, D.hcmp, D.hgi, D.hinb, D.hlen, D.hscmp, D.htoB]; done) | rfl | (simp only [D.har, D.hcmp, D.hgi, D.hinb, D.hlen, D.hscmp, D.htoB]; rfl))) ?_
                      clear hx150; cbv
                      refine R.callD h (fun x151 hx151 h2 => ?_)
                      clear h; have h := h2; clear h2
                      refine R.call' (w26s _ _ _ _ _ _ _ _ _ _ hx151) (by (first | (simp only [D.har, D.hcmp, D.hgi, D.hinb, D.hlen, D.hscmp, D.htoB]; done) | rfl | (simp only [D.har, D.hcmp, D.hgi, D.hinb, D.hlen, D.hscmp, D.htoB]; rfl))) ?_
                      clear hx151; cbv
                      refine R.cutB (fun p => p) (fun _ _ e => e) h [] (fun p153 => [(169, .b p153)]) (fun p153 => []) (by kernel_rfl) (by kernel_rfl) (fun y152 hy hFy152 L hLy152 => ?_) (fun p153 h2 => ?_)
                      · clear h; have h := hy; clear hy; cbv
                        refine R.brD h (by (first | (simp only [D.har, D.hcmp, D.hgi, D.hinb, D.hlen, D.hscmp, D.htoB]; done) | rfl | (simp only [D.har, D.hcmp, D.hgi, D.hinb, D.hlen, D.hscmp, D.htoB]; rfl))) ?_ ?_ <;> clear h <;> intro h <;> cbv
                        · obtain ⟨s', e, hi⟩ := jn_some (fun p => p) h
                          refine hLy152 s' _ _ hi ⟨by kernel_rfl, ?_, ?_, by kernel_rfl, by kernel_rfl⟩ <;> cbv <;> (try (subst e; simp only [D.har, D.hcmp, D.hgi, D.hinb, D.hlen, D.hscmp, D.htoB, and_self, and_true, true_and] <;> (repeat' apply And.intro) <;> rfl))
                        · refine R.brD h (by (first | (simp only [D.har, D.hcmp, D.hgi, D.hinb, D.hlen, D.hscmp, D.htoB]; done) | rfl | (simp only [D.har, D.hcmp, D.hgi, D.hinb, D.hlen, D.hscmp, D.htoB]; rfl))) ?_ ?_ <;> clear h <;> intro h <;> cbv
                          · obtain ⟨s', e, hi⟩ := jn_some (fun p => p) h
                            refine hLy152 s' _ _ hi ⟨by kernel_rfl, ?_, ?_, by kernel_rfl, by kernel_rfl⟩ <;> cbv <;> (try (subst e; simp only [D.har, D.hcmp, D.hgi, D.hinb, D.hlen, D.hscmp, D.htoB, and_self, and_true, true_and] <;> (repeat' apply And.intro) <;> rfl))
                          · refine R.brD h (by (first | (simp only [D.har, D.hcmp, D.hgi, D.hinb, D.hlen, D.hscmp, D.htoB]; done) | rfl | (simp only [D.har, D.hcmp, D.hgi, D.hinb, D.hlen, D.hscmp, D.htoB]; rfl))) ?_ ?_ <;> clear h <;> intro h <;> cbv
                            · obtain ⟨s', e, hi⟩ := jn_some (fun p => p) h
                              refine hLy152 s' _ _ hi ⟨by kernel_rfl, ?_, ?_, by kernel_rfl, by kernel_rfl⟩ <;> cbv <;> (try (subst e; simp only [D.har, D.hcmp, D.hgi, D.hinb, D.hlen, D.hscmp, D.htoB, and_self, and_true, true_and] <;> (repeat' apply And.intro) <;> rfl))
                            · refine R.brD h (by (first | (simp only [D.har, D.hcmp, D.hgi, D.hinb, D.hlen, D.hscmp, D.htoB]; done) | rfl | (simp only [D.har, D.hcmp, D.hgi, D.hinb, D.hlen, D.hscmp, D.htoB]; rfl))) ?_ ?_ <;> clear h <;> intro h <;> cbv
                              · obtain ⟨s', e, hi⟩ := jn_some (fun p => p) h
                                refine hLy152 s' _ _ hi ⟨by kernel_rfl, ?_, ?_, by kernel_rfl, by kernel_rfl⟩ <;> cbv <;> (try (subst e; simp only [D.har, D.hcmp, D.hgi, D.hinb, D.hlen, D.hscmp, D.htoB, and_self, and_true, true_and] <;> (repeat' apply And.intro) <;> rfl))
                              · refine R.brD h (by (first | (simp only [D.har, D.hcmp, D.hgi, D.hinb, D.hlen, D.hscmp, D.htoB]; done) | rfl | (simp only [D.har, D.hcmp, D.hgi, D.hinb, D.hlen, D.hscmp, D.htoB]; rfl))) ?_ ?_ <;> clear h <;> intro h <;> cbv
                                · obtain ⟨s', e, hi⟩ := jn_some (fun p => p) h
                                  refine hLy152 s' _ _ hi ⟨by kernel_rfl, ?_, ?_, by kernel_rfl, by kernel_rfl⟩ <;> cbv <;> (try (subst e; simp only [D.har, D.hcmp, D.hgi, D.hinb, D.hlen, D.hscmp, D.htoB, and_self, and_true, true_and] <;> (repeat' apply And.intro) <;> rfl))
                                · obtain ⟨s', e, hi⟩ := jn_some (fun p => p) h
                                  refine hLy152 s' _ _ hi ⟨by kernel_rfl, ?_, ?_, by kernel_rfl, by kernel_rfl⟩ <;> cbv <;> (try (subst e; simp only [D.har, D.hcmp, D.hgi, D.hinb, D.hlen, D.hscmp, D.htoB, and_self, and_true, true_and] <;> (repeat' apply And.intro) <;> rfl))
                      · clear h; have h := h2; clear h2; try dsimp only at h
                        cbv
                        refine R.brD h (by (first | (simp only [D.har, D.hcmp, D.hgi, D.hinb, D.hlen, D.hscmp, D.htoB]; done) | rfl | (simp only [D.har, D.hcmp, D.hgi, D.hinb, D.hlen, D.hscmp, D.htoB]; rfl))) ?_ ?_ <;> clear h <;> intro h <;> cbv
                        · have e := ret_some h; clear h
                          have h := hFy120; rw [e] at h; clear e; try dsimp only at h
                          cbv
                          have e := inr_some h houts74; clear h
                          have h := hFs74; rw [e] at h; clear e; try dsimp only at h
                          cbv
                          have e := ret_some h; clear h
                          have h := hFy50; rw [e] at h; clear e; try dsimp only at h
                          cbv
                          have e := ret_some h; clear h
                          refine hK _ _ ?_
                          cbv
                          try (subst e; simp only [D.har, D.hcmp, D.hgi, D.hinb, D.hlen, D.hscmp, D.htoB, and_self, and_true, true_and] <;> (repeat' apply And.intro) <;> rfl)
                        · obtain ⟨s', e, hi⟩ := jn_some Sum.inl h
                          refine hLy120 s' _ _ hi ⟨by kernel_rfl, ?_, ?_, by kernel_rfl, by kernel_rfl⟩ <;> cbv <;> (try (subst e; simp only [D.har, D.hcmp, D.hgi, D.hinb, D.hlen, D.hscmp, D.htoB, and_self, and_true, true_and] <;> (repeat' apply And.intro) <;> rfl))
                    · obtain ⟨s', e, hi⟩ := jn_some Sum.inl h
                      refine hLy120 s' _ _ hi ⟨by kernel_rfl, ?_, ?_, by kernel_rfl, by kernel_rfl⟩ <;> cbv <;> (try (subst e; simp only [D.har, D.hcmp, D.hgi, D.hinb, D.hlen, D.hscmp, D.htoB, and_self, and_true, true_and] <;> (repeat' apply And.intro) <;> rfl))
          · clear h; have h := h2; clear h2; try dsimp only at h
            cbv
            obtain ⟨s', e, hi⟩ := inl_some h hins74
            refine hLs74 s' _ _ hi ⟨by kernel_rfl, ?_, ?_, by kernel_rfl, by kernel_rfl⟩ <;> cbv <;> (try (subst e; simp only [D.har, D.hcmp, D.hgi, D.hinb, D.hlen, D.hscmp, D.htoB, and_self, and_true, true_and] <;> (repeat' apply And.intro) <;> rfl))
        · have e := inr_some h houts74; clear h
          have h := hFs74; rw [e] at h; clear e; try dsimp only at h
          cbv
          obtain ⟨s', e, hi⟩ := jn_some Sum.inl h
          refine hLy50 s' _ _ hi ⟨by kernel_rfl, ?_, ?_, by kernel_rfl, by kernel_rfl⟩ <;> cbv <;> (try (subst e; simp only [D.har, D.hcmp, D.hgi, D.hinb, D.hlen, D.hscmp, D.htoB, and_self, and_true, true_and] <;> (repeat' apply And.intro) <;> rfl))
      · clear h; have h := h2; clear h2; try dsimp only at h
        cbv
        refine R.callD h (fun x160 hx160 h2 => ?_)
        clear h; have h := h2; clear h2
        refine R.call' (w44 _ hx160) (by (first | (simp only [D.har, D.hcmp, D.hgi, D.hinb, D.hlen, D.hscmp, D.htoB]; done) | rfl | (simp only [D.har, D.hcmp, D.hgi, D.hinb, D.hlen, D.hscmp, D.htoB]; rfl))) ?_
        clear hx160; cbv
        have e := ret_some h; clear h
        refine hK _ _ ?_
        cbv
        try (subst e; simp only [D.har, D.hcmp, D.hgi, D.hinb, D.hlen, D.hscmp, D.htoB, and_self, and_true, true_and] <;> (repeat' apply And.intro) <;> rfl)
end Go.Proofs.Ytdejapkfijdadaa
end
section
namespace Go.Proofs.Ytdejapkfijdadaa
open Go.Ab Go.RowKit 
set_option maxRecDepth 100000
set_option maxHeartbeats 40000000
end Go.Proofs.Ytdejapkfijdadaa
end
section
namespace Go.Proofs.Ytdejapkfijdadaa
open Go.Ab Go.RowKit 
set_option maxRecDepth 100000
set_option maxHeartbeats 40000000
end Go.Proofs.Ytdejapkfijdadaa
end
section
/- What the bound of an 'Upto' statement gives. No statement of its own. -/

namespace Go.Proofs.Ytdejapkfijdadaa.bulks
open Go.Ab Go.RowKit
theorem one_le {H : Type} (d : DataW H) : 1 ≤ Rows.uptoBulk d := by
  cases d with
  | lit l => cases l <;> simp [Rows.uptoBulk]
  | _ => simp [Rows.uptoBulk]
theorem part_le {H : Type} {d : DataW H} {l : List (DataW H)} (h : d ∈ l) : Rows.uptoBulk d ≤ Rows.uptoBulkAll l := by
  induction l with
  | nil => cases h
  | cons x r ih =>
    simp only [Rows.uptoBulkAll]
    cases List.mem_cons.1 h with
    | inl e => subst e; omega
    | inr e => have := ih e; omega
theorem append {H : Type} (l r : List (DataW H)) : Rows.uptoBulkAll (l ++ r) = Rows.uptoBulkAll l + Rows.uptoBulkAll r := by
  induction l with
  | nil => simp [Rows.uptoBulkAll]
  | cons x l ih => simp only [List.cons_append, Rows.uptoBulkAll, ih]; omega
theorem length_le {H : Type} (l : List (DataW H)) : l.length ≤ Rows.uptoBulkAll l := by
  induction l with
  | nil => simp [Rows.uptoBulkAll]
  | cons x r ih => have := one_le x; simp only [Rows.uptoBulkAll, List.length_cons]; omega
theorem bound {H : Type} {l : List (DataW H)} (hk : Rows.uptoSmall H l = true) : Rows.uptoBulkAll l ≤ 1048576 := of_decide_eq_true hk
theorem len_le {H : Type} {enc : TypeId × Value → H} {P : Program} {w : World} {spare : Nat → Bool} {held : Bool} {t e : TypeId} {fuel : Nat} {A : Option Addr} {n cap : Nat} {d : DataW H} {pl : List MemPlace} (ht : P.underlying t = some (.slice e)) (h : DataW.trod enc P w 0 spare held fuel t [.slice A n cap] = some (d, pl)) : n ≤ Rows.uptoBulk d := by
  rcases Deep.open_slice ht h with ⟨h1, _⟩ | ⟨a, len, cap', m, k, D, Pl, h1, _, _, _, _, h2, _⟩
  · injection h1 with h1
    injection h1 with _ h1
    omega
  · injection h1 with h1
    injection h1 with _ h1
    injection h2 with h2
    subst h2
    have := length_le ((List.range len).map D)
    simp only [Rows.uptoBulk]
    rw [List.length_map, List.length_range] at this
    omega
theorem len_of {T : Tr} {φ : Nat → Option Ab.Loc} {w : World} {S : Nat → Prop} {e : Nat} {l : List V} {A : Option Addr} {n cap : Nat} (h : relL T φ w S [.sl e l] [.slice A n cap]) : n = l.length := by
  simp only [relL, rel] at h
  obtain ⟨c, cs, h1, h2, _⟩ := h
  obtain ⟨A', cap', h3, _⟩ := h2
  injection h1 with h1
  rw [← h1] at h3
  injection h3
end Go.Proofs.Ytdejapkfijdadaa.bulks
end
section
namespace Go.Proofs.Ytdejapkfijdadaa
open Go.Ab Go.RowKit 
set_option maxRecDepth 100000
set_option maxHeartbeats 40000000
end Go.Proofs.Ytdejapkfijdadaa
end
section
namespace Go.Proofs.Ytdejapkfijdadaa
open Go.Ab Go.RowKit 
set_option maxRecDepth 100000
set_option maxHeartbeats 40000000
end Go.Proofs.Ytdejapkfijdadaa
end
section
namespace Go.Proofs.Ytdejapkfijdadaa
open Go.Ab Go.RowKit 
set_option maxRecDepth 100000
set_option maxHeartbeats 40000000
end Go.Proofs.Ytdejapkfijdadaa
end
