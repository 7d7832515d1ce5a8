/- Texts of this seat, merged in build order. No statement of its own. -/
import Derived.Test.YtdejapkfijdadaaRows
import Derived.Deep.Slices
import Derived.Test.YtdejapkfijdadaaBB5
set_option linter.unusedVariables false
set_option linter.unusedSimpArgs false
section
namespace Go.Proofs.Ytdejapkfijdadaa
open Go.Ab Go.RowKit
set_option maxRecDepth 100000

def rc (i : Nat) : Rc := (((i + 1 : Nat) : Int), 0, [.i .u8 1, .i .u8 2])
theorem rc_ok (i : Nat) (h : i < 5) : okR (rc i) := by
  refine ⟨decide_eq_true ⟨by show (1 : Int) ≤ ((i + 1 : Nat) : Int); omega, by show ((i + 1 : Nat) : Int) ≤ 1073741824; omega, by show (0 : Int) ≤ 0; omega, by show (0 : Int) ≤ 1099511627776; omega, by show (2 : Int) ≤ 256; omega⟩, ?_⟩
  intro v hv
  rcases List.mem_cons.1 hv with rfl | hv
  · exact ⟨1, rfl, by omega, by omega⟩
  · rw [List.mem_singleton.1 hv]
    exact ⟨2, rfl, by omega, by omega⟩
def five : Nat → Nat → Nat → AB → Nat × AB
  | 0, _, k, a => (k, a)
  | m + 1, i, k, a => five m (i + 1) (if (a.put (rc i)).2 = true then k + 1 else k) (a.put (rc i)).1
theorem five_iter : ∀ (m i k : Nat) (a : AB), i + m = 5 → k ≤ i → a.Good → iter d14_b2 ((k : Int), (i : Int), a.p, a.Y, a.S, a.E, a.W, a.dr, a.J, a.idr, a.rd) = some (.inr (((five m i k a).1 : Int), (five m i k a).2.p, (five m i k a).2.Y, (five m i k a).2.S, (five m i k a).2.E, (five m i k a).2.W, (five m i k a).2.dr, (five m i k a).2.J, (five m i k a).2.idr, (five m i k a).2.rd)) ∧ (five m i k a).2.Good
  | 0, i, k, a, h, hk, hg => by
    refine ⟨iter_inr ?_, hg⟩
    unfold d14_b2
    rw [if_neg (by rw [c_lss, dF (by dsimp only; omega)]; decide)]
    rfl
  | m + 1, i, k, a, h, hk, hg => by
    have hr := rc_ok i (by omega)
    have hp := (AB.put_ok hg hr).1
    have ih := five_iter m (i + 1) (if (a.put (rc i)).2 = true then k + 1 else k) (a.put (rc i)).1 (by omega) (by split <;> omega) hp
    refine ⟨?_, ih.2⟩
    have e1 : five (m + 1) i k a = five m (i + 1) (if (a.put (rc i)).2 = true then k + 1 else k) (a.put (rc i)).1 := rfl
    rw [e1, ← ih.1]
    refine iter_inl ?_
    unfold d14_b2
    rw [if_pos (by rw [c_lss]; exact dT (by dsimp only; omega))]
    dsimp only
    have t1 : arReal .add .i64 (i : Int) 1 = ((i + 1 : Nat) : Int) := by rw [i64add (by omega) (by omega)]; push_cast; rfl
    have t2 : arReal .add .i64 (k : Int) 1 = ((k + 1 : Nat) : Int) := by rw [i64add (by omega) (by omega)]; push_cast; rfl
    have c := AB.c16 hg hr
    simp only [rc] at c
    rw [t1, t2, c]
    simp only [Option.bind_some]
    rw [if_neg (by decide)]
    change (if (a.put (rc i)).2 = true then _ else _) = _
    by_cases hq : (a.put (rc i)).2 = true
    · rw [if_pos hq, if_pos hq]; rfl
    · rw [if_neg hq, if_neg hq]; rfl
theorem five_1 : five 5 0 0 (newA 1 64) = (4, ⟨1, 64, 0, [rc 0, rc 1, rc 2, rc 3], [], false, 1, [], 0, false⟩) := by kernel_rfl
theorem five_2 : five 5 0 0 (newA 2 64) = (4, ⟨2, 64, 0, [rc 0, rc 1, rc 2, rc 3], [], false, 1, [], 0, false⟩) := by kernel_rfl
theorem five_3 : five 5 0 0 (newA 3 64) = (5, ⟨3, 64, 16, [rc 1, rc 2, rc 3], [rc 4], true, 1, [], 0, false⟩) := by kernel_rfl
theorem s15' (p : Int) (hp : 1 ≤ p ∧ p ≤ 3) : d15 p 64 = some ((newA p 64).p, (newA p 64).Y, (newA p 64).S, (newA p 64).E, (newA p 64).W, (newA p 64).dr, (newA p 64).J, (newA p 64).idr, (newA p 64).rd, 0) := s15 p 64 (by omega)
theorem pol (p : Int) (hp : 1 ≤ p ∧ p ≤ 3) : d14_b1 p = some (.inl (p + 1)) := by
  have hg := new_good (n := 64) hp (by omega)
  obtain ⟨hi, hg5⟩ := five_iter 5 0 0 (newA p 64) rfl (Nat.le_refl _) hg
  have t1 : arReal .add .i64 p 1 = p + 1 := i64add (by omega) (by omega)
  unfold d14_b1
  rw [if_pos (by rw [c_leq]; exact dT hp.2), t1]
  refine bnd1 (a := (.inl () : Unit ⊕ Bool)) ?_ rfl
  rw [s15' p hp]
  simp only [Option.bind_some]
  rw [if_neg (by decide)]
  refine bnd1 (bnd1 hi rfl) ?_
  dsimp only
  have c := AB.c17 hg5
  rw [c]
  simp only [Option.bind_some]
  have h3 : p = 1 ∨ p = 2 ∨ p = 3 := by omega
  rcases h3 with rfl | rfl | rfl
  · rw [five_1]
    refine bnd1 (a := false) (by kernel_rfl) ?_
    rw [if_neg (by decide), if_neg (by decide)]
  · rw [five_2]
    refine bnd1 (a := false) (by kernel_rfl) ?_
    rw [if_neg (by decide), if_pos (by decide)]
    rw [five_2] at hg5
    have hs := AB.sw_good hg5 rfl
    have c25 := AB.c25_ok hg5 rfl rfl
    have c25' := AB.c25_idle hs rfl rfl
    have c26 := AB.c26_ok hs rfl rfl
    refine bnd1 c25 ?_
    dsimp only
    refine bnd1 c25' ?_
    refine bnd1 c26 ?_
    refine bnd1 (a := false) (by kernel_rfl) ?_
    rfl
  · rw [five_3]
    refine bnd1 (a := false) (by kernel_rfl) ?_
    rw [if_neg (by decide), if_neg (by decide)]
def rg1 : Rc := (1, 0, List.replicate 26 z8)
def rg2 : Rc := (2, 0, List.replicate 16 z8)
theorem rg1_ok : okR rg1 := ⟨by kernel_rfl, zs_u8 26⟩
theorem rg2_ok : okR rg2 := ⟨by kernel_rfl, zs_u8 16⟩
theorem s44 : d44 = some true := by
  have hg := new_good (p := 3) (n := 64) (by omega) (by omega)
  have c1 := AB.c16 hg rg1_ok
  have hg1 := (AB.put_ok hg rg1_ok).1
  have e1 : (newA 3 64).put rg1 = (⟨3, 64, 0, [rg1], [], false, 0, [], 0, false⟩, true) := by kernel_rfl
  rw [e1] at c1 hg1
  have c2 := AB.c16 hg1 rg2_ok
  have hg2 := (AB.put_ok hg1 rg2_ok).1
  have e2 : AB.put ⟨3, 64, 0, [rg1], [], false, 0, [], 0, false⟩ rg2 = (⟨3, 64, 0, [rg2], [], false, 1, [], 0, false⟩, true) := by kernel_rfl
  rw [e2] at c2 hg2
  have c3 := AB.c17 hg2
  unfold d44
  refine bnd1 (s15' 3 (by omega)) ?_
  dsimp only
  rw [if_pos (by unfold Ge0; omega), if_pos (room1s (by omega))]
  refine bnd1 c1 ?_
  dsimp only
  rw [if_pos (by unfold Ge0; omega), if_pos (room1s (by omega))]
  refine bnd1 c2 ?_
  dsimp only
  refine bnd1 c3 ?_
  kernel_rfl
theorem s14 : d14 = some true := by
  unfold d14
  refine bnd1 (s24 1 2 [.i .u8 9]) ?_
  have hv : validB 1 2 [.i .u8 9] = true := by kernel_rfl
  rw [if_pos hv, if_neg (by decide), if_neg (by
    have : strCmp .neq (toBy (encB 1 2 [.i .u8 9])) (ByteArray.mk #[1, 0, 0, 0, 2, 0, 0, 0, 0, 0, 0, 0, 1, 0, 9]) = false := by
      have : toBy (encB 1 2 [.i .u8 9]) = ByteArray.mk #[1, 0, 0, 0, 2, 0, 0, 0, 0, 0, 0, 0, 1, 0, 9] := by kernel_rfl
      rw [this, scmp_refl']
    rw [this]; decide)]
  have hl : iter d14_b1 1 = some (.inr () : Bool ⊕ Unit) := by
    rw [iter_inl (pol 1 (by omega)), iter_inl (pol (1 + 1) (by omega)), iter_inl (pol (1 + 1 + 1) (by omega))]
    refine iter_inr ?_
    unfold d14_b1
    rw [if_neg (by decide)]
  rw [hl]
  simp only [Option.bind_some]
  rw [s44]
  rfl
end Go.Proofs.Ytdejapkfijdadaa
end
section
namespace Go.Proofs.Ytdejapkfijdadaa
open Go.Ab Go.RowKit
set_option maxRecDepth 100000

/-- A record is valid, or not. -/
theorem ok_or {r : Rc} (h : ∀ v ∈ r.2.2, U8 v) : okR r ∨ validB r.1 r.2.1 r.2.2 = false := by
  cases hv : validB r.1 r.2.1 r.2.2 with
  | true => exact .inl ⟨hv, h⟩
  | false => exact .inr rfl
theorem recs_len (a : AB) : a.recs.length = a.A.length + a.B.length := by
  unfold AB.recs
  rw [List.length_map, List.length_append]
end Go.Proofs.Ytdejapkfijdadaa
end
section
namespace Go.Proofs.Ytdejapkfijdadaa
open Go.Ab Go.RowKit
set_option maxRecDepth 100000

/-- An operation: its kind, its record. -/
abbrev Act := Int × Rc
abbrev Seg := List Rc × Nat
/-- Records, in segments of what is told and of what was dropped behind it. -/
inductive Split : List Rc → List Seg → Prop
  | nil : Split [] []
  | cons (l d t : List Rc) (r : List Seg) (h : Split t r) : Split (l ++ (d ++ t)) ((l, d.length) :: r)
theorem Split.app {x y : List Rc} {s t : List Seg} (h : Split x s) (h' : Split y t) : Split (x ++ y) (s ++ t) := by
  induction h with
  | nil => exact h'
  | cons l d t r h ih =>
    have := Split.cons l d _ _ ih
    simpa using this
end Go.Proofs.Ytdejapkfijdadaa
end
section
namespace Go.Proofs.Ytdejapkfijdadaa
open Go.Ab Go.RowKit
set_option maxRecDepth 100000

theorem s20 (l : List V) (hb : ∀ v ∈ l, U8 v) (hl : l.length ≤ 1099511627776) : d20 l = some (if (recs l).2 = true then ((recs l).1, 0) else ([], 221)) := by
  unfold d20
  rw [s51 l hb hl]
  simp only [Option.bind_some]
  cases (recs l).2 <;> rfl
end Go.Proofs.Ytdejapkfijdadaa
end
section
namespace Go.Proofs.Ytdejapkfijdadaa
open Go.Ab Go.RowKit
set_option maxRecDepth 100000

theorem and255 (m : Nat) (h : m < 2 ^ 62) : wrapK .u8 (arReal .and .i64 (m : Int) 255) = ((m % 256 : Nat) : Int) := by
  have e : arReal .and .i64 (m : Int) 255 = ((m % 256 : Nat) : Int) := by
    show w64 ((BitVec.ofInt 64 (m : Int) &&& BitVec.ofInt 64 ((255 : Nat) : Int)).toNat : Int) = _
    rw [BitVec.ofInt_natCast, BitVec.ofInt_natCast, BitVec.toNat_and, BitVec.toNat_ofNat, BitVec.toNat_ofNat, Nat.mod_eq_of_lt (by omega), Nat.mod_eq_of_lt (by omega)]
    have : m &&& 255 = m % 256 := Nat.and_two_pow_sub_one_eq_mod m 8
    rw [this]
    exact w64_small (by omega) (by omega)
  rw [e, u8w]
  omega
theorem shr8 (m : Nat) : arReal .shr .i64 (m : Int) 8 = ((m / 256 : Nat) : Int) := by
  have := shr64 (m : Int) 1 (by omega)
  rw [show 8 * ((1 : Nat) : Int) = 8 from rfl, Int.pow_one] at this
  rw [this]
  rfl
theorem s75b (m k : Nat) (hk : k ≤ 8) (hm : m < 2 ^ 62) (l : List V) (hl : l.length ≤ 100000000000000) (f : (Int × Int × List V) → Option ((Int × Int × List V) ⊕ List V)) (hf : f = d75v1_b1 k ∨ f = d75v2_b1 k) : iter f ((m : Int), (0 : Int), l) = some (l ++ leB (m : Int) k) := by
  refine iter_fun (fun s => ∃ i : Nat, i ≤ k ∧ s = (((m / 256 ^ i : Nat) : Int), (i : Int), l ++ leB (m : Int) i)) (fun s => (k - s.2.1).toNat) (fun _ => l ++ leB (m : Int) k) ?_ _ ⟨0, by omega, by simp [leB]⟩
  rintro s ⟨i, hi, rfl⟩
  by_cases hlt : i < k
  · left
    have hdiv : m / 256 ^ i ≤ m := Nat.div_le_self _ _
    refine ⟨(((m / 256 ^ (i + 1) : Nat) : Int), ((i + 1 : Nat) : Int), l ++ leB (m : Int) (i + 1)), ?_, ⟨i + 1, by omega, rfl⟩, by simp; omega, rfl⟩
    have e1 : arReal .add .i64 (i : Int) 1 = ((i + 1 : Nat) : Int) := by rw [i64add (by omega) (by omega)]; push_cast; rfl
    have e2 : arReal .shr .i64 ((m / 256 ^ i : Nat) : Int) 8 = ((m / 256 ^ (i + 1) : Nat) : Int) := by rw [shr8, Nat.div_div_eq_div_mul, Nat.pow_succ]
    have eb : (V.i .u8 (wrapK .u8 (arReal .and .i64 ((m / 256 ^ i : Nat) : Int) 255))) = byteAt (m : Int) i := by
      rw [and255 _ (by omega)]
      unfold byteAt
      rw [Int.natCast_emod, Int.natCast_ediv, Int.natCast_pow]
      rfl
    have el : appL (l ++ leB (m : Int) i) [byteAt (m : Int) i] = l ++ leB (m : Int) (i + 1) := by
      rw [leB_succ]; simp [appL]
    have hr : Room (lenI (l ++ leB (m : Int) (i + 1))) 1 := room1 (by rw [List.length_append, leB_len]; omega)
    rcases hf with rfl | rfl
    · unfold d75v1_b1
      dsimp only
      rw [eb, el, e1, e2, if_pos (by rw [c_lss]; exact dT (by omega)), if_pos hr, if_pos (by unfold Ge0; omega)]
    · unfold d75v2_b1
      dsimp only
      rw [eb, el, e1, e2, if_pos (by rw [c_lss]; exact dT (by omega)), if_pos hr, if_pos (by unfold Ge0; omega)]
  · right
    obtain rfl : i = k := by omega
    rcases hf with rfl | rfl
    · unfold d75v1_b1; dsimp only; rw [if_neg (by rw [c_lss, dF (by omega)]; decide)]
    · unfold d75v2_b1; dsimp only; rw [if_neg (by rw [c_lss, dF (by omega)]; decide)]
theorem s59 {r : Rc} (h : okR r) : d59 r.1 r.2.1 r.2.2 = some (encR1 r) := by
  have hv := of_decide_eq_true h.1
  obtain ⟨i, t, d⟩ := r
  dsimp only at hv
  obtain ⟨m, rfl⟩ : ∃ m : Nat, i = m := ⟨i.toNat, by omega⟩
  obtain ⟨u, rfl⟩ : ∃ u : Nat, t = u := ⟨t.toNat, by omega⟩
  have h1 : d75v1 (m : Int) 4 = some (leB (m : Int) 4) := by
    unfold d75v1
    have := s75b m 4 (by omega) (by omega) [] (by simp) _ (.inl rfl)
    rw [show ((4 : Nat) : Int) = 4 from rfl] at this
    rw [this]; rfl
  have h2 : d75v2 (u : Int) 8 (leB (m : Int) 4) = some (leB (m : Int) 4 ++ leB (u : Int) 8) := by
    unfold d75v2
    have := s75b u 8 (by omega) (by omega) (leB (m : Int) 4) (by rw [leB_len]; omega) _ (.inr rfl)
    rw [show ((8 : Nat) : Int) = 8 from rfl] at this
    rw [this]; rfl
  have h3 : d75v2 (lenI d) 2 (leB (m : Int) 4 ++ leB (u : Int) 8) = some (leB (m : Int) 4 ++ leB (u : Int) 8 ++ leB (lenI d) 2) := by
    unfold d75v2 lenI
    have := s75b d.length 2 (by omega) (by omega) (leB (m : Int) 4 ++ leB (u : Int) 8) (by rw [List.length_append, leB_len, leB_len]; omega) _ (.inr rfl)
    rw [show ((2 : Nat) : Int) = 2 from rfl] at this
    rw [this]; rfl
  have h4 : Room (lenI (appL (leB (m : Int) 4 ++ leB (u : Int) 8 ++ leB (lenI d) 2) d)) 1 := room1 (by
    unfold appL
    rw [List.length_append, List.length_append, List.length_append, leB_len, leB_len, leB_len]; omega)
  unfold d59
  dsimp only
  rw [h1, Option.bind_some, h2, Option.bind_some, h3, Option.bind_some, if_pos h4]
  rfl
namespace AB
variable {a : AB}
theorem c62 (h : a.Good) : d62 a.p a.Y a.S a.E a.W a.dr a.J a.idr a.rd = some (encAll (a.A ++ a.B)) := by
  have hp := pl h
  unfold plP at hp
  have p1 := part1 h
  have p2 := part2 h
  have hY := Y_small h
  have la := szA_le h
  have lb := szB_le h
  unfold d62
  rw [encAll_app]
  by_cases hw : a.W = 0
  · rw [if_pos hw] at p1 p2
    rw [if_pos (by rw [c_eql]; exact dT hw), if_pos (by unfold Bnd lenI; omega), p1, if_pos (room1s (by unfold lenI; rw [encAll_len]; omega)), ← p2, List.append_nil]
  · rw [if_neg hw] at p1 p2
    rw [if_neg (by rw [c_eql, dF hw]; decide), if_pos (by unfold Bnd lenI; omega), p1, if_pos (room1s (by unfold lenI; rw [encAll_len]; omega)), if_pos (by unfold Bnd lenI; omega), p2, if_pos (room1s (by unfold lenI appL; rw [List.length_append, encAll_len, encAll_len]; omega))]
    rfl
theorem c63 (h : a.Good) : d63 a.p a.Y a.S a.E a.W a.dr a.J a.idr a.rd = some (a.p, zs a.n, 0, 0, 0, 0, a.J, a.idr, a.rd) := by
  have hn := h.n1
  have e1 : lenI a.Y = ((a.n : Nat) : Int) := by unfold lenI; rw [Y_len h]
  unfold d63
  rw [e1, if_pos (by unfold Ge0; omega), if_pos (room1s (by omega)), repL_nat]
theorem okAB (h : a.Good) : ∀ r ∈ a.A ++ a.B, okR r := fun r hr => (List.mem_append.1 hr).elim (h.okA r) (h.okB r)
theorem r21 {l : List Rc} (h : ∀ r ∈ l, okR r) (hl : sz l ≤ 1099511627776) : d21 (encAll l) = some (l.map vR, 0, 0) := by
  rw [s21 _ (fun v hv => (encAll_ok h v hv).byte) (by rw [encAll_len]; exact hl), recs_all h, if_pos rfl]
theorem c60 (h : a.Good) (r : Rc) (hf : a.e + rsz r ≤ a.top) : d60 a.p a.Y a.S a.E a.W a.dr a.J a.idr a.rd (encR1 r) = some ((a.app r).p, (a.app r).Y, (a.app r).S, (a.app r).E, (a.app r).W, (a.app r).dr, (a.app r).J, (a.app r).idr, (a.app r).rd) := by
  have hn := h.n1
  have ht := top_le h
  have e1 : lenI a.Y = (a.n : Int) := by unfold lenI; rw [Y_len h]
  have e2 : lenI (encR1 r) = (rsz r : Int) := by unfold lenI; rw [encR1_len]
  have t1 : arReal .add .i64 a.E (rsz r : Int) = ((a.e + rsz r : Nat) : Int) := by rw [Ee, i64add (by omega) (by omega)]; push_cast; rfl
  have f1 : subL a.Y 0 a.E = a.Y.take a.e := by rw [show (0 : Int) = ((0 : Nat) : Int) from rfl, Ee, subL_nat, List.drop_zero]
  have f2 : subL a.Y ((a.e + rsz r : Nat) : Int) (a.n : Int) = a.Y.drop (a.e + rsz r) := by rw [subL_nat, List.take_of_length_le (by rw [Y_len h]; omega)]
  have f3 : appL (appL (a.Y.take a.e) (encR1 r)) (a.Y.drop (a.e + rsz r)) = (a.app r).Y := by
    rw [← app_Y h r hf, Ee, ovl_nat _ _ _ (by rw [encR1_len, Y_len h]; omega), encR1_len]
    rfl
  have lk := app_like a r
  unfold d60
  rw [e1, e2, t1, if_pos (by unfold Bnd; rw [Ee]; omega), f1, if_pos (room1s (by unfold lenI; simp; have := Y_small h; omega)), if_pos (room1s (by unfold lenI appL; simp [encR1_len]; have := Y_small h; omega)), if_pos (by unfold Bnd; omega), f2, f3, if_pos (room1s (by have := Y_len (a := a) h; unfold lenI; rw [← f3]; unfold appL; simp [encR1_len]; omega))]
  rw [lk.1, lk.J, lk.2.2.2.1, lk.2.2.2.2, app_w h, Ee (a.app r), app_e]
  have : (a.app r).S = a.S := by unfold app S; split <;> rfl
  rw [this]
  have : (a.app r).dr = a.dr := by unfold app; split <;> rfl
  rw [this]
theorem clear_iter (Y : List V) (hu : ∀ v ∈ Y, U8 v) (s n : Nat) (h : s + n ≤ Y.length) (hl : Y.length ≤ 100000) (k : Int) (hk : arReal .add .i64 14 k = (n : Int)) : iter (d76_b1 (s : Int) k) ((0 : Int), Y) = some (ovlReal Y (s : Int) (zs n)) := by
  have key : ∀ i, i ≤ n → (Y.take s ++ zs i ++ Y.drop (s + i)).length = Y.length := by
    intro i hi
    simp [zs_len]; omega
  rw [ovl_nat _ _ _ (by rw [zs_len]; exact h), zs_len]
  refine iter_fun (fun st => ∃ i : Nat, i ≤ n ∧ st = ((i : Int), Y.take s ++ zs i ++ Y.drop (s + i))) (fun st => (n - st.1).toNat) (fun _ => _) ?_ _ ⟨0, by omega, by simp [zs]⟩
  rintro st ⟨i, hi, rfl⟩
  by_cases hlt : i < n
  · left
    have t1 : arReal .add .i64 (i : Int) 1 = ((i + 1 : Nat) : Int) := by rw [i64add (by omega) (by omega)]; push_cast; rfl
    have t2 : arReal .add .i64 (s : Int) (i : Int) = ((s + i : Nat) : Int) := by rw [i64add (by omega) (by omega)]; push_cast; rfl
    have hput : putL (Y.take s ++ zs i ++ Y.drop (s + i)) ((s + i : Nat) : Int) 0 [.i .u8 0] = Y.take s ++ zs (i + 1) ++ Y.drop (s + (i + 1)) := by
      unfold putL
      rw [Int.toNat_natCast]
      have hlen : (Y.take s ++ zs i).length = s + i := by simp [zs_len]; omega
      have hd : Y.drop (s + i) = Y[s + i] :: Y.drop (s + i + 1) := List.drop_eq_getElem_cons (by omega)
      rw [List.set_append_right _ _ (by omega), hlen, Nat.sub_self, hd, List.set_cons_zero]
      have e : putCells ((Y.take s ++ zs i ++ (Y[s + i] :: Y.drop (s + i + 1))).getD (s + i) .dead) 0 [.i .u8 0] = z8 := by
        have e2 : (Y.take s ++ zs i ++ (Y[s + i] :: Y.drop (s + i + 1))).getD (s + i) .dead = Y[s + i] := by
          rw [List.getD_eq_getElem?_getD, List.getElem?_append_right (by omega), hlen, Nat.sub_self]
          rfl
        rw [e2]
        obtain ⟨n, hn, _⟩ := hu Y[s + i] (List.getElem_mem (by omega))
        rw [hn]
        rfl
      rw [e, ← zs_add, show zs 1 = [z8] from rfl]
      simp [Nat.add_assoc]
    refine ⟨_, ?_, ⟨i + 1, by omega, rfl⟩, by simp; omega, rfl⟩
    unfold d76_b1
    dsimp only
    rw [hk, if_pos (by rw [c_lss]; exact dT (by omega)), t2, if_pos (by unfold Inb lenI; rw [key i hi]; omega), t1, hput]
  · right
    obtain rfl : i = n := by omega
    unfold d76_b1
    dsimp only
    rw [hk, if_neg (by rw [c_lss, dF (by omega)]; decide)]
theorem c76 (h : a.Good) (hw : a.wr = true) {r : Rc} {l : List Rc} (hA : a.A = r :: l) (hr : okR r) : d76 a.p a.Y a.S a.E a.W a.dr a.J a.idr a.rd = some (a.old.p, a.old.Y, a.old.S, a.old.E, a.old.W, a.old.dr, a.old.J, a.old.idr, a.old.rd) := by
  have hx := X_len h
  have hy := Y_len h
  have hfit := h.fit
  have hn := h.n1
  have hd := h.dr1
  have hsz := okR_sz hr
  have hs14 : 14 ≤ rsz r := by unfold rsz; omega
  have hsA : sz a.A = rsz r + sz l := by rw [hA]; rfl
  have eW : a.W = ((a.s + sz a.A : Nat) : Int) := by unfold W w; rw [if_pos hw]
  have e1 : lenI a.Y = (a.n : Int) := by unfold lenI; rw [hy]
  have t12 : arReal .add .i64 (a.s : Int) 12 = ((a.s + 12 : Nat) : Int) := by rw [i64add (by omega) (by omega)]; push_cast; rfl
  have t14 : arReal .add .i64 (a.s : Int) 14 = ((a.s + 14 : Nat) : Int) := by rw [i64add (by omega) (by omega)]; push_cast; rfl
  have num : subL a.Y ((a.s + 12 : Nat) : Int) ((a.s + 14 : Nat) : Int) = ((encR1 r ++ (encAll l ++ zs (a.n - a.s - sz a.A))).drop 12).take 2 := by
    rw [subL_nat]
    have e2 : a.Y = a.X ++ (encR1 r ++ (encAll l ++ zs (a.n - a.s - sz a.A))) := by unfold Y; rw [hA]; simp [encAll]
    rw [e2, List.drop_take, ← List.drop_drop, List.drop_left' hx, show a.s + 14 - (a.s + 12) = 2 by omega]
  have nu := num_enc hr (encAll l ++ zs (a.n - a.s - sz a.A))
  have hb : ∀ v ∈ ((encR1 r ++ (encAll l ++ zs (a.n - a.s - sz a.A))).drop 12).take 2, ByteV v := by
    intro v hv
    rw [← num] at hv
    exact (subL_u8 (Y_u8 h) _ _ v hv).byte
  have t3 : arReal .add .i64 14 ((r.2.2.length : Nat) : Int) = (rsz r : Int) := by rw [i64add (by unfold rsz at hsz; omega) (by unfold rsz at hsz; omega)]; unfold rsz; push_cast; rfl
  have t4 : arReal .add .i64 (a.s : Int) (rsz r : Int) = ((a.s + rsz r : Nat) : Int) := by rw [i64add (by omega) (by omega)]; push_cast; rfl
  have t7 : arReal .add .i64 a.dr 1 = a.dr + 1 := i64add (by omega) (by omega)
  have hc := clear_iter a.Y (Y_u8 h) a.s (rsz r) (by omega) (by omega) ((r.2.2.length : Nat) : Int) t3
  have t6 := old_Y h hA
  unfold S at t6
  rw [t6] at hc
  have lk := old_like a
  unfold d76
  rw [show a.S = (a.s : Int) from rfl, t12, t14, e1, if_pos (by unfold Bnd; omega), num, s52 _ hb (by simp; omega), nu, w64_small (by unfold rsz at hsz; omega) (by unfold rsz at hsz; omega)]
  simp only [Option.bind_some]
  rw [if_pos (room1s (by omega))]
  refine bnd1 (bnd1 hc rfl) ?_
  unfold d61
  simp only [Option.bind_some]
  rw [t3, t4, t7, c_eql, eW, lk.1, lk.J, lk.2.2.2.1, lk.2.2.2.2, Ee a.old, old_e h hw, Ee]
  cases l with
  | nil =>
    rw [hsA]
    rw [if_pos (dT (by simp [sz]))]
    have o1 : a.old = { a with s := 0, A := a.B, B := [], wr := false, dr := mnI (a.dr + 1) 1099511627776 } := by unfold old; rw [hA]
    rw [o1]
    rfl
  | cons q l =>
    have : 14 ≤ sz (q :: l) := sz_pos (by simp)
    rw [if_neg (by rw [dF (by rw [hsA]; omega)]; decide)]
    have o1 : a.old = { a with s := a.s + rsz r, A := q :: l, dr := mnI (a.dr + 1) 1099511627776 } := by unfold old; rw [hA]
    have w2 : a.old.W = ((a.s + sz a.A : Nat) : Int) := by
      rw [o1]
      unfold W w
      rw [if_pos hw, hsA, ← Nat.add_assoc]
    rw [w2, o1]
    rfl
theorem ring_ref {r : Rc} (hr : okR r) : ∀ (k : Nat) (a : AB), a.Good → a.p = 3 → rsz r ≤ a.n → a.mu < k → iter (d64_b1 (encR1 r)) (a.p, a.Y, a.S, a.E, a.W, a.dr, a.J, a.idr, a.rd) = some ((ringN k a r).p, (ringN k a r).Y, (ringN k a r).S, (ringN k a r).E, (ringN k a r).W, (ringN k a r).dr, (ringN k a r).J, (ringN k a r).idr, (ringN k a r).rd)
  | 0, _, _, _, _, h => by omega
  | k + 1, a, h, hp, hn, hk => by
    have e1 : lenI (encR1 r) = (rsz r : Int) := by unfold lenI; rw [encR1_len]
    have e2 : lenI a.Y = (a.n : Int) := by unfold lenI; rw [Y_len h]
    have hsz := okR_sz hr
    have he := e_small h
    have ht := top_le h
    have t1 : arReal .add .i64 a.E (rsz r : Int) = ((a.e + rsz r : Nat) : Int) := by rw [Ee, i64add (by omega) (by omega)]; push_cast; rfl
    have fit : (if (cmpLit .eql a.W 0) = true then (if (cmpLit .leq (arReal .add .i64 a.E (lenI (encR1 r))) (lenI a.Y)) = true then some true else if (cmpLit .neq a.W 0) = true then some (cmpLit .leq (arReal .add .i64 a.E (lenI (encR1 r))) a.S) else some false) else if (cmpLit .neq a.W 0) = true then some (cmpLit .leq (arReal .add .i64 a.E (lenI (encR1 r))) a.S) else some false) = some (decide (a.e + rsz r ≤ a.top)) := by
      rw [e1, e2, t1, c_eql, c_neq, c_leq, c_leq]
      cases hw : a.wr with
      | false =>
        have w0 := (W_zero h).2 hw
        rw [if_pos (dT w0), top_f hw]
        by_cases hf : a.e + rsz r ≤ a.n
        · rw [if_pos (dT (by omega)), dT hf]
        · rw [if_neg (by rw [dF (by omega)]; decide), if_neg (by rw [dF (by simp [w0])]; decide), dF hf]
      | true =>
        have w0 : ¬ a.W = 0 := fun hh => by have := (W_zero h).1 hh; rw [hw] at this; cases this
        rw [if_neg (by rw [dF w0]; decide), top_t hw, if_pos (dT w0)]
        exact congrArg some (dC (by unfold S; omega))
    unfold ringN
    by_cases hf : a.e + rsz r ≤ a.top
    · rw [if_pos hf]
      refine iter_inr ?_
      unfold d64_b1
      refine bnd1 (a := true) ?_ ?_
      · rw [dT hf] at fit
        exact fit
      rw [if_pos rfl]
      dsimp only
      rw [c60 h r hf]
      rfl
    · rw [if_neg hf]
      cases hw : a.wr with
      | true =>
        have w0 : ¬ a.W = 0 := fun hh => by have := (W_zero h).1 hh; rw [hw] at this; cases this
        rw [if_pos rfl]
        obtain ⟨q, l, hA⟩ := List.exists_cons_of_ne_nil (h.wrA hw)
        have lk := old_like a
        have ih := ring_ref hr k a.old (old_good h hp hw) (lk.1.trans hp) (by rw [lk.2.1]; exact hn) (by have := mu_old h hw; omega)
        rw [← ih]
        refine iter_inl ?_
        unfold d64_b1
        refine bnd1 (a := false) ?_ ?_
        · rw [dF hf] at fit
          exact fit
        rw [if_neg (by decide)]
        dsimp only
        rw [if_neg (by rw [c_eql, dF w0]; decide), c76 h hw hA (h.okA q (by rw [hA]; simp))]
        rfl
      | false =>
        have w0 := (W_zero h).2 hw
        rw [if_neg (by decide)]
        have hA := fits_empty h hn hf hw
        have ih := ring_ref hr k a.turn (turn_good h hp hA hw) hp hn (by have := mu_turn hw; omega)
        rw [← ih]
        refine iter_inl ?_
        unfold d64_b1
        refine bnd1 (a := false) ?_ ?_
        · rw [dF hf] at fit
          exact fit
        rw [if_neg (by decide)]
        dsimp only
        rw [if_pos (by rw [c_eql, dT w0])]
        have g1 : a.turn.E = 0 := by
          rw [Ee, e_t rfl]
          show ((sz a.B : Nat) : Int) = 0
          rw [(h.nw hw).1]; rfl
        have g2 : a.turn.W = a.E := by
          unfold W w
          rw [Ee, e_f hw]
          rfl
        rw [g1, g2]
        rfl
end AB
end Go.Proofs.Ytdejapkfijdadaa
end
section
namespace Go.Proofs.Ytdejapkfijdadaa
open Go.Ab Go.RowKit
set_option maxRecDepth 100000

namespace AB
variable {a : AB}
theorem c61 (h : a.Good) : d61 a.p a.Y a.S a.E a.W a.dr a.J a.idr a.rd 1 = some (a.p, a.Y, a.S, a.E, a.W, mnI (a.dr + 1) 1099511627776, a.J, a.idr, a.rd) := by
  have hd := h.dr1
  unfold d61
  rw [i64add (by omega) (by omega)]
theorem c32 (h : a.Good) {r : Rc} (hr : okR r) : d32 a.p a.Y a.S a.E a.W a.dr a.J a.idr a.rd r.1 r.2.1 r.2.2 = some ((a.put r).1.p, (a.put r).1.Y, (a.put r).1.S, (a.put r).1.E, (a.put r).1.W, (a.put r).1.dr, (a.put r).1.J, (a.put r).1.idr, (a.put r).1.rd, (a.put r).2, [], 0, 0) := by
  have lk := (put_ok h hr).2
  have hd := h.dr1
  have hsz := okR_sz hr
  have he := e_small h
  have hc := count_le h
  have hv : d53 r.1 r.2.1 r.2.2 = some true := by rw [s53]; exact congrArg some hr.1
  have e1 : lenI (encR1 r) = (rsz r : Int) := by unfold lenI; rw [encR1_len]
  have e2 : lenI a.Y = (a.n : Int) := by unfold lenI; rw [Y_len h]
  have t1 : arReal .add .i64 a.E (rsz r : Int) = ((a.e + rsz r : Nat) : Int) := by rw [Ee, i64add (by omega) (by omega)]; push_cast; rfl
  unfold d32
  rw [c36 h]
  simp only [Option.bind_some]
  rw [if_neg (by decide), hv]
  simp only [Option.bind_some]
  rw [if_neg (by decide), s59 hr]
  simp only [Option.bind_some]
  rw [c_neq, e1, e2, t1, c_eql, c_leq, c_gtr]
  unfold put at lk ⊢
  by_cases hp : a.p = 3
  · rw [if_pos hp] at lk ⊢
    rw [if_neg (by rw [dF (fun hh => hh hp)]; decide)]
    by_cases hn : a.n < rsz r
    · rw [if_pos hn] at lk ⊢
      rw [if_pos (dT (by omega)), c62 h]
      simp only [Option.bind_some]
      rw [r21 (okAB h) (by rw [sz_app]; have := szA_le h; have := szB_le h; omega)]
      simp only [Option.bind_some]
      rw [c63 h]
      simp only [Option.bind_some]
      unfold d61
      simp only [Option.bind_some]
      have e3 : lenI ((a.A ++ a.B).map vR) = ((a.A.length + a.B.length : Nat) : Int) := by unfold lenI; rw [List.length_map, List.length_append]
      have t2 : arReal .add .i64 ((a.A.length + a.B.length : Nat) : Int) 1 = ((a.A.length + a.B.length : Nat) : Int) + 1 := i64add (by omega) (by omega)
      have t3 : arReal .add .i64 a.dr (((a.A.length + a.B.length : Nat) : Int) + 1) = a.dr + ((a.A.length + a.B.length : Nat) : Int) + 1 := by rw [i64add (by omega) (by omega)]; omega
      rw [e3, t2, t3, emp_Y]
      rfl
    · rw [if_neg hn] at lk ⊢
      rw [if_neg (by rw [dF (by omega)]; decide)]
      unfold d64
      rw [ring_ref hr (a.mu + 1) a h hp (by omega) (by omega)]
      rfl
  · rw [if_neg hp] at lk ⊢
    have hw := (h.np hp).2
    rw [if_pos (dT hp)]
    by_cases h0 : a.dr = 0
    · rw [if_pos (dT h0)]
      by_cases hf : a.n < a.e + rsz r
      · rw [if_neg (by rw [dF (by omega)]; decide), if_pos (.inr hf), c61 h]
        rfl
      · rw [if_pos (dT (by omega)), if_neg (by omega), c60 h r (by rw [top_f hw]; omega)]
        rfl
    · rw [if_neg (by rw [dF h0]; decide), if_pos (.inl (by omega)), c61 h]
      rfl
theorem x32 (h : a.Good) {id t : Int} {d : List V} (hr : validB id t d = false) : d32 a.p a.Y a.S a.E a.W a.dr a.J a.idr a.rd id t d = some (0, [], 0, 0, 0, 0, [], 0, false, false, [], 0, 221) := by
  have hv : d53 id t d = some false := by rw [s53]; exact congrArg some hr
  unfold d32
  rw [c36 h]
  simp only [Option.bind_some]
  rw [if_neg (by decide), hv]
  rfl
theorem c33 (h : a.Good) : d33 a.p a.Y a.S a.E a.W a.dr a.J a.idr a.rd = some (a.free, 0) := by
  have he := e_small h
  have hn := h.n1
  have hf := h.fit
  have e2 : lenI a.Y = (a.n : Int) := by unfold lenI; rw [Y_len h]
  have t1 : arReal .sub .i64 a.S a.E = (a.s : Int) - a.e := by rw [Ee]; unfold S; exact i64sub (by omega) (by omega)
  have t2 : arReal .sub .i64 (a.n : Int) a.E = (a.n : Int) - a.e := by rw [Ee]; exact i64sub (by omega) (by omega)
  unfold d33
  rw [c36 h]
  simp only [Option.bind_some]
  rw [if_neg (by decide), c_neq, c_neq, c_neq, e2, t1, t2]
  unfold free
  by_cases hp : a.p ≠ 3
  · rw [if_pos (dT hp)]
    have hw := (h.np hp).2
    by_cases hd : a.dr ≠ 0
    · rw [if_pos (dT hd), if_pos ⟨hp, hd⟩]
    · rw [if_neg (by rw [dF hd]; decide), if_neg (fun h => hd h.2), if_neg (by rw [hw]; decide), if_neg hp]
  · rw [if_neg (by rw [dF hp]; decide)]
    cases hw : a.wr with
    | true =>
      have w0 : ¬ a.W = 0 := fun hh => by have := (W_zero h).1 hh; rw [hw] at this; cases this
      rw [if_pos (dT w0), if_neg (fun h => hp h.1), if_pos rfl]
    | false =>
      have w0 := (W_zero h).2 hw
      rw [if_neg (by rw [dF (by simp [w0])]; decide), if_neg (fun h => hp h.1), if_neg Bool.false_ne_true, if_pos (by omega)]
      rfl
theorem c38 (h : a.Good) : d38 a.p a.Y a.S a.E a.W a.dr a.J a.idr a.rd = some (if a.p ≠ 2 then (0, [], 0, 0, 0, 0, [], 0, false, false, [], 0, 1) else if a.rd = true then (0, [], 0, 0, 0, 0, [], 0, false, false, [], 0, 222) else (a.sw.p, a.sw.Y, a.sw.S, a.sw.E, a.sw.W, a.sw.dr, a.sw.J, a.sw.idr, a.sw.rd, false, [], 0, 0)) := by
  unfold d38
  rw [c36 h]
  simp only [Option.bind_some]
  rw [if_neg (by decide), c_neq]
  by_cases hp : a.p ≠ 2
  · rw [if_pos (dT hp), if_pos hp]
  · rw [if_neg (by rw [dF hp]; decide), if_neg hp]
    cases hr : a.rd with
    | true => rfl
    | false =>
      rw [if_neg (by decide), if_neg (by decide), ← hr, c63 h]
      simp only [Option.bind_some]
      rw [c62 h]
      simp only [Option.bind_some]
      have hB : a.B = [] := by
        have hw := (h.np (by omega)).2
        exact (h.nw hw).1
      have : a.sw.Y = zs a.n := emp_Y a 0
      rw [this, hB, List.append_nil]
      rfl
theorem rI21 (h : a.Good) : d21 a.J = some (a.I.map vR, 0, 0) := r21 h.okI (by have := h.il; have := h.n1; omega)
theorem c39 (h : a.Good) : d39 a.p a.Y a.S a.E a.W a.dr a.J a.idr a.rd = some (if a.p ≠ 2 then (0, [], 0, 0, 0, 0, [], 0, false, false, [], 0, 1) else if a.rd = false then (0, [], 0, 0, 0, 0, [], 0, false, false, [], 0, 3) else (a.rdd.p, a.rdd.Y, a.rdd.S, a.rdd.E, a.rdd.W, a.rdd.dr, a.rdd.J, a.rdd.idr, a.rdd.rd, false, a.I.map vR, a.idr, 0)) := by
  unfold d39
  rw [c36 h]
  simp only [Option.bind_some]
  rw [if_neg (by decide), c_neq]
  by_cases hp : a.p ≠ 2
  · rw [if_pos (dT hp), if_pos hp]
  · rw [if_neg (by rw [dF hp]; decide), if_neg hp]
    cases hr : a.rd with
    | false => rfl
    | true =>
      rw [if_neg (by decide), if_neg (by decide), rI21 h]
      rfl
theorem c40 (h : a.Good) : d40 a.p a.Y a.S a.E a.W a.dr a.J a.idr a.rd = some ((a.emp 0).p, (a.emp 0).Y, (a.emp 0).S, (a.emp 0).E, (a.emp 0).W, (a.emp 0).dr, (a.emp 0).J, (a.emp 0).idr, (a.emp 0).rd, false, a.recs, a.dr, 0) := by
  unfold d40
  rw [c36 h]
  simp only [Option.bind_some]
  rw [if_neg (by decide), c63 h]
  simp only [Option.bind_some]
  rw [c62 h]
  simp only [Option.bind_some]
  rw [r21 (okAB h) (by rw [sz_app]; have := szA_le h; have := szB_le h; omega)]
  simp only [Option.bind_some]
  rw [emp_Y]
  rfl
theorem c41 (h : a.Good) : d41 a.p a.Y a.S a.E a.W a.dr a.J a.idr a.rd = some (a.recs, 0, 0) := by
  unfold d41
  rw [c36 h]
  simp only [Option.bind_some]
  rw [if_neg (by decide), c62 h]
  simp only [Option.bind_some]
  rw [r21 (okAB h) (by rw [sz_app]; have := szA_le h; have := szB_le h; omega)]
  rfl
theorem c42 (h : a.Good) : d42 a.p a.Y a.S a.E a.W a.dr a.J a.idr a.rd = some (a.I.map vR, a.idr, 0) := by
  unfold d42
  rw [c36 h]
  simp only [Option.bind_some]
  rw [if_neg (by decide), rI21 h]
  rfl
end AB
section
variable {p : Int} {b : List V} {s e w dr : Int} {il : List V} {idr : Int} {rd : Bool}
theorem b32 (h : nvP p b s e w dr il idr rd) (id t : Int) (d : List V) : d32 p b s e w dr il idr rd id t d = some (0, [], 0, 0, 0, 0, [], 0, false, false, [], 0, 220) := by
  unfold d32; rw [b36 h]; rfl
theorem b33 (h : nvP p b s e w dr il idr rd) : d33 p b s e w dr il idr rd = some (0, 220) := by
  unfold d33; rw [b36 h]; rfl
theorem b38 (h : nvP p b s e w dr il idr rd) : d38 p b s e w dr il idr rd = some (0, [], 0, 0, 0, 0, [], 0, false, false, [], 0, 220) := by
  unfold d38; rw [b36 h]; rfl
theorem b39 (h : nvP p b s e w dr il idr rd) : d39 p b s e w dr il idr rd = some (0, [], 0, 0, 0, 0, [], 0, false, false, [], 0, 220) := by
  unfold d39; rw [b36 h]; rfl
theorem b40 (h : nvP p b s e w dr il idr rd) : d40 p b s e w dr il idr rd = some (0, [], 0, 0, 0, 0, [], 0, false, false, [], 0, 220) := by
  unfold d40; rw [b36 h]; rfl
theorem b41 (h : nvP p b s e w dr il idr rd) : d41 p b s e w dr il idr rd = some ([], 0, 220) := by
  unfold d41; rw [b36 h]; rfl
theorem b42 (h : nvP p b s e w dr il idr rd) : d42 p b s e w dr il idr rd = some ([], 0, 220) := by
  unfold d42; rw [b36 h]; rfl
end
theorem s34 (id t : Int) (d : List V) : d34 id t d = d31 id t d := by
  unfold d34 d31
  rw [s53, s45]
  rfl
theorem s35 (id t : Int) (d : List V) (hd : ∀ v ∈ d, U8 v) : d35 id t d = d24 id t d := by
  rw [s24]
  unfold d35
  rw [s53]
  simp only [Option.bind_some]
  cases h : validB id t d with
  | false => rfl
  | true =>
    have := s59 (r := (id, t, d)) ⟨h, hd⟩
    dsimp only at this
    rw [if_neg (by decide), if_pos rfl, this]
    rfl
theorem recs_len_le : ∀ (n : Nat) (l : List V), l.length ≤ n → 14 * (recs l).1.length ≤ l.length
  | n, [], _ => by rw [recs_nil]; simp
  | 0, v :: r, h => by simp at h
  | n + 1, v :: r, hn => by
    generalize hl : v :: r = l at *
    have hne : l ≠ [] := by rw [← hl]; simp
    cases h1 : rec1 l with
    | none => rw [recs_none hne h1]; simp
    | some x =>
      obtain ⟨id, t, k⟩ := x
      have hlen := rec1_len h1
      have ih := recs_len_le n (l.drop (14 + k)) (by rw [List.length_drop]; omega)
      rw [recs_some h1]
      rw [List.length_drop] at ih
      simp only [List.length_cons]
      omega
theorem pl6 (b : List V) (po n : Int) (hb : ∀ v ∈ b, U8 v) (hl : b.length ≤ 1099511627776) : d6 b po n = some true := by
  have h15 : ∃ x : Int × List V × Int × Int × Int × Int × List V × Int × Bool × Int, d15 po n = some x ∧ d22 po n = some (x.1, x.2.1, x.2.2.1, x.2.2.2.1, x.2.2.2.2.1, x.2.2.2.2.2.1, x.2.2.2.2.2.2.1, x.2.2.2.2.2.2.2.1, x.2.2.2.2.2.2.2.2.1, false, [], 0, x.2.2.2.2.2.2.2.2.2) := by
    unfold d15 d22
    by_cases hn : po < 1 ∨ po > 3 ∨ n < 64 ∨ n > 4096
    · have : (if (cmpLit .lss po 1) = true then some true else if (cmpLit .gtr po 3) = true then some true else if (cmpLit .lss n 64) = true then some true else some (cmpLit .gtr n 4096)) = some true := by
        simp only [c_eql, c_neq, c_lss, c_leq, c_gtr, c_geq, decide_eq_true_eq]
        repeat' split
        all_goals first | rfl | exact congrArg some (dT (by omega))
      rw [this]
      exact ⟨_, rfl, rfl⟩
    · have : (if (cmpLit .lss po 1) = true then some true else if (cmpLit .gtr po 3) = true then some true else if (cmpLit .lss n 64) = true then some true else some (cmpLit .gtr n 4096)) = some false := by
        rw [c_lss, c_gtr, c_lss, c_gtr, if_neg (by rw [dF (by omega)]; decide), if_neg (by rw [dF (by omega)]; decide), if_neg (by rw [dF (by omega)]; decide), dF (by omega)]
      rw [this]
      simp only [Option.bind_some]
      rw [if_neg (by decide), if_pos (by unfold Ge0; omega), if_pos (room1s (by omega)), if_neg (by decide), if_pos (by unfold Ge0; omega), if_pos (room1s (by omega))]
      exact ⟨_, rfl, rfl⟩
  obtain ⟨x, h1, h2⟩ := h15
  have hrl : (recs b).1.length ≤ 1000000000000 := by
    have := recs_len_le b.length b (Nat.le_refl _)
    omega
  unfold d6
  rw [s14]
  simp only [Option.bind_some, if_true]
  rw [s20 b hb hl, s21 b (fun v hv => (hb v hv).byte) hl, h1, h2]
  simp only [Option.bind_some]
  cases hk : (recs b).2 with
  | true =>
    rw [if_pos rfl, if_pos rfl, s18 _ hrl]
    simp only [Option.bind_some, if_true]
    rw [c_eql, if_pos (dT rfl), s23]
    simp only [Option.bind_some, if_true]
    rw [c_eql, dT rfl]
  | false =>
    rw [if_neg Bool.false_ne_true, if_neg Bool.false_ne_true, s18 _ (by simp)]
    simp only [Option.bind_some, if_true]
    rw [c_eql, if_pos (dT rfl), s23]
    simp only [Option.bind_some, if_true]
    rw [c_eql, dT rfl]
theorem pl11 (p : Int) (b : List V) (s e w dr : Int) (il : List V) (idr : Int) (rd : Bool) (r : Rc) (hb : ∀ v ∈ b, U8 v) (hi : ∀ v ∈ il, U8 v) (hr : ∀ v ∈ r.2.2, U8 v) : d11 p b s e w dr il idr rd r.1 r.2.1 r.2.2 = some true := by
  obtain ⟨x, h1, h2⟩ : ∃ x : Int × List V × Int × Int × Int × Int × List V × Int × Bool × Bool × Int, d16 p b s e w dr il idr rd r.1 r.2.1 r.2.2 = some x ∧ d32 p b s e w dr il idr rd r.1 r.2.1 r.2.2 = some (x.1, x.2.1, x.2.2.1, x.2.2.2.1, x.2.2.2.2.1, x.2.2.2.2.2.1, x.2.2.2.2.2.2.1, x.2.2.2.2.2.2.2.1, x.2.2.2.2.2.2.2.2.1, x.2.2.2.2.2.2.2.2.2.1, [], 0, x.2.2.2.2.2.2.2.2.2.2) := by
    rcases good_or p b s e w dr il idr rd hb hi with ⟨a, hg, rfl, rfl, rfl, rfl, rfl, rfl, rfl, rfl, rfl⟩ | hn
    · rcases ok_or hr with hv | hv
      · exact ⟨_, AB.c16 hg hv, AB.c32 hg hv⟩
      · exact ⟨_, AB.x16 hg hv, AB.x32 hg hv⟩
    · exact ⟨_, b16 hn _ _ _, b32 hn _ _ _⟩
  obtain ⟨y, h3, h4⟩ : ∃ y : Int × Int, d30 p b s e w dr il idr rd = some y ∧ d33 p b s e w dr il idr rd = some y := by
    rcases good_or p b s e w dr il idr rd hb hi with ⟨a, hg, rfl, rfl, rfl, rfl, rfl, rfl, rfl, rfl, rfl⟩ | hn
    · exact ⟨_, AB.c30 hg, AB.c33 hg⟩
    · exact ⟨_, b30 hn, b33 hn⟩
  unfold d11
  rw [s14]
  simp only [Option.bind_some, if_true]
  rw [h1, h2, h3, h4, s34, s35 _ _ _ hr, s31, s24, s29 p b s e w dr il idr rd hb hi, s36 p b s e w dr il idr rd hb hi]
  simp only [Option.bind_some]
  rw [c_eql, if_pos (dT rfl), s23]
  simp only [Option.bind_some, if_true]
  rw [beq_refl, if_pos rfl, c_eql, if_pos (dT rfl), c_eql, if_pos (dT rfl), c_eql, if_pos (dT rfl), c_eql, if_pos (dT rfl), c_eql, if_pos (dT rfl), scmp_refl, if_pos rfl, c_eql, dT rfl]
theorem pl13 (p : Int) (b : List V) (s e w dr : Int) (il : List V) (idr : Int) (rd : Bool) (p' : Int) (b' : List V) (s' e' w' dr' : Int) (il' : List V) (idr' : Int) (rd' : Bool) (hb : ∀ v ∈ b, U8 v) (hi : ∀ v ∈ il, U8 v) (hb' : ∀ v ∈ b', U8 v) (hi' : ∀ v ∈ il', U8 v) (hs : b.length ≤ 9223372036854775807) (hs' : il.length ≤ 9223372036854775807) : d13 p b s e w dr il idr rd p' b' s' e' w' dr' il' idr' rd' = some true := by
  obtain ⟨x2, h2, k2⟩ : ∃ x : Int × List V × Int × Int × Int × Int × List V × Int × Bool × Int, d25 p b s e w dr il idr rd = some x ∧ d38 p b s e w dr il idr rd = some (x.1, x.2.1, x.2.2.1, x.2.2.2.1, x.2.2.2.2.1, x.2.2.2.2.2.1, x.2.2.2.2.2.2.1, x.2.2.2.2.2.2.2.1, x.2.2.2.2.2.2.2.2.1, false, [], 0, x.2.2.2.2.2.2.2.2.2) := by
    rcases good_or p b s e w dr il idr rd hb hi with ⟨a, hg, rfl, rfl, rfl, rfl, rfl, rfl, rfl, rfl, rfl⟩ | hn
    · rw [AB.c25 hg, AB.c38 hg]
      by_cases hp : a.p ≠ 2
      · rw [if_pos hp, if_pos hp]; exact ⟨_, rfl, rfl⟩
      · rw [if_neg hp, if_neg hp]
        by_cases hr : a.rd = true
        · rw [if_pos hr, if_pos hr]; exact ⟨_, rfl, rfl⟩
        · rw [if_neg hr, if_neg hr]; exact ⟨_, rfl, rfl⟩
    · exact ⟨_, b25 hn, b38 hn⟩
  obtain ⟨x3, h3, k3, l3⟩ : ∃ x : Int × List V × Int × Int × Int × Int × List V × Int × Bool × List V × Int × Int, d26 p b s e w dr il idr rd = some x ∧ d39 p b s e w dr il idr rd = some (x.1, x.2.1, x.2.2.1, x.2.2.2.1, x.2.2.2.2.1, x.2.2.2.2.2.1, x.2.2.2.2.2.2.1, x.2.2.2.2.2.2.2.1, x.2.2.2.2.2.2.2.2.1, false, x.2.2.2.2.2.2.2.2.2.1, x.2.2.2.2.2.2.2.2.2.2.1, x.2.2.2.2.2.2.2.2.2.2.2) ∧ x.2.2.2.2.2.2.2.2.2.1.length ≤ 1000 := by
    rcases good_or p b s e w dr il idr rd hb hi with ⟨a, hg, rfl, rfl, rfl, rfl, rfl, rfl, rfl, rfl, rfl⟩ | hn
    · have hIl : (a.I.map vR).length ≤ 1000 := by
        have := sz_count a.I; have := hg.il; have := hg.n1
        rw [List.length_map]; omega
      rw [AB.c26 hg, AB.c39 hg]
      by_cases hp : a.p ≠ 2
      · rw [if_pos hp, if_pos hp]; exact ⟨_, rfl, rfl, by simp⟩
      · rw [if_neg hp, if_neg hp]
        by_cases hr : a.rd = false
        · rw [if_pos hr, if_pos hr]; exact ⟨_, rfl, rfl, by simp⟩
        · rw [if_neg hr, if_neg hr]; exact ⟨_, rfl, rfl, hIl⟩
    · exact ⟨_, b26 hn, b39 hn, by simp⟩
  obtain ⟨x4, h4, k4, l4⟩ : ∃ x : Int × List V × Int × Int × Int × Int × List V × Int × Bool × List V × Int × Int, d28 p b s e w dr il idr rd = some x ∧ d40 p b s e w dr il idr rd = some (x.1, x.2.1, x.2.2.1, x.2.2.2.1, x.2.2.2.2.1, x.2.2.2.2.2.1, x.2.2.2.2.2.2.1, x.2.2.2.2.2.2.2.1, x.2.2.2.2.2.2.2.2.1, false, x.2.2.2.2.2.2.2.2.2.1, x.2.2.2.2.2.2.2.2.2.2.1, x.2.2.2.2.2.2.2.2.2.2.2) ∧ x.2.2.2.2.2.2.2.2.2.1.length ≤ 1000 := by
    rcases good_or p b s e w dr il idr rd hb hi with ⟨a, hg, rfl, rfl, rfl, rfl, rfl, rfl, rfl, rfl, rfl⟩ | hn
    · exact ⟨_, AB.c28 hg, AB.c40 hg, by have := AB.count_le hg; have := recs_len a; dsimp only; omega⟩
    · exact ⟨_, b28 hn, b40 hn, by simp⟩
  obtain ⟨x5, h5, k5, l5⟩ : ∃ x : List V × Int, d17 p b s e w dr il idr rd = some x ∧ d41 p b s e w dr il idr rd = some (x.1, 0, x.2) ∧ x.1.length ≤ 1000 := by
    rcases good_or p b s e w dr il idr rd hb hi with ⟨a, hg, rfl, rfl, rfl, rfl, rfl, rfl, rfl, rfl, rfl⟩ | hn
    · exact ⟨_, AB.c17 hg, AB.c41 hg, by have := AB.count_le hg; have := recs_len a; dsimp only; omega⟩
    · exact ⟨_, b17 hn, b41 hn, by simp⟩
  obtain ⟨x6, h6, k6, l6⟩ : ∃ x : List V × Int × Int, d27 p b s e w dr il idr rd = some x ∧ d42 p b s e w dr il idr rd = some x ∧ x.1.length ≤ 1000 := by
    rcases good_or p b s e w dr il idr rd hb hi with ⟨a, hg, rfl, rfl, rfl, rfl, rfl, rfl, rfl, rfl, rfl⟩ | hn
    · exact ⟨_, AB.c27 hg, AB.c42 hg, by
        have := sz_count a.I; have := hg.il; have := hg.n1
        dsimp only
        rw [List.length_map]; omega⟩
    · exact ⟨_, b27 hn, b42 hn, by simp⟩
  obtain ⟨y, hy⟩ := d23_some p b s e w dr il idr rd p' b' s' e' w' dr' il' idr' rd'
  unfold d13
  rw [s14]
  simp only [Option.bind_some]
  rw [h2, h3, h4, h5, h6, k2, k3, k4, k5, k6]
  simp only [Option.bind_some]
  refine bnd1 (a := false) ?_ ?_
  · rw [if_neg (by decide), s23]
    simp only [Option.bind_some]
    rw [if_neg (by decide), c_neq, if_neg (by rw [dF (by simp)]; decide), s23]
    simp only [Option.bind_some]
    rw [if_neg (by decide), s18 _ (by omega)]
    simp only [Option.bind_some]
    rw [if_neg (by decide), c_neq, if_neg (by rw [dF (by simp)]; decide), c_neq, dF (by simp)]
  rw [if_neg (by decide)]
  refine bnd1 (a := false) ?_ ?_
  · rw [s23]
    simp only [Option.bind_some]
    rw [if_neg (by decide), s18 _ (by omega)]
    simp only [Option.bind_some]
    rw [if_neg (by decide), c_neq, if_neg (by rw [dF (by simp)]; decide), c_neq, if_neg (by rw [dF (by simp)]; decide), s18 _ (by omega)]
    simp only [Option.bind_some]
    rw [if_neg (by decide), c_neq, dF (by simp)]
  rw [if_neg (by decide), s18 _ (by omega)]
  simp only [Option.bind_some, if_true]
  rw [c_eql, if_pos (dT rfl), c_eql, if_pos (dT rfl), s43 _ _ _ _ _ _ _ _ _ _ _ _ _ _ _ _ _ _ hb hb' hi hi' hs hs', hy]
  simp only [Option.bind_some]
  rw [beq_refl, if_pos rfl, s43 _ _ _ _ _ _ _ _ _ _ _ _ _ _ _ _ _ _ hb hb hi hi hs hs', s23]
  rfl
end Go.Proofs.Ytdejapkfijdadaa
end
section
namespace Go.Proofs.Ytdejapkfijdadaa
open Go.Ab Go.RowKit
theorem wf_u8 {n : Int} (h : (Lit.int .u8 n).wf = true) : U8 (.i .u8 n) := by
  refine ⟨n, rfl, ?_⟩
  simp [Lit.wf, IntKind.min, IntKind.max, IntKind.signed, IntKind.bits] at h
  omega
theorem u8_map {l : List Int} (h : ∀ x ∈ l, (Lit.int .u8 x).wf = true) : ∀ v ∈ l.map (fun x : Int => V.i .u8 x), U8 v := by
  intro v hv
  obtain ⟨n, hn, rfl⟩ := List.mem_map.1 hv
  exact wf_u8 (h n hn)
/-- A record of numbers. -/
def toR (x : Int × Int × List Int) : Rc := (x.1, x.2.1, x.2.2.map (fun x : Int => .i .u8 x))
end Go.Proofs.Ytdejapkfijdadaa
end
section
namespace Go.Proofs.Ytdejapkfijdadaa
open Go.Ab Go.RowKit 
set_option maxRecDepth 100000
set_option maxHeartbeats 40000000
noncomputable def w14_c : Code := (Try.f14.body).getD .skip
theorem w14_h : Try.f14.body = some w14_c := by kernel_rfl
theorem w14 (r : Bool) (h : d14 = some r) : Ab.Fn Try.prog TT 14 [] (.b r) [] := by
  refine fn_pure tok W0 Try.func14 (by kernel_rfl) w14_h (by kernel_rfl) ?_
  intro ar un cv mn mx pl mi cmp nt beq an scmp cat slen sbyte ssub ofB toB len gi gb gs gl sub put app ovl rep ne0 ge0 inb bnd room sroom need br call callb loop cut nl E R K hK
  have D := E.D
  clear E
  unfold d14 at h
  cbv
  refine R.callD h (fun x1 hx1 h2 => ?_)
  clear h; have h := h2; clear h2
  refine R.call' (w24 _ _ _ _ hx1) (by (first | (simp only [D.har, D.hcmp, D.hgi, D.hinb, D.hlen, D.hscmp, D.htoB]; done) | rfl | (simp only [D.har, D.hcmp, D.hgi, D.hinb, D.hlen, D.hscmp, D.htoB]; rfl))) ?_
  clear hx1; cbv
  refine R.cut' (by kernel_rfl) (by kernel_rfl) ?_
  cbv
  refine R.cut' (by kernel_rfl) (by kernel_rfl) ?_
  cbv
  refine R.brD h (by (first | (simp only [D.har, D.hcmp, D.hgi, D.hinb, D.hlen, D.hscmp, D.htoB]; done) | rfl | (simp only [D.har, D.hcmp, D.hgi, D.hinb, D.hlen, D.hscmp, D.htoB]; rfl))) ?_ ?_ <;> clear h <;> intro h <;> cbv
  · have e := ret_some h; clear h
    refine hK _ _ ?_
    cbv
    try (subst e; simp only [D.har, D.hcmp, D.hgi, D.hinb, D.hlen, D.hscmp, D.htoB, and_self, and_true, true_and] <;> (repeat' apply And.intro) <;> rfl)
  · as_aux_lemma =>
    refine R.brD h (by (first | (simp only [D.har, D.hcmp, D.hgi, D.hinb, D.hlen, D.hscmp, D.htoB]; done) | rfl | (simp only [D.har, D.hcmp, D.hgi, D.hinb, D.hlen, D.hscmp, D.htoB]; rfl))) ?_ ?_ <;> clear h <;> intro h <;> cbv
    · have e := ret_some h; clear h
      refine hK _ _ ?_
      cbv
      try (subst e; simp only [D.har, D.hcmp, D.hgi, D.hinb, D.hlen, D.hscmp, D.htoB, and_self, and_true, true_and] <;> (repeat' apply And.intro) <;> rfl)
    · as_aux_lemma =>
      refine R.cutB Sum.inl (fun _ _ e => Sum.inl.inj e) h [] (fun p159 => []) (fun p159 => []) (by kernel_rfl) (by kernel_rfl) (fun y50 hy hFy50 L hLy50 => ?_) (fun p159 h2 => ?_)
      · as_aux_lemma =>
        clear h; have h := hy; clear hy; cbv
        refine R.loopD h (fun s0 y98 e0 hi hFs74 => ?_)
        clear h
        refine R.loopI hi [] (fun s74 => [(3, .i .i64 s74)]) (fun s74 => []) ⟨by kernel_rfl, ?_, ?_, by kernel_rfl, by kernel_rfl⟩ (by kernel_rfl) ?_
        · cbv; try (subst e0; simp only [D.har, D.hcmp, D.hgi, D.hinb, D.hlen, D.hscmp, D.htoB, and_self, and_true, true_and] <;> (repeat' apply And.intro) <;> rfl)
        · cbv; try (subst e0; simp only [D.har, D.hcmp, D.hgi, D.hinb, D.hlen, D.hscmp, D.htoB, and_self, and_true, true_and] <;> (repeat' apply And.intro) <;> rfl)
        clear hi e0
        intro s74 m y' hy hins74 houts74 L hLs74
        have h := hy; clear hy; unfold d14_b1 at h
        cbv
        refine R.cut' (by kernel_rfl) (by kernel_rfl) ?_
        cbv
        refine R.brD h (by (first | (simp only [D.har, D.hcmp, D.hgi, D.hinb, D.hlen, D.hscmp, D.htoB]; done) | rfl | (simp only [D.har, D.hcmp, D.hgi, D.hinb, D.hlen, D.hscmp, D.htoB]; rfl))) ?_ ?_ <;> clear h <;> intro h <;> cbv
        · as_aux_lemma =>
          refine R.cutB Sum.inl (fun _ _ e => Sum.inl.inj e) h [] (fun p155 => []) (fun p155 => []) (by kernel_rfl) (by kernel_rfl) (fun y120 hy hFy120 L hLy120 => ?_) (fun p155 h2 => ?_)
          · as_aux_lemma =>
            clear h; have h := hy; clear hy; cbv
            refine R.callD h (fun x121 hx121 h2 => ?_)
            clear h; have h := h2; clear h2
            refine R.call' (w15s _ _ _ hx121) (by (first | (simp only [D.har, D.hcmp, D.hgi, D.hinb, D.hlen, D.hscmp, D.htoB]; done) | rfl | (simp only [D.har, D.hcmp, D.hgi, D.hinb, D.hlen, D.hscmp, D.htoB]; rfl))) ?_
            clear hx121; cbv
            refine R.cut' (by kernel_rfl) (by kernel_rfl) ?_
            cbv
            refine R.brD h (by (first | (simp only [D.har, D.hcmp, D.hgi, D.hinb, D.hlen, D.hscmp, D.htoB]; done) | rfl | (simp only [D.har, D.hcmp, D.hgi, D.hinb, D.hlen, D.hscmp, D.htoB]; rfl))) ?_ ?_ <;> clear h <;> intro h <;> cbv
            · have e := ret_some h; clear h
              have h := hFy120; rw [e] at h; clear e; try dsimp only at h
              cbv
              have e := inr_some h houts74; clear h
              have h := hFs74; rw [e] at h; clear e; try dsimp only at h
              cbv
              have e := ret_some h; clear h
              have h := hFy50; rw [e] at h; clear e; try dsimp only at h
              cbv
              have e := ret_some h; clear h
              refine hK _ _ ?_
              cbv
              try (subst e; simp only [D.har, D.hcmp, D.hgi, D.hinb, D.hlen, D.hscmp, D.htoB, and_self, and_true, true_and] <;> (repeat' apply And.intro) <;> rfl)
            · as_aux_lemma =>
              refine R.cutB Sum.inl (fun _ _ e => Sum.inl.inj e) h [] (fun p143 => [(6, .i .i64 p143.1)]) (fun p143 => [(64, .cells 26 [.i .i64 p143.2.1, .sl 5 p143.2.2.1, .i .i64 p143.2.2.2.1, .i .i64 p143.2.2.2.2.1, .i .i64 p143.2.2.2.2.2.1, .i .i64 p143.2.2.2.2.2.2.1, .sl 5 p143.2.2.2.2.2.2.2.1, .i .i64 p143.2.2.2.2.2.2.2.2.1, .b p143.2.2.2.2.2.2.2.2.2])]) (by kernel_rfl) (by kernel_rfl) (fun y130 hy hFy130 L hLy130 => ?_) (fun p143 h2 => ?_)
              · as_aux_lemma =>
                clear h; have h := hy; clear hy; cbv
                refine R.loopD h (fun s0 y138 e0 hi hFs135 => ?_)
                clear h
                refine R.loopI hi [] (fun s135 => [(6, .i .i64 s135.1), (7, .i .i64 s135.2.1)]) (fun s135 => [(64, .cells 26 [.i .i64 s135.2.2.1, .sl 5 s135.2.2.2.1, .i .i64 s135.2.2.2.2.1, .i .i64 s135.2.2.2.2.2.1, .i .i64 s135.2.2.2.2.2.2.1, .i .i64 s135.2.2.2.2.2.2.2.1, .sl 5 s135.2.2.2.2.2.2.2.2.1, .i .i64 s135.2.2.2.2.2.2.2.2.2.1, .b s135.2.2.2.2.2.2.2.2.2.2])]) ⟨by kernel_rfl, ?_, ?_, by kernel_rfl, by kernel_rfl⟩ (by kernel_rfl) ?_
                · cbv; try (subst e0; simp only [D.har, D.hcmp, D.hgi, D.hinb, D.hlen, D.hscmp, D.htoB, and_self, and_true, true_and] <;> (repeat' apply And.intro) <;> rfl)
                · cbv; try (subst e0; simp only [D.har, D.hcmp, D.hgi, D.hinb, D.hlen, D.hscmp, D.htoB, and_self, and_true, true_and] <;> (repeat' apply And.intro) <;> rfl)
                clear hi e0
                intro s135 m y' hy hins135 houts135 L hLs135
                have h := hy; clear hy; unfold d14_b2 at h
                cbv
                refine R.cut' (by kernel_rfl) (by kernel_rfl) ?_
                cbv
                refine R.brD h (by (first | (simp only [D.har, D.hcmp, D.hgi, D.hinb, D.hlen, D.hscmp, D.htoB]; done) | rfl | (simp only [D.har, D.hcmp, D.hgi, D.hinb, D.hlen, D.hscmp, D.htoB]; rfl))) ?_ ?_ <;> clear h <;> intro h <;> cbv
                · refine R.cut' (by kernel_rfl) (by kernel_rfl) ?_
                  cbv
                  refine R.callD h (fun x140 hx140 h2 => ?_)
                  clear h; have h := h2; clear h2
                  refine R.call' (w16s _ _ _ _ _ _ _ _ _ _ _ _ _ hx140) (by (first | (simp only [D.har, D.hcmp, D.hgi, D.hinb, D.hlen, D.hscmp, D.htoB]; done) | rfl | (simp only [D.har, D.hcmp, D.hgi, D.hinb, D.hlen, D.hscmp, D.htoB]; rfl))) ?_
                  clear hx140; cbv
                  refine R.cut' (by kernel_rfl) (by kernel_rfl) ?_
                  cbv
                  refine R.brD h (by (first | (simp only [D.har, D.hcmp, D.hgi, D.hinb, D.hlen, D.hscmp, D.htoB]; done) | rfl | (simp only [D.har, D.hcmp, D.hgi, D.hinb, D.hlen, D.hscmp, D.htoB]; rfl))) ?_ ?_ <;> clear h <;> intro h <;> cbv
                  · have e := inr_some h houts135; clear h
                    have h := hFs135; rw [e] at h; clear e; try dsimp only at h
                    cbv
                    have e := ret_some h; clear h
                    have h := hFy130; rw [e] at h; clear e; try dsimp only at h
                    cbv
                    have e := ret_some h; clear h
                    have h := hFy120; rw [e] at h; clear e; try dsimp only at h
                    cbv
                    have e := inr_some h houts74; clear h
                    have h := hFs74; rw [e] at h; clear e; try dsimp only at h
                    cbv
                    have e := ret_some h; clear h
                    have h := hFy50; rw [e] at h; clear e; try dsimp only at h
                    cbv
                    have e := ret_some h; clear h
                    refine hK _ _ ?_
                    cbv
                    try (subst e; simp only [D.har, D.hcmp, D.hgi, D.hinb, D.hlen, D.hscmp, D.htoB, and_self, and_true, true_and] <;> (repeat' apply And.intro) <;> rfl)
                  · refine R.cut' (by kernel_rfl) (by kernel_rfl) ?_
                    cbv
                    refine R.brD h (by (first | (simp only [D.har, D.hcmp, D.hgi, D.hinb, D.hlen, D.hscmp, D.htoB]; done) | rfl | (simp only [D.har, D.hcmp, D.hgi, D.hinb, D.hlen, D.hscmp, D.htoB]; rfl))) ?_ ?_ <;> clear h <;> intro h <;> cbv
                    · obtain ⟨s', e, hi⟩ := inl_some h hins135
                      refine hLs135 s' _ _ hi ⟨by kernel_rfl, ?_, ?_, by kernel_rfl, by kernel_rfl⟩ <;> cbv <;> (try (subst e; simp only [D.har, D.hcmp, D.hgi, D.hinb, D.hlen, D.hscmp, D.htoB, and_self, and_true, true_and] <;> (repeat' apply And.intro) <;> rfl))
                    · obtain ⟨s', e, hi⟩ := inl_some h hins135
                      refine hLs135 s' _ _ hi ⟨by kernel_rfl, ?_, ?_, by kernel_rfl, by kernel_rfl⟩ <;> cbv <;> (try (subst e; simp only [D.har, D.hcmp, D.hgi, D.hinb, D.hlen, D.hscmp, D.htoB, and_self, and_true, true_and] <;> (repeat' apply And.intro) <;> rfl))
                · have e := inr_some h houts135; clear h
                  have h := hFs135; rw [e] at h; clear e; try dsimp only at h
                  cbv
                  obtain ⟨s', e, hi⟩ := jn_some Sum.inl h
                  refine hLy130 s' _ _ hi ⟨by kernel_rfl, ?_, ?_, by kernel_rfl, by kernel_rfl⟩ <;> cbv <;> (try (subst e; simp only [D.har, D.hcmp, D.hgi, D.hinb, D.hlen, D.hscmp, D.htoB, and_self, and_true, true_and] <;> (repeat' apply And.intro) <;> rfl))
              · as_aux_lemma =>
                clear h; have h := h2; clear h2; try dsimp only at h
                cbv
                refine R.callD h (fun x144 hx144 h2 => ?_)
                clear h; have h := h2; clear h2
                refine R.call' (w17s _ _ _ _ _ _ _ _ _ _ hx144) (by (first | (simp only [D.har, D.hcmp, D.hgi, D.hinb, D.hlen, D.hscmp, D.htoB]; done) | rfl | (simp only [D.har, D.hcmp, D.hgi, D.hinb, D.hlen, D.hscmp, D.htoB]; rfl))) ?_
                clear hx144; cbv
                refine R.cut' (by kernel_rfl) (by kernel_rfl) ?_
                cbv
                refine R.cutB (fun p => p) (fun _ _ e => e) h [] (fun p148 => [(126, .b p148)]) (fun p148 => []) (by kernel_rfl) (by kernel_rfl) (fun y147 hy hFy147 L hLy147 => ?_) (fun p148 h2 => ?_)
                · as_aux_lemma =>
                  clear h; have h := hy; clear hy; cbv
                  refine R.brD h (by (first | (simp only [D.har, D.hcmp, D.hgi, D.hinb, D.hlen, D.hscmp, D.htoB]; done) | rfl | (simp only [D.har, D.hcmp, D.hgi, D.hinb, D.hlen, D.hscmp, D.htoB]; rfl))) ?_ ?_ <;> clear h <;> intro h <;> cbv
                  · obtain ⟨s', e, hi⟩ := jn_some (fun p => p) h
                    refine hLy147 s' _ _ hi ⟨by kernel_rfl, ?_, ?_, by kernel_rfl, by kernel_rfl⟩ <;> cbv <;> (try (subst e; simp only [D.har, D.hcmp, D.hgi, D.hinb, D.hlen, D.hscmp, D.htoB, and_self, and_true, true_and] <;> (repeat' apply And.intro) <;> rfl))
                  · as_aux_lemma =>
                    refine R.brD h (by (first | (simp only [D.har, D.hcmp, D.hgi, D.hinb, D.hlen, D.hscmp, D.htoB]; done) | rfl | (simp only [D.har, D.hcmp, D.hgi, D.hinb, D.hlen, D.hscmp, D.htoB]; rfl))) ?_ ?_ <;> clear h <;> intro h <;> cbv
                    · obtain ⟨s', e, hi⟩ := jn_some (fun p => p) h
                      refine hLy147 s' _ _ hi ⟨by kernel_rfl, ?_, ?_, by kernel_rfl, by kernel_rfl⟩ <;> cbv <;> (try (subst e; simp only [D.har, D.hcmp, D.hgi, D.hinb, D.hlen, D.hscmp, D.htoB, and_self, and_true, true_and] <;> (repeat' apply And.intro) <;> rfl))
                    · as_aux_lemma =>
                      refine R.brD h (by (first | (simp only [D.har, D.hcmp, D.hgi, D.hinb, D.hlen, D.hscmp, D.htoB]; done) | rfl | (simp only [D.har, D.hcmp, D.hgi, D.hinb, D.hlen, D.hscmp, D.htoB]; rfl))) ?_ ?_ <;> clear h <;> intro h <;> cbv
                      · obtain ⟨s', e, hi⟩ := jn_some (fun p => p) h
                        refine hLy147 s' _ _ hi ⟨by kernel_rfl, ?_, ?_, by kernel_rfl, by kernel_rfl⟩ <;> cbv <;> (try (subst e; simp only [D.har, D.hcmp, D.hgi, D.hinb, D.hlen, D.hscmp, D.htoB, and_self, and_true, true_and] <;> (repeat' apply And.intro) <;> rfl))
                      · as_aux_lemma =>
                        refine R.brD h (by (first | (simp only [D.har, D.hcmp, D.hgi, D.hinb, D.hlen, D.hscmp, D.htoB]; done) | rfl | (simp only [D.har, D.hcmp, D.hgi, D.hinb, D.hlen, D.hscmp, D.htoB]; rfl))) ?_ ?_ <;> clear h <;> intro h <;> cbv
                        · refine R.brD h (by (first | (simp only [D.har, D.hcmp, D.hgi, D.hinb, D.hlen, D.hscmp, D.htoB]; done) | rfl | (simp only [D.har, D.hcmp, D.hgi, D.hinb, D.hlen, D.hscmp, D.htoB]; rfl))) ?_ ?_ <;> clear h <;> intro h <;> cbv
                          · obtain ⟨s', e, hi⟩ := jn_some (fun p => p) h
                            refine hLy147 s' _ _ hi ⟨by kernel_rfl, ?_, ?_, by kernel_rfl, by kernel_rfl⟩ <;> cbv <;> (try (subst e; simp only [D.har, D.hcmp, D.hgi, D.hinb, D.hlen, D.hscmp, D.htoB, and_self, and_true, true_and] <;> (repeat' apply And.intro) <;> rfl))
                          · refine R.brD h (by (first | (simp only [D.har, D.hcmp, D.hgi, D.hinb, D.hlen, D.hscmp, D.htoB]; done) | rfl | (simp only [D.har, D.hcmp, D.hgi, D.hinb, D.hlen, D.hscmp, D.htoB]; rfl))) ?_ ?_ <;> clear h <;> intro h <;> cbv
                            · obtain ⟨s', e, hi⟩ := jn_some (fun p => p) h
                              refine hLy147 s' _ _ hi ⟨by kernel_rfl, ?_, ?_, by kernel_rfl, by kernel_rfl⟩ <;> cbv <;> (try (subst e; simp only [D.har, D.hcmp, D.hgi, D.hinb, D.hlen, D.hscmp, D.htoB, and_self, and_true, true_and] <;> (repeat' apply And.intro) <;> rfl))
                            · refine R.brD h (by (first | (simp only [D.har, D.hcmp, D.hgi, D.hinb, D.hlen, D.hscmp, D.htoB]; done) | rfl | (simp only [D.har, D.hcmp, D.hgi, D.hinb, D.hlen, D.hscmp, D.htoB]; rfl))) ?_ ?_ <;> clear h <;> intro h <;> cbv
                              · obtain ⟨s', e, hi⟩ := jn_some (fun p => p) h
                                refine hLy147 s' _ _ hi ⟨by kernel_rfl, ?_, ?_, by kernel_rfl, by kernel_rfl⟩ <;> cbv <;> (try (subst e; simp only [D.har, D.hcmp, D.hgi, D.hinb, D.hlen, D.hscmp, D.htoB, and_self, and_true, true_and] <;> (repeat' apply And.intro) <;> rfl))
                              · refine R.brD h (by (first | (simp only [D.har, D.hcmp, D.hgi, D.hinb, D.hlen, D.hscmp, D.htoB]; done) | rfl | (simp only [D.har, D.hcmp, D.hgi, D.hinb, D.hlen, D.hscmp, D.htoB]; rfl))) ?_ ?_ <;> clear h <;> intro h <;> cbv
                                · obtain ⟨s', e, hi⟩ := jn_some (fun p => p) h
                                  refine hLy147 s' _ _ hi ⟨by kernel_rfl, ?_, ?_, by kernel_rfl, by kernel_rfl⟩ <;> cbv <;> (try (subst e; simp only [D.har, D.hcmp, D.hgi, D.hinb, D.hlen, D.hscmp, D.htoB, and_self, and_true, true_and] <;> (repeat' apply And.intro) <;> rfl))
                                · refine R.needD h (by (first | (simp only [D.har, D.hcmp, D.hgi, D.hinb, D.hlen, D.hscmp, D.htoB]; done) | rfl | (simp only [D.har, D.hcmp, D.hgi, D.hinb, D.hlen, D.hscmp, D.htoB]; rfl))) ?_
                                  clear h; intro h; cbv
                                  refine R.brD h (by (first | (simp only [D.har, D.hcmp, D.hgi, D.hinb, D.hlen, D.hscmp, D.htoB]; done) | rfl | (simp only [D.har, D.hcmp, D.hgi, D.hinb, D.hlen, D.hscmp, D.htoB]; rfl))) ?_ ?_ <;> clear h <;> intro h <;> cbv
                                  · obtain ⟨s', e, hi⟩ := jn_some (fun p => p) h
                                    refine hLy147 s' _ _ hi ⟨by kernel_rfl, ?_, ?_, by kernel_rfl, by kernel_rfl⟩ <;> cbv <;> (try (subst e; simp only [D.har, D.hcmp, D.hgi, D.hinb, D.hlen, D.hscmp, D.htoB, and_self, and_true, true_and] <;> (repeat' apply And.intro) <;> rfl))
                                  · refine R.brD h (by (first | (simp only [D.har, D.hcmp, D.hgi, D.hinb, D.hlen, D.hscmp, D.htoB]; done) | rfl | (simp only [D.har, D.hcmp, D.hgi, D.hinb, D.hlen, D.hscmp, D.htoB]; rfl))) ?_ ?_ <;> clear h <;> intro h <;> cbv
                                    · refine R.brD h (by (first | (simp only [D.har, D.hcmp, D.hgi, D.hinb, D.hlen, D.hscmp, D.htoB]; done) | rfl | (simp only [D.har, D.hcmp, D.hgi, D.hinb, D.hlen, D.hscmp, D.htoB]; rfl))) ?_ ?_ <;> clear h <;> intro h <;> cbv
                                      · obtain ⟨s', e, hi⟩ := jn_some (fun p => p) h
                                        refine hLy147 s' _ _ hi ⟨by kernel_rfl, ?_, ?_, by kernel_rfl, by kernel_rfl⟩ <;> cbv <;> (try (subst e; simp only [D.har, D.hcmp, D.hgi, D.hinb, D.hlen, D.hscmp, D.htoB, and_self, and_true, true_and] <;> (repeat' apply And.intro) <;> rfl))
                                      · refine R.needD h (by (first | (simp only [D.har, D.hcmp, D.hgi, D.hinb, D.hlen, D.hscmp, D.htoB]; done) | rfl | (simp only [D.har, D.hcmp, D.hgi, D.hinb, D.hlen, D.hscmp, D.htoB]; rfl))) ?_
                                        clear h; intro h; cbv
                                        obtain ⟨s', e, hi⟩ := jn_some (fun p => p) h
                                        refine hLy147 s' _ _ hi ⟨by kernel_rfl, ?_, ?_, by kernel_rfl, by kernel_rfl⟩ <;> cbv <;> (try (subst e; simp only [D.har, D.hcmp, D.hgi, D.hinb, D.hlen, D.hscmp, D.htoB, and_self, and_true, true_and] <;> (repeat' apply And.intro) <;> rfl))
                                    · obtain ⟨s', e, hi⟩ := jn_some (fun p => p) h
                                      refine hLy147 s' _ _ hi ⟨by kernel_rfl, ?_, ?_, by kernel_rfl, by kernel_rfl⟩ <;> cbv <;> (try (subst e; simp only [D.har, D.hcmp, D.hgi, D.hinb, D.hlen, D.hscmp, D.htoB, and_self, and_true, true_and] <;> (repeat' apply And.intro) <;> rfl))
                        · refine R.brD h (by (first | (simp only [D.har, D.hcmp, D.hgi, D.hinb, D.hlen, D.hscmp, D.htoB]; done) | rfl | (simp only [D.har, D.hcmp, D.hgi, D.hinb, D.hlen, D.hscmp, D.htoB]; rfl))) ?_ ?_ <;> clear h <;> intro h <;> cbv
                          · refine R.brD h (by (first | (simp only [D.har, D.hcmp, D.hgi, D.hinb, D.hlen, D.hscmp, D.htoB]; done) | rfl | (simp only [D.har, D.hcmp, D.hgi, D.hinb, D.hlen, D.hscmp, D.htoB]; rfl))) ?_ ?_ <;> clear h <;> intro h <;> cbv
                            · obtain ⟨s', e, hi⟩ := jn_some (fun p => p) h
                              refine hLy147 s' _ _ hi ⟨by kernel_rfl, ?_, ?_, by kernel_rfl, by kernel_rfl⟩ <;> cbv <;> (try (subst e; simp only [D.har, D.hcmp, D.hgi, D.hinb, D.hlen, D.hscmp, D.htoB, and_self, and_true, true_and] <;> (repeat' apply And.intro) <;> rfl))
                            · refine R.needD h (by (first | (simp only [D.har, D.hcmp, D.hgi, D.hinb, D.hlen, D.hscmp, D.htoB]; done) | rfl | (simp only [D.har, D.hcmp, D.hgi, D.hinb, D.hlen, D.hscmp, D.htoB]; rfl))) ?_
                              clear h; intro h; cbv
                              obtain ⟨s', e, hi⟩ := jn_some (fun p => p) h
                              refine hLy147 s' _ _ hi ⟨by kernel_rfl, ?_, ?_, by kernel_rfl, by kernel_rfl⟩ <;> cbv <;> (try (subst e; simp only [D.har, D.hcmp, D.hgi, D.hinb, D.hlen, D.hscmp, D.htoB, and_self, and_true, true_and] <;> (repeat' apply And.intro) <;> rfl))
                          · obtain ⟨s', e, hi⟩ := jn_some (fun p => p) h
                            refine hLy147 s' _ _ hi ⟨by kernel_rfl, ?_, ?_, by kernel_rfl, by kernel_rfl⟩ <;> cbv <;> (try (subst e; simp only [D.har, D.hcmp, D.hgi, D.hinb, D.hlen, D.hscmp, D.htoB, and_self, and_true, true_and] <;> (repeat' apply And.intro) <;> rfl))
                · as_aux_lemma =>
                  clear h; have h := h2; clear h2; try dsimp only at h
                  cbv
                  refine R.brD h (by (first | (simp only [D.har, D.hcmp, D.hgi, D.hinb, D.hlen, D.hscmp, D.htoB]; done) | rfl | (simp only [D.har, D.hcmp, D.hgi, D.hinb, D.hlen, D.hscmp, D.htoB]; rfl))) ?_ ?_ <;> clear h <;> intro h <;> cbv
                  · have e := ret_some h; clear h
                    have h := hFy120; rw [e] at h; clear e; try dsimp only at h
                    cbv
                    have e := inr_some h houts74; clear h
                    have h := hFs74; rw [e] at h; clear e; try dsimp only at h
                    cbv
                    have e := ret_some h; clear h
                    have h := hFy50; rw [e] at h; clear e; try dsimp only at h
                    cbv
                    have e := ret_some h; clear h
                    refine hK _ _ ?_
                    cbv
                    try (subst e; simp only [D.har, D.hcmp, D.hgi, D.hinb, D.hlen, D.hscmp, D.htoB, and_self, and_true, true_and] <;> (repeat' apply And.intro) <;> rfl)
                  · as_aux_lemma =>
                    refine R.brD h (by (first | (simp only [D.har, D.hcmp, D.hgi, D.hinb, D.hlen, D.hscmp, D.htoB]; done) | rfl | (simp only [D.har, D.hcmp, D.hgi, D.hinb, D.hlen, D.hscmp, D.htoB]; rfl))) ?_ ?_ <;> clear h <;> intro h <;> cbv
                    · as_aux_lemma =>
                      refine R.callD h (fun x149 hx149 h2 => ?_)
                      clear h; have h := h2; clear h2
                      refine R.call' (w25s _ _ _ _ _ _ _ _ _ _ hx149) (by (first | (simp only [D.har, D.hcmp, D.hgi, D.hinb, D.hlen, D.hscmp, D.htoB]; done) | rfl | (simp only [D.har, D.hcmp, D.hgi, D.hinb, D.hlen, D.hscmp, D.htoB]; rfl))) ?_
                      clear hx149; cbv
                      refine R.callD h (fun x150 hx150 h2 => ?_)
                      clear h; have h := h2; clear h2
                      refine R.call' (w25s _ _ _ _ _ _ _ _ _ _ hx150) (by (first | (simp only [D.har, D.hcmp, D.hgi, D.hinb, D.hlen, D.hscmp, D.htoB]; done) | rfl | (simp only [D.har, D.hcmp, D.hgi, D.hinb, D.hlen, D.hscmp, D.htoB]; rfl))) ?_
                      clear hx150; cbv
                      refine R.callD h (fun x151 hx151 h2 => ?_)
                      clear h; have h := h2; clear h2
                      refine R.call' (w26s _ _ _ _ _ _ _ _ _ _ hx151) (by (first | (simp only [D.har, D.hcmp, D.hgi, D.hinb, D.hlen, D.hscmp, D.htoB]; done) | rfl | (simp only [D.har, D.hcmp, D.hgi, D.hinb, D.hlen, D.hscmp, D.htoB]; rfl))) ?_
                      clear hx151; cbv
                      refine R.cutB (fun p => p) (fun _ _ e => e) h [] (fun p153 => [(169, .b p153)]) (fun p153 => []) (by kernel_rfl) (by kernel_rfl) (fun y152 hy hFy152 L hLy152 => ?_) (fun p153 h2 => ?_)
                      · clear h; have h := hy; clear hy; cbv
                        refine R.brD h (by (first | (simp only [D.har, D.hcmp, D.hgi, D.hinb, D.hlen, D.hscmp, D.htoB]; done) | rfl | (simp only [D.har, D.hcmp, D.hgi, D.hinb, D.hlen, D.hscmp, D.htoB]; rfl))) ?_ ?_ <;> clear h <;> intro h <;> cbv
                        · obtain ⟨s', e, hi⟩ := jn_some (fun p => p) h
                          refine hLy152 s' _ _ hi ⟨by kernel_rfl, ?_, ?_, by kernel_rfl, by kernel_rfl⟩ <;> cbv <;> (try (subst e; simp only [D.har, D.hcmp, D.hgi, D.hinb, D.hlen, D.hscmp, D.htoB, and_self, and_true, true_and] <;> (repeat' apply And.intro) <;> rfl))
                        · refine R.brD h (by (first | (simp only [D.har, D.hcmp, D.hgi, D.hinb, D.hlen, D.hscmp, D.htoB]; done) | rfl | (simp only [D.har, D.hcmp, D.hgi, D.hinb, D.hlen, D.hscmp, D.htoB]; rfl))) ?_ ?_ <;> clear h <;> intro h <;> cbv
                          · obtain ⟨s', e, hi⟩ := jn_some (fun p => p) h
                            refine hLy152 s' _ _ hi ⟨by kernel_rfl, ?_, ?_, by kernel_rfl, by kernel_rfl⟩ <;> cbv <;> (try (subst e; simp only [D.har, D.hcmp, D.hgi, D.hinb, D.hlen, D.hscmp, D.htoB, and_self, and_true, true_and] <;> (repeat' apply And.intro) <;> rfl))
                          · refine R.brD h (by (first | (simp only [D.har, D.hcmp, D.hgi, D.hinb, D.hlen, D.hscmp, D.htoB]; done) | rfl | (simp only [D.har, D.hcmp, D.hgi, D.hinb, D.hlen, D.hscmp, D.htoB]; rfl))) ?_ ?_ <;> clear h <;> intro h <;> cbv
                            · obtain ⟨s', e, hi⟩ := jn_some (fun p => p) h
                              refine hLy152 s' _ _ hi ⟨by kernel_rfl, ?_, ?_, by kernel_rfl, by kernel_rfl⟩ <;> cbv <;> (try (subst e; simp only [D.har, D.hcmp, D.hgi, D.hinb, D.hlen, D.hscmp, D.htoB, and_self, and_true, true_and] <;> (repeat' apply And.intro) <;> rfl))
                            · refine R.brD h (by (first | (simp only [D.har, D.hcmp, D.hgi, D.hinb, D.hlen, D.hscmp, D.htoB]; done) | rfl | (simp only [D.har, D.hcmp, D.hgi, D.hinb, D.hlen, D.hscmp, D.htoB]; rfl))) ?_ ?_ <;> clear h <;> intro h <;> cbv
                              · obtain ⟨s', e, hi⟩ := jn_some (fun p => p) h
                                refine hLy152 s' _ _ hi ⟨by kernel_rfl, ?_, ?_, by kernel_rfl, by kernel_rfl⟩ <;> cbv <;> (try (subst e; simp only [D.har, D.hcmp, D.hgi, D.hinb, D.hlen, D.hscmp, D.htoB, and_self, and_true, true_and] <;> (repeat' apply And.intro) <;> rfl))
                              · refine R.brD h (by (first | (simp only [D.har, D.hcmp, D.hgi, D.hinb, D.hlen, D.hscmp, D.htoB]; done) | rfl | (simp only [D.har, D.hcmp, D.hgi, D.hinb, D.hlen, D.hscmp, D.htoB]; rfl))) ?_ ?_ <;> clear h <;> intro h <;> cbv
                                · obtain ⟨s', e, hi⟩ := jn_some (fun p => p) h
                                  refine hLy152 s' _ _ hi ⟨by kernel_rfl, ?_, ?_, by kernel_rfl, by kernel_rfl⟩ <;> cbv <;> (try (subst e; simp only [D.har, D.hcmp, D.hgi, D.hinb, D.hlen, D.hscmp, D.htoB, and_self, and_true, true_and] <;> (repeat' apply And.intro) <;> rfl))
                                · obtain ⟨s', e, hi⟩ := jn_some (fun p => p) h
                                  refine hLy152 s' _ _ hi ⟨by kernel_rfl, ?_, ?_, by kernel_rfl, by kernel_rfl⟩ <;> cbv <;> (try (subst e; simp only [D.har, D.hcmp, D.hgi, D.hinb, D.hlen, D.hscmp, D.htoB, and_self, and_true, true_and] <;> (repeat' apply And.intro) <;> rfl))
                      · clear h; have h := h2; clear h2; try dsimp only at h
                        cbv
                        refine R.brD h (by (first | (simp only [D.har, D.hcmp, D.hgi, D.hinb, D.hlen, D.hscmp, D.htoB]; done) | rfl | (simp only [D.har, D.hcmp, D.hgi, D.hinb, D.hlen, D.hscmp, D.htoB]; rfl))) ?_ ?_ <;> clear h <;> intro h <;> cbv
                        · have e := ret_some h; clear h
                          have h := hFy120; rw [e] at h; clear e; try dsimp only at h
                          cbv
                          have e := inr_some h houts74; clear h
                          have h := hFs74; rw [e] at h; clear e; try dsimp only at h
                          cbv
                          have e := ret_some h; clear h
                          have h := hFy50; rw [e] at h; clear e; try dsimp only at h
                          cbv
                          have e := ret_some h; clear h
                          refine hK _ _ ?_
                          cbv
                          try (subst e; simp only [D.har, D.hcmp, D.hgi, D.hinb, D.hlen, D.hscmp, D.htoB, and_self, and_true, true_and] <;> (repeat' apply And.intro) <;> rfl)
                        · obtain ⟨s', e, hi⟩ := jn_some Sum.inl h
                          refine hLy120 s' _ _ hi ⟨by kernel_rfl, ?_, ?_, by kernel_rfl, by kernel_rfl⟩ <;> cbv <;> (try (subst e; simp only [D.har, D.hcmp, D.hgi, D.hinb, D.hlen, D.hscmp, D.htoB, and_self, and_true, true_and] <;> (repeat' apply And.intro) <;> rfl))
                    · obtain ⟨s', e, hi⟩ := jn_some Sum.inl h
                      refine hLy120 s' _ _ hi ⟨by kernel_rfl, ?_, ?_, by kernel_rfl, by kernel_rfl⟩ <;> cbv <;> (try (subst e; simp only [D.har, D.hcmp, D.hgi, D.hinb, D.hlen, D.hscmp, D.htoB, and_self, and_true, true_and] <;> (repeat' apply And.intro) <;> rfl))
          · clear h; have h := h2; clear h2; try dsimp only at h
            cbv
            obtain ⟨s', e, hi⟩ := inl_some h hins74
            refine hLs74 s' _ _ hi ⟨by kernel_rfl, ?_, ?_, by kernel_rfl, by kernel_rfl⟩ <;> cbv <;> (try (subst e; simp only [D.har, D.hcmp, D.hgi, D.hinb, D.hlen, D.hscmp, D.htoB, and_self, and_true, true_and] <;> (repeat' apply And.intro) <;> rfl))
        · have e := inr_some h houts74; clear h
          have h := hFs74; rw [e] at h; clear e; try dsimp only at h
          cbv
          obtain ⟨s', e, hi⟩ := jn_some Sum.inl h
          refine hLy50 s' _ _ hi ⟨by kernel_rfl, ?_, ?_, by kernel_rfl, by kernel_rfl⟩ <;> cbv <;> (try (subst e; simp only [D.har, D.hcmp, D.hgi, D.hinb, D.hlen, D.hscmp, D.htoB, and_self, and_true, true_and] <;> (repeat' apply And.intro) <;> rfl))
      · clear h; have h := h2; clear h2; try dsimp only at h
        cbv
        refine R.callD h (fun x160 hx160 h2 => ?_)
        clear h; have h := h2; clear h2
        refine R.call' (w44 _ hx160) (by (first | (simp only [D.har, D.hcmp, D.hgi, D.hinb, D.hlen, D.hscmp, D.htoB]; done) | rfl | (simp only [D.har, D.hcmp, D.hgi, D.hinb, D.hlen, D.hscmp, D.htoB]; rfl))) ?_
        clear hx160; cbv
        have e := ret_some h; clear h
        refine hK _ _ ?_
        cbv
        try (subst e; simp only [D.har, D.hcmp, D.hgi, D.hinb, D.hlen, D.hscmp, D.htoB, and_self, and_true, true_and] <;> (repeat' apply And.intro) <;> rfl)
end Go.Proofs.Ytdejapkfijdadaa
end
section
namespace Go.Proofs.Ytdejapkfijdadaa
open Go.Ab Go.RowKit 
set_option maxRecDepth 100000
set_option maxHeartbeats 40000000
end Go.Proofs.Ytdejapkfijdadaa
end
section
/- What the bound of an 'Upto' statement gives. No statement of its own. -/

namespace Go.Proofs.Ytdejapkfijdadaa.bulks
open Go.Ab Go.RowKit
theorem one_le {H : Type} (d : DataW H) : 1 ≤ Rows.uptoBulk d := by
  cases d with
  | lit l => cases l <;> simp [Rows.uptoBulk]
  | _ => simp [Rows.uptoBulk]
theorem part_le {H : Type} {d : DataW H} {l : List (DataW H)} (h : d ∈ l) : Rows.uptoBulk d ≤ Rows.uptoBulkAll l := by
  induction l with
  | nil => cases h
  | cons x r ih =>
    simp only [Rows.uptoBulkAll]
    cases List.mem_cons.1 h with
    | inl e => subst e; omega
    | inr e => have := ih e; omega
theorem append {H : Type} (l r : List (DataW H)) : Rows.uptoBulkAll (l ++ r) = Rows.uptoBulkAll l + Rows.uptoBulkAll r := by
  induction l with
  | nil => simp [Rows.uptoBulkAll]
  | cons x l ih => simp only [List.cons_append, Rows.uptoBulkAll, ih]; omega
theorem length_le {H : Type} (l : List (DataW H)) : l.length ≤ Rows.uptoBulkAll l := by
  induction l with
  | nil => simp [Rows.uptoBulkAll]
  | cons x r ih => have := one_le x; simp only [Rows.uptoBulkAll, List.length_cons]; omega
theorem bound {H : Type} {l : List (DataW H)} (hk : Rows.uptoSmall H l = true) : Rows.uptoBulkAll l ≤ 1048576 := of_decide_eq_true hk
theorem len_le {H : Type} {enc : TypeId × Value → H} {P : Program} {w : World} {spare : Nat → Bool} {held : Bool} {t e : TypeId} {fuel : Nat} {A : Option Addr} {n cap : Nat} {d : DataW H} {pl : List MemPlace} (ht : P.underlying t = some (.slice e)) (h : DataW.trod enc P w 0 spare held fuel t [.slice A n cap] = some (d, pl)) : n ≤ Rows.uptoBulk d := by
  rcases Deep.open_slice ht h with ⟨h1, _⟩ | ⟨a, len, cap', m, k, D, Pl, h1, _, _, _, _, h2, _⟩
  · injection h1 with h1
    injection h1 with _ h1
    omega
  · injection h1 with h1
    injection h1 with _ h1
    injection h2 with h2
    subst h2
    have := length_le ((List.range len).map D)
    simp only [Rows.uptoBulk]
    rw [List.length_map, List.length_range] at this
    omega
theorem len_of {T : Tr} {φ : Nat → Option Ab.Loc} {w : World} {S : Nat → Prop} {e : Nat} {l : List V} {A : Option Addr} {n cap : Nat} (h : relL T φ w S [.sl e l] [.slice A n cap]) : n = l.length := by
  simp only [relL, rel] at h
  obtain ⟨c, cs, h1, h2, _⟩ := h
  obtain ⟨A', cap', h3, _⟩ := h2
  injection h1 with h1
  rw [← h1] at h3
  injection h3
end Go.Proofs.Ytdejapkfijdadaa.bulks
end
section
namespace Go.Proofs.Ytdejapkfijdadaa
open Go.Ab Go.RowKit 
set_option maxRecDepth 100000
set_option maxHeartbeats 40000000
end Go.Proofs.Ytdejapkfijdadaa
end
section
namespace Go.Proofs.Ytdejapkfijdadaa
open Go.Ab Go.RowKit 
set_option maxRecDepth 100000
set_option maxHeartbeats 40000000
end Go.Proofs.Ytdejapkfijdadaa
end
