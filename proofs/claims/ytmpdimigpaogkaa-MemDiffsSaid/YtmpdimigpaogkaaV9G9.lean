/- A text of the proof of MemDiffs: what of it that proof uses. No statement of its own. -/
import Derived.Test.YtmpdimigpaogkaaV9G7
import Derived.Laws.CopyOwn
namespace Go.Proofs.Ytmpdimigpaogkaa.G
open Go.RowKit Go.Proofs.YtmpdimigpaogkaaW.PrintWords Go.Proofs.YtmpdimigpaogkaaW.PrintLast Go.Proofs.YtmpdimigpaogkaaW.PrintMore
set_option linter.unusedVariables false
set_option linter.unusedSimpArgs false
/-- copy into an own row of bytes, from a place on: what the operation comes to. -/
theorem run_copy_at {P : Program} {w0 W : World} (base : Nat) (t t' ty e : TypeId) (ht : P.underlying t = some (.slice e)) (hinfo : (P.info? e).map (·.size) = some 1)
    (A : Addr) (xs ys : List Int) (B : Option Addr) (c m c2 off dl dc : Nat) (ok : Nat → Prop)
    (HO : Kd.R (Kd.int .u8) e W base ok (.slice (some A) xs.length c) xs) (HR : Kd.C (Kd.int .u8) W B m ys) (hm0 : 0 < m) (hml : m ≤ dl) (hfit : off + m ≤ xs.length) (HB : Below base w0 W) :
    ∃ w1, (Builtin.copy_ #[t, t'] ty #[.slice (some (A.add off)) dl dc, .slice B m c2]).run P W = .ok (goInt m) w1 ∧ Kd.R (Kd.int .u8) e w1 base ok (.slice (some A) xs.length c) (xs.take off ++ (ys ++ xs.drop (off + ys.length))) ∧ Below base w0 w1 ∧ W.grownBy w1 (some A.block) := by
  have hR := Kd.reads_of_C (enc := Value.int .u8) (d := (0 : Int)) (h1 := fun _ => rfl) HR
  have hown := Kd.own_of_R (enc := Value.int .u8) (h1 := fun _ => rfl) HO
  have hl : ys.length = m := hR.1
  obtain ⟨ad, hB, hc⟩ := hR.2.2 hm0
  rcases hown.2 with ⟨hv, hx0⟩ | ⟨g, cap, cur, hv, hb, hh, hnc, hcm, hcs, htake⟩
  · cases hv
  · cases hv
    rw [Nat.mul_one] at htake hcs
    have hcs1 : cur.size = c := by omega
    have hkl : (encs (Value.int .u8) ys).length = m := by rw [encs_length, hl]
    have hsrc : ∀ j u, (encs (Value.int .u8) ys)[j]? = some u → W.cell? (ad.add j) = some u := by
      intro j u hu
      have hj : j < ys.length := by
        rcases Nat.lt_or_ge j ys.length with h | h
        · exact h
        · rw [List.getElem?_eq_none (by rw [encs_length]; exact h)] at hu
          cases hu
      rw [encs_get (d := 0) _ j hj] at hu
      rw [hc j (by omega), ← hu]
    have hrun := run_copy_row (P := P) W t t' ty e g off dl dc ad m c2 cur e (encs (Value.int .u8) ys) ht hinfo hh (by rw [hkl]; simp [Nat.min_def, hml]) hsrc (by rw [hkl]; omega) (by intro u hu; simp only [encs, List.mem_map] at hu; obtain ⟨q, _, rfl⟩ := hu; rfl)
    rw [hkl, List.append_assoc] at hrun
    rw [hl]
    have hadd : (⟨g, 0, none⟩ : Addr).add off = ⟨g, off, none⟩ := by simp only [Addr.add, Nat.zero_add]; split <;> simp_all
    rw [hadd, hB]
    have hlen : (xs.take off ++ (ys ++ xs.drop (off + m))).length = xs.length := by simp [hl]; omega
    refine ⟨_, hrun, ?_, below_setRow HB hb _, ⟨rfl, rfl, rfl, by simp [World.setRow], fun k hk1 hk => setRow_other W g k _ (fun he => hk (by rw [he]))⟩⟩
    have hR2 : (W.setRow g (cur.toList.take off ++ (encs (Value.int .u8) ys ++ cur.toList.drop (off + m))).toArray).ownsRow base e 1 (.slice (some ⟨g, 0, none⟩) xs.length c) xs.length (encs (Value.int .u8) (xs.take off ++ (ys ++ xs.drop (off + m)))) := by
      refine ⟨by rw [encs_length, hlen, Nat.mul_one], .inr ⟨g, c, _, rfl, hb, setRow_heap W g cur _ e _ hh, hnc, hcm, by simp [hkl]; omega, ?_⟩⟩
      rw [Nat.mul_one, encs_append, encs_append]
      have h1 : cur.toList.take off = encs (Value.int .u8) (xs.take off) := by
        have := congrArg (List.take off) htake
        rw [List.take_take, Nat.min_eq_left (by omega)] at this
        rw [this]; simp [encs]
      have h2 : (cur.toList.drop (off + m)).take (xs.length - (off + m)) = encs (Value.int .u8) (xs.drop (off + m)) := by
        have := congrArg (List.drop (off + m)) htake
        rw [List.drop_take] at this
        rw [this]; simp [encs]
      rw [← h2, h1]
      have h3 : (encs (Value.int .u8) (xs.take off)).length = off := by rw [encs_length, List.length_take]; omega
      simp only [List.take_append, h3, hkl]
      rw [List.take_of_length_le (l := encs (Value.int .u8) (xs.take off)) (by rw [h3]; omega), List.take_of_length_le (l := encs (Value.int .u8) ys) (by rw [hkl]; omega), show xs.length - off - m = xs.length - (off + m) from by omega]
    exact ⟨HO.1, _, by rw [hlen]; exact hR2, Kd.reps_scalar _⟩
end Go.Proofs.Ytmpdimigpaogkaa.G
