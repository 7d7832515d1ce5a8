/- Texts of this seat, merged in build order. No statement of its own. -/
import Derived.Test.YtmofhbedamjblaaPA5
set_option linter.unusedVariables false
set_option linter.unusedSimpArgs false
section
namespace Go.Proofs.Ytmofhbedamjblaa
open Go.Ab Go.RowKit
set_option maxRecDepth 100000

def isum : List Int → Int
  | [] => 0
  | a :: r => a + isum r
theorem isum_app : ∀ a b : List Int, isum (a ++ b) = isum a + isum b
  | [], b => by simp [isum]
  | x :: a, b => by simp only [List.cons_append, isum, isum_app a b]; omega
theorem isum_snoc (a : List Int) (x : Int) : isum (a ++ [x]) = isum a + x := by rw [isum_app]; simp [isum]
theorem isum_nn : ∀ {s : List Int}, (∀ x ∈ s, 0 ≤ x) → 0 ≤ isum s
  | [], _ => Int.le_refl _
  | a :: r, h => by
    have := isum_nn (s := r) (fun x hx => h x (by simp [hx]))
    have := h a (by simp)
    simp only [isum]; omega
theorem tot_go : ∀ (s : List Int) (n : Int), (∀ x ∈ s, 0 ≤ x) → 0 ≤ n → n + isum s < 9223372036854775808 → s.foldl (fun n v => wrapK .i64 (n + v)) n = n + isum s
  | [], n, _, _, _ => by simp [isum]
  | a :: r, n, h, hn, hb => by
    have ha := h a (by simp)
    have hr := isum_nn (s := r) (fun x hx => h x (by simp [hx]))
    simp only [isum] at hb ⊢
    rw [List.foldl_cons, wk_i ⟨by omega, by omega⟩, tot_go r (n + a) (fun x hx => h x (by simp [hx])) (by omega) (by omega)]
    omega
theorem isum_zip : ∀ s t : List Int, s.length = t.length → isum (List.zipWith (fun a b => a + b) s t) = isum s + isum t
  | [], [], _ => rfl
  | [], _ :: _, h => by simp at h
  | _ :: _, [], h => by simp at h
  | a :: s, b :: t, h => by
    simp only [List.zipWith_cons_cons, isum, isum_zip s t (by simpa using h)]; omega
theorem isum_rep : ∀ n : Nat, isum (List.replicate n 0) = 0
  | 0 => rfl
  | n + 1 => by rw [List.replicate_succ]; simp only [isum, isum_rep n]; omega
theorem isum_set : ∀ (n i : Nat), i < n → isum ((List.replicate n 0).set i 1) = 1
  | 0, i, h => by omega
  | n + 1, 0, h => by rw [List.replicate_succ, List.set_cons_zero]; simp only [isum, isum_rep n]; omega
  | n + 1, i + 1, h => by rw [List.replicate_succ, List.set_cons_succ]; simp only [isum, isum_set n i (by omega)]; omega
/-- Values of a middle size. -/
def mid (l : List Int) : Prop := ∀ v ∈ l, -1125899906842624 ≤ v ∧ v ≤ 1125899906842624
theorem mid.i {l : List Int} (h : mid l) : ∀ v ∈ l, I64 v := fun v hv => ⟨by have := (h v hv).1; omega, by have := (h v hv).2; omega⟩
theorem snoc_ind {P : List Int → Prop} (h0 : P []) (h1 : ∀ l a, P l → P (l ++ [a])) : ∀ l, P l := by
  have : ∀ (n : Nat) (l : List Int), l.length = n → P l := by
    intro n
    induction n with
    | zero => intro l hl; rw [List.length_eq_zero_iff.1 hl]; exact h0
    | succ n ih =>
      intro l hl
      rcases List.eq_nil_or_concat l with rfl | ⟨r, a, rfl⟩
      · exact h0
      · rw [List.concat_eq_append] at hl ⊢
        exact h1 r a (ih r (by simpa using hl))
  exact fun l => this _ l rfl
theorem mid_snoc {l : List Int} {a : Int} (h : mid (l ++ [a])) : mid l ∧ -1125899906842624 ≤ a ∧ a ≤ 1125899906842624 := ⟨fun v hv => h v (List.mem_append_left _ hv), h a (by simp)⟩
theorem sum_b : ∀ l : List Int, mid l → -(1125899906842624 * l.length) ≤ isum l ∧ isum l ≤ 1125899906842624 * l.length := by
  refine snoc_ind (fun _ => by simp [isum]) (fun l a ih h => ?_)
  obtain ⟨h1, h2, h3⟩ := mid_snoc h
  have := ih h1
  rw [isum_snoc, List.length_append, List.length_singleton]; push_cast
  omega
def sqs (l : List Int) : List Int := l.map (fun v => v * v)
theorem sq_b {v : Int} (h : -1125899906842624 ≤ v ∧ v ≤ 1125899906842624) : 0 ≤ v * v ∧ v * v ≤ 1267650600228229401496703205376 := by
  by_cases hv : 0 ≤ v
  · have := mul_rng2 (x := v) (y := v) (m := 1125899906842624) (n := 1125899906842624) hv h.2 hv h.2
    omega
  · have := mul_rng2 (x := -v) (y := -v) (m := 1125899906842624) (n := 1125899906842624) (by omega) (by omega) (by omega) (by omega)
    rw [Int.neg_mul_neg] at this
    omega
theorem sqs_b : ∀ l : List Int, mid l → 0 ≤ isum (sqs l) ∧ isum (sqs l) ≤ 1267650600228229401496703205376 * l.length := by
  refine snoc_ind (fun _ => by simp [isum, sqs]) (fun l a ih h => ?_)
  obtain ⟨h1, h2⟩ := mid_snoc h
  have := ih h1
  have := sq_b h2
  unfold sqs at *
  rw [List.map_append, isum_app, List.length_append, List.length_singleton]
  simp only [List.map_cons, List.map_nil, isum]; push_cast
  omega
theorem n1 : ∀ l : List Int, stv 1 [] l = [(l.length : Int)] := by
  refine snoc_ind rfl (fun l a ih => ?_)
  rw [stv_snoc, ih, sing_1, mg_c (.inl rfl), List.length_append, List.length_singleton]; push_cast; rfl
theorem n2 : ∀ l : List Int, mid l → l.length ≤ 200 → stv 2 [] l = [isum l] := by
  refine snoc_ind (fun _ _ => rfl) (fun l a ih h hl => ?_)
  obtain ⟨h1, h2⟩ := mid_snoc h
  rw [List.length_append, List.length_singleton] at hl
  have b := sum_b l h1
  rw [stv_snoc, ih h1 (by omega), sing_2, mg_2, isum_snoc]
  show [wrapK .i64 (isum l + a)] = _
  rw [wk_i ⟨by omega, by omega⟩]
theorem n3 : ∀ l : List Int, ∃ m, stv 3 [] l = [(l.length : Int), m] ∧ (l ≠ [] → m ∈ l) ∧ ∀ v ∈ l, m ≤ v := by
  refine snoc_ind ⟨0, rfl, fun h => (h rfl).elim, fun v hv => (by cases hv)⟩ (fun l a ih => ?_)
  obtain ⟨m, e, h1, h2⟩ := ih
  rw [stv_snoc, e, sing_p (by omega), mg_p (by omega), List.length_append, List.length_singleton]
  have ep : pick 3 (l.length : Int) m 1 a = if (l.length : Int) = 0 ∨ a < m then a else m := by
    unfold pick
    rw [if_pos rfl]
    by_cases q : (l.length : Int) = 0 ∨ a < m
    · rw [if_pos ⟨by omega, q⟩, if_pos q]
    · rw [if_neg (fun k => q k.2), if_neg q]
  rw [ep]
  by_cases q : (l.length : Int) = 0 ∨ a < m
  · rw [if_pos q]
    refine ⟨a, by push_cast; rfl, fun _ => by simp, fun v hv => ?_⟩
    rcases List.mem_append.1 hv with hv | hv
    · rcases q with q | q
      · have : l = [] := List.length_eq_zero_iff.1 (by omega)
        rw [this] at hv; cases hv
      · have := h2 v hv; omega
    · rw [List.mem_singleton.1 hv]; omega
  · rw [if_neg q]
    refine ⟨m, by push_cast; rfl, fun _ => List.mem_append_left _ (h1 (fun h => q (.inl (by rw [h]; rfl)))), fun v hv => ?_⟩
    rcases List.mem_append.1 hv with hv | hv
    · exact h2 v hv
    · rw [List.mem_singleton.1 hv]; omega
theorem n4 : ∀ l : List Int, ∃ m, stv 4 [] l = [(l.length : Int), m] ∧ (l ≠ [] → m ∈ l) ∧ ∀ v ∈ l, v ≤ m := by
  refine snoc_ind ⟨0, rfl, fun h => (h rfl).elim, fun v hv => (by cases hv)⟩ (fun l a ih => ?_)
  obtain ⟨m, e, h1, h2⟩ := ih
  rw [stv_snoc, e, sing_p (by omega), mg_p (by omega), List.length_append, List.length_singleton]
  have ep : pick 4 (l.length : Int) m 1 a = if (l.length : Int) = 0 ∨ a > m then a else m := by
    rw [pick4_eq]
    by_cases q : (l.length : Int) = 0 ∨ a > m
    · rw [if_pos ⟨by omega, q⟩, if_pos q]
    · rw [if_neg (fun k => q k.2), if_neg q]
  rw [ep]
  by_cases q : (l.length : Int) = 0 ∨ a > m
  · rw [if_pos q]
    refine ⟨a, by push_cast; rfl, fun _ => by simp, fun v hv => ?_⟩
    rcases List.mem_append.1 hv with hv | hv
    · rcases q with q | q
      · have : l = [] := List.length_eq_zero_iff.1 (by omega)
        rw [this] at hv; cases hv
      · have := h2 v hv; omega
    · rw [List.mem_singleton.1 hv]; omega
  · rw [if_neg q]
    refine ⟨m, by push_cast; rfl, fun _ => List.mem_append_left _ (h1 (fun h => q (.inl (by rw [h]; rfl)))), fun v hv => ?_⟩
    rcases List.mem_append.1 hv with hv | hv
    · exact h2 v hv
    · rw [List.mem_singleton.1 hv]; omega
theorem n5 : ∀ l : List Int, mid l → l.length ≤ 200 → stv 5 [] l = [(l.length : Int), isum l] := by
  refine snoc_ind (fun _ _ => rfl) (fun l a ih h hl => ?_)
  obtain ⟨h1, h2⟩ := mid_snoc h
  rw [List.length_append, List.length_singleton] at hl ⊢
  have b := sum_b l h1
  rw [stv_snoc, ih h1 (by omega), sing_p (by omega), mg_p (by omega), isum_snoc, pick5_eq, wk_i ⟨by omega, by omega⟩]
  push_cast; rfl
theorem n6 : ∀ l : List Int, mid l → l.length ≤ 200 → stv 6 [] l = [(l.length : Int), isum l, hi2 (isum (sqs l)), lo2 (isum (sqs l))] := by
  refine snoc_ind (fun _ _ => rfl) (fun l a ih h hl => ?_)
  obtain ⟨h1, h2⟩ := mid_snoc h
  rw [List.length_append, List.length_singleton] at hl ⊢
  have b := sum_b l h1
  have c := sqs_b l h1
  have d := sq_b h2
  have eS : sq2 (hi2 (isum (sqs l))) (lo2 (isum (sqs l))) (hi2 (a * a)) (lo2 (a * a)) = isum (sqs (l ++ [a])) := by
    unfold sq2
    rw [uw_hi ⟨by omega, by omega⟩, uw_hi ⟨by omega, by omega⟩]
    unfold sqs at *
    rw [List.map_append, isum_app]
    simp only [List.map_cons, List.map_nil, isum]
    omega
  rw [stv_snoc, ih h1 (by omega), sing_6, mg_6, isum_snoc, eS, wk_i ⟨by omega, by omega⟩]
  push_cast; rfl
theorem n7 {nm : ByteArray} {fn : Int} {p : List Int} {ks : List V} (hA : okA nm fn p ks) (h7 : 7 ≤ fn) : ∀ l : List Int, (∀ v ∈ l, I64 v) → l.length ≤ 2000 → isum (stv fn p l) = l.length ∧ tot (stv fn p l) = l.length := by
  have hA7 : fn = 1 ∨ 7 ≤ fn := .inr h7
  have main : ∀ l : List Int, (∀ v ∈ l, I64 v) → l.length ≤ 2000 → isum (stv fn p l) = l.length := by
    refine snoc_ind (fun _ _ => by unfold stv zer; exact isum_rep _) (fun l a ih h hl => ?_)
    have h1 : ∀ v ∈ l, I64 v := fun v hv => h v (List.mem_append_left _ hv)
    have h2 : I64 a := h a (by simp)
    rw [List.length_append, List.length_singleton] at hl ⊢
    have k := stv_ok hA _ l rfl (by omega) h1
    have hs := sing_val hA h2
    have hb := s32 hA h7 h2
    have hw := wd_rng hA
    rw [stv_snoc, mg_c hA7, isum_zip _ _ (val_eq k.1 hs.1), ih h1 (by omega), sing_7 h7]
    unfold zer
    rw [isum_set _ _ (by omega)]; push_cast; rfl
  intro l hi hl
  have e := main l hi hl
  have k := stv_ok hA _ l rfl (by omega) hi
  refine ⟨e, ?_⟩
  unfold tot
  rw [tot_go _ _ (fun x hx => (val_c hA7 k.1 x hx).1) (by omega) (by omega), e]
  omega
theorem isum_const : ∀ (l : List Int) (v : Int), (∀ x ∈ l, x = v) → isum l = l.length * v ∧ isum (sqs l) = l.length * (v * v)
  | [], v, _ => by simp [isum, sqs]
  | a :: r, v, h => by
    have ih := isum_const r v (fun x hx => h x (by simp [hx]))
    obtain rfl := h a (by simp)
    unfold sqs at *
    simp only [isum, List.map_cons, List.length_cons, ih.1, ih.2]
    push_cast
    rw [Int.add_mul, Int.add_mul]
    omega
theorem dv_same {n v : Int} (hn : 0 < n) : dv n (n * v) (n * (v * v)) = 0 := by
  by_cases hS : n * (v * v) = 0
  · exact dv_0 (.inr hS)
  rw [dv_1 (by omega) hS]
  refine bits_none (fun r hr h => ?_) 63
  unfold dvP at h
  have e : n * v * (n * v) = n * (n * (v * v)) := by grind
  rw [e] at h
  have : 0 < (r * n) * (r * n) := Int.mul_pos (Int.mul_pos hr hn) (Int.mul_pos hr hn)
  omega
/-- Between the least and the greatest. -/
theorem tdiv_mid {S n a b : Int} (hn : 0 < n) (h1 : n * a ≤ S) (h2 : S ≤ n * b) : a ≤ S.tdiv n ∧ S.tdiv n ≤ b := by
  have key : ∀ {S a b : Int}, 0 ≤ S → n * a ≤ S → S ≤ n * b → a ≤ S.tdiv n ∧ S.tdiv n ≤ b := by
    intro S a b hS h1 h2
    rw [Int.tdiv_eq_ediv_of_nonneg hS]
    refine ⟨(Int.le_ediv_iff_mul_le hn).2 (by rw [Int.mul_comm]; exact h1), ?_⟩
    have : S / n < b + 1 := Int.ediv_lt_of_lt_mul hn (by rw [Int.add_mul, Int.one_mul, Int.mul_comm]; omega)
    omega
  by_cases hS : 0 ≤ S
  · exact key hS h1 h2
  · obtain ⟨T, rfl⟩ : ∃ T, S = -T := ⟨-S, by omega⟩
    have := key (S := T) (a := -b) (b := -a) (by omega) (by rw [Int.mul_neg]; omega) (by rw [Int.mul_neg]; omega)
    rw [Int.neg_tdiv]
    omega
theorem isum_mid : ∀ (l : List Int) (a b : Int), (∀ v ∈ l, a ≤ v) → (∀ v ∈ l, v ≤ b) → l.length * a ≤ isum l ∧ isum l ≤ l.length * b
  | [], a, b, _, _ => by simp [isum]
  | x :: r, a, b, h1, h2 => by
    have ih := isum_mid r a b (fun v hv => h1 v (by simp [hv])) (fun v hv => h2 v (by simp [hv]))
    have := h1 x (by simp)
    have := h2 x (by simp)
    simp only [isum, List.length_cons]
    push_cast
    rw [Int.add_mul, Int.add_mul]
    omega
end Go.Proofs.Ytmofhbedamjblaa
end
section
namespace Go.Proofs.Ytmofhbedamjblaa
open Go.Ab Go.RowKit
set_option maxRecDepth 100000

/-- What is told of the values by a function. -/
noncomputable def ov (l : List Int) (f : Int) : Int := val f (stv f [] l)
noncomputable def outs (l : List Int) (j : Nat) : List Int := (List.range j).map (fun i => ov l ((i + 1 : Nat) : Int))
theorem outs_succ (l : List Int) (j : Nat) : outs l (j + 1) = outs l j ++ [ov l ((j + 1 : Nat) : Int)] := by
  unfold outs; rw [List.range_succ, List.map_append]; rfl
theorem outs_7 (l : List Int) : outs l 7 = [ov l 1, ov l 2, ov l 3, ov l 4, ov l 5, ov l 6, ov l 7] := by
  unfold outs; rfl
theorem outs_len (l : List Int) (j : Nat) : (outs l j).length = j := by unfold outs; rw [List.length_map, List.length_range]
theorem vi_app (a b : List Int) : vi (a ++ b) = vi a ++ vi b := by unfold vi; rw [List.map_append]
theorem l7 (a b c d e f g : Int) : lenI (vi [a, b, c, d, e, f, g]) = 7 := (rfl)
theorem g70 (a b c d e f g : Int) : gI (vi [a, b, c, d, e, f, g]) 0 0 = a := (rfl)
theorem g71 (a b c d e f g : Int) : gI (vi [a, b, c, d, e, f, g]) 1 0 = b := (rfl)
theorem g72 (a b c d e f g : Int) : gI (vi [a, b, c, d, e, f, g]) 2 0 = c := (rfl)
theorem g73 (a b c d e f g : Int) : gI (vi [a, b, c, d, e, f, g]) 3 0 = d := (rfl)
theorem g74 (a b c d e f g : Int) : gI (vi [a, b, c, d, e, f, g]) 4 0 = e := (rfl)
theorem g75 (a b c d e f g : Int) : gI (vi [a, b, c, d, e, f, g]) 5 0 = f := (rfl)
theorem g76 (a b c d e f g : Int) : gI (vi [a, b, c, d, e, f, g]) 6 0 = g := (rfl)
open Classical in
theorem loop5 (l : List Int) (h0 : 0 < l.length) (hn : l.length ≤ 200) : iter (d5_b1 (vi l) true) (true, 0) = some (if mid l then .inr (l.all (fun x => decide (x = l.getD 0 0))) else .inl true) := by
  have e0 : l.getD 0 0 = l[0] := getD_get h0
  have g0 : gI (vi l) 0 0 = l.getD 0 0 := by rw [e0]; exact gI_vi l 0 h0
  have go : ∀ j : Nat, (hj : j < l.length) → (-1125899906842624 ≤ l[j] ∧ l[j] ≤ 1125899906842624) → d5_b1 (vi l) true ((l.take j).all (fun x => decide (x = l.getD 0 0)), (j : Int)) = some (.inl ((l.take (j + 1)).all (fun x => decide (x = l.getD 0 0)), ((j + 1 : Nat) : Int))) := by
    intro j hj hP
    have es : (l.take (j + 1)).all (fun x => decide (x = l.getD 0 0)) = ((l.take j).all (fun x => decide (x = l.getD 0 0)) && decide (l[j] = l.getD 0 0)) := by
      rw [List.take_succ_eq_append_getElem hj, List.all_append]; simp
    rw [es]
    unfold d5_b1
    dsimp only
    rw [lenI_vi, if_pos (lt_i hj), if_pos (inb_i hj), gI_vi _ _ hj, c_gtr, yif' (by omega), if_pos (inb_i hj), c_lss, yif' (by omega), if_pos (inb_i hj), if_pos (inb_0 h0), g0, succ_i hj (by omega), c_eql]
    cases (l.take j).all (fun x => decide (x = l.getD 0 0)) <;> rfl
  rcases first_bad (fun i => ∀ h : i < l.length, -1125899906842624 ≤ l[i] ∧ l[i] ≤ 1125899906842624) l.length with h | ⟨i, hi, hb, hlt⟩
  · have hm : mid l := all_geti.2 (fun i hi => h i hi hi)
    rw [if_pos hm]
    have hI : iter (d5_b1 (vi l) true) ((l.take 0).all (fun x => decide (x = l.getD 0 0)), ((0 : Nat) : Int)) = some (.inr ((l.take l.length).all (fun x => decide (x = l.getD 0 0)))) := by
      refine scan (d5_b1 (vi l) true) (fun j => ((l.take j).all (fun x => decide (x = l.getD 0 0)), (j : Int))) (i := l.length) (Nat.zero_le _) (fun j _ hj => go j hj (h j hj hj)) ?_
      unfold d5_b1
      dsimp only
      rw [lenI_vi, if_neg (nlt_i _)]
    rw [List.take_length] at hI
    exact hI
  · have hb' : ¬ (-1125899906842624 ≤ l[i] ∧ l[i] ≤ 1125899906842624) := fun h => hb (fun _ => h)
    rw [if_neg (fun h => hb' (h _ (List.getElem_mem hi)))]
    have hI : iter (d5_b1 (vi l) true) ((l.take 0).all (fun x => decide (x = l.getD 0 0)), ((0 : Nat) : Int)) = some (.inl true) := by
      refine scan (d5_b1 (vi l) true) (fun j => ((l.take j).all (fun x => decide (x = l.getD 0 0)), (j : Int))) (i := i) (Nat.zero_le _) (fun j _ hj => go j (by omega) (hlt j hj (by omega))) ?_
      unfold d5_b1
      dsimp only
      rw [lenI_vi, if_pos (lt_i hi), if_pos (inb_i hi), gI_vi _ _ hi, c_gtr]
      by_cases q : l[i] > 1125899906842624
      · rw [yif q]
      · rw [yif' q, if_pos (inb_i hi), c_lss, yif (by omega)]
    exact hI
theorem loop5b (l : List Int) (hn : l.length ≤ 200) (hm : mid l) : iter (d5_b2 (vi l)) (1, []) = some (.inr (vi (outs l 7))) := by
  have hI : iter (d5_b2 (vi l)) (((0 + 1 : Nat) : Int), vi (outs l 0)) = some (.inr (vi (outs l 7))) := by
    refine scan (d5_b2 (vi l)) (fun j => (((j + 1 : Nat) : Int), vi (outs l j))) (i := 7) (by omega) (fun j _ hj => ?_) ?_
    · have hA := okA_s (fn := ((j + 1 : Nat) : Int)) (by omega)
      have e1 := s19 hA nil_i l (by omega) hm.i
      have k := stv_ok hA _ l rfl (by omega) hm.i
      have ls := val_len hA k.1
      have e2 := s21 nmA ((j + 1 : Nat) : Int) [] [] nil_i (stv ((j + 1 : Nat) : Int) [] l) (by omega) k.2.1
      rw [if_pos (chk0.2 ⟨hA, k.1⟩)] at e2
      have d2 : d20 ((j + 1 : Nat) : Int) [] = some (nmA, ((j + 1 : Nat) : Int), vi [], []) := rfl
      unfold d5_b2
      dsimp only
      rw [if_pos (by rw [c_leq]; exact dT (by omega))]
      refine bnd1 d2 ?_
      refine bnd1 e1 ?_
      refine bnd1 d2 ?_
      refine bnd1 e2 ?_
      have ea : appL (vi (outs l j)) [.i .i64 (val ((j + 1 : Nat) : Int) (stv ((j + 1 : Nat) : Int) [] l))] = vi (outs l (j + 1)) := by
        rw [outs_succ, vi_app]; rfl
      have er : Room (lenI (vi (outs l (j + 1)))) 8 := by
        rw [lenI_vi, outs_len]; exact ⟨by omega, by omega⟩
      refine dif0 (show ¬ notB' true = true by decide) ?_
      refine dif0 (show ¬ cmpLit .neq 0 0 = true by decide) ?_
      rw [ea]
      refine dif1 er ?_
      rw [succ_i (j := j + 1) (n := 100) (by omega) (by omega)]
    · unfold d5_b2
      dsimp only
      rw [if_neg (by decide)]
  exact hI
/-- AggrNumbers. -/
theorem p5 (l : List Int) (hl : ∀ v ∈ l, I64 v) (a b c : Int) (ha : I64 a) (hb : I64 b) (hc : I64 c) : d5 (vi l) a b c = some true := by
  unfold d5
  refine bnd1 s10 ?_
  rw [lenI_vi, c_eql, c_gtr]
  by_cases h0 : (l.length : Int) = 0
  · rw [yif h0]
  rw [yif' h0]
  by_cases hn : (l.length : Int) > 200
  · rw [yif hn]
  rw [yif' hn, loop5 l (by omega) (by omega)]
  rcases Classical.em (mid l) with hm | hm
  rotate_left
  · rw [if_neg hm]; rfl
  rw [if_pos hm, loop5b l (by omega) hm, outs_7]
  simp only [Option.bind_some]
  have hp : ∀ x ∈ ([a, b, c] : List Int), I64 x := by
    intro x hx
    simp only [List.mem_cons, List.not_mem_nil, or_false] at hx
    rcases hx with rfl | rfl | rfl <;> assumption
  refine bnd1 (a := (nmA, 8, vi [a, b, c], [])) rfl ?_
  refine bnd1 (a := (.inl () : Unit ⊕ Bool)) ?_ ?_
  · refine bnd1 (s22 nmA 8 [a, b, c] [] hp) ?_
    by_cases hA : okA nmA 8 [a, b, c] []
    · rw [if_pos hA]
      have k := stv_ok hA _ l rfl (by omega) hm.i
      have ls := val_len hA k.1
      have e2 := s21 nmA 8 [a, b, c] [] hp (stv 8 [a, b, c] l) (by omega) k.2.1
      rw [if_pos (chk0.2 ⟨hA, k.1⟩)] at e2
      have e3 : val 8 (stv 8 [a, b, c] l) = l.length := by
        have e : val 8 (stv 8 [a, b, c] l) = tot (stv 8 [a, b, c] l) := by unfold val; rw [if_neg (by omega), if_neg (by omega), if_neg (by omega), if_neg (by omega)]
        rw [e]; exact (n7 hA (by omega) l hm.i (by omega)).2
      rw [e3] at e2
      refine dif1 (by decide) ?_
      refine bnd1 (s19 hA hp l (by omega) hm.i) ?_
      refine bnd1 e2 ?_
      refine dif0 (show ¬ notB' true = true by decide) ?_
      refine dif0 (show ¬ cmpLit .neq 0 0 = true by decide) ?_
      exact dif0 (by rw [c_neq]; simp) rfl
    · rw [if_neg hA]
      exact dif0 (by decide) rfl
  have hA7 := okA_s (fn := 7) (by omega)
  have hA6 := okA_s (fn := 6) (by omega)
  have hne : l ≠ [] := fun h => h0 (by rw [h]; rfl)
  obtain ⟨mi, e3, m1, m2⟩ := n3 l
  obtain ⟨ma, e4, m3, m4⟩ := n4 l
  have sb := sum_b l hm
  have qb := sqs_b l hm
  have o1 : ov l 1 = l.length := by unfold ov; rw [n1]; rfl
  have o2 : ov l 2 = isum l := by unfold ov; rw [n2 l hm (by omega)]; rfl
  have o3 : ov l 3 = mi := by unfold ov; rw [e3]; rfl
  have o4 : ov l 4 = ma := by unfold ov; rw [e4]; rfl
  have o5 : ov l 5 = arReal .quo .i64 (isum l) l.length := by
    unfold ov; rw [n5 l hm (by omega)]
    unfold val; rw [if_neg (by omega), if_neg (by omega), if_pos rfl]
    exact if_neg h0
  have o6 : ov l 6 = dv l.length (isum l) (isum (sqs l)) := by
    unfold ov; rw [n6 l hm (by omega), val_6]
    congr 1
    exact uw_hi ⟨by omega, by omega⟩
  have o7 : ov l 7 = l.length := by
    have e : ov l 7 = tot (stv 7 [] l) := by unfold ov val; rw [if_neg (by omega), if_neg (by omega), if_neg (by omega), if_neg (by omega)]
    rw [e]; exact (n7 hA7 (by omega) l hm.i (by omega)).2
  have hq := tdiv_rng (x := isum l) (n := (l.length : Int)) ⟨by omega, by omega⟩ (by omega)
  have o5' : ov l 5 = (isum l).tdiv l.length := by rw [o5]; exact hq.1
  have mid1 := isum_mid l mi ma m2 m4
  have mid2 := tdiv_mid (show (0 : Int) < l.length by omega) mid1.1 mid1.2
  have d0 : 0 ≤ dv l.length (isum l) (isum (sqs l)) := by
    have := (s108 (nm := nmA) (fn := 6) (p := []) (ks := []) (n := (l.length : Int)) (sum := isum l) (h := hi2 (isum (sqs l))) (l := lo2 (isum (sqs l))) ⟨by omega, by omega⟩ ⟨by omega, by omega⟩).2
    rwa [show Sq (hi2 (isum (sqs l))) (lo2 (isum (sqs l))) = isum (sqs l) from uw_hi ⟨by omega, by omega⟩] at this
  dsimp only
  have n0 : Ne0 (l.length : Int) := h0
  simp only [l7, g70, g71, g72, g73, g74, g75, g76, show Inb 0 7 from ⟨by omega, by omega⟩, show Inb 1 7 from ⟨by omega, by omega⟩, show Inb 2 7 from ⟨by omega, by omega⟩, show Inb 3 7 from ⟨by omega, by omega⟩, show Inb 4 7 from ⟨by omega, by omega⟩, show Inb 5 7 from ⟨by omega, by omega⟩, show Inb 6 7 from ⟨by omega, by omega⟩, n0, ↓reduceIte, c_eql, c_leq, c_geq, o1, o7, o3, o4, o6, o2, decide_true]
  rw [o5', yif mid2.1, yif mid2.2]
  have last : some (decide ((isum l).tdiv (l.length : Int) = arReal .quo .i64 (isum l) (l.length : Int))) = some true := by
    rw [dT]; exact hq.1.symm
  by_cases hz : dv (l.length : Int) (isum l) (isum (sqs l)) = 0
  · rw [yif hz, yif (show dv (l.length : Int) (isum l) (isum (sqs l)) ≥ 0 from d0)]
    exact last
  · rw [yif' hz]
    have hne2 : (l.all fun x => decide (x = l.getD 0 0)) = false := by
      cases hc : (l.all fun x => decide (x = l.getD 0 0)) with
      | false => rfl
      | true =>
        have hall := List.all_eq_true.1 hc
        have hic := isum_const l (l.getD 0 0) (fun x hx => of_decide_eq_true (hall x hx))
        rw [hic.1, hic.2, dv_same (by omega)] at hz
        exact (hz rfl).elim
    rw [hne2]
    refine dif1 (by decide) ?_
    rw [yif (show dv (l.length : Int) (isum l) (isum (sqs l)) ≥ 0 from d0)]
    exact last
end Go.Proofs.Ytmofhbedamjblaa
end
section
namespace Go.Proofs.Ytmofhbedamjblaa
open Go.Ab Go.RowKit
theorem wf_i {n : Int} (h : (Lit.int .i64 n).wf = true) : I64 n := by
  simp [Lit.wf, IntKind.min, IntKind.max, IntKind.signed, IntKind.bits] at h
  exact ⟨by omega, by omega⟩
theorem wf_is {l : List Int} (h : ∀ x ∈ l, (Lit.int .i64 x).wf = true) : ∀ x ∈ l, I64 x := fun x hx => wf_i (h x hx)
theorem len_ok {l : List Int} (h : l.length ≤ maxLen) : l.length ≤ 9223372036854775807 := Nat.le_trans h (by decide)
theorem u8_ok {l : List Int} (h : ∀ x ∈ l, (Lit.int .u8 x).wf = true) (j : Nat) (hj : j < (l.map (fun x : Int => V.i .u8 x)).length) : 0 ≤ gI (l.map (fun x : Int => V.i .u8 x)) (j : Int) 0 ∧ gI (l.map (fun x : Int => V.i .u8 x)) (j : Int) 0 < 256 := by
  rw [gI_nat _ _ hj, List.getElem_map]
  have := h (l[j]'(by simpa using hj)) (List.getElem_mem _)
  simp [Lit.wf, IntKind.min, IntKind.max, IntKind.signed, IntKind.bits] at this
  exact ⟨by show 0 ≤ (l[j]'(by simpa using hj)); omega, by show (l[j]'(by simpa using hj)) < 256; omega⟩
end Go.Proofs.Ytmofhbedamjblaa
end
section
namespace Go.Proofs.Ytmofhbedamjblaa
open Go.Ab Go.RowKit 
set_option maxRecDepth 100000
set_option maxHeartbeats 40000000
noncomputable def w10_c : Code := (Try.f10.body).getD .skip
theorem w10_h : Try.f10.body = some w10_c := by kernel_rfl
theorem w10 (r : Bool) (h : d10 = some r) : Ab.Fn Try.prog TT 10 [] (.b r) [] := by
 refine fn_pure tok W0 Try.func10 (by kernel_rfl) w10_h (by kernel_rfl) ?_
 intro _ _ _ _ _ _ _ _ _ _ _ _ _ _ _ _ _ _ _ _ _ _ _ _ _ _ _ _ _ _ _ _ _ _ _ _ _ _ _ _ _ E R K hK
 have D := E.D
 clear E
 have S := And.intro D.hcmp (D.hnt)
 unfold d10 at h
 cbv
 refine R.callD h (fun x1 hx1 h2 => ?_)
 clear h; have h := h2; clear h2
 refine R.callN (w20 _ _ _ hx1) (by simp only [fitA, fitV, fitS1, fitL, D.hcmp, D.hnt, and_self]) ?_
 clear hx1; cbv
 refine R.callD h (fun x2 hx2 h2 => ?_)
 clear h; have h := h2; clear h2
 refine R.call' (w19 _ _ _ _ _ _ hx2) (by first|(simp only [S]<;>rfl)|rfl) ?_
 clear hx2; cbv
 refine R.callD h (fun x3 hx3 h2 => ?_)
 clear h; have h := h2; clear h2
 refine R.callN (w20 _ _ _ hx3) (by simp only [fitA, fitV, fitS1, fitL, D.hcmp, D.hnt, and_self]) ?_
 clear hx3; cbv
 refine R.callD h (fun x4 hx4 h2 => ?_)
 clear h; have h := h2; clear h2
 refine R.call' (w21 _ _ _ _ _ _ hx4) (by first|(simp only [S]<;>rfl)|rfl) ?_
 clear hx4; cbv
 refine R.callD h (fun x5 hx5 h2 => ?_)
 clear h; have h := h2; clear h2
 refine R.callN (w20 _ _ _ hx5) (by simp only [fitA, fitV, fitS1, fitL, D.hcmp, D.hnt, and_self]) ?_
 clear hx5; cbv
 refine R.callD h (fun x6 hx6 h2 => ?_)
 clear h; have h := h2; clear h2
 refine R.call' (w19 _ _ _ _ _ _ hx6) (by first|(simp only [S]<;>rfl)|rfl) ?_
 clear hx6; cbv
 refine R.callD h (fun x7 hx7 h2 => ?_)
 clear h; have h := h2; clear h2
 refine R.callN (w20 _ _ _ hx7) (by simp only [fitA, fitV, fitS1, fitL, D.hcmp, D.hnt, and_self]) ?_
 clear hx7; cbv
 refine R.callD h (fun x8 hx8 h2 => ?_)
 clear h; have h := h2; clear h2
 refine R.call' (w21 _ _ _ _ _ _ hx8) (by first|(simp only [S]<;>rfl)|rfl) ?_
 clear hx8; cbv
 refine R.cut' (by kernel_rfl) (by kernel_rfl) ?_
 cbv
 refine R.cutB (fun p => p) (fun _ _ e => e) h [] (fun p18 => [(78, .b p18)]) (fun p18 => []) (by kernel_rfl) (by kernel_rfl) (fun y15 hy hFy15 L hLy15 => ?_) (fun p18 h2 => ?_)
 ·clear h; have h := hy; clear hy; cbv
  refine R.brD h (by first|(simp only [S]<;>rfl)|rfl) ?_ ?_<;>clear h<;>intro h<;>cbv
  ·obtain ⟨s', e, hi⟩ := jn_some (fun p => p) h
   refine hLy15 s' _ _ hi ⟨by kernel_rfl, ?_, ?_, by kernel_rfl, by kernel_rfl⟩<;>cbv<;>(try (subst e;simp only [S,and_self,and_true,true_and]<;>(repeat' apply And.intro)<;>rfl))
  ·refine R.brD h (by first|(simp only [S]<;>rfl)|rfl) ?_ ?_<;>clear h<;>intro h<;>cbv
   ·obtain ⟨s', e, hi⟩ := jn_some (fun p => p) h
    refine hLy15 s' _ _ hi ⟨by kernel_rfl, ?_, ?_, by kernel_rfl, by kernel_rfl⟩<;>cbv<;>(try (subst e;simp only [S,and_self,and_true,true_and]<;>(repeat' apply And.intro)<;>rfl))
   ·refine R.brD h (by first|(simp only [S]<;>rfl)|rfl) ?_ ?_<;>clear h<;>intro h<;>cbv
    ·obtain ⟨s', e, hi⟩ := jn_some (fun p => p) h
     refine hLy15 s' _ _ hi ⟨by kernel_rfl, ?_, ?_, by kernel_rfl, by kernel_rfl⟩<;>cbv<;>(try (subst e;simp only [S,and_self,and_true,true_and]<;>(repeat' apply And.intro)<;>rfl))
    ·refine R.brD h (by first|(simp only [S]<;>rfl)|rfl) ?_ ?_<;>clear h<;>intro h<;>cbv
     ·obtain ⟨s', e, hi⟩ := jn_some (fun p => p) h
      refine hLy15 s' _ _ hi ⟨by kernel_rfl, ?_, ?_, by kernel_rfl, by kernel_rfl⟩<;>cbv<;>(try (subst e;simp only [S,and_self,and_true,true_and]<;>(repeat' apply And.intro)<;>rfl))
     ·refine R.callD h (fun x16 hx16 h2 => ?_)
      clear h; have h := h2; clear h2
      refine R.call' (w17 _ _ _ hx16) (by first|(simp only [S]<;>rfl)|rfl) ?_
      clear hx16; cbv
      refine R.brD h (by first|(simp only [S]<;>rfl)|rfl) ?_ ?_<;>clear h<;>intro h<;>cbv
      ·obtain ⟨s', e, hi⟩ := jn_some (fun p => p) h
       refine hLy15 s' _ _ hi ⟨by kernel_rfl, ?_, ?_, by kernel_rfl, by kernel_rfl⟩<;>cbv<;>(try (subst e;simp only [S,and_self,and_true,true_and]<;>(repeat' apply And.intro)<;>rfl))
      ·refine R.brD h (by first|(simp only [S]<;>rfl)|rfl) ?_ ?_<;>clear h<;>intro h<;>cbv
       ·obtain ⟨s', e, hi⟩ := jn_some (fun p => p) h
        refine hLy15 s' _ _ hi ⟨by kernel_rfl, ?_, ?_, by kernel_rfl, by kernel_rfl⟩<;>cbv<;>(try (subst e;simp only [S,and_self,and_true,true_and]<;>(repeat' apply And.intro)<;>rfl))
       ·refine R.callD h (fun x17 hx17 h2 => ?_)
        clear h; have h := h2; clear h2
        refine R.call' (w17 _ _ _ hx17) (by first|(simp only [S]<;>rfl)|rfl) ?_
        clear hx17; cbv
        refine R.brD h (by first|(simp only [S]<;>rfl)|rfl) ?_ ?_<;>clear h<;>intro h<;>cbv
        ·obtain ⟨s', e, hi⟩ := jn_some (fun p => p) h
         refine hLy15 s' _ _ hi ⟨by kernel_rfl, ?_, ?_, by kernel_rfl, by kernel_rfl⟩<;>cbv<;>(try (subst e;simp only [S,and_self,and_true,true_and]<;>(repeat' apply And.intro)<;>rfl))
        ·obtain ⟨s', e, hi⟩ := jn_some (fun p => p) h
         refine hLy15 s' _ _ hi ⟨by kernel_rfl, ?_, ?_, by kernel_rfl, by kernel_rfl⟩<;>cbv<;>(try (subst e;simp only [S,and_self,and_true,true_and]<;>(repeat' apply And.intro)<;>rfl))
 ·as_aux_lemma =>
  clear h; have h := h2; clear h2; try dsimp only at h
  cbv
  refine R.brD h (by first|(simp only [S]<;>rfl)|rfl) ?_ ?_<;>clear h<;>intro h<;>cbv
  ·have e := ret_some h; clear h
   refine hK _ _ ?_
   cbv
   try (subst e; simp only [S, and_self, and_true, true_and] <;> (repeat' apply And.intro) <;> rfl)
  ·as_aux_lemma =>
   refine R.callD h (fun x19 hx19 h2 => ?_)
   clear h; have h := h2; clear h2
   refine R.callN (w20 _ _ _ hx19) (by simp only [fitA, fitV, fitS1, fitL, D.hcmp, D.hnt, and_self]) ?_
   clear hx19; cbv
   refine R.callD h (fun x20 hx20 h2 => ?_)
   clear h; have h := h2; clear h2
   refine R.call' (w11 _ _ _ _ _ _ hx20) (by first|(simp only [S]<;>rfl)|rfl) ?_
   clear hx20; cbv
   refine R.callD h (fun x21 hx21 h2 => ?_)
   clear h; have h := h2; clear h2
   refine R.call' (w20 _ _ _ hx21) (by first|(simp only [S]<;>rfl)|rfl) ?_
   clear hx21; cbv
   refine R.callD h (fun x22 hx22 h2 => ?_)
   clear h; have h := h2; clear h2
   refine R.call' (w11 _ _ _ _ _ _ hx22) (by first|(simp only [S]<;>rfl)|rfl) ?_
   clear hx22; cbv
   refine R.callD h (fun x23 hx23 h2 => ?_)
   clear h; have h := h2; clear h2
   refine R.call' (w20 _ _ _ hx23) (by first|(simp only [S]<;>rfl)|rfl) ?_
   clear hx23; cbv
   refine R.callD h (fun x24 hx24 h2 => ?_)
   clear h; have h := h2; clear h2
   refine R.call' (w11 _ _ _ _ _ _ hx24) (by first|(simp only [S]<;>rfl)|rfl) ?_
   clear hx24; cbv
   refine R.callD h (fun x25 hx25 h2 => ?_)
   clear h; have h := h2; clear h2
   refine R.call' (w20 _ _ _ hx25) (by first|(simp only [S]<;>rfl)|rfl) ?_
   clear hx25; cbv
   refine R.callD h (fun x26 hx26 h2 => ?_)
   clear h; have h := h2; clear h2
   refine R.call' (w12 _ _ _ _ _ _ hx26) (by first|(simp only [S]<;>rfl)|rfl) ?_
   clear hx26; cbv
   refine R.cut' (by kernel_rfl) (by kernel_rfl) ?_
   cbv
   refine R.cutB (fun p => p) (fun _ _ e => e) h [] (fun p30 => [(141, .b p30)]) (fun p30 => []) (by kernel_rfl) (by kernel_rfl) (fun y29 hy hFy29 L hLy29 => ?_) (fun p30 h2 => ?_)
   ·clear h; have h := hy; clear hy; cbv
    refine R.brD h (by first|(simp only [S]<;>rfl)|rfl) ?_ ?_<;>clear h<;>intro h<;>cbv
    ·obtain ⟨s', e, hi⟩ := jn_some (fun p => p) h
     refine hLy29 s' _ _ hi ⟨by kernel_rfl, ?_, ?_, by kernel_rfl, by kernel_rfl⟩<;>cbv<;>(try (subst e;simp only [S,and_self,and_true,true_and]<;>(repeat' apply And.intro)<;>rfl))
    ·refine R.brD h (by first|(simp only [S]<;>rfl)|rfl) ?_ ?_<;>clear h<;>intro h<;>cbv
     ·obtain ⟨s', e, hi⟩ := jn_some (fun p => p) h
      refine hLy29 s' _ _ hi ⟨by kernel_rfl, ?_, ?_, by kernel_rfl, by kernel_rfl⟩<;>cbv<;>(try (subst e;simp only [S,and_self,and_true,true_and]<;>(repeat' apply And.intro)<;>rfl))
     ·refine R.brD h (by first|(simp only [S]<;>rfl)|rfl) ?_ ?_<;>clear h<;>intro h<;>cbv
      ·obtain ⟨s', e, hi⟩ := jn_some (fun p => p) h
       refine hLy29 s' _ _ hi ⟨by kernel_rfl, ?_, ?_, by kernel_rfl, by kernel_rfl⟩<;>cbv<;>(try (subst e;simp only [S,and_self,and_true,true_and]<;>(repeat' apply And.intro)<;>rfl))
      ·refine R.brD h (by first|(simp only [S]<;>rfl)|rfl) ?_ ?_<;>clear h<;>intro h<;>cbv
       ·obtain ⟨s', e, hi⟩ := jn_some (fun p => p) h
        refine hLy29 s' _ _ hi ⟨by kernel_rfl, ?_, ?_, by kernel_rfl, by kernel_rfl⟩<;>cbv<;>(try (subst e;simp only [S,and_self,and_true,true_and]<;>(repeat' apply And.intro)<;>rfl))
       ·refine R.brD h (by first|(simp only [S]<;>rfl)|rfl) ?_ ?_<;>clear h<;>intro h<;>cbv
        ·obtain ⟨s', e, hi⟩ := jn_some (fun p => p) h
         refine hLy29 s' _ _ hi ⟨by kernel_rfl, ?_, ?_, by kernel_rfl, by kernel_rfl⟩<;>cbv<;>(try (subst e;simp only [S,and_self,and_true,true_and]<;>(repeat' apply And.intro)<;>rfl))
        ·refine R.brD h (by first|(simp only [S]<;>rfl)|rfl) ?_ ?_<;>clear h<;>intro h<;>cbv
         ·obtain ⟨s', e, hi⟩ := jn_some (fun p => p) h
          refine hLy29 s' _ _ hi ⟨by kernel_rfl, ?_, ?_, by kernel_rfl, by kernel_rfl⟩<;>cbv<;>(try (subst e;simp only [S,and_self,and_true,true_and]<;>(repeat' apply And.intro)<;>rfl))
         ·refine R.brD h (by first|(simp only [S]<;>rfl)|rfl) ?_ ?_<;>clear h<;>intro h<;>cbv
          ·obtain ⟨s', e, hi⟩ := jn_some (fun p => p) h
           refine hLy29 s' _ _ hi ⟨by kernel_rfl, ?_, ?_, by kernel_rfl, by kernel_rfl⟩<;>cbv<;>(try (subst e;simp only [S,and_self,and_true,true_and]<;>(repeat' apply And.intro)<;>rfl))
          ·refine R.brD h (by first|(simp only [S]<;>rfl)|rfl) ?_ ?_<;>clear h<;>intro h<;>cbv
           ·obtain ⟨s', e, hi⟩ := jn_some (fun p => p) h
            refine hLy29 s' _ _ hi ⟨by kernel_rfl, ?_, ?_, by kernel_rfl, by kernel_rfl⟩<;>cbv<;>(try (subst e;simp only [S,and_self,and_true,true_and]<;>(repeat' apply And.intro)<;>rfl))
           ·refine R.brD h (by first|(simp only [S]<;>rfl)|rfl) ?_ ?_<;>clear h<;>intro h<;>cbv
            ·obtain ⟨s', e, hi⟩ := jn_some (fun p => p) h
             refine hLy29 s' _ _ hi ⟨by kernel_rfl, ?_, ?_, by kernel_rfl, by kernel_rfl⟩<;>cbv<;>(try (subst e;simp only [S,and_self,and_true,true_and]<;>(repeat' apply And.intro)<;>rfl))
            ·obtain ⟨s', e, hi⟩ := jn_some (fun p => p) h
             refine hLy29 s' _ _ hi ⟨by kernel_rfl, ?_, ?_, by kernel_rfl, by kernel_rfl⟩<;>cbv<;>(try (subst e;simp only [S,and_self,and_true,true_and]<;>(repeat' apply And.intro)<;>rfl))
   ·clear h; have h := h2; clear h2; try dsimp only at h
    cbv
    refine R.brD h (by first|(simp only [S]<;>rfl)|rfl) ?_ ?_<;>clear h<;>intro h<;>cbv
    ·have e := ret_some h; clear h
     refine hK _ _ ?_
     cbv
     try (subst e; simp only [S, and_self, and_true, true_and] <;> (repeat' apply And.intro) <;> rfl)
    ·refine R.callD h (fun x31 hx31 h2 => ?_)
     clear h; have h := h2; clear h2
     refine R.callN (w20 _ _ _ hx31) (by simp only [fitA, fitV, fitS1, fitL, D.hcmp, D.hnt, and_self]) ?_
     clear hx31; cbv
     refine R.callD h (fun x32 hx32 h2 => ?_)
     clear h; have h := h2; clear h2
     refine R.call' (w13s _ _ _ _ _ _ _ hx32) (by first|(simp only [S]<;>rfl)|rfl) ?_
     clear hx32; cbv
     refine R.cut' (by kernel_rfl) (by kernel_rfl) ?_
     cbv
     refine R.brD h (by first|(simp only [S]<;>rfl)|rfl) ?_ ?_<;>clear h<;>intro h<;>cbv
     ·refine R.callD h (fun x34 hx34 h2 => ?_)
      clear h; have h := h2; clear h2
      refine R.call' (w17 _ _ _ hx34) (by first|(simp only [S]<;>rfl)|rfl) ?_
      clear hx34; cbv
      have e := ret_some h; clear h
      refine hK _ _ ?_
      cbv
      try (subst e; simp only [S, and_self, and_true, true_and] <;> (repeat' apply And.intro) <;> rfl)
     ·have e := ret_some h; clear h
      refine hK _ _ ?_
      cbv
      try (subst e; simp only [S, and_self, and_true, true_and] <;> (repeat' apply And.intro) <;> rfl)
end Go.Proofs.Ytmofhbedamjblaa
end
section
namespace Go.Proofs.Ytmofhbedamjblaa
open Go.Ab Go.RowKit 
set_option maxRecDepth 100000
set_option maxHeartbeats 40000000
end Go.Proofs.Ytmofhbedamjblaa
end
section
namespace Go.Proofs.Ytmofhbedamjblaa
open Go.Ab Go.RowKit 
set_option maxRecDepth 100000
set_option maxHeartbeats 40000000
end Go.Proofs.Ytmofhbedamjblaa
end
section
namespace Go.Ab
open Go.RowKit Go.ChangeShapes Go.WideShapes Go.ChangeAt Go.Deep
section
variable {H : Type} {enc : TypeId × Value → H} {P : Program} {T : Tr} {w : World}
theorem OpV.arr2 (htok : TyOk P T) {α : Type} {t e : Nat} {te : TE} {mk : α → List V} {ok : α → Prop} (ht : T.look t = some te) (hd : te.desc = .array 2 e) (hct : P.cellsOf t = 2) (hce : P.cellsOf e = 1) (ho : OpV T enc P w e [e] mk ok) :
    OpV T enc P w t [e, e] (fun x : α × α => mk x.1 ++ mk x.2) (fun x => ok x.1 ∧ ok x.2) := by
  intro fuel cs x h
  have hu := htok.und _ _ ht
  rw [hd] at hu
  cases fuel with
  | zero => simp [DataW.trod] at h
  | succ n =>
    unfold DataW.trod at h
    rw [hu] at h
    have r2 : List.range 2 = [0, 1] := rfl
    simp [r2, hce, hct] at h
    obtain ⟨hl, h⟩ := h
    match cs, hl with
    | [c0, c1], _ =>
      simp at h
      cases h0 : DataW.trod enc P w 0 (fun _ => true) true n e [c0] with
      | none => simp [h0] at h
      | some y0 =>
        cases h1 : DataW.trod enc P w 0 (fun _ => true) true n e [c1] with
        | none => simp [h0, h1] at h
        | some y1 =>
          obtain ⟨a, a1, a2, a3, a4⟩ := ho _ _ _ h0
          obtain ⟨b, b1, b2, b3, b4⟩ := ho _ _ _ h1
          refine ⟨(a, b), relL_app a1 b1, fun u hu => ?_, wtC_append a3 b3, a4, b4⟩
          rcases List.mem_cons.1 hu with rfl | hu
          · exact a2 _ (by simp)
          · exact b2 _ hu
theorem OpV.arr3 (htok : TyOk P T) {α : Type} {t e : Nat} {te : TE} {mk : α → List V} {ok : α → Prop} (ht : T.look t = some te) (hd : te.desc = .array 3 e) (hct : P.cellsOf t = 3) (hce : P.cellsOf e = 1) (ho : OpV T enc P w e [e] mk ok) :
    OpV T enc P w t [e, e, e] (fun x : α × (α × α) => mk x.1 ++ (mk x.2.1 ++ mk x.2.2)) (fun x => ok x.1 ∧ (ok x.2.1 ∧ ok x.2.2)) := by
  intro fuel cs x h
  have hu := htok.und _ _ ht
  rw [hd] at hu
  cases fuel with
  | zero => simp [DataW.trod] at h
  | succ n =>
    unfold DataW.trod at h
    rw [hu] at h
    have r3 : List.range 3 = [0, 1, 2] := rfl
    simp [r3, hce, hct] at h
    obtain ⟨hl, h⟩ := h
    match cs, hl with
    | [c0, c1, c2], _ =>
      simp at h
      cases h0 : DataW.trod enc P w 0 (fun _ => true) true n e [c0] with
      | none => simp [h0] at h
      | some y0 =>
        cases h1 : DataW.trod enc P w 0 (fun _ => true) true n e [c1] with
        | none => simp [h0, h1] at h
        | some y1 =>
          cases h2 : DataW.trod enc P w 0 (fun _ => true) true n e [c2] with
          | none => simp [h0, h1, h2] at h
          | some y2 =>
            obtain ⟨a, a1, a2, a3, a4⟩ := ho _ _ _ h0
            obtain ⟨b, b1, b2, b3, b4⟩ := ho _ _ _ h1
            obtain ⟨c, c1', c2', c3, c4⟩ := ho _ _ _ h2
            refine ⟨(a, b, c), relL_app a1 (relL_app b1 c1'), fun u hu => ?_, wtC_append a3 (wtC_append b3 c3), a4, b4, c4⟩
            rcases List.mem_cons.1 hu with rfl | hu
            · exact a2 _ (by simp)
            · rcases List.mem_cons.1 hu with rfl | hu
              · exact b2 _ (by simp)
              · exact c2' _ hu
theorem okWide_arr {n e : Nat} {t : TypeId} {v : Value} {r : Reach} {base : Nat} (ht : P.underlying t = some (.array n e)) (h : Value.okWide P w r base t v) : ∃ cs, v = .agg cs ∧ cs.size = P.cellsOf t := by
  simp only [Value.okWide, ht] at h
  obtain ⟨cs, h1, h2, _⟩ := h
  exact ⟨cs, h1, h2⟩
end
end Go.Ab
end
section
namespace Go.Proofs.Ytmofhbedamjblaa
open Go.Ab Go.RowKit 
set_option maxRecDepth 100000
set_option maxHeartbeats 40000000
end Go.Proofs.Ytmofhbedamjblaa
end
section
namespace Go.Proofs.Ytmofhbedamjblaa
open Go.Ab Go.RowKit 
set_option maxRecDepth 100000
set_option maxHeartbeats 40000000
end Go.Proofs.Ytmofhbedamjblaa
end
section
namespace Go.Proofs.Ytmofhbedamjblaa
open Go.Ab Go.RowKit 
set_option maxRecDepth 100000
set_option maxHeartbeats 40000000
end Go.Proofs.Ytmofhbedamjblaa
end
