/- Texts of this seat, merged in build order. No statement of its own. -/
import Derived.Maps.Own
import Derived.Control
import Derived.Test.YtjcabmhnekcbgaaC2
set_option linter.unusedVariables false
set_option linter.unusedSimpArgs false
section
/- Each operation does what the calculus says: clear, x[lo:hi:max], a place in an array. No statement of its own. -/

namespace Go.Ab
open Go.RowKit

section
variable {P : Program} {T : Tr} {w0 : Base} {φ φ' : Nat → Option Loc} {w w' : World} {S S' : Nat → Prop} {v : V} {x : Value} {hp : Hp} {b0 : Nat → Prop}

theorem rowWrite (hs : Since w0 w) (hh : HOk T φ w0.Z w S hp) {n u : Nat} {eu : TE} {es xs : List V} {lo B room : Nat} {arr : Array Value} {news : List Value} (heu : T.look u = some eu) (hpos : 0 < eu.size) (hl : look hp n = some (.row u es)) (hφ : φ n = some (.rw B 0 es.length room eu.size)) (hB : w.heap[B]? = some (.cells arr u (0, 0))) (hroom : arr.size = room) (hfit : es.length * eu.size ≤ room) (hrow : inRow T φ w S arr 0 eu.size es) (hwt : wtL T u es)
    (hxw : wtL T u xs) (hin : inRow T φ w S news.toArray 0 eu.size xs) (hnl : news.length = xs.length * eu.size) (hlo : lo + xs.length ≤ es.length) :
    LeftS T w0 φ S hp w [(n, .row u (es.take lo ++ xs ++ es.drop (lo + xs.length)))] (w.setRow B (arr.toList.take (lo * eu.size) ++ news ++ arr.toList.drop (lo * eu.size + news.length)).toArray) := by
  have hfc : lo * eu.size + news.length ≤ arr.size := by
    rw [hnl, ← Nat.add_mul, hroom]
    exact Nat.le_trans (Nat.mul_le_mul_right _ hlo) hfit
  have o3 := (hh.own n _ _ B hl rfl hφ rfl).2.2
  have hkeep : ∀ k, S k → (w.setRow B (arr.toList.take (lo * eu.size) ++ news ++ arr.toList.drop (lo * eu.size + news.length)).toArray).heap[k]? = w.heap[k]? := fun k hk => setRow_other w B k _ (fun e => o3 (e ▸ hk))
  have hlen : (es.take lo ++ xs ++ es.drop (lo + xs.length)).length = es.length := by
    simp only [List.length_append, List.length_take, List.length_drop]
    omega
  refine ⟨φ, S, Ext.write hs hh hl rfl rfl hφ rfl ⟨?_, eu, heu, hpos, .inl ⟨B, 0, room, _, by rw [hlen]; exact hφ, setRow_heap w B arr _ u (0, 0) hB, rfl, ?_, by rw [hlen, Nat.zero_add]; exact hfit, ?_⟩⟩⟩
  · refine wtL_iff.2 (fun e he => ?_)
    simp only [List.mem_append] at he
    rcases he with (he | he) | he
    · exact wtL_iff.1 hwt e (List.mem_of_mem_take he)
    · exact wtL_iff.1 hxw e he
    · exact wtL_iff.1 hwt e (List.mem_of_mem_drop he)
  · simp only [List.size_toArray, List.length_append, List.length_take, List.length_drop, Array.length_toList] at hfc ⊢
    omega
  · exact inRow_mono (LocLe.refl _) hkeep (fun _ h => h) (inRow_over (n := 0) hrow (by omega) hin hnl hlo)

/-! ### a slice held against nil -/
theorem run_nil {op : BinOp} {t u : TypeId} {xo yo : Operand} (ht : P.underlying t = some (.slice u)) {A : Option Addr} {len cap : Nat} (ho : op = .eql ∨ op = .neq) :
    (do eqGuard op t xo yo (.slice A len cap) (.slice none 0 0); binOp op t (.slice A len cap) (.slice none 0 0) : Sem Value).run P w = .ok (.bool (match op with | .eql => A.isNone | _ => !A.isNone)) w := by
  have hg := eqGuard_plain (P := P) (w := w) (op := op) (t := t) (xo := xo) (yo := yo) (x := .slice A len cap) (y := .slice none 0 0) (fun cs h => by cases h) (by intro h; cases h)
  have he : (Op.equal t (.slice A len cap) (.slice none 0 0)).run P w = .ok A.isNone w := by
    obtain ⟨d, hd⟩ : ∃ d, Op.maxDepth = d + 1 := ⟨Op.maxDepth - 1, by decide⟩
    rw [Op.equal, hd]
    cases A <;> simp [Op.equalIn, run_underlying ht]
  rcases ho with rfl | rfl <;> simp [hg, binOp, he, Result.andThen]

theorem nilF_ok (htok : TyOk P T) {op : BinOp} {t : TypeId} {xo yo : Operand} {vx : V} {x : Value} {v E} (h : Res P T (nilF (real P T w0) T op t vx) v E) (hx : rel T φ w S vx x) :
    Gives P T φ w S (do eqGuard op t xo yo x (.slice none 0 0); binOp op t x (.slice none 0 0)) v E := by
  unfold nilF at h
  split at h
  · rename_i e he
    have ht := htok.und _ _ he
    split at h
    · rename_i u hd
      rw [hd] at ht
      split at h
      · split at h
        · obtain ⟨rfl, rfl⟩ := res_ok h
          simp only [rel] at hx
          subst hx
          exact ⟨rfl, _, run_nil ht (.inl rfl), rel_sb _⟩
        · obtain ⟨rfl, rfl⟩ := res_ok h
          simp only [rel] at hx
          obtain ⟨A, cap, rfl, h1, h2, h3, h4⟩ := hx
          refine ⟨rfl, _, run_nil ht (.inl rfl), ?_⟩
          simp only [rel]
          refine ⟨_, rfl, fun hb => ?_⟩
          rename_i es
          by_cases hne : es = []
          · exact hne
          · obtain ⟨ad, e', hA, _⟩ := h4 hne
            rw [hA] at hb; cases hb
        · exact (res_fail h).elim
      · split at h
        · obtain ⟨rfl, rfl⟩ := res_ok h
          simp only [rel] at hx
          subst hx
          exact ⟨rfl, _, run_nil ht (.inr rfl), rel_sb _⟩
        · obtain ⟨rfl, rfl⟩ := res_ok h
          simp only [rel] at hx
          obtain ⟨A, cap, rfl, h1, h2, h3, h4⟩ := hx
          refine ⟨rfl, _, run_nil ht (.inr rfl), ?_⟩
          simp only [rel]
          refine ⟨_, rfl, fun hb => ?_⟩
          rename_i es
          by_cases hne : es = []
          · exact hne
          · obtain ⟨ad, e', hA, _⟩ := h4 hne
            rw [hA] at hb; cases hb
        · exact (res_fail h).elim
      · exact (res_fail h).elim
    · exact (res_fail h).elim
  · exact (res_fail h).elim

/-! ### clear -/
theorem run_clear {t ty e : TypeId} {i : TypeInfo} {z : Value} (ht : P.underlying t = some (.slice e)) (hi : P.info? e = some i) (hz : i.zero = some z) {g off n cap : Nat} {cur : Array Value} (hn : n ≠ 0) (hg : w.heap[g]? = some (.cells cur e (0, 0))) (h1 : ∀ u ∈ (Builtin.zeroCells z.cells n).toList, u.oneCell' = true) (hfit : off + (Builtin.zeroCells z.cells n).toList.length ≤ cur.size) :
    (Builtin.clear_ #[t] ty #[.slice (some ⟨g, off, none⟩) n cap]).run P w = .ok (.tuple #[]) (w.setRow g (cur.toList.take off ++ (Builtin.zeroCells z.cells n).toList ++ cur.toList.drop (off + (Builtin.zeroCells z.cells n).toList.length)).toArray) := by
  have hst := run_storeCells_at P g off e (Builtin.zeroCells z.cells n).toList 0 cur w hg (by simpa using hfit) h1
  simp only [Nat.add_zero] at hst
  obtain ⟨n, rfl⟩ := Nat.exists_eq_succ_of_ne_zero hn
  simp [Builtin.clear_, run_underlying ht, zeroValue, typeInfo, hi, hz, hst]

theorem run_clear_none {t ty e : TypeId} (ht : P.underlying t = some (.slice e)) {A : Option Addr} {cap : Nat} :
    (Builtin.clear_ #[t] ty #[.slice A 0 cap]).run P w = .ok (.tuple #[]) w := by
  cases A <;> simp [Builtin.clear_, run_underlying ht]

theorem clearF_ok (htok : TyOk P T) (hs : Since w0 w) (hh : HOk T φ w0.Z w S hp) {t ty : Nat} {vd : V} {yd : Value} {v : V} {E : Hp} (h : Res P T (clearF (real P T w0) T hp t vd) v E)
    (hrd : rel T φ w S vd yd) : ∃ xv w', (Builtin.clear_ #[t] ty #[yd]).run P w = .ok xv w' ∧ Left T w0 φ S hp w v E xv w' := by
  unfold clearF at h
  split at h
  · rename_i u eu hel
    obtain ⟨et, het, hd, heu⟩ := elemT_of hel
    have ht := htok.und _ _ het
    rw [hd] at ht
    obtain ⟨i, hi, hsz, hby, hzz⟩ := htok.info _ _ heu
    split at h
    · rename_i hok
      simp only [Bool.and_eq_true] at hok
      obtain ⟨⟨hck, hzk⟩, hp0⟩ := hok
      have hpos : 0 < eu.size := by simp [Nat.blt] at hp0; omega
      have hzs : eu.zero.cells.size = eu.size := by simpa [zok] using hzk
      have hmade : ∀ n, (Builtin.zeroCells eu.zero.cells n) = madeCells eu.zero.cells (n * eu.size) := fun n => by rw [← hzs]; rfl
      have hwt : ∀ n, wtL T u (List.replicate n (zeroT T u eu)) := fun n => wtL_iff.2 (fun e he => by rw [(List.mem_replicate.1 he).2]; exact chk_wt (x := eu.zero) (φ := φ) (w := w) (S := S) hck (zeroT_rel u eu))
      have h1 : ∀ n, ∀ q ∈ (Builtin.zeroCells eu.zero.cells n).toList, q.oneCell' = true := fun n q hq => by
        have hz1 := (stor_cells (chk_stor hck) (zeroT_rel (T := T) (φ := φ) (w := w) (S := S) u eu)).2
        rw [Builtin.zeroCells] at hq
        simp only [Array.toList_map, List.mem_map] at hq
        obtain ⟨j, hj, rfl⟩ := hq
        have hlt : j % eu.zero.cells.size < eu.zero.cells.size := Nat.mod_lt _ (by omega)
        rw [getElem!_pos eu.zero.cells (j % eu.zero.cells.size) hlt]
        exact hz1 _ (Array.getElem_mem_toList hlt)
      -- the row is written
      have main : ∀ (n : Nat) (es : List V) (lo dl cap B room : Nat) (arr : Array Value), look hp n = some (.row u es) → φ n = some (.rw B 0 es.length room eu.size) → w.heap[B]? = some (.cells arr u (0, 0)) → arr.size = room → es.length * eu.size ≤ room → inRow T φ w S arr 0 eu.size es → wtL T u es → lo + dl ≤ es.length → dl ≠ 0 →
          yd = .slice (some ⟨B, lo * eu.size, none⟩) dl cap →
          ∃ xv w', (Builtin.clear_ #[t] ty #[yd]).run P w = .ok xv w' ∧ LeftS T w0 φ S hp w [(n, .row u (es.take lo ++ List.replicate dl (zeroT T u eu) ++ es.drop (lo + (List.replicate dl (zeroT T u eu)).length)))] w' := by
        intro n es lo dl cap B room arr hl hφ hB hroom hfit hrow hw hlo hdl hyd
        subst hyd
        have hnl : (Builtin.zeroCells eu.zero.cells dl).toList.length = (List.replicate dl (zeroT T u eu)).length * eu.size := by
          rw [Array.length_toList, size_zeroCells, hzs, List.length_replicate]
        have hin : inRow T φ w S (Builtin.zeroCells eu.zero.cells dl).toList.toArray 0 eu.size (List.replicate dl (zeroT T u eu)) := by
          rw [Array.toArray_toList, hmade]
          exact made_row hzs hpos (chk_stor hck)
        have hfc : lo * eu.size + (Builtin.zeroCells eu.zero.cells dl).toList.length ≤ arr.size := by
          rw [hnl, ← Nat.add_mul, hroom, List.length_replicate]
          exact Nat.le_trans (Nat.mul_le_mul_right _ hlo) hfit
        exact ⟨_, _, run_clear (off := lo * eu.size) (cap := cap) ht hi hzz hdl hB (h1 dl) hfc, rowWrite hs hh heu hpos hl hφ hB hroom hfit hrow hw (hwt dl) hin hnl (by rw [List.length_replicate]; exact hlo)⟩
      have same : ∀ {n : Nat} {es : List V}, look hp n = some (.row u es) → LeftS T w0 φ S hp w [(n, .row u es)] w := fun {n es} hl => ⟨φ, S, LocLe.refl _, SLe.refl, fun _ _ => rfl, hs, hh.perm (fun k => by
        show look hp k = look ((n, Blk.row u es) :: hp) k
        rw [look_cons]
        split
        · rename_i e; subst e; exact hl
        · rfl)⟩
      have dead : ∀ {E w'} {xv : Value}, LeftS T w0 φ S hp w E w' → Left T w0 φ S hp w .dead E xv w' := fun {E w' xv} ⟨φ', S', h⟩ => ⟨φ', S', h, by simp only [rel]⟩
      split at h
      · obtain ⟨rfl, rfl⟩ := res_ok h
        simp only [rel] at hrd
        subst hrd
        exact ⟨_, w, run_clear_none ht, φ, S, Ext.refl hs hh, by simp only [rel]⟩
      · rename_i n
        split at h
        · rename_i u2 es hl
          split at h
          · rename_i hu
            obtain rfl : u = u2 := by simpa using hu
            obtain ⟨rfl, rfl⟩ := res_ok h
            obtain ⟨hw, e', he', hz', hb⟩ := hh.blk _ _ hl
            rw [heu] at he'; injection he' with he'; subst he'
            simp only [rel] at hrd
            have hov : (real P T w0).ovl es 0 ((real P T w0).rep ((real P T w0).len es) (zeroT T u eu)) = es.take 0 ++ List.replicate es.length (zeroT T u eu) ++ es.drop (0 + (List.replicate es.length (zeroT T u eu)).length) := by
              simp [real, ovlReal]
            by_cases h0 : es = []
            · subst h0
              have e2 : (real P T w0).ovl [] 0 ((real P T w0).rep ((real P T w0).len []) (zeroT T u eu)) = [] := by simp [real, ovlReal]
              rw [e2]
              rcases hrd with ⟨B', off', len', room', sz', cap, k1, k2, k3, k4, k5⟩ | ⟨k1, A, k2⟩
              · rcases hb with ⟨B, off, room, arr, g1, g2, g3, g4, g5, g6⟩ | ⟨g1, g2⟩
                · rw [g1] at k1; injection k1 with k1; injection k1 with a1 a2 a3 a4 a5; subst a3; subst k2
                  exact ⟨_, w, run_clear_none ht, dead (same hl)⟩
                · rw [g1] at k1; cases k1
              · subst k2
                exact ⟨_, w, run_clear_none ht, dead (same hl)⟩
            · rcases hb with ⟨B, off, room, arr, g1, g2, g3, g4, g5, g6⟩ | ⟨g1, g2⟩
              · rcases hrd with ⟨B', off', len', room', sz', cap, k1, k2, k3, k4, k5⟩ | ⟨k1, _⟩
                · rw [g1] at k1; injection k1 with k1; injection k1 with a1 a2 a3 a4 a5; subst a1; subst a2; subst a3; subst a4; subst a5; subst g3
                  obtain ⟨xv, w', m1, m2⟩ := main n es 0 es.length cap B room arr hl g1 g2 g4 (by omega) g6 hw (by omega) (fun e => h0 (List.eq_nil_of_length_eq_zero e)) (by rw [k2]; simp)
                  exact ⟨xv, w', m1, by rw [hov]; exact dead m2⟩
                · rw [g1] at k1; cases k1
              · exact absurd g2 h0
          · exact (res_fail h).elim
        · exact (res_fail h).elim
      · rename_i n lo ln
        split at h
        · rename_i u2 es hl
          split at h
          · rename_i hu
            obtain rfl : u = u2 := by simpa using hu
            obtain ⟨rfl, rfl⟩ := res_ok h
            obtain ⟨hw, e', he', hz', hb⟩ := hh.blk _ _ hl
            rw [heu] at he'; injection he' with he'; subst he'
            simp only [rel] at hrd
            rcases hrd with ⟨B', off', len', room', sz', cap, A, k1, k2, k3, k4, k5, k6, k7, k8, k9⟩ | ⟨k1, ⟨A, k2⟩, k3, k4⟩
            · rcases hb with ⟨B, off, room, arr, g1, g2, g3, g4, g5, g6⟩ | ⟨g1, g2⟩
              · rw [g1] at k1; injection k1 with k1; injection k1 with a1 a2 a3 a4 a5; subst a1; subst a2; subst a3; subst a4; subst a5; subst g3
                have hov : (real P T w0).ovl es lo ((real P T w0).rep ln (zeroT T u eu)) = es.take lo.toNat ++ List.replicate ln.toNat (zeroT T u eu) ++ es.drop (lo.toNat + (List.replicate ln.toNat (zeroT T u eu)).length) := by
                  simp only [real, ovlReal]
                  rw [List.take_of_length_le (l := List.replicate ln.toNat (zeroT T u eu)) (by rw [List.length_replicate]; omega)]
                by_cases h0 : ln.toNat = 0
                · rw [hov, h0]
                  simp only [List.replicate_zero, List.append_nil, List.length_nil, Nat.add_zero, List.take_append_drop]
                  subst k2
                  rw [h0]
                  exact ⟨_, w, run_clear_none ht, dead (same hl)⟩
                · obtain ⟨xv, w', m1, m2⟩ := main n es lo.toNat ln.toNat cap B room arr hl g1 g2 g4 (by omega) g6 hw (by omega) h0 (by rw [k2, k9 (by omega)]; simp)
                  exact ⟨xv, w', m1, by rw [hov]; exact dead m2⟩
              · rw [g1] at k1; cases k1
            · rcases hb with ⟨B, off, room, arr, g1, g2, g3, g4, g5, g6⟩ | ⟨g1, g2⟩
              · rw [g1] at k1; cases k1
              · subst g2; subst k2; subst k3; subst k4
                have e2 : (real P T w0).ovl [] 0 ((real P T w0).rep 0 (zeroT T u eu)) = [] := by simp [real, ovlReal]
                rw [e2]
                exact ⟨_, w, run_clear_none ht, dead (same hl)⟩
          · exact (res_fail h).elim
        · exact (res_fail h).elim
      · exact (res_fail h).elim
    · exact (res_fail h).elim
  · exact (res_fail h).elim

/-! ### append(s, make([]T, n)...) -/
theorem wrap_room {n : Int} (h0 : 0 ≤ n) (h1 : n ≤ 140737488355328) : IntKind.i64.wrap n = n := by
  simp [IntKind.wrap, IntKind.bits, IntKind.signed]
  omega

theorem run_appz_none {A : Option Addr} {t t2 ty e : TypeId} {k2 k : IntKind} {i : TypeInfo} (ht : P.underlying t = some (.slice e)) (ht2 : P.underlying t2 = some (.int k2)) (hi : P.info? e = some i) :
    (Builtin.append_ #[t, t2] ty #[.slice A 0 0, .int k 0]).run P w = .ok (.slice A 0 0) w := by
  have h0 : IntKind.i64.wrap 0 = 0 := by decide
  cases A <;> simp [Builtin.append_, run_underlying ht, run_underlying ht2, sizeOf, typeInfo, hi, Go.asInt, asIntOf, h0, storeCells]

theorem run_appz_room {t t2 ty e : TypeId} {k2 k : IntKind} {i : TypeInfo} {z : Value} (ht : P.underlying t = some (.slice e)) (ht2 : P.underlying t2 = some (.int k2)) (hi : P.info? e = some i) (hz : i.zero = some z) {n g sLen sCap : Nat} {cur : Array Value} (hb : (n : Int) ≤ 140737488355328) (hby : (n : Int) * i.bytes ≤ 281474976710656) (hzs : z.cells.size = i.size) (hpos : 0 < i.size)
    (hg : w.heap[g]? = some (.cells cur e (0, 0))) (h1 : ∀ u ∈ (Builtin.zeroCells z.cells n).toList, u.oneCell' = true) (hroom : sLen + n ≤ sCap) (hfit : sLen * i.size + (Builtin.zeroCells z.cells n).toList.length ≤ cur.size) :
    (Builtin.append_ #[t, t2] ty #[.slice (some ⟨g, 0, none⟩) sLen sCap, .int k n]).run P w = .ok (.slice (some ⟨g, 0, none⟩) (sLen + n) sCap) (w.setRow g (cur.toList.take (sLen * i.size) ++ (Builtin.zeroCells z.cells n).toList ++ cur.toList.drop (sLen * i.size + (Builtin.zeroCells z.cells n).toList.length)).toArray) := by
  have hst := run_storeCells_at P g (sLen * i.size) e (Builtin.zeroCells z.cells n).toList 0 cur w hg (by simpa using hfit) h1
  simp only [Nat.add_zero] at hst
  have hw := wrap_room (n := (n : Int)) (by omega) hb
  have hby' : ¬ (281474976710656 < (n : Int) * i.bytes) := by omega
  have hn0 : ¬ ((n : Int) < 0) := by omega
  by_cases h0 : n = 0
  · subst h0
    have e0 : Builtin.zeroCells z.cells 0 = #[] := Array.eq_empty_of_size_eq_zero (by rw [size_zeroCells]; simp)
    have hroom : sLen ≤ sCap := by omega
    rw [e0] at hst
    simp only [Array.toList_empty, List.append_nil, List.length_nil, Nat.add_zero, List.take_append_drop] at hst
    simp [Builtin.append_, run_underlying ht, run_underlying ht2, sizeOf, typeInfo, hi, Go.asInt, asIntOf, show IntKind.i64.wrap 0 = 0 from by decide, hroom, add_at0, e0, hst]
  · have hne : ¬ (n * i.size = 0) := by have := Nat.mul_pos (Nat.pos_of_ne_zero h0) hpos; omega
    have hne' : ¬ (n = 0 ∨ i.size = 0) := by omega
    simp [Builtin.append_, run_underlying ht, run_underlying ht2, sizeOf, typeInfo, zeroValue, hi, hz, Go.asInt, asIntOf, hw, hn0, hby', hroom, hne', hne, add_at0, hst]

theorem run_appz_grow {t t2 ty e : TypeId} {k2 k : IntKind} {i : TypeInfo} {z : Value} (ht : P.underlying t = some (.slice e)) (ht2 : P.underlying t2 = some (.int k2)) (hi : P.info? e = some i) (hz : i.zero = some z) {n sLen sCap : Nat} {base : Option Addr} {olds : List Value} (hb : (n : Int) ≤ 140737488355328) (hby : (n : Int) * i.bytes ≤ 281474976710656) (hzs : z.cells.size = i.size) (hpos : 0 < i.size)
    (ho : (Builtin.firstCells i.size sLen (.slice base sLen sCap)).run P w.drew = .ok olds.toArray w.drew) (hg : sCap < sLen + n) (h63 : ((sLen + n : Nat) : Int) ≤ 9223372036854775807) (hfit : Builtin.nextslicecap (sLen + n) sCap * i.bytes ≤ 281474976710656) :
    (Builtin.append_ #[t, t2] ty #[.slice base sLen sCap, .int k n]).run P w = .ok (.slice (some ⟨w.heap.size, 0, none⟩) (sLen + n) (grownCap w (sLen + n) sCap e))
        (w.drew.alloc (.cells (olds ++ (Builtin.zeroCells z.cells n).toList ++ (Builtin.zeroCells z.cells (grownCap w (sLen + n) sCap e - (sLen + n))).toList).toArray e)) := by
  have hw := wrap_room (n := (n : Int)) (by omega) hb
  have hby' : ¬ (281474976710656 < (n : Int) * i.bytes) := by omega
  have hn0 : ¬ ((n : Int) < 0) := by omega
  have hn : ¬ (sLen + n ≤ sCap) := by omega
  have h63' : ¬ (9223372036854775807 < ((sLen : Int) + (n : Int))) := by omega
  have h48' : ¬ (281474976710656 < Builtin.nextslicecap (sLen + n) sCap * i.bytes) := by omega
  have hmax : ¬ (IntKind.i64.max < ((sLen : Int) + (n : Int))) := by
    have : IntKind.i64.max = 9223372036854775807 := by decide
    omega
  by_cases h0 : n = 0
  · subst h0
    have e0 : Builtin.zeroCells z.cells 0 = #[] := Array.eq_empty_of_size_eq_zero (by rw [size_zeroCells]; simp)
    simp only [Nat.add_zero] at hn h48' hmax h63'
    simp [Builtin.append_, run_underlying ht, run_underlying ht2, sizeOf, typeInfo, zeroValue, hi, hz, Go.asInt, asIntOf, show IntKind.i64.wrap 0 = 0 from by decide, hn, h48', Question.forced, ho, newRow, grownCap, e0]
    have hs9 : ¬ ((9223372036854775807 : Int) < (sLen : Int)) := by omega
    rw [if_neg hs9]
    simp [ho]
    congr 2
    apply Array.ext'
    simp
  · have hne : ¬ (n * i.size = 0) := by have := Nat.mul_pos (Nat.pos_of_ne_zero h0) hpos; omega
    have hne' : ¬ (n = 0 ∨ i.size = 0) := by omega
    simp [Builtin.append_, run_underlying ht, run_underlying ht2, sizeOf, typeInfo, zeroValue, hi, hz, Go.asInt, asIntOf, hw, hn0, hby', hne', hne, hn, h63', h48', Question.forced, ho, newRow, grownCap, hmax]
    congr 2
    apply Array.ext'
    simp

theorem appZF_ok (htok : TyOk P T) (hs : Since w0 w) (hh : HOk T φ w0.Z w S hp) {t t2 ty : Nat} {vs vx : V} {ys yx : Value} {dm : Option Nat} {v : V} {E : Hp} (hm : ∀ m, dm = some m → look hp m = none) (h : Res P T (appZF (real P T w0) T hp t t2 vs vx dm) v E)
    (hrs : rel T φ w S vs ys) (hrx : rel T φ w S vx yx) : ∃ xv w', (Builtin.append_ #[t, t2] ty #[ys, yx]).run P w = .ok xv w' ∧ Left T w0 φ S hp w v E xv w' := by
  unfold appZF at h
  split at h
  · rename_i u eu m n hel hz
    obtain ⟨et, het, hd, heu⟩ := elemT_of hel
    have ht := htok.und _ _ het
    rw [hd] at ht
    obtain ⟨i, hi, hsz, hby, hzz⟩ := htok.info _ _ heu
    obtain ⟨k, rfl⟩ := asZ_some hz hrx
    split at h
    · rename_i hok
      simp only [Bool.and_eq_true] at hok
      obtain ⟨⟨⟨hint, hck⟩, hzk⟩, hp0⟩ := hok
      have hpos : 0 < eu.size := by simp [Nat.blt] at hp0; omega
      have hzs : eu.zero.cells.size = eu.size := by simpa [zok] using hzk
      have ht2 : ∃ k2, P.underlying t2 = some (.int k2) := by
        unfold isIntT at hint
        split at hint
        · rename_i e2 he2
          have hu2 := htok.und _ _ he2
          split at hint
          · rename_i k2 hd2; rw [hd2] at hu2; exact ⟨k2, hu2⟩
          · cases hint
        · cases hint
      obtain ⟨k2, ht2⟩ := ht2
      obtain ⟨h0, h⟩ := res_need h
      obtain ⟨⟨hr1, hr2⟩, h⟩ := res_need h
      obtain ⟨n, rfl⟩ := Int.eq_ofNat_of_zero_le h0
      have hbn : (n : Int) * i.bytes ≤ 281474976710656 := by
        have h2 : ((n * eu.bytes : Nat) : Int) ≤ 140737488355328 := Int.ofNat_le.2 (by simpa using hr2)
        rw [Int.natCast_mul] at h2
        rw [hby]; omega
      have hmade : (Builtin.zeroCells eu.zero.cells n) = madeCells eu.zero.cells (n * eu.size) := by rw [← hzs]; rfl
      have hwt : wtL T u (List.replicate n (zeroT T u eu)) := wtL_iff.2 (fun e he => by rw [(List.mem_replicate.1 he).2]; exact chk_wt (x := eu.zero) (φ := φ) (w := w) (S := S) hck (zeroT_rel u eu))
      have h1 : ∀ q ∈ (Builtin.zeroCells eu.zero.cells n).toList, q.oneCell' = true := fun q hq => by
        have hz1 := (stor_cells (chk_stor hck) (zeroT_rel (T := T) (φ := φ) (w := w) (S := S) u eu)).2
        rw [Builtin.zeroCells] at hq
        simp only [Array.toList_map, List.mem_map] at hq
        obtain ⟨j, hj, rfl⟩ := hq
        have hlt : j % eu.zero.cells.size < eu.zero.cells.size := Nat.mod_lt _ (by omega)
        rw [getElem!_pos eu.zero.cells (j % eu.zero.cells.size) hlt]
        exact hz1 _ (Array.getElem_mem_toList hlt)
      have hlen : (List.replicate n (zeroT T u eu)).length = n := List.length_replicate
      have hnl : (Builtin.zeroCells eu.zero.cells n).toList.length = (List.replicate n (zeroT T u eu)).length * eu.size := by
        rw [Array.length_toList, size_zeroCells, hzs, hlen]
      have hin : inRow T φ w S (Builtin.zeroCells eu.zero.cells n).toList.toArray 0 eu.size (List.replicate n (zeroT T u eu)) := by
        rw [Array.toArray_toList, hmade]
        exact made_row hzs hpos (chk_stor hck)
      refine appCore (xs := List.replicate n (zeroT T u eu)) (news := (Builtin.zeroCells eu.zero.cells n).toList) hs hh heu hpos hzk (hm m rfl) hwt hnl h1 hin (fun e0 => ?_) (fun hg hroom hfit => ?_) (fun ho hg h63 hfit => ?_) h hrs
      · rw [hlen] at e0; subst e0
        exact run_appz_none ht ht2 hi
      · rw [hlen] at hroom ⊢
        have := run_appz_room (ty := ty) (k := k) ht ht2 hi hzz (n := n) (by simpa using hr1) hbn (by rw [hsz, hzs]) (by omega) hg h1 hroom (by rw [hsz]; exact hfit)
        rw [hsz] at this
        exact this
      · rw [hlen] at hg h63 hfit ⊢
        exact run_appz_grow ht ht2 hi hzz (by simpa using hr1) hbn (by rw [hsz, hzs]) (by omega) (by rw [hsz]; exact ho) hg h63 (by rw [hby]; exact hfit)
    · exact (res_fail h).elim
  · exact (res_fail h).elim

/-! ### x[lo:hi:max] -/
theorem isSlc_rel {u : Nat} (h : isSlc hp u v = true) (hr : rel T φ w S v x) : ∃ A len cap, x = .slice A len cap := by
  cases v with
  | nil => simp only [rel] at hr; exact ⟨_, _, _, hr⟩
  | sl u' es => simp only [rel] at hr; obtain ⟨A, cap, hx, _⟩ := hr; exact ⟨_, _, _, hx⟩
  | row n =>
    simp only [rel] at hr
    rcases hr with ⟨B, off, len, room, sz, cap, _, hx, _⟩ | ⟨_, A, hx⟩
    · exact ⟨_, _, _, hx⟩
    · exact ⟨_, _, _, hx⟩
  | rowp n lo ln =>
    simp only [rel] at hr
    rcases hr with ⟨B, off, len, room, sz, cap, A, _, hx, _⟩ | ⟨_, ⟨A, hx⟩, _⟩
    · exact ⟨_, _, _, hx⟩
    · exact ⟨_, _, _, hx⟩
  | _ => cases h

theorem zeroL_rel {tm : List V} {a : Act} (hi : Inv T w0 φ S tm hp a w) {o : Operand} (h : zeroL (some (ev tm o)) = true) : ∃ k, a.eval o = .int k 0 := by
  simp only [zeroL] at h
  split at h
  · rename_i hn
    obtain ⟨k, hk⟩ := natOf_some hn (ev_rel hi o)
    exact ⟨k, hk⟩
  · cases h

theorem run_slice3 {t u : Nat} {i0 : TypeInfo} (ht : P.underlying t = some (.slice u)) (hi : P.info? u = some i0) {A : Option Addr} {len cap : Nat} {lo hi' mx : Option Value} {l h m : Nat} (hb : (Instr.sliceBounds true len cap lo hi' mx).run P w = .ok (l, h, m) w) :
    (Instr.sliceAt t (.slice A len cap) lo hi' mx).run P w = .ok (.slice (if m = l then A else A.map (·.add (l * i0.size))) (h - l) (m - l)) w := by
  simp [Instr.sliceAt, Instr.slice, run_underlying ht, hb, sizeOf, typeInfo, hi]

theorem slice3F_ok (htok : TyOk P T) {tm : List V} {a : Act} (hi : Inv T w0 φ S tm hp a w) {t : Nat} {va : V} {lo hi' : Option Operand} {mx : Operand} {m : Option Nat} (hm : ∀ k, m = some k → look hp k = none) {v : V} {E : Hp} (h : Res P T (slice3F (real P T w0) T hp t va (lo.map (ev tm)) (hi'.map (ev tm)) (ev tm mx) m) v E) (hr : rel T φ w S va x) :
    ∃ xv w', (Instr.sliceAt t x (lo.map a.eval) (hi'.map a.eval) (some (a.eval mx))).run P w = .ok xv w' ∧ Left T w0 φ S hp w v E xv w' := by
  have hh := hi.heap
  unfold slice3F at h
  split at h
  · rename_i u eu hel
    obtain ⟨et, het, hd, heu⟩ := elemT_of hel
    have ht := htok.und _ _ het
    rw [hd] at ht
    obtain ⟨i0, hi0, hsz, _⟩ := htok.info _ _ heu
    split at h
    · rename_i hz
      simp only [Bool.and_eq_true] at hz
      obtain ⟨⟨⟨⟨z1, z2⟩, z3⟩, z4⟩, z5⟩ := hz
      have hpos : 0 < eu.size := by simp [Nat.blt] at z4; omega
      split at h
      · rename_i hv k hh2
        obtain ⟨rfl, rfl⟩ := res_ok h
        obtain ⟨A, len, cap, rfl⟩ := isSlc_rel z5 hr
        cases hi' with
        | none => cases hh2
        | some oh =>
          obtain ⟨k1, e1⟩ := zeroL_rel hi z2
          obtain ⟨k2, e2⟩ := zeroL_rel hi z3
          have hb : (Instr.sliceBounds true len cap (lo.map a.eval) (some (a.eval oh)) (some (a.eval mx))).run P w = .ok (0, 0, 0) w := by
            rw [e1, e2]
            cases lo with
            | none => simp [Instr.sliceBounds, run_sliceBound w k2 0 cap _ (by omega) (by omega), run_sliceBound w k1 0 0 _ (by omega) (by omega)]
            | some ol =>
              obtain ⟨k3, e3⟩ := zeroL_rel hi z1
              rw [Option.map_some, e3]
              simp [Instr.sliceBounds, run_sliceBound w k2 0 cap _ (by omega) (by omega), run_sliceBound w k1 0 0 _ (by omega) (by omega), run_sliceBound w k3 0 0 _ (by omega) (by omega)]
          have := run_slice3 (A := A) ht hi0 hb
          simp only [if_pos, Nat.sub_zero] at this
          exact ⟨_, w, this, nilRow_left hi.since hh (hm _ rfl) heu hpos⟩
      · exact (res_fail h).elim
    · split at h
      · rename_i u' es _
        split at h
        · rename_i l hh' k hl hhi hk
          split at h
          · rename_i hU
            obtain rfl : u = u' := by simpa using hU
            obtain ⟨⟨h0, h1, h2⟩, h⟩ := res_need h
            obtain ⟨⟨g0, g1, g2⟩, h⟩ := res_need h
            obtain ⟨rfl, rfl⟩ := res_ok h
            simp only [rel] at hr
            obtain ⟨A, cap, rfl, k1, k2, k3, k4⟩ := hr
            have g2 : k ≤ es.length := g2
            cases hi' with
            | none => cases hhi
            | some oh =>
              obtain ⟨q1, e1⟩ := asZ_some hhi (ev_rel hi oh)
              obtain ⟨q2, e2⟩ := asZ_some hk (ev_rel hi mx)
              have hb : (Instr.sliceBounds true es.length cap (lo.map a.eval) (some (a.eval oh)) (some (a.eval mx))).run P w = .ok (l.toNat, hh'.toNat, k.toNat) w := by
                rw [e1, e2]
                cases lo with
                | none =>
                  simp only [Option.map_none, hiOf, Option.some.injEq] at hl
                  subst hl
                  simp [Instr.sliceBounds, run_sliceBound w q2 k cap _ (by omega) (by omega), run_sliceBound w q1 hh' k.toNat _ (by omega) (by omega)]
                | some ol =>
                  simp only [Option.map_some, hiOf] at hl
                  obtain ⟨q3, e3⟩ := asZ_some hl (ev_rel hi ol)
                  rw [Option.map_some, e3]
                  simp [Instr.sliceBounds, run_sliceBound w q2 k cap _ (by omega) (by omega), run_sliceBound w q1 hh' k.toNat _ (by omega) (by omega), run_sliceBound w q3 l hh'.toNat _ (by omega) (by omega)]
              have hrun := run_slice3 (A := A) ht hi0 hb
              refine ⟨_, w, hrun, φ, S, Ext.refl hi.since hh, ?_⟩
              rw [hsz]
              have hlen : ((es.take hh'.toNat).drop l.toNat).length = hh'.toNat - l.toNat := by simp; omega
              simp only [rel]
              refine ⟨_, k.toNat - l.toNat, by show Value.slice _ _ _ = _; rw [show ((real P T w0).sub es l hh').length = hh'.toNat - l.toNat from hlen], ?_, ?_, wtL_sub _ _ k3, fun hne => ?_⟩
              · show ((es.take hh'.toNat).drop l.toNat).length ≤ _
                rw [hlen]; omega
              · show ((es.take hh'.toNat).drop l.toNat).length ≤ _
                rw [hlen]; omega
              · have hlt : l.toNat < hh'.toNat := by
                  rcases Nat.lt_or_ge l.toNat hh'.toNat with q | q
                  · exact q
                  · exact absurd (List.eq_nil_of_length_eq_zero (by show ((es.take hh'.toNat).drop l.toNat).length = 0; rw [hlen]; omega)) hne
                obtain ⟨ad, e', hA, he', hz, hS, hE⟩ := k4 (fun hn => by subst hn; simp at g2; omega)
                rw [heu] at he'; injection he' with he'; subst he'
                refine ⟨ad.add (l.toNat * eu.size), eu, ?_, heu, hz, ?_, relE_sub hE⟩
                · rw [if_neg (by omega), hA]; rfl
                · have hb : (ad.add (l.toNat * eu.size)).block = ad.block := by unfold Addr.add; split <;> rfl
                  rw [hb]; exact hS
          · exact (res_fail h).elim
        · exact (res_fail h).elim
      · exact (res_fail h).elim
  · exact (res_fail h).elim

/-! ### a place in an array -/
theorem brK_res {i : Int} {f : Nat → Out} {v : V} {E : Hp} : ∀ {r k : Nat}, (k : Int) ≤ i → i ≤ k + r → Res P T (brK (real P T w0) i f k r) v E → Res P T (f i.toNat) v E
  | 0, k, h0, h1, h => by
    have : i.toNat = k := by omega
    rw [this]
    exact h
  | r + 1, k, h0, h1, h => by
    simp only [brK] at h
    cases h with
    | brT hc h =>
      have : i = k := by simpa [real, cmpLit] using hc
      have : i.toNat = k := by omega
      rw [this]
      exact h
    | brF hc h =>
      have : i ≠ k := by simpa [real, cmpLit] using hc
      exact brK_res (by omega) (by omega) h

theorem idxArrF_ok (htok : TyOk P T) {t n u : Nat} {va vi : V} {y : Value} {v E} (hu : P.underlying t = some (.array n u)) (hsz : sizeT T u ≠ 0) (h : Res P T (match va with
    | .ptr m j => idxArrF (real P T w0) T n u (.ptr m j) vi
    | _ => .fail) v E) (hr : rel T φ w S va x) (hy : rel T φ w S vi y) : Gives P T φ w S (Instr.indexAt t x y) v E := by
  split at h
  · rename_i m j
    unfold idxArrF at h
    split at h
    · rename_i ha _
      cases ha
    · rename_i m' j' i r ha hz
      injection ha with ha1 ha2
      subst ha1; subst ha2
      split at h
      · obtain ⟨⟨h0, h1⟩, h⟩ := res_need h
        have h1 : i < Int.ofNat (r + 1) := h1
        have h1' : i < (r : Int) + 1 := by simpa using h1
        have h := brK_res (by omega) (by omega) h
        obtain ⟨k, rfl⟩ := asZ_some hz hy
        refine idxArr_ok htok hu hsz (vi := .s (.int k (Int.ofNat i.toNat))) (va := .ptr m j) ?_ hr ?_
        · simp only [natOf]
          exact h
        · rw [show Int.ofNat i.toNat = i from by simp; omega]
          exact rel_si k i
      · exact (res_fail h).elim
    · exact (res_fail h).elim
  · exact (res_fail h).elim

theorem idxArrV_ok (htok : TyOk P T) {t n u : Nat} {va vi : V} {y : Value} {v E} (hu : P.underlying t = some (.array n u)) (h : Res P T (match va with
    | .agg cs => idxArrF (real P T w0) T n u (.agg cs) vi
    | _ => .fail) v E) (hr : rel T φ w S va x) (hy : rel T φ w S vi y) : Gives P T φ w S (Instr.index t x y) v E := by
  split at h
  · rename_i cs
    unfold idxArrF at h
    split at h
    · rename_i cs' i r ha hz
      injection ha with ha
      subst ha
      split at h
      · obtain ⟨⟨h0, h1⟩, h⟩ := res_need h
        have h1 : i < Int.ofNat (r + 1) := h1
        have h1' : i < (r : Int) + 1 := by simpa using h1
        have h := brK_res (by omega) (by omega) h
        obtain ⟨k, rfl⟩ := asZ_some hz hy
        refine indexArr_ok htok hu (vi := .s (.int k (Int.ofNat i.toNat))) (va := .agg cs) ?_ hr ?_
        · simp only [natOf]
          exact h
        · rw [show Int.ofNat i.toNat = i from by simp; omega]
          exact rel_si k i
      · exact (res_fail h).elim
    · rename_i ha _
      cases ha
    · exact (res_fail h).elim
  · exact (res_fail h).elim

theorem allI_get {k : IntKind} : ∀ {cs : List V} {j : Nat}, allI k cs = true → j < cs.length → ∃ n, (cs.getD j .dead = .i k n ∨ cs.getD j .dead = .s (.int k n))
  | [], _, _, hj => by simp at hj
  | c :: r, 0, h, _ => by
    unfold allI at h
    split at h
    · rename_i heq; cases heq
    · rename_i k' n r' heq
      injection heq with e1 e2
      subst e1
      rw [Bool.and_eq_true] at h
      have : k = k' := by simpa using h.1
      subst this
      exact ⟨n, .inl rfl⟩
    · rename_i v r' heq
      injection heq with e1 e2
      subst e1
      split at h
      · rename_i k' n _
        rw [Bool.and_eq_true] at h
        have : k = k' := by simpa using h.1
        subst this
        exact ⟨n, .inr rfl⟩
      · cases h
    · cases h
  | c :: r, j + 1, h, hj => by
    have hr : allI k r = true := by
      unfold allI at h
      split at h
      · rename_i heq; cases heq
      · rename_i heq
        injection heq with e1 e2
        subst e2
        rw [Bool.and_eq_true] at h
        exact h.2
      · rename_i v r' heq
        injection heq with e1 e2
        subst e2
        split at h
        · rw [Bool.and_eq_true] at h; exact h.2
        · cases h
      · cases h
    have := allI_get (j := j) hr (by simpa using hj)
    simpa using this

theorem idxArrI_ok (htok : TyOk P T) {t n u : Nat} {va vi : V} {y : Value} {v E} (hu : P.underlying t = some (.array n u)) (h : Res P T (match va with
    | .agg cs => idxArrI (real P T w0) T n u cs vi
    | _ => .fail) v E) (hr : rel T φ w S va x) (hy : rel T φ w S vi y) : Gives P T φ w S (Instr.index t x y) v E := by
  split at h
  · rename_i cs
    have old : Res P T (idxArrF (real P T w0) T n u (.agg cs) vi) v E → Gives P T φ w S (Instr.index t x y) v E := fun h => idxArrV_ok htok hu (va := .agg cs) h hr hy
    unfold idxArrI at h
    split at h
    · rename_i e he
      split at h
      · rename_i k i hd hz
        split at h
        · rename_i hc
          rw [Bool.and_eq_true, Bool.and_eq_true] at hc
          obtain ⟨⟨ha, hl⟩, hsz⟩ := hc
          have hl : cs.length = n := by simpa using hl
          have hsz : e.size = 1 := by simpa using hsz
          obtain ⟨⟨h0, h1⟩, h⟩ := res_need h
          have h1' : i < (n : Int) := h1
          obtain ⟨rfl, rfl⟩ := res_ok h
          obtain ⟨kk, rfl⟩ := asZ_some hz hy
          obtain ⟨q, rfl⟩ := Int.eq_ofNat_of_zero_le (show 0 ≤ i from h0)
          have hlt' : q < n := by omega
          have hq : (q : Int).toNat = q := by simp
          simp only [rel] at hr
          obtain ⟨a, rfl, h2, h3⟩ := hr
          have hj : q < cs.length := by omega
          have hs1 : sizeT T u = 1 := by simp [sizeT, he, hsz]
          obtain ⟨xv, h4, h5⟩ := partOf_ok htok (off := q * sizeT T u) he (by rw [hs1, hsz]; omega) (by rw [hs1]; omega) h2 h3
          obtain ⟨i0, hi, hs, _⟩ := htok.info _ _ he
          have hsz' : sizeT T u = i0.size := by simp [sizeT, he, hs]
          have hag : isAggT T u = false := by simp [isAggT, isAggD, he, hd]
          have hp : partOf T u cs (q * sizeT T u) = cs.getD q .dead := by simp only [partOf, hag, hs1, Nat.mul_one]
          rw [hp] at h5
          obtain ⟨m, hm⟩ := allI_get ha hj
          have hx : xv = .int k m := by
            rcases hm with e | e <;> rw [e] at h5 <;> simp only [rel] at h5
            · exact h5
            · exact h5.1
          have hg : (real P T w0).gi (cs.map norm1) q 0 = m := by
            show Ab.asInt (elAt (cs.map norm1) q 0) = m
            have e2 : (cs.map norm1).getD q .dead = norm1 (cs.getD q .dead) := by
              have : q < cs.length := by omega
              simp [List.getD_eq_getElem?_getD, List.getElem?_map, this]
            unfold elAt
            rw [hq, e2]
            rcases hm with e | e <;> rw [e] <;> rfl
          refine ⟨rfl, xv, by simp [Instr.index, asIntOf, run_underlying hu, hlt', sizeOf, run_typeInfo w hi, ← hsz', h4], ?_⟩
          simp only [rel]
          rw [hx, hg]
        · exact old h
      · exact old h
    · exact (res_fail h).elim
  · exact (res_fail h).elim
end
end Go.Ab
end
section
/- A call does what the calculus says. No statement of its own. -/

namespace Go.Ab
open Go.RowKit

section
variable {P : Program} {T : Tr} {w0 : Base} {φ φ' φ2 : Nat → Option Loc} {w w' : World} {S S' S2 : Nat → Prop} {v : V} {x : Value} {hp : Hp} {b0 : Nat → Prop}

/-! ### values without names -/
mutual
theorem wt_free : ∀ (v : V) (t : Nat) (x : Value), wt T v t → rel T φ w S v x → rel T φ2 w S v x
  | .s v, t, x, hw, h => by simpa only [rel] using h
  | .i k n, t, x, hw, h => by simpa only [rel] using h
  | .b c, t, x, hw, h => by simpa only [rel] using h
  | .str s, t, x, hw, h => by simpa only [rel] using h
  | .nil, t, x, hw, h => by simpa only [rel] using h
  | .sl et es, t, x, hw, h => by
    simp only [wt] at hw
    simp only [rel] at h ⊢
    obtain ⟨A, cap, h1, h2, h3, h5, h6⟩ := h
    refine ⟨A, cap, h1, h2, h3, h5, fun hne => ?_⟩
    obtain ⟨ad, e, ha, hl, hz, hs, he⟩ := h6 hne
    exact ⟨ad, e, ha, hl, hz, hs, wtL_free es et 0 ad e.size hw.2 he⟩
  | .agg cs, t, x, hw, h => by
    simp only [wt] at hw
    simp only [rel] at h ⊢
    obtain ⟨a, h1, h2, h3⟩ := h
    exact ⟨a, h1, wtC_free cs _ _ hw.2 h2, h3⟩
  | .tup cs, t, x, hw, h => by simp only [wt] at hw
  | .ptr n j, t, x, hw, h => by simp only [wt] at hw
  | .ep n i j, t, x, hw, h => by simp only [wt] at hw
  | .rp et es i j, t, x, hw, h => by simp only [wt] at hw
  | .row n, t, x, hw, h => by simp only [wt] at hw
  | .rowp n lo ln, t, x, hw, h => by simp only [wt] at hw
  | .fn f fs cs, t, x, hw, h => by simp only [wt] at hw
  | .dead, t, x, hw, h => by simp only [wt] at hw
theorem wtC_free : ∀ (cs : List V) (ts : List Nat) (xs : List Value), wtC T ts cs → relL T φ w S cs xs → relL T φ2 w S cs xs
  | [], ts, xs, hw, h => by simpa only [relL] using h
  | v :: r, ts, xs, hw, h => by
    simp only [wtC] at hw
    simp only [relL] at h ⊢
    obtain ⟨x, xs', h1, h2, h3⟩ := h
    obtain ⟨t, ts', k1, _, k2, k3⟩ := hw
    exact ⟨x, xs', h1, wt_free v t x k2 h2, wtC_free r ts' xs' k3 h3⟩
theorem wtL_free : ∀ (es : List V) (t : Nat) (i : Nat) (ad : Addr) (sz : Nat), wtL T t es → relE T φ w S ad sz i es → relE T φ2 w S ad sz i es
  | [], _, _, _, _, _, _ => by simp only [relE]
  | v :: r, t, i, ad, sz, hw, h => by
    simp only [wtL] at hw
    simp only [relE] at h ⊢
    obtain ⟨⟨x, h1, h2, h3, h4⟩, h5⟩ := h
    exact ⟨⟨x, wt_free v t x hw.1 h1, h2, h3, h4⟩, wtL_free r t (i + 1) ad sz hw.2 h5⟩
end

theorem scal_free {c : V} {t : Nat} (hA : isAggT T t = false) (hf : (match T.look t with
    | some e => match e.desc with
      | .int _ => true
      | .bool => true
      | .string => true
      | _ => false
    | none => false) = true) (hw : wt T c t) (hr : rel T φ w S c x) : rel T φ2 w' S2 c x := by
  cases c with
  | s v => simpa only [rel] using hr
  | i k n => simpa only [rel] using hr
  | b c => simpa only [rel] using hr
  | str s => simpa only [rel] using hr
  | nil => simpa only [rel] using hr
  | sl et es =>
    simp only [wt] at hw
    obtain ⟨⟨e, he, hd⟩, _⟩ := hw
    rw [he] at hf
    simp [hd] at hf
  | agg cs => simp only [wt] at hw; rw [hA] at hw; exact absurd hw.1 (by simp)
  | _ => simp only [wt] at hw

theorem wt_look {c : V} {t : Nat} (hw : wt T c t) : ∃ e, T.look t = some e := by
  cases c with
  | s v => simp only [wt] at hw; obtain ⟨e, he, _⟩ := hw; exact ⟨e, he⟩
  | i k n => simp only [wt] at hw; obtain ⟨e, he, _⟩ := hw; exact ⟨e, he⟩
  | b c => simp only [wt] at hw; obtain ⟨e, he, _⟩ := hw; exact ⟨e, he⟩
  | str s => simp only [wt] at hw; obtain ⟨e, he, _⟩ := hw; exact ⟨e, he⟩
  | nil => simp only [wt] at hw; obtain ⟨e, _, he, _⟩ := hw; exact ⟨e, he⟩
  | sl et es => simp only [wt] at hw; obtain ⟨⟨e, he, _⟩, _⟩ := hw; exact ⟨e, he⟩
  | agg cs =>
    simp only [wt] at hw
    have := hw.1
    unfold isAggT at this
    split at this
    · rename_i e he; exact ⟨e, he⟩
    · cases this
  | _ => simp only [wt] at hw

theorem cellTys_one {u : Nat} {e : TE} (he : T.look u = some e) (hA : isAggD e.desc = false) : cellTys T 8 u = [u] := by
  rw [cellTys]
  simp only [he]
  cases hd : e.desc <;> simp_all [isAggD]

theorem flat_free {e : V} {u : Nat} (hf : flatT T u = true) (hw : wt T e u) (hr : rel T φ w S e x) : rel T φ2 w' S2 e x := by
  by_cases hA : isAggT T u = true
  · obtain ⟨cs, rfl, hc⟩ := wt_agg hw hA
    obtain ⟨l1, l2⟩ := wtC_iff hc
    simp only [rel] at hr ⊢
    obtain ⟨a, rfl, r1, r2⟩ := hr
    obtain ⟨r3, r4⟩ := relL_iff.1 r1
    refine ⟨a, rfl, relL_iff.2 ⟨r3, fun j c y hj hy => ?_⟩, r2⟩
    obtain ⟨t, ht, hA', hwc⟩ := l2 j c hj
    unfold flatT at hf
    have := List.all_eq_true.1 hf t (List.mem_of_getElem? ht)
    exact scal_free hA' this hwc (r4 j c y hj hy)
  · have hA : isAggT T u = false := by simpa using hA
    obtain ⟨te, hte⟩ := wt_look hw
    have hA2 := hA
    rw [aggT_of hte] at hA2
    unfold flatT at hf
    rw [cellTys_one hte hA2] at hf
    exact scal_free hA (List.all_eq_true.1 hf u (by simp)) hw hr

/-! ### results under new names -/
theorem cleanS_rel {m : Nat} (hc : cleanS v = true) (hφ : ∀ n l, φ' n = some l → φ2 (m + n) = some l) (hS : sharesS v = true → ∀ k, S' k → S2 k) (hr : rel T φ' w S' v x) : rel T φ2 w S2 (renS m v) x := by
  cases v with
  | s v => simpa only [rel, renS] using hr
  | i k n => simpa only [rel, renS] using hr
  | b c => simpa only [rel, renS] using hr
  | str s => simpa only [rel, renS] using hr
  | nil => simpa only [rel, renS] using hr
  | dead => simp only [rel, renS]
  | sl et es =>
    simp only [rel, renS] at hr ⊢
    obtain ⟨A, cap, h1, h2, h3, h5, h6⟩ := hr
    refine ⟨A, cap, h1, h2, h3, h5, fun hne => ?_⟩
    obtain ⟨ad, e, ha, hl, hz, hs, he⟩ := h6 hne
    exact ⟨ad, e, ha, hl, hz, hS rfl _ hs, relE_mono (φ := fun _ => none) (fun _ _ h => by cases h) (fun _ _ => rfl) (hS rfl) es 0 ad e.size hs (wtL_free es et 0 ad e.size h5 he)⟩
  | row n =>
    simp only [rel, renS] at hr ⊢
    rcases hr with ⟨B, off, len, room, sz, cap, h1, h2⟩ | ⟨h1, h2⟩
    · exact .inl ⟨B, off, len, room, sz, cap, hφ _ _ h1, h2⟩
    · exact .inr ⟨hφ _ _ h1, h2⟩
  | mp t L =>
    simp only [rel, renS] at hr ⊢
    obtain ⟨g, es, c, h1, h2, h3⟩ := hr
    exact ⟨g, es, c, h1, hS rfl _ h2, h3⟩
  | _ => cases hc

theorem cleanL_rel {m : Nat} (hφ : ∀ n l, φ' n = some l → φ2 (m + n) = some l) : ∀ {cs : List V} {xs : List Value}, cs.all cleanS = true → (cs.any sharesS = true → ∀ k, S' k → S2 k) → relL T φ' w S' cs xs → relL T φ2 w S2 (cs.map (renS m)) xs
  | [], xs, hc, hS, h => by simpa only [relL, List.map_nil] using h
  | v :: r, xs, hc, hS, h => by
    simp only [relL, List.map_cons] at h ⊢
    simp only [List.all_cons, Bool.and_eq_true] at hc
    simp only [List.any_cons, Bool.or_eq_true] at hS
    obtain ⟨x, xs', h1, h2, h3⟩ := h
    exact ⟨x, xs', h1, cleanS_rel hc.1 hφ (fun k => hS (.inl k)) h2, cleanL_rel hφ hc.2 (fun k => hS (.inr k)) h3⟩

def shares1 : V → Bool
  | .agg ds => ds.any sharesS
  | c => sharesS c

theorem clean1_rel {m : Nat} (hc : clean1 v = true) (hφ : ∀ n l, φ' n = some l → φ2 (m + n) = some l) (hS : shares1 v = true → ∀ k, S' k → S2 k) (hr : rel T φ' w S' v x) : rel T φ2 w S2 (ren1 m v) x := by
  cases v with
  | agg cs =>
    simp only [clean1, shares1, ren1, rel] at *
    obtain ⟨a, h1, h2, h3⟩ := hr
    exact ⟨a, h1, cleanL_rel hφ hc hS h2, h3⟩
  | tup a => cases hc
  | nlq g es => cases hc
  | mp g es => exact cleanS_rel (v := .mp g es) hc hφ hS hr
  | s a => exact cleanS_rel (v := .s a) hc hφ hS hr
  | i a b => exact cleanS_rel (v := .i a b) hc hφ hS hr
  | b a => exact cleanS_rel (v := .b a) hc hφ hS hr
  | str a => exact cleanS_rel (v := .str a) hc hφ hS hr
  | nil  => exact cleanS_rel (v := .nil ) hc hφ hS hr
  | sl a b => exact cleanS_rel (v := .sl a b) hc hφ hS hr
  | ptr a b => exact cleanS_rel (v := .ptr a b) hc hφ hS hr
  | ep a b c => exact cleanS_rel (v := .ep a b c) hc hφ hS hr
  | rp a b c d => exact cleanS_rel (v := .rp a b c d) hc hφ hS hr
  | row a => exact cleanS_rel (v := .row a) hc hφ hS hr
  | rowp a b c => exact cleanS_rel (v := .rowp a b c) hc hφ hS hr
  | fn a b c => exact cleanS_rel (v := .fn a b c) hc hφ hS hr
  | dead  => exact cleanS_rel (v := .dead ) hc hφ hS hr

theorem clean1L_rel {m : Nat} (hφ : ∀ n l, φ' n = some l → φ2 (m + n) = some l) : ∀ {cs : List V} {xs : List Value}, cs.all clean1 = true → (cs.any shares1 = true → ∀ k, S' k → S2 k) → relL T φ' w S' cs xs → relL T φ2 w S2 (cs.map (ren1 m)) xs
  | [], xs, hc, hS, h => by simpa only [relL, List.map_nil] using h
  | v :: r, xs, hc, hS, h => by
    simp only [relL, List.map_cons] at h ⊢
    simp only [List.all_cons, Bool.and_eq_true] at hc
    simp only [List.any_cons, Bool.or_eq_true] at hS
    obtain ⟨x, xs', h1, h2, h3⟩ := h
    exact ⟨x, xs', h1, clean1_rel hc.1 hφ (fun k => hS (.inl k)) h2, clean1L_rel hφ hc.2 (fun k => hS (.inr k)) h3⟩

theorem clean_rel {m : Nat} (hc : clean v = true) (hφ : ∀ n l, φ' n = some l → φ2 (m + n) = some l) (hS : shares v = true → ∀ k, S' k → S2 k) (hr : rel T φ' w S' v x) : rel T φ2 w S2 (ren m v) x := by
  cases v with
  | tup cs =>
    simp only [clean, ren, rel] at *
    obtain ⟨a, h1, h2⟩ := hr
    refine ⟨a, h1, clean1L_rel hφ hc (fun h => hS ?_) h2⟩
    simp only [shares]
    rw [List.any_eq_true] at h ⊢
    obtain ⟨c, hc1, hc2⟩ := h
    refine ⟨c, hc1, ?_⟩
    unfold shares1 at hc2
    exact hc2
  | agg cs => exact clean1_rel (v := .agg cs) hc hφ hS hr
  | nlq g es => cases hc
  | mp g es => exact clean1_rel (v := .mp g es) hc hφ hS hr
  | s a => exact clean1_rel (v := .s a) hc hφ hS hr
  | i a b => exact clean1_rel (v := .i a b) hc hφ hS hr
  | b a => exact clean1_rel (v := .b a) hc hφ hS hr
  | str a => exact clean1_rel (v := .str a) hc hφ hS hr
  | nil  => exact clean1_rel (v := .nil ) hc hφ hS hr
  | sl a b => exact clean1_rel (v := .sl a b) hc hφ hS hr
  | ptr a b => exact clean1_rel (v := .ptr a b) hc hφ hS hr
  | ep a b c => exact clean1_rel (v := .ep a b c) hc hφ hS hr
  | rp a b c d => exact clean1_rel (v := .rp a b c d) hc hφ hS hr
  | row a => exact clean1_rel (v := .row a) hc hφ hS hr
  | rowp a b c => exact clean1_rel (v := .rowp a b c) hc hφ hS hr
  | fn a b c => exact clean1_rel (v := .fn a b c) hc hφ hS hr
  | dead  => exact clean1_rel (v := .dead ) hc hφ hS hr

theorem renS_zero : ∀ v, renS 0 v = v := fun v => by cases v <;> simp [renS]
theorem ren1_zero : ∀ v, ren1 0 v = v := fun v => by
  cases v with
  | agg cs => simp only [ren1]; rw [show (renS 0) = id from funext renS_zero, List.map_id]
  | _ => simp [ren1, renS]
theorem ren_zero : ∀ v, ren 0 v = v := fun v => by
  cases v with
  | tup cs => simp only [ren]; rw [show (ren1 0) = id from funext ren1_zero, List.map_id]
  | agg cs => exact ren1_zero (.agg cs)
  | _ => simp [ren, ren1, renS]

/-! ### another's rows -/
theorem Since.trans {a : Base} {b c : World} (h : Since a b) (k : Since (.of b) c) : Since a c :=
  ⟨k.os.trans h.os, k.tape.trans h.tape, k.output.trans h.output, Nat.le_trans h.size k.size, fun i hi => (k.block i (Nat.lt_of_lt_of_le (a.lt i hi) h.size)).trans (h.block i hi)⟩

theorem HOk.world (h : HOk T φ b0 w S hp) (hs : Since (.of w) w') : HOk T φ b0 w' S hp :=
  ⟨h.dom, fun n b hb => (h.blk n b hb).mono (LocLe.refl _) (fun k hk => hs.block k (h.old k hk)) (fun _ h => h) (fun hc l B hl hB => hs.block B (h.own n b l B hb hc hl hB).2.1),
    fun n b l B hb hc hl hB => ⟨(h.own n b l B hb hc hl hB).1, Nat.lt_of_lt_of_le (h.own n b l B hb hc hl hB).2.1 hs.size, (h.own n b l B hb hc hl hB).2.2⟩, h.inj, fun k hk => Nat.lt_of_lt_of_le (h.old k hk) hs.size⟩

theorem frzN_ok : ∀ (ns : List Nat) {hp : Hp} {S : Nat → Prop}, HOk T φ b0 w S hp → ∃ S', (∀ k, S k → S' k) ∧ HOk T φ b0 w S' (frzN hp ns ++ hp) ∧ (liveN hp ns = true → ∀ k, OB φ ns k → S' k) ∧ (∀ k, S' k → S k ∨ ∃ n et es l, look hp n = some (.row et es) ∧ φ n = some l ∧ l.blk = some k)
  | [], hp, S, h => ⟨S, fun _ h => h, h, fun _ k hk => (by obtain ⟨n, hn, _⟩ := hk; cases hn), fun k hk => .inl hk⟩
  | n :: r, hp, S, h => by
    have hcons : ∀ {S1 : Nat → Prop} {k}, OB φ (n :: r) k → (∀ l B, φ n = some l → l.blk = some B → S1 B) → (OB φ r k → S1 k) → S1 k := by
      intro S1 k hk h1 h2
      obtain ⟨n', hn, l, hl, hB⟩ := hk
      rcases List.mem_cons.1 hn with rfl | hn
      · exact h1 l k hl hB
      · exact h2 ⟨n', hn, l, hl, hB⟩
    simp only [frzN]
    split
    · rename_i et es hl
      obtain ⟨S1, s1, h1, h1'⟩ := h.freeze hl
      obtain ⟨S2, s2, h2, h3, h4⟩ := frzN_ok r h1
      refine ⟨S2, fun k hk => s2 k (s1 k hk), by rw [List.append_assoc]; exact h2, fun hlive k hk => ?_, fun k hk => ?_⟩
      rotate_left
      · rcases h4 k hk with hk | ⟨n', et', es', l', k1, k2, k3⟩
        · rcases h1' k hk with hk | ⟨l, k1, k2⟩
          · exact .inl hk
          · exact .inr ⟨n, et, es, l, hl, k1, k2⟩
        · rw [look_cons] at k1
          split at k1
          · cases k1
          · exact .inr ⟨n', et', es', l', k1, k2, k3⟩
      refine hcons hk (fun l B hl' hB => s2 _ (ro_S h1 (by rw [look_cons, if_pos rfl]) l B hl' hB)) (h3 ?_ k)
      unfold liveN at hlive ⊢
      rw [List.all_eq_true] at hlive ⊢
      intro n' hn'
      rw [look_cons]
      by_cases e : n = n'
      · subst e; simp
      · rw [if_neg e]; exact hlive n' (List.mem_cons_of_mem _ hn')
    · rename_i hno
      obtain ⟨S2, s2, h2, h3, h4⟩ := frzN_ok r h
      refine ⟨S2, s2, h2, fun hlive k hk => ?_, h4⟩
      unfold liveN at hlive
      rw [List.all_cons, Bool.and_eq_true] at hlive
      refine hcons hk (fun l B hl' hB => ?_) (h3 hlive.2 k)
      have h0 := hlive.1
      split at h0
      · rename_i et es hl; exact absurd hl (hno et es)
      · rename_i et es hl; exact s2 _ (ro_S h hl l B hl' hB)
      · cases h0

theorem look_app {a b : Hp} {n : Nat} : look (a ++ b) n = match look a n with | some c => some c | none => look b n := by
  induction a with
  | nil => rfl
  | cons p r ih =>
    obtain ⟨k, c⟩ := p
    rw [List.cons_append, look_cons, look_cons]
    by_cases h : k = n
    · rw [if_pos h, if_pos h]
    · rw [if_neg h, if_neg h]; exact ih

theorem frzN_own : ∀ {ns : List Nat} {hp : Hp} {n : Nat} {b : Blk}, look (frzN hp ns ++ hp) n = some b → b.own = true → look hp n = some b
  | [], hp, n, b, h, ho => h
  | k :: r, hp, n, b, h, ho => by
    simp only [frzN] at h
    split at h
    · rw [List.append_assoc] at h
      have := frzN_own h ho
      rw [look_cons] at this
      split at this
      · injection this with this; subst this; cases ho
      · exact this
    · exact frzN_own h ho

theorem look_ren {m : Nat} : ∀ (h0 : Hp) (n : Nat), look (renH m h0) n = if m ≤ n then look h0 (n - m) else none
  | [], n => by simp [renH, look]
  | (k, b) :: r, n => by
    have ih := look_ren (m := m) r n
    simp only [renH, List.map_cons] at ih ⊢
    rw [look_cons, look_cons, ih]
    by_cases h : m + k = n
    · rw [if_pos h, if_pos (by omega), if_pos (by omega)]
    · rw [if_neg h]
      by_cases hm : m ≤ n
      · rw [if_pos hm, if_pos hm, if_neg (by omega)]
      · rw [if_neg hm, if_neg hm]

theorem fresh_look {m : Nat} : ∀ {h0 : Hp}, freshH hp m h0 = true → ∀ n b, look h0 n = some b → look hp (m + n) = none
  | [], _, n, b, h => by cases h
  | (k, c) :: r, hf, n, b, h => by
    simp only [freshH] at hf
    split at hf
    · rename_i hn
      rw [look_cons] at h
      by_cases e : k = n
      · subst e; exact hn
      · rw [if_neg e] at h; exact fresh_look hf n b h
    · cases hf

theorem rows_only : ∀ {h0 : Hp}, rowsOnly h0 = true → ∀ n b, look h0 n = some b → ∃ u es, b = .row u es
  | [], _, n, b, h => by cases h
  | (k, c) :: r, hf, n, b, h => by
    rw [look_cons] at h
    cases c <;> simp only [rowsOnly] at hf <;> first | cases hf | skip
    by_cases e : k = n
    · rw [if_pos e] at h; injection h with h; exact ⟨_, _, h.symm⟩
    · rw [if_neg e] at h; exact rows_only hf n b h

theorem flat_rows : ∀ {h0 : Hp}, sharesH T h0 = false → rowsOnly h0 = true → ∀ n u es, look h0 n = some (.row u es) → flatT T u = true
  | [], _, _, n, u, es, h => by cases h
  | (k, c) :: r, hf, hro, n, u, es, h => by
    rw [look_cons] at h
    cases c <;> simp only [rowsOnly] at hro <;> first | cases hro | skip
    simp only [sharesH, Bool.or_eq_false_iff, Bool.not_eq_false'] at hf
    by_cases e : k = n
    · rw [if_pos e] at h; injection h with h; injection h with h1 h2; subst h1; exact hf.1
    · rw [if_neg e] at h; exact flat_rows hf.2 hro n u es h

def joinφ (φ φ' : Nat → Option Loc) (m : Nat) (n : Nat) : Option Loc := match φ n with
  | some l => some l
  | none => if m ≤ n then φ' (n - m) else none

theorem HOk.join {m : Nat} {b1 : Nat → Prop} {h0 : Hp} (h : HOk T φ b0 w S hp) (k : HOk T φ' b1 w S' h0) (hf : freshH hp m h0 = true) (hro : rowsOnly h0 = true) (hb : ∀ k, b0 k → b1 k)
    (hlt : ∀ n b l B, look hp n = some b → b.own = true → φ n = some l → l.blk = some B → b1 B) (hSlt : ∀ i, S i → b1 i) (hsh : sharesH T h0 = true → ∀ i, S' i → S i ∨ ¬ b1 i) :
    HOk T (joinφ φ φ' m) b0 w (fun i => S i ∨ (S' i ∧ ¬ b1 i)) (renH m h0 ++ hp) ∧ LocLe φ (joinφ φ φ' m) ∧ ∀ n l, φ' n = some l → joinφ φ φ' m (m + n) = some l := by
  have hle : LocLe φ (joinφ φ φ' m) := fun n l hn => by simp only [joinφ, hn]
  have hren : ∀ n l, φ' n = some l → joinφ φ φ' m (m + n) = some l := by
    intro n l hn
    have : look h0 n ≠ none := fun hno => by rw [(k.dom n).2 hno] at hn; cases hn
    obtain ⟨b, hb⟩ := Option.ne_none_iff_exists'.1 this
    have := (h.dom _).2 (fresh_look hf n b hb)
    simp only [joinφ, this, Nat.le_add_right, if_true, Nat.add_sub_cancel_left, hn]
  have hcase : ∀ n b, look (renH m h0 ++ hp) n = some b → (∃ j, n = m + j ∧ look h0 j = some b ∧ look hp n = none ∧ joinφ φ φ' m n = φ' j) ∨ (look hp n = some b ∧ joinφ φ φ' m n = φ n) := by
    intro n b hn
    rw [look_app, look_ren] at hn
    by_cases hmn : m ≤ n
    · rw [if_pos hmn] at hn
      split at hn
      · rename_i c hc
        injection hn with hn; subst hn
        have h1 := fresh_look hf _ _ hc
        rw [show m + (n - m) = n from by omega] at h1
        refine .inl ⟨n - m, by omega, hc, h1, ?_⟩
        have := (h.dom _).2 h1
        simp only [joinφ, this, if_pos hmn]
      · refine .inr ⟨hn, ?_⟩
        have : φ n ≠ none := fun hno => by rw [(h.dom n).1 hno] at hn; cases hn
        obtain ⟨l, hl⟩ := Option.ne_none_iff_exists'.1 this
        simp only [joinφ, hl]
    · rw [if_neg hmn] at hn
      refine .inr ⟨hn, ?_⟩
      have : φ n ≠ none := fun hno => by rw [(h.dom n).1 hno] at hn; cases hn
      obtain ⟨l, hl⟩ := Option.ne_none_iff_exists'.1 this
      simp only [joinφ, hl]
  refine ⟨⟨fun n => ?_, fun n b hn => ?_, fun n b l B hn ho hl hB => ?_, fun n n' b c l k' B hn hn' ho ho' hl hl' hB hB' => ?_, fun i hi => ?_⟩, hle, hren⟩
  · rw [look_app, look_ren]
    cases hφ : φ n with
    | some l =>
      simp only [joinφ, hφ]
      have : look hp n ≠ none := fun hno => by rw [(h.dom n).2 hno] at hφ; cases hφ
      obtain ⟨b, hb⟩ := Option.ne_none_iff_exists'.1 this
      split <;> simp_all
    | none =>
      simp only [joinφ, hφ]
      have h1 := (h.dom n).1 hφ
      by_cases hmn : m ≤ n
      · rw [if_pos hmn, if_pos hmn, k.dom]
        cases look h0 (n - m) <;> simp [h1]
      · rw [if_neg hmn, if_neg hmn]
        simp [h1]
  · rcases hcase n b hn with ⟨j, rfl, hj, _, hφ⟩ | ⟨hb, hφ⟩
    · obtain ⟨u, es, rfl⟩ := rows_only hro j b hj
      obtain ⟨hw, e, he, hz, hbk⟩ := k.blk j _ hj
      refine ⟨hw, e, he, hz, ?_⟩
      rcases hbk with ⟨B, off, room, arr, h1, h2, h3, h4, h5, h6⟩ | ⟨h1, h2⟩
      · refine .inl ⟨B, off, room, arr, by rw [hφ]; exact h1, h2, h3, h4, h5, fun q c hq => ?_⟩
        obtain ⟨y, y1, y2, y3, y4⟩ := h6 q c hq
        have hwc := wtL_iff.1 hw c (List.mem_of_getElem? hq)
        refine ⟨y, ?_, y2, y3, y4⟩
        by_cases hs : sharesH T h0 = true
        · refine rel_mono (φ := fun _ => none) (fun _ _ h => by cases h) (fun _ _ => rfl) (fun i hi => ?_) _ _ (wt_free c u y hwc y1)
          rcases hsh hs i hi with hh | hh
          · exact .inl hh
          · exact .inr ⟨hi, hh⟩
        · exact flat_free (flat_rows (by simpa using hs) hro j u es hj) hwc y1
      · exact .inr ⟨by rw [hφ]; exact h1, h2⟩
    · exact (h.blk n b hb).mono hle (fun _ _ => rfl) (fun i hi => .inl hi) (fun _ _ _ _ _ => rfl)
  · rcases hcase n b hn with ⟨j, rfl, hj, _, hφ⟩ | ⟨hb', hφ⟩
    · rw [hφ] at hl
      obtain ⟨o1, o2, o3⟩ := k.own j b l B hj ho hl hB
      exact ⟨fun h0 => o1 (hb _ h0), o2, fun hS => hS.elim (fun hS => o1 (hSlt _ hS)) (fun hS => o3 hS.1)⟩
    · rw [hφ] at hl
      obtain ⟨o1, o2, o3⟩ := h.own n b l B hb' ho hl hB
      have := hlt n b l B hb' ho hl hB
      exact ⟨o1, o2, fun hS => hS.elim o3 (fun hS => hS.2 this)⟩
  · rcases hcase n b hn with ⟨j, rfl, hj, _, hφ⟩ | ⟨hb', hφ⟩
    · rcases hcase n' c hn' with ⟨j', rfl, hj', _, hφ'⟩ | ⟨hb'', hφ'⟩
      · rw [hφ] at hl; rw [hφ'] at hl'
        rw [k.inj j j' b c l k' B hj hj' ho ho' hl hl' hB hB']
      · rw [hφ] at hl; rw [hφ'] at hl'
        exact absurd (hlt n' c k' B hb'' ho' hl' hB') (k.own j b l B hj ho hl hB).1
    · rcases hcase n' c hn' with ⟨j', rfl, hj', _, hφ'⟩ | ⟨hb'', hφ'⟩
      · rw [hφ] at hl; rw [hφ'] at hl'
        exact absurd (hlt n b l B hb' ho hl hB) (k.own j' c k' B hj' ho' hl' hB').1
      · rw [hφ] at hl; rw [hφ'] at hl'
        exact h.inj n n' b c l k' B hb' hb'' ho ho' hl hl' hB hB'
  · rcases hi with hi | hi
    · exact h.old i hi
    · exact k.old i hi.1
end
end Go.Ab
end
section
/- A call does what the calculus says. No statement of its own. -/

namespace Go.Ab
open Go.RowKit

section
variable {P : Program} {T : Tr} {w0 : Base} {φ φ' φ2 : Nat → Option Loc} {w w' : World} {S S' S2 : Nat → Prop} {v : V} {x : Value} {hp : Hp} {b0 : Nat → Prop}

def noName : V → Bool
  | .ptr _ _ => false
  | .ep _ _ _ => false
  | .agg _ => false
  | .tup _ => false
  | .row _ => false
  | .rowp _ _ _ => false
  | .fn _ fs cs => match fs, cs with
    | [], [] => true
    | _, _ => false
  | _ => true

theorem expS_free {o : Ops} (hr : rel T φ w S (expS o hp v) x) : rel T φ2 w S (expS o hp v) x := by
  have sl : ∀ {et es x}, rel T φ w S (.sl et es) x → rel T φ2 w S (.sl et es) x := by
    intro et es x h
    simp only [rel] at h ⊢
    obtain ⟨A, cap, h1, h2, h3, h5, h6⟩ := h
    refine ⟨A, cap, h1, h2, h3, h5, fun hne => ?_⟩
    obtain ⟨ad, e, ha, hl, hz, hs, he⟩ := h6 hne
    exact ⟨ad, e, ha, hl, hz, hs, wtL_free es et 0 ad e.size h5 he⟩
  have key : ∀ u, noName u = true → rel T φ w S u x → rel T φ2 w S u x := by
    intro u hu h
    cases u with
    | s v => simpa only [rel] using h
    | i k n => simpa only [rel] using h
    | b c => simpa only [rel] using h
    | str s => simpa only [rel] using h
    | nil => simpa only [rel] using h
    | nlq g es => simpa only [rel] using h
    | mp t L => simpa only [rel] using h
    | dead => simp only [rel]
    | sl et es => exact sl h
    | rp et es i j =>
      simp only [rel] at h ⊢
      obtain ⟨ad, e, h1, h2, h3, h4, h5, h6⟩ := h
      exact ⟨ad, e, h1, h2, h3, h4, wtL_free es et 0 ad e.size h3 h5, h6⟩
    | fn f fs cs =>
      cases fs with
      | nil => cases cs with
        | nil => simp only [rel, relL] at h ⊢; exact h
        | cons c cs => cases hu
      | cons c fs => cases hu
    | _ => cases hu
  refine key _ ?_ hr
  cases v with
  | row n => simp only [expS]; split <;> rfl
  | rowp n lo ln => simp only [expS]; split <;> rfl
  | fn f fs cs =>
    cases fs with
    | nil => cases cs with
      | nil => rfl
      | cons c cs => rfl
    | cons c fs => rfl
  | _ => rfl

theorem expC_free {o : Ops} : ∀ {cs : List V} {xs : List Value}, relL T φ w S (cs.map (expS o hp)) xs → relL T φ2 w S (cs.map (expS o hp)) xs
  | [], xs, h => by simpa only [relL, List.map_nil] using h
  | v :: r, xs, h => by
    simp only [relL, List.map_cons] at h ⊢
    obtain ⟨x, xs', h1, h2, h3⟩ := h
    exact ⟨x, xs', h1, expS_free h2, expC_free h3⟩

theorem exp_free {o : Ops} (hr : rel T φ w S (Ab.exp o hp v) x) : rel T φ2 w S (Ab.exp o hp v) x := by
  cases v with
  | agg cs =>
    simp only [Ab.exp, rel] at hr ⊢
    obtain ⟨a, h1, h2, h3⟩ := hr
    exact ⟨a, h1, expC_free h2, h3⟩
  | s v => exact expS_free (o := o) (hp := hp) (v := .s v) hr
  | i k n => exact expS_free (o := o) (hp := hp) (v := .i k n) hr
  | b c => exact expS_free (o := o) (hp := hp) (v := .b c) hr
  | str s => exact expS_free (o := o) (hp := hp) (v := .str s) hr
  | nil => exact expS_free (o := o) (hp := hp) (v := .nil) hr
  | sl et es => exact expS_free (o := o) (hp := hp) (v := .sl et es) hr
  | tup cs => exact expS_free (o := o) (hp := hp) (v := .tup cs) hr
  | ptr a b => exact expS_free (o := o) (hp := hp) (v := .ptr a b) hr
  | ep a b c => exact expS_free (o := o) (hp := hp) (v := .ep a b c) hr
  | rp a b c d => exact expS_free (o := o) (hp := hp) (v := .rp a b c d) hr
  | row a => exact expS_free (o := o) (hp := hp) (v := .row a) hr
  | rowp a b c => exact expS_free (o := o) (hp := hp) (v := .rowp a b c) hr
  | fn a b c => exact expS_free (o := o) (hp := hp) (v := .fn a b c) hr
  | nlq g es => exact expS_free (o := o) (hp := hp) (v := .nlq g es) hr
  | mp g es => exact expS_free (o := o) (hp := hp) (v := .mp g es) hr
  | dead => exact expS_free (o := o) (hp := hp) (v := .dead) hr

theorem exp_args (hh : HOk T φ b0 w S hp) : ∀ {cs : List V} {xs : List Value}, relL T φ w S cs xs → relL T (fun _ => none) w (fun k => S k ∨ OB φ ((cs.map rowsOf).flatten) k) (cs.map fun a => normV (Ab.exp (real P T w0) hp a)) xs
  | [], xs, h => by simpa only [relL, List.map_nil] using h
  | v :: r, xs, h => by
    simp only [relL, List.map_cons] at h ⊢
    obtain ⟨x, xs', h1, h2, h3⟩ := h
    have sub : ∀ {a b : List Nat}, (∀ n ∈ a, n ∈ b) → ∀ k, (S k ∨ OB φ a k) → (S k ∨ OB φ b k) := by
      intro a b hab k hk
      rcases hk with hk | ⟨n, hn, r⟩
      · exact .inl hk
      · exact .inr ⟨n, hab n hn, r⟩
    refine ⟨x, xs', h1, rel_mono (LocLe.refl _) (fun _ _ => rfl) (sub (fun n hn => ?_)) _ _ (norm_rel (exp_free (exp_ok hh h2))), relL_mono (LocLe.refl _) (fun _ _ => rfl) (sub (fun n hn => ?_)) _ _ (exp_args hh h3)⟩
    · simp only [List.flatten_cons, List.mem_append]; exact .inl hn
    · simp only [List.flatten_cons, List.mem_append]; exact .inr hn

theorem frzN_look : ∀ {ns : List Nat} {hp : Hp} {n : Nat}, look hp n = none → look (frzN hp ns ++ hp) n = none
  | [], hp, n, h => h
  | k :: r, hp, n, h => by
    simp only [frzN]
    split
    · rename_i et es hk
      rw [List.append_assoc]
      refine frzN_look ?_
      rw [look_cons, if_neg (fun e => by subst e; rw [h] at hk; cases hk)]
      exact h
    · exact frzN_look h

theorem fresh_frz {ns : List Nat} {m : Nat} : ∀ {h0 : Hp}, freshH hp m h0 = true → freshH (frzN hp ns ++ hp) m h0 = true
  | [], _ => rfl
  | (n, b) :: r, h => by
    simp only [freshH] at h ⊢
    split at h
    · rename_i hn
      rw [frzN_look hn]
      exact fresh_frz h
    · cases h

theorem OB_lt {ns : List Nat} (hh : HOk T φ b0 w S hp) (hl : liveN hp ns = true) : ∀ k, OB φ ns k → k < w.heap.size := by
  intro k ⟨n, hn, l, hφ, hB⟩
  unfold liveN at hl
  have := List.all_eq_true.1 hl n hn
  split at this
  · rename_i et es hk; exact (hh.own n _ l k hk rfl hφ hB).2.1
  · rename_i et es hk; exact hh.old k (ro_S hh hk l k hφ hB)
  · cases this

theorem Calls.weaken {P : Program} {f : FuncId} {args : Array Value} {w : World} {R R' : Ending → World → Prop} (h : Calls P f args w R) (hR : ∀ e w', R e w' → R' e w') : Calls P f args w R' := by
  intro cs
  obtain ⟨e, w', fr, h1, h2⟩ := h cs
  exact ⟨e, w', fr, hR _ _ h1, h2⟩

theorem callF_ok (hs : Since w0 w) (hh : HOk T φ w0.Z w S hp) {f : Nat} {args : List V} {vals : List Value} {m : Option Nat} {v : V} {E : Hp} (h : Res P T (callF (real P T w0) T hp f args m) v E) (hr : relL T φ w S args vals) :
    Goes P f vals.toArray w fun e w' => ∃ x, e = .returned x ∧ Left T w0 φ S hp w v E x w' := by
  unfold callF at h
  split at h
  · exact (res_fail h).elim
  · rename_i hlive
    cases h with
    | call hfn h =>
      rename_i v0 h0
      have hob := OB_lt hh hlive
      refine Goes.weaken (hfn w (fun k => S k ∨ OB φ ((args.map rowsOf).flatten) k) vals (fun k hk => hk.elim (hh.old k) (hob k)) (exp_args hh hr)) ?_
      rintro e w' ⟨x, φ', S', rfl, hsw, hh', hrx, hS'⟩
      refine ⟨x, rfl, ?_⟩
      have hw1 := hh.world hsw
      have hkeep : ∀ k, S k → w'.heap[k]? = w.heap[k]? := fun k hk => hsw.block k (hh.old k hk)
      have hlt : ∀ n b l B, look hp n = some b → b.own = true → φ n = some l → l.blk = some B → B < w.heap.size := fun n b l B hb ho hl hB => (hh.own n b l B hb ho hl hB).2.1
      -- the rows that were shown, read only from now on
      obtain ⟨S1, s1, hh1, hob1, hS1⟩ := frzN_ok ((args.map rowsOf).flatten) hw1
      have hob1 := hob1 hlive
      have hS1lt : ∀ i, S1 i → i < w.heap.size := fun i hi => by
        rcases hS1 i hi with hi | ⟨n, et, es, l, k1, k2, k3⟩
        · exact hh.old i hi
        · exact hlt n _ l i k1 rfl k2 k3
      have hlt1 : ∀ n b l B, look (frzN hp ((args.map rowsOf).flatten) ++ hp) n = some b → b.own = true → φ n = some l → l.blk = some B → B < w.heap.size :=
        fun n b l B hb ho hl hB => hlt n b l B (frzN_own hb ho) ho hl hB
      have hsub : ∀ k, w0.Z k → oldZ w k := fun k hk => Nat.lt_of_lt_of_le (w0.lt k hk) hs.size
      have hSS : ∀ k, S' k → S1 k ∨ ¬ oldZ w k := fun k hk => by
        rcases hS' k hk with (hk1 | hk1) | hk1
        · exact .inl (s1 k hk1)
        · exact .inl (hob1 k hk1)
        · exact .inr (Nat.not_lt.2 hk1)
      have hSS2 : ∀ k, S' k → S1 k ∨ (S' k ∧ ¬ oldZ w k) := fun k hk => (hSS k hk).imp id (fun h => ⟨hk, h⟩)
      have hSle : SLe w0.Z S (fun k => S1 k ∨ (S' k ∧ ¬ oldZ w k)) := ⟨fun k hk => .inl (s1 k hk), fun k hk => by
        rcases hk with hk | hk
        · exact (hS1 k hk).imp id (fun ⟨n, et, es, l, k1, k2, k3⟩ => (hw1.own n _ l k k1 rfl k2 k3).1)
        · exact .inr (fun h => hk.2 (hsub k h))⟩
      simp only at h
      split at h
      · exact (res_fail h).elim
      · rename_i hcl
        simp only [Bool.and_eq_true] at hcl
        obtain ⟨hcl, hro⟩ := hcl
        split at h
        · have hnone : ∀ n l, φ' n = some l → φ (0 + n) = some l := fun n l hn => by
            rw [(hh'.dom n).2 rfl] at hn; cases hn
          split at h
          · rename_i hsh
            obtain ⟨rfl, rfl⟩ := res_ok h
            -- read-only blocks of the answer: with the callee's new ones
            refine ⟨φ, fun k => S1 k ∨ (S' k ∧ ¬ oldZ w k), ⟨LocLe.refl _, hSle, hkeep, hs.trans hsw, ?_⟩, ?_⟩
            · have := (HOk.join (m := 0) hh1 hh' (h0 := []) rfl rfl hsub hlt1 hS1lt (fun h => by cases h)).1
              · have hj : joinφ φ φ' 0 = φ := by
                  funext n
                  cases hn : φ n with
                  | some l => simp only [joinφ, hn]
                  | none => simp only [joinφ, hn]; rw [if_pos (Nat.zero_le _)]; exact (hh'.dom _).2 rfl
                rw [hj] at this
                exact this
            · have := clean_rel (m := 0) hcl hnone (S2 := fun k => S1 k ∨ (S' k ∧ ¬ oldZ w k)) (fun _ k hk => ?_) hrx
              · rwa [ren_zero] at this
              · exact hSS2 k hk
          · rename_i hsh
            obtain ⟨rfl, rfl⟩ := res_ok h
            refine ⟨φ, S, ⟨LocLe.refl _, SLe.refl, hkeep, hs.trans hsw, hw1⟩, ?_⟩
            have := clean_rel (m := 0) hcl hnone (S2 := S) (fun h => by rw [hsh] at h; cases h) hrx
            rwa [ren_zero] at this
        · rename_i p r
          split at h
          · rename_i m'
            split at h
            · rename_i hfr
              split at h
              · rename_i hsh
                obtain ⟨rfl, rfl⟩ := res_ok h
                obtain ⟨j1, j2, j3⟩ := HOk.join (m := m') hh1 hh' (h0 := p :: r) (fresh_frz hfr) hro hsub hlt1 hS1lt (fun _ => hSS)
                refine ⟨_, fun k => S1 k ∨ (S' k ∧ ¬ oldZ w k), ⟨j2, hSle, hkeep, hs.trans hsw, ?_⟩, ?_⟩
                · rw [List.append_assoc]; exact j1
                · exact clean_rel hcl j3 (fun _ k hk => hSS2 k hk) hrx
              · rename_i hsh
                obtain ⟨rfl, rfl⟩ := res_ok h
                simp only [Bool.or_eq_false_iff] at hsh
                obtain ⟨j1, j2, j3⟩ := HOk.join (m := m') hw1 hh' (h0 := p :: r) hfr hro hsub hlt (fun i hi => hh.old i hi) (fun h => by rw [hsh.2] at h; cases h)
                refine ⟨_, _, ⟨j2, ⟨fun k hk => .inl hk, fun k hk => hk.imp id (fun h h0 => h.2 (hsub k h0))⟩, hkeep, hs.trans hsw, j1⟩, ?_⟩
                exact clean_rel hcl j3 (fun h => by rw [hsh.1] at h; cases h) hrx
            · exact (res_fail h).elim
          · exact (res_fail h).elim
end
end Go.Ab
end
section
/- A look into a map that is written out. No statement of its own. -/

namespace Go.Ab
open Go.RowKit

section
variable {P : Program} {T : Tr} {w0 : Base} {φ φ' φ2 : Nat → Option Loc} {w w' : World} {S S' S2 : Nat → Prop} {v : V} {hp : Hp} {b0 : Nat → Prop}

theorem cmp1_ok {d : TypeDesc} {t : TypeId} {vx : V} {x key : Value} {r : BV} {n : Nat} (hu : P.underlying t = some d) (h : cmp1 (real P T w0) d vx key = some r) (hx : rel T φ w S vx x) : ∃ c, bval r = some c ∧ (c = true → x = key) ∧ (Op.equalIn (n + 1) t x key).run P w = .ok c w := by
  unfold cmp1 at h
  split at h
  · rename_i k0
    split at h
    · rename_i k m
      obtain ⟨c, h1, h2⟩ := eqI_ok (φ := φ) (w := w) (S := S) (d := n) h hx (y := .int k m) (by simp [rel, Value.oneCell']) hu
      refine ⟨c, h1, fun hc => ?_, h2⟩
      subst hc
      have : ∃ a, x = .int k a := by
        unfold eqI at h
        have hk : asI (.s (.int k m)) = .lit k m := rfl
        rw [hk] at h
        split at h
        · rename_i k1 a k2 b e1 e2
          injection e2 with e2 _
          subst e2
          split at h
          · rename_i hkk
            have : k1 = k := by simpa using hkk
            subst this
            exact ⟨a, asI_lit e1 hx⟩
          · cases h
        · rename_i e2; cases e2
        · rename_i k1 a k2 b e1 e2
          injection e2 with e2 _
          subst e2
          split at h
          · rename_i hkk
            have : k1 = k := by simpa using hkk
            subst this
            exact ⟨a, asI_sym e1 hx⟩
          · cases h
        · rename_i e2; cases e2
        · cases h
      obtain ⟨a, rfl⟩ := this
      rw [run_equalIn_int w n t k k0 a m hu] at h2
      injection h2 with h2
      have : a = m := by simpa using h2
      rw [this]
    · cases h
  · split at h
    · rename_i b
      obtain ⟨c, h1, h2⟩ := eqBo_ok (φ := φ) (w := w) (S := S) (d := n) h hx (y := .bool b) (by simp [rel, Value.oneCell']) hu
      refine ⟨c, h1, fun hc => ?_, h2⟩
      subst hc
      have : ∃ a, x = .bool a := by
        unfold eqBo at h
        split at h
        · rename_i e1 e2; exact ⟨_, asB_lit e1 hx⟩
        · rename_i e1 e2; exact ⟨_, asB_lit e1 hx⟩
        · rename_i e1 e2; exact ⟨_, asB_sym e1 hx⟩
        · rename_i e1 e2; exact ⟨_, asB_sym e1 hx⟩
        · cases h
      obtain ⟨a, rfl⟩ := this
      rw [run_equalIn_bool' w n t a b hu] at h2
      injection h2 with h2
      have : a = b := by simpa using h2
      rw [this]
    · cases h
  · cases h

theorem checkKey1 {em : Bool} {d : TypeDesc} {t : TypeId} {x : Value} {n : Nat} (hu : P.underlying t = some d) (hd : (∃ k, d = .int k) ∨ d = .bool) : (Instr.checkKey em (n + 1) t x).run P w = .ok () w := by
  unfold Instr.checkKey
  rcases hd with ⟨k, rfl⟩ | rfl <;> simp [run_underlying hu]

theorem cmp1_desc {o : Ops} {d : TypeDesc} {x : V} {key : Value} {r : BV} (h : cmp1 o d x key = some r) : (∃ k, d = .int k) ∨ d = .bool := by
  unfold cmp1 at h
  split at h
  · exact .inl ⟨_, rfl⟩
  · exact .inr rfl
  · cases h

theorem eqK_ok (htok : TyOk P T) {kt : Nat} {vx : V} {x key : Value} {r : BV} (h : eqK (real P T w0) T kt vx key = some r) (hx : rel T φ w S vx x) :
    ∃ c, bval r = some c ∧ (c = true → x = key) ∧ (Op.equal kt x key).run P w = .ok c w ∧ (∀ em, (Instr.checkKey em 10000 kt x).run P w = .ok () w) := by
  unfold eqK at h
  split at h
  · rename_i e he
    have hu := htok.und _ _ he
    split at h
    · rename_i k hd
      rw [hd] at hu
      obtain ⟨c, h1, h2, h3⟩ := cmp1_ok (n := 9999) hu h hx
      exact ⟨c, h1, h2, h3, fun em => checkKey1 (n := 9999) hu (.inl ⟨_, rfl⟩)⟩
    · rename_i fs hd
      rw [hd] at hu
      split at h
      · rename_i f g x0 x1 k0 k1 heq hfs
        split at h
        · rename_i ef eg hoff hf hg
          simp only [Bool.and_eq_true, beq_iff_eq, Bool.not_eq_true', beq_eq_false_iff_ne] at hoff
          obtain ⟨⟨⟨o0, o1⟩, n0⟩, n1⟩ := hoff
          split at h
          · rename_i a b ha hb
            injection h with h
            subst h
            simp only [rel, relL] at hx
            obtain ⟨ax, rfl, ⟨u0, l0, e0, r0, u1, l1, e1, r1, e2⟩, _⟩ := hx
            subst e2; subst e1
            have huf := htok.und _ _ hf
            have hug := htok.und _ _ hg
            obtain ⟨c0, a1, a2, a3⟩ := cmp1_ok (n := 9998) huf ha r0
            obtain ⟨c1, b1, b2, b3⟩ := cmp1_ok (n := 9998) hug hb r1
            have hax : ax = #[u0, u1] := by apply Array.toList_inj.1; rw [e0]
            subst hax
            have dA : isAggD ef.desc = false := by rcases cmp1_desc ha with ⟨k, e⟩ | e <;> rw [e] <;> rfl
            have dB : isAggD eg.desc = false := by rcases cmp1_desc hb with ⟨k, e⟩ | e <;> rw [e] <;> rfl
            have p0 : ∀ q0 q1 : Value, (part f.type #[q0, q1] f.offset).run P w = .ok q0 w := fun q0 q1 => run_partS huf dA (by rw [o0]; rfl)
            have p1 : ∀ q0 q1 : Value, (part g.type #[q0, q1] g.offset).run P w = .ok q1 w := fun q0 q1 => run_partS hug dB (by rw [o1]; rfl)
            refine ⟨c0 && c1, andB_val a1 b1, fun hc => ?_, ?_, fun em => ?_⟩
            · simp only [Bool.and_eq_true] at hc
              rw [a2 hc.1, b2 hc.2]
            · have hf : P.fieldsOf kt = fs := by simp [Program.fieldsOf, hu]
              obtain ⟨hst, _⟩ := htok.eq _ _ he heq
              show (Op.equalIn 10000 kt (.agg #[u0, u1]) (.agg ⟨[k0, k1]⟩)).run P w = _
              rw [run_equalIn_struct (P := P) w 9999 kt _ _ (by rw [hf, hu]) hst, hf, hfs]
              have q0 := p0 k0 k1
              have q1 := p1 k0 k1
              have e9 : (Op.eqFields 9999 #[u0, u1] ⟨[k0, k1]⟩ [g]).run P w = .ok c1 w := by
                rw [Op.eqFields]
                simp only [if_pos n1, Sem.run_bind, p1, q1, b3, Result.andThen_ok]
                cases c1
                · simp
                · simp [Op.eqFields]
              rw [Op.eqFields]
              simp only [if_pos n0, Sem.run_bind, p0, q0, a3, Result.andThen_ok]
              cases c0
              · simp
              · simpa using e9
            · have hl : fs = #[f, g] := by apply Array.toList_inj.1; rw [hfs]
              subst hl
              have ch0 := checkKey1 (P := P) (w := w) (em := em) (x := u0) (n := 9998) huf (cmp1_desc ha)
              have ch1 := checkKey1 (P := P) (w := w) (em := em) (x := u1) (n := 9998) hug (cmp1_desc hb)
              unfold Instr.checkKey
              simp only [Sem.run_bind, run_underlying hu, Result.andThen_ok]
              simp [n0, n1, Sem.run_bind, p0, p1, ch0, ch1]
          · cases h
        · cases h
      · cases h
    · cases h
  · cases h

def firstBy (eqv : Value → Bool) : List MapEntry → Nat → Option (Nat × Value)
  | [], _ => none
  | e :: es, i => if eqv e.key = true then some (i, e.val) else firstBy eqv es (i + 1)

theorem findAsking_by {kt : TypeId} {x : Value} {eqv : Value → Bool} : ∀ (es : List MapEntry) (i : Nat), (∀ e ∈ es, (Op.equal kt x e.key).run P w = .ok (eqv e.key) w) → (Instr.findAsking kt x es i).run P w = .ok (firstBy eqv es i) w
  | [], _, _ => by simp [Instr.findAsking, firstBy]
  | e :: es, i, h => by
    have h1 := h e (by simp)
    have ih := findAsking_by es (i + 1) (fun e' he => h e' (by simp [he]))
    unfold Instr.findAsking firstBy
    simp only [Sem.run_bind, h1, Result.andThen_ok]
    cases hb : eqv e.key
    · simp [ih]
    · simp

theorem findNow_by {k : IntKind} {x : Int} {eqv : Value → Bool} : ∀ (es : List MapEntry) (i : Nat), (∀ e ∈ es, ∃ n, e.key = .int k n ∧ eqv e.key = (x == n)) → Instr.findNow (.int k) (.int k x) es i = some (firstBy eqv es i)
  | [], _, _ => rfl
  | e :: es, i, h => by
    obtain ⟨n, hn, hq⟩ := h e (by simp)
    have ih := findNow_by es (i + 1) (fun e' he => h e' (by simp [he]))
    have e1 : Instr.sameNow (.int k) (.int k x) (.int k n) = some (x == n) := by simp [Instr.sameNow]
    unfold Instr.findNow firstBy
    rw [hq, hn, e1]
    cases (x == n) <;> simp [ih]

theorem firstBy_none {eqv : Value → Bool} : ∀ {es : List MapEntry} {i : Nat}, (∀ e ∈ es, eqv e.key = false) → firstBy eqv es i = none
  | [], _, _ => rfl
  | e :: es, i, h => by
    unfold firstBy
    rw [if_neg (by rw [h e (by simp)]; decide)]
    exact firstBy_none (fun e' he => h e' (by simp [he]))

theorem firstBy_some {eqv : Value → Bool} : ∀ {es : List MapEntry} {i : Nat}, (∃ e ∈ es, eqv e.key = true) → ∃ j e, e ∈ es ∧ eqv e.key = true ∧ firstBy eqv es i = some (j, e.val)
  | [], _, ⟨_, h, _⟩ => by cases h
  | e :: es, i, ⟨e', he', hb'⟩ => by
    unfold firstBy
    by_cases hb : eqv e.key = true
    · rw [if_pos hb]
      exact ⟨i, e, by simp, hb, rfl⟩
    · rw [if_neg hb]
      rcases List.mem_cons.1 he' with rfl | he'
      · exact absurd hb' hb
      obtain ⟨j, e1, h1, h2, h3⟩ := firstBy_some (i := i + 1) ⟨e', he', hb'⟩
      exact ⟨j, e1, by simp [h1], h2, h3⟩

theorem findNow_agrees {kt : TypeId} {kk : IntKind} {xk : Value} {eqv : Value → Bool} (hu : P.underlying kt = some (.int kk)) : ∀ (es : List MapEntry) (i : Nat) {rr : Option (Nat × Value)}, (∀ e ∈ es, (Op.equal kt xk e.key).run P w = .ok (eqv e.key) w) → Instr.findNow (.int kk) xk es i = some rr → rr = firstBy eqv es i
  | [], i, rr, _, h => by unfold Instr.findNow at h; injection h with h; exact h.symm
  | e :: es, i, rr, hq, h => by
    have h1 := hq e (by simp)
    unfold Instr.findNow at h
    unfold firstBy
    cases hs : Instr.sameNow (.int kk) xk e.key with
    | none => rw [hs] at h; cases h
    | some c =>
      rw [hs] at h
      have : eqv e.key = c := by
        generalize e.key = y at hs h1 ⊢
        cases xk <;> cases y <;> simp [Instr.sameNow] at hs
        rename_i k a k' b
        obtain ⟨rfl, hs⟩ := hs
        rw [show (Op.equal kt (.int k a) (.int k b)).run P w = .ok (a == b) w from run_equalIn_int w 9999 kt k kk a b hu] at h1
        injection h1 with h1
        rw [← h1, ← hs]
      rw [this]
      cases c with
      | true => simp at h ⊢; exact h.symm
      | false =>
        simp at h ⊢
        exact findNow_agrees hu es (i + 1) (fun e' he => hq e' (by simp [he])) h

theorem lookL_ok {kt : Nat} {k z : V} {ok : Bool} {eqv : Value → Bool} {v : V} {E : Hp} : ∀ {L : List (Value × Value)}, (∀ p ∈ L, ∃ r, eqK (real P T w0) T kt k p.1 = some r ∧ bval r = some (eqv p.1)) → Res P T (lookL (real P T w0) T kt k ok z L) v E →
    (∃ p ∈ L, eqv p.1 = true ∧ Res P T (hitF ok (ofE p.2)) v E) ∨ ((∀ p ∈ L, eqv p.1 = false) ∧ Res P T (missF ok z) v E)
  | [], _, h => .inr ⟨fun p hp => by (cases hp), h⟩
  | (key, val) :: r, hk, h => by
    obtain ⟨b, h1, h2⟩ := hk _ List.mem_cons_self
    have ih := lookL_ok (z := z) (ok := ok) (L := r) (v := v) (E := E) (fun p hp => hk p (List.mem_cons_of_mem _ hp))
    have next : eqv key = false → Res P T (lookL (real P T w0) T kt k ok z r) v E → (∃ p ∈ (key, val) :: r, eqv p.1 = true ∧ Res P T (hitF ok (ofE p.2)) v E) ∨ ((∀ p ∈ (key, val) :: r, eqv p.1 = false) ∧ Res P T (missF ok z) v E) := fun hf hr => by
      rcases ih hr with ⟨p, hp, h3⟩ | ⟨h3, h4⟩
      · exact .inl ⟨p, List.mem_cons_of_mem _ hp, h3⟩
      · refine .inr ⟨fun p hp => ?_, h4⟩
        rcases List.mem_cons.1 hp with rfl | hp
        · exact hf
        · exact h3 p hp
    unfold lookL at h
    rw [h1] at h
    cases b with
    | lit c =>
      simp only [bval, Option.some.injEq] at h2
      cases c with
      | true => exact .inl ⟨_, List.mem_cons_self, h2.symm, h⟩
      | false => exact next h2.symm h
    | sym c =>
      simp only [bval, Option.some.injEq] at h2
      cases h with
      | brT hc h => subst hc; exact .inl ⟨_, List.mem_cons_self, h2.symm, h⟩
      | brF hc h => subst hc; exact next h2.symm h
    | no => cases h2

theorem ofE_rel {φ S w} : ∀ v : Value, rel T φ w S (ofE v) v := by
  intro v
  unfold ofE
  split
  · rename_i f a b
    split
    · rename_i ha hb
      simp only [rel, relL]
      have e1 : a = #[] := Array.eq_empty_of_size_eq_zero ha
      have e2 : b = #[] := Array.eq_empty_of_size_eq_zero hb
      subst e1; subst e2
      exact ⟨#[], #[], rfl, rfl, rfl⟩
    · simp only [rel]
  · exact ofV_rel _

theorem lookupF_ok (htok : TyOk P T) {t : Nat} {m k : V} {ok : Bool} {v : V} {E : Hp} {xm xk : Value} (h : Res P T (lookupF (real P T w0) T t m k ok) v E) (hm : rel T φ w S m xm) (hk : rel T φ w S k xk) : Gives P T φ w S (Instr.lookup t xm xk ok) v E := by
  unfold lookupF at h
  split at h
  · rename_i t' L
    split at h
    · rename_i e p r htt he
      split at h
      · rename_i kt et hd
        split at h
        · rename_i ez hall hez
          have hu := htok.und _ _ he
          rw [hd] at hu
          simp only [rel] at hm
          obtain ⟨g, es, clk, rfl, hS, hg, m1, m2, m3⟩ := hm
          have ex : ∀ q ∈ p :: r, ∃ b, eqK (real P T w0) T kt k q.1 = some b := fun q hq => Option.isSome_iff_exists.1 (List.all_eq_true.1 hall q hq)
          have key : ∀ q ∈ p :: r, ∃ b c, eqK (real P T w0) T kt k q.1 = some b ∧ bval b = some c ∧ (c = true → xk = q.1) ∧ (Op.equal kt xk q.1).run P w = .ok c w ∧ (∀ em, (Instr.checkKey em 10000 kt xk).run P w = .ok () w) := fun q hq => by
            obtain ⟨b, hb⟩ := ex q hq
            obtain ⟨c, h1, h2, h3, h4⟩ := eqK_ok htok hb hk
            exact ⟨b, c, hb, h1, h2, h3, h4⟩
          classical
          generalize hev : (fun key : Value => decide ((Op.equal kt xk key).run P w = .ok true w)) = eqv
          have hq : ∀ q ∈ p :: r, (Op.equal kt xk q.1).run P w = .ok (eqv q.1) w ∧ (eqv q.1 = true → xk = q.1) ∧ ∃ b, eqK (real P T w0) T kt k q.1 = some b ∧ bval b = some (eqv q.1) := fun q hq => by
            obtain ⟨b, c, h1, h2, h3, h4, _⟩ := key q hq
            have : eqv q.1 = c := by
              rw [← hev]
              cases c with
              | true => simpa using h4
              | false => simp [h4]
            rw [this]
            exact ⟨h4, h3, b, h1, h2⟩
          have hchk : ∀ em, (Instr.checkKey em 10000 kt xk).run P w = .ok () w := by
            obtain ⟨_, _, _, _, _, _, h5⟩ := key p List.mem_cons_self
            exact h5
          have hfind : (Instr.findKey kt xk es.toList).run P w = .ok (firstBy eqv es.toList 0) w := by
            have hask := findAsking_by (P := P) (w := w) (kt := kt) (x := xk) (eqv := eqv) es.toList 0 (fun e he => (hq _ (m1 e he)).1)
            obtain ⟨b0, c0, k1, _⟩ := key p List.mem_cons_self
            unfold eqK at k1
            split at k1
            · rename_i ek hek
              have huk := htok.und _ _ hek
              split at k1
              · rename_i kk hkd
                rw [hkd] at huk
                -- an integer
                have hx : ∃ a, xk = .int kk a ∨ True := ⟨0, .inr trivial⟩
                unfold Instr.findKey
                simp only [Sem.run_bind, run_underlying huk, Result.andThen_ok]
                cases hnow : Instr.findNow (.int kk) xk es.toList 0 with
                | none => exact hask
                | some rr =>
                  have := findNow_agrees (P := P) (w := w) (kt := kt) (eqv := eqv) huk es.toList 0 (fun e he => (hq _ (m1 e he)).1) hnow
                  rw [← this]; rfl
              · rename_i fs hkd
                rw [hkd] at huk
                unfold Instr.findKey
                simp only [Sem.run_bind, run_underlying huk, Result.andThen_ok]
                cases hes : es.toList with
                | nil => simp [Instr.findNow, firstBy]
                | cons e0 es0 =>
                  have : Instr.findNow (.struct fs) xk (e0 :: es0) 0 = none := by
                    unfold Instr.findNow
                    rfl
                  rw [this]
                  rw [hes] at hask
                  exact hask
              · cases k1
            · cases k1
          have hget : (Instr.lookup t (.map (some g)) xk ok).run P w = (match firstBy eqv es.toList 0 with | some (_, vv) => Result.ok (if ok = true then .tuple #[vv, .bool true] else vv) w | none => Result.ok (if ok = true then .tuple #[ez.zero, .bool false] else ez.zero) w) := by
            obtain ⟨i, hi, _, _, hz⟩ := htok.info _ _ hez
            cases hfb : firstBy eqv es.toList 0 with
            | some jv => rw [hfb] at hfind; cases ok <;> simp [Instr.lookup, run_underlying hu, MapKept.run_getObj_map hg, hchk, hfind, Result.andThen]
            | none => rw [hfb] at hfind; cases ok <;> simp [Instr.lookup, run_underlying hu, MapKept.run_getObj_map hg, hchk, hfind, zeroValue, typeInfo, hi, hz, Result.andThen]
          rcases lookL_ok (fun q hq' => (hq q hq').2.2) h with ⟨q, hqm, hqt, hr⟩ | ⟨hn, hr⟩
          · obtain ⟨e0, he0, e1⟩ := m2 q hqm
            obtain ⟨j, e2, he2, hb2, hj⟩ := firstBy_some (eqv := eqv) (i := 0) ⟨e0, he0, by rw [e1] at hqt; exact hqt⟩
            have hk1 : xk = q.1 := (hq q hqm).2.1 hqt
            have hk2 : xk = e2.key := (hq _ (m1 e2 he2)).2.1 hb2
            have hval : e2.val = q.2 := by
              have hm2 := m1 e2 he2
              by_cases hne : (e2.key, e2.val) = q
              · rw [← hne]
              · exfalso
                have heq : e2.key = q.1 := by rw [← hk2, hk1]
                obtain ⟨i1, hi1, hq1⟩ := List.getElem_of_mem hm2
                obtain ⟨i2, hi2, hq2⟩ := List.getElem_of_mem hqm
                rcases Nat.lt_trichotomy i1 i2 with hlt | hlt | hlt
                · have := List.pairwise_iff_getElem.1 m3 i1 i2 hi1 hi2 hlt
                  rw [hq1, hq2] at this; exact this heq
                · subst hlt; exact hne (hq1.symm.trans hq2)
                · have := List.pairwise_iff_getElem.1 m3 i2 i1 hi2 hi1 hlt
                  rw [hq1, hq2] at this; exact this heq.symm
            rw [hj] at hget
            unfold hitF at hr
            cases ok with
            | true =>
              obtain ⟨rfl, rfl⟩ := res_ok hr
              refine ⟨rfl, _, hget, ?_⟩
              simp only [rel, relL, if_true]
              refine ⟨_, rfl, _, _, rfl, ?_, _, _, rfl, ⟨rfl, rfl⟩, rfl⟩
              rw [hval]; exact ofE_rel _
            | false =>
              obtain ⟨rfl, rfl⟩ := res_ok hr
              refine ⟨rfl, _, hget, ?_⟩
              simp only [Bool.false_eq_true, if_false]
              rw [hval]; exact ofE_rel _
          · rw [firstBy_none (fun e he => hn _ (m1 e he))] at hget
            unfold missF at hr
            cases ok with
            | true =>
              obtain ⟨rfl, rfl⟩ := res_ok hr
              refine ⟨rfl, _, hget, ?_⟩
              simp only [rel, relL, if_true]
              exact ⟨_, rfl, _, _, rfl, ofV_rel _, _, _, rfl, ⟨rfl, rfl⟩, rfl⟩
            | false =>
              obtain ⟨rfl, rfl⟩ := res_ok hr
              refine ⟨rfl, _, hget, ?_⟩
              simp only [Bool.false_eq_true, if_false]
              exact ofV_rel _
        · exact (res_fail h).elim
      · exact (res_fail h).elim
    · exact (res_fail h).elim
  · exact (res_fail h).elim
end
end Go.Ab
end
section
/- Each operation does what the calculus says: all of them. No statement of its own. -/

namespace Go.Ab
open Go.RowKit

section
variable {P : Program} {T : Tr} {w0 : Base} {φ φ' φ2 : Nat → Option Loc} {w w' : World} {S S' S2 : Nat → Prop} {v : V} {hp : Hp} {b0 : Nat → Prop} {x : Oper} {a : Act}

theorem runs_v {m : Sem Value} {R : Value → World → Prop} (he : execOp a.eval x = (do pure (.value (← m)))) (h : ∃ xv w', m.run P w = .ok xv w' ∧ R xv w') : Runs P x a w R := by
  obtain ⟨xv, w', h1, h2⟩ := h
  refine runs_value ?_ h2
  rw [he, Sem.run_bind, h1]
  rfl

theorem runs_u {m : Sem Unit} {R : Value → World → Prop} (he : execOp a.eval x = (do m; pure .skip)) (h : ∃ w', m.run P w = .ok () w' ∧ R undef w') : Runs P x a w R := by
  obtain ⟨w', h1, h2⟩ := h
  refine runs_skip ?_ h2
  rw [he, Sem.run_bind, h1]
  rfl

theorem dstN_look {m : Nat} (h : dstN hp x = some m) : look hp m = none := by
  unfold dstN at h
  split at h
  · split at h
    · rename_i hn; injection h with h; subst h; exact hn
    · cases h
  · cases h

theorem argsL_one {tm : List V} {xs : Array Operand} {b : V} (hi : Inv T w0 φ S tm hp a w) (h : argsL tm xs = [b]) : ∃ y, xs.map a.eval = #[y] ∧ rel T φ w S b y := by
  have := argsL_rel hi xs
  rw [h] at this
  simp only [relL] at this
  obtain ⟨y, ys, h1, h2, h3⟩ := this
  subst h3
  exact ⟨y, Array.ext' (by simpa using h1), h2⟩

theorem argsL_two {tm : List V} {xs : Array Operand} {b c : V} (hi : Inv T w0 φ S tm hp a w) (h : argsL tm xs = [b, c]) : ∃ y z, xs.map a.eval = #[y, z] ∧ rel T φ w S b y ∧ rel T φ w S c z := by
  have := argsL_rel hi xs
  rw [h] at this
  simp only [relL] at this
  obtain ⟨y, ys, h1, h2, z, zs, h3, h4, h5⟩ := this
  subst h5; subst h3
  exact ⟨y, z, Array.ext' (by simpa using h1), h2, h4⟩

theorem runs_b {c : Call} {b : Builtin} {m : Sem Value} {R : Value → World → Prop} (hop : x.op = .call c) (hc : c.callee = .builtin b)
    (hb : ∀ consts, builtin b c.argTypes x.type consts (c.args.map a.eval) = (do pure (.value (← m)))) (h : ∃ xv w', m.run P w = .ok xv w' ∧ R xv w') : Runs P x a w R := by
  obtain ⟨xv, w', h1, h2⟩ := h
  refine runs_value ?_ h2
  simp [execOp, hop, resolve, hc, invoke, hb, h1]

theorem runs_c {c : Call} {f : Operand} {g : FuncId} {fs cs : Array Value} {R : Value → World → Prop} (hop : x.op = .call c) (hc : c.callee = .value f) (hf : a.eval f = .func (.func g) fs cs)
    (h : Goes P g (fs ++ c.args.map a.eval ++ cs) w fun e w' => ∃ x, e = .returned x ∧ R x w') : Runs P x a w R := by
  rcases h with ⟨hb, h⟩ | ⟨y, w', h1, z, h2, h3⟩
  case inr =>
    injection h2 with h2
    subst h2
    refine runs_value ?_ h3
    simp [execOp, hop, resolve, hc, hf, Deferred.ofValue, invoke]
    rw [← Array.append_assoc]; exact h1
  intro next Q hn
  obtain ⟨fn, cc, b1, b2, b3⟩ := hb
  have hrun : (execOp a.eval x).run P w = .ok (.enter g (fs ++ c.args.map a.eval ++ cs)) w := by
    simp [execOp, hop, resolve, hc, hf, Deferred.ofValue, invoke, callFunc, b1, b2, b3]
    simpa using b2
  unfold Oper.wp
  rw [hrun, Oper.upon_enter]
  exact Calls.weaken h (fun e w' ⟨y, e1, e2⟩ => by subst e1; exact hn _ _ e2)

theorem opF_ok (htok : TyOk P T) {tm : List V} (hi : Inv T w0 φ S tm hp a w) {E : Hp} (h : Res P T (opF (real P T w0) T tm hp x) v E) : Runs P x a w (Left T w0 φ S hp w v E) := by
  have hs := hi.since
  have hh := hi.heap
  have here : ∀ {v xv}, rel T φ w S v xv → Left T w0 φ S hp w v [] xv w := fun h => ⟨φ, S, Ext.refl hs hh, h⟩
  have out : ∀ {m : Sem Value} {v E}, Gives P T φ w S m v E → ∃ xv w', m.run P w = .ok xv w' ∧ Left T w0 φ S hp w v E xv w' := fun h => h.left hs hh
  unfold opF at h
  split at h
  · -- move
    rename_i o hop
    obtain ⟨rfl, rfl⟩ := res_ok h
    exact runs_value (by simp [execOp, hop]) (here (ev_rel hi o))
  · rename_i o hop
    obtain ⟨rfl, rfl⟩ := res_ok h
    exact runs_value (by simp [execOp, hop]) (here (ev_rel hi o))
  · -- pick
    rename_i c y z hop
    have hc := ev_rel hi c
    split at h
    · rename_i e
      have := asB_lit e hc
      obtain ⟨rfl, rfl⟩ := res_ok h
      exact runs_value (by simp [execOp, hop, this, asBool]) (here (ev_rel hi y))
    · rename_i e
      have := asB_lit e hc
      obtain ⟨rfl, rfl⟩ := res_ok h
      exact runs_value (by simp [execOp, hop, this, asBool]) (here (ev_rel hi z))
    · rename_i e
      have := asB_sym e hc
      cases h with
      | brT hcb h =>
        obtain ⟨rfl, rfl⟩ := res_ok h
        exact runs_value (by simp [execOp, hop, this, asBool, hcb]) (here (ev_rel hi y))
      | brF hcb h =>
        obtain ⟨rfl, rfl⟩ := res_ok h
        exact runs_value (by simp [execOp, hop, this, asBool, hcb]) (here (ev_rel hi z))
    · exact (res_fail h).elim
  · -- alloc
    rename_i t hop
    split at h
    · rename_i e n he hn
      split at h
      · rename_i hst
        obtain ⟨rfl, rfl⟩ := res_ok h
        obtain ⟨i, hi0, hsz, hby, hz⟩ := htok.info _ _ he
        refine runs_v (m := Instr.alloc t true (.tuple #[])) (by unfold execOp; rw [hop]) ⟨_, _, ?_, box_left hs hh (dstN_look hn) hst (zero_rel e)⟩
        simp [Instr.alloc, zeroValue, typeInfo, hi0, hz, newVar, newRow]
      · exact (res_fail h).elim
    · exact (res_fail h).elim
  · -- box
    rename_i t o hop
    split at h
    · rename_i n hn hst
      obtain ⟨rfl, rfl⟩ := res_ok h
      refine runs_v (m := Instr.box t (a.eval o)) (by unfold execOp; rw [hop]) ⟨_, _, ?_, box_left hs hh (dstN_look hn) hst (ev_rel hi o)⟩
      simp [Instr.box, newVar, newRow]
    · exact (res_fail h).elim
  · rename_i t ps hop
    exact runs_v (by unfold execOp; rw [hop]) (out (buildF_ok htok hi h))
  · rename_i t n ps hop
    exact runs_v (by unfold execOp; rw [hop]) (buildSliceF_ok htok hi h)
  · rename_i t o hop
    exact runs_v (by unfold execOp; rw [hop]) (out (loadF_ok htok hh h (ev_rel hi o)))
  · -- store
    rename_i t o y hop
    refine runs_u (m := Instr.storeAt t (a.eval o) (a.eval y)) (by unfold execOp; rw [hop]) ?_
    have ho := ev_rel hi o
    have hy := ev_rel hi y
    have fin : ∀ {E}, (∃ w', (Instr.storeAt t (a.eval o) (a.eval y)).run P w = .ok () w' ∧ LeftS T w0 φ S hp w E w') → ∃ w', (Instr.storeAt t (a.eval o) (a.eval y)).run P w = .ok () w' ∧ Left T w0 φ S hp w .dead E undef w' := by
      rintro E ⟨w', h1, φ', S', h2⟩
      exact ⟨w', h1, φ', S', h2, by simp only [rel]⟩
    unfold storeF at h
    split at h
    · rename_i n off e
      rw [e] at ho
      split at h
      · rename_i u cs hl
        split at h
        · rename_i h1 h2
          obtain ⟨rfl, rfl⟩ := res_ok h
          simp only [Bool.and_eq_true, beq_iff_eq, Nat.blt_eq, Nat.ble_eq] at h1 h2
          exact fin (storeBox_ok htok hs hh hl ho hy h1.1.1 h1.1.2 (by omega) h2)
        · exact (res_fail h).elim
      · exact (res_fail h).elim
    · rename_i n i j e
      rw [e] at ho
      split at h
      rename_i v' E' hfz
      obtain ⟨S1, s1, s2, s3⟩ := frz_ok hh hy hfz
      split at h
      · rename_i et es hl
        split at h
        · rename_i h1 h2
          obtain ⟨rfl, rfl⟩ := res_ok h
          simp only [Bool.and_eq_true, beq_iff_eq, Nat.blt_eq, Nat.ble_eq] at h1
          obtain ⟨w', k1, φ2, S2, k2⟩ := storeRow_ok (w0 := w0) htok hs s2 hl (rel_mono (LocLe.refl _) (fun _ _ => rfl) s1.1 _ _ ho) (unNil_rel (norm_rel s3)) h1.1.1 h2 (by omega) h1.2
          refine fin ⟨w', k1, φ2, S2, ⟨k2.loc, s1.trans k2.sle, fun k hk => k2.keep k (s1.1 k hk), k2.since, ?_⟩⟩
          have := k2.heap
          simpa using this
        · exact (res_fail h).elim
      · exact (res_fail h).elim
    · exact (res_fail h).elim
  · -- nilCheck
    rename_i o hop
    have hr := ev_rel hi o
    split at h
    · rename_i n j e
      obtain ⟨rfl, rfl⟩ := res_ok h
      rw [e] at hr
      have hr' := hr
      simp only [rel] at hr'
      obtain ⟨B, _, hx⟩ := hr'
      exact runs_value (by simp [execOp, hop, hx]) (here (hx ▸ hr))
    · rename_i n i j e
      obtain ⟨rfl, rfl⟩ := res_ok h
      rw [e] at hr
      have hr' := hr
      simp only [rel] at hr'
      obtain ⟨B, off, len, room, sz, _, _, _, hx⟩ := hr'
      exact runs_value (by simp [execOp, hop, hx]) (here (hx ▸ hr))
    · rename_i u es i j e
      obtain ⟨rfl, rfl⟩ := res_ok h
      rw [e] at hr
      have hr' := hr
      simp only [rel] at hr'
      obtain ⟨ad, e', _, _, _, _, _, _, _, hx⟩ := hr'
      exact runs_value (by simp [execOp, hop, hx]) (here (hx ▸ hr))
    · exact (res_fail h).elim
  · -- binOp
    rename_i op t y z fl hop
    split at h
    · rename_i hz
      have hrz := ev_rel hi z
      rw [hz] at hrz
      simp only [rel] at hrz
      refine runs_v (m := do eqGuard op t y z (a.eval y) (a.eval z); binOp op t (a.eval y) (a.eval z)) (by unfold execOp; rw [hop]) (out ?_)
      rw [hrz]
      exact nilF_ok htok h (ev_rel hi y)
    · exact runs_v (m := do eqGuard op t y z (a.eval y) (a.eval z); binOp op t (a.eval y) (a.eval z)) (by unfold execOp; rw [hop]) (out (binF_ok htok h (ev_rel hi y) (ev_rel hi z)))
  · rename_i op t y hop
    exact runs_v (by unfold execOp; rw [hop]) (out (unF_ok h (ev_rel hi y)))
  · rename_i s d y hop
    exact runs_v (by unfold execOp; rw [hop]) (convF_ok htok hs hh (fun m hm => dstN_look hm) h (ev_rel hi y))
  · -- makeFunc
    rename_i f fs cs hop
    obtain ⟨rfl, rfl⟩ := res_ok h
    refine runs_v (m := Instr.makeFunc f (fs.map a.eval) (cs.map a.eval)) (by unfold execOp; rw [hop]) ⟨_, _, rfl, here ?_⟩
    simp only [rel]
    exact ⟨_, _, rfl, argsL_rel hi fs, argsL_rel hi cs⟩
  · -- makeSlice
    rename_i t l c hop
    split at h
    · rename_i u eu m n q hel hm hn hq
      split at h
      · rename_i ta tb hok
        split at h
        · rename_i hab
          obtain rfl : ta = tb := by simpa using hab
          simp only [Bool.and_eq_true] at hok
          obtain ⟨h0, h⟩ := res_need h
          obtain ⟨hroom, h⟩ := res_need h
          obtain ⟨rfl, rfl⟩ := res_ok h
          obtain ⟨k, hk⟩ := asZ_some hn (ev_rel hi (.tmp ta))
          refine runs_v (m := Instr.makeSlice t (a.eval (.tmp ta)) (a.eval (.tmp ta))) (by unfold execOp; rw [hop]) ?_
          rw [hk]
          have hp0 : 0 < eu.size := by have := hok.2; simp [Nat.blt] at this; omega
          exact makeF_ok htok hs hh hel (dstN_look hm) hok.1.1 hok.1.2 hp0 h0 hroom
        · exact (res_fail h).elim
      · exact (res_fail h).elim
    · exact (res_fail h).elim
  · rename_i t y lo hi' hop
    exact runs_v (m := Instr.sliceAt t (a.eval y) (lo.map a.eval) (hi'.map a.eval) none) (by unfold execOp; rw [hop]; rfl) (out (sliceF_ok htok hi h (ev_rel hi y)))
  · rename_i t y lo hi' mx hop
    exact runs_v (m := Instr.sliceAt t (a.eval y) (lo.map a.eval) (hi'.map a.eval) (some (a.eval mx))) (by unfold execOp; rw [hop]; rfl) (slice3F_ok htok hi (fun m hm => dstN_look hm) h (ev_rel hi y))
  · rename_i t y f hop
    exact runs_v (by unfold execOp; rw [hop]) (out (fieldAddrF_ok htok h (ev_rel hi y)))
  · rename_i t y f hop
    exact runs_v (by unfold execOp; rw [hop]) (out (fieldF_ok htok h (ev_rel hi y)))
  · -- indexAddr
    rename_i t y ix hop
    split at h
    · rename_i e he
      have hu := htok.und _ _ he
      split at h
      · rename_i u hd
        rw [hd] at hu
        exact runs_v (by unfold execOp; rw [hop]) (out (idxAddr_ok htok hh hu h (ev_rel hi y) (ev_rel hi ix)))
      · rename_i n u hd
        rw [hd] at hu
        split at h
        · exact (res_fail h).elim
        · rename_i hsz
          split at h
          · exact runs_v (by unfold execOp; rw [hop]) (out (idxArr_ok htok hu (by simpa using hsz) h (ev_rel hi y) (ev_rel hi ix)))
          · exact runs_v (by unfold execOp; rw [hop]) (out (idxArrF_ok htok hu (by simpa using hsz) h (ev_rel hi y) (ev_rel hi ix)))
      · exact (res_fail h).elim
    · exact (res_fail h).elim
  · -- index
    rename_i t y ix hop
    split at h
    · rename_i e he
      have hu := htok.und _ _ he
      split at h
      · rename_i hd
        rw [hd] at hu
        exact runs_v (by unfold execOp; rw [hop]) (out (indexStr_ok hu h (ev_rel hi y) (ev_rel hi ix)))
      · rename_i n u hd
        rw [hd] at hu
        split at h
        · exact runs_v (by unfold execOp; rw [hop]) (out (indexArr_ok htok hu h (ev_rel hi y) (ev_rel hi ix)))
        · exact runs_v (by unfold execOp; rw [hop]) (out (idxArrI_ok htok hu h (ev_rel hi y) (ev_rel hi ix)))
      · exact (res_fail h).elim
    · exact (res_fail h).elim
  · rename_i t m k ok hop
    exact runs_v (by unfold execOp; rw [hop]) (out (lookupF_ok htok h (ev_rel hi m) (ev_rel hi k)))
  · rename_i y i hop
    exact runs_v (by unfold execOp; rw [hop]) (out (extract_ok h (ev_rel hi y)))
  · -- call
    rename_i c hop
    split at h
    · rename_i f hf
      split at h
      · rename_i g fs cs hfn
        have hr := ev_rel hi f
        rw [hfn] at hr
        simp only [rel] at hr
        obtain ⟨b, d, hx, r1, r2⟩ := hr
        have h2 := callF_ok hs hh h (relL_app (relL_app r1 (argsL_rel hi c.args)) r2)
        refine runs_c hop hf hx ?_
        have e : (b.toList ++ (c.args.map a.eval).toList ++ d.toList).toArray = b ++ c.args.map a.eval ++ d := by apply Array.ext'; simp
        rw [← e]
        exact h2
      · exact (res_fail h).elim
    · rename_i hf
      split at h
      · rename_i b t hb ht
        obtain ⟨y, hy, hr⟩ := argsL_one hi hb
        refine runs_b (m := Builtin.len_ c.argTypes x.type (c.args.map a.eval)) hop hf (fun _ => rfl) ?_
        rw [hy]; exact out (lenF_ok htok hh ht h hr)
      · exact (res_fail h).elim
    · rename_i hf
      split at h
      · rename_i b d t t' hb ht
        obtain ⟨y, z, hy, hr1, hr2⟩ := argsL_two hi hb
        split at h
        · rename_i htt
          obtain rfl : t = t' := by simpa using htt
          have hta : c.argTypes = #[t, t] := Array.ext' (by simpa using ht)
          refine runs_b (m := Builtin.append_ c.argTypes x.type (c.args.map a.eval)) hop hf (fun _ => rfl) ?_
          rw [hy, hta]; exact appF_ok htok hs hh (fun m hm => dstN_look hm) h hr1 hr2
        · have hta : c.argTypes = #[t, t'] := Array.ext' (by simpa using ht)
          refine runs_b (m := Builtin.append_ c.argTypes x.type (c.args.map a.eval)) hop hf (fun _ => rfl) ?_
          rw [hy, hta]; exact appZF_ok htok hs hh (fun m hm => dstN_look hm) h hr1 hr2
      · exact (res_fail h).elim
    · rename_i hf
      split at h
      · rename_i b d t t' hb ht
        obtain ⟨y, z, hy, hr1, hr2⟩ := argsL_two hi hb
        have hta : c.argTypes = #[t, t'] := Array.ext' (by simpa using ht)
        refine runs_b (m := Builtin.copy_ c.argTypes x.type (c.args.map a.eval)) hop hf (fun _ => rfl) ?_
        rw [hy, hta]; exact copyF_ok htok hs hh h hr1 hr2
      · exact (res_fail h).elim
    · rename_i hf
      split at h
      · rename_i b t hb ht
        obtain ⟨y, hy, hr⟩ := argsL_one hi hb
        have hta : c.argTypes = #[t] := Array.ext' (by simpa using ht)
        refine runs_b (m := Builtin.clear_ c.argTypes x.type (c.args.map a.eval)) hop hf (fun _ => rfl) ?_
        rw [hy, hta]; exact clearF_ok htok hs hh h hr
      · exact (res_fail h).elim
    · rename_i hf
      refine runs_b (m := Builtin.min_ c.argTypes x.type (c.args.map a.eval)) hop hf (fun _ => rfl) (out (minmax_ok h (argsL_rel hi c.args) (fun k k' p q e => ?_)))
      rw [e]
      simp [Builtin.min_, Builtin.min2, real]
    · rename_i hf
      refine runs_b (m := Builtin.max_ c.argTypes x.type (c.args.map a.eval)) hop hf (fun _ => rfl) (out (minmax_ok h (argsL_rel hi c.args) (fun k k' p q e => ?_)))
      rw [e]
      simp [Builtin.max_, Builtin.max2, real]
    · exact (res_fail h).elim
  · exact (res_fail h).elim
end
end Go.Ab
end
section
/- Regions: what they come to, in the text's order. No statement of its own. -/

namespace Go.Ab
open Go.RowKit

structure Ent where
  d : Option Nat
  v : V
  E : Hp
  f : Foot

section
variable {P : Program} {T : Tr} {w0 : Base} {φ φ' φ2 : Nat → Option Loc} {w w' : World} {S S' S2 : Nat → Prop} {v : V} {hp : Hp} {b0 : Nat → Prop} {x : Oper} {a : Act} {ops : Array Oper}

def GuardIs (ops : Array Oper) (tm : List V) (x : Oper) (res : Bool) : Prop := match x.guard with
  | none => res = true
  | some (j, want) => ∃ g, guardT ops j = some g ∧ ((∃ c, bval (asB (tm.getD g .dead)) = some c ∧ res = (c == want)) ∨ (tm.getD g .dead = .tup [] ∧ res = false))

inductive Trace (P : Program) (T : Tr) (w0 : Base) (ops : Array Oper) : List Oper → List V → Hp → List Ent → List V → Hp → Prop
  | nil {tm hp} : Trace P T w0 ops [] tm hp [] tm hp
  | run {x r tm hp v E es tm' hp'} : GuardIs ops tm x true → Res P T (opF (real P T w0) T tm hp x) v E → Trace P T w0 ops r (setD tm x.dst v) (E ++ hp) es tm' hp' → Trace P T w0 ops (x :: r) tm hp (⟨x.dst, v, E, footOf tm x E⟩ :: es) tm' hp'
  | skip {x r tm hp es tm' hp'} : GuardIs ops tm x false → Trace P T w0 ops r (setD tm x.dst (.tup [])) hp es tm' hp' → Trace P T w0 ops (x :: r) tm hp (⟨x.dst, .tup [], [], ⟨[], []⟩⟩ :: es) tm' hp'

def AsOk (tm : List V) (as_ : List (Nat × Bool)) : Prop := ∀ p ∈ as_, bval (asB (tm.getD p.1 .dead)) = some p.2

theorem asok_set {tm : List V} {as_ : List (Nat × Bool)} {d : Option Nat} {v : V} (h : AsOk tm as_) : AsOk (setD tm d v) (dropA d as_) := by
  intro p hp
  cases d with
  | none => exact h p hp
  | some t =>
    simp only [dropA, List.mem_filter] at hp
    simp only [setD]
    rw [getD_set, if_neg (fun e => by have := hp.2; simp at this; exact this e.1.symm)]
    exact h p hp.1

theorem findA_mem : ∀ {as_ : List (Nat × Bool)} {g : Nat} {c : Bool}, findA as_ g = some c → (g, c) ∈ as_
  | (k, d) :: r, g, c, h => by
    simp only [findA] at h
    split at h
    · rename_i e
      injection h with h
      subst h
      have : k = g := by simpa using e
      subst this
      exact List.mem_cons_self
    · exact List.mem_cons_of_mem _ (findA_mem h)

theorem guardV_lit {tm : List V} {as_ : List (Nat × Bool)} {g : Nat} {c : Bool} (ha : AsOk tm as_) (h : guardV tm as_ g = .lit c) : bval (asB (tm.getD g .dead)) = some c := by
  unfold guardV at h
  split at h
  · rename_i d hd
    injection h with h; subst h
    exact ha _ (findA_mem hd)
  · rw [h]; rfl
theorem guardV_sym {tm : List V} {as_ : List (Nat × Bool)} {g : Nat} {c : Bool} (h : guardV tm as_ g = .sym c) : bval (asB (tm.getD g .dead)) = some c := by
  unfold guardV at h
  split at h
  · cases h
  · rw [h]; rfl

theorem asok_cons {tm : List V} {as_ : List (Nat × Bool)} {g : Nat} {c : Bool} (ha : AsOk tm as_) (h : bval (asB (tm.getD g .dead)) = some c) : AsOk tm ((g, c) :: as_) := by
  intro p hp
  rcases List.mem_cons.1 hp with rfl | hp
  · exact h
  · exact ha p hp

theorem opA_res {tm : List V} {as_ : List (Nat × Bool)} {v : V} {E : Hp} (ha : AsOk tm as_) (h : Res P T (opA (real P T w0) T as_ tm hp x) v E) : Res P T (opF (real P T w0) T tm hp x) v E := by
  unfold opA at h
  split at h
  · rename_i g y z hop
    have key : ∀ {c}, findA as_ g = some c → bval (asB (tm.getD g .dead)) = some c := fun hf => ha _ (findA_mem hf)
    split at h
    · rename_i hf
      have hb := key hf
      unfold opF
      rw [hop]
      simp only [ev]
      cases he : asB (tm.getD g .dead) with
      | lit d => rw [he] at hb; injection hb with hb; subst hb; exact h
      | sym d => rw [he] at hb; injection hb with hb; subst hb; exact .brT rfl h
      | no => rw [he] at hb; cases hb
    · rename_i hf
      have hb := key hf
      unfold opF
      rw [hop]
      simp only [ev]
      cases he : asB (tm.getD g .dead) with
      | lit d => rw [he] at hb; injection hb with hb; subst hb; exact h
      | sym d => rw [he] at hb; injection hb with hb; subst hb; exact .brF rfl h
      | no => rw [he] at hb; cases hb
    · exact h
  · exact h

theorem trace_of {W : List (List Nat)} {draw : Bool} {K : List V → Hp → Prop} : ∀ {l : List Oper} {fs : List Foot} {as_ : List (Nat × Bool)} {tm : List V} {hp : Hp}, runOps (real P T w0) T ops W draw K l fs as_ tm hp → AsOk tm as_ →
    ∃ es tm' hp' as', Trace P T w0 ops l tm hp es tm' hp' ∧ AsOk tm' as' ∧ K (retell tm' as') hp' ∧ (draw = true → apartF W 0 (fs.reverse ++ es.map (·.f)) = true)
  | [], fs, as_, tm, hp, h, ha => by
    simp only [runOps] at h
    split at h
    · split at h
      · rename_i hap
        exact ⟨[], tm, hp, as_, .nil, ha, h, fun _ => by simpa using hap⟩
      · exact h.elim
    · exact ⟨[], tm, hp, as_, .nil, ha, h, fun hd => by cases hd⟩
  | x :: r, fs, as_, tm, hp, h, ha => by
    have run : ∀ {as'}, AsOk tm as' → GuardIs ops tm x true → outF (real P T w0) (opA (real P T w0) T as_ tm hp x) (fun v E => runOps (real P T w0) T ops W draw K r (pushF draw (footOf tm x E) fs) (dropA x.dst as') (setD tm x.dst v) (E ++ hp)) →
        ∃ es tm' hp' as', Trace P T w0 ops (x :: r) tm hp es tm' hp' ∧ AsOk tm' as' ∧ K (retell tm' as') hp' ∧ (draw = true → apartF W 0 (fs.reverse ++ es.map (·.f)) = true) := by
      intro as' ha' hg h
      obtain ⟨v, E, h1, h2⟩ := res_of_out h
      have h1 := opA_res ha h1
      obtain ⟨es, tm', hp', as2, k1, k2, k3, k4⟩ := trace_of h2 (asok_set ha')
      refine ⟨_, tm', hp', as2, .run hg h1 k1, k2, k3, fun hd => ?_⟩
      have := k4 hd
      subst hd
      simpa [pushF] using this
    have skip : ∀ {as'}, AsOk tm as' → GuardIs ops tm x false → runOps (real P T w0) T ops W draw K r (pushF draw ⟨[], []⟩ fs) (dropA x.dst as') (setD tm x.dst (.tup [])) hp →
        ∃ es tm' hp' as', Trace P T w0 ops (x :: r) tm hp es tm' hp' ∧ AsOk tm' as' ∧ K (retell tm' as') hp' ∧ (draw = true → apartF W 0 (fs.reverse ++ es.map (·.f)) = true) := by
      intro as' ha' hg h
      obtain ⟨es, tm', hp', as2, k1, k2, k3, k4⟩ := trace_of h (asok_set ha')
      refine ⟨_, tm', hp', as2, .skip hg k1, k2, k3, fun hd => ?_⟩
      have := k4 hd
      subst hd
      simpa [pushF] using this
    simp only [runOps] at h
    split at h
    · rename_i hgd
      exact run ha (by simp [GuardIs, hgd]) h
    · rename_i j want hgd
      have mk : ∀ {g c res}, guardT ops j = some g → bval (asB (tm.getD g .dead)) = some c → res = (c == want) → GuardIs ops tm x res := by
        intro g c res h1 h2 h3
        simp only [GuardIs, hgd]
        exact ⟨g, h1, .inl ⟨c, h2, h3⟩⟩
      split at h
      · exact h.elim
      · rename_i g hg
        split at h
        · rename_i c hc
          have hb := guardV_lit ha hc
          split at h
          · rename_i hcw; exact run ha (mk hg hb hcw.symm) h
          · rename_i hcw; exact skip ha (mk hg hb hcw.symm) h
        · rename_i c hc
          have hb := guardV_sym hc
          obtain ⟨h1, h2⟩ := h
          cases c with
          | true =>
            have h1 := h1 rfl
            cases want with
            | true => exact run (asok_cons ha hb) (mk hg hb rfl) h1
            | false => exact skip (asok_cons ha hb) (mk hg hb rfl) h1
          | false =>
            have h2 := h2 rfl
            cases want with
            | false => exact run (asok_cons ha hb) (mk hg hb rfl) h2
            | true => exact skip (asok_cons ha hb) (mk hg hb rfl) h2
        · split at h
          · rename_i cs hcs
            split at h
            · exact skip ha (by unfold GuardIs; rw [hgd]; exact ⟨g, hg, .inr ⟨hcs, rfl⟩⟩) h
            · exact h.elim
          · exact h.elim

theorem bval_rel {c : Bool} {y : Value} (h : bval (asB v) = some c) (hr : rel T φ w S v y) : y = .bool c := by
  cases hb : asB v with
  | lit d => rw [hb] at h; injection h with h; subst h; exact asB_lit hb hr
  | sym d => rw [hb] at h; injection h with h; subst h; exact asB_sym hb hr
  | no => rw [hb] at h; cases h

theorem Inv.retell1 {tm : List V} {g : Nat} {c : Bool} (h : Inv T w0 φ S tm hp a w) (hb : bval (asB (tm.getD g .dead)) = some c) : Inv T w0 φ S (tm.set g (.s (.bool c))) hp a w := by
  refine ⟨h.since, by simp [h.size], fun t => ?_, h.dfr, h.heap, h.anc⟩
  rw [getD_set]
  split
  · rename_i e
    have := bval_rel hb (h.tms g)
    rw [← e.1, this]
    exact rel_sb c
  · exact h.tms t

theorem Inv.retell {as_ : List (Nat × Bool)} : ∀ {tm : List V}, Inv T w0 φ S tm hp a w → AsOk tm as_ → Inv T w0 φ S (Ab.retell tm as_) hp a w := by
  induction as_ with
  | nil => intro tm h _; exact h
  | cons p r ih =>
    intro tm h ha
    obtain ⟨g, c⟩ := p
    have h1 := ha (g, c) List.mem_cons_self
    refine ih (h.retell1 h1) (fun q hq => ?_)
    have h2 := ha q (List.mem_cons_of_mem _ hq)
    rw [getD_set]
    split
    · rename_i e
      rw [← e.1] at h2
      rw [h1] at h2
      injection h2 with h2
      rw [← h2]; rfl
    · exact h2

theorem wanted_of {tm : List V} {res : Bool} (h : Inv T w0 φ S tm hp a w) (hg : GuardIs ops tm x res) : Region.wanted x (yielded ops a.tmps) = res := by
  unfold GuardIs at hg
  unfold Region.wanted
  split at hg
  · rename_i e; rw [e]; exact hg.symm
  · rename_i j want e
    rw [e]
    obtain ⟨g, h1, ⟨c, h2, h3⟩ | ⟨h2, h3⟩⟩ := hg
    rotate_left
    · have hv := h.tms g
      rw [h2] at hv
      simp only [rel, relL] at hv
      obtain ⟨b, hb, hn⟩ := hv
      have hy : yielded ops a.tmps j = none := by
        unfold yielded
        unfold guardT at h1
        rw [h1]
        simp only [Option.bind_some]
        cases hh : a.tmps[g]? with
        | some u =>
          rw [Array.getD_eq_getD_getElem?, hh] at hb
          simp at hb
          subst hb
          rfl
        | none => rfl
      simp only
      rw [hy, h3]
      rfl
    have hv := bval_rel h2 (h.tms g)
    subst h3
    unfold guardT at h1
    have hy : yielded ops a.tmps j = some c := by
      unfold yielded
      rw [h1]
      simp only [Option.bind_some]
      have : a.tmps[g]? = some (.bool c) := by
        cases hh : a.tmps[g]? with
        | some u => rw [Array.getD_eq_getD_getElem?, hh] at hv; simpa using hv
        | none => rw [Array.getD_eq_getD_getElem?, hh] at hv; simp [undef] at hv
      rw [this]
    simp only
    rw [hy]
    cases c <;> cases want <;> rfl

theorem seq_ok (htok : TyOk P T) {S0 : Nat → Prop} {Q : Exit → Act → World → Prop} : ∀ {l : List Oper} {tm : List V} {hp : Hp} {es : List Ent} {tm' : List V} {hp' : Hp} {k : Nat} {φ S a w},
    Trace P T w0 ops l tm hp es tm' hp' → (∀ j, l[j]? = ops[k + j]?) → (∀ φ S a w, SLe w0.Z S0 S → Inv T w0 φ S tm' hp' a w → Q .normal a w) → SLe w0.Z S0 S → Inv T w0 φ S tm hp a w → wpOps P ops Q (List.range' k l.length) a w := by
  intro l tm hp es tm' hp' k φ S a w ht
  induction ht generalizing k φ S a w with
  | nil => intro _ hQ hS hi; simpa [wpOps] using hQ φ S a w hS hi
  | run hg hr _ ih =>
    rename_i x r _ _ _ _ _ _ _ _
    intro hl hQ hS hi
    have h0 : ops[k]? = some x := by simpa using (hl 0).symm
    simp only [List.length_cons, List.range'_succ, wpOps, h0, wanted_of hi hg, if_true]
    refine .inl (opF_ok htok hi hr _ _ (fun xv w' hL => ?_))
    obtain ⟨φ', S', e1, e2⟩ := hL
    exact ih (fun j => by have := hl (j + 1); simpa [Nat.add_assoc, Nat.add_comm 1] using this) hQ (hS.trans e1.sle) (hi.step e1 e2)
  | skip hg _ ih =>
    rename_i x r _ _ _ _ _ _
    intro hl hQ hS hi
    have h0 : ops[k]? = some x := by simpa using (hl 0).symm
    simp only [List.length_cons, List.range'_succ, wpOps, h0, wanted_of hi hg]
    exact ih (fun j => by have := hl (j + 1); simpa [Nat.add_assoc, Nat.add_comm 1] using this) hQ hS (hi.step (d := _) (Ext.refl hi.since hi.heap) (by simp only [rel, relL]; exact ⟨#[], rfl, rfl⟩))
end
end Go.Ab
end
section
/- What an operation comes to hangs on its operands and on the rows that these name. No statement of its own. -/

namespace Go.Ab
open Go.RowKit

section
variable {P : Program} {T : Tr} {w0 : Base} {o : Ops} {hp hp' : Hp} {N : Nat → Prop}

def Agree (N : Nat → Prop) (hp hp' : Hp) : Prop := ∀ n, N n → look hp n = look hp' n

theorem Agree.app {E : Hp} (h : Agree N hp hp') : Agree N (E ++ hp) (E ++ hp') := fun n hn => by
  rw [look_app, look_app, h n hn]

def Nin (N : Nat → Prop) (v : V) : Prop := ∀ n ∈ names v, N n
def NinS (N : Nat → Prop) (v : V) : Prop := ∀ n ∈ namesS v, N n

theorem nin_agg {cs : List V} (h : Nin N (.agg cs)) : ∀ c ∈ cs, NinS N c := fun c hc n hn => h n (by
  simp only [names, namesC, List.mem_flatten, List.mem_map]
  exact ⟨_, ⟨c, hc, rfl⟩, hn⟩)

def NinC (N : Nat → Prop) (v : V) : Prop := ∀ n ∈ namesC v, N n

theorem Nin.c {v : V} (h : Nin N v) : NinC N v := by
  cases v with
  | tup cs => intro n hn; simp [namesC, namesS] at hn
  | fn f a b => intro n hn; simp [namesC, namesS] at hn
  | _ => exact h

theorem ninC_agg {cs : List V} (h : NinC N (.agg cs)) : ∀ c ∈ cs, NinS N c := fun c hc n hn => h n (by
  simp only [namesC, List.mem_flatten, List.mem_map]
  exact ⟨_, ⟨c, hc, rfl⟩, hn⟩)

theorem expS_congr (h : Agree N hp hp') {v : V} (hv : NinS N v) : expS o hp v = expS o hp' v := by
  cases v with
  | row n => simp only [expS, h n (hv n (by simp [namesS]))]
  | rowp n lo ln => simp only [expS, h n (hv n (by simp [namesS]))]
  | _ => rfl

theorem nin_s {v : V} (h : Nin N v) (h1 : ∀ cs, v ≠ .agg cs) (h2 : ∀ cs, v ≠ .tup cs) (h3 : ∀ f a b, v ≠ .fn f a b) : NinS N v := by
  cases v with
  | agg cs => exact absurd rfl (h1 cs)
  | tup cs => exact absurd rfl (h2 cs)
  | fn f a b => exact absurd rfl (h3 f a b)
  | _ => exact h

theorem exp_congrC (h : Agree N hp hp') {v : V} (hv : NinC N v) : Ab.exp o hp v = Ab.exp o hp' v := by
  cases v with
  | agg cs => simp only [Ab.exp]; rw [List.map_congr_left (fun c hc => expS_congr h (ninC_agg hv c hc))]
  | tup cs => rfl
  | fn f a b => rfl
  | s v => rfl
  | i k n => rfl
  | b c => rfl
  | str s => rfl
  | nil => rfl
  | sl et es => rfl
  | ptr n j => rfl
  | ep n i j => rfl
  | rp a b c d => rfl
  | row n => exact expS_congr (o := o) (v := .row n) h hv
  | rowp n lo ln => exact expS_congr (o := o) (v := .rowp n lo ln) h hv
  | dead => rfl
  | nlq g es => rfl
  | mp g es => rfl

theorem exp_congr (h : Agree N hp hp') {v : V} (hv : Nin N v) : Ab.exp o hp v = Ab.exp o hp' v := exp_congrC h hv.c

theorem frzS_congr (h : Agree N hp hp') {v : V} (hv : NinS N v) : frzS hp v = frzS hp' v := by
  cases v with
  | row n => simp only [frzS, h n (hv n (by simp [namesS]))]
  | _ => rfl

theorem frzL_congr : ∀ {cs : List V} {hp hp' : Hp}, Agree N hp hp' → (∀ c ∈ cs, NinS N c) → frzL hp cs = frzL hp' cs
  | [], _, _, _, _ => rfl
  | v :: r, hp, hp', h, hv => by
    simp only [frzL]
    rw [frzS_congr h (hv v List.mem_cons_self)]
    rw [frzL_congr h.app (fun c hc => hv c (List.mem_cons_of_mem _ hc))]

theorem frz_congr (h : Agree N hp hp') {v : V} (hv : Nin N v) : frz hp v = frz hp' v := by
  cases v with
  | agg cs => simp only [frz]; rw [frzL_congr h (nin_agg hv)]
  | tup cs => rfl
  | fn f a b => rfl
  | s v => rfl
  | i k n => rfl
  | b c => rfl
  | str s => rfl
  | nil => rfl
  | sl et es => rfl
  | ptr n j => rfl
  | ep n i j => rfl
  | rp a b c d => rfl
  | row n => exact frzS_congr (v := .row n) h hv
  | rowp n lo ln => rfl
  | dead => rfl
  | nlq g es => rfl
  | mp g es => rfl

theorem frzP_congr : ∀ {ps : List (Nat × V)} {hp hp' : Hp}, Agree N hp hp' → (∀ p ∈ ps, Nin N p.2) → frzP hp ps = frzP hp' ps
  | [], _, _, _, _ => rfl
  | (i, v) :: r, hp, hp', h, hv => by
    simp only [frzP]
    rw [frz_congr h (hv (i, v) List.mem_cons_self), frzP_congr h.app (fun c hc => hv c (List.mem_cons_of_mem _ hc))]

theorem frzN_congr : ∀ {ns : List Nat} {hp hp' : Hp}, Agree N hp hp' → (∀ n ∈ ns, N n) → frzN hp ns = frzN hp' ns
  | [], _, _, _, _ => rfl
  | n :: r, hp, hp', h, hn => by
    simp only [frzN]
    rw [h n (hn n List.mem_cons_self)]
    have hr : ∀ m ∈ r, N m := fun m hm => hn m (List.mem_cons_of_mem _ hm)
    split
    · rename_i et es _
      rw [frzN_congr (hp := (n, .ro et es) :: hp) (hp' := (n, .ro et es) :: hp') (h.app (E := [(n, .ro et es)])) hr]
    · exact frzN_congr h hr

theorem srcL_congr (h : Agree N hp hp') {v : V} (hv : Nin N v) : srcL o hp v = srcL o hp' v := by
  unfold srcL
  split <;> first | rfl | skip
  rw [exp_congr h hv]

theorem srcT_congr (h : Agree N hp hp') {v : V} (hv : Nin N v) : srcT hp v = srcT hp' v := by
  cases v with
  | row n => simp only [srcT, h n (hv n (by simp [names, namesC, namesS]))]
  | rowp n lo ln => simp only [srcT, h n (hv n (by simp [names, namesC, namesS]))]
  | _ => rfl

theorem okSrc_congr (h : Agree N hp hp') {u : Nat} {v : V} (hv : Nin N v) : okSrc T hp u v = okSrc T hp' u v := by
  unfold okSrc
  split <;> first | rfl | skip
  rw [srcT_congr h hv]

theorem nin_row {n : Nat} (h : Nin N (.row n)) : N n := h n (by simp [names, namesC, namesS])
theorem nin_rowp {n : Nat} {lo ln : Int} (h : Nin N (.rowp n lo ln)) : N n := h n (by simp [names, namesC, namesS])
theorem nin_ptr {n j : Nat} (h : Nin N (.ptr n j)) : N n := h n (by simp [names, namesC, namesS])
theorem nin_ep {n j : Nat} {i : Int} (h : Nin N (.ep n i j)) : N n := h n (by simp [names, namesC, namesS])

theorem loadF_congr (h : Agree N hp hp') {t : Nat} {v : V} (hv : Nin N v) : loadF o T hp t v = loadF o T hp' t v := by
  unfold loadF
  cases v with
  | ptr n j => simp only [h n (nin_ptr hv)]
  | ep n i j => simp only [h n (nin_ep hv)]
  | _ => rfl

theorem storeF_congr (h : Agree N hp hp') {t : Nat} {a v : V} (ha : Nin N a) (hv : Nin N v) : storeF o T hp t a v = storeF o T hp' t a v := by
  cases a with
  | ptr n j => simp only [storeF, h n (nin_ptr ha)]
  | ep n i j =>
    simp only [storeF]
    rw [frz_congr h hv]
    simp only [(h.app (E := (frz hp' v).2)) n (nin_ep ha)]
  | _ => rfl

theorem lenF_congr (h : Agree N hp hp') {t : Nat} {v : V} (hv : Nin N v) : lenF o T hp t v = lenF o T hp' t v := by
  unfold lenF
  cases v with
  | row n => simp only [h n (nin_row hv)]
  | _ => rfl

theorem sliceF_congr (h : Agree N hp hp') {t : Nat} {v : V} {lo hi : Option V} (hv : Nin N v) : sliceF o T hp t v lo hi = sliceF o T hp' t v lo hi := by
  unfold sliceF
  cases v with
  | row n => simp only [h n (nin_row hv)]
  | rowp n lo ln => simp only [h n (nin_rowp hv)]
  | _ => rfl

theorem idxAddr_congr (h : Agree N hp hp') {u : Nat} {v y : V} (hv : Nin N v) : idxAddr o T hp u v y = idxAddr o T hp' u v y := by
  unfold idxAddr
  cases v with
  | row n => simp only [h n (nin_row hv)]
  | rowp n lo ln => simp only [h n (nin_rowp hv)]
  | _ => rfl

theorem appF_congr (h : Agree N hp hp') {t : Nat} {s x : V} {m : Option Nat} (hs : Nin N s) (hx : Nin N x) : appF o T hp t s x m = appF o T hp' t s x m := by
  unfold appF
  rw [srcL_congr h hx]
  cases s with
  | row n => simp only [h n (nin_row hs), okSrc_congr h hx]
  | _ => simp only [okSrc_congr h hx]

theorem appZF_congr (h : Agree N hp hp') {t t2 : Nat} {s x : V} {m : Option Nat} (hs : Nin N s) : appZF o T hp t t2 s x m = appZF o T hp' t t2 s x m := by
  unfold appZF
  cases s with
  | row n => simp only [h n (nin_row hs)]
  | _ => rfl

theorem isSlc_congr (h : Agree N hp hp') {u : Nat} {v : V} (hv : Nin N v) : isSlc hp u v = isSlc hp' u v := by
  cases v with
  | row n => simp only [isSlc, h n (hv n (by simp [names, namesC, namesS]))]
  | rowp n lo ln => simp only [isSlc, h n (hv n (by simp [names, namesC, namesS]))]
  | _ => rfl

theorem slice3F_congr (h : Agree N hp hp') {t : Nat} {v mx : V} {lo hi : Option V} {m : Option Nat} (hv : Nin N v) : slice3F o T hp t v lo hi mx m = slice3F o T hp' t v lo hi mx m := by
  unfold slice3F
  cases elemT T t with
  | none => rfl
  | some p => simp only [isSlc_congr h hv]

theorem clearF_congr (h : Agree N hp hp') {t : Nat} {v : V} (hv : Nin N v) : clearF o T hp t v = clearF o T hp' t v := by
  unfold clearF
  cases v with
  | row n => simp only [h n (hv n (by simp [names, namesC, namesS]))]
  | rowp n lo ln => simp only [h n (hv n (by simp [names, namesC, namesS]))]
  | _ => rfl

theorem copyF_congr (h : Agree N hp hp') {t : Nat} {d x : V} (hs : Nin N d) (hx : Nin N x) : copyF o T hp t d x = copyF o T hp' t d x := by
  unfold copyF
  rw [srcL_congr h hx]
  cases d with
  | row n => simp only [h n (nin_row hs), okSrc_congr h hx]
  | rowp n lo ln => simp only [h n (nin_rowp hs), okSrc_congr h hx]
  | _ => simp only [okSrc_congr h hx]

theorem convF_congr (h : Agree N hp hp') {s d : Nat} {v : V} {n : Option Nat} (hv : Nin N v) : convF o T hp s d v n = convF o T hp' s d v n := by
  unfold convF
  rw [exp_congr h hv]

theorem dstN_congr {x : Oper} {m : Nat} (h : Agree N hp hp') (hm : dstN hp x = some m) (hn : N m) : dstN hp' x = some m := by
  unfold dstN at hm ⊢
  split at hm
  · rename_i t ht
    split at hm
    · rename_i hl
      injection hm with hm
      rw [hm] at hl ⊢
      rw [← h m hn, hl]
    · cases hm
  · cases hm

theorem freshH_congr {m : Nat} (h : Agree N hp hp') : ∀ {h0 : Hp}, (∀ p ∈ h0, N (m + p.1)) → freshH hp m h0 = freshH hp' m h0
  | [], _ => rfl
  | (n, b) :: r, hn => by
    simp only [freshH, h (m + n) (hn (n, b) List.mem_cons_self)]
    rw [freshH_congr h (fun p hp => hn p (List.mem_cons_of_mem _ hp))]

theorem rowsS_nin {v : V} (h : NinS N v) : ∀ n ∈ rowsS v, N n := by
  cases v with
  | row n => exact h
  | rowp n lo ln => exact h
  | _ => intro n hn; simp [rowsS] at hn

theorem rowsOf_nin {v : V} (h : NinC N v) : ∀ n ∈ rowsOf v, N n := by
  cases v with
  | agg cs =>
    intro n hn
    simp only [rowsOf, List.mem_flatten, List.mem_map] at hn
    obtain ⟨_, ⟨c, hc, rfl⟩, hn⟩ := hn
    exact rowsS_nin (ninC_agg h c hc) n hn
  | row n => exact h
  | rowp n lo ln => exact h
  | _ => intro n hn; simp [rowsOf, rowsS] at hn

theorem liveN_congr {ns : List Nat} (h : Agree N hp hp') (hn : ∀ n ∈ ns, N n) : liveN hp ns = liveN hp' ns := by
  unfold liveN
  rw [Bool.eq_iff_iff, List.all_eq_true, List.all_eq_true]
  constructor
  · intro k n hm; rw [← h n (hn n hm)]; exact k n hm
  · intro k n hm; rw [h n (hn n hm)]; exact k n hm

theorem callF_congr {f : Nat} {args : List V} {m : Option Nat} {v : V} {E : Hp} (h : Agree N hp hp') (ha : ∀ a ∈ args, NinC N a) (hE : ∀ p ∈ E, N p.1) (hr : Res P T (callF o T hp f args m) v E) : Res P T (callF o T hp' f args m) v E := by
  have hrows : ∀ n ∈ (args.map rowsOf).flatten, N n := by
    intro n hn
    simp only [List.mem_flatten, List.mem_map] at hn
    obtain ⟨_, ⟨a, h1, rfl⟩, h2⟩ := hn
    exact rowsOf_nin (ha a h1) n h2
  unfold callF at hr ⊢
  rw [← liveN_congr h hrows, ← List.map_congr_left (f := fun a => normV (Ab.exp o hp a)) (fun a h1 => by rw [exp_congrC h (ha a h1)]), ← frzN_congr h hrows]
  split at hr
  · exact (res_fail hr).elim
  · cases hr with
    | call hfn hr =>
      rename_i v0 h0
      refine .call hfn ?_
      simp only at hr ⊢
      split at hr
      · exact (res_fail hr).elim
      · split at hr
        · exact hr
        · rename_i p r _
          split at hr
          · rename_i m
            split at hr
            · rename_i hf
              have hin : ∀ q ∈ p :: r, N (m + q.1) := fun q hq => by
                have hmem : (m + q.1, q.2) ∈ renH m (p :: r) := List.mem_map.2 ⟨q, hq, rfl⟩
                split at hr
                · obtain ⟨_, rfl⟩ := res_ok hr; exact hE _ (List.mem_append_left _ hmem)
                · obtain ⟨_, rfl⟩ := res_ok hr; exact hE _ hmem
              rw [← freshH_congr h hin, hf]
              exact hr
            · exact (res_fail hr).elim
          · exact (res_fail hr).elim

theorem fnew {x : Oper} {F : Option Nat → Out} {v : V} {E : Hp} (h : Agree N hp hp') (hn : F none = .fail) (hE : ∀ m, Res P T (F (some m)) v E → N m) (hr : Res P T (F (dstN hp x)) v E) : Res P T (F (dstN hp' x)) v E := by
  cases hd : dstN hp x with
  | none => rw [hd, hn] at hr; exact (res_fail hr).elim
  | some m =>
    rw [hd] at hr
    rw [dstN_congr h hd (hE m hr)]
    exact hr

def NinO (N : Nat → Prop) (tm : List V) (x : Oper) : Prop := ∀ a ∈ x.op.operands.toList, Nin N (ev tm a)

theorem mem_args {xs : Array Operand} {tm : List V} {a : V} (h : a ∈ argsL tm xs) : ∃ y ∈ xs, a = ev tm y := by
  simp only [argsL, List.mem_map, Array.mem_toList_iff] at h
  obtain ⟨y, h1, h2⟩ := h
  exact ⟨y, h1, h2.symm⟩

theorem opF_congr {tm : List V} {x : Oper} {v : V} {E : Hp} (h : Agree N hp hp') (hN : NinO N tm x) (hE : ∀ p ∈ E, N p.1) (hr : Res P T (opF (real P T w0) T tm hp x) v E) : Res P T (opF (real P T w0) T tm hp' x) v E := by
  unfold NinO at hN
  unfold opF at hr ⊢
  cases hop : x.op with
  | alloc t =>
    simp only [hop] at hr ⊢
    cases he : T.look t with
    | none => rw [he] at hr; exact (res_fail hr).elim
    | some e =>
      rw [he] at hr
      refine fnew (F := fun d => match some e, d with
        | some e, some n => match stor (zeroV e) with
          | true => .ok (.ptr n 0) [(n, .cells t (cellsOf (zeroV e)))]
          | false => .fail
        | _, _ => .fail) h rfl (fun m hm => ?_) hr
      cases hst : stor (zeroV e) with
      | true =>
        simp only [hst] at hm
        obtain ⟨_, rfl⟩ := res_ok hm; exact hE _ List.mem_cons_self
      | false =>
        simp only [hst] at hm
        exact (res_fail hm).elim
  | box t a =>
    simp only [hop] at hr ⊢
    refine fnew (F := fun d => match d, stor (ev tm a) with
      | some n, true => .ok (.ptr n 0) [(n, .cells t (cellsOf (ev tm a)))]
      | _, _ => .fail) h rfl (fun m hm => ?_) hr
    split at hm
    · rename_i e1 _; injection e1 with e1; subst e1; obtain ⟨_, rfl⟩ := res_ok hm; exact hE _ List.mem_cons_self
    · exact (res_fail hm).elim
  | buildSlice t n ps =>
    simp only [hop] at hr hN ⊢
    have hps : ∀ p ∈ (ps.toList.map fun p => (p.1, ev tm p.2)), Nin N p.2 := by
      intro p hp
      simp only [List.mem_map] at hp
      obtain ⟨q, hq, rfl⟩ := hp
      exact hN q.2 (by simp only [Op.operands]; simp; exact ⟨q.1, by simpa using hq⟩)
    rw [← frzP_congr h hps]
    cases hfz : frzP hp (ps.toList.map fun p => (p.1, ev tm p.2)) with
    | mk ps' E1 =>
      rw [hfz] at hr
      cases hel : elemT T t with
      | none => rw [hel] at hr; exact (res_fail hr).elim
      | some ue =>
        obtain ⟨u, eu⟩ := ue
        rw [hel] at hr
        refine fnew (F := fun d => match d, putAll (List.replicate n (zeroT T u eu)) (unNilP T u ps') with
          | some m, some es => match chkAll T u es && (n * eu.size).ble 16777216 && Nat.blt 0 eu.size && zok eu && chk T u (zeroT T u eu) && okParts eu.size (unNilP T u ps') with
            | true => .ok (.row m) ((m, .row u es) :: E1)
            | false => .fail
          | _, _ => .fail) (h.app (E := E1)) rfl (fun m hm => ?_) hr
        split at hm
        · rename_i e1 _
          split at hm
          · injection e1 with e1; subst e1; obtain ⟨_, rfl⟩ := res_ok hm; exact hE _ List.mem_cons_self
          · exact (res_fail hm).elim
        · exact (res_fail hm).elim
  | load t a =>
    simp only [hop] at hr hN ⊢
    rw [← loadF_congr h (hN a (by simp [Op.operands]))]
    exact hr
  | store t a y =>
    simp only [hop] at hr hN ⊢
    rw [← storeF_congr h (hN a (by simp [Op.operands])) (hN y (by simp [Op.operands]))]
    exact hr
  | convert s d a =>
    simp only [hop] at hr hN ⊢
    rw [← convF_congr h (hN a (by simp [Op.operands]))]
    unfold convF at hr ⊢
    cases hs : T.look s with
    | none => rw [hs] at hr; exact (res_fail hr).elim
    | some es =>
      cases hd : T.look d with
      | none => rw [hs, hd] at hr; exact (res_fail hr).elim
      | some ed =>
        rw [hs, hd] at hr
        simp only at hr ⊢
        generalize es.desc = d1 at hr ⊢
        generalize ed.desc = d2 at hr ⊢
        cases d1 <;> cases d2 <;> first
          | exact hr
          | (rename_i u
             simp only at hr ⊢
             refine fnew (F := fun n => match isU8 T u && sizeT T u == 1 with
               | true => match asS (ev tm a), n with
                 | some s, some m => .need ((real P T w0).sroom s .empty) (.ok (.row m) [(m, .ro u ((real P T w0).ofB s))])
                 | _, _ => .fail
               | false => .fail) h ?_ (fun m hm => ?_) hr
             · cases isU8 T u && sizeT T u == 1 <;> cases asS (ev tm a) <;> rfl
             · split at hm
               · split at hm
                 · rename_i e1
                   injection e1 with e1
                   subst e1
                   obtain ⟨_, hm⟩ := res_need hm
                   obtain ⟨_, rfl⟩ := res_ok hm
                   exact hE _ List.mem_cons_self
                 · exact (res_fail hm).elim
               · exact (res_fail hm).elim)
  | makeSlice t l c =>
    simp only [hop] at hr hN ⊢
    cases hel : elemT T t with
    | none => rw [hel] at hr; exact (res_fail hr).elim
    | some ue =>
      obtain ⟨u, eu⟩ := ue
      rw [hel] at hr
      cases hl : asZ (ev tm l) with
      | none => rw [hl] at hr; cases hd : dstN hp x <;> rw [hd] at hr <;> exact (res_fail hr).elim
      | some n =>
        cases hc : asZ (ev tm c) with
        | none => rw [hl, hc] at hr; cases hd : dstN hp x <;> rw [hd] at hr <;> exact (res_fail hr).elim
        | some n2 =>
          rw [hl, hc] at hr
          cases hd : dstN hp x with
          | none => rw [hd] at hr; exact (res_fail hr).elim
          | some m =>
            rw [hd] at hr
            have hm : N m := by
              simp only at hr
              split at hr
              · split at hr
                · obtain ⟨_, hr⟩ := res_need hr
                  obtain ⟨_, hr⟩ := res_need hr
                  obtain ⟨_, rfl⟩ := res_ok hr
                  exact hE _ List.mem_cons_self
                · exact (res_fail hr).elim
              · exact (res_fail hr).elim
            rw [dstN_congr h hd hm]
            exact hr
  | slice t a lo hi m =>
    cases m with
    | none =>
      simp only [hop] at hr hN ⊢
      rw [← sliceF_congr h (hN a (by simp [Op.operands]))]
      exact hr
    | some m =>
      simp only [hop] at hr hN ⊢
      rw [← slice3F_congr h (hN a (by simp [Op.operands]))]
      unfold slice3F at hr ⊢
      cases hel : elemT T t with
      | none => rw [hel] at hr; exact (res_fail hr).elim
      | some p =>
        obtain ⟨u, eu⟩ := p
        rw [hel] at hr
        simp only at hr ⊢
        split at hr
        · refine fnew (F := fun d => match (hi.map (ev tm)), d with
            | some _, some m => .ok (.row m) [(m, .row u [])]
            | _, _ => .fail) h (by cases hi <;> rfl) (fun m hm => ?_) hr
          split at hm
          · rename_i e1
            injection e1 with e1
            subst e1
            obtain ⟨_, rfl⟩ := res_ok hm
            exact hE _ List.mem_cons_self
          · exact (res_fail hm).elim
        · exact hr
  | indexAddr t a ix =>
    simp only [hop] at hr hN ⊢
    cases he : T.look t with
    | none => rw [he] at hr; exact (res_fail hr).elim
    | some e =>
      rw [he] at hr
      simp only at hr ⊢
      split at hr
      · rw [← idxAddr_congr h (hN a (by simp [Op.operands]))]; exact hr
      · exact hr
      · exact (res_fail hr).elim
  | lookup t m k ok =>
    simp only [hop] at hr hN ⊢
    exact hr
  | call c =>
    simp only [hop] at hr hN ⊢
    have hargs : ∀ a ∈ argsL tm c.args, Nin N a := by
      intro a ha
      obtain ⟨y, h1, rfl⟩ := mem_args ha
      exact hN y (by simp [Op.operands, Call.operands, h1])
    split at hr
    · rename_i f hf
      split at hr
      · rename_i g fs cs hfn
        have hfn' : Nin N (.fn (.func g) fs cs) := by
          rw [← hfn]; exact hN f (by simp [Op.operands, Call.operands, hf])
        refine callF_congr h (fun a ha => ?_) hE hr
        rcases List.mem_append.1 ha with ha | ha
        · rcases List.mem_append.1 ha with ha | ha
          · intro n hn
            refine hfn' n ?_
            simp only [names, List.mem_append, List.mem_flatten, List.mem_map]
            exact .inl ⟨_, ⟨a, ha, rfl⟩, hn⟩
          · exact (hargs a ha).c
        · intro n hn
          refine hfn' n ?_
          simp only [names, List.mem_append, List.mem_flatten, List.mem_map]
          exact .inr ⟨_, ⟨a, ha, rfl⟩, hn⟩
      · exact (res_fail hr).elim
    · split at hr
      · rename_i b t hb ht
        rw [← lenF_congr h (hargs b (by rw [hb]; simp))]
        exact hr
      · exact (res_fail hr).elim
    · split at hr
      · rename_i b d t t' hb ht
        split at hr
        · rw [← appF_congr h (hargs b (by rw [hb]; simp)) (hargs d (by rw [hb]; simp))]
          cases hd : dstN hp x with
          | none => rw [hd] at hr; unfold appF at hr; split at hr <;> first | exact (res_fail hr).elim | (rename_i e1 _ ; cases e1)
          | some m =>
            rw [hd] at hr
            have hm : N m := by
              have hr := hr
              unfold appF at hr
              split at hr
              · rename_i e1 _
                injection e1 with e1
                subst e1
                split at hr
                · split at hr
                  · obtain ⟨_, hr⟩ := res_need hr
                    obtain ⟨_, rfl⟩ := res_ok hr
                    exact hE _ List.mem_cons_self
                  · split at hr
                    · split at hr
                      · obtain ⟨_, hr⟩ := res_need hr
                        obtain ⟨_, rfl⟩ := res_ok hr
                        exact hE _ List.mem_cons_self
                      · exact (res_fail hr).elim
                    · exact (res_fail hr).elim
                  · exact (res_fail hr).elim
                · exact (res_fail hr).elim
              · exact (res_fail hr).elim
            rw [dstN_congr h hd hm]
            exact hr
        · rw [← appZF_congr h (hargs b (by rw [hb]; simp))]
          cases hd : dstN hp x with
          | none => rw [hd] at hr; unfold appZF at hr; split at hr <;> first | exact (res_fail hr).elim | (rename_i e1 _ ; cases e1)
          | some m =>
            rw [hd] at hr
            have hm : N m := by
              have hr := hr
              unfold appZF at hr
              split at hr
              · rename_i e1 _
                injection e1 with e1
                subst e1
                split at hr
                · obtain ⟨_, hr⟩ := res_need hr
                  obtain ⟨_, hr⟩ := res_need hr
                  split at hr
                  · obtain ⟨_, hr⟩ := res_need hr
                    obtain ⟨_, rfl⟩ := res_ok hr
                    exact hE _ List.mem_cons_self
                  · split at hr
                    · split at hr
                      · obtain ⟨_, hr⟩ := res_need hr
                        obtain ⟨_, rfl⟩ := res_ok hr
                        exact hE _ List.mem_cons_self
                      · exact (res_fail hr).elim
                    · exact (res_fail hr).elim
                  · exact (res_fail hr).elim
                · exact (res_fail hr).elim
              · exact (res_fail hr).elim
            rw [dstN_congr h hd hm]
            exact hr
      · exact (res_fail hr).elim
    · split at hr
      · rename_i b d t t' hb ht
        rw [← copyF_congr h (hargs b (by rw [hb]; simp)) (hargs d (by rw [hb]; simp))]
        exact hr
      · exact (res_fail hr).elim
    · split at hr
      · rename_i b t hb ht
        rw [← clearF_congr h (hargs b (by rw [hb]; simp))]
        exact hr
      · exact (res_fail hr).elim
    · exact hr
    · exact hr
    · exact (res_fail hr).elim
  | _ => simp only [hop] at hr ⊢; exact hr

theorem argsL_congr {tm tm' : List V} {xs : Array Operand} (h : ∀ a ∈ xs.toList, ev tm a = ev tm' a) : argsL tm xs = argsL tm' xs := List.map_congr_left h

theorem opF_tm {tm tm' : List V} {x : Oper} (h : ∀ a ∈ x.op.operands.toList, ev tm a = ev tm' a) : opF o T tm hp x = opF o T tm' hp x := by
  unfold opF
  cases hop : x.op with
  | move a => simp only [hop] at h ⊢; rw [h a (by simp [Op.operands])]
  | assign a => simp only [hop] at h ⊢; rw [h a (by simp [Op.operands])]
  | pick c a b => simp only [hop] at h ⊢; rw [h c (by simp [Op.operands]), h a (by simp [Op.operands]), h b (by simp [Op.operands])]
  | alloc t => rfl
  | box t a => simp only [hop] at h ⊢; rw [h a (by simp [Op.operands])]
  | build t ps =>
    simp only [hop] at h ⊢
    have e : (ps.toList.map fun p => (p.1, ev tm p.2)) = ps.toList.map fun p => (p.1, ev tm' p.2) :=
      List.map_congr_left (fun p hp => by rw [h p.2 (by simp only [Op.operands]; simp; exact ⟨p.1, by simpa using hp⟩)])
    rw [e]
  | buildSlice t n ps =>
    simp only [hop] at h ⊢
    have e : (ps.toList.map fun p => (p.1, ev tm p.2)) = ps.toList.map fun p => (p.1, ev tm' p.2) :=
      List.map_congr_left (fun p hp => by rw [h p.2 (by simp only [Op.operands]; simp; exact ⟨p.1, by simpa using hp⟩)])
    rw [e]
  | load t a => simp only [hop] at h ⊢; rw [h a (by simp [Op.operands])]
  | store t a v => simp only [hop] at h ⊢; rw [h a (by simp [Op.operands]), h v (by simp [Op.operands])]
  | nilCheck a => simp only [hop] at h ⊢; rw [h a (by simp [Op.operands])]
  | binOp op t a b fl => simp only [hop] at h ⊢; rw [h a (by simp [Op.operands]), h b (by simp [Op.operands])]
  | unOp op t a => simp only [hop] at h ⊢; rw [h a (by simp [Op.operands])]
  | convert s d a => simp only [hop] at h ⊢; rw [h a (by simp [Op.operands])]
  | makeFunc f fs cs =>
    simp only [hop] at h ⊢
    rw [argsL_congr (xs := fs) (fun a ha => h a (by simp [Op.operands]; left; simpa using ha)), argsL_congr (xs := cs) (fun a ha => h a (by simp [Op.operands]; right; simpa using ha))]
  | makeSlice t l c => simp only [hop] at h ⊢; rw [h l (by simp [Op.operands]), h c (by simp [Op.operands])]
  | slice t a lo hi m =>
    simp only [hop] at h ⊢
    have e1 : lo.map (ev tm) = lo.map (ev tm') := by cases lo with
      | none => rfl
      | some l => simp only [Option.map_some]; rw [h l (by simp [Op.operands])]
    have e2 : hi.map (ev tm) = hi.map (ev tm') := by cases hi with
      | none => rfl
      | some l => simp only [Option.map_some]; rw [h l (by simp [Op.operands])]
    have e0 := h a (by simp [Op.operands])
    cases m with
    | none => simp only [hop, e0, e1, e2]
    | some m =>
      have e3 := h m (by simp [Op.operands])
      simp only [hop, e0, e1, e2, e3]
  | fieldAddr t a f => simp only [hop] at h ⊢; rw [h a (by simp [Op.operands])]
  | field t a f => simp only [hop] at h ⊢; rw [h a (by simp [Op.operands])]
  | indexAddr t a ix => simp only [hop] at h ⊢; rw [h a (by simp [Op.operands]), h ix (by simp [Op.operands])]
  | index t a ix => simp only [hop] at h ⊢; rw [h a (by simp [Op.operands]), h ix (by simp [Op.operands])]
  | lookup t m k ok => simp only [hop] at h ⊢; rw [h m (by simp [Op.operands]), h k (by simp [Op.operands])]
  | extract a i => simp only [hop] at h ⊢; rw [h a (by simp [Op.operands])]
  | call c =>
    simp only [hop] at h ⊢
    rw [argsL_congr (xs := c.args) (fun a ha => h a (by simp [Op.operands, Call.operands]; right; simpa using ha))]
    cases hc : c.callee with
    | value f => simp only [hc]; rw [h f (by simp [Op.operands, Call.operands, hc])]
    | builtin b => cases b <;> rfl
    | invoke r m => rfl
  | _ => rfl
end
end Go.Ab
end
