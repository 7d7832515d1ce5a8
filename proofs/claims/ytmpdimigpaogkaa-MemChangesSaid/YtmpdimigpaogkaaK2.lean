/- Texts of this seat, merged in build order. No statement of its own. -/
import Derived.Control
import Derived.Orders
import Derived.Test.YtmpdimigpaogkaaK1
set_option linter.unusedVariables false
set_option linter.unusedSimpArgs false
section
/- Each operation does what the calculus says: slices, conversions, the lesser and the greater. No statement of its own. -/

namespace Go.Ab
open Go.RowKit

section
variable {P : Program} {T : Tr} {w0 : Base} {φ φ' : Nat → Option Loc} {w w' : World} {S S' : Nat → Prop} {v : V} {x : Value} {hp : Hp} {b0 : Nat → Prop}

theorem run_bounds {tm : List V} {a : Act} (hi : Inv T w0 φ S tm hp a w) {isS : Bool} {len cap : Nat} {lo hi' : Option Operand} {l h : Int} (hl : hiOf 0 (lo.map (ev tm)) = some l) (hh : hiOf len (hi'.map (ev tm)) = some h) (h0 : 0 ≤ l) (h1 : l ≤ h) (h2 : h ≤ len) (hc : len ≤ cap) :
    (Instr.sliceBounds isS len cap (lo.map a.eval) (hi'.map a.eval) none).run P w = .ok (l.toNat, h.toNat, cap) w := by
  have e1 : ((h.toNat : Nat) : Int) = h := Int.toNat_of_nonneg (by omega)
  have H : ∀ code, h.toNat ≤ cap := fun _ => by omega
  cases lo with
  | none =>
    simp only [Option.map_none, hiOf, Option.some.injEq] at hl
    subst hl
    cases hi' with
    | none =>
      simp only [Option.map_none, hiOf, Option.some.injEq] at hh
      subst hh
      simp [Instr.sliceBounds]
    | some o =>
      simp only [Option.map_some, hiOf] at hh
      obtain ⟨k, hk⟩ := asZ_some hh (ev_rel hi o)
      simp only [Option.map_some, Option.map_none, hk]
      simp [Instr.sliceBounds, run_sliceBound w k h cap _ (by omega) (by omega)]
  | some ol =>
    simp only [Option.map_some, hiOf] at hl
    obtain ⟨kl, hkl⟩ := asZ_some hl (ev_rel hi ol)
    cases hi' with
    | none =>
      simp only [Option.map_none, hiOf, Option.some.injEq] at hh
      subst hh
      simp only [Option.map_some, Option.map_none, hkl]
      simp [Instr.sliceBounds, run_sliceBound w kl l len _ h0 h1]
    | some o =>
      simp only [Option.map_some, hiOf] at hh
      obtain ⟨k, hk⟩ := asZ_some hh (ev_rel hi o)
      simp only [Option.map_some, hk, hkl]
      simp [Instr.sliceBounds, run_sliceBound w k h cap _ (by omega) (by omega), run_sliceBound w kl l h.toNat _ h0 (by omega)]

theorem run_slice_at {t u : Nat} {i0 : TypeInfo} (ht : P.underlying t = some (.slice u)) (hi : P.info? u = some i0) {A : Option Addr} {len cap : Nat} {lo hi' : Option Value} {l h m : Nat} (hb : (Instr.sliceBounds true len cap lo hi' none).run P w = .ok (l, h, m) w) :
    (Instr.sliceAt t (.slice A len cap) lo hi' none).run P w = .ok (.slice (if m = l then A else A.map (·.add (l * i0.size))) (h - l) (m - l)) w := by
  simp [Instr.sliceAt, Instr.slice, run_underlying ht, hb, sizeOf, typeInfo, hi]

theorem run_slice_str {t : Nat} (ht : P.underlying t = some .string) {s : ByteArray} {lo hi' : Option Value} {l h m : Nat} (hb : (Instr.sliceBounds false s.size s.size lo hi' none).run P w = .ok (l, h, m) w) :
    (Instr.sliceAt t (.string s) lo hi' none).run P w = .ok (.string (s.extract l h)) w := by
  simp [Instr.sliceAt, Instr.slice, run_underlying ht, hb]

theorem sl_sub {u : Nat} {e : TE} {es : List V} {A : Option Addr} {cap : Nat} {l h : Int} (he : T.look u = some e) (hz : 0 < e.size) (hw : wtL T u es) (hc : es.length ≤ cap) (hm : es.length ≤ maxLen) (h0 : 0 ≤ l) (h1 : l ≤ h) (h2 : h ≤ es.length)
    (hE : es ≠ [] → ∃ ad, A = some ad ∧ S ad.block ∧ relE T φ w S ad e.size 0 es) :
    rel T φ w S (.sl u ((es.take h.toNat).drop l.toNat)) (.slice (if cap = l.toNat then A else A.map (·.add (l.toNat * e.size))) (h.toNat - l.toNat) (cap - l.toNat)) := by
  have hlen : ((es.take h.toNat).drop l.toNat).length = h.toNat - l.toNat := by simp; omega
  simp only [rel]
  refine ⟨_, _, by rw [hlen], by rw [hlen]; omega, by rw [hlen]; omega, wtL_sub _ _ hw, fun hne => ?_⟩
  have hlt : l.toNat < h.toNat := by
    rcases Nat.lt_or_ge l.toNat h.toNat with k | k
    · exact k
    · exact absurd (List.eq_nil_of_length_eq_zero (by rw [hlen]; omega)) hne
  obtain ⟨ad, rfl, hS, hE2⟩ := hE (fun hn => by subst hn; simp at h2; omega)
  refine ⟨ad.add (l.toNat * e.size), e, ?_, he, hz, ?_, relE_sub hE2⟩
  · rw [if_neg (by omega)]; rfl
  · have hb : (ad.add (l.toNat * e.size)).block = ad.block := by unfold Addr.add; split <;> rfl
    rw [hb]; exact hS

theorem rowp_sub {n B off len room sz cap : Nat} {lo ln l h : Int} {A : Addr} (hφ : φ n = some (.rw B off len room sz)) (h0 : 0 ≤ lo) (h1 : lo + ln ≤ len) (h2 : ln ≤ cap) (h3 : cap ≤ maxLen) (h4 : off + lo.toNat * sz + cap * sz ≤ room) (h5 : 0 < cap → A = ⟨B, off + lo.toNat * sz, none⟩) (l0 : 0 ≤ l) (l1 : l ≤ h) (l2 : h ≤ ln) :
    rel T φ w S (.rowp n (lo + l) (h - l)) (.slice (if cap = l.toNat then some A else (some A).map (·.add (l.toNat * sz))) (h.toNat - l.toNat) (cap - l.toNat)) := by
  simp only [rel]
  have hmul : (lo + l).toNat * sz = lo.toNat * sz + l.toNat * sz := by rw [Int.toNat_add h0 l0, Nat.add_mul]
  have hsub : (cap - l.toNat) * sz = cap * sz - l.toNat * sz := Nat.sub_mul _ _ _
  have hle : l.toNat * sz ≤ cap * sz := Nat.mul_le_mul_right _ (by omega)
  refine .inl ⟨B, off, len, room, sz, cap - l.toNat, (if cap = l.toNat then A else A.add (l.toNat * sz)), hφ, ?_, by omega, by omega, by omega, by omega, by omega, by omega, fun hp => ?_⟩
  · rw [show (h - l).toNat = h.toNat - l.toNat from by omega]
    split <;> rfl
  · rw [if_neg (by omega), h5 (by omega), add_at0, hmul, Nat.add_assoc]

theorem sliceF_ok (htok : TyOk P T) {tm : List V} {a : Act} (hi : Inv T w0 φ S tm hp a w) {t : Nat} {va : V} {lo hi' : Option Operand} {v : V} {E : Hp} (h : Res P T (sliceF (real P T w0) T hp t va (lo.map (ev tm)) (hi'.map (ev tm))) v E) (hr : rel T φ w S va x) :
    Gives P T φ w S (Instr.sliceAt t x (lo.map a.eval) (hi'.map a.eval) none) v E := by
  have hh := hi.heap
  unfold sliceF at h
  split at h
  · rename_i e l he hl
    have ht := htok.und _ _ he
    split at h
    · rename_i hd
      rw [hd] at ht
      split at h
      · rename_i s hs
        obtain rfl := asS_some hs hr
        split at h
        · rename_i hh' hhi
          obtain ⟨⟨h0, h1, h2⟩, h⟩ := res_need h
          obtain ⟨rfl, rfl⟩ := res_ok h
          refine ⟨rfl, _, run_slice_str ht (run_bounds hi hl hhi h0 h1 h2 (Nat.le_refl _)), ?_⟩
          simp only [rel, real]
        · exact (res_fail h).elim
      · exact (res_fail h).elim
    · rename_i u hd
      rw [hd] at ht
      split at h
      · exact (res_fail h).elim
      · rename_i eu heu
        obtain ⟨i0, hi0, hs, _⟩ := htok.info _ _ heu
        split at h
        · rename_i u' es
          split at h
          · rename_i hh' hU hhi
            obtain rfl : u = u' := by simpa using hU
            obtain ⟨⟨h0, h1, h2⟩, h⟩ := res_need h
            obtain ⟨rfl, rfl⟩ := res_ok h
            simp only [rel] at hr
            obtain ⟨A, cap, rfl, k1, k2, k3, k4⟩ := hr
            refine ⟨rfl, _, run_slice_at ht hi0 (run_bounds hi hl hhi h0 h1 h2 k1), ?_⟩
            by_cases hne : es = []
            · subst hne
              simp only [real, List.length_nil, Int.ofNat_zero, Int.natCast_zero] at h2
              obtain rfl : l = 0 := by omega
              obtain rfl : hh' = 0 := by omega
              simp only [rel, real, List.take_nil, List.drop_nil]
              exact ⟨_, _, rfl, by simp, by simp, by simp [wtL], fun hn => absurd rfl hn⟩
            · obtain ⟨ad, e', hA, he', hz, hS, hE⟩ := k4 hne
              rw [heu] at he'; injection he' with he'; subst he'
              rw [hs]
              exact sl_sub heu hz k3 k1 k2 h0 h1 h2 (fun _ => ⟨ad, hA, hS, hE⟩)
          · exact (res_fail h).elim
        · rename_i n
          split at h
          · rename_i u' es hlk
            split at h
            · rename_i hh' hU hhi
              obtain rfl : u = u' := by simpa using hU
              obtain ⟨⟨h0, h1, h2⟩, h⟩ := res_need h
              obtain ⟨rfl, rfl⟩ := res_ok h
              obtain ⟨hw, e', he', hz, hb⟩ := row_form hh hlk
              rw [heu] at he'; injection he' with he'; subst he'
              simp only [rel] at hr
              rcases hr with ⟨B, off, len, room, sz, cap, k1, rfl, k3, k4, k5⟩ | ⟨k1, _, rfl⟩
              · rcases hb with ⟨B', off', room', arr, fz, f1, f2, f3⟩ | ⟨f1, _⟩
                · rw [k1] at f1; injection f1 with f1; injection f1 with a1 a2 a3 a4 a5; subst a1; subst a2; subst a3; subst a4; subst a5
                  refine ⟨rfl, _, run_slice_at ht hi0 (run_bounds hi hl hhi h0 h1 h2 k3), ?_⟩
                  rw [hs]
                  have := rowp_sub (T := T) (w := w) (S := S) (lo := 0) (ln := es.length) (A := ⟨B, off, none⟩) k1 (Int.le_refl 0) (by omega) (by omega) k4 (by simp; omega) (fun _ => by simp) h0 h1 h2
                  rw [Int.zero_add] at this
                  exact this
                · rw [k1] at f1; cases f1
              · rcases hb with ⟨B', off', room', arr, fz, f1, f2, f3⟩ | ⟨f1, rfl⟩
                · rw [k1] at f1; cases f1
                · simp only [real, List.length_nil, Int.ofNat_zero, Int.natCast_zero] at h2
                  obtain rfl : l = 0 := by omega
                  obtain rfl : hh' = 0 := by omega
                  refine ⟨rfl, _, run_slice_at ht hi0 (run_bounds (len := 0) hi hl hhi h0 h1 (by simp) (Nat.le_refl _)), ?_⟩
                  simp only [rel]
                  refine .inr ⟨k1, ?_⟩
                  simp [real]
            · exact (res_fail h).elim
          · rename_i u' es hlk
            split at h
            · rename_i hh' hU hhi
              obtain rfl : u = u' := by simpa using hU
              obtain ⟨⟨h0, h1, h2⟩, h⟩ := res_need h
              obtain ⟨rfl, rfl⟩ := res_ok h
              obtain ⟨hw, e', he', hz, hb⟩ := ro_form hh hlk
              rw [heu] at he'; injection he' with he'; subst he'
              have hx := row_sl heu hz hw (ro_S hh hlk) hb hr
              simp only [rel] at hx
              obtain ⟨A, cap, rfl, k1, k2, k3, k4⟩ := hx
              refine ⟨rfl, _, run_slice_at ht hi0 (run_bounds hi hl hhi h0 h1 h2 k1), ?_⟩
              rw [hs]
              refine sl_sub heu hz hw k1 k2 h0 h1 h2 (fun hne => ?_)
              obtain ⟨ad, e', hA, he', hz, hS, hE⟩ := k4 hne
              rw [heu] at he'; injection he' with he'; subst he'
              exact ⟨ad, hA, hS, hE⟩
            · exact (res_fail h).elim
          · exact (res_fail h).elim
        · rename_i n lo0 ln
          split at h
          · rename_i u' es hlk
            split at h
            · rename_i hh' hU hhi
              obtain rfl : u = u' := by simpa using hU
              obtain ⟨⟨h0, h1, h2⟩, h⟩ := res_need h
              obtain ⟨rfl, rfl⟩ := res_ok h
              obtain ⟨hw, e', he', hz, hb⟩ := row_form hh hlk
              rw [heu] at he'; injection he' with he'; subst he'
              simp only [rel] at hr
              rcases hr with ⟨B, off, len, room, sz, cap, A, k1, rfl, k3, k3', k4, k5, k6, k7, k8⟩ | ⟨k1, ⟨_, rfl⟩, rfl, rfl⟩
              · rcases hb with ⟨B', off', room', arr, fz, f1, f2, f3⟩ | ⟨f1, _⟩
                · rw [k1] at f1; injection f1 with f1; injection f1 with a1 a2 a3 a4 a5; subst a1; subst a2; subst a3; subst a4; subst a5
                  have hln : ((ln.toNat : Nat) : Int) = ln := Int.toNat_of_nonneg k3'
                  refine ⟨rfl, _, run_slice_at ht hi0 (run_bounds (len := ln.toNat) hi hl (by rw [hln]; exact hhi) h0 h1 (by omega) (by omega)), ?_⟩
                  rw [hs]
                  exact rowp_sub k1 k3 k4 k5 k6 k7 k8 h0 h1 h2
                · rw [k1] at f1; cases f1
              · obtain rfl : l = 0 := by omega
                obtain rfl : hh' = 0 := by omega
                refine ⟨rfl, _, run_slice_at ht hi0 (run_bounds (len := 0) hi hl hhi h0 h1 (by simp) (Nat.le_refl _)), ?_⟩
                simp only [rel, real]
                refine .inr ⟨k1, ?_⟩
                simp
            · exact (res_fail h).elim
          · exact (res_fail h).elim
        · split at h
          · rename_i hh' hhi
            obtain ⟨⟨h0, h1, h2⟩, h⟩ := res_need h
            obtain ⟨rfl, rfl⟩ := res_ok h
            simp only [rel] at hr
            subst hr
            obtain rfl : l = 0 := by omega
            obtain rfl : hh' = 0 := by omega
            refine ⟨rfl, _, run_slice_at ht hi0 (run_bounds (len := 0) hi hl hhi h0 h1 (by simp) (Nat.le_refl _)), ?_⟩
            simp [rel]
          · exact (res_fail h).elim
        · exact (res_fail h).elim
    · exact (res_fail h).elim
  · exact (res_fail h).elim
end
end Go.Ab
end
section
/- Each operation does what the calculus says: conversions, the lesser and the greater. No statement of its own. -/

namespace Go.Ab
open Go.RowKit

section
variable {P : Program} {T : Tr} {w0 : Base} {φ φ' : Nat → Option Loc} {w w' : World} {S S' : Nat → Prop} {v : V} {x : Value} {hp : Hp} {b0 : Nat → Prop}

theorem Gives.left {m : Sem Value} {E : Hp} (hs : Since w0 w) (hh : HOk T φ w0.Z w S hp) (h : Gives P T φ w S m v E) : ∃ xv w', m.run P w = .ok xv w' ∧ Left T w0 φ S hp w v E xv w' := by
  obtain ⟨rfl, xv, h1, h2⟩ := h
  exact ⟨xv, w, h1, φ, S, Ext.refl hs hh, h2⟩

theorem u8_el {u : Nat} {e : V} {y : Value} (hu : isU8 T u = true) (hw : wt T e u) (hr : rel T φ w S e y) : y = .int .u8 (asInt e) := by
  obtain ⟨te, hte, hd⟩ := isU8_of hu
  cases e with
  | i k n =>
    simp only [wt] at hw
    obtain ⟨e', he', hk⟩ := hw
    rw [hte] at he'; injection he' with he'; subst he'
    rw [hd] at hk; injection hk with hk; subst hk
    simp only [rel] at hr
    exact hr
  | s v =>
    simp only [wt] at hw
    obtain ⟨e', he', hk⟩ := hw
    rw [hte] at he'; injection he' with he'; subst he'
    rw [hd] at hk
    cases v <;> simp only at hk
    subst hk
    simp only [rel] at hr
    exact hr.1
  | b c => simp only [wt] at hw; obtain ⟨e', he', hk⟩ := hw; rw [hte] at he'; injection he' with he'; subst he'; rw [hd] at hk; cases hk
  | str c => simp only [wt] at hw; obtain ⟨e', he', hk⟩ := hw; rw [hte] at he'; injection he' with he'; subst he'; rw [hd] at hk; cases hk
  | nil => simp only [wt] at hw; obtain ⟨e', u', he', hk⟩ := hw; rw [hte] at he'; injection he' with he'; subst he'; rw [hd] at hk; cases hk
  | sl et es => simp only [wt] at hw; obtain ⟨⟨e', he', hk⟩, _⟩ := hw; rw [hte] at he'; injection he' with he'; subst he'; rw [hd] at hk; cases hk
  | agg cs => simp only [wt] at hw; obtain ⟨h1, _⟩ := hw; simp [isAggT, hte, hd, isAggD] at h1
  | _ => simp only [wt] at hw

theorem foldl_push : ∀ (ns : List Int) (r : ByteArray), ns.foldl (fun r n => r.push (UInt8.ofNat n.toNat)) r = ⟨r.data ++ (ns.map fun n => UInt8.ofNat n.toNat).toArray⟩
  | [], r => by simp
  | b :: l, r => by
    simp only [List.map_cons, List.foldl_cons]
    rw [foldl_push l]
    simp [ByteArray.push]

theorem run_sl_string {s d u : Nat} (hs : P.underlying s = some (.slice u)) (hu : P.underlying u = some (.int .u8)) (hd : P.underlying d = some .string) (h8 : isU8 T u = true) {es : List V} (hr : rel T φ w S (.sl u es) x) (hsz : ∀ e, T.look u = some e → es ≠ [] → e.size = 1) :
    (convert s d x).run P w = .ok (.string ⟨(es.map fun e => UInt8.ofNat (asInt e).toNat).toArray⟩) w := by
  simp only [rel] at hr
  obtain ⟨A, cap, rfl, h1, h2, h3, h4⟩ := hr
  rw [run_convert_bytes_string w s d u A es.length cap hs hu hd]
  by_cases hne : es = []
  · subst hne
    cases A with
    | none => simp [Conv.bytesToString]; rfl
    | some a =>
      have := run_bytesToString (P := P) w a 0 cap [] (by simp [loadCells, loadCellsFrom])
      simp only [List.length_nil] at this ⊢
      rw [this]
      rfl
  · obtain ⟨ad, e, rfl, he, hz, hS, hE⟩ := h4 hne
    have h1 := hsz e he hne
    have hl := run_loadCells_list (P := P) w ad ((es.map asInt).map (Value.int .u8)) (fun j v hj => by
      simp only [List.map_map, List.getElem?_map, Option.map_eq_some_iff] at hj
      obtain ⟨c, hc, rfl⟩ := hj
      obtain ⟨y, y1, y2, y3, y4⟩ := relE_iff.1 hE j c hc
      have hy := u8_el h8 (wtL_iff.1 h3 c (List.mem_of_getElem? hc)) y1
      subst hy
      have := y4 0 _ rfl
      rw [h1, Nat.zero_add, Nat.mul_one, Nat.add_zero] at this
      exact this)
    simp only [List.length_map] at hl
    rw [run_bytesToString w ad es.length cap _ hl, foldl_push]
    simp [List.map_map, Function.comp_def]

theorem strRow_in {s : ByteArray} {arr : Array Value} (hpre : ∀ j (h : j < s.size), arr[j]? = some (.int .u8 (s.data[j]'h).toNat)) : inRow T φ w S arr 0 1 (strBytes s) := by
  intro k e hk
  simp only [strBytes, List.getElem?_map, Option.map_eq_some_iff] at hk
  obtain ⟨b, hb, rfl⟩ := hk
  refine ⟨.int .u8 b.toNat, by simp only [rel], rfl, fun u hu => by simp [Value.cells] at hu; subst hu; rfl, fun j u hu => ?_⟩
  cases j with
  | zero =>
    simp [Value.cells] at hu; subst hu
    simp only [Array.getElem?_toList] at hb
    obtain ⟨h1, h2⟩ := Array.getElem?_eq_some_iff.1 hb
    rw [show 0 + k * 1 + 0 = k from by omega, hpre k h1, h2]
  | succ j => simp [Value.cells] at hu

theorem bytes_left {m u : Nat} {s : ByteArray} {e : TE} (hs : Since w0 w) (hh : HOk T φ w0.Z w S hp) (hm : look hp m = none) (he : T.look u = some e) (h1 : e.size = 1) (h8 : isU8 T u = true) (hmax : s.size ≤ maxLen) :
    Left T w0 φ S hp w (.row m) [(m, .ro u (strBytes s))] (.slice (some ⟨w.heap.size, 0, none⟩) s.size (grownCap w s.size 0 u))
      (w.drew.alloc (.cells (bytesRow s (grownCap w s.size 0 u)) u ((bytesRow s (grownCap w s.size 0 u)).size, (bytesRow s (grownCap w s.size 0 u)).size + 1))) := by
  have hφ : φ m = none := (hh.dom m).2 hm
  have hge := grownCap_ge w s.size 0 u
  have hcm := grownCap_le_maxLen w s.size 0 u hmax
  generalize grownCap w s.size 0 u = cap at *
  have hsz : (bytesRow s cap).size = cap := by
    have : s.data.size = s.size := rfl
    simp [bytesRow]; omega
  have hlen : (strBytes s).length = s.size := by
    have : s.data.size = s.size := rfl
    simp [strBytes]
  generalize ho : Obj.cells (bytesRow s cap) u ((bytesRow s cap).size, (bytesRow s cap).size + 1) = ob
  have hkeep : ∀ k, k < w.heap.size → (w.drew.alloc ob).heap[k]? = w.heap[k]? := fun k hk => Below.heap_alloc w.drew ob k hk
  have hnew : (w.drew.alloc ob).heap[w.heap.size]? = some ob := heap_alloc_new w.drew ob
  refine ⟨upd φ m (.rw w.heap.size 0 s.size cap 1), fun k => S k ∨ k = w.heap.size, ⟨upd_le hφ, ⟨fun _ h => .inl h, fun k hk => hk.imp id (fun e => by subst e; exact hs.fresh)⟩, fun k hk => hkeep k (hh.old k hk), hs.drew.alloc ob, ?_⟩, ?_⟩
  · refine hh.cons (upd_le hφ) (fun k hk => upd_ne hk) (by rw [upd_self]; simp) (fun k hk => hkeep k (hh.old k hk)) (fun _ h => .inl h) (fun k c l B hk hc hc2 hl hB => ?_) (by simp) ?_ (fun hb => by cases hb) (fun k hk => ?_)
    · obtain ⟨o1, o2, o3⟩ := hh.own k c l B hc hc2 hl hB
      exact ⟨hkeep B o2, fun hS => hS.elim o3 (fun h => by omega)⟩
    · refine ⟨strBytes_wt h8, e, he, by omega, .inl ⟨w.heap.size, 0, cap, bytesRow s cap, _, by rw [upd_self, hlen, h1], .inr rfl, by rw [hnew, ← ho], hsz, by rw [hlen, h1]; omega, ?_⟩⟩
      rw [h1]
      refine strRow_in (fun j hj => ?_)
      simp only [bytesRow]
      rw [Array.getElem?_append_left (by simpa using hj)]
      simp [hj]
    · rcases hk with hk | rfl
      · have := hh.old k hk
        simp; omega
      · simp
  · simp only [rel]
    exact .inl ⟨w.heap.size, 0, s.size, cap, 1, cap, upd_self, rfl, hge, hcm, by omega⟩

theorem convF_ok (htok : TyOk P T) (hs : Since w0 w) (hh : HOk T φ w0.Z w S hp) {s d : Nat} {va : V} {n : Option Nat} {v : V} {E : Hp} (hn : ∀ m, n = some m → look hp m = none) (h : Res P T (convF (real P T w0) T hp s d va n) v E) (hr : rel T φ w S va x) :
    ∃ xv w', (convert s d x).run P w = .ok xv w' ∧ Left T w0 φ S hp w v E xv w' := by
  have stay : ∀ {v xv}, (convert s d x).run P w = .ok xv w → rel T φ w S v xv → ∃ xv w', (convert s d x).run P w = .ok xv w' ∧ Left T w0 φ S hp w v [] xv w' := fun h1 h2 => ⟨_, w, h1, φ, S, Ext.refl hs hh, h2⟩
  unfold convF at h
  split at h
  · rename_i es ed hes hed
    have us := htok.und _ _ hes
    have ud := htok.und _ _ hed
    split at h
    · rename_i ks k hks hk
      rw [hks] at us; rw [hk] at ud
      split at h
      · rename_i k' a ha
        obtain rfl := asI_lit ha hr
        obtain ⟨rfl, rfl⟩ := res_ok h
        exact stay (by simp [convert, run_underlying us, run_underlying ud, Conv.intToInt]) (rel_si _ _)
      · rename_i k' a ha
        obtain rfl := asI_sym ha hr
        obtain ⟨rfl, rfl⟩ := res_ok h
        exact stay (by simp [convert, run_underlying us, run_underlying ud, Conv.intToInt]; rfl) (rel_i _ _)
      · exact (res_fail h).elim
    · rename_i hks hk
      rw [hks] at us; rw [hk] at ud
      split at h
      · rename_i c hc
        obtain rfl := asS_some hc hr
        obtain ⟨rfl, rfl⟩ := res_ok h
        exact stay (by simp [convert, run_underlying us, run_underlying ud]) hr
      · exact (res_fail h).elim
    · rename_i u hks hk
      rw [hks] at us; rw [hk] at ud
      split at h
      · rename_i h8
        simp only [Bool.and_eq_true, beq_iff_eq] at h8
        obtain ⟨h8, h1⟩ := h8
        obtain ⟨te, hte, htd⟩ := isU8_of h8
        have uu := htok.und _ _ hte
        rw [htd] at uu
        split at h
        · rename_i u' l hex
          split at h
          · rename_i hU
            obtain rfl : u = u' := by simpa using hU
            obtain ⟨rfl, rfl⟩ := res_ok h
            have hx := exp_ok (P := P) (w0 := w0) hh hr
            rw [hex] at hx
            exact stay (run_sl_string us uu ud h8 hx (fun e he _ => by simpa [sizeT, he] using h1)) (rel_str _)
          · exact (res_fail h).elim
        · rename_i hex
          obtain ⟨rfl, rfl⟩ := res_ok h
          have hx := exp_ok (P := P) (w0 := w0) hh hr
          rw [hex] at hx
          simp only [rel] at hx
          subst hx
          exact stay (by rw [run_convert_bytes_string w s d u none 0 0 us uu ud]; simp [Conv.bytesToString]) (rel_ss _)
        · exact (res_fail h).elim
      · exact (res_fail h).elim
    · rename_i u hks hk
      rw [hks] at us; rw [hk] at ud
      split at h
      · rename_i h8
        simp only [Bool.and_eq_true, beq_iff_eq] at h8
        obtain ⟨h8, h1⟩ := h8
        obtain ⟨te, hte, htd⟩ := isU8_of h8
        have uu := htok.und _ _ hte
        rw [htd] at uu
        split at h
        · rename_i c m hm'
          obtain rfl := asS_some hm' hr
          obtain ⟨hmax, h⟩ := res_need h
          obtain ⟨rfl, rfl⟩ := res_ok h
          refine ⟨_, _, run_bytes_of_string w s d u _ us ud uu, bytes_left hs hh (hn _ rfl) hte (by simpa [sizeT, hte] using h1) h8 ?_⟩
          simp only [real] at hmax
          simp only [maxLen]
          omega
        · exact (res_fail h).elim
      · exact (res_fail h).elim
    · exact (res_fail h).elim
  · exact (res_fail h).elim

theorem minmax_ok {l : Array Value} {vs : List V} {v : V} {E : Hp} {f : Int → Int → Int} {m : Sem Value} (h : Res P T (minmax f vs) v E) (hr : relL T φ w S vs l.toList)
    (hm : ∀ k k' a b, l = #[.int k a, .int k' b] → m.run P w = .ok (.int k (f a b)) w) : Gives P T φ w S m v E := by
  unfold minmax at h
  split at h
  · rename_i x y
    simp only [relL] at hr
    obtain ⟨x', xs, e1, r1, y', ys, e2, r2, e3⟩ := hr
    subst e3; subst e2
    have el : l = #[x', y'] := by
      apply Array.ext'
      simpa using e1
    have fin : ∀ {k k' a b}, x' = .int k a → y' = .int k' b → Res P T (.ok (.i k (f a b)) []) v E → Gives P T φ w S m v E := by
      intro k k' a b h1 h2 h3
      obtain ⟨rfl, rfl⟩ := res_ok h3
      exact ⟨rfl, _, hm k k' a b (by rw [el, h1, h2]), rel_i _ _⟩
    split at h
    · rename_i h1 h2; exact fin (asI_lit h1 r1) (asI_lit h2 r2) h
    · rename_i h1 h2; exact fin (asI_lit h1 r1) (asI_sym h2 r2) h
    · rename_i h1 h2; exact fin (asI_sym h1 r1) (asI_lit h2 r2) h
    · rename_i h1 h2; exact fin (asI_sym h1 r1) (asI_sym h2 r2) h
    · exact (res_fail h).elim
  · exact (res_fail h).elim
end
end Go.Ab
end
section
/- Each operation does what the calculus says: clear, x[lo:hi:max], a place in an array. No statement of its own. -/

namespace Go.Ab
open Go.RowKit

section
variable {P : Program} {T : Tr} {w0 : Base} {φ φ' : Nat → Option Loc} {w w' : World} {S S' : Nat → Prop} {v : V} {x : Value} {hp : Hp} {b0 : Nat → Prop}

theorem rowWrite (hs : Since w0 w) (hh : HOk T φ w0.Z w S hp) {n u : Nat} {eu : TE} {es xs : List V} {lo B room : Nat} {arr : Array Value} {news : List Value} (heu : T.look u = some eu) (hpos : 0 < eu.size) (hl : look hp n = some (.row u es)) (hφ : φ n = some (.rw B 0 es.length room eu.size)) (hB : w.heap[B]? = some (.cells arr u (0, 0))) (hroom : arr.size = room) (hfit : es.length * eu.size ≤ room) (hrow : inRow T φ w S arr 0 eu.size es) (hwt : wtL T u es)
    (hxw : wtL T u xs) (hin : inRow T φ w S news.toArray 0 eu.size xs) (hnl : news.length = xs.length * eu.size) (hlo : lo + xs.length ≤ es.length) :
    LeftS T w0 φ S hp w [(n, .row u (es.take lo ++ xs ++ es.drop (lo + xs.length)))] (w.setRow B (arr.toList.take (lo * eu.size) ++ news ++ arr.toList.drop (lo * eu.size + news.length)).toArray) := by
  have hfc : lo * eu.size + news.length ≤ arr.size := by
    rw [hnl, ← Nat.add_mul, hroom]
    exact Nat.le_trans (Nat.mul_le_mul_right _ hlo) hfit
  have o3 := (hh.own n _ _ B hl rfl hφ rfl).2.2
  have hkeep : ∀ k, S k → (w.setRow B (arr.toList.take (lo * eu.size) ++ news ++ arr.toList.drop (lo * eu.size + news.length)).toArray).heap[k]? = w.heap[k]? := fun k hk => setRow_other w B k _ (fun e => o3 (e ▸ hk))
  have hlen : (es.take lo ++ xs ++ es.drop (lo + xs.length)).length = es.length := by
    simp only [List.length_append, List.length_take, List.length_drop]
    omega
  refine ⟨φ, S, Ext.write hs hh hl rfl rfl hφ rfl ⟨?_, eu, heu, hpos, .inl ⟨B, 0, room, _, by rw [hlen]; exact hφ, setRow_heap w B arr _ u (0, 0) hB, rfl, ?_, by rw [hlen, Nat.zero_add]; exact hfit, ?_⟩⟩⟩
  · refine wtL_iff.2 (fun e he => ?_)
    simp only [List.mem_append] at he
    rcases he with (he | he) | he
    · exact wtL_iff.1 hwt e (List.mem_of_mem_take he)
    · exact wtL_iff.1 hxw e he
    · exact wtL_iff.1 hwt e (List.mem_of_mem_drop he)
  · simp only [List.size_toArray, List.length_append, List.length_take, List.length_drop, Array.length_toList] at hfc ⊢
    omega
  · exact inRow_mono (LocLe.refl _) hkeep (fun _ h => h) (inRow_over (n := 0) hrow (by omega) hin hnl hlo)

/-! ### a slice held against nil -/
theorem run_nil {op : BinOp} {t u : TypeId} {xo yo : Operand} (ht : P.underlying t = some (.slice u)) {A : Option Addr} {len cap : Nat} (ho : op = .eql ∨ op = .neq) :
    (do eqGuard op t xo yo (.slice A len cap) (.slice none 0 0); binOp op t (.slice A len cap) (.slice none 0 0) : Sem Value).run P w = .ok (.bool (match op with | .eql => A.isNone | _ => !A.isNone)) w := by
  have hg := eqGuard_plain (P := P) (w := w) (op := op) (t := t) (xo := xo) (yo := yo) (x := .slice A len cap) (y := .slice none 0 0) (fun cs h => by cases h) (by intro h; cases h)
  have he : (Op.equal t (.slice A len cap) (.slice none 0 0)).run P w = .ok A.isNone w := by
    obtain ⟨d, hd⟩ : ∃ d, Op.maxDepth = d + 1 := ⟨Op.maxDepth - 1, by decide⟩
    rw [Op.equal, hd]
    cases A <;> simp [Op.equalIn, run_underlying ht]
  rcases ho with rfl | rfl <;> simp [hg, binOp, he, Result.andThen]

theorem nilF_ok (htok : TyOk P T) {op : BinOp} {t : TypeId} {xo yo : Operand} {vx : V} {x : Value} {v E} (h : Res P T (nilF (real P T w0) T op t vx) v E) (hx : rel T φ w S vx x) :
    Gives P T φ w S (do eqGuard op t xo yo x (.slice none 0 0); binOp op t x (.slice none 0 0)) v E := by
  unfold nilF at h
  split at h
  · rename_i e he
    have ht := htok.und _ _ he
    split at h
    · rename_i u hd
      rw [hd] at ht
      split at h
      · split at h
        · obtain ⟨rfl, rfl⟩ := res_ok h
          simp only [rel] at hx
          subst hx
          exact ⟨rfl, _, run_nil ht (.inl rfl), rel_sb _⟩
        · obtain ⟨rfl, rfl⟩ := res_ok h
          simp only [rel] at hx
          obtain ⟨A, cap, rfl, h1, h2, h3, h4⟩ := hx
          refine ⟨rfl, _, run_nil ht (.inl rfl), ?_⟩
          simp only [rel]
          refine ⟨_, rfl, fun hb => ?_⟩
          rename_i es
          by_cases hne : es = []
          · exact hne
          · obtain ⟨ad, e', hA, _⟩ := h4 hne
            rw [hA] at hb; cases hb
        · exact (res_fail h).elim
      · split at h
        · obtain ⟨rfl, rfl⟩ := res_ok h
          simp only [rel] at hx
          subst hx
          exact ⟨rfl, _, run_nil ht (.inr rfl), rel_sb _⟩
        · obtain ⟨rfl, rfl⟩ := res_ok h
          simp only [rel] at hx
          obtain ⟨A, cap, rfl, h1, h2, h3, h4⟩ := hx
          refine ⟨rfl, _, run_nil ht (.inr rfl), ?_⟩
          simp only [rel]
          refine ⟨_, rfl, fun hb => ?_⟩
          rename_i es
          by_cases hne : es = []
          · exact hne
          · obtain ⟨ad, e', hA, _⟩ := h4 hne
            rw [hA] at hb; cases hb
        · exact (res_fail h).elim
      · exact (res_fail h).elim
    · exact (res_fail h).elim
  · exact (res_fail h).elim

/-! ### clear -/
theorem run_clear {t ty e : TypeId} {i : TypeInfo} {z : Value} (ht : P.underlying t = some (.slice e)) (hi : P.info? e = some i) (hz : i.zero = some z) {g off n cap : Nat} {cur : Array Value} (hn : n ≠ 0) (hg : w.heap[g]? = some (.cells cur e (0, 0))) (h1 : ∀ u ∈ (Builtin.zeroCells z.cells n).toList, u.oneCell' = true) (hfit : off + (Builtin.zeroCells z.cells n).toList.length ≤ cur.size) :
    (Builtin.clear_ #[t] ty #[.slice (some ⟨g, off, none⟩) n cap]).run P w = .ok (.tuple #[]) (w.setRow g (cur.toList.take off ++ (Builtin.zeroCells z.cells n).toList ++ cur.toList.drop (off + (Builtin.zeroCells z.cells n).toList.length)).toArray) := by
  have hst := run_storeCells_at P g off e (Builtin.zeroCells z.cells n).toList 0 cur w hg (by simpa using hfit) h1
  simp only [Nat.add_zero] at hst
  obtain ⟨n, rfl⟩ := Nat.exists_eq_succ_of_ne_zero hn
  simp [Builtin.clear_, run_underlying ht, zeroValue, typeInfo, hi, hz, hst]

theorem run_clear_none {t ty e : TypeId} (ht : P.underlying t = some (.slice e)) {A : Option Addr} {cap : Nat} :
    (Builtin.clear_ #[t] ty #[.slice A 0 cap]).run P w = .ok (.tuple #[]) w := by
  cases A <;> simp [Builtin.clear_, run_underlying ht]

theorem clearF_ok (htok : TyOk P T) (hs : Since w0 w) (hh : HOk T φ w0.Z w S hp) {t ty : Nat} {vd : V} {yd : Value} {v : V} {E : Hp} (h : Res P T (clearF (real P T w0) T hp t vd) v E)
    (hrd : rel T φ w S vd yd) : ∃ xv w', (Builtin.clear_ #[t] ty #[yd]).run P w = .ok xv w' ∧ Left T w0 φ S hp w v E xv w' := by
  unfold clearF at h
  split at h
  · rename_i u eu hel
    obtain ⟨et, het, hd, heu⟩ := elemT_of hel
    have ht := htok.und _ _ het
    rw [hd] at ht
    obtain ⟨i, hi, hsz, hby, hzz⟩ := htok.info _ _ heu
    split at h
    · rename_i hok
      simp only [Bool.and_eq_true] at hok
      obtain ⟨⟨hck, hzk⟩, hp0⟩ := hok
      have hpos : 0 < eu.size := by simp [Nat.blt] at hp0; omega
      have hzs : eu.zero.cells.size = eu.size := by simpa [zok] using hzk
      have hmade : ∀ n, (Builtin.zeroCells eu.zero.cells n) = madeCells eu.zero.cells (n * eu.size) := fun n => by rw [← hzs]; rfl
      have hwt : ∀ n, wtL T u (List.replicate n (zeroT T u eu)) := fun n => wtL_iff.2 (fun e he => by rw [(List.mem_replicate.1 he).2]; exact chk_wt (x := eu.zero) (φ := φ) (w := w) (S := S) hck (zeroT_rel u eu))
      have h1 : ∀ n, ∀ q ∈ (Builtin.zeroCells eu.zero.cells n).toList, q.oneCell' = true := fun n q hq => by
        have hz1 := (stor_cells (chk_stor hck) (zeroT_rel (T := T) (φ := φ) (w := w) (S := S) u eu)).2
        rw [Builtin.zeroCells] at hq
        simp only [Array.toList_map, List.mem_map] at hq
        obtain ⟨j, hj, rfl⟩ := hq
        have hlt : j % eu.zero.cells.size < eu.zero.cells.size := Nat.mod_lt _ (by omega)
        rw [getElem!_pos eu.zero.cells (j % eu.zero.cells.size) hlt]
        exact hz1 _ (Array.getElem_mem_toList hlt)
      -- the row is written
      have main : ∀ (n : Nat) (es : List V) (lo dl cap B room : Nat) (arr : Array Value), look hp n = some (.row u es) → φ n = some (.rw B 0 es.length room eu.size) → w.heap[B]? = some (.cells arr u (0, 0)) → arr.size = room → es.length * eu.size ≤ room → inRow T φ w S arr 0 eu.size es → wtL T u es → lo + dl ≤ es.length → dl ≠ 0 →
          yd = .slice (some ⟨B, lo * eu.size, none⟩) dl cap →
          ∃ xv w', (Builtin.clear_ #[t] ty #[yd]).run P w = .ok xv w' ∧ LeftS T w0 φ S hp w [(n, .row u (es.take lo ++ List.replicate dl (zeroT T u eu) ++ es.drop (lo + (List.replicate dl (zeroT T u eu)).length)))] w' := by
        intro n es lo dl cap B room arr hl hφ hB hroom hfit hrow hw hlo hdl hyd
        subst hyd
        have hnl : (Builtin.zeroCells eu.zero.cells dl).toList.length = (List.replicate dl (zeroT T u eu)).length * eu.size := by
          rw [Array.length_toList, size_zeroCells, hzs, List.length_replicate]
        have hin : inRow T φ w S (Builtin.zeroCells eu.zero.cells dl).toList.toArray 0 eu.size (List.replicate dl (zeroT T u eu)) := by
          rw [Array.toArray_toList, hmade]
          exact made_row hzs hpos (chk_stor hck)
        have hfc : lo * eu.size + (Builtin.zeroCells eu.zero.cells dl).toList.length ≤ arr.size := by
          rw [hnl, ← Nat.add_mul, hroom, List.length_replicate]
          exact Nat.le_trans (Nat.mul_le_mul_right _ hlo) hfit
        exact ⟨_, _, run_clear (off := lo * eu.size) (cap := cap) ht hi hzz hdl hB (h1 dl) hfc, rowWrite hs hh heu hpos hl hφ hB hroom hfit hrow hw (hwt dl) hin hnl (by rw [List.length_replicate]; exact hlo)⟩
      have same : ∀ {n : Nat} {es : List V}, look hp n = some (.row u es) → LeftS T w0 φ S hp w [(n, .row u es)] w := fun {n es} hl => ⟨φ, S, LocLe.refl _, SLe.refl, fun _ _ => rfl, hs, hh.perm (fun k => by
        show look hp k = look ((n, Blk.row u es) :: hp) k
        rw [look_cons]
        split
        · rename_i e; subst e; exact hl
        · rfl)⟩
      have dead : ∀ {E w'} {xv : Value}, LeftS T w0 φ S hp w E w' → Left T w0 φ S hp w .dead E xv w' := fun {E w' xv} ⟨φ', S', h⟩ => ⟨φ', S', h, by simp only [rel]⟩
      split at h
      · obtain ⟨rfl, rfl⟩ := res_ok h
        simp only [rel] at hrd
        subst hrd
        exact ⟨_, w, run_clear_none ht, φ, S, Ext.refl hs hh, by simp only [rel]⟩
      · rename_i n
        split at h
        · rename_i u2 es hl
          split at h
          · rename_i hu
            obtain rfl : u = u2 := by simpa using hu
            obtain ⟨rfl, rfl⟩ := res_ok h
            obtain ⟨hw, e', he', hz', hb⟩ := hh.blk _ _ hl
            rw [heu] at he'; injection he' with he'; subst he'
            simp only [rel] at hrd
            have hov : (real P T w0).ovl es 0 ((real P T w0).rep ((real P T w0).len es) (zeroT T u eu)) = es.take 0 ++ List.replicate es.length (zeroT T u eu) ++ es.drop (0 + (List.replicate es.length (zeroT T u eu)).length) := by
              simp [real, ovlReal]
            by_cases h0 : es = []
            · subst h0
              have e2 : (real P T w0).ovl [] 0 ((real P T w0).rep ((real P T w0).len []) (zeroT T u eu)) = [] := by simp [real, ovlReal]
              rw [e2]
              rcases hrd with ⟨B', off', len', room', sz', cap, k1, k2, k3, k4, k5⟩ | ⟨k1, A, k2⟩
              · rcases hb with ⟨B, off, room, arr, g1, g2, g3, g4, g5, g6⟩ | ⟨g1, g2⟩
                · rw [g1] at k1; injection k1 with k1; injection k1 with a1 a2 a3 a4 a5; subst a3; subst k2
                  exact ⟨_, w, run_clear_none ht, dead (same hl)⟩
                · rw [g1] at k1; cases k1
              · subst k2
                exact ⟨_, w, run_clear_none ht, dead (same hl)⟩
            · rcases hb with ⟨B, off, room, arr, g1, g2, g3, g4, g5, g6⟩ | ⟨g1, g2⟩
              · rcases hrd with ⟨B', off', len', room', sz', cap, k1, k2, k3, k4, k5⟩ | ⟨k1, _⟩
                · rw [g1] at k1; injection k1 with k1; injection k1 with a1 a2 a3 a4 a5; subst a1; subst a2; subst a3; subst a4; subst a5; subst g3
                  obtain ⟨xv, w', m1, m2⟩ := main n es 0 es.length cap B room arr hl g1 g2 g4 (by omega) g6 hw (by omega) (fun e => h0 (List.eq_nil_of_length_eq_zero e)) (by rw [k2]; simp)
                  exact ⟨xv, w', m1, by rw [hov]; exact dead m2⟩
                · rw [g1] at k1; cases k1
              · exact absurd g2 h0
          · exact (res_fail h).elim
        · exact (res_fail h).elim
      · rename_i n lo ln
        split at h
        · rename_i u2 es hl
          split at h
          · rename_i hu
            obtain rfl : u = u2 := by simpa using hu
            obtain ⟨rfl, rfl⟩ := res_ok h
            obtain ⟨hw, e', he', hz', hb⟩ := hh.blk _ _ hl
            rw [heu] at he'; injection he' with he'; subst he'
            simp only [rel] at hrd
            rcases hrd with ⟨B', off', len', room', sz', cap, A, k1, k2, k3, k4, k5, k6, k7, k8, k9⟩ | ⟨k1, ⟨A, k2⟩, k3, k4⟩
            · rcases hb with ⟨B, off, room, arr, g1, g2, g3, g4, g5, g6⟩ | ⟨g1, g2⟩
              · rw [g1] at k1; injection k1 with k1; injection k1 with a1 a2 a3 a4 a5; subst a1; subst a2; subst a3; subst a4; subst a5; subst g3
                have hov : (real P T w0).ovl es lo ((real P T w0).rep ln (zeroT T u eu)) = es.take lo.toNat ++ List.replicate ln.toNat (zeroT T u eu) ++ es.drop (lo.toNat + (List.replicate ln.toNat (zeroT T u eu)).length) := by
                  simp only [real, ovlReal]
                  rw [List.take_of_length_le (l := List.replicate ln.toNat (zeroT T u eu)) (by rw [List.length_replicate]; omega)]
                by_cases h0 : ln.toNat = 0
                · rw [hov, h0]
                  simp only [List.replicate_zero, List.append_nil, List.length_nil, Nat.add_zero, List.take_append_drop]
                  subst k2
                  rw [h0]
                  exact ⟨_, w, run_clear_none ht, dead (same hl)⟩
                · obtain ⟨xv, w', m1, m2⟩ := main n es lo.toNat ln.toNat cap B room arr hl g1 g2 g4 (by omega) g6 hw (by omega) h0 (by rw [k2, k9 (by omega)]; simp)
                  exact ⟨xv, w', m1, by rw [hov]; exact dead m2⟩
              · rw [g1] at k1; cases k1
            · rcases hb with ⟨B, off, room, arr, g1, g2, g3, g4, g5, g6⟩ | ⟨g1, g2⟩
              · rw [g1] at k1; cases k1
              · subst g2; subst k2; subst k3; subst k4
                have e2 : (real P T w0).ovl [] 0 ((real P T w0).rep 0 (zeroT T u eu)) = [] := by simp [real, ovlReal]
                rw [e2]
                exact ⟨_, w, run_clear_none ht, dead (same hl)⟩
          · exact (res_fail h).elim
        · exact (res_fail h).elim
      · exact (res_fail h).elim
    · exact (res_fail h).elim
  · exact (res_fail h).elim

/-! ### append(s, make([]T, n)...) -/
theorem wrap_room {n : Int} (h0 : 0 ≤ n) (h1 : n ≤ 140737488355328) : IntKind.i64.wrap n = n := by
  simp [IntKind.wrap, IntKind.bits, IntKind.signed]
  omega

theorem run_appz_none {A : Option Addr} {t t2 ty e : TypeId} {k2 k : IntKind} {i : TypeInfo} (ht : P.underlying t = some (.slice e)) (ht2 : P.underlying t2 = some (.int k2)) (hi : P.info? e = some i) :
    (Builtin.append_ #[t, t2] ty #[.slice A 0 0, .int k 0]).run P w = .ok (.slice A 0 0) w := by
  have h0 : IntKind.i64.wrap 0 = 0 := by decide
  cases A <;> simp [Builtin.append_, run_underlying ht, run_underlying ht2, sizeOf, typeInfo, hi, Go.asInt, asIntOf, h0, storeCells]

theorem run_appz_room {t t2 ty e : TypeId} {k2 k : IntKind} {i : TypeInfo} {z : Value} (ht : P.underlying t = some (.slice e)) (ht2 : P.underlying t2 = some (.int k2)) (hi : P.info? e = some i) (hz : i.zero = some z) {n g sLen sCap : Nat} {cur : Array Value} (hb : (n : Int) ≤ 140737488355328) (hby : (n : Int) * i.bytes ≤ 281474976710656) (hzs : z.cells.size = i.size) (hpos : 0 < i.size)
    (hg : w.heap[g]? = some (.cells cur e (0, 0))) (h1 : ∀ u ∈ (Builtin.zeroCells z.cells n).toList, u.oneCell' = true) (hroom : sLen + n ≤ sCap) (hfit : sLen * i.size + (Builtin.zeroCells z.cells n).toList.length ≤ cur.size) :
    (Builtin.append_ #[t, t2] ty #[.slice (some ⟨g, 0, none⟩) sLen sCap, .int k n]).run P w = .ok (.slice (some ⟨g, 0, none⟩) (sLen + n) sCap) (w.setRow g (cur.toList.take (sLen * i.size) ++ (Builtin.zeroCells z.cells n).toList ++ cur.toList.drop (sLen * i.size + (Builtin.zeroCells z.cells n).toList.length)).toArray) := by
  have hst := run_storeCells_at P g (sLen * i.size) e (Builtin.zeroCells z.cells n).toList 0 cur w hg (by simpa using hfit) h1
  simp only [Nat.add_zero] at hst
  have hw := wrap_room (n := (n : Int)) (by omega) hb
  have hby' : ¬ (281474976710656 < (n : Int) * i.bytes) := by omega
  have hn0 : ¬ ((n : Int) < 0) := by omega
  by_cases h0 : n = 0
  · subst h0
    have e0 : Builtin.zeroCells z.cells 0 = #[] := Array.eq_empty_of_size_eq_zero (by rw [size_zeroCells]; simp)
    have hroom : sLen ≤ sCap := by omega
    rw [e0] at hst
    simp only [Array.toList_empty, List.append_nil, List.length_nil, Nat.add_zero, List.take_append_drop] at hst
    simp [Builtin.append_, run_underlying ht, run_underlying ht2, sizeOf, typeInfo, hi, Go.asInt, asIntOf, show IntKind.i64.wrap 0 = 0 from by decide, hroom, add_at0, e0, hst]
  · have hne : ¬ (n * i.size = 0) := by have := Nat.mul_pos (Nat.pos_of_ne_zero h0) hpos; omega
    have hne' : ¬ (n = 0 ∨ i.size = 0) := by omega
    simp [Builtin.append_, run_underlying ht, run_underlying ht2, sizeOf, typeInfo, zeroValue, hi, hz, Go.asInt, asIntOf, hw, hn0, hby', hroom, hne', hne, add_at0, hst]

theorem run_appz_grow {t t2 ty e : TypeId} {k2 k : IntKind} {i : TypeInfo} {z : Value} (ht : P.underlying t = some (.slice e)) (ht2 : P.underlying t2 = some (.int k2)) (hi : P.info? e = some i) (hz : i.zero = some z) {n sLen sCap : Nat} {base : Option Addr} {olds : List Value} (hb : (n : Int) ≤ 140737488355328) (hby : (n : Int) * i.bytes ≤ 281474976710656) (hzs : z.cells.size = i.size) (hpos : 0 < i.size)
    (ho : (Builtin.firstCells i.size sLen (.slice base sLen sCap)).run P w.drew = .ok olds.toArray w.drew) (hg : sCap < sLen + n) (h63 : ((sLen + n : Nat) : Int) ≤ 9223372036854775807) (hfit : Builtin.nextslicecap (sLen + n) sCap * i.bytes ≤ 281474976710656) :
    (Builtin.append_ #[t, t2] ty #[.slice base sLen sCap, .int k n]).run P w = .ok (.slice (some ⟨w.heap.size, 0, none⟩) (sLen + n) (grownCap w (sLen + n) sCap e))
        (w.drew.alloc (.cells (olds ++ (Builtin.zeroCells z.cells n).toList ++ (Builtin.zeroCells z.cells (grownCap w (sLen + n) sCap e - (sLen + n))).toList).toArray e)) := by
  have hw := wrap_room (n := (n : Int)) (by omega) hb
  have hby' : ¬ (281474976710656 < (n : Int) * i.bytes) := by omega
  have hn0 : ¬ ((n : Int) < 0) := by omega
  have hn : ¬ (sLen + n ≤ sCap) := by omega
  have h63' : ¬ (9223372036854775807 < ((sLen : Int) + (n : Int))) := by omega
  have h48' : ¬ (281474976710656 < Builtin.nextslicecap (sLen + n) sCap * i.bytes) := by omega
  have hmax : ¬ (IntKind.i64.max < ((sLen : Int) + (n : Int))) := by
    have : IntKind.i64.max = 9223372036854775807 := by decide
    omega
  by_cases h0 : n = 0
  · subst h0
    have e0 : Builtin.zeroCells z.cells 0 = #[] := Array.eq_empty_of_size_eq_zero (by rw [size_zeroCells]; simp)
    simp only [Nat.add_zero] at hn h48' hmax h63'
    simp [Builtin.append_, run_underlying ht, run_underlying ht2, sizeOf, typeInfo, zeroValue, hi, hz, Go.asInt, asIntOf, show IntKind.i64.wrap 0 = 0 from by decide, hn, h48', Question.forced, ho, newRow, grownCap, e0]
    have hs9 : ¬ ((9223372036854775807 : Int) < (sLen : Int)) := by omega
    rw [if_neg hs9]
    simp [ho]
    congr 2
    apply Array.ext'
    simp
  · have hne : ¬ (n * i.size = 0) := by have := Nat.mul_pos (Nat.pos_of_ne_zero h0) hpos; omega
    have hne' : ¬ (n = 0 ∨ i.size = 0) := by omega
    simp [Builtin.append_, run_underlying ht, run_underlying ht2, sizeOf, typeInfo, zeroValue, hi, hz, Go.asInt, asIntOf, hw, hn0, hby', hne', hne, hn, h63', h48', Question.forced, ho, newRow, grownCap, hmax]
    congr 2
    apply Array.ext'
    simp

theorem appZF_ok (htok : TyOk P T) (hs : Since w0 w) (hh : HOk T φ w0.Z w S hp) {t t2 ty : Nat} {vs vx : V} {ys yx : Value} {dm : Option Nat} {v : V} {E : Hp} (hm : ∀ m, dm = some m → look hp m = none) (h : Res P T (appZF (real P T w0) T hp t t2 vs vx dm) v E)
    (hrs : rel T φ w S vs ys) (hrx : rel T φ w S vx yx) : ∃ xv w', (Builtin.append_ #[t, t2] ty #[ys, yx]).run P w = .ok xv w' ∧ Left T w0 φ S hp w v E xv w' := by
  unfold appZF at h
  split at h
  · rename_i u eu m n hel hz
    obtain ⟨et, het, hd, heu⟩ := elemT_of hel
    have ht := htok.und _ _ het
    rw [hd] at ht
    obtain ⟨i, hi, hsz, hby, hzz⟩ := htok.info _ _ heu
    obtain ⟨k, rfl⟩ := asZ_some hz hrx
    split at h
    · rename_i hok
      simp only [Bool.and_eq_true] at hok
      obtain ⟨⟨⟨hint, hck⟩, hzk⟩, hp0⟩ := hok
      have hpos : 0 < eu.size := by simp [Nat.blt] at hp0; omega
      have hzs : eu.zero.cells.size = eu.size := by simpa [zok] using hzk
      have ht2 : ∃ k2, P.underlying t2 = some (.int k2) := by
        unfold isIntT at hint
        split at hint
        · rename_i e2 he2
          have hu2 := htok.und _ _ he2
          split at hint
          · rename_i k2 hd2; rw [hd2] at hu2; exact ⟨k2, hu2⟩
          · cases hint
        · cases hint
      obtain ⟨k2, ht2⟩ := ht2
      obtain ⟨h0, h⟩ := res_need h
      obtain ⟨⟨hr1, hr2⟩, h⟩ := res_need h
      obtain ⟨n, rfl⟩ := Int.eq_ofNat_of_zero_le h0
      have hbn : (n : Int) * i.bytes ≤ 281474976710656 := by
        have h2 : ((n * eu.bytes : Nat) : Int) ≤ 140737488355328 := Int.ofNat_le.2 (by simpa using hr2)
        rw [Int.natCast_mul] at h2
        rw [hby]; omega
      have hmade : (Builtin.zeroCells eu.zero.cells n) = madeCells eu.zero.cells (n * eu.size) := by rw [← hzs]; rfl
      have hwt : wtL T u (List.replicate n (zeroT T u eu)) := wtL_iff.2 (fun e he => by rw [(List.mem_replicate.1 he).2]; exact chk_wt (x := eu.zero) (φ := φ) (w := w) (S := S) hck (zeroT_rel u eu))
      have h1 : ∀ q ∈ (Builtin.zeroCells eu.zero.cells n).toList, q.oneCell' = true := fun q hq => by
        have hz1 := (stor_cells (chk_stor hck) (zeroT_rel (T := T) (φ := φ) (w := w) (S := S) u eu)).2
        rw [Builtin.zeroCells] at hq
        simp only [Array.toList_map, List.mem_map] at hq
        obtain ⟨j, hj, rfl⟩ := hq
        have hlt : j % eu.zero.cells.size < eu.zero.cells.size := Nat.mod_lt _ (by omega)
        rw [getElem!_pos eu.zero.cells (j % eu.zero.cells.size) hlt]
        exact hz1 _ (Array.getElem_mem_toList hlt)
      have hlen : (List.replicate n (zeroT T u eu)).length = n := List.length_replicate
      have hnl : (Builtin.zeroCells eu.zero.cells n).toList.length = (List.replicate n (zeroT T u eu)).length * eu.size := by
        rw [Array.length_toList, size_zeroCells, hzs, hlen]
      have hin : inRow T φ w S (Builtin.zeroCells eu.zero.cells n).toList.toArray 0 eu.size (List.replicate n (zeroT T u eu)) := by
        rw [Array.toArray_toList, hmade]
        exact made_row hzs hpos (chk_stor hck)
      refine appCore (xs := List.replicate n (zeroT T u eu)) (news := (Builtin.zeroCells eu.zero.cells n).toList) hs hh heu hpos hzk (hm m rfl) hwt hnl h1 hin (fun e0 => ?_) (fun hg hroom hfit => ?_) (fun ho hg h63 hfit => ?_) h hrs
      · rw [hlen] at e0; subst e0
        exact run_appz_none ht ht2 hi
      · rw [hlen] at hroom ⊢
        have := run_appz_room (ty := ty) (k := k) ht ht2 hi hzz (n := n) (by simpa using hr1) hbn (by rw [hsz, hzs]) (by omega) hg h1 hroom (by rw [hsz]; exact hfit)
        rw [hsz] at this
        exact this
      · rw [hlen] at hg h63 hfit ⊢
        exact run_appz_grow ht ht2 hi hzz (by simpa using hr1) hbn (by rw [hsz, hzs]) (by omega) (by rw [hsz]; exact ho) hg h63 (by rw [hby]; exact hfit)
    · exact (res_fail h).elim
  · exact (res_fail h).elim

/-! ### x[lo:hi:max] -/
theorem isSlc_rel {u : Nat} (h : isSlc hp u v = true) (hr : rel T φ w S v x) : ∃ A len cap, x = .slice A len cap := by
  cases v with
  | nil => simp only [rel] at hr; exact ⟨_, _, _, hr⟩
  | sl u' es => simp only [rel] at hr; obtain ⟨A, cap, hx, _⟩ := hr; exact ⟨_, _, _, hx⟩
  | row n =>
    simp only [rel] at hr
    rcases hr with ⟨B, off, len, room, sz, cap, _, hx, _⟩ | ⟨_, A, hx⟩
    · exact ⟨_, _, _, hx⟩
    · exact ⟨_, _, _, hx⟩
  | rowp n lo ln =>
    simp only [rel] at hr
    rcases hr with ⟨B, off, len, room, sz, cap, A, _, hx, _⟩ | ⟨_, ⟨A, hx⟩, _⟩
    · exact ⟨_, _, _, hx⟩
    · exact ⟨_, _, _, hx⟩
  | _ => cases h

theorem zeroL_rel {tm : List V} {a : Act} (hi : Inv T w0 φ S tm hp a w) {o : Operand} (h : zeroL (some (ev tm o)) = true) : ∃ k, a.eval o = .int k 0 := by
  simp only [zeroL] at h
  split at h
  · rename_i hn
    obtain ⟨k, hk⟩ := natOf_some hn (ev_rel hi o)
    exact ⟨k, hk⟩
  · cases h

theorem run_slice3 {t u : Nat} {i0 : TypeInfo} (ht : P.underlying t = some (.slice u)) (hi : P.info? u = some i0) {A : Option Addr} {len cap : Nat} {lo hi' mx : Option Value} {l h m : Nat} (hb : (Instr.sliceBounds true len cap lo hi' mx).run P w = .ok (l, h, m) w) :
    (Instr.sliceAt t (.slice A len cap) lo hi' mx).run P w = .ok (.slice (if m = l then A else A.map (·.add (l * i0.size))) (h - l) (m - l)) w := by
  simp [Instr.sliceAt, Instr.slice, run_underlying ht, hb, sizeOf, typeInfo, hi]

theorem slice3F_ok (htok : TyOk P T) {tm : List V} {a : Act} (hi : Inv T w0 φ S tm hp a w) {t : Nat} {va : V} {lo hi' : Option Operand} {mx : Operand} {m : Option Nat} (hm : ∀ k, m = some k → look hp k = none) {v : V} {E : Hp} (h : Res P T (slice3F (real P T w0) T hp t va (lo.map (ev tm)) (hi'.map (ev tm)) (ev tm mx) m) v E) (hr : rel T φ w S va x) :
    ∃ xv w', (Instr.sliceAt t x (lo.map a.eval) (hi'.map a.eval) (some (a.eval mx))).run P w = .ok xv w' ∧ Left T w0 φ S hp w v E xv w' := by
  have hh := hi.heap
  unfold slice3F at h
  split at h
  · rename_i u eu hel
    obtain ⟨et, het, hd, heu⟩ := elemT_of hel
    have ht := htok.und _ _ het
    rw [hd] at ht
    obtain ⟨i0, hi0, hsz, _⟩ := htok.info _ _ heu
    split at h
    · rename_i hz
      simp only [Bool.and_eq_true] at hz
      obtain ⟨⟨⟨⟨z1, z2⟩, z3⟩, z4⟩, z5⟩ := hz
      have hpos : 0 < eu.size := by simp [Nat.blt] at z4; omega
      split at h
      · rename_i hv k hh2
        obtain ⟨rfl, rfl⟩ := res_ok h
        obtain ⟨A, len, cap, rfl⟩ := isSlc_rel z5 hr
        cases hi' with
        | none => cases hh2
        | some oh =>
          obtain ⟨k1, e1⟩ := zeroL_rel hi z2
          obtain ⟨k2, e2⟩ := zeroL_rel hi z3
          have hb : (Instr.sliceBounds true len cap (lo.map a.eval) (some (a.eval oh)) (some (a.eval mx))).run P w = .ok (0, 0, 0) w := by
            rw [e1, e2]
            cases lo with
            | none => simp [Instr.sliceBounds, run_sliceBound w k2 0 cap _ (by omega) (by omega), run_sliceBound w k1 0 0 _ (by omega) (by omega)]
            | some ol =>
              obtain ⟨k3, e3⟩ := zeroL_rel hi z1
              rw [Option.map_some, e3]
              simp [Instr.sliceBounds, run_sliceBound w k2 0 cap _ (by omega) (by omega), run_sliceBound w k1 0 0 _ (by omega) (by omega), run_sliceBound w k3 0 0 _ (by omega) (by omega)]
          have := run_slice3 (A := A) ht hi0 hb
          simp only [if_pos, Nat.sub_zero] at this
          exact ⟨_, w, this, nilRow_left hi.since hh (hm _ rfl) heu hpos⟩
      · exact (res_fail h).elim
    · split at h
      · rename_i u' es _
        split at h
        · rename_i l hh' k hl hhi hk
          split at h
          · rename_i hU
            obtain rfl : u = u' := by simpa using hU
            obtain ⟨⟨h0, h1, h2⟩, h⟩ := res_need h
            obtain ⟨⟨g0, g1, g2⟩, h⟩ := res_need h
            obtain ⟨rfl, rfl⟩ := res_ok h
            simp only [rel] at hr
            obtain ⟨A, cap, rfl, k1, k2, k3, k4⟩ := hr
            have g2 : k ≤ es.length := g2
            cases hi' with
            | none => cases hhi
            | some oh =>
              obtain ⟨q1, e1⟩ := asZ_some hhi (ev_rel hi oh)
              obtain ⟨q2, e2⟩ := asZ_some hk (ev_rel hi mx)
              have hb : (Instr.sliceBounds true es.length cap (lo.map a.eval) (some (a.eval oh)) (some (a.eval mx))).run P w = .ok (l.toNat, hh'.toNat, k.toNat) w := by
                rw [e1, e2]
                cases lo with
                | none =>
                  simp only [Option.map_none, hiOf, Option.some.injEq] at hl
                  subst hl
                  simp [Instr.sliceBounds, run_sliceBound w q2 k cap _ (by omega) (by omega), run_sliceBound w q1 hh' k.toNat _ (by omega) (by omega)]
                | some ol =>
                  simp only [Option.map_some, hiOf] at hl
                  obtain ⟨q3, e3⟩ := asZ_some hl (ev_rel hi ol)
                  rw [Option.map_some, e3]
                  simp [Instr.sliceBounds, run_sliceBound w q2 k cap _ (by omega) (by omega), run_sliceBound w q1 hh' k.toNat _ (by omega) (by omega), run_sliceBound w q3 l hh'.toNat _ (by omega) (by omega)]
              have hrun := run_slice3 (A := A) ht hi0 hb
              refine ⟨_, w, hrun, φ, S, Ext.refl hi.since hh, ?_⟩
              rw [hsz]
              have hlen : ((es.take hh'.toNat).drop l.toNat).length = hh'.toNat - l.toNat := by simp; omega
              simp only [rel]
              refine ⟨_, k.toNat - l.toNat, by show Value.slice _ _ _ = _; rw [show ((real P T w0).sub es l hh').length = hh'.toNat - l.toNat from hlen], ?_, ?_, wtL_sub _ _ k3, fun hne => ?_⟩
              · show ((es.take hh'.toNat).drop l.toNat).length ≤ _
                rw [hlen]; omega
              · show ((es.take hh'.toNat).drop l.toNat).length ≤ _
                rw [hlen]; omega
              · have hlt : l.toNat < hh'.toNat := by
                  rcases Nat.lt_or_ge l.toNat hh'.toNat with q | q
                  · exact q
                  · exact absurd (List.eq_nil_of_length_eq_zero (by show ((es.take hh'.toNat).drop l.toNat).length = 0; rw [hlen]; omega)) hne
                obtain ⟨ad, e', hA, he', hz, hS, hE⟩ := k4 (fun hn => by subst hn; simp at g2; omega)
                rw [heu] at he'; injection he' with he'; subst he'
                refine ⟨ad.add (l.toNat * eu.size), eu, ?_, heu, hz, ?_, relE_sub hE⟩
                · rw [if_neg (by omega), hA]; rfl
                · have hb : (ad.add (l.toNat * eu.size)).block = ad.block := by unfold Addr.add; split <;> rfl
                  rw [hb]; exact hS
          · exact (res_fail h).elim
        · exact (res_fail h).elim
      · exact (res_fail h).elim
  · exact (res_fail h).elim

/-! ### a place in an array -/
theorem brK_res {i : Int} {f : Nat → Out} {v : V} {E : Hp} : ∀ {r k : Nat}, (k : Int) ≤ i → i ≤ k + r → Res P T (brK (real P T w0) i f k r) v E → Res P T (f i.toNat) v E
  | 0, k, h0, h1, h => by
    have : i.toNat = k := by omega
    rw [this]
    exact h
  | r + 1, k, h0, h1, h => by
    simp only [brK] at h
    cases h with
    | brT hc h =>
      have : i = k := by simpa [real, cmpLit] using hc
      have : i.toNat = k := by omega
      rw [this]
      exact h
    | brF hc h =>
      have : i ≠ k := by simpa [real, cmpLit] using hc
      exact brK_res (by omega) (by omega) h

theorem idxArrF_ok (htok : TyOk P T) {t n u : Nat} {va vi : V} {y : Value} {v E} (hu : P.underlying t = some (.array n u)) (hsz : sizeT T u ≠ 0) (h : Res P T (match va with
    | .ptr m j => idxArrF (real P T w0) T n u (.ptr m j) vi
    | _ => .fail) v E) (hr : rel T φ w S va x) (hy : rel T φ w S vi y) : Gives P T φ w S (Instr.indexAt t x y) v E := by
  split at h
  · rename_i m j
    unfold idxArrF at h
    split at h
    · rename_i ha _
      cases ha
    · rename_i m' j' i r ha hz
      injection ha with ha1 ha2
      subst ha1; subst ha2
      split at h
      · obtain ⟨⟨h0, h1⟩, h⟩ := res_need h
        have h1 : i < Int.ofNat (r + 1) := h1
        have h1' : i < (r : Int) + 1 := by simpa using h1
        have h := brK_res (by omega) (by omega) h
        obtain ⟨k, rfl⟩ := asZ_some hz hy
        refine idxArr_ok htok hu hsz (vi := .s (.int k (Int.ofNat i.toNat))) (va := .ptr m j) ?_ hr ?_
        · simp only [natOf]
          exact h
        · rw [show Int.ofNat i.toNat = i from by simp; omega]
          exact rel_si k i
      · exact (res_fail h).elim
    · exact (res_fail h).elim
  · exact (res_fail h).elim

theorem idxArrV_ok (htok : TyOk P T) {t n u : Nat} {va vi : V} {y : Value} {v E} (hu : P.underlying t = some (.array n u)) (h : Res P T (match va with
    | .agg cs => idxArrF (real P T w0) T n u (.agg cs) vi
    | _ => .fail) v E) (hr : rel T φ w S va x) (hy : rel T φ w S vi y) : Gives P T φ w S (Instr.index t x y) v E := by
  split at h
  · rename_i cs
    unfold idxArrF at h
    split at h
    · rename_i cs' i r ha hz
      injection ha with ha
      subst ha
      split at h
      · obtain ⟨⟨h0, h1⟩, h⟩ := res_need h
        have h1 : i < Int.ofNat (r + 1) := h1
        have h1' : i < (r : Int) + 1 := by simpa using h1
        have h := brK_res (by omega) (by omega) h
        obtain ⟨k, rfl⟩ := asZ_some hz hy
        refine indexArr_ok htok hu (vi := .s (.int k (Int.ofNat i.toNat))) (va := .agg cs) ?_ hr ?_
        · simp only [natOf]
          exact h
        · rw [show Int.ofNat i.toNat = i from by simp; omega]
          exact rel_si k i
      · exact (res_fail h).elim
    · rename_i ha _
      cases ha
    · exact (res_fail h).elim
  · exact (res_fail h).elim
end
end Go.Ab
end
section
/- A call does what the calculus says. No statement of its own. -/

namespace Go.Ab
open Go.RowKit

section
variable {P : Program} {T : Tr} {w0 : Base} {φ φ' φ2 : Nat → Option Loc} {w w' : World} {S S' S2 : Nat → Prop} {v : V} {x : Value} {hp : Hp} {b0 : Nat → Prop}

/-! ### values without names -/
mutual
theorem wt_free : ∀ (v : V) (t : Nat) (x : Value), wt T v t → rel T φ w S v x → rel T φ2 w S v x
  | .s v, t, x, hw, h => by simpa only [rel] using h
  | .i k n, t, x, hw, h => by simpa only [rel] using h
  | .b c, t, x, hw, h => by simpa only [rel] using h
  | .str s, t, x, hw, h => by simpa only [rel] using h
  | .nil, t, x, hw, h => by simpa only [rel] using h
  | .sl et es, t, x, hw, h => by
    simp only [wt] at hw
    simp only [rel] at h ⊢
    obtain ⟨A, cap, h1, h2, h3, h5, h6⟩ := h
    refine ⟨A, cap, h1, h2, h3, h5, fun hne => ?_⟩
    obtain ⟨ad, e, ha, hl, hz, hs, he⟩ := h6 hne
    exact ⟨ad, e, ha, hl, hz, hs, wtL_free es et 0 ad e.size hw.2 he⟩
  | .agg cs, t, x, hw, h => by
    simp only [wt] at hw
    simp only [rel] at h ⊢
    obtain ⟨a, h1, h2, h3⟩ := h
    exact ⟨a, h1, wtC_free cs _ _ hw.2 h2, h3⟩
  | .tup cs, t, x, hw, h => by simp only [wt] at hw
  | .ptr n j, t, x, hw, h => by simp only [wt] at hw
  | .ep n i j, t, x, hw, h => by simp only [wt] at hw
  | .rp et es i j, t, x, hw, h => by simp only [wt] at hw
  | .row n, t, x, hw, h => by simp only [wt] at hw
  | .rowp n lo ln, t, x, hw, h => by simp only [wt] at hw
  | .fn f fs cs, t, x, hw, h => by simp only [wt] at hw
  | .dead, t, x, hw, h => by simp only [wt] at hw
theorem wtC_free : ∀ (cs : List V) (ts : List Nat) (xs : List Value), wtC T ts cs → relL T φ w S cs xs → relL T φ2 w S cs xs
  | [], ts, xs, hw, h => by simpa only [relL] using h
  | v :: r, ts, xs, hw, h => by
    simp only [wtC] at hw
    simp only [relL] at h ⊢
    obtain ⟨x, xs', h1, h2, h3⟩ := h
    obtain ⟨t, ts', k1, _, k2, k3⟩ := hw
    exact ⟨x, xs', h1, wt_free v t x k2 h2, wtC_free r ts' xs' k3 h3⟩
theorem wtL_free : ∀ (es : List V) (t : Nat) (i : Nat) (ad : Addr) (sz : Nat), wtL T t es → relE T φ w S ad sz i es → relE T φ2 w S ad sz i es
  | [], _, _, _, _, _, _ => by simp only [relE]
  | v :: r, t, i, ad, sz, hw, h => by
    simp only [wtL] at hw
    simp only [relE] at h ⊢
    obtain ⟨⟨x, h1, h2, h3, h4⟩, h5⟩ := h
    exact ⟨⟨x, wt_free v t x hw.1 h1, h2, h3, h4⟩, wtL_free r t (i + 1) ad sz hw.2 h5⟩
end

theorem scal_free {c : V} {t : Nat} (hA : isAggT T t = false) (hf : (match T.look t with
    | some e => match e.desc with
      | .int _ => true
      | .bool => true
      | .string => true
      | _ => false
    | none => false) = true) (hw : wt T c t) (hr : rel T φ w S c x) : rel T φ2 w' S2 c x := by
  cases c with
  | s v => simpa only [rel] using hr
  | i k n => simpa only [rel] using hr
  | b c => simpa only [rel] using hr
  | str s => simpa only [rel] using hr
  | nil => simpa only [rel] using hr
  | sl et es =>
    simp only [wt] at hw
    obtain ⟨⟨e, he, hd⟩, _⟩ := hw
    rw [he] at hf
    simp [hd] at hf
  | agg cs => simp only [wt] at hw; rw [hA] at hw; exact absurd hw.1 (by simp)
  | _ => simp only [wt] at hw

theorem wt_look {c : V} {t : Nat} (hw : wt T c t) : ∃ e, T.look t = some e := by
  cases c with
  | s v => simp only [wt] at hw; obtain ⟨e, he, _⟩ := hw; exact ⟨e, he⟩
  | i k n => simp only [wt] at hw; obtain ⟨e, he, _⟩ := hw; exact ⟨e, he⟩
  | b c => simp only [wt] at hw; obtain ⟨e, he, _⟩ := hw; exact ⟨e, he⟩
  | str s => simp only [wt] at hw; obtain ⟨e, he, _⟩ := hw; exact ⟨e, he⟩
  | nil => simp only [wt] at hw; obtain ⟨e, _, he, _⟩ := hw; exact ⟨e, he⟩
  | sl et es => simp only [wt] at hw; obtain ⟨⟨e, he, _⟩, _⟩ := hw; exact ⟨e, he⟩
  | agg cs =>
    simp only [wt] at hw
    have := hw.1
    unfold isAggT at this
    split at this
    · rename_i e he; exact ⟨e, he⟩
    · cases this
  | _ => simp only [wt] at hw

theorem cellTys_one {u : Nat} {e : TE} (he : T.look u = some e) (hA : isAggD e.desc = false) : cellTys T 8 u = [u] := by
  rw [cellTys]
  simp only [he]
  cases hd : e.desc <;> simp_all [isAggD]

theorem flat_free {e : V} {u : Nat} (hf : flatT T u = true) (hw : wt T e u) (hr : rel T φ w S e x) : rel T φ2 w' S2 e x := by
  by_cases hA : isAggT T u = true
  · obtain ⟨cs, rfl, hc⟩ := wt_agg hw hA
    obtain ⟨l1, l2⟩ := wtC_iff hc
    simp only [rel] at hr ⊢
    obtain ⟨a, rfl, r1, r2⟩ := hr
    obtain ⟨r3, r4⟩ := relL_iff.1 r1
    refine ⟨a, rfl, relL_iff.2 ⟨r3, fun j c y hj hy => ?_⟩, r2⟩
    obtain ⟨t, ht, hA', hwc⟩ := l2 j c hj
    unfold flatT at hf
    have := List.all_eq_true.1 hf t (List.mem_of_getElem? ht)
    exact scal_free hA' this hwc (r4 j c y hj hy)
  · have hA : isAggT T u = false := by simpa using hA
    obtain ⟨te, hte⟩ := wt_look hw
    have hA2 := hA
    rw [aggT_of hte] at hA2
    unfold flatT at hf
    rw [cellTys_one hte hA2] at hf
    exact scal_free hA (List.all_eq_true.1 hf u (by simp)) hw hr

/-! ### results under new names -/
theorem cleanS_rel {m : Nat} (hc : cleanS v = true) (hφ : ∀ n l, φ' n = some l → φ2 (m + n) = some l) (hS : sharesS v = true → ∀ k, S' k → S2 k) (hr : rel T φ' w S' v x) : rel T φ2 w S2 (renS m v) x := by
  cases v with
  | s v => simpa only [rel, renS] using hr
  | i k n => simpa only [rel, renS] using hr
  | b c => simpa only [rel, renS] using hr
  | str s => simpa only [rel, renS] using hr
  | nil => simpa only [rel, renS] using hr
  | dead => simp only [rel, renS]
  | sl et es =>
    simp only [rel, renS] at hr ⊢
    obtain ⟨A, cap, h1, h2, h3, h5, h6⟩ := hr
    refine ⟨A, cap, h1, h2, h3, h5, fun hne => ?_⟩
    obtain ⟨ad, e, ha, hl, hz, hs, he⟩ := h6 hne
    exact ⟨ad, e, ha, hl, hz, hS rfl _ hs, relE_mono (φ := fun _ => none) (fun _ _ h => by cases h) (fun _ _ => rfl) (hS rfl) es 0 ad e.size hs (wtL_free es et 0 ad e.size h5 he)⟩
  | row n =>
    simp only [rel, renS] at hr ⊢
    rcases hr with ⟨B, off, len, room, sz, cap, h1, h2⟩ | ⟨h1, h2⟩
    · exact .inl ⟨B, off, len, room, sz, cap, hφ _ _ h1, h2⟩
    · exact .inr ⟨hφ _ _ h1, h2⟩
  | _ => cases hc

theorem cleanL_rel {m : Nat} (hφ : ∀ n l, φ' n = some l → φ2 (m + n) = some l) : ∀ {cs : List V} {xs : List Value}, cs.all cleanS = true → (cs.any sharesS = true → ∀ k, S' k → S2 k) → relL T φ' w S' cs xs → relL T φ2 w S2 (cs.map (renS m)) xs
  | [], xs, hc, hS, h => by simpa only [relL, List.map_nil] using h
  | v :: r, xs, hc, hS, h => by
    simp only [relL, List.map_cons] at h ⊢
    simp only [List.all_cons, Bool.and_eq_true] at hc
    simp only [List.any_cons, Bool.or_eq_true] at hS
    obtain ⟨x, xs', h1, h2, h3⟩ := h
    exact ⟨x, xs', h1, cleanS_rel hc.1 hφ (fun k => hS (.inl k)) h2, cleanL_rel hφ hc.2 (fun k => hS (.inr k)) h3⟩

def shares1 : V → Bool
  | .agg ds => ds.any sharesS
  | c => sharesS c

theorem clean1_rel {m : Nat} (hc : clean1 v = true) (hφ : ∀ n l, φ' n = some l → φ2 (m + n) = some l) (hS : shares1 v = true → ∀ k, S' k → S2 k) (hr : rel T φ' w S' v x) : rel T φ2 w S2 (ren1 m v) x := by
  cases v with
  | agg cs =>
    simp only [clean1, shares1, ren1, rel] at *
    obtain ⟨a, h1, h2, h3⟩ := hr
    exact ⟨a, h1, cleanL_rel hφ hc hS h2, h3⟩
  | tup a => cases hc
  | nlq g es => cases hc
  | s a => exact cleanS_rel (v := .s a) hc hφ hS hr
  | i a b => exact cleanS_rel (v := .i a b) hc hφ hS hr
  | b a => exact cleanS_rel (v := .b a) hc hφ hS hr
  | str a => exact cleanS_rel (v := .str a) hc hφ hS hr
  | nil  => exact cleanS_rel (v := .nil ) hc hφ hS hr
  | sl a b => exact cleanS_rel (v := .sl a b) hc hφ hS hr
  | ptr a b => exact cleanS_rel (v := .ptr a b) hc hφ hS hr
  | ep a b c => exact cleanS_rel (v := .ep a b c) hc hφ hS hr
  | rp a b c d => exact cleanS_rel (v := .rp a b c d) hc hφ hS hr
  | row a => exact cleanS_rel (v := .row a) hc hφ hS hr
  | rowp a b c => exact cleanS_rel (v := .rowp a b c) hc hφ hS hr
  | fn a b c => exact cleanS_rel (v := .fn a b c) hc hφ hS hr
  | dead  => exact cleanS_rel (v := .dead ) hc hφ hS hr

theorem clean1L_rel {m : Nat} (hφ : ∀ n l, φ' n = some l → φ2 (m + n) = some l) : ∀ {cs : List V} {xs : List Value}, cs.all clean1 = true → (cs.any shares1 = true → ∀ k, S' k → S2 k) → relL T φ' w S' cs xs → relL T φ2 w S2 (cs.map (ren1 m)) xs
  | [], xs, hc, hS, h => by simpa only [relL, List.map_nil] using h
  | v :: r, xs, hc, hS, h => by
    simp only [relL, List.map_cons] at h ⊢
    simp only [List.all_cons, Bool.and_eq_true] at hc
    simp only [List.any_cons, Bool.or_eq_true] at hS
    obtain ⟨x, xs', h1, h2, h3⟩ := h
    exact ⟨x, xs', h1, clean1_rel hc.1 hφ (fun k => hS (.inl k)) h2, clean1L_rel hφ hc.2 (fun k => hS (.inr k)) h3⟩

theorem clean_rel {m : Nat} (hc : clean v = true) (hφ : ∀ n l, φ' n = some l → φ2 (m + n) = some l) (hS : shares v = true → ∀ k, S' k → S2 k) (hr : rel T φ' w S' v x) : rel T φ2 w S2 (ren m v) x := by
  cases v with
  | tup cs =>
    simp only [clean, ren, rel] at *
    obtain ⟨a, h1, h2⟩ := hr
    refine ⟨a, h1, clean1L_rel hφ hc (fun h => hS ?_) h2⟩
    simp only [shares]
    rw [List.any_eq_true] at h ⊢
    obtain ⟨c, hc1, hc2⟩ := h
    refine ⟨c, hc1, ?_⟩
    unfold shares1 at hc2
    exact hc2
  | agg cs => exact clean1_rel (v := .agg cs) hc hφ hS hr
  | nlq g es => cases hc
  | s a => exact clean1_rel (v := .s a) hc hφ hS hr
  | i a b => exact clean1_rel (v := .i a b) hc hφ hS hr
  | b a => exact clean1_rel (v := .b a) hc hφ hS hr
  | str a => exact clean1_rel (v := .str a) hc hφ hS hr
  | nil  => exact clean1_rel (v := .nil ) hc hφ hS hr
  | sl a b => exact clean1_rel (v := .sl a b) hc hφ hS hr
  | ptr a b => exact clean1_rel (v := .ptr a b) hc hφ hS hr
  | ep a b c => exact clean1_rel (v := .ep a b c) hc hφ hS hr
  | rp a b c d => exact clean1_rel (v := .rp a b c d) hc hφ hS hr
  | row a => exact clean1_rel (v := .row a) hc hφ hS hr
  | rowp a b c => exact clean1_rel (v := .rowp a b c) hc hφ hS hr
  | fn a b c => exact clean1_rel (v := .fn a b c) hc hφ hS hr
  | dead  => exact clean1_rel (v := .dead ) hc hφ hS hr

theorem renS_zero : ∀ v, renS 0 v = v := fun v => by cases v <;> simp [renS]
theorem ren1_zero : ∀ v, ren1 0 v = v := fun v => by
  cases v with
  | agg cs => simp only [ren1]; rw [show (renS 0) = id from funext renS_zero, List.map_id]
  | _ => simp [ren1, renS]
theorem ren_zero : ∀ v, ren 0 v = v := fun v => by
  cases v with
  | tup cs => simp only [ren]; rw [show (ren1 0) = id from funext ren1_zero, List.map_id]
  | agg cs => exact ren1_zero (.agg cs)
  | _ => simp [ren, ren1, renS]

/-! ### another's rows -/
theorem Since.trans {a : Base} {b c : World} (h : Since a b) (k : Since (.of b) c) : Since a c :=
  ⟨k.os.trans h.os, k.tape.trans h.tape, k.output.trans h.output, Nat.le_trans h.size k.size, fun i hi => (k.block i (Nat.lt_of_lt_of_le (a.lt i hi) h.size)).trans (h.block i hi)⟩

theorem HOk.world (h : HOk T φ b0 w S hp) (hs : Since (.of w) w') : HOk T φ b0 w' S hp :=
  ⟨h.dom, fun n b hb => (h.blk n b hb).mono (LocLe.refl _) (fun k hk => hs.block k (h.old k hk)) (fun _ h => h) (fun hc l B hl hB => hs.block B (h.own n b l B hb hc hl hB).2.1),
    fun n b l B hb hc hl hB => ⟨(h.own n b l B hb hc hl hB).1, Nat.lt_of_lt_of_le (h.own n b l B hb hc hl hB).2.1 hs.size, (h.own n b l B hb hc hl hB).2.2⟩, h.inj, fun k hk => Nat.lt_of_lt_of_le (h.old k hk) hs.size⟩

theorem frzN_ok : ∀ (ns : List Nat) {hp : Hp} {S : Nat → Prop}, HOk T φ b0 w S hp → ∃ S', (∀ k, S k → S' k) ∧ HOk T φ b0 w S' (frzN hp ns ++ hp) ∧ (liveN hp ns = true → ∀ k, OB φ ns k → S' k) ∧ (∀ k, S' k → S k ∨ ∃ n et es l, look hp n = some (.row et es) ∧ φ n = some l ∧ l.blk = some k)
  | [], hp, S, h => ⟨S, fun _ h => h, h, fun _ k hk => (by obtain ⟨n, hn, _⟩ := hk; cases hn), fun k hk => .inl hk⟩
  | n :: r, hp, S, h => by
    have hcons : ∀ {S1 : Nat → Prop} {k}, OB φ (n :: r) k → (∀ l B, φ n = some l → l.blk = some B → S1 B) → (OB φ r k → S1 k) → S1 k := by
      intro S1 k hk h1 h2
      obtain ⟨n', hn, l, hl, hB⟩ := hk
      rcases List.mem_cons.1 hn with rfl | hn
      · exact h1 l k hl hB
      · exact h2 ⟨n', hn, l, hl, hB⟩
    simp only [frzN]
    split
    · rename_i et es hl
      obtain ⟨S1, s1, h1, h1'⟩ := h.freeze hl
      obtain ⟨S2, s2, h2, h3, h4⟩ := frzN_ok r h1
      refine ⟨S2, fun k hk => s2 k (s1 k hk), by rw [List.append_assoc]; exact h2, fun hlive k hk => ?_, fun k hk => ?_⟩
      rotate_left
      · rcases h4 k hk with hk | ⟨n', et', es', l', k1, k2, k3⟩
        · rcases h1' k hk with hk | ⟨l, k1, k2⟩
          · exact .inl hk
          · exact .inr ⟨n, et, es, l, hl, k1, k2⟩
        · rw [look_cons] at k1
          split at k1
          · cases k1
          · exact .inr ⟨n', et', es', l', k1, k2, k3⟩
      refine hcons hk (fun l B hl' hB => s2 _ (ro_S h1 (by rw [look_cons, if_pos rfl]) l B hl' hB)) (h3 ?_ k)
      unfold liveN at hlive ⊢
      rw [List.all_eq_true] at hlive ⊢
      intro n' hn'
      rw [look_cons]
      by_cases e : n = n'
      · subst e; simp
      · rw [if_neg e]; exact hlive n' (List.mem_cons_of_mem _ hn')
    · rename_i hno
      obtain ⟨S2, s2, h2, h3, h4⟩ := frzN_ok r h
      refine ⟨S2, s2, h2, fun hlive k hk => ?_, h4⟩
      unfold liveN at hlive
      rw [List.all_cons, Bool.and_eq_true] at hlive
      refine hcons hk (fun l B hl' hB => ?_) (h3 hlive.2 k)
      have h0 := hlive.1
      split at h0
      · rename_i et es hl; exact absurd hl (hno et es)
      · rename_i et es hl; exact s2 _ (ro_S h hl l B hl' hB)
      · cases h0

theorem look_app {a b : Hp} {n : Nat} : look (a ++ b) n = match look a n with | some c => some c | none => look b n := by
  induction a with
  | nil => rfl
  | cons p r ih =>
    obtain ⟨k, c⟩ := p
    rw [List.cons_append, look_cons, look_cons]
    by_cases h : k = n
    · rw [if_pos h, if_pos h]
    · rw [if_neg h, if_neg h]; exact ih

theorem frzN_own : ∀ {ns : List Nat} {hp : Hp} {n : Nat} {b : Blk}, look (frzN hp ns ++ hp) n = some b → b.own = true → look hp n = some b
  | [], hp, n, b, h, ho => h
  | k :: r, hp, n, b, h, ho => by
    simp only [frzN] at h
    split at h
    · rw [List.append_assoc] at h
      have := frzN_own h ho
      rw [look_cons] at this
      split at this
      · injection this with this; subst this; cases ho
      · exact this
    · exact frzN_own h ho

theorem look_ren {m : Nat} : ∀ (h0 : Hp) (n : Nat), look (renH m h0) n = if m ≤ n then look h0 (n - m) else none
  | [], n => by simp [renH, look]
  | (k, b) :: r, n => by
    have ih := look_ren (m := m) r n
    simp only [renH, List.map_cons] at ih ⊢
    rw [look_cons, look_cons, ih]
    by_cases h : m + k = n
    · rw [if_pos h, if_pos (by omega), if_pos (by omega)]
    · rw [if_neg h]
      by_cases hm : m ≤ n
      · rw [if_pos hm, if_pos hm, if_neg (by omega)]
      · rw [if_neg hm, if_neg hm]

theorem fresh_look {m : Nat} : ∀ {h0 : Hp}, freshH hp m h0 = true → ∀ n b, look h0 n = some b → look hp (m + n) = none
  | [], _, n, b, h => by cases h
  | (k, c) :: r, hf, n, b, h => by
    simp only [freshH] at hf
    split at hf
    · rename_i hn
      rw [look_cons] at h
      by_cases e : k = n
      · subst e; exact hn
      · rw [if_neg e] at h; exact fresh_look hf n b h
    · cases hf

theorem rows_only : ∀ {h0 : Hp}, rowsOnly h0 = true → ∀ n b, look h0 n = some b → ∃ u es, b = .row u es
  | [], _, n, b, h => by cases h
  | (k, c) :: r, hf, n, b, h => by
    rw [look_cons] at h
    cases c <;> simp only [rowsOnly] at hf <;> first | cases hf | skip
    by_cases e : k = n
    · rw [if_pos e] at h; injection h with h; exact ⟨_, _, h.symm⟩
    · rw [if_neg e] at h; exact rows_only hf n b h

theorem flat_rows : ∀ {h0 : Hp}, sharesH T h0 = false → rowsOnly h0 = true → ∀ n u es, look h0 n = some (.row u es) → flatT T u = true
  | [], _, _, n, u, es, h => by cases h
  | (k, c) :: r, hf, hro, n, u, es, h => by
    rw [look_cons] at h
    cases c <;> simp only [rowsOnly] at hro <;> first | cases hro | skip
    simp only [sharesH, Bool.or_eq_false_iff, Bool.not_eq_false'] at hf
    by_cases e : k = n
    · rw [if_pos e] at h; injection h with h; injection h with h1 h2; subst h1; exact hf.1
    · rw [if_neg e] at h; exact flat_rows hf.2 hro n u es h

def joinφ (φ φ' : Nat → Option Loc) (m : Nat) (n : Nat) : Option Loc := match φ n with
  | some l => some l
  | none => if m ≤ n then φ' (n - m) else none

theorem HOk.join {m : Nat} {b1 : Nat → Prop} {h0 : Hp} (h : HOk T φ b0 w S hp) (k : HOk T φ' b1 w S' h0) (hf : freshH hp m h0 = true) (hro : rowsOnly h0 = true) (hb : ∀ k, b0 k → b1 k)
    (hlt : ∀ n b l B, look hp n = some b → b.own = true → φ n = some l → l.blk = some B → b1 B) (hSlt : ∀ i, S i → b1 i) (hsh : sharesH T h0 = true → ∀ i, S' i → S i ∨ ¬ b1 i) :
    HOk T (joinφ φ φ' m) b0 w (fun i => S i ∨ (S' i ∧ ¬ b1 i)) (renH m h0 ++ hp) ∧ LocLe φ (joinφ φ φ' m) ∧ ∀ n l, φ' n = some l → joinφ φ φ' m (m + n) = some l := by
  have hle : LocLe φ (joinφ φ φ' m) := fun n l hn => by simp only [joinφ, hn]
  have hren : ∀ n l, φ' n = some l → joinφ φ φ' m (m + n) = some l := by
    intro n l hn
    have : look h0 n ≠ none := fun hno => by rw [(k.dom n).2 hno] at hn; cases hn
    obtain ⟨b, hb⟩ := Option.ne_none_iff_exists'.1 this
    have := (h.dom _).2 (fresh_look hf n b hb)
    simp only [joinφ, this, Nat.le_add_right, if_true, Nat.add_sub_cancel_left, hn]
  have hcase : ∀ n b, look (renH m h0 ++ hp) n = some b → (∃ j, n = m + j ∧ look h0 j = some b ∧ look hp n = none ∧ joinφ φ φ' m n = φ' j) ∨ (look hp n = some b ∧ joinφ φ φ' m n = φ n) := by
    intro n b hn
    rw [look_app, look_ren] at hn
    by_cases hmn : m ≤ n
    · rw [if_pos hmn] at hn
      split at hn
      · rename_i c hc
        injection hn with hn; subst hn
        have h1 := fresh_look hf _ _ hc
        rw [show m + (n - m) = n from by omega] at h1
        refine .inl ⟨n - m, by omega, hc, h1, ?_⟩
        have := (h.dom _).2 h1
        simp only [joinφ, this, if_pos hmn]
      · refine .inr ⟨hn, ?_⟩
        have : φ n ≠ none := fun hno => by rw [(h.dom n).1 hno] at hn; cases hn
        obtain ⟨l, hl⟩ := Option.ne_none_iff_exists'.1 this
        simp only [joinφ, hl]
    · rw [if_neg hmn] at hn
      refine .inr ⟨hn, ?_⟩
      have : φ n ≠ none := fun hno => by rw [(h.dom n).1 hno] at hn; cases hn
      obtain ⟨l, hl⟩ := Option.ne_none_iff_exists'.1 this
      simp only [joinφ, hl]
  refine ⟨⟨fun n => ?_, fun n b hn => ?_, fun n b l B hn ho hl hB => ?_, fun n n' b c l k' B hn hn' ho ho' hl hl' hB hB' => ?_, fun i hi => ?_⟩, hle, hren⟩
  · rw [look_app, look_ren]
    cases hφ : φ n with
    | some l =>
      simp only [joinφ, hφ]
      have : look hp n ≠ none := fun hno => by rw [(h.dom n).2 hno] at hφ; cases hφ
      obtain ⟨b, hb⟩ := Option.ne_none_iff_exists'.1 this
      split <;> simp_all
    | none =>
      simp only [joinφ, hφ]
      have h1 := (h.dom n).1 hφ
      by_cases hmn : m ≤ n
      · rw [if_pos hmn, if_pos hmn, k.dom]
        cases look h0 (n - m) <;> simp [h1]
      · rw [if_neg hmn, if_neg hmn]
        simp [h1]
  · rcases hcase n b hn with ⟨j, rfl, hj, _, hφ⟩ | ⟨hb, hφ⟩
    · obtain ⟨u, es, rfl⟩ := rows_only hro j b hj
      obtain ⟨hw, e, he, hz, hbk⟩ := k.blk j _ hj
      refine ⟨hw, e, he, hz, ?_⟩
      rcases hbk with ⟨B, off, room, arr, h1, h2, h3, h4, h5, h6⟩ | ⟨h1, h2⟩
      · refine .inl ⟨B, off, room, arr, by rw [hφ]; exact h1, h2, h3, h4, h5, fun q c hq => ?_⟩
        obtain ⟨y, y1, y2, y3, y4⟩ := h6 q c hq
        have hwc := wtL_iff.1 hw c (List.mem_of_getElem? hq)
        refine ⟨y, ?_, y2, y3, y4⟩
        by_cases hs : sharesH T h0 = true
        · refine rel_mono (φ := fun _ => none) (fun _ _ h => by cases h) (fun _ _ => rfl) (fun i hi => ?_) _ _ (wt_free c u y hwc y1)
          rcases hsh hs i hi with hh | hh
          · exact .inl hh
          · exact .inr ⟨hi, hh⟩
        · exact flat_free (flat_rows (by simpa using hs) hro j u es hj) hwc y1
      · exact .inr ⟨by rw [hφ]; exact h1, h2⟩
    · exact (h.blk n b hb).mono hle (fun _ _ => rfl) (fun i hi => .inl hi) (fun _ _ _ _ _ => rfl)
  · rcases hcase n b hn with ⟨j, rfl, hj, _, hφ⟩ | ⟨hb', hφ⟩
    · rw [hφ] at hl
      obtain ⟨o1, o2, o3⟩ := k.own j b l B hj ho hl hB
      exact ⟨fun h0 => o1 (hb _ h0), o2, fun hS => hS.elim (fun hS => o1 (hSlt _ hS)) (fun hS => o3 hS.1)⟩
    · rw [hφ] at hl
      obtain ⟨o1, o2, o3⟩ := h.own n b l B hb' ho hl hB
      have := hlt n b l B hb' ho hl hB
      exact ⟨o1, o2, fun hS => hS.elim o3 (fun hS => hS.2 this)⟩
  · rcases hcase n b hn with ⟨j, rfl, hj, _, hφ⟩ | ⟨hb', hφ⟩
    · rcases hcase n' c hn' with ⟨j', rfl, hj', _, hφ'⟩ | ⟨hb'', hφ'⟩
      · rw [hφ] at hl; rw [hφ'] at hl'
        rw [k.inj j j' b c l k' B hj hj' ho ho' hl hl' hB hB']
      · rw [hφ] at hl; rw [hφ'] at hl'
        exact absurd (hlt n' c k' B hb'' ho' hl' hB') (k.own j b l B hj ho hl hB).1
    · rcases hcase n' c hn' with ⟨j', rfl, hj', _, hφ'⟩ | ⟨hb'', hφ'⟩
      · rw [hφ] at hl; rw [hφ'] at hl'
        exact absurd (hlt n b l B hb' ho hl hB) (k.own j' c k' B hj' ho' hl' hB').1
      · rw [hφ] at hl; rw [hφ'] at hl'
        exact h.inj n n' b c l k' B hb' hb'' ho ho' hl hl' hB hB'
  · rcases hi with hi | hi
    · exact h.old i hi
    · exact k.old i hi.1
end
end Go.Ab
end
section
/- A call does what the calculus says. No statement of its own. -/

namespace Go.Ab
open Go.RowKit

section
variable {P : Program} {T : Tr} {w0 : Base} {φ φ' φ2 : Nat → Option Loc} {w w' : World} {S S' S2 : Nat → Prop} {v : V} {x : Value} {hp : Hp} {b0 : Nat → Prop}

def noName : V → Bool
  | .ptr _ _ => false
  | .ep _ _ _ => false
  | .agg _ => false
  | .tup _ => false
  | .row _ => false
  | .rowp _ _ _ => false
  | .fn _ fs cs => match fs, cs with
    | [], [] => true
    | _, _ => false
  | _ => true

theorem expS_free {o : Ops} (hr : rel T φ w S (expS o hp v) x) : rel T φ2 w S (expS o hp v) x := by
  have sl : ∀ {et es x}, rel T φ w S (.sl et es) x → rel T φ2 w S (.sl et es) x := by
    intro et es x h
    simp only [rel] at h ⊢
    obtain ⟨A, cap, h1, h2, h3, h5, h6⟩ := h
    refine ⟨A, cap, h1, h2, h3, h5, fun hne => ?_⟩
    obtain ⟨ad, e, ha, hl, hz, hs, he⟩ := h6 hne
    exact ⟨ad, e, ha, hl, hz, hs, wtL_free es et 0 ad e.size h5 he⟩
  have key : ∀ u, noName u = true → rel T φ w S u x → rel T φ2 w S u x := by
    intro u hu h
    cases u with
    | s v => simpa only [rel] using h
    | i k n => simpa only [rel] using h
    | b c => simpa only [rel] using h
    | str s => simpa only [rel] using h
    | nil => simpa only [rel] using h
    | nlq g es => simpa only [rel] using h
    | dead => simp only [rel]
    | sl et es => exact sl h
    | rp et es i j =>
      simp only [rel] at h ⊢
      obtain ⟨ad, e, h1, h2, h3, h4, h5, h6⟩ := h
      exact ⟨ad, e, h1, h2, h3, h4, wtL_free es et 0 ad e.size h3 h5, h6⟩
    | fn f fs cs =>
      cases fs with
      | nil => cases cs with
        | nil => simp only [rel, relL] at h ⊢; exact h
        | cons c cs => cases hu
      | cons c fs => cases hu
    | _ => cases hu
  refine key _ ?_ hr
  cases v with
  | row n => simp only [expS]; split <;> rfl
  | rowp n lo ln => simp only [expS]; split <;> rfl
  | fn f fs cs =>
    cases fs with
    | nil => cases cs with
      | nil => rfl
      | cons c cs => rfl
    | cons c fs => rfl
  | _ => rfl

theorem expC_free {o : Ops} : ∀ {cs : List V} {xs : List Value}, relL T φ w S (cs.map (expS o hp)) xs → relL T φ2 w S (cs.map (expS o hp)) xs
  | [], xs, h => by simpa only [relL, List.map_nil] using h
  | v :: r, xs, h => by
    simp only [relL, List.map_cons] at h ⊢
    obtain ⟨x, xs', h1, h2, h3⟩ := h
    exact ⟨x, xs', h1, expS_free h2, expC_free h3⟩

theorem exp_free {o : Ops} (hr : rel T φ w S (Ab.exp o hp v) x) : rel T φ2 w S (Ab.exp o hp v) x := by
  cases v with
  | agg cs =>
    simp only [Ab.exp, rel] at hr ⊢
    obtain ⟨a, h1, h2, h3⟩ := hr
    exact ⟨a, h1, expC_free h2, h3⟩
  | s v => exact expS_free (o := o) (hp := hp) (v := .s v) hr
  | i k n => exact expS_free (o := o) (hp := hp) (v := .i k n) hr
  | b c => exact expS_free (o := o) (hp := hp) (v := .b c) hr
  | str s => exact expS_free (o := o) (hp := hp) (v := .str s) hr
  | nil => exact expS_free (o := o) (hp := hp) (v := .nil) hr
  | sl et es => exact expS_free (o := o) (hp := hp) (v := .sl et es) hr
  | tup cs => exact expS_free (o := o) (hp := hp) (v := .tup cs) hr
  | ptr a b => exact expS_free (o := o) (hp := hp) (v := .ptr a b) hr
  | ep a b c => exact expS_free (o := o) (hp := hp) (v := .ep a b c) hr
  | rp a b c d => exact expS_free (o := o) (hp := hp) (v := .rp a b c d) hr
  | row a => exact expS_free (o := o) (hp := hp) (v := .row a) hr
  | rowp a b c => exact expS_free (o := o) (hp := hp) (v := .rowp a b c) hr
  | fn a b c => exact expS_free (o := o) (hp := hp) (v := .fn a b c) hr
  | nlq g es => exact expS_free (o := o) (hp := hp) (v := .nlq g es) hr
  | dead => exact expS_free (o := o) (hp := hp) (v := .dead) hr

theorem exp_args (hh : HOk T φ b0 w S hp) : ∀ {cs : List V} {xs : List Value}, relL T φ w S cs xs → relL T (fun _ => none) w (fun k => S k ∨ OB φ ((cs.map rowsOf).flatten) k) (cs.map fun a => normV (Ab.exp (real P T w0) hp a)) xs
  | [], xs, h => by simpa only [relL, List.map_nil] using h
  | v :: r, xs, h => by
    simp only [relL, List.map_cons] at h ⊢
    obtain ⟨x, xs', h1, h2, h3⟩ := h
    have sub : ∀ {a b : List Nat}, (∀ n ∈ a, n ∈ b) → ∀ k, (S k ∨ OB φ a k) → (S k ∨ OB φ b k) := by
      intro a b hab k hk
      rcases hk with hk | ⟨n, hn, r⟩
      · exact .inl hk
      · exact .inr ⟨n, hab n hn, r⟩
    refine ⟨x, xs', h1, rel_mono (LocLe.refl _) (fun _ _ => rfl) (sub (fun n hn => ?_)) _ _ (norm_rel (exp_free (exp_ok hh h2))), relL_mono (LocLe.refl _) (fun _ _ => rfl) (sub (fun n hn => ?_)) _ _ (exp_args hh h3)⟩
    · simp only [List.flatten_cons, List.mem_append]; exact .inl hn
    · simp only [List.flatten_cons, List.mem_append]; exact .inr hn

theorem frzN_look : ∀ {ns : List Nat} {hp : Hp} {n : Nat}, look hp n = none → look (frzN hp ns ++ hp) n = none
  | [], hp, n, h => h
  | k :: r, hp, n, h => by
    simp only [frzN]
    split
    · rename_i et es hk
      rw [List.append_assoc]
      refine frzN_look ?_
      rw [look_cons, if_neg (fun e => by subst e; rw [h] at hk; cases hk)]
      exact h
    · exact frzN_look h

theorem fresh_frz {ns : List Nat} {m : Nat} : ∀ {h0 : Hp}, freshH hp m h0 = true → freshH (frzN hp ns ++ hp) m h0 = true
  | [], _ => rfl
  | (n, b) :: r, h => by
    simp only [freshH] at h ⊢
    split at h
    · rename_i hn
      rw [frzN_look hn]
      exact fresh_frz h
    · cases h

theorem OB_lt {ns : List Nat} (hh : HOk T φ b0 w S hp) (hl : liveN hp ns = true) : ∀ k, OB φ ns k → k < w.heap.size := by
  intro k ⟨n, hn, l, hφ, hB⟩
  unfold liveN at hl
  have := List.all_eq_true.1 hl n hn
  split at this
  · rename_i et es hk; exact (hh.own n _ l k hk rfl hφ hB).2.1
  · rename_i et es hk; exact hh.old k (ro_S hh hk l k hφ hB)
  · cases this

theorem Calls.weaken {P : Program} {f : FuncId} {args : Array Value} {w : World} {R R' : Ending → World → Prop} (h : Calls P f args w R) (hR : ∀ e w', R e w' → R' e w') : Calls P f args w R' := by
  intro cs
  obtain ⟨e, w', fr, h1, h2⟩ := h cs
  exact ⟨e, w', fr, hR _ _ h1, h2⟩

theorem callF_ok (hs : Since w0 w) (hh : HOk T φ w0.Z w S hp) {f : Nat} {args : List V} {vals : List Value} {m : Option Nat} {v : V} {E : Hp} (h : Res P T (callF (real P T w0) T hp f args m) v E) (hr : relL T φ w S args vals) :
    (∃ fn c, P.funcs[f]? = some fn ∧ (fn.name == "runtime.NumGoroutine") = false ∧ fn.body = some c) ∧ Calls P f vals.toArray w fun e w' => ∃ x, e = .returned x ∧ Left T w0 φ S hp w v E x w' := by
  unfold callF at h
  split at h
  · exact (res_fail h).elim
  · rename_i hlive
    cases h with
    | call hfn h =>
      rename_i v0 h0
      refine ⟨hfn.1, ?_⟩
      have hob := OB_lt hh hlive
      refine Calls.weaken (hfn.2 w (fun k => S k ∨ OB φ ((args.map rowsOf).flatten) k) vals (fun k hk => hk.elim (hh.old k) (hob k)) (exp_args hh hr)) ?_
      rintro e w' ⟨x, φ', S', rfl, hsw, hh', hrx, hS'⟩
      refine ⟨x, rfl, ?_⟩
      have hw1 := hh.world hsw
      have hkeep : ∀ k, S k → w'.heap[k]? = w.heap[k]? := fun k hk => hsw.block k (hh.old k hk)
      have hlt : ∀ n b l B, look hp n = some b → b.own = true → φ n = some l → l.blk = some B → B < w.heap.size := fun n b l B hb ho hl hB => (hh.own n b l B hb ho hl hB).2.1
      -- the rows that were shown, read only from now on
      obtain ⟨S1, s1, hh1, hob1, hS1⟩ := frzN_ok ((args.map rowsOf).flatten) hw1
      have hob1 := hob1 hlive
      have hS1lt : ∀ i, S1 i → i < w.heap.size := fun i hi => by
        rcases hS1 i hi with hi | ⟨n, et, es, l, k1, k2, k3⟩
        · exact hh.old i hi
        · exact hlt n _ l i k1 rfl k2 k3
      have hlt1 : ∀ n b l B, look (frzN hp ((args.map rowsOf).flatten) ++ hp) n = some b → b.own = true → φ n = some l → l.blk = some B → B < w.heap.size :=
        fun n b l B hb ho hl hB => hlt n b l B (frzN_own hb ho) ho hl hB
      have hsub : ∀ k, w0.Z k → oldZ w k := fun k hk => Nat.lt_of_lt_of_le (w0.lt k hk) hs.size
      have hSS : ∀ k, S' k → S1 k ∨ ¬ oldZ w k := fun k hk => by
        rcases hS' k hk with (hk1 | hk1) | hk1
        · exact .inl (s1 k hk1)
        · exact .inl (hob1 k hk1)
        · exact .inr (Nat.not_lt.2 hk1)
      have hSS2 : ∀ k, S' k → S1 k ∨ (S' k ∧ ¬ oldZ w k) := fun k hk => (hSS k hk).imp id (fun h => ⟨hk, h⟩)
      have hSle : SLe w0.Z S (fun k => S1 k ∨ (S' k ∧ ¬ oldZ w k)) := ⟨fun k hk => .inl (s1 k hk), fun k hk => by
        rcases hk with hk | hk
        · exact (hS1 k hk).imp id (fun ⟨n, et, es, l, k1, k2, k3⟩ => (hw1.own n _ l k k1 rfl k2 k3).1)
        · exact .inr (fun h => hk.2 (hsub k h))⟩
      simp only at h
      split at h
      · exact (res_fail h).elim
      · rename_i hcl
        simp only [Bool.and_eq_true] at hcl
        obtain ⟨hcl, hro⟩ := hcl
        split at h
        · have hnone : ∀ n l, φ' n = some l → φ (0 + n) = some l := fun n l hn => by
            rw [(hh'.dom n).2 rfl] at hn; cases hn
          split at h
          · rename_i hsh
            obtain ⟨rfl, rfl⟩ := res_ok h
            -- read-only blocks of the answer: with the callee's new ones
            refine ⟨φ, fun k => S1 k ∨ (S' k ∧ ¬ oldZ w k), ⟨LocLe.refl _, hSle, hkeep, hs.trans hsw, ?_⟩, ?_⟩
            · have := (HOk.join (m := 0) hh1 hh' (h0 := []) rfl rfl hsub hlt1 hS1lt (fun h => by cases h)).1
              · have hj : joinφ φ φ' 0 = φ := by
                  funext n
                  cases hn : φ n with
                  | some l => simp only [joinφ, hn]
                  | none => simp only [joinφ, hn]; rw [if_pos (Nat.zero_le _)]; exact (hh'.dom _).2 rfl
                rw [hj] at this
                exact this
            · have := clean_rel (m := 0) hcl hnone (S2 := fun k => S1 k ∨ (S' k ∧ ¬ oldZ w k)) (fun _ k hk => ?_) hrx
              · rwa [ren_zero] at this
              · exact hSS2 k hk
          · rename_i hsh
            obtain ⟨rfl, rfl⟩ := res_ok h
            refine ⟨φ, S, ⟨LocLe.refl _, SLe.refl, hkeep, hs.trans hsw, hw1⟩, ?_⟩
            have := clean_rel (m := 0) hcl hnone (S2 := S) (fun h => by rw [hsh] at h; cases h) hrx
            rwa [ren_zero] at this
        · rename_i p r
          split at h
          · rename_i m'
            split at h
            · rename_i hfr
              split at h
              · rename_i hsh
                obtain ⟨rfl, rfl⟩ := res_ok h
                obtain ⟨j1, j2, j3⟩ := HOk.join (m := m') hh1 hh' (h0 := p :: r) (fresh_frz hfr) hro hsub hlt1 hS1lt (fun _ => hSS)
                refine ⟨_, fun k => S1 k ∨ (S' k ∧ ¬ oldZ w k), ⟨j2, hSle, hkeep, hs.trans hsw, ?_⟩, ?_⟩
                · rw [List.append_assoc]; exact j1
                · exact clean_rel hcl j3 (fun _ k hk => hSS2 k hk) hrx
              · rename_i hsh
                obtain ⟨rfl, rfl⟩ := res_ok h
                simp only [Bool.or_eq_false_iff] at hsh
                obtain ⟨j1, j2, j3⟩ := HOk.join (m := m') hw1 hh' (h0 := p :: r) hfr hro hsub hlt (fun i hi => hh.old i hi) (fun h => by rw [hsh.2] at h; cases h)
                refine ⟨_, _, ⟨j2, ⟨fun k hk => .inl hk, fun k hk => hk.imp id (fun h h0 => h.2 (hsub k h0))⟩, hkeep, hs.trans hsw, j1⟩, ?_⟩
                exact clean_rel hcl j3 (fun h => by rw [hsh.1] at h; cases h) hrx
            · exact (res_fail h).elim
          · exact (res_fail h).elim
end
end Go.Ab
end
section
/- Each operation does what the calculus says: all of them. No statement of its own. -/

namespace Go.Ab
open Go.RowKit

section
variable {P : Program} {T : Tr} {w0 : Base} {φ φ' φ2 : Nat → Option Loc} {w w' : World} {S S' S2 : Nat → Prop} {v : V} {hp : Hp} {b0 : Nat → Prop} {x : Oper} {a : Act}

theorem runs_v {m : Sem Value} {R : Value → World → Prop} (he : execOp a.eval x = (do pure (.value (← m)))) (h : ∃ xv w', m.run P w = .ok xv w' ∧ R xv w') : Runs P x a w R := by
  obtain ⟨xv, w', h1, h2⟩ := h
  refine runs_value ?_ h2
  rw [he, Sem.run_bind, h1]
  rfl

theorem runs_u {m : Sem Unit} {R : Value → World → Prop} (he : execOp a.eval x = (do m; pure .skip)) (h : ∃ w', m.run P w = .ok () w' ∧ R undef w') : Runs P x a w R := by
  obtain ⟨w', h1, h2⟩ := h
  refine runs_skip ?_ h2
  rw [he, Sem.run_bind, h1]
  rfl

theorem dstN_look {m : Nat} (h : dstN hp x = some m) : look hp m = none := by
  unfold dstN at h
  split at h
  · split at h
    · rename_i hn; injection h with h; subst h; exact hn
    · cases h
  · cases h

theorem argsL_one {tm : List V} {xs : Array Operand} {b : V} (hi : Inv T w0 φ S tm hp a w) (h : argsL tm xs = [b]) : ∃ y, xs.map a.eval = #[y] ∧ rel T φ w S b y := by
  have := argsL_rel hi xs
  rw [h] at this
  simp only [relL] at this
  obtain ⟨y, ys, h1, h2, h3⟩ := this
  subst h3
  exact ⟨y, Array.ext' (by simpa using h1), h2⟩

theorem argsL_two {tm : List V} {xs : Array Operand} {b c : V} (hi : Inv T w0 φ S tm hp a w) (h : argsL tm xs = [b, c]) : ∃ y z, xs.map a.eval = #[y, z] ∧ rel T φ w S b y ∧ rel T φ w S c z := by
  have := argsL_rel hi xs
  rw [h] at this
  simp only [relL] at this
  obtain ⟨y, ys, h1, h2, z, zs, h3, h4, h5⟩ := this
  subst h5; subst h3
  exact ⟨y, z, Array.ext' (by simpa using h1), h2, h4⟩

theorem runs_b {c : Call} {b : Builtin} {m : Sem Value} {R : Value → World → Prop} (hop : x.op = .call c) (hc : c.callee = .builtin b)
    (hb : ∀ consts, builtin b c.argTypes x.type consts (c.args.map a.eval) = (do pure (.value (← m)))) (h : ∃ xv w', m.run P w = .ok xv w' ∧ R xv w') : Runs P x a w R := by
  obtain ⟨xv, w', h1, h2⟩ := h
  refine runs_value ?_ h2
  simp [execOp, hop, resolve, hc, invoke, hb, h1]

theorem runs_c {c : Call} {f : Operand} {g : FuncId} {fs cs : Array Value} {R : Value → World → Prop} (hop : x.op = .call c) (hc : c.callee = .value f) (hf : a.eval f = .func (.func g) fs cs)
    (hb : ∃ fn c, P.funcs[g]? = some fn ∧ (fn.name == "runtime.NumGoroutine") = false ∧ fn.body = some c) (h : Calls P g (fs ++ c.args.map a.eval ++ cs) w fun e w' => ∃ x, e = .returned x ∧ R x w') : Runs P x a w R := by
  intro next Q hn
  obtain ⟨fn, cc, b1, b2, b3⟩ := hb
  have hrun : (execOp a.eval x).run P w = .ok (.enter g (fs ++ c.args.map a.eval ++ cs)) w := by
    simp [execOp, hop, resolve, hc, hf, Deferred.ofValue, invoke, callFunc, b1, b2, b3]
    simpa using b2
  unfold Oper.wp
  rw [hrun, Oper.upon_enter]
  exact Calls.weaken h (fun e w' ⟨y, e1, e2⟩ => by subst e1; exact hn _ _ e2)

theorem opF_ok (htok : TyOk P T) {tm : List V} (hi : Inv T w0 φ S tm hp a w) {E : Hp} (h : Res P T (opF (real P T w0) T tm hp x) v E) : Runs P x a w (Left T w0 φ S hp w v E) := by
  have hs := hi.since
  have hh := hi.heap
  have here : ∀ {v xv}, rel T φ w S v xv → Left T w0 φ S hp w v [] xv w := fun h => ⟨φ, S, Ext.refl hs hh, h⟩
  have out : ∀ {m : Sem Value} {v E}, Gives P T φ w S m v E → ∃ xv w', m.run P w = .ok xv w' ∧ Left T w0 φ S hp w v E xv w' := fun h => h.left hs hh
  unfold opF at h
  split at h
  · -- move
    rename_i o hop
    obtain ⟨rfl, rfl⟩ := res_ok h
    exact runs_value (by simp [execOp, hop]) (here (ev_rel hi o))
  · rename_i o hop
    obtain ⟨rfl, rfl⟩ := res_ok h
    exact runs_value (by simp [execOp, hop]) (here (ev_rel hi o))
  · -- pick
    rename_i c y z hop
    have hc := ev_rel hi c
    split at h
    · rename_i e
      have := asB_lit e hc
      obtain ⟨rfl, rfl⟩ := res_ok h
      exact runs_value (by simp [execOp, hop, this, asBool]) (here (ev_rel hi y))
    · rename_i e
      have := asB_lit e hc
      obtain ⟨rfl, rfl⟩ := res_ok h
      exact runs_value (by simp [execOp, hop, this, asBool]) (here (ev_rel hi z))
    · rename_i e
      have := asB_sym e hc
      cases h with
      | brT hcb h =>
        obtain ⟨rfl, rfl⟩ := res_ok h
        exact runs_value (by simp [execOp, hop, this, asBool, hcb]) (here (ev_rel hi y))
      | brF hcb h =>
        obtain ⟨rfl, rfl⟩ := res_ok h
        exact runs_value (by simp [execOp, hop, this, asBool, hcb]) (here (ev_rel hi z))
    · exact (res_fail h).elim
  · -- alloc
    rename_i t hop
    split at h
    · rename_i e n he hn
      split at h
      · rename_i hst
        obtain ⟨rfl, rfl⟩ := res_ok h
        obtain ⟨i, hi0, hsz, hby, hz⟩ := htok.info _ _ he
        refine runs_v (m := Instr.alloc t true (.tuple #[])) (by unfold execOp; rw [hop]) ⟨_, _, ?_, box_left hs hh (dstN_look hn) hst (zero_rel e)⟩
        simp [Instr.alloc, zeroValue, typeInfo, hi0, hz, newVar, newRow]
      · exact (res_fail h).elim
    · exact (res_fail h).elim
  · -- box
    rename_i t o hop
    split at h
    · rename_i n hn hst
      obtain ⟨rfl, rfl⟩ := res_ok h
      refine runs_v (m := Instr.box t (a.eval o)) (by unfold execOp; rw [hop]) ⟨_, _, ?_, box_left hs hh (dstN_look hn) hst (ev_rel hi o)⟩
      simp [Instr.box, newVar, newRow]
    · exact (res_fail h).elim
  · rename_i t ps hop
    exact runs_v (by unfold execOp; rw [hop]) (out (buildF_ok htok hi h))
  · rename_i t n ps hop
    exact runs_v (by unfold execOp; rw [hop]) (buildSliceF_ok htok hi h)
  · rename_i t o hop
    exact runs_v (by unfold execOp; rw [hop]) (out (loadF_ok htok hh h (ev_rel hi o)))
  · -- store
    rename_i t o y hop
    refine runs_u (m := Instr.storeAt t (a.eval o) (a.eval y)) (by unfold execOp; rw [hop]) ?_
    have ho := ev_rel hi o
    have hy := ev_rel hi y
    have fin : ∀ {E}, (∃ w', (Instr.storeAt t (a.eval o) (a.eval y)).run P w = .ok () w' ∧ LeftS T w0 φ S hp w E w') → ∃ w', (Instr.storeAt t (a.eval o) (a.eval y)).run P w = .ok () w' ∧ Left T w0 φ S hp w .dead E undef w' := by
      rintro E ⟨w', h1, φ', S', h2⟩
      exact ⟨w', h1, φ', S', h2, by simp only [rel]⟩
    unfold storeF at h
    split at h
    · rename_i n off e
      rw [e] at ho
      split at h
      · rename_i u cs hl
        split at h
        · rename_i h1 h2
          obtain ⟨rfl, rfl⟩ := res_ok h
          simp only [Bool.and_eq_true, beq_iff_eq, Nat.blt_eq, Nat.ble_eq] at h1 h2
          exact fin (storeBox_ok htok hs hh hl ho hy h1.1.1 h1.1.2 (by omega) h2)
        · exact (res_fail h).elim
      · exact (res_fail h).elim
    · rename_i n i j e
      rw [e] at ho
      split at h
      rename_i v' E' hfz
      obtain ⟨S1, s1, s2, s3⟩ := frz_ok hh hy hfz
      split at h
      · rename_i et es hl
        split at h
        · rename_i h1 h2
          obtain ⟨rfl, rfl⟩ := res_ok h
          simp only [Bool.and_eq_true, beq_iff_eq, Nat.blt_eq, Nat.ble_eq] at h1
          obtain ⟨w', k1, φ2, S2, k2⟩ := storeRow_ok (w0 := w0) htok hs s2 hl (rel_mono (LocLe.refl _) (fun _ _ => rfl) s1.1 _ _ ho) (unNil_rel (norm_rel s3)) h1.1.1 h2 (by omega) h1.2
          refine fin ⟨w', k1, φ2, S2, ⟨k2.loc, s1.trans k2.sle, fun k hk => k2.keep k (s1.1 k hk), k2.since, ?_⟩⟩
          have := k2.heap
          simpa using this
        · exact (res_fail h).elim
      · exact (res_fail h).elim
    · exact (res_fail h).elim
  · -- nilCheck
    rename_i o hop
    have hr := ev_rel hi o
    split at h
    · rename_i n j e
      obtain ⟨rfl, rfl⟩ := res_ok h
      rw [e] at hr
      have hr' := hr
      simp only [rel] at hr'
      obtain ⟨B, _, hx⟩ := hr'
      exact runs_value (by simp [execOp, hop, hx]) (here (hx ▸ hr))
    · rename_i n i j e
      obtain ⟨rfl, rfl⟩ := res_ok h
      rw [e] at hr
      have hr' := hr
      simp only [rel] at hr'
      obtain ⟨B, off, len, room, sz, _, _, _, hx⟩ := hr'
      exact runs_value (by simp [execOp, hop, hx]) (here (hx ▸ hr))
    · rename_i u es i j e
      obtain ⟨rfl, rfl⟩ := res_ok h
      rw [e] at hr
      have hr' := hr
      simp only [rel] at hr'
      obtain ⟨ad, e', _, _, _, _, _, _, _, hx⟩ := hr'
      exact runs_value (by simp [execOp, hop, hx]) (here (hx ▸ hr))
    · exact (res_fail h).elim
  · -- binOp
    rename_i op t y z fl hop
    split at h
    · rename_i hz
      have hrz := ev_rel hi z
      rw [hz] at hrz
      simp only [rel] at hrz
      refine runs_v (m := do eqGuard op t y z (a.eval y) (a.eval z); binOp op t (a.eval y) (a.eval z)) (by unfold execOp; rw [hop]) (out ?_)
      rw [hrz]
      exact nilF_ok htok h (ev_rel hi y)
    · exact runs_v (m := do eqGuard op t y z (a.eval y) (a.eval z); binOp op t (a.eval y) (a.eval z)) (by unfold execOp; rw [hop]) (out (binF_ok htok h (ev_rel hi y) (ev_rel hi z)))
  · rename_i op t y hop
    exact runs_v (by unfold execOp; rw [hop]) (out (unF_ok h (ev_rel hi y)))
  · rename_i s d y hop
    exact runs_v (by unfold execOp; rw [hop]) (convF_ok htok hs hh (fun m hm => dstN_look hm) h (ev_rel hi y))
  · -- makeFunc
    rename_i f fs cs hop
    obtain ⟨rfl, rfl⟩ := res_ok h
    refine runs_v (m := Instr.makeFunc f (fs.map a.eval) (cs.map a.eval)) (by unfold execOp; rw [hop]) ⟨_, _, rfl, here ?_⟩
    simp only [rel]
    exact ⟨_, _, rfl, argsL_rel hi fs, argsL_rel hi cs⟩
  · -- makeSlice
    rename_i t l c hop
    split at h
    · rename_i u eu m n q hel hm hn hq
      split at h
      · rename_i ta tb hok
        split at h
        · rename_i hab
          obtain rfl : ta = tb := by simpa using hab
          simp only [Bool.and_eq_true] at hok
          obtain ⟨h0, h⟩ := res_need h
          obtain ⟨hroom, h⟩ := res_need h
          obtain ⟨rfl, rfl⟩ := res_ok h
          obtain ⟨k, hk⟩ := asZ_some hn (ev_rel hi (.tmp ta))
          refine runs_v (m := Instr.makeSlice t (a.eval (.tmp ta)) (a.eval (.tmp ta))) (by unfold execOp; rw [hop]) ?_
          rw [hk]
          have hp0 : 0 < eu.size := by have := hok.2; simp [Nat.blt] at this; omega
          exact makeF_ok htok hs hh hel (dstN_look hm) hok.1.1 hok.1.2 hp0 h0 hroom
        · exact (res_fail h).elim
      · exact (res_fail h).elim
    · exact (res_fail h).elim
  · rename_i t y lo hi' hop
    exact runs_v (m := Instr.sliceAt t (a.eval y) (lo.map a.eval) (hi'.map a.eval) none) (by unfold execOp; rw [hop]; rfl) (out (sliceF_ok htok hi h (ev_rel hi y)))
  · rename_i t y lo hi' mx hop
    exact runs_v (m := Instr.sliceAt t (a.eval y) (lo.map a.eval) (hi'.map a.eval) (some (a.eval mx))) (by unfold execOp; rw [hop]; rfl) (slice3F_ok htok hi (fun m hm => dstN_look hm) h (ev_rel hi y))
  · rename_i t y f hop
    exact runs_v (by unfold execOp; rw [hop]) (out (fieldAddrF_ok htok h (ev_rel hi y)))
  · rename_i t y f hop
    exact runs_v (by unfold execOp; rw [hop]) (out (fieldF_ok htok h (ev_rel hi y)))
  · -- indexAddr
    rename_i t y ix hop
    split at h
    · rename_i e he
      have hu := htok.und _ _ he
      split at h
      · rename_i u hd
        rw [hd] at hu
        exact runs_v (by unfold execOp; rw [hop]) (out (idxAddr_ok htok hh hu h (ev_rel hi y) (ev_rel hi ix)))
      · rename_i n u hd
        rw [hd] at hu
        split at h
        · exact (res_fail h).elim
        · rename_i hsz
          split at h
          · exact runs_v (by unfold execOp; rw [hop]) (out (idxArr_ok htok hu (by simpa using hsz) h (ev_rel hi y) (ev_rel hi ix)))
          · exact runs_v (by unfold execOp; rw [hop]) (out (idxArrF_ok htok hu (by simpa using hsz) h (ev_rel hi y) (ev_rel hi ix)))
      · exact (res_fail h).elim
    · exact (res_fail h).elim
  · -- index
    rename_i t y ix hop
    split at h
    · rename_i e he
      have hu := htok.und _ _ he
      split at h
      · rename_i hd
        rw [hd] at hu
        exact runs_v (by unfold execOp; rw [hop]) (out (indexStr_ok hu h (ev_rel hi y) (ev_rel hi ix)))
      · rename_i n u hd
        rw [hd] at hu
        split at h
        · exact runs_v (by unfold execOp; rw [hop]) (out (indexArr_ok htok hu h (ev_rel hi y) (ev_rel hi ix)))
        · exact runs_v (by unfold execOp; rw [hop]) (out (idxArrV_ok htok hu h (ev_rel hi y) (ev_rel hi ix)))
      · exact (res_fail h).elim
    · exact (res_fail h).elim
  · rename_i y i hop
    exact runs_v (by unfold execOp; rw [hop]) (out (extract_ok h (ev_rel hi y)))
  · -- call
    rename_i c hop
    split at h
    · rename_i f hf
      split at h
      · rename_i g fs cs hfn
        have hr := ev_rel hi f
        rw [hfn] at hr
        simp only [rel] at hr
        obtain ⟨b, d, hx, r1, r2⟩ := hr
        obtain ⟨h1, h2⟩ := callF_ok hs hh h (relL_app (relL_app r1 (argsL_rel hi c.args)) r2)
        refine runs_c hop hf hx h1 ?_
        have e : (b.toList ++ (c.args.map a.eval).toList ++ d.toList).toArray = b ++ c.args.map a.eval ++ d := by apply Array.ext'; simp
        rw [← e]
        exact h2
      · exact (res_fail h).elim
    · rename_i hf
      split at h
      · rename_i b t hb ht
        obtain ⟨y, hy, hr⟩ := argsL_one hi hb
        refine runs_b (m := Builtin.len_ c.argTypes x.type (c.args.map a.eval)) hop hf (fun _ => rfl) ?_
        rw [hy]; exact out (lenF_ok htok hh ht h hr)
      · exact (res_fail h).elim
    · rename_i hf
      split at h
      · rename_i b d t t' hb ht
        obtain ⟨y, z, hy, hr1, hr2⟩ := argsL_two hi hb
        split at h
        · rename_i htt
          obtain rfl : t = t' := by simpa using htt
          have hta : c.argTypes = #[t, t] := Array.ext' (by simpa using ht)
          refine runs_b (m := Builtin.append_ c.argTypes x.type (c.args.map a.eval)) hop hf (fun _ => rfl) ?_
          rw [hy, hta]; exact appF_ok htok hs hh (fun m hm => dstN_look hm) h hr1 hr2
        · have hta : c.argTypes = #[t, t'] := Array.ext' (by simpa using ht)
          refine runs_b (m := Builtin.append_ c.argTypes x.type (c.args.map a.eval)) hop hf (fun _ => rfl) ?_
          rw [hy, hta]; exact appZF_ok htok hs hh (fun m hm => dstN_look hm) h hr1 hr2
      · exact (res_fail h).elim
    · rename_i hf
      split at h
      · rename_i b d t t' hb ht
        obtain ⟨y, z, hy, hr1, hr2⟩ := argsL_two hi hb
        have hta : c.argTypes = #[t, t'] := Array.ext' (by simpa using ht)
        refine runs_b (m := Builtin.copy_ c.argTypes x.type (c.args.map a.eval)) hop hf (fun _ => rfl) ?_
        rw [hy, hta]; exact copyF_ok htok hs hh h hr1 hr2
      · exact (res_fail h).elim
    · rename_i hf
      split at h
      · rename_i b t hb ht
        obtain ⟨y, hy, hr⟩ := argsL_one hi hb
        have hta : c.argTypes = #[t] := Array.ext' (by simpa using ht)
        refine runs_b (m := Builtin.clear_ c.argTypes x.type (c.args.map a.eval)) hop hf (fun _ => rfl) ?_
        rw [hy, hta]; exact clearF_ok htok hs hh h hr
      · exact (res_fail h).elim
    · rename_i hf
      refine runs_b (m := Builtin.min_ c.argTypes x.type (c.args.map a.eval)) hop hf (fun _ => rfl) (out (minmax_ok h (argsL_rel hi c.args) (fun k k' p q e => ?_)))
      rw [e]
      simp [Builtin.min_, Builtin.min2, real]
    · rename_i hf
      refine runs_b (m := Builtin.max_ c.argTypes x.type (c.args.map a.eval)) hop hf (fun _ => rfl) (out (minmax_ok h (argsL_rel hi c.args) (fun k k' p q e => ?_)))
      rw [e]
      simp [Builtin.max_, Builtin.max2, real]
    · exact (res_fail h).elim
  · exact (res_fail h).elim
end
end Go.Ab
end
section
/- Regions: what they come to, in the text's order. No statement of its own. -/

namespace Go.Ab
open Go.RowKit

structure Ent where
  d : Option Nat
  v : V
  E : Hp
  f : Foot

section
variable {P : Program} {T : Tr} {w0 : Base} {φ φ' φ2 : Nat → Option Loc} {w w' : World} {S S' S2 : Nat → Prop} {v : V} {hp : Hp} {b0 : Nat → Prop} {x : Oper} {a : Act} {ops : Array Oper}

def GuardIs (ops : Array Oper) (tm : List V) (x : Oper) (res : Bool) : Prop := match x.guard with
  | none => res = true
  | some (j, want) => ∃ g, guardT ops j = some g ∧ ((∃ c, bval (asB (tm.getD g .dead)) = some c ∧ res = (c == want)) ∨ (tm.getD g .dead = .tup [] ∧ res = false))

inductive Trace (P : Program) (T : Tr) (w0 : Base) (ops : Array Oper) : List Oper → List V → Hp → List Ent → List V → Hp → Prop
  | nil {tm hp} : Trace P T w0 ops [] tm hp [] tm hp
  | run {x r tm hp v E es tm' hp'} : GuardIs ops tm x true → Res P T (opF (real P T w0) T tm hp x) v E → Trace P T w0 ops r (setD tm x.dst v) (E ++ hp) es tm' hp' → Trace P T w0 ops (x :: r) tm hp (⟨x.dst, v, E, footOf tm x E⟩ :: es) tm' hp'
  | skip {x r tm hp es tm' hp'} : GuardIs ops tm x false → Trace P T w0 ops r (setD tm x.dst (.tup [])) hp es tm' hp' → Trace P T w0 ops (x :: r) tm hp (⟨x.dst, .tup [], [], ⟨[], []⟩⟩ :: es) tm' hp'

def AsOk (tm : List V) (as_ : List (Nat × Bool)) : Prop := ∀ p ∈ as_, bval (asB (tm.getD p.1 .dead)) = some p.2

theorem asok_set {tm : List V} {as_ : List (Nat × Bool)} {d : Option Nat} {v : V} (h : AsOk tm as_) : AsOk (setD tm d v) (dropA d as_) := by
  intro p hp
  cases d with
  | none => exact h p hp
  | some t =>
    simp only [dropA, List.mem_filter] at hp
    simp only [setD]
    rw [getD_set, if_neg (fun e => by have := hp.2; simp at this; exact this e.1.symm)]
    exact h p hp.1

theorem findA_mem : ∀ {as_ : List (Nat × Bool)} {g : Nat} {c : Bool}, findA as_ g = some c → (g, c) ∈ as_
  | (k, d) :: r, g, c, h => by
    simp only [findA] at h
    split at h
    · rename_i e
      injection h with h
      subst h
      have : k = g := by simpa using e
      subst this
      exact List.mem_cons_self
    · exact List.mem_cons_of_mem _ (findA_mem h)

theorem guardV_lit {tm : List V} {as_ : List (Nat × Bool)} {g : Nat} {c : Bool} (ha : AsOk tm as_) (h : guardV tm as_ g = .lit c) : bval (asB (tm.getD g .dead)) = some c := by
  unfold guardV at h
  split at h
  · rename_i d hd
    injection h with h; subst h
    exact ha _ (findA_mem hd)
  · rw [h]; rfl
theorem guardV_sym {tm : List V} {as_ : List (Nat × Bool)} {g : Nat} {c : Bool} (h : guardV tm as_ g = .sym c) : bval (asB (tm.getD g .dead)) = some c := by
  unfold guardV at h
  split at h
  · cases h
  · rw [h]; rfl

theorem asok_cons {tm : List V} {as_ : List (Nat × Bool)} {g : Nat} {c : Bool} (ha : AsOk tm as_) (h : bval (asB (tm.getD g .dead)) = some c) : AsOk tm ((g, c) :: as_) := by
  intro p hp
  rcases List.mem_cons.1 hp with rfl | hp
  · exact h
  · exact ha p hp

theorem opA_res {tm : List V} {as_ : List (Nat × Bool)} {v : V} {E : Hp} (ha : AsOk tm as_) (h : Res P T (opA (real P T w0) T as_ tm hp x) v E) : Res P T (opF (real P T w0) T tm hp x) v E := by
  unfold opA at h
  split at h
  · rename_i g y z hop
    have key : ∀ {c}, findA as_ g = some c → bval (asB (tm.getD g .dead)) = some c := fun hf => ha _ (findA_mem hf)
    split at h
    · rename_i hf
      have hb := key hf
      unfold opF
      rw [hop]
      simp only [ev]
      cases he : asB (tm.getD g .dead) with
      | lit d => rw [he] at hb; injection hb with hb; subst hb; exact h
      | sym d => rw [he] at hb; injection hb with hb; subst hb; exact .brT rfl h
      | no => rw [he] at hb; cases hb
    · rename_i hf
      have hb := key hf
      unfold opF
      rw [hop]
      simp only [ev]
      cases he : asB (tm.getD g .dead) with
      | lit d => rw [he] at hb; injection hb with hb; subst hb; exact h
      | sym d => rw [he] at hb; injection hb with hb; subst hb; exact .brF rfl h
      | no => rw [he] at hb; cases hb
    · exact h
  · exact h

theorem trace_of {W : List (List Nat)} {draw : Bool} {K : List V → Hp → Prop} : ∀ {l : List Oper} {fs : List Foot} {as_ : List (Nat × Bool)} {tm : List V} {hp : Hp}, runOps (real P T w0) T ops W draw K l fs as_ tm hp → AsOk tm as_ →
    ∃ es tm' hp' as', Trace P T w0 ops l tm hp es tm' hp' ∧ AsOk tm' as' ∧ K (retell tm' as') hp' ∧ (draw = true → apartF W 0 (fs.reverse ++ es.map (·.f)) = true)
  | [], fs, as_, tm, hp, h, ha => by
    simp only [runOps] at h
    split at h
    · split at h
      · rename_i hap
        exact ⟨[], tm, hp, as_, .nil, ha, h, fun _ => by simpa using hap⟩
      · exact h.elim
    · exact ⟨[], tm, hp, as_, .nil, ha, h, fun hd => by cases hd⟩
  | x :: r, fs, as_, tm, hp, h, ha => by
    have run : ∀ {as'}, AsOk tm as' → GuardIs ops tm x true → outF (real P T w0) (opA (real P T w0) T as_ tm hp x) (fun v E => runOps (real P T w0) T ops W draw K r (pushF draw (footOf tm x E) fs) (dropA x.dst as') (setD tm x.dst v) (E ++ hp)) →
        ∃ es tm' hp' as', Trace P T w0 ops (x :: r) tm hp es tm' hp' ∧ AsOk tm' as' ∧ K (retell tm' as') hp' ∧ (draw = true → apartF W 0 (fs.reverse ++ es.map (·.f)) = true) := by
      intro as' ha' hg h
      obtain ⟨v, E, h1, h2⟩ := res_of_out h
      have h1 := opA_res ha h1
      obtain ⟨es, tm', hp', as2, k1, k2, k3, k4⟩ := trace_of h2 (asok_set ha')
      refine ⟨_, tm', hp', as2, .run hg h1 k1, k2, k3, fun hd => ?_⟩
      have := k4 hd
      subst hd
      simpa [pushF] using this
    have skip : ∀ {as'}, AsOk tm as' → GuardIs ops tm x false → runOps (real P T w0) T ops W draw K r (pushF draw ⟨[], []⟩ fs) (dropA x.dst as') (setD tm x.dst (.tup [])) hp →
        ∃ es tm' hp' as', Trace P T w0 ops (x :: r) tm hp es tm' hp' ∧ AsOk tm' as' ∧ K (retell tm' as') hp' ∧ (draw = true → apartF W 0 (fs.reverse ++ es.map (·.f)) = true) := by
      intro as' ha' hg h
      obtain ⟨es, tm', hp', as2, k1, k2, k3, k4⟩ := trace_of h (asok_set ha')
      refine ⟨_, tm', hp', as2, .skip hg k1, k2, k3, fun hd => ?_⟩
      have := k4 hd
      subst hd
      simpa [pushF] using this
    simp only [runOps] at h
    split at h
    · rename_i hgd
      exact run ha (by simp [GuardIs, hgd]) h
    · rename_i j want hgd
      have mk : ∀ {g c res}, guardT ops j = some g → bval (asB (tm.getD g .dead)) = some c → res = (c == want) → GuardIs ops tm x res := by
        intro g c res h1 h2 h3
        simp only [GuardIs, hgd]
        exact ⟨g, h1, .inl ⟨c, h2, h3⟩⟩
      split at h
      · exact h.elim
      · rename_i g hg
        split at h
        · rename_i c hc
          have hb := guardV_lit ha hc
          split at h
          · rename_i hcw; exact run ha (mk hg hb hcw.symm) h
          · rename_i hcw; exact skip ha (mk hg hb hcw.symm) h
        · rename_i c hc
          have hb := guardV_sym hc
          obtain ⟨h1, h2⟩ := h
          cases c with
          | true =>
            have h1 := h1 rfl
            cases want with
            | true => exact run (asok_cons ha hb) (mk hg hb rfl) h1
            | false => exact skip (asok_cons ha hb) (mk hg hb rfl) h1
          | false =>
            have h2 := h2 rfl
            cases want with
            | false => exact run (asok_cons ha hb) (mk hg hb rfl) h2
            | true => exact skip (asok_cons ha hb) (mk hg hb rfl) h2
        · split at h
          · rename_i cs hcs
            split at h
            · exact skip ha (by unfold GuardIs; rw [hgd]; exact ⟨g, hg, .inr ⟨hcs, rfl⟩⟩) h
            · exact h.elim
          · exact h.elim

theorem bval_rel {c : Bool} {y : Value} (h : bval (asB v) = some c) (hr : rel T φ w S v y) : y = .bool c := by
  cases hb : asB v with
  | lit d => rw [hb] at h; injection h with h; subst h; exact asB_lit hb hr
  | sym d => rw [hb] at h; injection h with h; subst h; exact asB_sym hb hr
  | no => rw [hb] at h; cases h

theorem Inv.retell1 {tm : List V} {g : Nat} {c : Bool} (h : Inv T w0 φ S tm hp a w) (hb : bval (asB (tm.getD g .dead)) = some c) : Inv T w0 φ S (tm.set g (.s (.bool c))) hp a w := by
  refine ⟨h.since, by simp [h.size], fun t => ?_, h.dfr, h.heap, h.anc⟩
  rw [getD_set]
  split
  · rename_i e
    have := bval_rel hb (h.tms g)
    rw [← e.1, this]
    exact rel_sb c
  · exact h.tms t

theorem Inv.retell {as_ : List (Nat × Bool)} : ∀ {tm : List V}, Inv T w0 φ S tm hp a w → AsOk tm as_ → Inv T w0 φ S (Ab.retell tm as_) hp a w := by
  induction as_ with
  | nil => intro tm h _; exact h
  | cons p r ih =>
    intro tm h ha
    obtain ⟨g, c⟩ := p
    have h1 := ha (g, c) List.mem_cons_self
    refine ih (h.retell1 h1) (fun q hq => ?_)
    have h2 := ha q (List.mem_cons_of_mem _ hq)
    rw [getD_set]
    split
    · rename_i e
      rw [← e.1] at h2
      rw [h1] at h2
      injection h2 with h2
      rw [← h2]; rfl
    · exact h2

theorem wanted_of {tm : List V} {res : Bool} (h : Inv T w0 φ S tm hp a w) (hg : GuardIs ops tm x res) : Region.wanted x (yielded ops a.tmps) = res := by
  unfold GuardIs at hg
  unfold Region.wanted
  split at hg
  · rename_i e; rw [e]; exact hg.symm
  · rename_i j want e
    rw [e]
    obtain ⟨g, h1, ⟨c, h2, h3⟩ | ⟨h2, h3⟩⟩ := hg
    rotate_left
    · have hv := h.tms g
      rw [h2] at hv
      simp only [rel, relL] at hv
      obtain ⟨b, hb, hn⟩ := hv
      have hy : yielded ops a.tmps j = none := by
        unfold yielded
        unfold guardT at h1
        rw [h1]
        simp only [Option.bind_some]
        cases hh : a.tmps[g]? with
        | some u =>
          rw [Array.getD_eq_getD_getElem?, hh] at hb
          simp at hb
          subst hb
          rfl
        | none => rfl
      simp only
      rw [hy, h3]
      rfl
    have hv := bval_rel h2 (h.tms g)
    subst h3
    unfold guardT at h1
    have hy : yielded ops a.tmps j = some c := by
      unfold yielded
      rw [h1]
      simp only [Option.bind_some]
      have : a.tmps[g]? = some (.bool c) := by
        cases hh : a.tmps[g]? with
        | some u => rw [Array.getD_eq_getD_getElem?, hh] at hv; simpa using hv
        | none => rw [Array.getD_eq_getD_getElem?, hh] at hv; simp [undef] at hv
      rw [this]
    simp only
    rw [hy]
    cases c <;> cases want <;> rfl

theorem seq_ok (htok : TyOk P T) {S0 : Nat → Prop} {Q : Exit → Act → World → Prop} : ∀ {l : List Oper} {tm : List V} {hp : Hp} {es : List Ent} {tm' : List V} {hp' : Hp} {k : Nat} {φ S a w},
    Trace P T w0 ops l tm hp es tm' hp' → (∀ j, l[j]? = ops[k + j]?) → (∀ φ S a w, SLe w0.Z S0 S → Inv T w0 φ S tm' hp' a w → Q .normal a w) → SLe w0.Z S0 S → Inv T w0 φ S tm hp a w → wpOps P ops Q (List.range' k l.length) a w := by
  intro l tm hp es tm' hp' k φ S a w ht
  induction ht generalizing k φ S a w with
  | nil => intro _ hQ hS hi; simpa [wpOps] using hQ φ S a w hS hi
  | run hg hr _ ih =>
    rename_i x r _ _ _ _ _ _ _ _
    intro hl hQ hS hi
    have h0 : ops[k]? = some x := by simpa using (hl 0).symm
    simp only [List.length_cons, List.range'_succ, wpOps, h0, wanted_of hi hg, if_true]
    refine .inl (opF_ok htok hi hr _ _ (fun xv w' hL => ?_))
    obtain ⟨φ', S', e1, e2⟩ := hL
    exact ih (fun j => by have := hl (j + 1); simpa [Nat.add_assoc, Nat.add_comm 1] using this) hQ (hS.trans e1.sle) (hi.step e1 e2)
  | skip hg _ ih =>
    rename_i x r _ _ _ _ _ _
    intro hl hQ hS hi
    have h0 : ops[k]? = some x := by simpa using (hl 0).symm
    simp only [List.length_cons, List.range'_succ, wpOps, h0, wanted_of hi hg]
    exact ih (fun j => by have := hl (j + 1); simpa [Nat.add_assoc, Nat.add_comm 1] using this) hQ hS (hi.step (d := _) (Ext.refl hi.since hi.heap) (by simp only [rel, relL]; exact ⟨#[], rfl, rfl⟩))
end
end Go.Ab
end
section
/- What an operation comes to hangs on its operands and on the rows that these name. No statement of its own. -/

namespace Go.Ab
open Go.RowKit

section
variable {P : Program} {T : Tr} {w0 : Base} {o : Ops} {hp hp' : Hp} {N : Nat → Prop}

def Agree (N : Nat → Prop) (hp hp' : Hp) : Prop := ∀ n, N n → look hp n = look hp' n

theorem Agree.app {E : Hp} (h : Agree N hp hp') : Agree N (E ++ hp) (E ++ hp') := fun n hn => by
  rw [look_app, look_app, h n hn]

def Nin (N : Nat → Prop) (v : V) : Prop := ∀ n ∈ names v, N n
def NinS (N : Nat → Prop) (v : V) : Prop := ∀ n ∈ namesS v, N n

theorem nin_agg {cs : List V} (h : Nin N (.agg cs)) : ∀ c ∈ cs, NinS N c := fun c hc n hn => h n (by
  simp only [names, namesC, List.mem_flatten, List.mem_map]
  exact ⟨_, ⟨c, hc, rfl⟩, hn⟩)

def NinC (N : Nat → Prop) (v : V) : Prop := ∀ n ∈ namesC v, N n

theorem Nin.c {v : V} (h : Nin N v) : NinC N v := by
  cases v with
  | tup cs => intro n hn; simp [namesC, namesS] at hn
  | fn f a b => intro n hn; simp [namesC, namesS] at hn
  | _ => exact h

theorem ninC_agg {cs : List V} (h : NinC N (.agg cs)) : ∀ c ∈ cs, NinS N c := fun c hc n hn => h n (by
  simp only [namesC, List.mem_flatten, List.mem_map]
  exact ⟨_, ⟨c, hc, rfl⟩, hn⟩)

theorem expS_congr (h : Agree N hp hp') {v : V} (hv : NinS N v) : expS o hp v = expS o hp' v := by
  cases v with
  | row n => simp only [expS, h n (hv n (by simp [namesS]))]
  | rowp n lo ln => simp only [expS, h n (hv n (by simp [namesS]))]
  | _ => rfl

theorem nin_s {v : V} (h : Nin N v) (h1 : ∀ cs, v ≠ .agg cs) (h2 : ∀ cs, v ≠ .tup cs) (h3 : ∀ f a b, v ≠ .fn f a b) : NinS N v := by
  cases v with
  | agg cs => exact absurd rfl (h1 cs)
  | tup cs => exact absurd rfl (h2 cs)
  | fn f a b => exact absurd rfl (h3 f a b)
  | _ => exact h

theorem exp_congrC (h : Agree N hp hp') {v : V} (hv : NinC N v) : Ab.exp o hp v = Ab.exp o hp' v := by
  cases v with
  | agg cs => simp only [Ab.exp]; rw [List.map_congr_left (fun c hc => expS_congr h (ninC_agg hv c hc))]
  | tup cs => rfl
  | fn f a b => rfl
  | s v => rfl
  | i k n => rfl
  | b c => rfl
  | str s => rfl
  | nil => rfl
  | sl et es => rfl
  | ptr n j => rfl
  | ep n i j => rfl
  | rp a b c d => rfl
  | row n => exact expS_congr (o := o) (v := .row n) h hv
  | rowp n lo ln => exact expS_congr (o := o) (v := .rowp n lo ln) h hv
  | dead => rfl
  | nlq g es => rfl

theorem exp_congr (h : Agree N hp hp') {v : V} (hv : Nin N v) : Ab.exp o hp v = Ab.exp o hp' v := exp_congrC h hv.c

theorem frzS_congr (h : Agree N hp hp') {v : V} (hv : NinS N v) : frzS hp v = frzS hp' v := by
  cases v with
  | row n => simp only [frzS, h n (hv n (by simp [namesS]))]
  | _ => rfl

theorem frzL_congr : ∀ {cs : List V} {hp hp' : Hp}, Agree N hp hp' → (∀ c ∈ cs, NinS N c) → frzL hp cs = frzL hp' cs
  | [], _, _, _, _ => rfl
  | v :: r, hp, hp', h, hv => by
    simp only [frzL]
    rw [frzS_congr h (hv v List.mem_cons_self)]
    rw [frzL_congr h.app (fun c hc => hv c (List.mem_cons_of_mem _ hc))]

theorem frz_congr (h : Agree N hp hp') {v : V} (hv : Nin N v) : frz hp v = frz hp' v := by
  cases v with
  | agg cs => simp only [frz]; rw [frzL_congr h (nin_agg hv)]
  | tup cs => rfl
  | fn f a b => rfl
  | s v => rfl
  | i k n => rfl
  | b c => rfl
  | str s => rfl
  | nil => rfl
  | sl et es => rfl
  | ptr n j => rfl
  | ep n i j => rfl
  | rp a b c d => rfl
  | row n => exact frzS_congr (v := .row n) h hv
  | rowp n lo ln => rfl
  | dead => rfl
  | nlq g es => rfl

theorem frzP_congr : ∀ {ps : List (Nat × V)} {hp hp' : Hp}, Agree N hp hp' → (∀ p ∈ ps, Nin N p.2) → frzP hp ps = frzP hp' ps
  | [], _, _, _, _ => rfl
  | (i, v) :: r, hp, hp', h, hv => by
    simp only [frzP]
    rw [frz_congr h (hv (i, v) List.mem_cons_self), frzP_congr h.app (fun c hc => hv c (List.mem_cons_of_mem _ hc))]

theorem frzN_congr : ∀ {ns : List Nat} {hp hp' : Hp}, Agree N hp hp' → (∀ n ∈ ns, N n) → frzN hp ns = frzN hp' ns
  | [], _, _, _, _ => rfl
  | n :: r, hp, hp', h, hn => by
    simp only [frzN]
    rw [h n (hn n List.mem_cons_self)]
    have hr : ∀ m ∈ r, N m := fun m hm => hn m (List.mem_cons_of_mem _ hm)
    split
    · rename_i et es _
      rw [frzN_congr (hp := (n, .ro et es) :: hp) (hp' := (n, .ro et es) :: hp') (h.app (E := [(n, .ro et es)])) hr]
    · exact frzN_congr h hr

theorem srcL_congr (h : Agree N hp hp') {v : V} (hv : Nin N v) : srcL o hp v = srcL o hp' v := by
  unfold srcL
  split <;> first | rfl | skip
  rw [exp_congr h hv]

theorem srcT_congr (h : Agree N hp hp') {v : V} (hv : Nin N v) : srcT hp v = srcT hp' v := by
  cases v with
  | row n => simp only [srcT, h n (hv n (by simp [names, namesC, namesS]))]
  | rowp n lo ln => simp only [srcT, h n (hv n (by simp [names, namesC, namesS]))]
  | _ => rfl

theorem okSrc_congr (h : Agree N hp hp') {u : Nat} {v : V} (hv : Nin N v) : okSrc T hp u v = okSrc T hp' u v := by
  unfold okSrc
  split <;> first | rfl | skip
  rw [srcT_congr h hv]

theorem nin_row {n : Nat} (h : Nin N (.row n)) : N n := h n (by simp [names, namesC, namesS])
theorem nin_rowp {n : Nat} {lo ln : Int} (h : Nin N (.rowp n lo ln)) : N n := h n (by simp [names, namesC, namesS])
theorem nin_ptr {n j : Nat} (h : Nin N (.ptr n j)) : N n := h n (by simp [names, namesC, namesS])
theorem nin_ep {n j : Nat} {i : Int} (h : Nin N (.ep n i j)) : N n := h n (by simp [names, namesC, namesS])

theorem loadF_congr (h : Agree N hp hp') {t : Nat} {v : V} (hv : Nin N v) : loadF o T hp t v = loadF o T hp' t v := by
  unfold loadF
  cases v with
  | ptr n j => simp only [h n (nin_ptr hv)]
  | ep n i j => simp only [h n (nin_ep hv)]
  | _ => rfl

theorem storeF_congr (h : Agree N hp hp') {t : Nat} {a v : V} (ha : Nin N a) (hv : Nin N v) : storeF o T hp t a v = storeF o T hp' t a v := by
  cases a with
  | ptr n j => simp only [storeF, h n (nin_ptr ha)]
  | ep n i j =>
    simp only [storeF]
    rw [frz_congr h hv]
    simp only [(h.app (E := (frz hp' v).2)) n (nin_ep ha)]
  | _ => rfl

theorem lenF_congr (h : Agree N hp hp') {t : Nat} {v : V} (hv : Nin N v) : lenF o T hp t v = lenF o T hp' t v := by
  unfold lenF
  cases v with
  | row n => simp only [h n (nin_row hv)]
  | _ => rfl

theorem sliceF_congr (h : Agree N hp hp') {t : Nat} {v : V} {lo hi : Option V} (hv : Nin N v) : sliceF o T hp t v lo hi = sliceF o T hp' t v lo hi := by
  unfold sliceF
  cases v with
  | row n => simp only [h n (nin_row hv)]
  | rowp n lo ln => simp only [h n (nin_rowp hv)]
  | _ => rfl

theorem idxAddr_congr (h : Agree N hp hp') {u : Nat} {v y : V} (hv : Nin N v) : idxAddr o T hp u v y = idxAddr o T hp' u v y := by
  unfold idxAddr
  cases v with
  | row n => simp only [h n (nin_row hv)]
  | rowp n lo ln => simp only [h n (nin_rowp hv)]
  | _ => rfl

theorem appF_congr (h : Agree N hp hp') {t : Nat} {s x : V} {m : Option Nat} (hs : Nin N s) (hx : Nin N x) : appF o T hp t s x m = appF o T hp' t s x m := by
  unfold appF
  rw [srcL_congr h hx]
  cases s with
  | row n => simp only [h n (nin_row hs), okSrc_congr h hx]
  | _ => simp only [okSrc_congr h hx]

theorem appZF_congr (h : Agree N hp hp') {t t2 : Nat} {s x : V} {m : Option Nat} (hs : Nin N s) : appZF o T hp t t2 s x m = appZF o T hp' t t2 s x m := by
  unfold appZF
  cases s with
  | row n => simp only [h n (nin_row hs)]
  | _ => rfl

theorem isSlc_congr (h : Agree N hp hp') {u : Nat} {v : V} (hv : Nin N v) : isSlc hp u v = isSlc hp' u v := by
  cases v with
  | row n => simp only [isSlc, h n (hv n (by simp [names, namesC, namesS]))]
  | rowp n lo ln => simp only [isSlc, h n (hv n (by simp [names, namesC, namesS]))]
  | _ => rfl

theorem slice3F_congr (h : Agree N hp hp') {t : Nat} {v mx : V} {lo hi : Option V} {m : Option Nat} (hv : Nin N v) : slice3F o T hp t v lo hi mx m = slice3F o T hp' t v lo hi mx m := by
  unfold slice3F
  cases elemT T t with
  | none => rfl
  | some p => simp only [isSlc_congr h hv]

theorem clearF_congr (h : Agree N hp hp') {t : Nat} {v : V} (hv : Nin N v) : clearF o T hp t v = clearF o T hp' t v := by
  unfold clearF
  cases v with
  | row n => simp only [h n (hv n (by simp [names, namesC, namesS]))]
  | rowp n lo ln => simp only [h n (hv n (by simp [names, namesC, namesS]))]
  | _ => rfl

theorem copyF_congr (h : Agree N hp hp') {t : Nat} {d x : V} (hs : Nin N d) (hx : Nin N x) : copyF o T hp t d x = copyF o T hp' t d x := by
  unfold copyF
  rw [srcL_congr h hx]
  cases d with
  | row n => simp only [h n (nin_row hs), okSrc_congr h hx]
  | rowp n lo ln => simp only [h n (nin_rowp hs), okSrc_congr h hx]
  | _ => simp only [okSrc_congr h hx]

theorem convF_congr (h : Agree N hp hp') {s d : Nat} {v : V} {n : Option Nat} (hv : Nin N v) : convF o T hp s d v n = convF o T hp' s d v n := by
  unfold convF
  rw [exp_congr h hv]

theorem dstN_congr {x : Oper} {m : Nat} (h : Agree N hp hp') (hm : dstN hp x = some m) (hn : N m) : dstN hp' x = some m := by
  unfold dstN at hm ⊢
  split at hm
  · rename_i t ht
    split at hm
    · rename_i hl
      injection hm with hm
      rw [hm] at hl ⊢
      rw [← h m hn, hl]
    · cases hm
  · cases hm

theorem freshH_congr {m : Nat} (h : Agree N hp hp') : ∀ {h0 : Hp}, (∀ p ∈ h0, N (m + p.1)) → freshH hp m h0 = freshH hp' m h0
  | [], _ => rfl
  | (n, b) :: r, hn => by
    simp only [freshH, h (m + n) (hn (n, b) List.mem_cons_self)]
    rw [freshH_congr h (fun p hp => hn p (List.mem_cons_of_mem _ hp))]

theorem rowsS_nin {v : V} (h : NinS N v) : ∀ n ∈ rowsS v, N n := by
  cases v with
  | row n => exact h
  | rowp n lo ln => exact h
  | _ => intro n hn; simp [rowsS] at hn

theorem rowsOf_nin {v : V} (h : NinC N v) : ∀ n ∈ rowsOf v, N n := by
  cases v with
  | agg cs =>
    intro n hn
    simp only [rowsOf, List.mem_flatten, List.mem_map] at hn
    obtain ⟨_, ⟨c, hc, rfl⟩, hn⟩ := hn
    exact rowsS_nin (ninC_agg h c hc) n hn
  | row n => exact h
  | rowp n lo ln => exact h
  | _ => intro n hn; simp [rowsOf, rowsS] at hn

theorem liveN_congr {ns : List Nat} (h : Agree N hp hp') (hn : ∀ n ∈ ns, N n) : liveN hp ns = liveN hp' ns := by
  unfold liveN
  rw [Bool.eq_iff_iff, List.all_eq_true, List.all_eq_true]
  constructor
  · intro k n hm; rw [← h n (hn n hm)]; exact k n hm
  · intro k n hm; rw [h n (hn n hm)]; exact k n hm

theorem callF_congr {f : Nat} {args : List V} {m : Option Nat} {v : V} {E : Hp} (h : Agree N hp hp') (ha : ∀ a ∈ args, NinC N a) (hE : ∀ p ∈ E, N p.1) (hr : Res P T (callF o T hp f args m) v E) : Res P T (callF o T hp' f args m) v E := by
  have hrows : ∀ n ∈ (args.map rowsOf).flatten, N n := by
    intro n hn
    simp only [List.mem_flatten, List.mem_map] at hn
    obtain ⟨_, ⟨a, h1, rfl⟩, h2⟩ := hn
    exact rowsOf_nin (ha a h1) n h2
  unfold callF at hr ⊢
  rw [← liveN_congr h hrows, ← List.map_congr_left (f := fun a => normV (Ab.exp o hp a)) (fun a h1 => by rw [exp_congrC h (ha a h1)]), ← frzN_congr h hrows]
  split at hr
  · exact (res_fail hr).elim
  · cases hr with
    | call hfn hr =>
      rename_i v0 h0
      refine .call hfn ?_
      simp only at hr ⊢
      split at hr
      · exact (res_fail hr).elim
      · split at hr
        · exact hr
        · rename_i p r _
          split at hr
          · rename_i m
            split at hr
            · rename_i hf
              have hin : ∀ q ∈ p :: r, N (m + q.1) := fun q hq => by
                have hmem : (m + q.1, q.2) ∈ renH m (p :: r) := List.mem_map.2 ⟨q, hq, rfl⟩
                split at hr
                · obtain ⟨_, rfl⟩ := res_ok hr; exact hE _ (List.mem_append_left _ hmem)
                · obtain ⟨_, rfl⟩ := res_ok hr; exact hE _ hmem
              rw [← freshH_congr h hin, hf]
              exact hr
            · exact (res_fail hr).elim
          · exact (res_fail hr).elim

theorem fnew {x : Oper} {F : Option Nat → Out} {v : V} {E : Hp} (h : Agree N hp hp') (hn : F none = .fail) (hE : ∀ m, Res P T (F (some m)) v E → N m) (hr : Res P T (F (dstN hp x)) v E) : Res P T (F (dstN hp' x)) v E := by
  cases hd : dstN hp x with
  | none => rw [hd, hn] at hr; exact (res_fail hr).elim
  | some m =>
    rw [hd] at hr
    rw [dstN_congr h hd (hE m hr)]
    exact hr

def NinO (N : Nat → Prop) (tm : List V) (x : Oper) : Prop := ∀ a ∈ x.op.operands.toList, Nin N (ev tm a)

theorem mem_args {xs : Array Operand} {tm : List V} {a : V} (h : a ∈ argsL tm xs) : ∃ y ∈ xs, a = ev tm y := by
  simp only [argsL, List.mem_map, Array.mem_toList_iff] at h
  obtain ⟨y, h1, h2⟩ := h
  exact ⟨y, h1, h2.symm⟩

theorem opF_congr {tm : List V} {x : Oper} {v : V} {E : Hp} (h : Agree N hp hp') (hN : NinO N tm x) (hE : ∀ p ∈ E, N p.1) (hr : Res P T (opF (real P T w0) T tm hp x) v E) : Res P T (opF (real P T w0) T tm hp' x) v E := by
  unfold NinO at hN
  unfold opF at hr ⊢
  cases hop : x.op with
  | alloc t =>
    simp only [hop] at hr ⊢
    cases he : T.look t with
    | none => rw [he] at hr; exact (res_fail hr).elim
    | some e =>
      rw [he] at hr
      refine fnew (F := fun d => match some e, d with
        | some e, some n => match stor (zeroV e) with
          | true => .ok (.ptr n 0) [(n, .cells t (cellsOf (zeroV e)))]
          | false => .fail
        | _, _ => .fail) h rfl (fun m hm => ?_) hr
      cases hst : stor (zeroV e) with
      | true =>
        simp only [hst] at hm
        obtain ⟨_, rfl⟩ := res_ok hm; exact hE _ List.mem_cons_self
      | false =>
        simp only [hst] at hm
        exact (res_fail hm).elim
  | box t a =>
    simp only [hop] at hr ⊢
    refine fnew (F := fun d => match d, stor (ev tm a) with
      | some n, true => .ok (.ptr n 0) [(n, .cells t (cellsOf (ev tm a)))]
      | _, _ => .fail) h rfl (fun m hm => ?_) hr
    split at hm
    · rename_i e1 _; injection e1 with e1; subst e1; obtain ⟨_, rfl⟩ := res_ok hm; exact hE _ List.mem_cons_self
    · exact (res_fail hm).elim
  | buildSlice t n ps =>
    simp only [hop] at hr hN ⊢
    have hps : ∀ p ∈ (ps.toList.map fun p => (p.1, ev tm p.2)), Nin N p.2 := by
      intro p hp
      simp only [List.mem_map] at hp
      obtain ⟨q, hq, rfl⟩ := hp
      exact hN q.2 (by simp only [Op.operands]; simp; exact ⟨q.1, by simpa using hq⟩)
    rw [← frzP_congr h hps]
    cases hfz : frzP hp (ps.toList.map fun p => (p.1, ev tm p.2)) with
    | mk ps' E1 =>
      rw [hfz] at hr
      cases hel : elemT T t with
      | none => rw [hel] at hr; exact (res_fail hr).elim
      | some ue =>
        obtain ⟨u, eu⟩ := ue
        rw [hel] at hr
        refine fnew (F := fun d => match d, putAll (List.replicate n (zeroT T u eu)) (unNilP T u ps') with
          | some m, some es => match chkAll T u es && (n * eu.size).ble 16777216 && Nat.blt 0 eu.size && zok eu && chk T u (zeroT T u eu) && okParts eu.size (unNilP T u ps') with
            | true => .ok (.row m) ((m, .row u es) :: E1)
            | false => .fail
          | _, _ => .fail) (h.app (E := E1)) rfl (fun m hm => ?_) hr
        split at hm
        · rename_i e1 _
          split at hm
          · injection e1 with e1; subst e1; obtain ⟨_, rfl⟩ := res_ok hm; exact hE _ List.mem_cons_self
          · exact (res_fail hm).elim
        · exact (res_fail hm).elim
  | load t a =>
    simp only [hop] at hr hN ⊢
    rw [← loadF_congr h (hN a (by simp [Op.operands]))]
    exact hr
  | store t a y =>
    simp only [hop] at hr hN ⊢
    rw [← storeF_congr h (hN a (by simp [Op.operands])) (hN y (by simp [Op.operands]))]
    exact hr
  | convert s d a =>
    simp only [hop] at hr hN ⊢
    rw [← convF_congr h (hN a (by simp [Op.operands]))]
    unfold convF at hr ⊢
    cases hs : T.look s with
    | none => rw [hs] at hr; exact (res_fail hr).elim
    | some es =>
      cases hd : T.look d with
      | none => rw [hs, hd] at hr; exact (res_fail hr).elim
      | some ed =>
        rw [hs, hd] at hr
        simp only at hr ⊢
        generalize es.desc = d1 at hr ⊢
        generalize ed.desc = d2 at hr ⊢
        cases d1 <;> cases d2 <;> first
          | exact hr
          | (rename_i u
             simp only at hr ⊢
             refine fnew (F := fun n => match isU8 T u && sizeT T u == 1 with
               | true => match asS (ev tm a), n with
                 | some s, some m => .need ((real P T w0).sroom s .empty) (.ok (.row m) [(m, .ro u ((real P T w0).ofB s))])
                 | _, _ => .fail
               | false => .fail) h ?_ (fun m hm => ?_) hr
             · cases isU8 T u && sizeT T u == 1 <;> cases asS (ev tm a) <;> rfl
             · split at hm
               · split at hm
                 · rename_i e1
                   injection e1 with e1
                   subst e1
                   obtain ⟨_, hm⟩ := res_need hm
                   obtain ⟨_, rfl⟩ := res_ok hm
                   exact hE _ List.mem_cons_self
                 · exact (res_fail hm).elim
               · exact (res_fail hm).elim)
  | makeSlice t l c =>
    simp only [hop] at hr hN ⊢
    cases hel : elemT T t with
    | none => rw [hel] at hr; exact (res_fail hr).elim
    | some ue =>
      obtain ⟨u, eu⟩ := ue
      rw [hel] at hr
      cases hl : asZ (ev tm l) with
      | none => rw [hl] at hr; cases hd : dstN hp x <;> rw [hd] at hr <;> exact (res_fail hr).elim
      | some n =>
        cases hc : asZ (ev tm c) with
        | none => rw [hl, hc] at hr; cases hd : dstN hp x <;> rw [hd] at hr <;> exact (res_fail hr).elim
        | some n2 =>
          rw [hl, hc] at hr
          cases hd : dstN hp x with
          | none => rw [hd] at hr; exact (res_fail hr).elim
          | some m =>
            rw [hd] at hr
            have hm : N m := by
              simp only at hr
              split at hr
              · split at hr
                · obtain ⟨_, hr⟩ := res_need hr
                  obtain ⟨_, hr⟩ := res_need hr
                  obtain ⟨_, rfl⟩ := res_ok hr
                  exact hE _ List.mem_cons_self
                · exact (res_fail hr).elim
              · exact (res_fail hr).elim
            rw [dstN_congr h hd hm]
            exact hr
  | slice t a lo hi m =>
    cases m with
    | none =>
      simp only [hop] at hr hN ⊢
      rw [← sliceF_congr h (hN a (by simp [Op.operands]))]
      exact hr
    | some m =>
      simp only [hop] at hr hN ⊢
      rw [← slice3F_congr h (hN a (by simp [Op.operands]))]
      unfold slice3F at hr ⊢
      cases hel : elemT T t with
      | none => rw [hel] at hr; exact (res_fail hr).elim
      | some p =>
        obtain ⟨u, eu⟩ := p
        rw [hel] at hr
        simp only at hr ⊢
        split at hr
        · refine fnew (F := fun d => match (hi.map (ev tm)), d with
            | some _, some m => .ok (.row m) [(m, .row u [])]
            | _, _ => .fail) h (by cases hi <;> rfl) (fun m hm => ?_) hr
          split at hm
          · rename_i e1
            injection e1 with e1
            subst e1
            obtain ⟨_, rfl⟩ := res_ok hm
            exact hE _ List.mem_cons_self
          · exact (res_fail hm).elim
        · exact hr
  | indexAddr t a ix =>
    simp only [hop] at hr hN ⊢
    cases he : T.look t with
    | none => rw [he] at hr; exact (res_fail hr).elim
    | some e =>
      rw [he] at hr
      simp only at hr ⊢
      split at hr
      · rw [← idxAddr_congr h (hN a (by simp [Op.operands]))]; exact hr
      · exact hr
      · exact (res_fail hr).elim
  | call c =>
    simp only [hop] at hr hN ⊢
    have hargs : ∀ a ∈ argsL tm c.args, Nin N a := by
      intro a ha
      obtain ⟨y, h1, rfl⟩ := mem_args ha
      exact hN y (by simp [Op.operands, Call.operands, h1])
    split at hr
    · rename_i f hf
      split at hr
      · rename_i g fs cs hfn
        have hfn' : Nin N (.fn (.func g) fs cs) := by
          rw [← hfn]; exact hN f (by simp [Op.operands, Call.operands, hf])
        refine callF_congr h (fun a ha => ?_) hE hr
        rcases List.mem_append.1 ha with ha | ha
        · rcases List.mem_append.1 ha with ha | ha
          · intro n hn
            refine hfn' n ?_
            simp only [names, List.mem_append, List.mem_flatten, List.mem_map]
            exact .inl ⟨_, ⟨a, ha, rfl⟩, hn⟩
          · exact (hargs a ha).c
        · intro n hn
          refine hfn' n ?_
          simp only [names, List.mem_append, List.mem_flatten, List.mem_map]
          exact .inr ⟨_, ⟨a, ha, rfl⟩, hn⟩
      · exact (res_fail hr).elim
    · split at hr
      · rename_i b t hb ht
        rw [← lenF_congr h (hargs b (by rw [hb]; simp))]
        exact hr
      · exact (res_fail hr).elim
    · split at hr
      · rename_i b d t t' hb ht
        split at hr
        · rw [← appF_congr h (hargs b (by rw [hb]; simp)) (hargs d (by rw [hb]; simp))]
          cases hd : dstN hp x with
          | none => rw [hd] at hr; unfold appF at hr; split at hr <;> first | exact (res_fail hr).elim | (rename_i e1 _ ; cases e1)
          | some m =>
            rw [hd] at hr
            have hm : N m := by
              have hr := hr
              unfold appF at hr
              split at hr
              · rename_i e1 _
                injection e1 with e1
                subst e1
                split at hr
                · split at hr
                  · obtain ⟨_, hr⟩ := res_need hr
                    obtain ⟨_, rfl⟩ := res_ok hr
                    exact hE _ List.mem_cons_self
                  · split at hr
                    · split at hr
                      · obtain ⟨_, hr⟩ := res_need hr
                        obtain ⟨_, rfl⟩ := res_ok hr
                        exact hE _ List.mem_cons_self
                      · exact (res_fail hr).elim
                    · exact (res_fail hr).elim
                  · exact (res_fail hr).elim
                · exact (res_fail hr).elim
              · exact (res_fail hr).elim
            rw [dstN_congr h hd hm]
            exact hr
        · rw [← appZF_congr h (hargs b (by rw [hb]; simp))]
          cases hd : dstN hp x with
          | none => rw [hd] at hr; unfold appZF at hr; split at hr <;> first | exact (res_fail hr).elim | (rename_i e1 _ ; cases e1)
          | some m =>
            rw [hd] at hr
            have hm : N m := by
              have hr := hr
              unfold appZF at hr
              split at hr
              · rename_i e1 _
                injection e1 with e1
                subst e1
                split at hr
                · obtain ⟨_, hr⟩ := res_need hr
                  obtain ⟨_, hr⟩ := res_need hr
                  split at hr
                  · obtain ⟨_, hr⟩ := res_need hr
                    obtain ⟨_, rfl⟩ := res_ok hr
                    exact hE _ List.mem_cons_self
                  · split at hr
                    · split at hr
                      · obtain ⟨_, hr⟩ := res_need hr
                        obtain ⟨_, rfl⟩ := res_ok hr
                        exact hE _ List.mem_cons_self
                      · exact (res_fail hr).elim
                    · exact (res_fail hr).elim
                  · exact (res_fail hr).elim
                · exact (res_fail hr).elim
              · exact (res_fail hr).elim
            rw [dstN_congr h hd hm]
            exact hr
      · exact (res_fail hr).elim
    · split at hr
      · rename_i b d t t' hb ht
        rw [← copyF_congr h (hargs b (by rw [hb]; simp)) (hargs d (by rw [hb]; simp))]
        exact hr
      · exact (res_fail hr).elim
    · split at hr
      · rename_i b t hb ht
        rw [← clearF_congr h (hargs b (by rw [hb]; simp))]
        exact hr
      · exact (res_fail hr).elim
    · exact hr
    · exact hr
    · exact (res_fail hr).elim
  | _ => simp only [hop] at hr ⊢; exact hr

theorem argsL_congr {tm tm' : List V} {xs : Array Operand} (h : ∀ a ∈ xs.toList, ev tm a = ev tm' a) : argsL tm xs = argsL tm' xs := List.map_congr_left h

theorem opF_tm {tm tm' : List V} {x : Oper} (h : ∀ a ∈ x.op.operands.toList, ev tm a = ev tm' a) : opF o T tm hp x = opF o T tm' hp x := by
  unfold opF
  cases hop : x.op with
  | move a => simp only [hop] at h ⊢; rw [h a (by simp [Op.operands])]
  | assign a => simp only [hop] at h ⊢; rw [h a (by simp [Op.operands])]
  | pick c a b => simp only [hop] at h ⊢; rw [h c (by simp [Op.operands]), h a (by simp [Op.operands]), h b (by simp [Op.operands])]
  | alloc t => rfl
  | box t a => simp only [hop] at h ⊢; rw [h a (by simp [Op.operands])]
  | build t ps =>
    simp only [hop] at h ⊢
    have e : (ps.toList.map fun p => (p.1, ev tm p.2)) = ps.toList.map fun p => (p.1, ev tm' p.2) :=
      List.map_congr_left (fun p hp => by rw [h p.2 (by simp only [Op.operands]; simp; exact ⟨p.1, by simpa using hp⟩)])
    rw [e]
  | buildSlice t n ps =>
    simp only [hop] at h ⊢
    have e : (ps.toList.map fun p => (p.1, ev tm p.2)) = ps.toList.map fun p => (p.1, ev tm' p.2) :=
      List.map_congr_left (fun p hp => by rw [h p.2 (by simp only [Op.operands]; simp; exact ⟨p.1, by simpa using hp⟩)])
    rw [e]
  | load t a => simp only [hop] at h ⊢; rw [h a (by simp [Op.operands])]
  | store t a v => simp only [hop] at h ⊢; rw [h a (by simp [Op.operands]), h v (by simp [Op.operands])]
  | nilCheck a => simp only [hop] at h ⊢; rw [h a (by simp [Op.operands])]
  | binOp op t a b fl => simp only [hop] at h ⊢; rw [h a (by simp [Op.operands]), h b (by simp [Op.operands])]
  | unOp op t a => simp only [hop] at h ⊢; rw [h a (by simp [Op.operands])]
  | convert s d a => simp only [hop] at h ⊢; rw [h a (by simp [Op.operands])]
  | makeFunc f fs cs =>
    simp only [hop] at h ⊢
    rw [argsL_congr (xs := fs) (fun a ha => h a (by simp [Op.operands]; left; simpa using ha)), argsL_congr (xs := cs) (fun a ha => h a (by simp [Op.operands]; right; simpa using ha))]
  | makeSlice t l c => simp only [hop] at h ⊢; rw [h l (by simp [Op.operands]), h c (by simp [Op.operands])]
  | slice t a lo hi m =>
    simp only [hop] at h ⊢
    have e1 : lo.map (ev tm) = lo.map (ev tm') := by cases lo with
      | none => rfl
      | some l => simp only [Option.map_some]; rw [h l (by simp [Op.operands])]
    have e2 : hi.map (ev tm) = hi.map (ev tm') := by cases hi with
      | none => rfl
      | some l => simp only [Option.map_some]; rw [h l (by simp [Op.operands])]
    have e0 := h a (by simp [Op.operands])
    cases m with
    | none => simp only [hop, e0, e1, e2]
    | some m =>
      have e3 := h m (by simp [Op.operands])
      simp only [hop, e0, e1, e2, e3]
  | fieldAddr t a f => simp only [hop] at h ⊢; rw [h a (by simp [Op.operands])]
  | field t a f => simp only [hop] at h ⊢; rw [h a (by simp [Op.operands])]
  | indexAddr t a ix => simp only [hop] at h ⊢; rw [h a (by simp [Op.operands]), h ix (by simp [Op.operands])]
  | index t a ix => simp only [hop] at h ⊢; rw [h a (by simp [Op.operands]), h ix (by simp [Op.operands])]
  | extract a i => simp only [hop] at h ⊢; rw [h a (by simp [Op.operands])]
  | call c =>
    simp only [hop] at h ⊢
    rw [argsL_congr (xs := c.args) (fun a ha => h a (by simp [Op.operands, Call.operands]; right; simpa using ha))]
    cases hc : c.callee with
    | value f => simp only [hc]; rw [h f (by simp [Op.operands, Call.operands, hc])]
    | builtin b => cases b <;> rfl
    | invoke r m => rfl
  | _ => rfl
end
end Go.Ab
end
section
/- Regions of open order. No statement of its own. -/

namespace Go.Ab
open Go.RowKit

def ordOk (ops : Array Oper) (W : List (List Nat)) : Bool := (List.range ops.size).all fun i => match ops[i]? with
  | some x => x.after.toList.all (fun e => !Region.binds .any e || decide (e.on < i)) &&
    (W.getD i []).all (fun j => x.after.toList.any fun e => Region.binds .any e && (e.on == j || memN j (W.getD e.on []))) &&
    (List.range i).all (fun j => memN j (W.getD i []) || match ops[j]? with | some y => y.apart ops x | none => false)
  | none => false

def tmB (b : Nat → Bool) : Nat → List V → List Ent → List V
  | _, tm, [] => tm
  | k, tm, e :: r => tmB b (k + 1) (if b k = true then setD tm e.d e.v else tm) r
def hpB (b : Nat → Bool) : Nat → Hp → List Ent → Hp
  | _, hp, [] => hp
  | k, hp, e :: r => hpB b (k + 1) (if b k = true then e.E ++ hp else hp) r

section
variable {P : Program} {T : Tr} {w0 : Base} {φ φ' φ2 : Nat → Option Loc} {w w' : World} {S S' S2 : Nat → Prop} {v : V} {hp : Hp} {b0 : Nat → Prop} {x : Oper} {a : Act} {ops : Array Oper} {b b' : Nat → Bool} {t n : Nat}

theorem setD_get {tm : List V} {d : Option Nat} : (setD tm d v).getD t .dead = if d = some t ∧ t < tm.length then v else tm.getD t .dead := by
  cases d with
  | none => simp [setD]
  | some k =>
    simp only [setD, getD_set, Option.some.injEq]
    by_cases h : k = t
    · subst h; simp
    · simp [h]
theorem setD_length {tm : List V} {d : Option Nat} : (setD tm d v).length = tm.length := by cases d <;> simp [setD]

theorem tmB_length : ∀ {es : List Ent} {k : Nat} {tm : List V}, (tmB b k tm es).length = tm.length
  | [], k, tm => rfl
  | e :: r, k, tm => by
    simp only [tmB]
    rw [tmB_length]
    split
    · exact setD_length
    · rfl

theorem tmB_congr : ∀ {es : List Ent} {k : Nat} {tm tm2 : List V}, tm.length = tm2.length → tm.getD t .dead = tm2.getD t .dead → (∀ j e, es[j]? = some e → e.d = some t → b (k + j) = b' (k + j)) → (tmB b k tm es).getD t .dead = (tmB b' k tm2 es).getD t .dead
  | [], k, tm, tm2, _, h, _ => h
  | e :: r, k, tm, tm2, hl, h, hb => by
    simp only [tmB]
    refine tmB_congr ?_ ?_ (fun j e' hj hd => ?_)
    · split <;> split <;> simp [setD_length, hl]
    · by_cases hd : e.d = some t
      · have := hb 0 e rfl hd
        rw [Nat.add_zero] at this
        rw [this]
        split
        · rw [setD_get, setD_get, hl, h]
        · exact h
      · have e1 : ∀ (c : Bool) (l : List V), (if c = true then setD l e.d e.v else l).getD t .dead = l.getD t .dead := fun c l => by
          split
          · rw [setD_get, if_neg (fun hh => hd hh.1)]
          · rfl
        rw [e1, e1, h]
    · have := hb (j + 1) e' hj hd
      rwa [show k + (j + 1) = k + 1 + j from by omega] at this

theorem hpB_congr : ∀ {es : List Ent} {k : Nat} {hp hp2 : Hp}, look hp n = look hp2 n → (∀ j e, es[j]? = some e → look e.E n ≠ none → b (k + j) = b' (k + j)) → look (hpB b k hp es) n = look (hpB b' k hp2 es) n
  | [], k, hp, hp2, h, _ => h
  | e :: r, k, hp, hp2, h, hb => by
    simp only [hpB]
    refine hpB_congr ?_ (fun j e' hj hd => ?_)
    · by_cases hd : look e.E n = none
      · have e1 : ∀ (c : Bool) (l : Hp), look (if c = true then e.E ++ l else l) n = look l n := fun c l => by
          split
          · rw [look_app, hd]
          · rfl
        rw [e1, e1, h]
      · have := hb 0 e rfl hd
        rw [Nat.add_zero] at this
        rw [this]
        split
        · rw [look_app, look_app, h]
        · exact h
    · have := hb (j + 1) e' hj hd
      rwa [show k + (j + 1) = k + 1 + j from by omega] at this

theorem tmB_keep : ∀ {es : List Ent} {k : Nat} {tm : List V}, (∀ j e, es[j]? = some e → b (k + j) = true → e.d ≠ some t) → (tmB b k tm es).getD t .dead = tm.getD t .dead
  | [], k, tm, _ => rfl
  | e :: r, k, tm, hb => by
    simp only [tmB]
    rw [tmB_keep (fun j e' hj hd => hb (j + 1) e' hj (by rwa [show k + (j + 1) = k + 1 + j from by omega]))]
    split
    · rename_i h
      rw [setD_get, if_neg (fun hh => hb 0 e rfl h hh.1)]
    · rfl

theorem hpB_keep : ∀ {es : List Ent} {k : Nat} {hp : Hp}, (∀ j e, es[j]? = some e → b (k + j) = true → look e.E n = none) → look (hpB b k hp es) n = look hp n
  | [], k, hp, _ => rfl
  | e :: r, k, hp, hb => by
    simp only [hpB]
    rw [hpB_keep (fun j e' hj hd => hb (j + 1) e' hj (by rwa [show k + (j + 1) = k + 1 + j from by omega]))]
    split
    · rename_i h
      rw [look_app, hb 0 e rfl h]
    · rfl

theorem tmB_last : ∀ {es : List Ent} {k i : Nat} {tm : List V} {e : Ent}, es[i]? = some e → b (k + i) = true → e.d = some t → t < tm.length → (∀ j e', i < j → es[j]? = some e' → b (k + j) = true → e'.d ≠ some t) → (tmB b k tm es).getD t .dead = e.v
  | c :: r, k, 0, tm, e, he, hb, hd, ht, hl => by
    simp only [List.getElem?_cons_zero, Option.some.injEq] at he
    subst he
    simp only [tmB]
    rw [if_pos (by simpa using hb), tmB_keep (fun j e' hj hb' => hl (j + 1) e' (by omega) hj (by rwa [show k + (j + 1) = k + 1 + j from by omega])), setD_get, if_pos ⟨hd, ht⟩]
  | c :: r, k, i + 1, tm, e, he, hb, hd, ht, hl => by
    simp only [List.getElem?_cons_succ] at he
    simp only [tmB]
    refine tmB_last he (by rwa [show k + 1 + i = k + (i + 1) from by omega]) hd ?_ (fun j e' hij hj hb' => hl (j + 1) e' (by omega) hj (by rwa [show k + (j + 1) = k + 1 + j from by omega]))
    split
    · rw [setD_length]; exact ht
    · exact ht

theorem hpB_last {c : Blk} : ∀ {es : List Ent} {k i : Nat} {hp : Hp} {e : Ent}, es[i]? = some e → b (k + i) = true → look e.E n = some c → (∀ j e', i < j → es[j]? = some e' → b (k + j) = true → look e'.E n = none) → look (hpB b k hp es) n = some c
  | d :: r, k, 0, hp, e, he, hb, hd, hl => by
    simp only [List.getElem?_cons_zero, Option.some.injEq] at he
    subst he
    simp only [hpB]
    rw [if_pos (by simpa using hb), hpB_keep (fun j e' hj hb' => hl (j + 1) e' (by omega) hj (by rwa [show k + (j + 1) = k + 1 + j from by omega])), look_app, hd]
  | d :: r, k, i + 1, hp, e, he, hb, hd, hl => by
    simp only [List.getElem?_cons_succ] at he
    simp only [hpB]
    exact hpB_last he (by rwa [show k + 1 + i = k + (i + 1) from by omega]) hd (fun j e' hij hj hb' => hl (j + 1) e' (by omega) hj (by rwa [show k + (j + 1) = k + 1 + j from by omega]))

theorem tmB_none : ∀ {es : List Ent} {k : Nat} {tm : List V}, (∀ j, k ≤ j → b j = false) → tmB b k tm es = tm
  | [], k, tm, _ => rfl
  | e :: r, k, tm, h => by
    simp only [tmB]
    rw [if_neg (by rw [h k (Nat.le_refl _)]; simp)]
    exact tmB_none (fun j hj => h j (by omega))
theorem hpB_none : ∀ {es : List Ent} {k : Nat} {hp : Hp}, (∀ j, k ≤ j → b j = false) → hpB b k hp es = hp
  | [], k, hp, _ => rfl
  | e :: r, k, hp, h => by
    simp only [hpB]
    rw [if_neg (by rw [h k (Nat.le_refl _)]; simp)]
    exact hpB_none (fun j hj => h j (by omega))

def At (P : Program) (T : Tr) (w0 : Base) (ops : Array Oper) (tm : List V) (hp : Hp) (x : Oper) (e : Ent) : Prop :=
  e.d = x.dst ∧ ((GuardIs ops tm x true ∧ Res P T (opF (real P T w0) T tm hp x) e.v e.E ∧ e.f = footOf tm x e.E) ∨ (GuardIs ops tm x false ∧ e.v = .tup [] ∧ e.E = []))

theorem trace_at : ∀ {l : List Oper} {tm : List V} {hp : Hp} {es : List Ent} {tm' : List V} {hp' : Hp} {k : Nat}, Trace P T w0 ops l tm hp es tm' hp' →
    es.length = l.length ∧ (∀ (i : Nat) (x : Oper), l[i]? = some x → ∃ e, es[i]? = some e ∧ At P T w0 ops (tmB (fun j => decide (j < k + i)) k tm es) (hpB (fun j => decide (j < k + i)) k hp es) x e) ∧
    (∀ b : Nat → Bool, (∀ j, j < l.length → b (k + j) = true) → tm' = tmB b k tm es ∧ hp' = hpB b k hp es) := by
  intro l tm hp es tm' hp' k ht
  induction ht generalizing k with
  | nil => exact ⟨rfl, fun i x h => (by simp at h), fun b _ => ⟨rfl, rfl⟩⟩
  | run hg hr _ ih =>
    rename_i x r tm hp v E es tm' hp' _
    obtain ⟨h1, h2, h3⟩ := ih (k := k + 1)
    refine ⟨by simp [h1], fun i y hy => ?_, fun b hb => ?_⟩
    · cases i with
      | zero =>
        simp only [List.getElem?_cons_zero, Option.some.injEq] at hy
        subst hy
        refine ⟨_, rfl, rfl, .inl ?_⟩
        rw [tmB_none (fun j hj => by simp; omega), hpB_none (fun j hj => by simp; omega)]
        exact ⟨hg, hr, rfl⟩
      | succ i =>
        simp only [List.getElem?_cons_succ] at hy ⊢
        obtain ⟨e, e1, e2⟩ := h2 i y hy
        refine ⟨e, e1, ?_⟩
        simp only [tmB, hpB]
        rw [if_pos (by simp), if_pos (by simp)]
        rwa [show k + 1 + i = k + (i + 1) from by omega] at e2
    · obtain ⟨k1, k2⟩ := h3 b (fun j hj => by have := hb (j + 1) (by simpa using hj); rwa [show k + (j + 1) = k + 1 + j from by omega] at this)
      have h0 := hb 0 (by simp)
      rw [Nat.add_zero] at h0
      simp only [tmB, hpB]
      rw [if_pos h0, if_pos h0]
      exact ⟨k1, k2⟩
  | skip hg _ ih =>
    rename_i x r tm hp es tm' hp' _
    obtain ⟨h1, h2, h3⟩ := ih (k := k + 1)
    refine ⟨by simp [h1], fun i y hy => ?_, fun b hb => ?_⟩
    · cases i with
      | zero =>
        simp only [List.getElem?_cons_zero, Option.some.injEq] at hy
        subst hy
        refine ⟨_, rfl, rfl, .inr ?_⟩
        rw [tmB_none (fun j hj => by simp; omega)]
        exact ⟨hg, rfl, rfl⟩
      | succ i =>
        simp only [List.getElem?_cons_succ] at hy ⊢
        obtain ⟨e, e1, e2⟩ := h2 i y hy
        refine ⟨e, e1, ?_⟩
        simp only [tmB, hpB]
        rw [if_pos (by simp), if_pos (by simp)]
        rwa [show k + 1 + i = k + (i + 1) from by omega] at e2
    · obtain ⟨k1, k2⟩ := h3 b (fun j hj => by have := hb (j + 1) (by simpa using hj); rwa [show k + (j + 1) = k + 1 + j from by omega] at this)
      have h0 := hb 0 (by simp)
      rw [Nat.add_zero] at h0
      simp only [tmB, hpB]
      rw [if_pos h0, if_pos h0]
      exact ⟨k1, k2⟩

theorem meets_false {a c : List Nat} (h : meets a c = false) : ∀ n, n ∈ a → n ∈ c → False := by
  intro n ha hc
  have : meets a c = true := by
    unfold meets
    rw [List.any_eq_true]
    exact ⟨n, ha, by rw [List.any_eq_true]; exact ⟨n, hc, by simp⟩⟩
  rw [this] at h
  cases h

def Free (f g : Foot) : Prop := meets f.wr g.wr = false ∧ meets f.wr g.rd = false ∧ meets f.rd g.wr = false

theorem apart1_spec {W : List (List Nat)} {i : Nat} {f : Foot} : ∀ {fs : List Foot} {k : Nat}, apart1 W i f k fs = true → ∀ j g, fs[j]? = some g → memN i (W.getD (k + j) []) = true ∨ Free f g
  | c :: r, k, h, j, g, hg => by
    simp only [apart1] at h
    have rest : apart1 W i f (k + 1) r = true → ∀ j g, r[j]? = some g → memN i (W.getD (k + (j + 1)) []) = true ∨ Free f g := fun h j g hj => by
      rw [show k + (j + 1) = k + 1 + j from by omega]; exact apart1_spec h j g hj
    split at h
    · rename_i hm
      split at h
      · rename_i hmem
        cases j with
        | zero => exact .inl hmem
        | succ j => exact rest h j g (by simpa using hg)
      · cases h
    · rename_i hm
      cases j with
      | zero =>
        simp only [List.getElem?_cons_zero, Option.some.injEq] at hg
        subst hg
        refine .inr ?_
        split at hm
        · cases hm
        · rename_i h1
          split at hm
          · cases hm
          · rename_i h2; exact ⟨h1, h2, hm⟩
      | succ j => exact rest h j g (by simpa using hg)

theorem apartF_spec {W : List (List Nat)} : ∀ {fs : List Foot} {k : Nat}, apartF W k fs = true → ∀ i j f g, i < j → fs[i]? = some f → fs[j]? = some g → memN (k + i) (W.getD (k + j) []) = true ∨ Free f g
  | c :: r, k, h, i, j, f, g, hij, hf, hg => by
    simp only [apartF] at h
    split at h
    · rename_i h1
      cases j with
      | zero => omega
      | succ j =>
        simp only [List.getElem?_cons_succ] at hg
        cases i with
        | zero =>
          simp only [List.getElem?_cons_zero, Option.some.injEq] at hf
          subst hf
          have := apart1_spec h1 j g hg
          rwa [show k + 1 + j = k + (j + 1) from by omega] at this
        | succ i =>
          simp only [List.getElem?_cons_succ] at hf
          have := apartF_spec h i j f g (by omega) hf hg
          rwa [show k + 1 + j = k + (j + 1) from by omega, show k + 1 + i = k + (i + 1) from by omega] at this
    · cases h

theorem Inv.congr {tm tm2 : List V} {hp2 : Hp} (h : Inv T w0 φ S tm hp a w) (hl : tm.length = tm2.length) (ht : ∀ t, tm.getD t .dead = tm2.getD t .dead) (hh : ∀ n, look hp n = look hp2 n) : Inv T w0 φ S tm2 hp2 a w :=
  ⟨h.since, by rw [← hl]; exact h.size, fun t => by rw [← ht]; exact h.tms t, h.dfr, h.heap.perm hh, h.anc⟩

theorem wr_of {tm : List V} {e : Ent} (he : At P T w0 ops tm hp x e) : look e.E n ≠ none → n ∈ e.f.wr := by
  intro hn
  have mem : ∀ {E : Hp}, look E n ≠ none → n ∈ E.map (·.1) := by
    intro E
    induction E with
    | nil => intro h; exact absurd rfl h
    | cons p r ih =>
      obtain ⟨k, c⟩ := p
      intro h
      rw [look_cons] at h
      by_cases e : k = n
      · subst e; simp
      · rw [if_neg e] at h; exact List.mem_cons_of_mem _ (ih h)
  rcases he.2 with ⟨_, _, h3⟩ | ⟨_, _, h3⟩
  · rw [h3]; exact mem hn
  · rw [h3] at hn; exact absurd rfl hn

/-! ### any order -/
def unl : List Bool → Nat
  | [] => 0
  | c :: r => (if c = true then 0 else 1) + unl r

theorem unl_set : ∀ {l : List Bool} {i : Nat}, l[i]? = some false → unl (l.set i true) + 1 = unl l
  | c :: r, 0, h => by
    simp only [List.getElem?_cons_zero, Option.some.injEq] at h
    subst h
    simp [unl, Nat.add_comm]
  | c :: r, i + 1, h => by
    simp only [List.getElem?_cons_succ] at h
    have := unl_set h
    simp only [List.set_cons_succ, unl]
    omega

theorem unl_zero : ∀ {l : List Bool}, unl l = 0 → ∀ (i : Nat) (c : Bool), l[i]? = some c → c = true
  | d :: r, h, 0, c, hc => by
    simp only [List.getElem?_cons_zero, Option.some.injEq] at hc
    subst hc
    simp only [unl] at h
    cases d
    · simp at h
    · rfl
  | d :: r, h, i + 1, c, hc => by
    simp only [List.getElem?_cons_succ] at hc
    simp only [unl] at h
    exact unl_zero (by omega) i c hc

structure OrdOk (ops : Array Oper) (W : List (List Nat)) : Prop where
  edge : ∀ (i : Nat) (x : Oper), ops[i]? = some x → ∀ e ∈ x.after.toList, Region.binds .any e = true → e.on < i
  wait : ∀ (i : Nat) (x : Oper), ops[i]? = some x → ∀ j ∈ W.getD i [], ∃ e ∈ x.after.toList, Region.binds .any e = true ∧ (e.on = j ∨ memN j (W.getD e.on []) = true)
  apart : ∀ (i j : Nat) (x y : Oper), ops[i]? = some x → ops[j]? = some y → j < i → memN j (W.getD i []) = true ∨ y.apart ops x = true

theorem ordOk_spec {W : List (List Nat)} (h : ordOk ops W = true) : OrdOk ops W := by
  have at' : ∀ {i x}, ops[i]? = some x → ((x.after.toList.all (fun e => !Region.binds .any e || decide (e.on < i)) = true ∧
      (W.getD i []).all (fun j => x.after.toList.any fun e => Region.binds .any e && (e.on == j || memN j (W.getD e.on []))) = true) ∧
      (List.range i).all (fun j => memN j (W.getD i []) || match ops[j]? with | some y => y.apart ops x | none => false) = true) := by
    intro i x hx
    have := List.all_eq_true.1 h i (List.mem_range.2 (Array.getElem?_eq_some_iff.1 hx).1)
    rw [hx] at this
    simpa only [Bool.and_eq_true] using this
  refine ⟨fun i x hx e he hb => ?_, fun i x hx j hj => ?_, fun i j x y hx hy hji => ?_⟩
  · have := List.all_eq_true.1 (at' hx).1.1 e he
    simpa [hb] using this
  · have := List.all_eq_true.1 (at' hx).1.2 j hj
    rw [List.any_eq_true] at this
    obtain ⟨e, he, h1⟩ := this
    simp only [Bool.and_eq_true, Bool.or_eq_true, beq_iff_eq] at h1
    exact ⟨e, he, h1.1, h1.2⟩
  · have := List.all_eq_true.1 (at' hx).2 j (List.mem_range.2 hji)
    rw [hy] at this
    simpa only [Bool.or_eq_true] using this

def Cl (ops : Array Oper) (b : Nat → Bool) : Prop := ∀ (i : Nat) (x : Oper), ops[i]? = some x → b i = true → ∀ e ∈ x.after.toList, Region.binds .any e = true → b e.on = true

theorem waits_in {W : List (List Nat)} (ho : OrdOk ops W) (hc : Cl ops b) : ∀ (m i : Nat) (x : Oper), i ≤ m → ops[i]? = some x → b i = true → ∀ j ∈ W.getD i [], b j = true := by
  intro m
  induction m with
  | zero =>
    intro i x hi hx hb j hj
    obtain ⟨e, he, h1, h2⟩ := ho.wait i x hx j hj
    have := ho.edge i x hx e he h1
    omega
  | succ m ih =>
    intro i x hi hx hb j hj
    obtain ⟨e, he, h1, h2⟩ := ho.wait i x hx j hj
    have hlt := ho.edge i x hx e he h1
    have hbe := hc i x hx hb e he h1
    rcases h2 with rfl | h2
    · exact hbe
    · have : e.on < ops.size := Nat.lt_trans hlt (Array.getElem?_eq_some_iff.1 hx).1
      exact ih e.on _ (by omega) (Array.getElem?_eq_getElem this) hbe j (memN_iff'.1 h2)
where
  memN_iff' {n : Nat} : ∀ {l : List Nat}, memN n l = true ↔ n ∈ l
  | [] => by simp [memN]
  | m :: r => by
    simp only [memN]
    split
    · rename_i e; have : n = m := by simpa using e
      simp [this]
    · rename_i e; have : n ≠ m := by simpa using e
      rw [memN_iff']; simp [this]

theorem draw_step (htok : TyOk P T) {W : List (List Nat)} (ho : OrdOk ops W) {tm : List V} {es : List Ent} {S0 : Nat → Prop}
    (hat : ∀ (i : Nat) (x : Oper), ops[i]? = some x → ∃ e, es[i]? = some e ∧ At P T w0 ops (tmB (fun j => decide (j < i)) 0 tm es) (hpB (fun j => decide (j < i)) 0 hp es) x e)
    (hlen : es.length = ops.size) (hap : apartF W 0 (es.map (·.f)) = true) {i : Nat} (hx : ops[i]? = some x) (hbi : b i = false)
    (hpre : ∀ j ∈ W.getD i [], b j = true) (hsuc : ∀ j, i ∈ W.getD j [] → j < ops.size → b j = false) {Q : Exit → Act → World → Prop} {K : Act → World → Prop}
    (hK : ∀ φ S a w, SLe w0.Z S0 S → Inv T w0 φ S (tmB (fun j => if j = i then true else b j) 0 tm es) (hpB (fun j => if j = i then true else b j) 0 hp es) a w → K a w)
    (hS : SLe w0.Z S0 S) (hi : Inv T w0 φ S (tmB b 0 tm es) (hpB b 0 hp es) a w) : wpOp P ops Q i K a w := by
  obtain ⟨e, he, hA⟩ := hat i x hx
  have hin : i < ops.size := (Array.getElem?_eq_some_iff.1 hx).1
  have mem := @waits_in.memN_iff'
  -- another operation, and how it lies
  have other : ∀ (j : Nat) (f : Ent), es[j]? = some f → ∃ y, ops[j]? = some y ∧ At P T w0 ops (tmB (fun k => decide (k < j)) 0 tm es) (hpB (fun k => decide (k < j)) 0 hp es) y f := by
    intro j f hf
    have hj : j < ops.size := by rw [← hlen]; exact (List.getElem?_eq_some_iff.1 hf).1
    obtain ⟨f', h1, h2⟩ := hat j _ (Array.getElem?_eq_getElem hj)
    rw [hf] at h1; injection h1 with h1; subst h1
    exact ⟨_, Array.getElem?_eq_getElem hj, h2⟩
  have foot : ∀ (j : Nat) (f : Ent), es[j]? = some f → (es.map (·.f))[j]? = some f.f := fun j f hf => by rw [List.getElem?_map, hf]; rfl
  -- before it, and not listed
  have early : ∀ (j : Nat) (f : Ent) (y : Oper), es[j]? = some f → ops[j]? = some y → j < i → b j = false → y.apart ops x = true ∧ Free f.f e.f := by
    intro j f y hf hy hji hb
    have hn : memN j (W.getD i []) ≠ true := fun h => by rw [hpre j (mem.1 h)] at hb; cases hb
    refine ⟨(ho.apart i j x y hx hy hji).resolve_left hn, ?_⟩
    have := apartF_spec hap j i f.f e.f hji (foot j f hf) (foot i e he)
    simp only [Nat.zero_add] at this
    exact this.resolve_left hn
  -- behind it, and listed
  have late : ∀ (j : Nat) (f : Ent) (y : Oper), es[j]? = some f → ops[j]? = some y → i < j → b j = true → x.apart ops y = true ∧ Free e.f f.f := by
    intro j f y hf hy hij hb
    have hn : memN i (W.getD j []) ≠ true := fun h => by
      rw [hsuc j (mem.1 h) (Array.getElem?_eq_some_iff.1 hy).1] at hb; cases hb
    refine ⟨(ho.apart j i y x hy hx hij).resolve_left hn, ?_⟩
    have := apartF_spec hap i j e.f f.f hij (foot i e he) (foot j f hf)
    simp only [Nat.zero_add] at this
    exact this.resolve_left hn
  -- the slots that it looks at are as_ in the text's order
  have slot : ∀ t, t ∈ x.looksAt ops → (tmB b 0 tm es).getD t .dead = (tmB (fun j => decide (j < i)) 0 tm es).getD t .dead := by
    intro t ht
    refine tmB_congr rfl rfl (fun j f hf hd => ?_)
    simp only [Nat.zero_add]
    obtain ⟨y, hy, hAy⟩ := other j f hf
    have hyd : y.dst = some t := by rw [← hAy.1]; exact hd
    rcases Nat.lt_trichotomy j i with h | h | h
    · rw [decide_eq_true h]
      cases hb : b j with
      | true => rfl
      | false => exact absurd ht ((Oper.apart_spec (early j f y hf hy h hb).1).1 t hyd)
    · subst h
      rw [hbi]; simp
    · rw [decide_eq_false (by omega)]
      cases hb : b j with
      | false => rfl
      | true => exact absurd ht ((Oper.apart_spec (late j f y hf hy h hb).1).2.2 t hyd)
  -- so are the rows
  have row : ∀ n, (n ∈ e.f.rd ∨ n ∈ e.f.wr) → look (hpB (fun j => decide (j < i)) 0 hp es) n = look (hpB b 0 hp es) n := by
    intro n hn
    refine hpB_congr rfl (fun j f hf hd => ?_)
    simp only [Nat.zero_add]
    obtain ⟨y, hy, hAy⟩ := other j f hf
    have hw := wr_of hAy hd
    rcases Nat.lt_trichotomy j i with h | h | h
    · rw [decide_eq_true h]
      cases hb : b j with
      | true => rfl
      | false =>
        obtain ⟨g1, g2, g3⟩ := (early j f y hf hy h hb).2
        rcases hn with hn | hn
        · exact (meets_false g2 n hw hn).elim
        · exact (meets_false g1 n hw hn).elim
    · subst h
      rw [hbi]; simp
    · rw [decide_eq_false (by omega)]
      cases hb : b j with
      | false => rfl
      | true =>
        obtain ⟨g1, g2, g3⟩ := (late j f y hf hy h hb).2
        rcases hn with hn | hn
        · exact (meets_false g3 n hn hw).elim
        · exact (meets_false g1 n hn hw).elim
  have hev : ∀ o ∈ x.op.operands.toList, ev (tmB (fun j => decide (j < i)) 0 tm es) o = ev (tmB b 0 tm es) o := by
    intro o ho'
    cases o with
    | tmp t =>
      simp only [ev]
      refine (slot t ?_).symm
      unfold Oper.looksAt
      refine List.mem_append_left _ (List.mem_filterMap.2 ⟨.tmp t, ho', rfl⟩)
    | _ => rfl
  have hguard : ∀ {res}, GuardIs ops (tmB (fun j => decide (j < i)) 0 tm es) x res → GuardIs ops (tmB b 0 tm es) x res := by
    intro res hg
    unfold GuardIs at hg ⊢
    split at hg
    · exact hg
    · rename_i j want hgd
      obtain ⟨g, h1, h2⟩ := hg
      refine ⟨g, h1, ?_⟩
      rw [slot g ?_]
      · exact h2
      · unfold Oper.looksAt
        refine List.mem_append_right _ ?_
        rw [hgd]
        unfold guardT at h1
        simp [h1]
  -- what is told behind it
  have next : ∀ {φ S a w v E}, SLe w0.Z S0 S → e.v = v → e.E = E → Inv T w0 φ S (setD (tmB b 0 tm es) x.dst v) (E ++ hpB b 0 hp es) a w → K a w := by
    intro φ S a w v E hS hv hE hinv
    subst hv; subst hE
    refine hK φ S a w hS (hinv.congr (by rw [setD_length, tmB_length, tmB_length]) (fun t => ?_) (fun n => ?_))
    · rw [setD_get, tmB_length]
      split
      · rename_i hd
        refine (tmB_last he (by simp) (by rw [hA.1]; exact hd.1) hd.2 (fun j f hij hf hb => ?_)).symm
        simp only [Nat.zero_add] at hb
        rw [if_neg (by omega)] at hb
        obtain ⟨y, hy, hAy⟩ := other j f hf
        rw [hAy.1]
        exact (Oper.apart_spec (late j f y hf hy hij hb).1).2.1 t hd.1
      · rename_i hd
        by_cases hlt : t < tm.length
        · refine tmB_congr rfl rfl (fun j f hf hfd => ?_)
          simp only [Nat.zero_add]
          by_cases hji : j = i
          · subst hji
            rw [he] at hf; injection hf with hf; subst hf
            rw [hA.1] at hfd
            exact absurd ⟨hfd, hlt⟩ hd
          · rw [if_neg hji]
        · have e1 : ∀ (l : List V), l.length = tm.length → l.getD t .dead = .dead := fun l hl => by
            rw [List.getD_eq_getElem?_getD, List.getElem?_eq_none (by omega)]; rfl
          rw [e1 _ tmB_length, e1 _ tmB_length]
    · rw [look_app]
      cases hl : look e.E n with
      | some c =>
        refine (hpB_last he (by simp) hl (fun j f hij hf hb => ?_)).symm
        simp only [Nat.zero_add] at hb
        rw [if_neg (by omega)] at hb
        obtain ⟨y, hy, hAy⟩ := other j f hf
        cases hq : look f.E n with
        | none => rfl
        | some d =>
          exact (meets_false (late j f y hf hy hij hb).2.1 n (wr_of hA (by rw [hl]; simp)) (wr_of hAy (by rw [hq]; simp))).elim
      | none =>
        refine hpB_congr rfl (fun j f hf hfd => ?_)
        simp only [Nat.zero_add]
        by_cases hji : j = i
        · subst hji
          rw [he] at hf; injection hf with hf; subst hf
          exact absurd hl hfd
        · rw [if_neg hji]
  unfold wpOp
  rw [hx]
  simp only
  rcases hA.2 with ⟨g1, g2, g3⟩ | ⟨g1, g2, g3⟩
  · rw [wanted_of hi (hguard g1), if_pos rfl]
    have hfr : ∀ n, n ∈ e.f.rd ↔ ∃ o ∈ x.op.operands.toList, n ∈ names (ev (tmB (fun j => decide (j < i)) 0 tm es) o) := by
      intro n
      rw [g3]
      simp only [footOf, List.mem_flatten, List.mem_map]
      constructor
      · rintro ⟨l, ⟨o, h1, rfl⟩, h2⟩; exact ⟨o, h1, h2⟩
      · rintro ⟨o, h1, h2⟩; exact ⟨_, ⟨o, h1, rfl⟩, h2⟩
    have hres : Res P T (opF (real P T w0) T (tmB b 0 tm es) (hpB b 0 hp es) x) e.v e.E := by
      rw [← opF_tm hev]
      refine opF_congr (N := fun n => n ∈ e.f.rd ∨ n ∈ e.f.wr) row (fun o ho' n hn => .inl ((hfr n).2 ⟨o, ho', hn⟩)) (fun p hp => .inr ?_) g2
      rw [g3]
      exact List.mem_map.2 ⟨p, hp, rfl⟩
    refine .inl (opF_ok htok hi hres _ _ (fun xv w' hL => ?_))
    obtain ⟨φ', S', e1, e2⟩ := hL
    exact next (hS.trans e1.sle) rfl rfl (hi.step e1 e2)
  · rw [wanted_of hi (hguard g1), if_neg (by simp)]
    exact next (E := []) hS g2 g3 (hi.step (Ext.refl hi.since hi.heap) (by simp only [rel, relL]; exact ⟨#[], rfl, rfl⟩))

theorem draw_any (htok : TyOk P T) {W : List (List Nat)} (ho : OrdOk ops W) {tm : List V} {es : List Ent} {S0 : Nat → Prop} {Q : Exit → Act → World → Prop}
    (hat : ∀ (i : Nat) (x : Oper), ops[i]? = some x → ∃ e, es[i]? = some e ∧ At P T w0 ops (tmB (fun j => decide (j < i)) 0 tm es) (hpB (fun j => decide (j < i)) 0 hp es) x e)
    (hlen : es.length = ops.size) (hap : apartF W 0 (es.map (·.f)) = true)
    (hend : ∀ b φ S a w, (∀ j, j < ops.size → b j = true) → SLe w0.Z S0 S → Inv T w0 φ S (tmB b 0 tm es) (hpB b 0 hp es) a w → Q .normal a w) :
    ∀ (fuel : Nat) (listed : Array Bool) (φ : Nat → Option Loc) (S : Nat → Prop) (a : Act) (w : World), listed.size = ops.size → unl listed.toList ≤ fuel → Cl ops (fun j => listed.getD j false) → SLe w0.Z S0 S →
      Inv T w0 φ S (tmB (fun j => listed.getD j false) 0 tm es) (hpB (fun j => listed.getD j false) 0 hp es) a w → wpAny P .any ops Q fuel listed a w := by
  have mem := @waits_in.memN_iff'
  have gd : ∀ {l : Array Bool} {i : Nat} {d : Bool}, i < l.size → l.getD i d = l.getD i false := by
    intro l i d h
    simp [Array.getD, h]
  have rdy : ∀ {l : Array Bool} {i : Nat}, l.size = ops.size → (i ∈ Region.ready .any ops l ↔ ∃ x, ops[i]? = some x ∧ l.getD i false = false ∧ ∀ e ∈ x.after.toList, Region.binds .any e = true → l.getD e.on false = true) := by
    intro l i hl
    unfold Region.ready
    rw [List.mem_filter, List.mem_range]
    constructor
    · rintro ⟨h1, h2⟩
      simp only [Bool.and_eq_true, Bool.not_eq_true'] at h2
      rw [Array.getElem?_eq_getElem h1] at h2
      refine ⟨_, Array.getElem?_eq_getElem h1, by rw [← gd (d := true) (by omega)]; exact h2.1, fun e he hb => ?_⟩
      have := h2.2
      simp only [Option.map_some, Option.getD_some] at this
      rw [Array.all_eq_true'] at this
      have := this e (by simpa using he)
      simpa [hb] using this
    · rintro ⟨x, h1, h2, h3⟩
      have hi := (Array.getElem?_eq_some_iff.1 h1).1
      refine ⟨hi, ?_⟩
      rw [gd (d := true) (by omega), h2, h1]
      simp only [Bool.not_false, Bool.true_and, Option.map_some, Option.getD_some]
      rw [Array.all_eq_true']
      intro e he
      cases hb : Region.binds .any e with
      | false => rfl
      | true => simpa using h3 e (by simpa using he) hb
  have all : ∀ {l : Array Bool}, l.size = ops.size → Region.ready .any ops l = [] → ∀ j, j < ops.size → l.getD j false = true := by
    intro l hl hr j
    induction j using Nat.strongRecOn with
    | _ j ih =>
      intro hj
      cases hb : l.getD j false with
      | true => rfl
      | false =>
        exfalso
        have : j ∈ Region.ready .any ops l := (rdy hl).2 ⟨_, Array.getElem?_eq_getElem hj, hb, fun e he hbi => by
          have := ho.edge j _ (Array.getElem?_eq_getElem hj) e he hbi
          exact ih e.on this (by omega)⟩
        rw [hr] at this
        cases this
  intro fuel
  induction fuel with
  | zero =>
    intro listed φ S a w hl hf hc hS hi
    have hall : ∀ j, j < ops.size → listed.getD j false = true := fun j hj => by
      have h1 : listed.toList[j]? = some (listed.getD j false) := by
        rw [Array.getElem?_toList, Array.getElem?_eq_getElem (by omega)]
        simp [Array.getD, show j < listed.size from by omega]
      exact unl_zero (by omega) j _ h1
    refine ⟨?_, hend _ φ S a w hall hS hi⟩
    cases hr : Region.ready .any ops listed with
    | nil => rfl
    | cons i r =>
      have : i ∈ Region.ready .any ops listed := by rw [hr]; simp
      obtain ⟨x, h1, h2, _⟩ := (rdy hl).1 this
      rw [hall i (Array.getElem?_eq_some_iff.1 h1).1] at h2
      cases h2
  | succ fuel ih =>
    intro listed φ S a w hl hf hc hS hi
    refine ⟨fun hr => hend _ φ S a w (all hl hr) hS hi, fun i hir => ?_⟩
    obtain ⟨x, hx, hb, hpre⟩ := (rdy hl).1 hir
    have hin : i < ops.size := (Array.getElem?_eq_some_iff.1 hx).1
    have hset : ∀ j, (listed.setIfInBounds i true).getD j false = if j = i then true else listed.getD j false := by
      intro j
      simp only [Array.getD_eq_getD_getElem?, Array.getElem?_setIfInBounds]
      by_cases h : j = i
      · subst h
        simp [show j < listed.size from by omega]
      · rw [if_neg (fun e => h e.symm), if_neg h]
    refine draw_step htok ho hat hlen hap hx hb (fun j hj => ?_) (fun j hj hjn => ?_) (fun φ S a w hS hi => ?_) hS hi
    · obtain ⟨e, he, h1, h2⟩ := ho.wait i x hx j hj
      have hbe := hpre e he h1
      rcases h2 with rfl | h2
      · exact hbe
      · have : e.on < ops.size := Nat.lt_trans (ho.edge i x hx e he h1) hin
        exact waits_in ho hc e.on e.on _ (Nat.le_refl _) (Array.getElem?_eq_getElem this) hbe j (mem.1 h2)
    · cases hbj : listed.getD j false with
      | false => rfl
      | true =>
        have := waits_in ho hc j j _ (Nat.le_refl _) (Array.getElem?_eq_getElem hjn) hbj i hj
        rw [hb] at this
        cases this
    · refine ih _ φ S a w (by simp [hl]) ?_ ?_ hS ?_
      · have h1 : listed.toList[i]? = some false := by
          rw [Array.getElem?_toList, Array.getElem?_eq_getElem (by omega)]
          have := hb
          simp only [Array.getD, show i < listed.size from by omega, dif_pos] at this
          simpa using this
        have := unl_set h1
        simp only [Array.toList_setIfInBounds]
        omega
      · intro j y hy hbj e he hbe
        have hbj : (listed.setIfInBounds i true).getD j false = true := hbj
        show (listed.setIfInBounds i true).getD e.on false = true
        rw [hset] at hbj ⊢
        by_cases hji : j = i
        · subst hji
          rw [hx] at hy; injection hy with hy; subst hy
          have := hpre e he hbe
          split
          · rfl
          · exact this
        · rw [if_neg hji] at hbj
          have := hc j y hy hbj e he hbe
          split
          · rfl
          · exact this
      · rw [show (fun j => (listed.setIfInBounds i true).getD j false) = fun j => if j = i then true else listed.getD j false from funext hset]
        exact hi

theorem draw_ok (htok : TyOk P T) {W : List (List Nat)} (hord : ordOk ops W = true) {K : List V → Hp → Prop} {id : Nat} {tm : List V} (h : runOps (real P T w0) T ops W true K ops.toList [] [] tm hp) (hi : Inv T w0 φ S tm hp a w) :
    (Code.region id ops true).wp P (Post T w0 S fun e tm hp => e = .normal ∧ K tm hp) a w := by
  obtain ⟨es, tm', hp', as', h1, h2, h3, h4⟩ := trace_of h (fun p hp => by cases hp)
  have hap := h4 rfl
  simp only [List.reverse_nil, List.nil_append] at hap
  obtain ⟨t1, t2, t3⟩ := trace_at (k := 0) h1
  have hf : ∀ j, (Array.replicate ops.size false).getD j false = false := fun j => by
    simp only [Array.getD_eq_getD_getElem?, Array.getElem?_replicate]
    split <;> rfl
  refine wp_region_any htok.mixed (draw_any (w0 := w0) (S0 := S) htok (ordOk_spec hord) (es := es) (tm := tm) (hp := hp) (fun i x hx => ?_) (by simpa using t1) hap (fun b φ' S' a' w' hb hS hi' => ?_) ops.size _ φ S a _ (by simp) ?_ (fun i x hx hb => ?_) SLe.refl ?_)
  · obtain ⟨e, e1, e2⟩ := t2 i x (by simpa using hx)
    exact ⟨e, e1, by simpa using e2⟩
  · obtain ⟨k1, k2⟩ := t3 b (fun j hj => by rw [Nat.zero_add]; exact hb j (by simpa using hj))
    rw [← k1, ← k2] at hi'
    exact ⟨φ', S', _, _, hS, hi'.retell h2, ⟨rfl, h3⟩, trivial⟩
  · have : ∀ n, unl (List.replicate n false) = n := fun n => by
      induction n with
      | zero => rfl
      | succ n ih => simp [List.replicate_succ, unl, ih, Nat.add_comm]
    simp [this]
  · simp only [hf] at hb; cases hb
  · rw [show (fun j => (Array.replicate ops.size false).getD j false) = fun _ => false from funext hf, tmB_none (fun _ _ => rfl), hpB_none (fun _ _ => rfl)]
    exact ⟨hi.since.drew, hi.size, fun t => rel_mono (w := w) (w' := w.drew) (S := S) (S' := S) (LocLe.refl φ) (fun _ _ => rfl) (fun _ h => h) _ _ (hi.tms t), hi.dfr, hi.heap.drew, hi.anc⟩
end
end Go.Ab
end
section
/- Code: what the calculus asks is enough. No statement of its own. -/

namespace Go.Ab
open Go.RowKit

section
variable {P : Program} {T : Tr} {w0 : Base} {φ φ' φ2 : Nat → Option Loc} {w w' : World} {S S' S2 : Nat → Prop} {v : V} {hp : Hp} {b0 : Nat → Prop} {x : Oper} {a : Act} {ops : Array Oper}

theorem region_ok (htok : TyOk P T) {W : List (List Nat)} {K : List V → Hp → Prop} {id : Nat} {draw : Bool} {tm : List V} (hord : draw = true → ordOk ops W = true) (h : runOps (real P T w0) T ops W draw K ops.toList [] [] tm hp) (hi : Inv T w0 φ S tm hp a w) :
    (Code.region id ops draw).wp P (Post T w0 S fun e tm hp => e = .normal ∧ K tm hp) a w := by
  cases draw with
  | true => exact draw_ok htok (hord rfl) h hi
  | false =>
    obtain ⟨es, tm', hp', as', h1, h2, h3, _⟩ := trace_of h (fun p hp => by cases hp)
    refine wp_region ?_
    have := seq_ok (k := 0) (S0 := S) (Q := Post T w0 S fun e tm hp => e = .normal ∧ K tm hp) htok h1 (fun j => by simp) (fun φ' S' a' w' hS hi' => ⟨φ', S', _, _, hS, hi'.retell h2, ⟨rfl, h3⟩, trivial⟩) SLe.refl hi
    rwa [Array.length_toList, ← List.range_eq_range'] at this

def codeOk (W : Nat → List (List Nat)) : Code → Bool
  | .region id ops draw => match draw with
    | true => ordOk ops (W id)
    | false => true
  | .seq x y => codeOk W x && codeOk W y
  | .cond _ x y => codeOk W x && codeOk W y
  | .block _ x => codeOk W x
  | .loop x => codeOk W x
  | _ => true

theorem Post.weaken {S0 S1 : Nat → Prop} {K K' : Exit → List V → Hp → Prop} {e : Exit} (h : Post T w0 S1 K e a w) (hS : SLe w0.Z S0 S1) (hK : ∀ tm hp, K e tm hp → K' e tm hp) : Post T w0 S0 K' e a w := by
  obtain ⟨φ, S, tm, hp, h1, h2, h3, h4⟩ := h
  exact ⟨φ, S, tm, hp, hS.trans h1, h2, hK _ _ h3, h4⟩

theorem vc_ok (htok : TyOk P T) {W : Nat → List (List Nat)} : ∀ (c : Code) {K : Exit → List V → Hp → Prop} {tm : List V} {hp : Hp}, codeOk W c = true → vc (real P T w0) T W c K tm hp → Sat P T w0 c K tm hp
  | .skip, K, tm, hp, ho, h => fun φ S a w hi => wp_skip ⟨φ, S, tm, hp, SLe.refl, hi, h, trivial⟩
  | .region id ops draw, K, tm, hp, ho, h => fun φ S a w hi =>
    wp_mono (region_ok htok (fun hd => by subst hd; exact ho) h hi) (fun e a w hp => hp.weaken SLe.refl (fun tm hp hk => by obtain ⟨rfl, hk⟩ := hk; exact hk))
  | .seq x y, K, tm, hp, ho, h => fun φ S a w hi => by
    simp only [codeOk, Bool.and_eq_true] at ho
    simp only [vc] at h
    split at h
    · exact h φ S a w hi
    · refine wp_seq (wp_mono (vc_ok htok x ho.1 h φ S a w hi) (fun e a' w' hp => ?_))
      obtain ⟨φ', S', tm', hp', h1, h2, h3, h4⟩ := hp
      cases e with
      | normal => exact wp_mono (vc_ok htok y ho.2 h3 φ' S' a' w' h2) (fun e a w hp => hp.weaken h1 (fun _ _ h => h))
      | exit i => exact ⟨φ', S', tm', hp', h1, h2, h3, h4⟩
      | ret => exact ⟨φ', S', tm', hp', h1, h2, h3, h4⟩
      | _ => exact h4.elim
  | .cond c x y, K, tm, hp, ho, h => fun φ S a w hi => by
    simp only [codeOk, Bool.and_eq_true] at ho
    have hr := ev_rel hi c
    simp only [vc] at h
    split at h
    · rename_i e
      exact wp_cond_true (asB_lit e hr) (vc_ok htok x ho.1 h φ S a w hi)
    · rename_i e
      exact wp_cond_false (asB_lit e hr) (vc_ok htok y ho.2 h φ S a w hi)
    · rename_i cb e
      have tell : ∀ {b}, cb = b → Inv T w0 φ S (condT tm c b) hp a w := by
        intro b hb
        subst hb
        cases c with
        | tmp t => exact hi.retell1 (by simp only [ev] at e; rw [e]; rfl)
        | _ => exact hi
      refine wp_cond_split (asB_sym e hr) (fun hb => ?_) (fun hb => ?_)
      · exact vc_ok htok x ho.1 (h.1 hb) φ S a w (tell hb)
      · exact vc_ok htok y ho.2 (h.2 hb) φ S a w (tell hb)
    · split at h
      · rename_i g es e
        have hq := hr
        rw [e] at hq
        simp only [rel] at hq
        obtain ⟨bb, hx, hbg⟩ := hq
        have tell : ∀ {b}, bb = b → Inv T w0 φ S (condT tm c b) hp a w := by
          intro b hb
          subst hb
          cases c with
          | tmp t =>
            refine ⟨hi.since, by simp [condT, hi.size], fun u => ?_, hi.dfr, hi.heap, hi.anc⟩
            simp only [condT]
            rw [getD_set]
            split
            · rename_i hu
              rw [← hu.1]
              have hx' : a.tmps.getD t undef = .bool bb := hx
              rw [hx']
              exact rel_sb bb
            · exact hi.tms u
          | _ => exact hi
        cases g with
        | true =>
          refine wp_cond_split hx (fun hb => ?_) (fun hb => ?_)
          · exact vc_ok htok x ho.1 (h.1 (hbg hb)) φ S a w (tell hb)
          · exact vc_ok htok y ho.2 h.2 φ S a w (tell hb)
        | false =>
          refine wp_cond_split hx (fun hb => ?_) (fun hb => ?_)
          · exact vc_ok htok x ho.1 h.2 φ S a w (tell hb)
          · exact vc_ok htok y ho.2 (h.1 (hbg hb)) φ S a w (tell hb)
      · exact h.elim
  | .block id b, K, tm, hp, ho, h => fun φ S a w hi => by
    refine wp_block (wp_mono (vc_ok htok b ho h φ S a w hi) (fun e a' w' hp => ?_))
    obtain ⟨φ', S', tm', hp', h1, h2, h3, h4⟩ := hp
    cases e with
    | normal => exact ⟨φ', S', tm', hp', h1, h2, h3, h4⟩
    | exit i =>
      simp only at h3
      simp only [Exit.inBlock]
      split at h3
      · rename_i e
        rw [if_pos (by simpa using e)]
        exact ⟨φ', S', tm', hp', h1, h2, h3, trivial⟩
      · rename_i e
        rw [if_neg (by simpa using e)]
        exact ⟨φ', S', tm', hp', h1, h2, h3, trivial⟩
    | ret => exact ⟨φ', S', tm', hp', h1, h2, h3, h4⟩
    | _ => exact h4.elim
  | .loop b, K, tm, hp, _, h => h
  | .exit id, K, tm, hp, ho, h => fun φ S a w hi => wp_exit ⟨φ, S, tm, hp, SLe.refl, hi, h, trivial⟩
  | .ret, K, tm, hp, ho, h => fun φ S a w hi => wp_ret ⟨φ, S, tm, hp, SLe.refl, hi, h, trivial⟩
  | .label _, _, _, _, _, h => h.elim
  | .rangeFunc _ _ _ _, _, _, _, _, h => h.elim
  | .scope _, _, _, _, _, h => h.elim
  | .goto _, _, _, _, _, h => h.elim
  | .refuse _, _, _, _, _, h => h.elim
end
end Go.Ab
end
section
/- Functions: what the calculus asks of a body is enough for its answer. No statement of its own. -/

namespace Go.Ab
open Go.RowKit

section
variable {P : Program} {T : Tr} {w0 : Base} {φ φ' φ2 : Nat → Option Loc} {w w' : World} {S S' S2 : Nat → Prop} {v : V} {hp : Hp} {b0 : Nat → Prop} {x : Value} {a : Act} {ops : Array Oper}

structure Held (T : Tr) (φ φ' : Nat → Option Loc) (b0 : Nat → Prop) (w : World) (S : Nat → Prop) (hp h : Hp) : Prop where
  left : HOk T φ b0 w S hp
  gave : HOk T φ' b0 w S h
  apart : ∀ n m b c l k B, look hp n = some b → look h m = some c → b.own = true → c.own = true → φ n = some l → φ' m = some k → l.blk = some B → k.blk ≠ some B

theorem Held.nil (hh : HOk T φ b0 w S hp) : Held T φ (fun _ => none) b0 w S hp [] :=
  ⟨hh, ⟨fun n => (by simp [look]), fun n b h => (by cases h), fun n b l B h => (by cases h), fun n m b c l k B h => (by cases h), hh.old⟩, fun n m b c l k B _ h => (by cases h)⟩

theorem HOk.moreS {h : Hp} (hh : HOk T φ b0 w S h) (hS : ∀ k, S k → S' k) (hold : ∀ k, S' k → k < w.heap.size) (hown : ∀ n b l B, look h n = some b → b.own = true → φ n = some l → l.blk = some B → ¬ S' B) : HOk T φ b0 w S' h :=
  ⟨hh.dom, fun n b hb => (hh.blk n b hb).mono (LocLe.refl _) (fun _ _ => rfl) hS (fun _ _ _ _ _ => rfl), fun n b l B hb ho hl hB => ⟨(hh.own n b l B hb ho hl hB).1, (hh.own n b l B hb ho hl hB).2.1, hown n b l B hb ho hl hB⟩, hh.inj, hold⟩

theorem Held.freeze {h : Hp} {n et : Nat} {es : List V} (k : Held T φ φ' b0 w S hp h) (hl : look hp n = some (.row et es)) : ∃ S', SLe b0 S S' ∧ Held T φ φ' b0 w S' ((n, .ro et es) :: hp) h := by
  obtain ⟨S', s1, s2, s3⟩ := k.left.freeze hl
  refine ⟨S', ⟨s1, fun i hi => (s3 i hi).imp (fun h => h) (fun ⟨l, h1, h2⟩ => (k.left.own n _ l i hl rfl h1 h2).1)⟩, s2, k.gave.moreS s1 s2.old (fun m b l B hb ho hl' hB hS => ?_), fun m m' b c l l' B hm hm' hb hc hl1 hl2 hB1 hB2 => ?_⟩
  · rcases s3 B hS with hS | ⟨l', h1, h2⟩
    · exact (k.gave.own m b l B hb ho hl' hB).2.2 hS
    · exact k.apart n m _ b l' l B hl hb rfl ho h1 hl' h2 hB
  · rw [look_cons] at hm
    split at hm
    · injection hm with hm; subst hm; cases hb
    · exact k.apart m m' b c l l' B hm hm' hb hc hl1 hl2 hB1 hB2

theorem Held.give {h : Hp} {n et q : Nat} {es : List V} (k : Held T φ φ' b0 w S hp h) (hl : look hp n = some (.row et es)) (hq : look h q = none) : ∃ φ2, LocLe φ' φ2 ∧ φ2 q = φ n ∧ Held T φ φ2 b0 w S ((n, .gone) :: hp) ((q, .row et es) :: h) := by
  have hφq : φ' q = none := (k.gave.dom q).2 hq
  have hne : φ n ≠ none := fun e => by rw [(k.left.dom n).1 e] at hl; cases hl
  obtain ⟨l, hφ⟩ := Option.ne_none_iff_exists'.1 hne
  have hself : upd φ' q l q = some l := upd_self
  refine ⟨upd φ' q l, upd_le hφq, by rw [hself, hφ], k.left.drop hl rfl trivial, ?_, fun m m' b c l1 l2 B hm hm' hb hc hl1 hl2 hB1 hB2 => ?_⟩
  · refine k.gave.cons (upd_le hφq) (fun m hm => upd_ne hm) (by rw [hself]; simp) (fun _ _ => rfl) (fun _ h => h) (fun m c l' B hm hc hc2 hl' hB => ⟨rfl, (k.gave.own m c l' B hc hc2 hl' hB).2.2⟩) (Nat.le_refl _) ?_ (fun _ l' B hl' hB => ?_) k.gave.old
    · obtain ⟨hw, e, he, hz, hb⟩ := k.left.blk n _ hl
      refine ⟨hw, e, he, hz, ?_⟩
      rcases hb with ⟨B, off, room, arr, h1, h2, h3, h4, h5, h6⟩ | ⟨h1, h2⟩
      · refine .inl ⟨B, off, room, arr, by rw [hself, ← hφ]; exact h1, h2, h3, h4, h5, fun j c hj => ?_⟩
        obtain ⟨y, y1, y2⟩ := h6 j c hj
        exact ⟨y, wt_free c et y (wtL_iff.1 hw c (List.mem_of_getElem? hj)) y1, y2⟩
      · exact .inr ⟨by rw [hself, ← hφ]; exact h1, h2⟩
    · rw [hself] at hl'; injection hl' with hl'; subst hl'
      obtain ⟨o1, o2, o3⟩ := k.left.own n _ l B hl rfl hφ hB
      exact ⟨o1, o2, o3, fun m c l2 hm hc hc2 hl2 hB2 => k.apart n m _ c l l2 B hl hc rfl hc2 hφ hl2 hB hB2⟩
  · rw [look_cons] at hm hm'
    split at hm
    · injection hm with hm; subst hm; cases hb
    · rename_i hnm
      split at hm'
      · rename_i hqm
        subst hqm
        injection hm' with hm'; subst hm'
        rw [hself] at hl2; injection hl2 with hl2; subst hl2
        exact hnm (k.left.inj m n b _ l1 l B hm hl hb rfl hl1 hφ hB1 hB2).symm
      · rename_i hqm
        rw [upd_ne (fun e => hqm e.symm)] at hl2
        exact k.apart m m' b c l1 l2 B hm hm' hb hc hl1 hl2 hB1 hB2

def Below' (k : Nat) (h : Hp) : Prop := ∀ n, k ≤ n → look h n = none

theorem closeS_ok {k : Nat} {h E h' : Hp} {v' : V} (hd : Held T φ φ' b0 w S hp h) (hk : Below' k h) (hr : rel T φ w S v x) (hc : closeS (real P T w0) k hp v = some (v', E, h')) :
    ∃ φ2 S2, LocLe φ' φ2 ∧ SLe b0 S S2 ∧ Held T φ φ2 b0 w S2 (E ++ hp) (h' ++ h) ∧ Below' (k + h'.length) (h' ++ h) ∧ rel T φ2 w S2 v' x := by
  have same : ∀ {v'}, (∀ ψ : Nat → Option Loc, rel T ψ w S v' x) → ∃ φ2 S2, LocLe φ' φ2 ∧ SLe b0 S S2 ∧ Held T φ φ2 b0 w S2 hp h ∧ Below' k h ∧ rel T φ2 w S2 v' x :=
    fun h => ⟨φ', S, LocLe.refl _, SLe.refl, hd, hk, h φ'⟩
  have free : ∀ {et es}, rel T φ w S (.sl et es) x → ∀ ψ : Nat → Option Loc, rel T ψ w S (.sl et es) x := by
    intro et es hr ψ
    simp only [rel] at hr ⊢
    obtain ⟨A, cap, h1, h2, h3, h5, h6⟩ := hr
    refine ⟨A, cap, h1, h2, h3, h5, fun hne => ?_⟩
    obtain ⟨ad, e, ha, hl, hz, hs, he⟩ := h6 hne
    exact ⟨ad, e, ha, hl, hz, hs, wtL_free es et 0 ad e.size h5 he⟩
  cases v with
  | row n =>
    simp only [closeS] at hc
    split at hc
    · rename_i et es hl
      injection hc with hc; injection hc with e1 hc; injection hc with e2 e3
      subst e1; subst e2; subst e3
      obtain ⟨φ2, l1, l2, l3⟩ := hd.give hl (hk k (Nat.le_refl _))
      refine ⟨φ2, S, l1, SLe.refl, l3, fun n hn => ?_, ?_⟩
      · simp only [List.length_singleton] at hn
        rw [List.singleton_append, look_cons, if_neg (by omega)]
        exact hk n (by omega)
      · simp only [rel] at hr ⊢
        rw [l2]
        exact hr
    · rename_i et es hl
      injection hc with hc; injection hc with e1 hc; injection hc with e2 e3
      subst e1; subst e2; subst e3
      obtain ⟨hw, e, he, hz, hb⟩ := ro_form hd.left hl
      exact same (free (row_sl he hz hw (ro_S hd.left hl) hb hr))
    · cases hc
  | rowp n lo ln =>
    simp only [closeS] at hc
    have go : ∀ {hp : Hp} {S : Nat → Prop} {et es}, HOk T φ b0 w S hp → look hp n = some (.ro et es) → rel T φ w S (.rowp n lo ln) x → rel T φ w S (.sl et ((real P T w0).sub es lo ((real P T w0).pl lo ln))) x := by
      intro hp S et es hh hl hr
      have := expS_ok (P := P) (w0 := w0) hh hr
      simp only [expS, hl] at this
      refine rel_mono (LocLe.refl _) (fun _ _ => rfl) (fun i hi => ?_) _ _ this
      rcases hi with hi | ⟨n', hn', l, h1, h2⟩
      · exact hi
      · simp only [rowsS, List.mem_singleton] at hn'
        subst hn'
        exact ro_S hh hl l i h1 h2
    split at hc
    · rename_i et es hl
      injection hc with hc; injection hc with e1 hc; injection hc with e2 e3
      subst e1; subst e2; subst e3
      obtain ⟨S2, s1, s2⟩ := hd.freeze hl
      refine ⟨φ', S2, LocLe.refl _, s1, s2, hk, ?_⟩
      have hr2 := rel_mono (LocLe.refl φ) (fun _ _ => rfl) s1.1 _ _ hr
      have := go s2.left (by rw [look_cons, if_pos rfl]) hr2
      simp only [rel] at this ⊢
      obtain ⟨A, cap, h1, h2, h3, h5, h6⟩ := this
      refine ⟨A, cap, h1, h2, h3, h5, fun hne => ?_⟩
      obtain ⟨ad, e, ha, hl, hz, hs, he⟩ := h6 hne
      exact ⟨ad, e, ha, hl, hz, hs, wtL_free _ et 0 ad e.size h5 he⟩
    · rename_i et es hl
      injection hc with hc; injection hc with e1 hc; injection hc with e2 e3
      subst e1; subst e2; subst e3
      exact same (free (go hd.left hl hr))
    · cases hc
  | ptr _ _ => cases hc
  | ep _ _ _ => cases hc
  | rp _ _ _ _ => cases hc
  | agg _ => cases hc
  | tup _ => cases hc
  | fn _ _ _ => cases hc
  | s _ => simp only [closeS] at hc; injection hc with hc; injection hc with e1 hc; injection hc with e2 e3; subst e1; subst e2; subst e3; exact same (fun ψ => by simpa only [rel] using hr)
  | i _ _ => simp only [closeS] at hc; injection hc with hc; injection hc with e1 hc; injection hc with e2 e3; subst e1; subst e2; subst e3; exact same (fun ψ => by simpa only [rel] using hr)
  | b _ => simp only [closeS] at hc; injection hc with hc; injection hc with e1 hc; injection hc with e2 e3; subst e1; subst e2; subst e3; exact same (fun ψ => by simpa only [rel] using hr)
  | str _ => simp only [closeS] at hc; injection hc with hc; injection hc with e1 hc; injection hc with e2 e3; subst e1; subst e2; subst e3; exact same (fun ψ => by simpa only [rel] using hr)
  | nil => simp only [closeS] at hc; injection hc with hc; injection hc with e1 hc; injection hc with e2 e3; subst e1; subst e2; subst e3; exact same (fun ψ => by simpa only [rel] using hr)
  | nlq _ _ => cases hc
  | dead => simp only [closeS] at hc; injection hc with hc; injection hc with e1 hc; injection hc with e2 e3; subst e1; subst e2; subst e3; exact same (fun ψ => by simp only [rel])
  | sl et es => simp only [closeS] at hc; injection hc with hc; injection hc with e1 hc; injection hc with e2 e3; subst e1; subst e2; subst e3; exact same (free hr)

theorem closeL_ok : ∀ {vs : List V} {k : Nat} {hp h E h' : Hp} {vs' : List V} {xs : List Value} {φ' : Nat → Option Loc} {S : Nat → Prop}, Held T φ φ' b0 w S hp h → Below' k h → relL T φ w S vs xs → closeL (real P T w0) k hp vs = some (vs', E, h') →
    ∃ φ2 S2, LocLe φ' φ2 ∧ SLe b0 S S2 ∧ Held T φ φ2 b0 w S2 (E ++ hp) (h' ++ h) ∧ Below' (k + h'.length) (h' ++ h) ∧ relL T φ2 w S2 vs' xs
  | [], k, hp, h, E, h', vs', xs, φ', S, hd, hk, hr, hc => by
    simp only [closeL] at hc
    injection hc with hc; injection hc with e1 hc; injection hc with e2 e3
    subst e1; subst e2; subst e3
    exact ⟨φ', S, LocLe.refl _, SLe.refl, hd, hk, by simpa only [relL] using hr⟩
  | v :: r, k, hp, h, E, h', vs', xs, φ', S, hd, hk, hr, hc => by
    simp only [closeL] at hc
    split at hc
    · rename_i v1 E1 h1 hv
      split at hc
      · rename_i r2 E2 h2 hq
        injection hc with hc; injection hc with e1 hc; injection hc with e2 e3
        subst e1; subst e2; subst e3
        simp only [relL] at hr
        obtain ⟨x, xs', rfl, k1, k2⟩ := hr
        obtain ⟨φ2, S2, a1, a2, a3, a4, a5⟩ := closeS_ok hd hk k1 hv
        obtain ⟨φ3, S3, b1, b2, b3, b4, b5⟩ := closeL_ok a3 a4 (relL_mono (LocLe.refl _) (fun _ _ => rfl) a2.1 _ _ k2) hq
        refine ⟨φ3, S3, a1.trans b1, a2.trans b2, by rw [List.append_assoc, List.append_assoc]; exact b3, ?_, ?_⟩
        · rw [List.append_assoc, List.length_append, Nat.add_comm h2.length, ← Nat.add_assoc]; exact b4
        · simp only [relL]
          exact ⟨x, xs', rfl, rel_mono b1 (fun _ _ => rfl) b2.1 _ _ a5, b5⟩
      · cases hc
    · cases hc

theorem close1_ok {k : Nat} {h E h' : Hp} {v' : V} (hd : Held T φ φ' b0 w S hp h) (hk : Below' k h) (hr : rel T φ w S v x) (hc : close1 (real P T w0) k hp v = some (v', E, h')) :
    ∃ φ2 S2, LocLe φ' φ2 ∧ SLe b0 S S2 ∧ Held T φ φ2 b0 w S2 (E ++ hp) (h' ++ h) ∧ Below' (k + h'.length) (h' ++ h) ∧ rel T φ2 w S2 v' x := by
  unfold close1 at hc
  split at hc
  · rename_i cs
    split at hc
    · rename_i cs' E1 h1 hv
      injection hc with hc; injection hc with e1 hc; injection hc with e2 e3
      subst e1; subst e2; subst e3
      simp only [rel] at hr
      obtain ⟨a, rfl, k1, k2⟩ := hr
      obtain ⟨φ2, S2, a1, a2, a3, a4, a5⟩ := closeL_ok hd hk k1 hv
      refine ⟨φ2, S2, a1, a2, a3, a4, ?_⟩
      simp only [rel]
      exact ⟨a, rfl, a5, k2⟩
    · cases hc
  · exact closeS_ok hd hk hr hc

theorem close1L_ok : ∀ {vs : List V} {k : Nat} {hp h E h' : Hp} {vs' : List V} {xs : List Value} {φ' : Nat → Option Loc} {S : Nat → Prop}, Held T φ φ' b0 w S hp h → Below' k h → relL T φ w S vs xs → close1L (real P T w0) k hp vs = some (vs', E, h') →
    ∃ φ2 S2, LocLe φ' φ2 ∧ SLe b0 S S2 ∧ Held T φ φ2 b0 w S2 (E ++ hp) (h' ++ h) ∧ Below' (k + h'.length) (h' ++ h) ∧ relL T φ2 w S2 vs' xs
  | [], k, hp, h, E, h', vs', xs, φ', S, hd, hk, hr, hc => by
    simp only [close1L] at hc
    injection hc with hc; injection hc with e1 hc; injection hc with e2 e3
    subst e1; subst e2; subst e3
    exact ⟨φ', S, LocLe.refl _, SLe.refl, hd, hk, by simpa only [relL] using hr⟩
  | v :: r, k, hp, h, E, h', vs', xs, φ', S, hd, hk, hr, hc => by
    simp only [close1L] at hc
    split at hc
    · rename_i v1 E1 h1 hv
      split at hc
      · rename_i r2 E2 h2 hq
        injection hc with hc; injection hc with e1 hc; injection hc with e2 e3
        subst e1; subst e2; subst e3
        simp only [relL] at hr
        obtain ⟨x, xs', rfl, k1, k2⟩ := hr
        obtain ⟨φ2, S2, a1, a2, a3, a4, a5⟩ := close1_ok hd hk k1 hv
        obtain ⟨φ3, S3, b1, b2, b3, b4, b5⟩ := close1L_ok a3 a4 (relL_mono (LocLe.refl _) (fun _ _ => rfl) a2.1 _ _ k2) hq
        refine ⟨φ3, S3, a1.trans b1, a2.trans b2, by rw [List.append_assoc, List.append_assoc]; exact b3, ?_, ?_⟩
        · rw [List.append_assoc, List.length_append, Nat.add_comm h2.length, ← Nat.add_assoc]; exact b4
        · simp only [relL]
          exact ⟨x, xs', rfl, rel_mono b1 (fun _ _ => rfl) b2.1 _ _ a5, b5⟩
      · cases hc
    · cases hc
end
end Go.Ab
end
section
/- Functions: what the calculus asks of a body is enough for its answer; loops. No statement of its own. -/

namespace Go.Ab
open Go.RowKit

section
variable {P : Program} {T : Tr} {w0 : Base} {φ φ' φ2 : Nat → Option Loc} {w w' : World} {S S' S2 : Nat → Prop} {v : V} {hp : Hp} {b0 : Nat → Prop} {x : Value} {a : Act} {ops : Array Oper}

def resM (tmps : Array Value) : ResultVar → Sem Value
  | .tmp t => pure (tmps.getD t undef)
  | .cell c t => do loadVar t (← asAddr (tmps.getD c undef))

theorem resL_ok (htok : TyOk P T) {tm : List V} (hi : Inv T w0 φ S tm hp a w) : ∀ {rs : List ResultVar} {vs : List V}, resL (real P T w0) T tm hp rs = some vs →
    ∃ xs : List Value, (rs.mapM (resM a.tmps)).run P w = .ok xs w ∧ relL T φ w S vs xs
  | [], vs, h => by
    simp only [resL, Option.some.injEq] at h
    subst h
    exact ⟨[], by simp, by simp [relL]⟩
  | .tmp t :: r, vs, h => by
    simp only [resL] at h
    split at h
    · rename_i l hl
      injection h with h; subst h
      obtain ⟨xs, h1, h2⟩ := resL_ok htok hi hl
      refine ⟨a.tmps.getD t undef :: xs, by simp [List.mapM_cons, h1, resM], ?_⟩
      simp only [relL]
      exact ⟨_, xs, rfl, hi.tms t, h2⟩
    · cases h
  | .cell c t :: r, vs, h => by
    simp only [resL] at h
    split at h
    · rename_i v E l hv hl
      injection h with h; subst h
      obtain ⟨xs, h1, h2⟩ := resL_ok htok hi hl
      have hres : Res P T (loadF (real P T w0) T hp t (tm.getD c .dead)) v E := by rw [hv]; exact .ok
      obtain ⟨_, xv, k1, k2⟩ := loadF_ok htok hi.heap hres (hi.tms c)
      have : ∃ ad, a.tmps.getD c undef = .pointer (some ad) := by
        have hr := hi.tms c
        have hv' := hv
        unfold loadF at hv'
        split at hv'
        · cases hv'
        · generalize tm.getD c .dead = p at hr hv'
          cases p with
          | ptr n off => simp only [rel] at hr; obtain ⟨B, _, e⟩ := hr; exact ⟨_, e⟩
          | ep n i j => simp only [rel] at hr; obtain ⟨B, off, len, room, sz, _, _, _, e⟩ := hr; exact ⟨_, e⟩
          | rp u es i j => simp only [rel] at hr; obtain ⟨ad, e, _, _, _, _, _, _, _, e⟩ := hr; exact ⟨_, e⟩
          | _ => cases hv'
      obtain ⟨ad, hA⟩ := this
      rw [hA] at k1
      refine ⟨xv :: xs, ?_, ?_⟩
      · rw [List.mapM_cons]
        have k2' : (resM a.tmps (.cell c t)).run P w = .ok xv w := by
          simp only [resM, hA]
          simpa [asAddr, Instr.loadAt, Instr.sureAddr] using k1
        simp [Sem.run_bind, k2', h1, Result.andThen]
      · simp only [relL]
        exact ⟨_, xs, rfl, k2, h2⟩
    · cases h

theorem results_ok (htok : TyOk P T) {fn : Func} {tm : List V} (hi : Inv T w0 φ S tm hp a w) {K : V → Hp → Prop} (h : retF (real P T w0) T fn.results.toList K tm hp) :
    ∃ x v φ' S' post, (results fn a.tmps).run P w = .ok x w ∧ SLe w0.Z S S' ∧ HOk T φ' w0.Z w S' post ∧ rel T φ' w S' v x ∧ K v post := by
  unfold retF at h
  split at h
  · rename_i vs hvs
    split at h
    · rename_i vs' E h' hcl
      obtain ⟨xs, h1, h2⟩ := resL_ok htok hi hvs
      obtain ⟨φ2, S2, a1, a2, a3, a4, a5⟩ := close1L_ok (Held.nil hi.heap) (fun n _ => rfl) h2 hcl
      have hlen := (relL_iff.1 a5).1
      refine ⟨if hx : xs.toArray.size = 1 then xs.toArray[0] else .tuple xs.toArray, normR (oneOf vs'), φ2, S2, h', ?_, a2, by simpa using a3.gave, ?_, h⟩
      · have hm : (fn.results.mapM (resM a.tmps)).run P w = .ok xs.toArray w := by
          rw [← Array.toArray_toList (xs := fn.results), List.mapM_toArray]
          simp [h1]
        show (do let vs ← fn.results.mapM (resM a.tmps); pure (if h : vs.size = 1 then vs[0] else .tuple vs) : Sem Value).run P w = _
        rw [Sem.run_bind, hm]
        simp [Result.andThen]
      · refine normR_rel ?_
        unfold oneOf
        split
        · rename_i v
          simp only [relL] at a5
          obtain ⟨y, ys, e1, e2, e3⟩ := a5
          subst e3; subst e1
          simpa using e2
        · rename_i hne
          rw [dif_neg (fun e => by
            simp only [List.size_toArray] at e
            rw [← hlen] at e
            match vs', e with
            | [v], _ => exact hne v rfl)]
          simp only [rel]
          exact ⟨_, rfl, by simpa using a5⟩
    · exact h.elim
  · exact h.elim

theorem fn_of_vc (htok : TyOk P T) {f : Nat} {fn : Func} {c : Code} {W : Nat → List (List Nat)} {args : List V} {res : V} {post : Hp} (hf : P.funcs[f]? = some fn) (hname : (fn.name == "runtime.NumGoroutine") = false) (hb : fn.body = some c) (hok : codeOk W c = true)
    (h : ∀ w : World, vc (real P T (.of w)) T W c (retK (real P T (.of w)) T fn.results.toList fun v h => v = res ∧ h = post) (args ++ List.replicate (fn.ntmps - args.length) .dead) []) : Fn P T f args res post := by
  refine ⟨⟨fn, c, hf, hname, hb⟩, fun w S vals hold hr => ?_⟩
  have hlen := (relL_iff.1 hr).1
  refine calls_of_wp hf hb ?_
  have hi : Inv T (.of w) (fun _ => none) S (args ++ List.replicate (fn.ntmps - args.length) .dead) [] { tmps := vals.toArray ++ Array.replicate (fn.ntmps - vals.toArray.size) undef, defers := [] } w := by
    refine ⟨Since.refl w, by simp [hlen], fun t => ?_, rfl, ⟨fun n => by simp [look], fun n b h => (by cases h), fun n b l B h => (by cases h), fun n m b c l k B h => (by cases h), hold⟩, fun p hp => by cases hp⟩
    by_cases ht : t < args.length
    · obtain ⟨u, h1, h2⟩ := relL_get hr ht
      have e1 : (args ++ List.replicate (fn.ntmps - args.length) V.dead).getD t .dead = args.getD t .dead := by
        simp only [List.getD_eq_getElem?_getD, List.getElem?_append_left ht]
      have e2 : (vals.toArray ++ Array.replicate (fn.ntmps - vals.toArray.size) undef).getD t undef = u := by
        rw [Array.getD_eq_getD_getElem?, Array.getElem?_append_left (by simp; omega)]
        simp [h1]
      rw [e1, e2]
      exact h2
    · have e1 : (args ++ List.replicate (fn.ntmps - args.length) V.dead).getD t .dead = .dead := by
        simp only [List.getD_eq_getElem?_getD, List.getElem?_append_right (by omega : args.length ≤ t), List.getElem?_replicate]
        split <;> rfl
      rw [e1]
      simp only [rel]
  have key : ∀ {tm hp φ S' a w'}, SLe (oldZ w) S S' → Inv T (.of w) φ S' tm hp a w' → retF (real P T (.of w)) T fn.results.toList (fun v h => v = res ∧ h = post) tm hp →
      a.defers = [] ∧ ∃ v, (results fn a.tmps).run P w' = .ok v w' ∧ ∃ x φ' S', Ending.returned v = .returned x ∧ Since (.of w) w' ∧ HOk T φ' (oldZ w) w' S' post ∧ rel T φ' w' S' res x ∧ (∀ k, S' k → S k ∨ w.heap.size ≤ k) := by
    intro tm hp φ S' a w' hS hi h
    obtain ⟨x, v, φ', S2, post', h1, h2, h3, h4, rfl, rfl⟩ := results_ok htok hi h
    exact ⟨hi.dfr, x, h1, x, φ', S2, rfl, hi.since, h3, h4, fun k hk => ((hS.trans h2).2 k hk).imp id Nat.not_lt.1⟩
  refine wp_mono (vc_ok htok c hok (h w) _ _ _ _ hi) (fun e a' w' hp => ?_)
  obtain ⟨φ', S', tm', hp', h1, h2, h3, h4⟩ := hp
  cases e with
  | normal => exact key h1 h2 h3
  | ret => exact key h1 h2 h3
  | exit i => exact h3.elim
  | _ => exact h4.elim
end
end Go.Ab
end
section
/- Loops; how the calculus is used. No statement of its own. -/

namespace Go.Ab
open Go.RowKit

def nameR : List (Nat × Nat) → Nat → Nat
  | [], n => n
  | (a, b) :: r, n => match a == n with
    | true => b
    | false => nameR r n

mutual
def renR (ρ : List (Nat × Nat)) : V → V
  | .ptr n j => .ptr (nameR ρ n) j
  | .ep n i j => .ep (nameR ρ n) i j
  | .row n => .row (nameR ρ n)
  | .rowp n lo ln => .rowp (nameR ρ n) lo ln
  | .agg cs => .agg (renRL ρ cs)
  | .tup cs => .tup (renRL ρ cs)
  | .fn f fs cs => .fn f (renRL ρ fs) (renRL ρ cs)
  | v => v
def renRL (ρ : List (Nat × Nat)) : List V → List V
  | [] => []
  | v :: r => renR ρ v :: renRL ρ r
end

def renRB (ρ : List (Nat × Nat)) : Blk → Blk
  | .cells t cs => .cells t (renRL ρ cs)
  | b => b

def hasN (hp : Hp) (n : Nat) : Bool := match look hp n with
  | some _ => true
  | none => false

mutual
def allR (hp : Hp) : V → Bool
  | .ptr n _ => hasN hp n
  | .ep n _ _ => hasN hp n
  | .row n => hasN hp n
  | .rowp n _ _ => hasN hp n
  | .agg cs => allRL hp cs
  | .tup cs => allRL hp cs
  | .fn _ fs cs => match allRL hp fs with
    | true => allRL hp cs
    | false => false
  | _ => true
def allRL (hp : Hp) : List V → Bool
  | [] => true
  | v :: r => match allR hp v with
    | true => allRL hp r
    | false => false
end

def setAll (tm : List V) : List (Nat × V) → List V
  | [] => tm
  | (t, v) :: r => setAll (tm.set t v) r

def mkS (n : Nat) (sl : List (Nat × V)) : List V := setAll (List.replicate n .dead) sl

def fitS1 (a b : V) : Prop := match b with
  | .sl u es => match a with
    | .nil => es = []
    | a => a = .sl u es
  | b => a = b

def fitL : List V → List V → Prop
  | [], [] => True
  | a :: r, b :: s => fitS1 a b ∧ fitL r s
  | _, _ => False

def fitV (a b : V) : Prop := match b with
  | .agg ds => match a with
    | .agg cs => fitL cs ds
    | _ => False
  | b => fitS1 a b

def fitsS (ρ : List (Nat × Nat)) (tm : List V) : List (Nat × V) → Prop
  | [] => True
  | (t, v) :: r => fitV (normV (tm.getD t .dead)) (normV (renR ρ v)) ∧ fitsS ρ tm r

def sameB : Option Blk → Blk → Prop
  | some (.cells t cs), .cells t' cs' => t = t' ∧ fitL (cs.map normV) (cs'.map normV)
  | some (.row u es), .row u' es' => u = u' ∧ es = es'
  | some (.ro u es), .ro u' es' => u = u' ∧ es = es'
  | some .gone, .gone => True
  | _, _ => False

def fitsH (ρ : List (Nat × Nat)) (hp : Hp) : Hp → Prop
  | [] => True
  | (n, b) :: r => sameB (look hp (nameR ρ n)) (renRB ρ b) ∧ fitsH ρ hp r

def okNames (hp : Hp) : List (Nat × V) → Bool
  | [] => true
  | (_, v) :: r => match allR hp v with
    | true => okNames hp r
    | false => false

def okBlks (hp : Hp) : Hp → Bool
  | [] => true
  | (_, b) :: r => match (match b with
      | .cells _ cs => allRL hp cs
      | .gone => false
      | _ => true) with
    | true => okBlks hp r
    | false => false

def once (ρ : List (Nat × Nat)) : Hp → List Nat → List Nat → Bool
  | [], _, _ => true
  | (n, _) :: r, as_, bs => match memN n as_ with
    | true => false
    | false => match memN (nameR ρ n) bs with
      | true => false
      | false => once ρ r (n :: as_) (nameR ρ n :: bs)

def okState (ρ : List (Nat × Nat)) (sl : List (Nat × V)) (hp' : Hp) : Bool := match okNames hp' sl with
  | true => match okBlks hp' hp' with
    | true => once ρ hp' [] []
    | false => false
  | false => false

def ancOk (ρ : List (Nat × Nat)) (hp : Hp) : List Nat → Bool
  | [] => true
  | n :: r => match hasN hp n with
    | true => match nameR ρ n == n with
      | true => ancOk ρ hp r
      | false => false
    | false => false

structure Fits (ns : List Nat) (n : Nat) (ρ : List (Nat × Nat)) (sl : List (Nat × V)) (hp' : Hp) (tm : List V) (hp : Hp) : Prop where
  len : tm.length = n
  slots : fitsS ρ tm sl
  rows : fitsH ρ hp hp'
  ok : okState ρ sl hp' = true
  anc : ancOk ρ hp' ns = true

section
variable {P : Program} {T : Tr} {w0 : Base} {φ φ' φ2 : Nat → Option Loc} {w w' : World} {S S' S2 : Nat → Prop} {v : V} {hp : Hp} {b0 : Nat → Prop} {x : Value} {a : Act} {ops : Array Oper}

theorem hasN_iff {n : Nat} : hasN hp n = true ↔ ∃ b, look hp n = some b := by
  unfold hasN
  split
  · rename_i b hb; simp [hb]
  · rename_i hb; simp [hb]

def fitφ (φ : Nat → Option Loc) (ρ : List (Nat × Nat)) (hp' : Hp) (n : Nat) : Option Loc := if hasN hp' n = true then φ (nameR ρ n) else none

mutual
theorem fit_rel {ρ : List (Nat × Nat)} {hp' : Hp} : ∀ (v : V) (x : Value), allR hp' v = true → rel T φ w S (renR ρ v) x → rel T (fitφ φ ρ hp') w S v x
  | .s v, x, hn, h => by simpa only [rel, renR] using h
  | .i k n, x, hn, h => by simpa only [rel, renR] using h
  | .b c, x, hn, h => by simpa only [rel, renR] using h
  | .str s, x, hn, h => by simpa only [rel, renR] using h
  | .nil, x, hn, h => by simpa only [rel, renR] using h
  | .dead, x, hn, h => by simp only [rel]
  | .nlq g es, x, hn, h => by simpa only [rel, renR] using h
  | .sl et es, x, hn, h => by
    simp only [rel, renR] at h ⊢
    obtain ⟨A, cap, h1, h2, h3, h5, h6⟩ := h
    refine ⟨A, cap, h1, h2, h3, h5, fun hne => ?_⟩
    obtain ⟨ad, e, ha, hl, hz, hs, he⟩ := h6 hne
    exact ⟨ad, e, ha, hl, hz, hs, wtL_free es et 0 ad e.size h5 he⟩
  | .rp et es i j, x, hn, h => by
    simp only [rel, renR] at h ⊢
    obtain ⟨ad, e, h1, h2, h3, h4, h5, h6⟩ := h
    exact ⟨ad, e, h1, h2, h3, h4, wtL_free es et 0 ad e.size h3 h5, h6⟩
  | .agg cs, x, hn, h => by
    simp only [rel, renR] at h ⊢
    obtain ⟨a, h1, h2, h3⟩ := h
    exact ⟨a, h1, fit_relL cs _ hn h2, h3⟩
  | .tup cs, x, hn, h => by
    simp only [rel, renR] at h ⊢
    obtain ⟨a, h1, h2⟩ := h
    exact ⟨a, h1, fit_relL cs _ hn h2⟩
  | .fn f fs cs, x, hn, h => by
    simp only [rel, renR] at h ⊢
    obtain ⟨a, b, h1, h2, h3⟩ := h
    simp only [allR] at hn
    split at hn
    · rename_i h0
      exact ⟨a, b, h1, fit_relL fs _ h0 h2, fit_relL cs _ hn h3⟩
    · cases hn
  | .ptr n j, x, hn, h => by
    simp only [rel, renR, allR] at h hn ⊢
    simp only [fitφ, if_pos hn]
    exact h
  | .ep n i j, x, hn, h => by
    simp only [rel, renR, allR] at h hn ⊢
    simp only [fitφ, if_pos hn]
    exact h
  | .row n, x, hn, h => by
    simp only [rel, renR, allR] at h hn ⊢
    simp only [fitφ, if_pos hn]
    exact h
  | .rowp n lo ln, x, hn, h => by
    simp only [rel, renR, allR] at h hn ⊢
    simp only [fitφ, if_pos hn]
    exact h
theorem fit_relL {ρ : List (Nat × Nat)} {hp' : Hp} : ∀ (cs : List V) (xs : List Value), allRL hp' cs = true → relL T φ w S (renRL ρ cs) xs → relL T (fitφ φ ρ hp') w S cs xs
  | [], xs, hn, h => by simpa only [relL, renRL] using h
  | v :: r, xs, hn, h => by
    simp only [relL, renRL] at h ⊢
    obtain ⟨x, xs', h1, h2, h3⟩ := h
    simp only [allRL] at hn
    split at hn
    · rename_i h0
      exact ⟨x, xs', h1, fit_rel v x h0 h2, fit_relL r xs' hn h3⟩
    · cases hn
end

theorem fitsH_look {ρ : List (Nat × Nat)} : ∀ {hp' : Hp}, fitsH ρ hp hp' → ∀ n b, look hp' n = some b → sameB (look hp (nameR ρ n)) (renRB ρ b)
  | (k, c) :: r, h, n, b, hb => by
    rw [look_cons] at hb
    split at hb
    · rename_i e; subst e; injection hb with hb; subst hb; exact h.1
    · exact fitsH_look h.2 n b hb

theorem memN_iff {n : Nat} : ∀ {l : List Nat}, memN n l = true ↔ n ∈ l
  | [] => by simp [memN]
  | m :: r => by
    simp only [memN]
    split
    · rename_i e; have : n = m := by simpa using e
      simp [this]
    · rename_i e; have : n ≠ m := by simpa using e
      rw [memN_iff]; simp [this]

theorem once_inj {ρ : List (Nat × Nat)} : ∀ {hp' : Hp} {as_ bs : List Nat}, once ρ hp' as_ bs = true → (∀ n b, look hp' n = some b → nameR ρ n ∉ bs) ∧ ∀ n m b c, look hp' n = some b → look hp' m = some c → nameR ρ n = nameR ρ m → n = m
  | [], as_, bs, _ => ⟨fun n b h => (by cases h), fun n m b c h => (by cases h)⟩
  | (k, d) :: r, as_, bs, h => by
    simp only [once] at h
    split at h
    · cases h
    · split at h
      · cases h
      · rename_i hk
        have hk : nameR ρ k ∉ bs := fun e => by rw [memN_iff.2 e] at hk; cases hk
        obtain ⟨h1, h2⟩ := once_inj h
        refine ⟨fun n b hb => ?_, fun n m b c hb hc e => ?_⟩
        · rw [look_cons] at hb
          split at hb
          · rename_i e; subst e; exact hk
          · exact fun hm => h1 n b hb (List.mem_cons_of_mem _ hm)
        · rw [look_cons] at hb hc
          split at hb
          · rename_i e1
            split at hc
            · rename_i e2; rw [← e1, ← e2]
            · subst e1
              exact absurd (by rw [← e]; exact List.mem_cons_self) (h1 m c hc)
          · split at hc
            · rename_i e2
              subst e2
              exact absurd (by rw [e]; exact List.mem_cons_self) (h1 n b hb)
            · exact h2 n m b c hb hc e

theorem okNames_mem {hp' : Hp} : ∀ {sl : List (Nat × V)}, okNames hp' sl = true → ∀ p ∈ sl, allR hp' p.2 = true
  | (t, v) :: r, h, p, hp => by
    simp only [okNames] at h
    split at h
    · rename_i h0
      rcases List.mem_cons.1 hp with rfl | hp
      · exact h0
      · exact okNames_mem h p hp
    · cases h

theorem okBlks_look {hq : Hp} : ∀ {hp' : Hp}, okBlks hq hp' = true → ∀ n b, look hp' n = some b → (match b with
      | .cells _ cs => allRL hq cs
      | .gone => false
      | _ => true) = true
  | (k, c) :: r, h, n, b, hb => by
    simp only [okBlks] at h
    split at h
    · rename_i h0
      rw [look_cons] at hb
      split at hb
      · injection hb with hb; subst hb; exact h0
      · exact okBlks_look h n b hb
    · cases h

theorem fitsS_mem {ρ : List (Nat × Nat)} {tm : List V} : ∀ {sl : List (Nat × V)}, fitsS ρ tm sl → ∀ p ∈ sl, fitV (normV (tm.getD p.1 .dead)) (normV (renR ρ p.2))
  | (t, v) :: r, h, p, hp => by
    rcases List.mem_cons.1 hp with rfl | hp
    · exact h.1
    · exact fitsS_mem h.2 p hp

theorem setAll_get : ∀ {sl : List (Nat × V)} {tm : List V} {t : Nat}, (setAll tm sl).getD t .dead = tm.getD t .dead ∨ (t, (setAll tm sl).getD t .dead) ∈ sl
  | [], tm, t => .inl rfl
  | (k, v) :: r, tm, t => by
    simp only [setAll]
    rcases setAll_get (sl := r) (tm := tm.set k v) (t := t) with h | h
    · rw [h, getD_set]
      split
      · rename_i e; rw [← e.1]; exact .inr List.mem_cons_self
      · exact .inl rfl
    · exact .inr (List.mem_cons_of_mem _ h)

theorem setAll_length : ∀ {sl : List (Nat × V)} {tm : List V}, (setAll tm sl).length = tm.length
  | [], tm => rfl
  | (k, v) :: r, tm => by simp only [setAll]; rw [setAll_length]; simp

theorem norm1_rel' {v : V} {x : Value} (h : rel T φ w S (norm1 v) x) : rel T φ w S v x := by
  cases v with
  | s u => cases u <;> simp_all [norm1, rel, Value.oneCell']
  | _ => exact h
theorem normL_rel' : ∀ {cs : List V} {xs : List Value}, relL T φ w S (cs.map norm1) xs → relL T φ w S cs xs
  | [], xs, h => by simpa only [relL, List.map_nil] using h
  | v :: r, xs, h => by
    simp only [relL, List.map_cons] at h ⊢
    obtain ⟨x, xs', h1, h2, h3⟩ := h
    exact ⟨x, xs', h1, norm1_rel' h2, normL_rel' h3⟩
theorem norm_rel' {v : V} {x : Value} (h : rel T φ w S (normV v) x) : rel T φ w S v x := by
  cases v with
  | agg cs =>
    simp only [normV, rel] at h ⊢
    obtain ⟨a, h1, h2, h3⟩ := h
    exact ⟨a, h1, normL_rel' h2, h3⟩
  | s u => exact norm1_rel' (v := .s u) h
  | _ => exact h
theorem normVL_rel' : ∀ {cs : List V} {xs : List Value}, relL T φ w S (cs.map normV) xs → relL T φ w S cs xs
  | [], xs, h => by simpa only [relL, List.map_nil] using h
  | v :: r, xs, h => by
    simp only [relL, List.map_cons] at h ⊢
    obtain ⟨x, xs', h1, h2, h3⟩ := h
    exact ⟨x, xs', h1, norm_rel' h2, normVL_rel' h3⟩

theorem fitS1_rel {a b : V} {x : Value} (hf : fitS1 a b) (h : rel T φ w S a x) : rel T φ w S b x := by
  unfold fitS1 at hf
  split at hf
  · split at hf
    · subst hf
      simp only [rel] at h ⊢
      subst h
      exact ⟨none, 0, rfl, Nat.le_refl _, Nat.zero_le _, by simp [wtL], fun hne => absurd rfl hne⟩
    · subst hf; exact h
  · subst hf; exact h
theorem fitL_rel : ∀ {as_ bs : List V} {xs : List Value}, fitL as_ bs → relL T φ w S as_ xs → relL T φ w S bs xs
  | [], [], xs, _, h => h
  | a :: r, b :: s, xs, hf, h => by
    simp only [relL, fitL] at h hf ⊢
    obtain ⟨x, xs', h1, h2, h3⟩ := h
    exact ⟨x, xs', h1, fitS1_rel hf.1 h2, fitL_rel hf.2 h3⟩
  | [], _ :: _, _, hf, _ => hf.elim
  | _ :: _, [], _, hf, _ => hf.elim
theorem fitV_rel {a b : V} {x : Value} (hf : fitV a b) (h : rel T φ w S a x) : rel T φ w S b x := by
  unfold fitV at hf
  split at hf
  · split at hf
    · simp only [rel] at h ⊢
      obtain ⟨c, h1, h2, h3⟩ := h
      exact ⟨c, h1, fitL_rel hf h2, h3⟩
    · exact hf.elim
  · exact fitS1_rel hf h

theorem sameB_some {ob : Option Blk} {b : Blk} (h : sameB ob b) : ∃ c, ob = some c ∧ c.own = b.own ∧ ∀ n, BlkOk T φ w S n c → BlkOk T φ w S n b := by
  unfold sameB at h
  split at h
  · obtain ⟨rfl, h2⟩ := h
    refine ⟨_, rfl, rfl, fun n hb => ?_⟩
    obtain ⟨B, arr, h1, h3, h4, h5⟩ := hb
    exact ⟨B, arr, h1, h3, normVL_rel' (fitL_rel h2 (normVL_rel h4)), h5⟩
  · obtain ⟨rfl, rfl⟩ := h; exact ⟨_, rfl, rfl, fun n hb => hb⟩
  · obtain ⟨rfl, rfl⟩ := h; exact ⟨_, rfl, rfl, fun n hb => hb⟩
  · exact ⟨_, rfl, rfl, fun n hb => hb⟩
  · exact h.elim

theorem renRB_own {ρ : List (Nat × Nat)} {b : Blk} : (renRB ρ b).own = b.own := by cases b <;> rfl

theorem ancOk_mem {ρ : List (Nat × Nat)} {hp : Hp} : ∀ {ns : List Nat}, ancOk ρ hp ns = true → ∀ n ∈ ns, hasN hp n = true ∧ nameR ρ n = n
  | m :: r, h, n, hn => by
    simp only [ancOk] at h
    split at h
    · rename_i h1
      split at h
      · rename_i h2
        rcases List.mem_cons.1 hn with rfl | hn
        · exact ⟨h1, by simpa using h2⟩
        · exact ancOk_mem h n hn
      · cases h
    · cases h

theorem Inv.fit {ρ : List (Nat × Nat)} {sl : List (Nat × V)} {hp hp' : Hp} {tm : List V} (h : Inv T w0 φ S tm hp a w) {n : Nat} {ns : List Nat} (hns : ∀ p ∈ w0.anc, p.1 ∈ ns) (hf : Fits ns n ρ sl hp' tm hp) : Inv T w0 (fitφ φ ρ hp') S (mkS n sl) hp' a w := by
  obtain ⟨f0, f1, f2, f3, f4⟩ := hf
  subst f0
  simp only [okState] at f3
  split at f3
  · rename_i n1
    split at f3
    · rename_i n2
      have inj := (once_inj f3).2
      have at' : ∀ {n b}, look hp' n = some b → fitφ φ ρ hp' n = φ (nameR ρ n) := fun hb => by
        simp only [fitφ, if_pos (hasN_iff.2 ⟨_, hb⟩)]
      refine ⟨h.since, by rw [mkS, setAll_length]; simpa using h.size, fun t => ?_, h.dfr, ⟨fun n => ?_, fun n b hb => ?_, fun n b l B hb ho hl hB => ?_, fun n m b c l k B hb hc ho ho' hl hk hB hB' => ?_, h.heap.old⟩, fun p hp => ?_⟩
      · rcases setAll_get (sl := sl) (tm := List.replicate tm.length .dead) (t := t) with e | e
        · rw [mkS, e]
          simp only [List.getD_eq_getElem?_getD, List.getElem?_replicate]
          split <;> simp [rel]
        · have e1 := okNames_mem n1 _ e
          have e2 := fitsS_mem f1 _ e
          have := h.tms t
          simp only at e2
          have := fitV_rel e2 (norm_rel this)
          exact fit_rel _ _ e1 (norm_rel' this)
      · constructor
        · intro hn
          cases hb : look hp' n with
          | none => rfl
          | some b =>
            rw [at' hb] at hn
            have := (h.heap.dom _).1 hn
            obtain ⟨c, hc, _⟩ := sameB_some (T := T) (φ := φ) (w := w) (S := S) (fitsH_look f2 n b hb)
            rw [hc] at this
            cases this
        · intro hn
          simp only [fitφ]
          rw [if_neg (fun e => by obtain ⟨b, hb⟩ := hasN_iff.1 e; rw [hn] at hb; cases hb)]
      · obtain ⟨c, hl, _, hc⟩ := sameB_some (T := T) (φ := φ) (w := w) (S := S) (fitsH_look f2 n b hb)
        have hB := hc _ (h.heap.blk _ _ hl)
        cases b with
        | cells t cs =>
          obtain ⟨B, arr, h1, h2, h3, h4⟩ := hB
          exact ⟨B, arr, by rw [at' hb]; exact h1, h2, fit_relL cs _ (okBlks_look n2 n _ hb) h3, h4⟩
        | row et es =>
          obtain ⟨hw, e, he, hz, hh⟩ := hB
          refine ⟨hw, e, he, hz, ?_⟩
          rcases hh with ⟨B, off, room, arr, h1, h2, h3, h4, h5, h6⟩ | ⟨h1, h2⟩
          · refine .inl ⟨B, off, room, arr, by rw [at' hb]; exact h1, h2, h3, h4, h5, fun j c hj => ?_⟩
            obtain ⟨y, y1, y2⟩ := h6 j c hj
            exact ⟨y, wt_free c et y (wtL_iff.1 hw c (List.mem_of_getElem? hj)) y1, y2⟩
          · exact .inr ⟨by rw [at' hb]; exact h1, h2⟩
        | ro et es =>
          obtain ⟨hw, e, he, hz, hh⟩ := hB
          refine ⟨hw, e, he, hz, ?_⟩
          rcases hh with ⟨B, off, room, arr, fz, h1, h2, h3, h4, h5, h6⟩ | ⟨h1, h2⟩
          · refine .inl ⟨B, off, room, arr, fz, by rw [at' hb]; exact h1, h2, h3, h4, h5, fun j c hj => ?_⟩
            obtain ⟨y, y1, y2⟩ := h6 j c hj
            exact ⟨y, wt_free c et y (wtL_iff.1 hw c (List.mem_of_getElem? hj)) y1, y2⟩
          · exact .inr ⟨by rw [at' hb]; exact h1, h2⟩
        | gone => trivial
      · rw [at' hb] at hl
        obtain ⟨c, hc, hco, _⟩ := sameB_some (T := T) (φ := φ) (w := w) (S := S) (fitsH_look f2 n b hb)
        exact h.heap.own _ _ l B hc (by rw [hco, renRB_own]; exact ho) hl hB
      · rw [at' hb] at hl
        rw [at' hc] at hk
        obtain ⟨b1, hb1, hbo, _⟩ := sameB_some (T := T) (φ := φ) (w := w) (S := S) (fitsH_look f2 n b hb)
        obtain ⟨c1, hc1, hco, _⟩ := sameB_some (T := T) (φ := φ) (w := w) (S := S) (fitsH_look f2 m c hc)
        exact inj n m b c hb hc (h.heap.inj _ _ _ _ l k B hb1 hc1 (by rw [hbo, renRB_own]; exact ho) (by rw [hco, renRB_own]; exact ho') hl hk hB hB')
      · obtain ⟨a1, a2⟩ := ancOk_mem f4 _ (hns p hp)
        simp only [fitφ, if_pos a1, a2]
        exact h.anc p hp
    · cases f3
  · cases f3

theorem loop_ok (htok : TyOk P T) {ns : List Nat} (hns : ∀ p ∈ w0.anc, p.1 ∈ ns) {W : Nat → List (List Nat)} {b : Code} {K : Exit → List V → Hp → Prop} {tm : List V} {hp : Hp} {α : Type} (n : Nat) (sl : α → List (Nat × V)) (hs : α → Hp) (I : α → Prop) (μ : α → Nat) (a0 : α) (ρ0 : List (Nat × Nat)) (h0 : I a0) (hst : Fits ns n ρ0 (sl a0) (hs a0) tm hp) (hok : codeOk W b = true)
    (hstep : ∀ a, I a → ∀ L : List V → Hp → Prop, (∀ a' ρ tm hp, I a' → μ a' < μ a → Fits ns n ρ (sl a') (hs a') tm hp → L tm hp) → vc (real P T w0) T W b (fun e tm hp => match e with | .normal => L tm hp | e => K e tm hp) (mkS n (sl a)) (hs a)) :
    Sat P T w0 (.loop b) K tm hp := by
  intro φ S a w hi
  have key : ∀ (m : Nat) (a1 : α) (φ1 : Nat → Option Loc) (S1 : Nat → Prop) (act : Act) (w1 : World), μ a1 < m → I a1 → SLe w0.Z S S1 → Inv T w0 φ1 S1 (mkS n (sl a1)) (hs a1) act w1 → Code.rounds P b (Post T w0 S K) m act w1 := by
    intro m
    induction m with
    | zero => intro a1 _ _ _ _ h; omega
    | succ m ih =>
      intro a1 φ1 S1 act w1 hm hI hS hinv
      rw [rounds_succ]
      have hvc := hstep a1 hI (fun tm hp => ∃ a' ρ, I a' ∧ μ a' < μ a1 ∧ Fits ns n ρ (sl a') (hs a') tm hp) (fun a' ρ tm hp h1 h2 h3 => ⟨a', ρ, h1, h2, h3⟩)
      refine wp_mono (vc_ok htok b hok hvc φ1 S1 act w1 hinv) (fun e act2 w2 hp => ?_)
      obtain ⟨φ2, S2, tm2, hp2, k1, k2, k3, k4⟩ := hp
      cases e with
      | normal =>
        obtain ⟨a', ρ, j1, j2, j3⟩ := k3
        have := k2.fit hns j3
        exact ih a' _ S2 act2 w2 (by omega) j1 (hS.trans k1) this
      | exit i => exact ⟨φ2, S2, tm2, hp2, hS.trans k1, k2, k3, k4⟩
      | ret => exact ⟨φ2, S2, tm2, hp2, hS.trans k1, k2, k3, k4⟩
      | _ => exact k4.elim
  have := hi.fit hns hst
  exact wp_loop_rounds _ (key _ a0 _ S a w (Nat.lt_succ_self _) h0 SLe.refl this)

theorem Inv.born {tm : List V} {t n et : Nat} {e : TE} (h : Inv T w0 φ S tm hp a w) (ht : tm.getD t .dead = .nil) (hn : look hp n = none) (he : T.look et = some e) (hz : 0 < e.size) : ∃ φ', Inv T w0 φ' S (tm.set t (.row n)) ((n, .row et []) :: hp) a w := by
  have hφ : φ n = none := (h.heap.dom n).2 hn
  have hx := h.tms t
  rw [ht] at hx
  simp only [rel] at hx
  refine ⟨upd φ n .nilrow, h.since, by simp [h.size], fun u => ?_, h.dfr, ?_, fun p hp => upd_le hφ _ _ (h.anc p hp)⟩
  · rw [getD_set]
    split
    · rename_i hu
      rw [← hu.1, hx]
      simp only [rel]
      exact .inr ⟨upd_self, none, rfl⟩
    · exact rel_mono (upd_le hφ) (fun _ _ => rfl) (fun _ h => h) _ _ (h.tms u)
  · refine h.heap.cons (upd_le hφ) (fun k hk => upd_ne hk) (by rw [upd_self]; simp) (fun _ _ => rfl) (fun _ h => h) (fun k c l B hk hc hc2 hl hB => ⟨rfl, (h.heap.own k c l B hc hc2 hl hB).2.2⟩) (Nat.le_refl _) ?_ (fun _ l B hl hB => ?_) h.heap.old
    · exact ⟨by simp [wtL], e, he, hz, .inr ⟨upd_self, rfl⟩⟩
    · rw [upd_self] at hl; injection hl with hl; subst hl; cases hB

theorem Inv.bornC {tm : List V} {n0 j n et t0 : Nat} {cs : List V} {e : TE} (h : Inv T w0 φ S tm hp a w) (hc : look hp n0 = some (.cells t0 cs)) (hj : cs[j]? = some .nil) (hn : look hp n = none) (he : T.look et = some e) (hz : 0 < e.size) : ∃ φ', Inv T w0 φ' S tm ((n0, .cells t0 (cs.set j (.row n))) :: (n, .row et []) :: hp) a w := by
  have hφ : φ n = none := (h.heap.dom n).2 hn
  have hne : n0 ≠ n := fun e => by subst e; rw [hn] at hc; cases hc
  have h1 : HOk T (upd φ n .nilrow) w0.Z w S ((n, .row et []) :: hp) := by
    refine h.heap.cons (upd_le hφ) (fun k hk => upd_ne hk) (by rw [upd_self]; simp) (fun _ _ => rfl) (fun _ h => h) (fun k c l B hk hc hc2 hl hB => ⟨rfl, (h.heap.own k c l B hc hc2 hl hB).2.2⟩) (Nat.le_refl _) ?_ (fun _ l B hl hB => ?_) h.heap.old
    · exact ⟨by simp [wtL], e, he, hz, .inr ⟨upd_self, rfl⟩⟩
    · rw [upd_self] at hl; injection hl with hl; subst hl; cases hB
  have hl1 : look ((n, Blk.row et []) :: hp) n0 = some (.cells t0 cs) := by rw [look_cons, if_neg (fun e => hne e.symm)]; exact hc
  refine ⟨upd φ n .nilrow, h.since, h.size, fun u => rel_mono (upd_le hφ) (fun _ _ => rfl) (fun _ h => h) _ _ (h.tms u), h.dfr, ?_, fun p hp => upd_le hφ _ _ (h.anc p hp)⟩
  obtain ⟨B, arr, k1, k2, k3, k4⟩ := h1.blk _ _ hl1
  refine h1.cons (LocLe.refl _) (fun k hk => rfl) (by rw [k1]; simp) (fun _ _ => rfl) (fun _ h => h) (fun k c l B' hk hc hc2 hl hB => ⟨rfl, (h1.own k c l B' hc hc2 hl hB).2.2⟩) (Nat.le_refl _) ?_ (fun _ l B' hl hB => ?_) h1.old
  · refine ⟨B, arr, k1, k2, relL_iff.2 ⟨?_, fun i c x hi hx => ?_⟩, k4⟩
    · rw [List.length_set]; exact (relL_iff.1 k3).1
    · rw [List.getElem?_set] at hi
      split at hi
      · rename_i hij
        subst hij
        split at hi
        · injection hi with hi
          subst hi
          have := (relL_iff.1 k3).2 _ _ _ hj hx
          simp only [rel] at this ⊢
          exact .inr ⟨upd_self, none, this⟩
        · cases hi
      · exact (relL_iff.1 k3).2 _ _ _ hi hx
  · obtain ⟨o1, o2, o3⟩ := h1.own _ _ l B' hl1 rfl hl hB
    exact ⟨o1, o2, o3, fun m c k hm hc hc2 hk hB2 => hm (h1.inj _ _ _ _ k l B' hc hl1 hc2 rfl hk hl hB2 hB)⟩

theorem real_bornC {o : Ops} (ho : o = real P T w0) {b : Code} {K : Exit → List V → Hp → Prop} {tm : List V} {hp : Hp} {n0 j n et t0 : Nat} {cs : List V} {e : TE} (hc : look hp n0 = some (.cells t0 cs)) (hj : cs[j]? = some .nil) (hn : look hp n = none) (he : T.look et = some e) (hz : 0 < e.size) (h : o.loop b K tm ((n0, .cells t0 (cs.set j (.row n))) :: (n, .row et []) :: hp)) : o.loop b K tm hp := by
  subst ho
  intro φ S a w hi
  obtain ⟨φ', hi'⟩ := hi.bornC hc hj hn he hz
  exact h φ' S a w hi'

theorem real_born {o : Ops} (ho : o = real P T w0) {b : Code} {K : Exit → List V → Hp → Prop} {tm : List V} {hp : Hp} {t n et : Nat} {e : TE} (ht : tm.getD t .dead = .nil) (hn : look hp n = none) (he : T.look et = some e) (hz : 0 < e.size) (h : o.loop b K (tm.set t (.row n)) ((n, .row et []) :: hp)) : o.loop b K tm hp := by
  subst ho
  intro φ S a w hi
  obtain ⟨φ', hi'⟩ := hi.born ht hn he hz
  exact h φ' S a w hi'

theorem fn_of (htok : TyOk P T) {f : Nat} {fn : Func} {c : Code} (W : Nat → List (List Nat)) {args : List V} {res : V} {post : Hp} (hf : P.funcs[f]? = some fn) (hname : (fn.name == "runtime.NumGoroutine") = false) (hb : fn.body = some c) (hok : codeOk W c = true)
    (h : ∀ (w : World) o, o = real P T (.of w) → ∀ K : V → Hp → Prop, (∀ v h, v = res → h = post → K v h) → vc o T W c (retK o T fn.results.toList K) (args ++ List.replicate (fn.ntmps - args.length) .dead) []) : Fn P T f args res post :=
  fn_of_vc htok hf hname hb hok (fun w0 => h w0 _ rfl _ (fun v h e1 e2 => ⟨e1, e2⟩))

theorem real_br {o : Ops} (ho : o = real P T w0) {c : Bool} {A B : Unit → Prop} (h1 : c = true → A ()) (h2 : c = false → B ()) : o.br c A B := by subst ho; exact ⟨h1, h2⟩
theorem real_need {o : Ops} (ho : o = real P T w0) {p q : Prop} (h1 : p) (h2 : q) : o.need p q := by subst ho; exact ⟨h1, h2⟩
theorem real_call {o : Ops} (ho : o = real P T w0) {f : Nat} {args : List V} {K : V → Hp → Prop} {v : V} {h : Hp} (h1 : Fn P T f args v h) (h2 : K v h) : o.call f args K := by subst ho; exact ⟨v, h, h1, h2⟩
theorem real_loop_ok {o : Ops} (ho : o = real P T w0) (htok : TyOk P T) {ns : List Nat} (hns : ∀ p ∈ w0.anc, p.1 ∈ ns) {W : Nat → List (List Nat)} {b : Code} {K : Exit → List V → Hp → Prop} {tm : List V} {hp : Hp} {α : Type} (n : Nat) (sl : α → List (Nat × V)) (hs : α → Hp) (I : α → Prop) (μ : α → Nat) (a0 : α) (ρ0 : List (Nat × Nat)) (h0 : I a0) (hst : Fits ns n ρ0 (sl a0) (hs a0) tm hp) (hok : codeOk W b = true)
    (hstep : ∀ a, I a → ∀ L : List V → Hp → Prop, (∀ a' ρ tm hp, I a' → μ a' < μ a → Fits ns n ρ (sl a') (hs a') tm hp → L tm hp) → vc o T W b (fun e tm hp => match e with | .normal => L tm hp | e => K e tm hp) (mkS n (sl a)) (hs a)) :
    o.loop b K tm hp := by
  subst ho
  exact loop_ok htok hns n sl hs I μ a0 ρ0 h0 hst hok hstep
theorem real_nl {o : Ops} (ho : o = real P T w0) {es : List V} {A B : Unit → Prop} (h1 : es = [] → A ()) (h2 : B ()) : o.nl es A B := by subst ho; exact ⟨h1, h2⟩
theorem real_cut {o : Ops} (ho : o = real P T w0) (htok : TyOk P T) {W : Nat → List (List Nat)} {a b : Code} {K : Exit → List V → Hp → Prop} {tm : List V} {hp : Hp} (ha : codeOk W a = true) (hb : codeOk W b = true)
    (h : vc o T W a (fun e tm hp => match e with | .normal => vc o T W b K tm hp | e => K e tm hp) tm hp) : o.cut a b K tm hp := by
  subst ho
  intro φ S act w hi
  refine wp_seq (wp_mono (vc_ok htok a ha h φ S act w hi) (fun e a' w' hp => ?_))
  obtain ⟨φ', S', tm', hp', h1, h2, h3, h4⟩ := hp
  cases e with
  | normal => exact wp_mono (vc_ok htok b hb h3 φ' S' a' w' h2) (fun e a w hp => hp.weaken h1 (fun _ _ h => h))
  | exit i => exact ⟨φ', S', tm', hp', h1, h2, h3, h4⟩
  | ret => exact ⟨φ', S', tm', hp', h1, h2, h3, h4⟩
  | _ => exact h4.elim
theorem real_cutF {o : Ops} (ho : o = real P T w0) (htok : TyOk P T) {ns : List Nat} (hns : ∀ p ∈ w0.anc, p.1 ∈ ns) {W : Nat → List (List Nat)} {a b : Code} {K : Exit → List V → Hp → Prop} {tm : List V} {hp : Hp} (n : Nat) (sl : List (Nat × V)) (hs : Hp) (ha : codeOk W a = true) (hb : codeOk W b = true)
    (h : ∀ L : List V → Hp → Prop, (∀ ρ tm' hp', Fits ns n ρ sl hs tm' hp' → L tm' hp') → vc o T W a (fun e tm hp => match e with | .normal => L tm hp | e => K e tm hp) tm hp) (hk : vc o T W b K (mkS n sl) hs) : o.cut a b K tm hp := by
  subst ho
  intro φ S act w hi
  refine wp_seq (wp_mono (vc_ok htok a ha (h (fun tm' hp' => ∃ ρ, Fits ns n ρ sl hs tm' hp') (fun ρ tm' hp' hf => ⟨ρ, hf⟩)) φ S act w hi) (fun e a' w' hp => ?_))
  obtain ⟨φ', S', tm', hp', h1, h2, h3, h4⟩ := hp
  cases e with
  | normal =>
    obtain ⟨ρ, hf⟩ := h3
    exact wp_mono (vc_ok htok b hb hk _ S' a' w' (h2.fit hns hf)) (fun e a w hp => hp.weaken h1 (fun _ _ h => h))
  | exit i => exact ⟨φ', S', tm', hp', h1, h2, h3, h4⟩
  | ret => exact ⟨φ', S', tm', hp', h1, h2, h3, h4⟩
  | _ => exact h4.elim
theorem real_loop {o : Ops} (ho : o = real P T w0) {b : Code} {K : Exit → List V → Hp → Prop} {tm : List V} {hp : Hp} (h : Sat P T w0 (.loop b) K tm hp) : o.loop b K tm hp := by subst ho; exact h
end

def lenI (es : List V) : Int := es.length
def slenI (s : ByteArray) : Int := s.size
def sbyteI (s : ByteArray) (i : Int) : Int := ((s[i.toNat]?).getD 0).toNat
theorem lenI_eq (es : List V) : lenI es = es.length := rfl
theorem slenI_eq (s : ByteArray) : slenI s = s.size := rfl

structure Eqs (ar : BinOp → IntKind → Int → Int → Int) (un : UnOp → IntKind → Int → Int) (cv : IntKind → Int → Int) (mn : Int → Int → Int) (mx : Int → Int → Int) (pl : Int → Int → Int) (mi : Int → Int → Int) (cmp : BinOp → Int → Int → Bool) (nt : Bool → Bool) (beq : Bool → Bool → Bool) (an : Bool → Bool → Bool) (scmp : BinOp → ByteArray → ByteArray → Bool) (cat : ByteArray → ByteArray → ByteArray) (slen : ByteArray → Int) (sbyte : ByteArray → Int → Int) (ssub : ByteArray → Int → Int → ByteArray) (ofB : ByteArray → List V) (toB : List V → ByteArray) (len : List V → Int) (gi : List V → Int → Nat → Int) (gb : List V → Int → Nat → Bool) (gs : List V → Int → Nat → ByteArray) (gl : List V → Int → Nat → List V) (sub : List V → Int → Int → List V) (put : List V → Int → Nat → List V → List V) (app : List V → List V → List V) (ovl : List V → Int → List V → List V) (rep : Int → V → List V) (ne0 : Int → Prop) (ge0 : Int → Prop) (inb : Int → Int → Prop) (bnd : Int → Int → Int → Prop) (room : Int → Nat → Prop) (sroom : ByteArray → ByteArray → Prop) : Prop where
  har : ar = arReal
  hun : un = unReal
  hcv : ∀ k a, cv k a = k.wrap a
  hmn : ∀ a b, mn a b = if b < a then b else a
  hmx : ∀ a b, mx a b = if b > a then b else a
  hpl : ∀ a b, pl a b = a + b
  hmi : ∀ a b, mi a b = a - b
  hcmp : cmp = cmpLit
  hnt : ∀ b, nt b = !b
  hbeq : ∀ a b, beq a b = (a == b)
  han : ∀ a b, an a b = (a && b)
  hscmp : scmp = strCmp
  hcat : ∀ a b, cat a b = a ++ b
  hslen : ∀ s, slen s = slenI s
  hsbyte : ∀ s i, sbyte s i = sbyteI s i
  hssub : ∀ s l h, ssub s l h = s.extract l.toNat h.toNat
  hofB : ofB = strBytes
  htoB : ∀ es, toB es = ⟨(es.map fun e => UInt8.ofNat (Ab.asInt e).toNat).toArray⟩
  hlen : ∀ es, len es = lenI es
  hgi : ∀ es i j, gi es i j = Ab.asInt (elAt es i j)
  hgb : ∀ es i j, gb es i j = boolOf (elAt es i j)
  hgs : ∀ es i j, gs es i j = strOf (elAt es i j)
  hgl : ∀ es i j, gl es i j = listOf (elAt es i j)
  hsub : ∀ es l h, sub es l h = (es.take h.toNat).drop l.toNat
  hput : ∀ es i j cs, put es i j cs = es.set i.toNat (putCells (es.getD i.toNat .dead) j cs)
  happ : ∀ es xs, app es xs = es ++ xs
  hovl : ovl = ovlReal
  hrep : ∀ n v, rep n v = List.replicate n.toNat v
  hne0 : ∀ n, ne0 n = (n ≠ 0)
  hge0 : ∀ n, ge0 n = (0 ≤ n)
  hinb : ∀ i n, inb i n = (0 ≤ i ∧ i < n)
  hbnd : ∀ l h n, bnd l h n = (0 ≤ l ∧ l ≤ h ∧ h ≤ n)
  hroom : ∀ n b, room n b = (n ≤ 140737488355328 ∧ n.toNat * b ≤ 140737488355328)
  hsroom : ∀ a b, sroom a b = (a.size + b.size ≤ 9223372036854775807)

structure Rules (P : Program) (T : Tr) (W : Nat → List (List Nat)) (ns : List Nat) (ar : BinOp → IntKind → Int → Int → Int) (un : UnOp → IntKind → Int → Int) (cv : IntKind → Int → Int) (mn : Int → Int → Int) (mx : Int → Int → Int) (pl : Int → Int → Int) (mi : Int → Int → Int) (cmp : BinOp → Int → Int → Bool) (nt : Bool → Bool) (beq : Bool → Bool → Bool) (an : Bool → Bool → Bool) (scmp : BinOp → ByteArray → ByteArray → Bool) (cat : ByteArray → ByteArray → ByteArray) (slen : ByteArray → Int) (sbyte : ByteArray → Int → Int) (ssub : ByteArray → Int → Int → ByteArray) (ofB : ByteArray → List V) (toB : List V → ByteArray) (len : List V → Int) (gi : List V → Int → Nat → Int) (gb : List V → Int → Nat → Bool) (gs : List V → Int → Nat → ByteArray) (gl : List V → Int → Nat → List V) (sub : List V → Int → Int → List V) (put : List V → Int → Nat → List V → List V) (app : List V → List V → List V) (ovl : List V → Int → List V → List V) (rep : Int → V → List V) (ne0 : Int → Prop) (ge0 : Int → Prop) (inb : Int → Int → Prop) (bnd : Int → Int → Int → Prop) (room : Int → Nat → Prop) (sroom : ByteArray → ByteArray → Prop) (need : Prop → Prop → Prop) (br : Bool → (Unit → Prop) → (Unit → Prop) → Prop) (call : Nat → List V → (V → Hp → Prop) → Prop) (loop : Code → (Exit → List V → Hp → Prop) → List V → Hp → Prop) (cut : Code → Code → (Exit → List V → Hp → Prop) → List V → Hp → Prop) (nl : List V → (Unit → Prop) → (Unit → Prop) → Prop) : Prop where
  need' : ∀ {p q : Prop}, p → q → need p q
  br' : ∀ {c : Bool} {A B : Unit → Prop}, (c = true → A ()) → (c = false → B ()) → br c A B
  call' : ∀ {f : Nat} {args args' : List V} {K : V → Hp → Prop} {v : V} {h : Hp}, Ab.Fn P T f args' v h → args = args' → K v h → call f args K
  born' : ∀ {b : Code} {K : Exit → List V → Hp → Prop} {tm : List V} {hp : Hp} (t n et : Nat) {e : TE}, tm.getD t .dead = .nil → look hp n = none → T.look et = some e → 0 < e.size → loop b K (tm.set t (.row n)) ((n, .row et []) :: hp) → loop b K tm hp
  bornC' : ∀ {b : Code} {K : Exit → List V → Hp → Prop} {tm : List V} {hp : Hp} (n0 j n et : Nat) {t0 : Nat} {cs : List V} {e : TE}, look hp n0 = some (.cells t0 cs) → cs[j]? = some .nil → look hp n = none → T.look et = some e → 0 < e.size → loop b K tm ((n0, .cells t0 (cs.set j (.row n))) :: (n, .row et []) :: hp) → loop b K tm hp
  nl' : ∀ {es : List V} {A B : Unit → Prop}, (es = [] → A ()) → B () → nl es A B
  cut' : ∀ {a b : Code} {K : Exit → List V → Hp → Prop} {tm : List V} {hp : Hp}, codeOk W a = true → codeOk W b = true → vc ⟨ar, un, cv, mn, mx, pl, mi, cmp, nt, beq, an, scmp, cat, slen, sbyte, ssub, ofB, toB, len, gi, gb, gs, gl, sub, put, app, ovl, rep, ne0, ge0, inb, bnd, room, sroom, need, br, call, loop, cut, nl⟩ T W a (fun e tm hp => match e with | .normal => vc ⟨ar, un, cv, mn, mx, pl, mi, cmp, nt, beq, an, scmp, cat, slen, sbyte, ssub, ofB, toB, len, gi, gb, gs, gl, sub, put, app, ovl, rep, ne0, ge0, inb, bnd, room, sroom, need, br, call, loop, cut, nl⟩ T W b K tm hp | e => K e tm hp) tm hp → cut a b K tm hp
  cutF : ∀ {a b : Code} {K : Exit → List V → Hp → Prop} {tm : List V} {hp : Hp} (n : Nat) (sl : List (Nat × V)) (hs : Hp), codeOk W a = true → codeOk W b = true →
    (∀ L : List V → Hp → Prop, (∀ ρ tm' hp', Fits ns n ρ sl hs tm' hp' → L tm' hp') → vc ⟨ar, un, cv, mn, mx, pl, mi, cmp, nt, beq, an, scmp, cat, slen, sbyte, ssub, ofB, toB, len, gi, gb, gs, gl, sub, put, app, ovl, rep, ne0, ge0, inb, bnd, room, sroom, need, br, call, loop, cut, nl⟩ T W a (fun e tm hp => match e with | .normal => L tm hp | e => K e tm hp) tm hp) →
    vc ⟨ar, un, cv, mn, mx, pl, mi, cmp, nt, beq, an, scmp, cat, slen, sbyte, ssub, ofB, toB, len, gi, gb, gs, gl, sub, put, app, ovl, rep, ne0, ge0, inb, bnd, room, sroom, need, br, call, loop, cut, nl⟩ T W b K (mkS n sl) hs → cut a b K tm hp
  loop' : ∀ {b : Code} {K : Exit → List V → Hp → Prop} {tm : List V} {hp : Hp} {α : Type} (n : Nat) (sl : α → List (Nat × V)) (hs : α → Hp) (I : α → Prop) (μ : α → Nat) (a0 : α) (ρ0 : List (Nat × Nat)), I a0 → Fits ns n ρ0 (sl a0) (hs a0) tm hp → codeOk W b = true →
    (∀ a, I a → ∀ L : List V → Hp → Prop, (∀ a' ρ tm hp, I a' → μ a' < μ a → Fits ns n ρ (sl a') (hs a') tm hp → L tm hp) → vc ⟨ar, un, cv, mn, mx, pl, mi, cmp, nt, beq, an, scmp, cat, slen, sbyte, ssub, ofB, toB, len, gi, gb, gs, gl, sub, put, app, ovl, rep, ne0, ge0, inb, bnd, room, sroom, need, br, call, loop, cut, nl⟩ T W b (fun e tm hp => match e with | .normal => L tm hp | e => K e tm hp) (mkS n (sl a)) (hs a)) → loop b K tm hp

section
variable {P : Program} {T : Tr} {w0 : Base}
theorem fn_rules (htok : TyOk P T) {f : Nat} {fn : Func} {c : Code} (W : Nat → List (List Nat)) {args : List V} {res : V} {post : Hp} (hf : P.funcs[f]? = some fn) (hname : (fn.name == "runtime.NumGoroutine") = false) (hb : fn.body = some c) (hok : codeOk W c = true)
    (h : ∀ ar un cv mn mx pl mi cmp nt beq an scmp cat slen sbyte ssub ofB toB len gi gb gs gl sub put app ovl rep ne0 ge0 inb bnd room sroom need br call loop cut nl, Eqs ar un cv mn mx pl mi cmp nt beq an scmp cat slen sbyte ssub ofB toB len gi gb gs gl sub put app ovl rep ne0 ge0 inb bnd room sroom → Rules P T W [] ar un cv mn mx pl mi cmp nt beq an scmp cat slen sbyte ssub ofB toB len gi gb gs gl sub put app ovl rep ne0 ge0 inb bnd room sroom need br call loop cut nl → ∀ K : V → Hp → Prop, (∀ v h, v = res → h = post → K v h) → vc ⟨ar, un, cv, mn, mx, pl, mi, cmp, nt, beq, an, scmp, cat, slen, sbyte, ssub, ofB, toB, len, gi, gb, gs, gl, sub, put, app, ovl, rep, ne0, ge0, inb, bnd, room, sroom, need, br, call, loop, cut, nl⟩ T W c (retK ⟨ar, un, cv, mn, mx, pl, mi, cmp, nt, beq, an, scmp, cat, slen, sbyte, ssub, ofB, toB, len, gi, gb, gs, gl, sub, put, app, ovl, rep, ne0, ge0, inb, bnd, room, sroom, need, br, call, loop, cut, nl⟩ T fn.results.toList K) (args ++ List.replicate (fn.ntmps - args.length) .dead) []) : Ab.Fn P T f args res post := by
  refine fn_of htok W hf hname hb hok (fun w0 o ho K hK => ?_)
  obtain ⟨ar, un, cv, mn, mx, pl, mi, cmp, nt, beq, an, scmp, cat, slen, sbyte, ssub, ofB, toB, len, gi, gb, gs, gl, sub, put, app, ovl, rep, ne0, ge0, inb, bnd, room, sroom, need, br, call, loop, cut, nl⟩ := o
  refine h _ _ _ _ _ _ _ _ _ _ _ _ _ _ _ _ _ _ _ _ _ _ _ _ _ _ _ _ _ _ _ _ _ _ _ _ _ _ _ _ ?_ ?_ K hK
  · have e := ho.symm
    unfold real at e
    injection e with e_ar e_un e_cv e_mn e_mx e_pl e_mi e_cmp e_nt e_beq e_an e_scmp e_cat e_slen e_sbyte e_ssub e_ofB e_toB e_len e_gi e_gb e_gs e_gl e_sub e_put e_app e_ovl e_rep e_ne0 e_ge0 e_inb e_bnd e_room e_sroom e_need e_br e_call e_loop e_cut e_nl
    subst e_ar e_un e_cv e_mn e_mx e_pl e_mi e_cmp e_nt e_beq e_an e_scmp e_cat e_slen e_sbyte e_ssub e_ofB e_toB e_len e_gi e_gb e_gs e_gl e_sub e_put e_app e_ovl e_rep e_ne0 e_ge0 e_inb e_bnd e_room e_sroom e_need e_br e_call e_loop e_cut e_nl
    constructor <;> intros <;> rfl
  · exact ⟨fun h1 h2 => real_need ho h1 h2, fun h1 h2 => real_br ho h1 h2, fun h1 h2 h3 => by subst h2; exact real_call ho h1 h3, fun t n et _ h1 h2 h3 h4 h5 => real_born ho h1 h2 h3 h4 h5, fun n0 j n et _ _ _ h0 h1 h2 h3 h4 h5 => real_bornC ho h0 h1 h2 h3 h4 h5, fun h1 h2 => real_nl ho h1 h2, fun ha hb h => real_cut ho htok ha hb h, fun n sl hs ha hb h hk => real_cutF ho htok (fun p hp => by cases hp) n sl hs ha hb h hk, fun n sl hs I μ a0 ρ0 h0 h1 h2 h3 => real_loop_ok ho htok (fun p hp => by cases hp) n sl hs I μ a0 ρ0 h0 h1 h2 h3⟩
end
end Go.Ab
end
