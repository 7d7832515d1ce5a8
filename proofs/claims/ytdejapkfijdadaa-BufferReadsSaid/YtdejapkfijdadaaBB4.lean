/- Texts of this seat, merged in build order. No statement of its own. -/
import Derived.RecoverIn
import Derived.Defers
import Derived.DefersIn
import Derived.Test.YtdejapkfijdadaaBB3
set_option linter.unusedVariables false
set_option linter.unusedSimpArgs false
section
namespace Go.Proofs.Ytdejapkfijdadaa
open Go.Ab Go.RowKit
set_option maxRecDepth 100000
theorem i6_eq : i6 = .region 6 #[{ dst := some 23, op := .load 24 (.tmp 1), type := 24, pos := "buffer.go:71", after := #[], guard := none }, { dst := some 24, op := .slice 24 (.tmp 23) none (some (.const (.int .i64 4))) none, type := 24, pos := "buffer.go:71", after := #[{ on := 0, ground := .data }], guard := none }, { dst := some 25, op := .call { callee := .value (.func 78), args := #[(.tmp 24)], argTypes := #[24] }, type := 2, pos := "buffer.go:71", after := #[{ on := 1, ground := .data }], guard := none }, { dst := some 26, op := .load 24 (.tmp 1), type := 24, pos := "buffer.go:71", after := #[], guard := none }, { dst := some 27, op := .slice 24 (.tmp 26) (some (.const (.int .i64 4))) (some (.const (.int .i64 12))) none, type := 24, pos := "buffer.go:71", after := #[{ on := 3, ground := .data }], guard := none }, { dst := some 28, op := .call { callee := .value (.func 78), args := #[(.tmp 27)], argTypes := #[24] }, type := 2, pos := "buffer.go:71", after := #[{ on := 4, ground := .data }, { on := 2, ground := .chain }], guard := none }, { dst := some 29, op := .load 24 (.tmp 1), type := 24, pos := "buffer.go:71", after := #[], guard := none }, { dst := some 30, op := .move (.tmp 3), type := 3, pos := "buffer.go:71", after := #[], guard := none }, { dst := some 31, op := .move (.tmp 3), type := 3, pos := "buffer.go:71", after := #[], guard := none }, { dst := some 32, op := .slice 24 (.tmp 29) (some (.const (.int .i64 14))) (some (.tmp 30)) (some (.tmp 31)), type := 24, pos := "buffer.go:71", after := #[{ on := 6, ground := .data }, { on := 7, ground := .data }, { on := 8, ground := .data }], guard := none }, { dst := some 33, op := .build 33 #[(0, (.tmp 25)), (1, (.tmp 28)), (2, (.tmp 32))], type := 33, pos := "buffer.go:71", after := #[{ on := 2, ground := .data }, { on := 5, ground := .data }, { on := 9, ground := .data }], guard := none }, { dst := some 4, op := .alloc 33, type := 0, pos := "buffer.go:71", after := #[], guard := none }, { dst := none, op := .store 33 (.tmp 4) (.tmp 33), type := 0, pos := "buffer.go:71", after := #[{ on := 11, ground := .data }, { on := 10, ground := .data }, { on := 5, ground := .chain }, { on := 0, ground := .phase }, { on := 1, ground := .phase }, { on := 2, ground := .phase }, { on := 3, ground := .phase }, { on := 4, ground := .phase }, { on := 5, ground := .phase }, { on := 6, ground := .phase }, { on := 7, ground := .phase }, { on := 8, ground := .phase }, { on := 9, ground := .phase }, { on := 10, ground := .phase }, { on := 11, ground := .phase }], guard := none }] true := by kernel_rfl
theorem b7_full : b7 = .seq (.seq (.region 7 #[{ dst := some 34, op := .load 33 (.tmp 4), type := 33, pos := "buffer.go:72", after := #[], guard := none }, { dst := some 35, op := .call { callee := .value (.func 45), args := #[(.tmp 34)], argTypes := #[33] }, type := 4, pos := "buffer.go:72", after := #[{ on := 0, ground := .data }], guard := none }, { dst := some 36, op := .unOp .not 4 (.tmp 35), type := 4, pos := "buffer.go:72", after := #[{ on := 1, ground := .data }], guard := none }] false) (.cond (.tmp 36) (.region 8 #[{ dst := some 37, op := .build 116 #[], type := 116, pos := "buffer.go:73", after := #[], guard := none }, { dst := some 38, op := .makeInterface 116 (.tmp 37), type := 20, pos := "buffer.go:73", after := #[{ on := 0, ground := .data }], guard := none }, { dst := none, op := .panic (.tmp 38), type := 0, pos := "buffer.go:73", after := #[{ on := 1, ground := .data }], guard := none }] false) .skip)) (.seq (.region 9 #[{ dst := some 39, op := .load 24 (.tmp 1), type := 24, pos := "buffer.go:75", after := #[], guard := none }, { dst := some 40, op := .move (.tmp 3), type := 3, pos := "buffer.go:75", after := #[], guard := none }, { dst := some 41, op := .slice 24 (.tmp 39) (some (.tmp 40)) none none, type := 24, pos := "buffer.go:75", after := #[{ on := 0, ground := .data }, { on := 1, ground := .data }], guard := none }, { dst := none, op := .store 24 (.tmp 1) (.tmp 41), type := 0, pos := "buffer.go:75", after := #[{ on := 2, ground := .data }, { on := 0, ground := .phase }, { on := 1, ground := .phase }, { on := 2, ground := .phase }], guard := none }] false) (.seq (.region 10 #[{ dst := some 42, op := .move (.tmp 0), type := 85, pos := "buffer.go:76", after := #[], guard := none }, { dst := some 43, op := .load 33 (.tmp 4), type := 33, pos := "buffer.go:76", after := #[], guard := none }, { dst := some 44, op := .call { callee := .value (.tmp 42), args := #[(.tmp 43)], argTypes := #[33] }, type := 4, pos := "buffer.go:76", after := #[{ on := 0, ground := .data }, { on := 1, ground := .data }], guard := none }, { dst := some 45, op := .unOp .not 4 (.tmp 44), type := 4, pos := "buffer.go:76", after := #[{ on := 2, ground := .data }], guard := none }] false) (.cond (.tmp 45) .ret .skip))) := by kernel_rfl
/-- Where the record number n begins. -/
def off (l : List V) : Nat → Nat
  | 0 => 0
  | n + 1 => match rec1 (l.drop (off l n)) with
    | some (_, _, k) => off l n + (14 + k)
    | none => off l n
theorem off_some {l : List V} {n k : Nat} {id t : Int} (h : rec1 (l.drop (off l n)) = some (id, t, k)) : off l (n + 1) = off l n + (14 + k) := by
  show (match rec1 (l.drop (off l n)) with
    | some (_, _, k) => off l n + (14 + k)
    | none => off l n) = _
  rw [h]
theorem rec1_len {l : List V} {k : Nat} {id t : Int} (h : rec1 l = some (id, t, k)) : 14 + k ≤ l.length := by
  unfold rec1 at h
  split at h
  · cases h
  · simp only at h
    split at h
    · rename_i h2
      injection h with h
      injection h with _ h
      injection h with _ h
      subst h
      exact h2.1
    · cases h
def StR (l : List V) (pre : List (Int × Int × Value)) (x : Int × Int × Value) (W : World) : Prop :=
  ∃ k, rec1 (l.drop (off l pre.length)) = some (x.1, x.2.1, k) ∧ rel TT (fun _ => none) W (fun j => j < W.heap.size) (.sl 5 ((l.drop (off l pre.length + 14)).take k)) x.2.2
def bad : List PanicEntry := [{ v := .iface 116 (.agg #[]), recovered := false }]
def measC (Bn : Nat) (w : World) : Nat := match w.heap[Bn]? with
  | some (.cells cs _ _) => match cs.getD 0 undef with
    | .slice _ m _ => m
    | _ => 0
  | _ => 0
theorem measC_eq {Bn m c t : Nat} {A : Option Addr} {fz : Nat × Nat} {w : World} (h : w.heap[Bn]? = some (.cells #[.slice A m c] t fz)) : measC Bn w = m := by
  unfold measC
  rw [h]
  rfl
def ItI (l : List V) (A0 : Option Addr) (c0 Bn lx : Nat) (J : List (Int × Int × Value) → World → Prop) (a : Act) (w : World) : Prop :=
  ∃ pre : List (Int × Int × Value), J pre w ∧ off l pre.length ≤ l.length ∧ BoxAt Bn A0 l c0 (off l pre.length) w ∧ a.defers = [] ∧ a.tmps.size = 46 ∧ a.tmps.getD 0 undef = .func (.yield lx) #[] #[] ∧ a.tmps.getD 1 undef = .pointer (some ⟨Bn, 0, none⟩)
set_option maxHeartbeats 40000000 in
theorem it_walk (l : List V) (hb : ∀ v ∈ l, ByteV v) (hlm : l.length ≤ maxLen) (A0 : Option Addr) (c0 Bn : Nat) (hlc : l.length ≤ c0) (lx : Nat) (J Jx : List (Int × Int × Value) → World → Prop) (W : World)
    (hJR : ∀ pre W, J pre W → RdW Bn A0 l W) (hJb : ∀ pre W W', J pre W → Below W.heap.size W W' → J pre W') (hJo : ∀ pre W o, J pre W → J pre (W.putObj Bn o))
    (hY : ∀ pre x W1, J pre W1 → StR l pre x W1 → YieldAt Fence.wide (0 - 1) Try.prog lx (encR x) W1 fun e W' => (e = .returned (.bool true) ∧ W'.heap[Bn]? = W1.heap[Bn]? ∧ J (pre ++ [x]) W') ∨ (e = .returned (.bool false) ∧ Jx (pre ++ [x]) W'))
    (h0 : J [] W) (hbx0 : W.heap[Bn]? = some (.cells #[.slice A0 l.length c0] 24 (0, 0))) (Rf : Ending → World → Prop)
    (hend : ∀ v xs W', off l xs.length = l.length → J xs W' → Rf (.returned v) W') (hstop : ∀ v pre W', Jx pre W' → Rf (.returned v) W') (hbad : ∀ pre W', off l pre.length < l.length → rec1 (l.drop (off l pre.length)) = none → J pre W' → Rf (.panicked bad) W') :
    CallsIn Fence.wide 0 Try.prog 79 #[.func (.yield lx) #[] #[], .pointer (some ⟨Bn, 0, none⟩)] W Rf := by
  have HY := Aside0.mk hY
  have HJ := Aside0.mk (And.intro hJR (And.intro hJb hJo))
  have HB := Aside0.mk hb
  have HF := Aside0.mk (And.intro hend (And.intro hstop hbad))
  clear hY hJR hJb hJo hb hend hstop hbad
  refine callsIn_of_wp Try.func79 rfl trivial ?_ rfl
  simp only [Try.ntmps79, List.size_toArray, List.length_cons, List.length_nil, Nat.reduceAdd, Nat.reduceSub, Array.replicate_succ, Array.replicate_zero, List.push_toArray, List.append_toArray, List.nil_append, List.cons_append]
  have hpn : ∀ (t : Nat) (v : Value) (w : World), (Instr.panic (.iface t v)).run Try.prog w = .halt (.panic (.iface t v)) w := fun _ _ _ => rfl
  gi_wp2
  refine wpIn_loop (ItI l A0 c0 Bn lx J) (fun _ w => measC Bn w) ⟨[], h0, Nat.zero_le _, ⟨A0, hbx0, fun _ => by cases A0 <;> rfl⟩, rfl, rfl, rfl, rfl⟩ ?_
  rintro ⟨u, df⟩ wr ⟨pre, hJ, ho, ⟨A, hbx, hA⟩, hd, hsz, g0, g1⟩
  simp only at hd hsz g0 g1
  subst hd
  obtain ⟨o, hoo⟩ : ∃ o, off l pre.length = o := ⟨_, rfl⟩
  rw [hoo] at ho hbx hA
  have hR := HJ.out.1 _ _ hJ
  have z0 : wr.cell? ⟨Bn, 0, none⟩ = some (.slice A (l.length - o) (c0 - o)) := (blk_cell hbx 0).trans rfl
  have f0 := blk_frozen hbx 0
  obtain ⟨m, hm⟩ : ∃ m, l.length - o = m := ⟨_, rfl⟩
  obtain ⟨c, hc⟩ : ∃ c, c0 - o = c := ⟨_, rfl⟩
  rw [hm, hc] at z0 hbx
  rw [arr46 hsz]
  generalize u.getD 0 undef = u0 at *
  generalize u.getD 1 undef = u1 at *
  generalize u.getD 2 undef = u2 at *
  generalize u.getD 3 undef = u3 at *
  generalize u.getD 4 undef = u4 at *
  generalize u.getD 5 undef = u5 at *
  generalize u.getD 6 undef = u6 at *
  generalize u.getD 7 undef = u7 at *
  generalize u.getD 8 undef = u8 at *
  generalize u.getD 9 undef = u9 at *
  generalize u.getD 10 undef = u10 at *
  generalize u.getD 11 undef = u11 at *
  generalize u.getD 12 undef = u12 at *
  generalize u.getD 13 undef = u13 at *
  generalize u.getD 14 undef = u14 at *
  generalize u.getD 15 undef = u15 at *
  generalize u.getD 16 undef = u16 at *
  generalize u.getD 17 undef = u17 at *
  generalize u.getD 18 undef = u18 at *
  generalize u.getD 19 undef = u19 at *
  generalize u.getD 20 undef = u20 at *
  generalize u.getD 21 undef = u21 at *
  generalize u.getD 22 undef = u22 at *
  generalize u.getD 23 undef = u23 at *
  generalize u.getD 24 undef = u24 at *
  generalize u.getD 25 undef = u25 at *
  generalize u.getD 26 undef = u26 at *
  generalize u.getD 27 undef = u27 at *
  generalize u.getD 28 undef = u28 at *
  generalize u.getD 29 undef = u29 at *
  generalize u.getD 30 undef = u30 at *
  generalize u.getD 31 undef = u31 at *
  generalize u.getD 32 undef = u32 at *
  generalize u.getD 33 undef = u33 at *
  generalize u.getD 34 undef = u34 at *
  generalize u.getD 35 undef = u35 at *
  generalize u.getD 36 undef = u36 at *
  generalize u.getD 37 undef = u37 at *
  generalize u.getD 38 undef = u38 at *
  generalize u.getD 39 undef = u39 at *
  generalize u.getD 40 undef = u40 at *
  generalize u.getD 41 undef = u41 at *
  generalize u.getD 42 undef = u42 at *
  generalize u.getD 43 undef = u43 at *
  generalize u.getD 44 undef = u44 at *
  generalize u.getD 45 undef = u45 at *
  subst g0 g1
  have hmeas : measC Bn wr = m := measC_eq hbx
  clear hsz h0 hbx0
  by_cases h1 : 0 < m
  · by_cases h2 : m < 14
    · have e1 : decide (0 < (m : Int)) = true := decide_eq_true (by omega)
      have e2 : decide ((m : Int) < 14) = true := decide_eq_true (by omega)
      have AS := Aside0.mk (And.intro hJ (And.intro hoo (And.intro hm (And.intro hc (And.intro hA (And.intro hR (And.intro hlm (And.intro hlc hmeas))))))))
      clear hJ hoo hm hc hA hR hlm hlc hmeas
      gi_wp2
      refine ⟨rfl, HF.out.2.2 pre wr (by rw [AS.out.2.1]; have := AS.out.2.2.1; omega) ?_ AS.out.1⟩
      unfold rec1
      rw [if_pos (by rw [AS.out.2.1, List.length_drop]; have := AS.out.2.2.1; omega)]
    · have e1 : decide (0 < (m : Int)) = true := decide_eq_true (by omega)
      have e2 : decide ((m : Int) < 14) = false := decide_eq_false (by omega)
      have e3 : ¬ ((c : Int) < 14) := by omega
      have e3' : ¬ (c < 14) := by omega
      have e4 : ¬ (c = 12) := by omega
      have HN : ∃ k : Nat, k < 65536 ∧ w64 (numN ((l.drop (o + 12)).take 2)) = k ∧ numN ((l.drop (o + 12)).take 2) = k := by
        have h9 := numN_lt (l := (l.drop (o + 12)).take 2) (fun v hv => HB.out v (List.mem_of_mem_drop (List.mem_of_mem_take hv)))
        have h8 : ((l.drop (o + 12)).take 2).length = 2 := by simp; omega
        rw [h8] at h9
        exact ⟨_, h9, w64_small (by omega) (by omega), rfl⟩
      obtain ⟨k, hk, hkn⟩ := HN
      have e5 : (k : Int) ≤ 65535 := by omega
      have e6 : (0 : Int) ≤ k := by omega
      have hmc : m ≤ c := by omega
      have AS := Aside0.mk (And.intro hJ (And.intro hoo (And.intro hm (And.intro hc (And.intro hA (And.intro hR (And.intro hlm (And.intro hlc (And.intro hkn (And.intro hmeas hmc))))))))))
      clear hJ hoo hm hc hA hkn hR hlm hlc hmeas hmc
      gi_wp2_with (refine ⟨trivial, rfl, ?_⟩; gi_at_call 78; refine (num_calls (l := (l.drop (o + 12)).take 2) (fun v hv => HB.out v (List.mem_of_mem_drop (List.mem_of_mem_take hv))) (by simp; omega) ?_).mono ?_; rotate_left; rintro e w1 ⟨rfl, hb1⟩; rw [AS.out.2.2.2.2.2.2.2.2.1.1]; have HB1 := Aside0.mk hb1; have hbx1 := (hb1.block Bn (Array.getElem?_eq_some_iff.1 hbx).1).trans hbx; have z1 : w1.cell? ⟨Bn, 0, none⟩ = some (.slice A m c) := (blk_cell hbx1 0).trans rfl; have f1 := blk_frozen hbx1 0; clear hb1)
      · have hJ1 := HJ.out.2.1 _ _ _ AS.out.1 HB1.out
        refine ⟨rfl, HF.out.2.2 pre w1 (by rw [AS.out.2.1]; have := AS.out.2.2.1; omega) ?_ hJ1⟩
        have hkn := AS.out.2.2.2.2.2.2.2.2.1.2
        have hml := AS.out.2.2.1
        unfold rec1
        rw [AS.out.2.1, if_neg (by rw [List.length_drop]; omega)]
        simp only [List.drop_drop, hkn]
        rw [if_neg (fun h => by have := h.1; rw [List.length_drop] at this; omega)]
      · rename_i K hK hle
        rw [← b7_full] at hK
        have hJ1 := HJ.out.2.1 _ _ _ AS.out.1 HB1.out
        have hml := AS.out.2.2.1
        have hA := AS.out.2.2.2.2.1
        have hcc := AS.out.2.2.2.1
        have hoo := AS.out.2.1
        have hrr : rel TT (fun _ => none) w1 (oldS w1) (.sl 5 (l.drop o)) (.slice A m c) := by
          have := rel_part HB.out (HJ.out.1 _ _ hJ1) o m c (by omega) AS.out.2.2.2.2.2.2.2.2.2.2 AS.out.2.2.2.2.2.2.1 A (fun _ => hA (by omega))
          rwa [List.take_of_length_le (by rw [List.length_drop]; omega)] at this
        rw [← i6_eq]
        refine it_tail (Bn := Bn) (m := m) (c := c) (lx := lx) (k := k) (A := A) (L := l.drop o) (w := w1) (K := K) rfl rfl rfl (by simp) (fun v hv => HB.out v (List.mem_of_mem_drop hv)) hbx1 hrr (by rw [List.length_drop]; omega) AS.out.2.2.2.2.2.2.2.2.2.2 (by rw [List.length_drop]; omega)
          (by rw [List.drop_drop]; exact AS.out.2.2.2.2.2.2.2.2.1.2) hK ?_ ?_
        · intro hr1 a w' hd hbl
          exact ⟨hd, HF.out.2.2 pre w' (by rw [hoo]; omega) (by rw [hoo]; exact hr1) (HJ.out.2.1 _ _ _ hJ1 hbl)⟩
        · intro id t y w2 A' c' hr1 hbl hc' hA' hry
          have hJ2 := HJ.out.2.1 _ _ _ (HJ.out.2.2 _ _ (.cells #[.slice A' (m - (14 + k)) c'] 24 (0, 0)) hJ1) (by rw [World.putObj_size]; exact hbl)
          have hlt : Bn < w1.heap.size := (Array.getElem?_eq_some_iff.1 hbx1).1
          have hbx2 : w2.heap[Bn]? = some (.cells #[.slice A' (m - (14 + k)) c'] 24 (0, 0)) := (hbl.block Bn hlt).trans (World.putObj_heap_same hlt)
          have hlen := rec1_len hr1
          rw [List.length_drop] at hlen
          have hoff : off l (pre ++ [(id, t, y)]).length = o + (14 + k) := by
            rw [List.length_append]
            show off l (pre.length + 1) = _
            rw [off_some (by rw [hoo]; exact hr1), hoo]
          refine ⟨_, HY.out pre (id, t, y) w2 hJ2 ⟨k, by rw [hoo]; exact hr1, by rw [hoo]; rw [List.drop_drop] at hry; exact hry⟩, ?_⟩
          rintro e w' (⟨rfl, hh, hJ3⟩ | ⟨rfl, hJx⟩)
          · refine ⟨true, rfl, fun a ha1 ha2 ha3 ha4 ha5 => ?_⟩
            rw [c10_eq]
            refine wpIn_cond_false (by simpa [Act.eval] using ha5) (wpIn_skip ?_)
            have hbx3 := hh.trans hbx2
            refine ⟨⟨pre ++ [(id, t, y)], hJ3, by rw [hoff]; omega, ⟨A', by rw [hoff, hbx3, hc', ← hml, ← hcc, Nat.sub_sub, Nat.sub_sub], fun hlt2 => ?_⟩, ha1, ha2, ha3, ha4⟩, ?_⟩
            · rw [hoff] at hlt2 ⊢
              rw [hA' (by omega), hA (by omega)]
              cases A0 with
              | none => rfl
              | some ad => simp only [Option.map_some, Addr.add_add]
            · show measC Bn w' < measC Bn wr
              rw [measC_eq hbx3, AS.out.2.2.2.2.2.2.2.2.2.1]
              omega
          · refine ⟨false, rfl, fun a ha1 ha2 ha3 ha4 ha5 => ?_⟩
            rw [c10_eq]
            refine wpIn_cond_true (by simpa [Act.eval] using ha5) (wpIn_ret ?_)
            exact bodyPost_ret (results_none rfl _ _ _) ha1 (HF.out.2.1 _ _ _ hJx)
      · have hA := AS.out.2.2.2.2.1 (by have := AS.out.2.2.1; omega)
        refine rel_part HB.out AS.out.2.2.2.2.2.1 (o + 12) 2 (c - 12) (by have := AS.out.2.2.1; omega) (by omega) AS.out.2.2.2.2.2.2.1 _ (fun _ => ?_)
        rw [hA]
        cases A0 with
        | none => rfl
        | some ad => simp [Addr.add]; try (split <;> simp <;> omega)
  · obtain rfl : m = 0 := by omega
    have e1 : decide (0 < ((0 : Nat) : Int)) = false := by decide
    have AS := Aside0.mk (And.intro hJ (And.intro hoo (And.intro hm ho)))
    clear hJ hoo hm hc hA hR hlm hlc
    gi_wp2
    go_end0
    exact HF.out.1 _ pre wr (by rw [AS.out.2.1]; have := AS.out.2.2.1; have := AS.out.2.2.2; omega) AS.out.1
theorem it_gives (l : List V) (hb : ∀ v ∈ l, ByteV v) (hlm : l.length ≤ maxLen) (A0 : Option Addr) (c0 Bn : Nat) (hlc : l.length ≤ c0) :
    IterGivesB Fence.wide 0 Try.prog 79 #[.pointer (some ⟨Bn, 0, none⟩)] encR Bn (.cells #[.slice A0 l.length c0] 24 (0, 0)) (RdW Bn A0 l) (StR l) (fun xs => off l xs.length = l.length) (fun ch pre => ch = bad ∧ off l pre.length < l.length ∧ rec1 (l.drop (off l pre.length)) = none) := by
  intro lx J Jx W hJR hJb hJo hY h0 hbx0
  exact it_walk l hb hlm A0 c0 Bn hlc lx J Jx W hJR hJb hJo hY h0 hbx0 _ (fun v xs W' h1 h2 => .inl ⟨v, rfl, xs, h1, h2⟩) (fun v pre W' h => .inr (.inl ⟨v, rfl, pre, W', h, Below.refl _ _⟩)) (fun pre W' h1 h2 h3 => .inr (.inr ⟨bad, pre, rfl, ⟨rfl, h1, h2⟩, h3⟩))
end Go.Proofs.Ytdejapkfijdadaa
end
section
namespace Go.Proofs.Ytdejapkfijdadaa
open Go.Ab Go.RowKit
theorem caught_idle (p : Addr) (w : World) :
    CallsDIn Fence.wide 0 Try.prog 71 #[.pointer (some p)] .returning w fun e u' w' => e = .returned (.tuple #[]) ∧ u' = .returning ∧ w' = w := by
  refine callsDIn_of_wpSIn Try.func71 rfl trivial fun c₀ cs hu => ?_
  apply wpSIn_seq
  apply wpSIn_region
  simp [wpOpsSIn, go_sem, recoverD, hu, Try.ntmps71, Exit.thenS]
  refine wpSIn_of_wpIn rfl ?_
  gi_wp2
  cases c₀
  simp_all [bodyPostS, results, Try.results71]
set_option maxRecDepth 100000 in
set_option maxHeartbeats 1000000 in
theorem caught_panicking (b : Nat) (v0 : Bool) (older : List PanicEntry) (w : World) (hc : w.heap[b]? = some (.cells #[.bool v0] 4 (0, 0))) :
    CallsDIn Fence.wide 0 Try.prog 71 #[.pointer (some ⟨b, 0, none⟩)] (.panicking ({ v := .iface 116 (.agg #[]), recovered := false } :: older)) w fun e u' w' =>
      e = .returned (.tuple #[]) ∧ u' = .panicking ({ v := .iface 116 (.agg #[]), recovered := true } :: older) ∧ w' = (w.setCell ⟨b, 0, none⟩ (.bool false)).alloc (.cells #[] 116) := by
  have hlt := (Array.getElem?_eq_some_iff.1 hc).1
  have z0 : w.cell? ⟨b, 0, none⟩ = some (.bool v0) := (blk_cell hc 0).trans rfl
  have f0 := blk_frozen hc 0
  have hta : ∀ (v : Value) (w : World), (Instr.typeAssert (.iface 116 v) 20 116 true).run Try.prog w = .ok (.tuple #[v, .bool true]) w := fun v w => by
    simp only [Instr.typeAssert, Sem.run_bind, run_underlying Try.underlying116, Result.andThen_ok]
    rfl
  clear hc
  refine callsDIn_of_wpSIn Try.func71 rfl trivial fun c₀ cs hu => ?_
  simp only [Try.ntmps71, List.size_toArray, List.length_cons, List.length_nil, Nat.reduceAdd, Nat.reduceSub, Array.replicate_succ, Array.replicate_zero, List.push_toArray, List.append_toArray, List.nil_append, List.cons_append]
  apply wpSIn_seq
  apply wpSIn_region
  simp [wpOpsSIn, go_sem, recoverD, hu, Exit.thenS]
  refine wpSIn_of_wpIn rfl ?_
  gi_wp2
  cases c₀
  simp_all [bodyPostS, results, Try.results71]
end Go.Proofs.Ytdejapkfijdadaa
end
section
namespace Go.Proofs.Ytdejapkfijdadaa
open Go.Ab Go.RowKit
set_option maxRecDepth 100000
attribute [local go_sem] Oper.semAt_some
theorem hok_frame {T : Tr} {φ : Nat → Option Ab.Loc} {b0 : Nat → Prop} {w w' : World} {S : Nat → Prop} {hp : Hp} (h : HOk T φ b0 w S hp) (hs : w.heap.size ≤ w'.heap.size) (hw : ∀ k, k < w.heap.size → (S k ∨ ¬ b0 k) → w'.heap[k]? = w.heap[k]?) : HOk T φ b0 w' S hp := by
  have hS : ∀ k, S k → w'.heap[k]? = w.heap[k]? := fun k hk => hw k (h.old k hk) (.inl hk)
  refine ⟨h.dom, fun n b hb => ?_, fun n b l B h1 h2 h3 h4 => ?_, h.inj, fun k hk => Nat.lt_of_lt_of_le (h.old k hk) hs⟩
  · have hO : b.own = true → ∀ l B, φ n = some l → l.blk = some B → w'.heap[B]? = w.heap[B]? := fun ho l B e1 e2 => by
      obtain ⟨a1, a2, a3⟩ := h.own n _ l B hb ho e1 e2
      exact hw B a2 (.inr a1)
    have q := h.blk n b hb
    cases b with
    | cells t cs =>
      simp only [BlkOk] at q ⊢
      obtain ⟨B, arr, e1, e2, e3, e4⟩ := q
      exact ⟨B, arr, e1, (hO rfl _ B e1 rfl).trans e2, relL_mono (LocLe.refl _) hS (fun _ h => h) _ _ e3, e4⟩
    | row et es =>
      simp only [BlkOk] at q ⊢
      obtain ⟨q1, e, q2, q3, q4⟩ := q
      refine ⟨q1, e, q2, q3, q4.imp (fun ⟨B, off, room, arr, e1, e2, e3, e4, e5, e6⟩ => ⟨B, off, room, arr, e1, (hO rfl _ B e1 rfl).trans e2, e3, e4, e5, fun k v hv => ?_⟩) id⟩
      obtain ⟨x, a1, a2, a3, a4⟩ := e6 k v hv
      exact ⟨x, rel_mono (LocLe.refl _) hS (fun _ h => h) _ _ a1, a2, a3, a4⟩
    | ro et es =>
      simp only [BlkOk] at q ⊢
      obtain ⟨q1, e, q2, q3, q4⟩ := q
      refine ⟨q1, e, q2, q3, q4.imp (fun ⟨B, off, room, arr, fz, e1, e0, e2, e4, e5, e6⟩ => ⟨B, off, room, arr, fz, e1, e0, (hS B e0).trans e2, e4, e5, fun k v hv => ?_⟩) id⟩
      obtain ⟨x, a1, a2, a3, a4⟩ := e6 k v hv
      exact ⟨x, rel_mono (LocLe.refl _) hS (fun _ h => h) _ _ a1, a2, a3, a4⟩
    | mb t L =>
      simp only [BlkOk] at q ⊢
      obtain ⟨B, es, c, e1, e2, e3⟩ := q
      exact ⟨B, es, c, e1, (hO rfl _ B e1 rfl).trans e2, e3⟩
    | gone => trivial
  · obtain ⟨a1, a2, a3⟩ := h.own n b l B h1 h2 h3 h4
    exact ⟨a1, Nat.lt_of_lt_of_le a2 hs, a3⟩
theorem clone_fresh {n : Nat} {W : World} {es : List V} {x : Value} (hb : ∀ v ∈ es, ByteV v) (hl : es.length ≤ 140737488355328) (hx : rel TT (fun _ => none) W (oldS W) (.sl 5 es) x) :
    CallsIn Fence.wide n Try.prog 54 #[x] W fun e w' => ∃ Ay ny cy φ, e = .returned (.slice Ay ny cy) ∧ Below W.heap.size W w' ∧ HOk TT φ (oldZ W) w' (fun _ => False) [(0, .row 5 es)] ∧ rel TT φ w' (fun _ => False) (.row 0) (.slice Ay ny cy) := by
  refine callsIn_wide.2 ?_
  have h := (w54 es _ (s54 es hl)) W (oldS W) [x] (fun _ h => h) (gok W) (by simp only [relL]; exact ⟨x, [], rfl, hx, rfl⟩)
  refine Calls.weaken (h.calls ⟨_, _, Try.func54, by kernel_rfl, w54_h⟩) (fun e w' ⟨y, φ, S, h1, h2, h3, h4, _⟩ => ?_)
  have hsl : ∃ Ay ny cy, y = .slice Ay ny cy := by
    simp only [rel] at h4
    rcases h4 with ⟨B, off, len, room, sz, cap, _, e1, _⟩ | ⟨_, A, e1⟩
    · exact ⟨_, _, _, e1⟩
    · exact ⟨_, _, _, e1⟩
  obtain ⟨Ay, ny, cy, rfl⟩ := hsl
  refine ⟨Ay, ny, cy, φ, h1, h2.below, ⟨h3.dom, fun n b hb' => ?_, fun n b l B e1 e2 e3 e4 => ⟨(h3.own n b l B e1 e2 e3 e4).1, (h3.own n b l B e1 e2 e3 e4).2.1, fun h => h⟩, h3.inj, fun k h => h.elim⟩, by simp only [rel] at h4 ⊢; exact h4⟩
  have q := h3.blk n b hb'
  have : b = .row 5 es := by
    simp only [look_cons, look] at hb'
    split at hb'
    · exact (Option.some.inj hb').symm
    · cases hb'
  subst this
  simp only [BlkOk] at q ⊢
  obtain ⟨q1, e, q2, q3, q4⟩ := q
  refine ⟨q1, e, q2, q3, q4.imp (fun ⟨B, off, room, arr, e1, e2, e3, e4, e5, e6⟩ => ⟨B, off, room, arr, e1, e2, e3, e4, e5, fun k v hv => ?_⟩) id⟩
  obtain ⟨x, a1, a2, a3, a4⟩ := e6 k v hv
  exact ⟨x, relByte (hb v (List.mem_of_getElem? hv)) a1, a2, a3, a4⟩
theorem records_calls (A0 : Option Addr) (n c0 : Nat) (w : World) : CallsIn Fence.wide 0 Try.prog 72 #[.slice A0 n c0] w fun e w' => e = .returned (.func (.func 79) #[] #[.pointer (some ⟨w.heap.size, 0, none⟩)]) ∧ w' = w.alloc (.cells #[.slice A0 n c0] 24) := by
  have hmf : ∀ (fn : Fn) (first cap : Array Value) (w : World), (Instr.makeFunc fn first cap).run Try.prog w = .ok (.func fn first cap) w := fun _ _ _ _ => rfl
  refine callsIn_wide.2 ?_
  go_enter Try.func72, Try.ntmps72
  go_wp2
  go_ret
  exact ⟨rfl, rfl⟩
theorem enters_of {P : Program} {f : Nat} {fn : Func} (hf : P.funcs[f]? = some fn) (hn : (fn.name == "runtime.NumGoroutine") = false) {c : Code} (hb : fn.body = some c) (args : Array Value) (w : World) : (callFunc f args).run P w = .ok (.enter f args) w := by
  simp [callFunc, hf, hb]
  intro h
  rw [h] at hn
  cases hn
theorem arr17 {t : Array Value} (h : t.size = 17) : t = #[t.getD 0 undef, t.getD 1 undef, t.getD 2 undef, t.getD 3 undef, t.getD 4 undef, t.getD 5 undef, t.getD 6 undef, t.getD 7 undef, t.getD 8 undef, t.getD 9 undef, t.getD 10 undef, t.getD 11 undef, t.getD 12 undef, t.getD 13 undef, t.getD 14 undef, t.getD 15 undef, t.getD 16 undef] := by
  refine Array.ext (by simp [h]) (fun i h1 h2 => ?_)
  have : i < 17 := by omega
  match i, this with
  | 0, _ => simp [Array.getD, h]
  | 1, _ => simp [Array.getD, h]
  | 2, _ => simp [Array.getD, h]
  | 3, _ => simp [Array.getD, h]
  | 4, _ => simp [Array.getD, h]
  | 5, _ => simp [Array.getD, h]
  | 6, _ => simp [Array.getD, h]
  | 7, _ => simp [Array.getD, h]
  | 8, _ => simp [Array.getD, h]
  | 9, _ => simp [Array.getD, h]
  | 10, _ => simp [Array.getD, h]
  | 11, _ => simp [Array.getD, h]
  | 12, _ => simp [Array.getD, h]
  | 13, _ => simp [Array.getD, h]
  | 14, _ => simp [Array.getD, h]
  | 15, _ => simp [Array.getD, h]
  | 16, _ => simp [Array.getD, h]
  | n + 17, h => omega
set_option maxHeartbeats 4000000
theorem r4_ok {l : Nat} {Q : Exit → Act → World → Prop} (u : Array Value) (hu : u.size = 17) {Br : Nat} {id t : Int} {v : Value} {es : List V} {w : World} (h4 : u.getD 4 undef = .pointer (some ⟨Br, 0, none⟩)) (hbr : w.heap[Br]? = some (.cells #[.int .i64 id, .int .i64 t, v] 33 (0, 0)))
    (hb : ∀ v ∈ es, ByteV v) (hl : es.length ≤ 140737488355328) (hx : rel TT (fun _ => none) w (oldS w) (.sl 5 es) v)
    (h : ∀ (a : Act) Ay ny cy φ w', a.defers = [] → a.tmps.size = 17 → a.tmps.getD 2 undef = u.getD 2 undef → a.tmps.getD 4 undef = u.getD 4 undef → Below w.heap.size w w' → HOk TT φ (oldZ w) w' (fun _ => False) [(0, .row 5 es)] → rel TT φ w' (fun _ => False) (.row 0) (.slice Ay ny cy) → Q .normal a (w'.setCell ⟨Br, 2, none⟩ (.slice Ay ny cy))) :
    (Code.wpIn (Fence.wide.inRound l) 0 Try.prog (.region 4 #[{ dst := some 8, op := .fieldAddr 33 (.tmp 4) 2, type := 0, pos := "buffer.go:87", after := #[], guard := none }, { dst := some 9, op := .load 24 (.tmp 8), type := 24, pos := "buffer.go:87", after := #[{ on := 0, ground := .data }], guard := none }, { dst := some 10, op := .call { callee := .value (.func 54), args := #[(.tmp 9)], argTypes := #[24] }, type := 24, pos := "buffer.go:87", after := #[{ on := 1, ground := .data }], guard := none }, { dst := some 11, op := .fieldAddr 33 (.tmp 4) 2, type := 0, pos := "buffer.go:87", after := #[{ on := 0, ground := .phase }, { on := 1, ground := .phase }, { on := 2, ground := .phase }], guard := none }, { dst := none, op := .store 24 (.tmp 11) (.tmp 10), type := 0, pos := "buffer.go:87", after := #[{ on := 3, ground := .data }, { on := 2, ground := .data }, { on := 2, ground := .chain }, { on := 0, ground := .phase }, { on := 1, ground := .phase }, { on := 2, ground := .phase }], guard := none }] false) Q { tmps := u, defers := [] } w) := by
  have z0 : w.cell? ⟨Br, 2, none⟩ = some v := (blk_cell hbr 2).trans rfl
  have H := Aside0.mk h
  have HX := Aside0.mk (And.intro hb (And.intro hl (And.intro hx hbr)))
  clear h hb hl hx
  have hrw := arr17 hu
  rw [hrw]
  clear hrw hbr
  generalize hu0 : u.getD 0 undef = u0 at *
  generalize hu1 : u.getD 1 undef = u1 at *
  generalize hu2 : u.getD 2 undef = u2 at *
  generalize hu3 : u.getD 3 undef = u3 at *
  generalize hu4 : u.getD 4 undef = u4 at *
  generalize hu5 : u.getD 5 undef = u5 at *
  generalize hu6 : u.getD 6 undef = u6 at *
  generalize hu7 : u.getD 7 undef = u7 at *
  generalize hu8 : u.getD 8 undef = u8 at *
  generalize hu9 : u.getD 9 undef = u9 at *
  generalize hu10 : u.getD 10 undef = u10 at *
  generalize hu11 : u.getD 11 undef = u11 at *
  generalize hu12 : u.getD 12 undef = u12 at *
  generalize hu13 : u.getD 13 undef = u13 at *
  generalize hu14 : u.getD 14 undef = u14 at *
  generalize hu15 : u.getD 15 undef = u15 at *
  generalize hu16 : u.getD 16 undef = u16 at *
  subst h4
  clear hu0 hu1 hu3 hu5 hu6 hu7 hu8 hu9 hu10 hu11 hu12 hu13 hu14 hu15 hu16
  gi_wp2_with (refine ⟨trivial, rfl, ?_⟩; gi_at_call 54; refine (clone_fresh HX.out.1 HX.out.2.1 HX.out.2.2.1).mono ?_; rintro e w1 ⟨Ay, ny, cy, φ, rfl, hb1, hh, hr⟩; have HB1 := Aside0.mk (And.intro hb1 (And.intro hh hr)); have hbr1 := (hb1.block Br (Array.getElem?_eq_some_iff.1 HX.out.2.2.2).1).trans HX.out.2.2.2; have z1 : w1.cell? ⟨Br, 2, none⟩ = some v := (blk_cell hbr1 2).trans rfl; have f1 := blk_frozen hbr1 2; clear hb1 hh hr hbr1)
  exact H.out _ Ay ny cy φ w1 rfl rfl rfl rfl HB1.out.1 HB1.out.2.1 HB1.out.2.2
end Go.Proofs.Ytdejapkfijdadaa
end
section
namespace Go.Proofs.Ytdejapkfijdadaa
open Go.Ab Go.RowKit
set_option maxRecDepth 100000
attribute [local go_sem] Oper.semAt_some
set_option maxHeartbeats 4000000
theorem r3_ok {l : Nat} {Q : Exit → Act → World → Prop} (u : Array Value) (hu : u.size = 17) {id t : Int} {Av : Option Addr} {nv cv : Nat} {w : World} (h7 : u.getD 7 undef = .agg #[.int .i64 id, .int .i64 t, .slice Av nv cv])
    (h : ∀ (a : Act), a.defers = [] → a.tmps.size = 17 → a.tmps.getD 2 undef = u.getD 2 undef → a.tmps.getD 4 undef = .pointer (some ⟨w.heap.size, 0, none⟩) → Q .normal a (w.alloc (.cells #[.int .i64 id, .int .i64 t, .slice Av nv cv] 33))) :
    (Code.wpIn (Fence.wide.inRound l) 0 Try.prog (.region 3 #[{ dst := some 4, op := .alloc 33, type := 0, pos := "buffer.go:86", after := #[], guard := none }, { dst := none, op := .store 33 (.tmp 4) (.tmp 7), type := 0, pos := "buffer.go:86", after := #[{ on := 0, ground := .data }, { on := 0, ground := .phase }], guard := none }] false) Q { tmps := u, defers := [] } w) := by
  have H := Aside0.mk h
  clear h
  have hrw := arr17 hu
  rw [hrw]
  clear hrw
  generalize hu0 : u.getD 0 undef = u0 at *
  generalize hu1 : u.getD 1 undef = u1 at *
  generalize hu2 : u.getD 2 undef = u2 at *
  generalize hu3 : u.getD 3 undef = u3 at *
  generalize hu4 : u.getD 4 undef = u4 at *
  generalize hu5 : u.getD 5 undef = u5 at *
  generalize hu6 : u.getD 6 undef = u6 at *
  generalize hu7 : u.getD 7 undef = u7 at *
  generalize hu8 : u.getD 8 undef = u8 at *
  generalize hu9 : u.getD 9 undef = u9 at *
  generalize hu10 : u.getD 10 undef = u10 at *
  generalize hu11 : u.getD 11 undef = u11 at *
  generalize hu12 : u.getD 12 undef = u12 at *
  generalize hu13 : u.getD 13 undef = u13 at *
  generalize hu14 : u.getD 14 undef = u14 at *
  generalize hu15 : u.getD 15 undef = u15 at *
  generalize hu16 : u.getD 16 undef = u16 at *
  subst h7
  clear hu0 hu1 hu3 hu4 hu5 hu6 hu8 hu9 hu10 hu11 hu12 hu13 hu14 hu15 hu16
  gi_wp2
  exact H.out _ rfl rfl rfl rfl
def hp5 (id t : Int) (es outs : List V) : Hp := [(8, .row 5 es), (4, .cells 33 [.i .i64 id, .i .i64 t, .row 8]), (2, .cells 22 [.row 9]), (3, .cells 4 [.s (.bool false)]), (9, .row 33 outs)]
def hp5' (id t : Int) (es outs : List V) : Hp := [(2, .cells 22 [.row 240]), (240, .row 33 (appL outs [recV id t es])), (9, .gone), (224, .row 33 [recV id t es]), (8, .ro 5 es)] ++ hp5 id t es outs
def tm5 : List V := [.dead, .dead, .ptr 2 0, .dead, .ptr 4 0] ++ List.replicate 12 .dead
theorem r5_ok {b : Base} [GZ TT b] (hanc : ∀ p ∈ b.anc, p.1 ∈ [2, 3]) {S : Nat → Prop} {φ : Nat → Option Ab.Loc} {id t : Int} {es outs : List V} {a : Act} {w : World} (hi : Ab.Inv TT b φ S tm5 (hp5 id t es outs) a w) (hroom : Room (lenI (appL outs [recV id t es])) te33.bytes) :
    (Code.wpIn (Fc b.rd) 0 Try.prog (.region 5 #[{ dst := some 12, op := .load 22 (.tmp 2), type := 22, pos := "buffer.go:88", after := #[], guard := none }, { dst := some 13, op := .load 33 (.tmp 4), type := 33, pos := "buffer.go:88", after := #[], guard := none }, { dst := some 14, op := .buildSlice 22 1 #[(0, (.tmp 13))], type := 22, pos := "buffer.go:88", after := #[{ on := 1, ground := .data }], guard := none }, { dst := some 15, op := .call { callee := .builtin .append, args := #[(.tmp 12), (.tmp 14)], argTypes := #[22, 22] }, type := 22, pos := "buffer.go:88", after := #[{ on := 0, ground := .data }, { on := 2, ground := .data }], guard := none }, { dst := none, op := .store 22 (.tmp 2) (.tmp 15), type := 0, pos := "buffer.go:88", after := #[{ on := 3, ground := .data }, { on := 3, ground := .chain }, { on := 0, ground := .phase }, { on := 1, ground := .phase }, { on := 2, ground := .phase }, { on := 3, ground := .phase }], guard := none }] false) (Post TT b S fun e tm hp => e = .normal ∧ hp = hp5' id t es outs) a w) := by
  refine walk_sub tok (fun _ => []) (by kernel_rfl) hanc hi _ ?_
  intro ar un cv mn mx pl mi cmp nt beq an scmp cat slen sbyte ssub ofB toB len gi gb gs gl sub put app ovl rep ne0 ge0 inb bnd room sroom need br call callb loop cut nl E R K hK
  have D := E.D
  clear E hi
  unfold hp5 tm5
  unfold hp5' hp5 recV at hK
  unfold recV at hroom
  have HR := Aside0.mk hroom
  clear hroom
  cbv
  refine R.need' (by rw [D.hroom, D.hlen, D.happ]; exact HR.out) ?_
  refine hK _ _ _ ⟨rfl, ?_⟩
  rw [D.happ]
  rfl
def hpJ (outs : List V) : Hp := [(2, .cells 22 [.row 9]), (3, .cells 4 [.s (.bool false)]), (9, .row 33 outs)]
theorem fit_J {b0 : Nat → Prop} {φ : Nat → Option Ab.Loc} {w : World} {S : Nat → Prop} {id t : Int} {es outs : List V} (h : HOk TT φ b0 w S (hp5' id t es outs)) : ∃ φ', HOk TT φ' b0 w S (hpJ (appL outs [recV id t es])) ∧ φ' 2 = φ 2 ∧ φ' 3 = φ 3 := by
  refine ⟨_, h.fit (ρ := [(9, 240)]) (hp' := hpJ (appL outs [recV id t es])) ?_ (by rfl) (by rfl), rfl, rfl⟩
  refine ⟨?_, ?_, ?_, trivial⟩
  · first | exact ⟨rfl, rfl⟩ | exact ⟨rfl, rfl, trivial⟩ | exact ⟨rfl, trivial, trivial⟩
  · first | exact ⟨rfl, rfl⟩ | exact ⟨rfl, rfl, trivial⟩ | exact ⟨rfl, trivial, trivial⟩
  · first | exact ⟨rfl, rfl⟩ | exact ⟨rfl, rfl, trivial⟩ | exact ⟨rfl, trivial, trivial⟩
end Go.Proofs.Ytdejapkfijdadaa
end
section
namespace Go.Proofs.Ytdejapkfijdadaa
open Go.Ab Go.RowKit
set_option maxRecDepth 100000
def Zj (N k : Nat) : Prop := k < N ∨ k = N + 2 ∨ k = N + 3 ∨ k = N + 4
theorem join5 {N Br : Nat} {φ φc : Nat → Option Ab.Loc} {S : Nat → Prop} {W w' : World} {id t : Int} {Ay Av : Option Addr} {ny cy nv cv : Nat} {es outs : List V}
    (h : HOk TT φ (Zj N) W S (hpJ outs)) (hN : N + 5 ≤ W.heap.size) (hBr : W.heap[Br]? = some (.cells #[.int .i64 id, .int .i64 t, .slice Av nv cv] 33 (0, 0))) (hBr5 : N + 5 ≤ Br)
    (hnb : ∀ n b l B, Ab.look (hpJ outs) n = some b → b.own = true → φ n = some l → l.blk = some B → B ≠ Br) (hSB : ¬ S Br) (hb1 : Below W.heap.size W w')
    (hc : HOk TT φc (oldZ W) w' (fun _ => False) [(0, .row 5 es)]) (hy : rel TT φc w' (fun _ => False) (.row 0) (.slice Ay ny cy)) (hb : ∀ v ∈ es, ByteV v) :
    HOk TT (fun n => if n = 4 then some (.box Br) else if n = 8 then φc 0 else φ n) (Zj N) (w'.setCell ⟨Br, 2, none⟩ (.slice Ay ny cy)) S (hp5 id t es outs) := by
  have hφ8 : φ 8 = none := (h.dom 8).2 rfl
  have hφ4 : φ 4 = none := (h.dom 4).2 rfl
  have hBlt : Br < W.heap.size := (Array.getElem?_eq_some_iff.1 hBr).1
  have hsz := hb1.size
  have own0 : ∀ l B, φc 0 = some l → l.blk = some B → ¬ B < W.heap.size ∧ B < w'.heap.size := fun l B e1 e2 => by
    obtain ⟨a1, a2, _⟩ := hc.own 0 _ l B rfl rfl e1 e2
    exact ⟨a1, a2⟩
  have h1 : HOk TT (fun n => if n = 8 then φc 0 else φ n) (Zj N) w' S ((8, .row 5 es) :: hpJ outs) := by
    refine HOk.cons h (fun n l e => ?_) (fun m hm => by simp [hm]) ?_ (fun k hk => hb1.block k (h.old k hk)) (fun _ h => h) (fun m c l B hm h2 h3 h4 h5 => ?_) hsz ?_ (fun _ l B e1 e2 => ?_) (fun k hk => Nat.lt_of_lt_of_le (h.old k hk) hsz)
    · by_cases e8 : n = 8
      · subst e8; rw [hφ8] at e; cases e
      · simp only [if_neg e8]; exact e
    · simp only [if_true]
      intro e
      have := (hc.dom 0).1 e
      cases this
    · obtain ⟨a1, a2, a3⟩ := h.own m c l B h2 h3 h4 h5
      exact ⟨hb1.block B a2, a3⟩
    · have q := hc.blk 0 _ rfl
      simp only [BlkOk, if_true] at q ⊢
      obtain ⟨q1, e, q2, q3, q4⟩ := q
      refine ⟨q1, e, q2, q3, q4.imp (fun ⟨B, off, room, arr, e1, e2, e3, e4, e5, e6⟩ => ⟨B, off, room, arr, e1, e2, e3, e4, e5, fun k v hv => ?_⟩) (fun x => x)⟩
      obtain ⟨x, a1, a2, a3, a4⟩ := e6 k v hv
      exact ⟨x, relByte (hb v (List.mem_of_getElem? hv)) a1, a2, a3, a4⟩
    · simp only [if_true] at e1
      obtain ⟨a1, a2⟩ := own0 l B e1 e2
      refine ⟨fun hz => ?_, a2, fun hs => a1 (h.old B hs), fun m c k hm h2 h3 h4 h5 => ?_⟩
      · unfold Zj at hz; omega
      · have := (h.own m c k B h2 h3 h4 h5).2.1
        exact a1 this
  have hbr' : w'.heap[Br]? = some (.cells #[.int .i64 id, .int .i64 t, .slice Av nv cv] 33 (0, 0)) := (hb1.block Br hBlt).trans hBr
  have notBr : ∀ m c l B, m ≠ 4 → Ab.look ((8, .row 5 es) :: hpJ outs) m = some c → c.own = true → (if m = 8 then φc 0 else φ m) = some l → l.blk = some B → B ≠ Br := fun m c l B hm h2 h3 h4 h5 => by
    by_cases e8 : m = 8
    · subst e8
      simp only [if_true] at h4
      have := (own0 l B h4 h5).1
      intro e; subst e; exact this hBlt
    · rw [if_neg e8] at h4
      rw [look_cons, if_neg (fun e => e8 e.symm)] at h2
      exact hnb m c l B h2 h3 h4 h5
  refine HOk.perm (hp := (4, .cells 33 [.i .i64 id, .i .i64 t, .row 8]) :: (8, .row 5 es) :: hpJ outs) ?_ (fun k => by
    unfold hp5 hpJ
    simp only [look_cons]
    by_cases e4 : 4 = k <;> by_cases e8 : 8 = k <;> simp [e4, e8] <;> omega)
  refine HOk.cons (φ := fun n => if n = 8 then φc 0 else φ n) h1 (fun n l e => ?_) (fun m hm => by simp [hm]) (by simp) (fun k hk => heap_setCell_other _ _ _ _ (fun e => hSB (by rw [← (show k = Br from e)]; exact hk))) (fun _ h => h) (fun m c l B hm h2 h3 h4 h5 => ?_) (by simp) ?_ (fun _ l B e1 e2 => ?_) (fun k hk => by simpa using h1.old k hk)
  · by_cases e4 : n = 4
    · subst e4
      simp only [if_neg (by decide : ¬ (4 = 8)), hφ4] at e
      cases e
    · simp only [if_neg e4]; exact e
  · exact ⟨heap_setCell_other _ _ _ _ (notBr m c l B hm h2 h3 h4 h5), (h1.own m c l B h2 h3 h4 h5).2.2⟩
  · simp only [BlkOk]
    refine ⟨Br, #[.int .i64 id, .int .i64 t, .slice Ay ny cy], by simp, ?_, ?_, ?_⟩
    · rw [heap_setCell_same _ _ _ _ _ _ hbr']; rfl
    · simp only [relL]
      refine ⟨_, _, rfl, rel_i _ _, _, _, rfl, rel_i _ _, _, _, rfl, ?_, rfl⟩
      simp only [rel] at hy ⊢
      simpa using hy
    · intro u hu
      simp at hu
      rcases hu with rfl | rfl | rfl <;> rfl
  · simp only [if_true] at e1
    injection e1 with e1
    subst e1
    injection e2 with e2
    subst e2
    refine ⟨fun hz => by unfold Zj at hz; omega, by simp; omega, hSB, fun m c k hm h2 h3 h4 h5 => notBr m c k _ hm h2 h3 h4 h5 rfl⟩
end Go.Proofs.Ytdejapkfijdadaa
end
section
namespace Go.Proofs.Ytdejapkfijdadaa
open Go.Ab Go.RowKit
set_option maxRecDepth 100000
/-- The first n records of bytes. -/
def outs (l : List V) : Nat → List V
  | 0 => []
  | n + 1 => match rec1 (l.drop (off l n)) with
    | some (id, t, k) => appL (outs l n) [recV id t ((l.drop (off l n + 14)).take k)]
    | none => outs l n
theorem outs_some {l : List V} {n k : Nat} {id t : Int} (h : rec1 (l.drop (off l n)) = some (id, t, k)) : outs l (n + 1) = appL (outs l n) [recV id t ((l.drop (off l n + 14)).take k)] := by
  show (match rec1 (l.drop (off l n)) with
    | some (id, t, k) => appL (outs l n) [recV id t ((l.drop (off l n + 14)).take k)]
    | none => outs l n) = _
  rw [h]
theorem off_none {l : List V} {n : Nat} (h : rec1 (l.drop (off l n)) = none) : off l (n + 1) = off l n := by
  show (match rec1 (l.drop (off l n)) with
    | some (_, _, k) => off l n + (14 + k)
    | none => off l n) = _
  rw [h]
theorem outs_none {l : List V} {n : Nat} (h : rec1 (l.drop (off l n)) = none) : outs l (n + 1) = outs l n := by
  show (match rec1 (l.drop (off l n)) with
    | some (id, t, k) => appL (outs l n) [recV id t ((l.drop (off l n + 14)).take k)]
    | none => outs l n) = _
  rw [h]
theorem outs_len (l : List V) : ∀ n, (outs l n).length ≤ n
  | 0 => by simp [outs]
  | n + 1 => by
    cases h : rec1 (l.drop (off l n)) with
    | none => rw [outs_none h]; have := outs_len l n; omega
    | some x =>
      obtain ⟨id, t, k⟩ := x
      rw [outs_some h]
      have := outs_len l n
      simp [appL]
      omega
theorem off_ge (l : List V) : ∀ n, (rec1 (l.drop (off l n))).isSome = true → 14 * n ≤ off l n
  | 0, _ => by simp
  | n + 1, h => by
    cases h2 : rec1 (l.drop (off l n)) with
    | none => rw [off_none h2, h2] at h; cases h
    | some x =>
      obtain ⟨id, t, k⟩ := x
      have := off_ge l n (by rw [h2]; rfl)
      rw [off_some h2]
      omega
theorem recs_nil : recs [] = ([], true) := by unfold recs; rfl
theorem recs_none {l : List V} (hne : l ≠ []) (h : rec1 l = none) : recs l = ([], false) := by
  cases l with
  | nil => exact absurd rfl hne
  | cons v r => unfold recs; rw [h]
theorem recs_some {l : List V} {id t : Int} {k : Nat} (h : rec1 l = some (id, t, k)) : recs l = (recV id t ((l.drop 14).take k) :: (recs (l.drop (14 + k))).1, (recs (l.drop (14 + k))).2) := by
  cases l with
  | nil => have := rec1_len h; simp at this
  | cons v r => rw [recs]; rw [h]
theorem recs_off (l : List V) : ∀ n, recs l = (outs l n ++ (recs (l.drop (off l n))).1, (recs (l.drop (off l n))).2)
  | 0 => by simp [outs, off]
  | n + 1 => by
    have ih := recs_off l n
    cases h : rec1 (l.drop (off l n)) with
    | none => rw [outs_none h, off_none h]; exact ih
    | some x =>
      obtain ⟨id, t, k⟩ := x
      rw [outs_some h, off_some h, ih, recs_some h]
      simp [appL, List.drop_drop]
open Classical in
/-- What decoded returns: the records, and whether the bytes consist of them. -/
noncomputable def d51 (l : List V) : Option (List V × Bool) := if (∀ v ∈ l, ByteV v) ∧ l.length ≤ 1099511627776 then some (recs l) else none

def noCells (W : World) (k : Nat) : Prop := ∀ cs t f, W.heap[k]? ≠ some (.cells cs t f)
def DecJ (w0 : World) (l : List V) (pre : List (Int × Int × Value)) (W : World) : Prop :=
  Below w0.heap.size w0 W ∧ w0.heap.size + 5 ≤ W.heap.size ∧ noCells W (w0.heap.size + 4) ∧ ∃ φ S, HOk TT φ (Zj w0.heap.size) W S (hpJ (outs l pre.length)) ∧ φ 2 = some (.box w0.heap.size) ∧ φ 3 = some (.box (w0.heap.size + 1)) ∧ ∀ k, S k → w0.heap.size + 5 ≤ k
theorem DecJ.frame {w0 : World} {l : List V} {pre : List (Int × Int × Value)} {W W' : World} (h : DecJ w0 l pre W) (h1 : W'.os = W.os) (h2 : W'.tape = W.tape) (h3 : W'.output = W.output) (hs : W.heap.size ≤ W'.heap.size)
    (hk : ∀ k, k < W.heap.size → k ≠ w0.heap.size + 2 → k ≠ w0.heap.size + 4 → W'.heap[k]? = W.heap[k]?) (hn : noCells W' (w0.heap.size + 4)) : DecJ w0 l pre W' := by
  obtain ⟨a1, a2, a3, φ, S, a4, a5, a6, a7⟩ := h
  refine ⟨⟨h1.trans a1.os, h2.trans a1.tape, h3.trans a1.output, by omega, fun k hk' => (hk k (by omega) (by omega) (by omega)).trans (a1.block k hk')⟩, by omega, hn, φ, S, hok_frame a4 hs (fun k hk1 hk2 => hk k hk1 ?_ ?_), a5, a6, a7⟩
  · rcases hk2 with h | h
    · have := a7 k h; omega
    · unfold Zj at h; omega
  · rcases hk2 with h | h
    · have := a7 k h; omega
    · unfold Zj at h; omega
def DecJ1 (w0 : World) (l : List V) (pre : List (Int × Int × Value)) (x : Int × Int × Value) (a : Act) (W : World) : Prop :=
  DecJ w0 l pre W ∧ a.defers = [] ∧ a.tmps.size = 17 ∧ a.tmps.getD 2 undef = .pointer (some ⟨w0.heap.size, 0, none⟩) ∧ ∃ Br Av nv cv k, x.2.2 = .slice Av nv cv ∧ a.tmps.getD 4 undef = .pointer (some ⟨Br, 0, none⟩) ∧ w0.heap.size + 5 ≤ Br ∧ W.heap[Br]? = some (.cells #[.int .i64 x.1, .int .i64 x.2.1, x.2.2] 33 (0, 0)) ∧
    rec1 (l.drop (off l pre.length)) = some (x.1, x.2.1, k) ∧ rel TT (fun _ => none) W (fun j => j < W.heap.size ∧ j ≠ w0.heap.size + 4) (.sl 5 ((l.drop (off l pre.length + 14)).take k)) x.2.2 ∧
    ∃ φ S, HOk TT φ (Zj w0.heap.size) W S (hpJ (outs l pre.length)) ∧ φ 2 = some (.box w0.heap.size) ∧ φ 3 = some (.box (w0.heap.size + 1)) ∧ (∀ k, S k → w0.heap.size + 5 ≤ k) ∧ ¬ S Br ∧ ∀ n b l' B, Ab.look (hpJ (outs l pre.length)) n = some b → b.own = true → φ n = some l' → l'.blk = some B → B ≠ Br
theorem dec_body {w0 : World} {l : List V} (hb : ∀ v ∈ l, ByteV v) (hl : l.length ≤ 1099511627776) {lx : Nat} {pre : List (Int × Int × Value)} {x : Int × Int × Value} {a1 : Act} {W : World} (h : DecJ1 w0 l pre x a1 W) {c4 c5 : Code}
    (h4 : ∀ {Q : Exit → Act → World → Prop} (u : Array Value) (hu : u.size = 17) {Br : Nat} {id t : Int} {v : Value} {es : List V} {w : World} (h4 : u.getD 4 undef = .pointer (some ⟨Br, 0, none⟩)) (hbr : w.heap[Br]? = some (.cells #[.int .i64 id, .int .i64 t, v] 33 (0, 0)))
      (hb : ∀ v ∈ es, ByteV v) (hl : es.length ≤ 140737488355328) (hx : rel TT (fun _ => none) w (oldS w) (.sl 5 es) v)
      (h : ∀ (a : Act) Ay ny cy φ w', a.defers = [] → a.tmps.size = 17 → a.tmps.getD 2 undef = u.getD 2 undef → a.tmps.getD 4 undef = u.getD 4 undef → Below w.heap.size w w' → HOk TT φ (oldZ w) w' (fun _ => False) [(0, .row 5 es)] → rel TT φ w' (fun _ => False) (.row 0) (.slice Ay ny cy) → Q .normal a (w'.setCell ⟨Br, 2, none⟩ (.slice Ay ny cy))), c4.wpIn (Fence.wide.inRound lx) 0 Try.prog Q { tmps := u, defers := [] } w)
    (h5 : ∀ {b : Base} [GZ TT b] (hanc : ∀ p ∈ b.anc, p.1 ∈ [2, 3]) {S : Nat → Prop} {φ : Nat → Option Ab.Loc} {id t : Int} {es outs : List V} {a : Act} {w : World} (hi : Ab.Inv TT b φ S tm5 (hp5 id t es outs) a w) (hroom : Room (lenI (appL outs [recV id t es])) te33.bytes), c5.wpIn (Fc b.rd) 0 Try.prog (Post TT b S fun e tm hp => e = .normal ∧ hp = hp5' id t es outs) a w) :
    (Code.block 1 (.seq c4 c5)).wpIn (Fence.wide.inRound lx) 0 Try.prog (roundEnds [w0.heap.size + 4, w0.heap.size + 3, w0.heap.size + 2] (DecJ w0 l) (fun _ _ _ => False) (pre ++ [x]) W) a1 W := by
  obtain ⟨⟨j1, j2, j3, _⟩, hd, hsz, g2, Br, Av, nv, cv, k, hv, g4, hB5, hBr, hr1, hrel, φ, S, hh, p2, p3, hS, hSB, hnb⟩ := h
  obtain ⟨id, t, v⟩ := x
  simp only at hv hBr hr1 hrel
  subst hv
  obtain ⟨u, df⟩ := a1
  simp only at hd hsz g2 g4
  subst hd
  have hbD : ∀ v ∈ (l.drop (off l pre.length + 14)).take k, ByteV v := fun v hv => hb v (List.mem_of_mem_drop (List.mem_of_mem_take hv))
  have hrel' : rel TT (fun _ => none) W (oldS W) (.sl 5 ((l.drop (off l pre.length + 14)).take k)) (.slice Av nv cv) := rel_mono (LocLe.refl _) (fun _ _ => rfl) (fun _ h => h.1) _ _ hrel
  have hge := off_ge l pre.length (by rw [hr1]; rfl)
  have hlen1 := rec1_len hr1
  rw [List.length_drop] at hlen1
  refine wpIn_block (wpIn_seq ?_)
  refine h4 u hsz g4 hBr hbD (by simp; omega) hrel' ?_
  intro a2 Ay ny cy φc w' hd2 hs2 q2 q4 hbl hc hy
  have hblt : Br < W.heap.size := (Array.getElem?_eq_some_iff.1 hBr).1
  have hsz' := hbl.size
  have H5 := join5 hh j2 hBr hB5 hnb hSB hbl hc hy hbD
  obtain ⟨W4, hW4⟩ : ∃ W4, w'.setCell ⟨Br, 2, none⟩ (.slice Ay ny cy) = W4 := ⟨_, rfl⟩
  have hs4 : W4.heap.size = w'.heap.size := by rw [← hW4]; simp
  have ho4 : W4.os = w'.os := by rw [← hW4]; rfl
  have ht4 : W4.tape = w'.tape := by rw [← hW4]; rfl
  have hu4 : W4.output = w'.output := by rw [← hW4]; rfl
  have hk4 : ∀ j, j ≠ Br → W4.heap[j]? = w'.heap[j]? := fun j hj => by rw [← hW4]; exact heap_setCell_other _ _ _ _ hj
  rw [hW4] at H5
  show c5.wpIn (Fence.wide.inRound lx) 0 Try.prog _ a2 (w'.setCell ⟨Br, 2, none⟩ (.slice Ay ny cy))
  rw [hW4]
  let b : Base := ⟨W4, Zj w0.heap.size, fun k hk => by unfold Zj at hk; omega, [(2, .box w0.heap.size), (3, .box (w0.heap.size + 1))], some lx⟩
  haveI : GZ TT b := ⟨gok _, fun g cs hg => by obtain ⟨⟨t, e⟩, _⟩ := gok w0 g cs hg; exact .inl (Array.getElem?_eq_some_iff.1 e).1⟩
  have hi : Ab.Inv TT b (fun n => if n = 4 then some (.box Br) else if n = 8 then φc 0 else φ n) S tm5 (hp5 id t ((l.drop (off l pre.length + 14)).take k) (outs l pre.length)) a2 W4 := by
    refine ⟨⟨rfl, rfl, rfl, Nat.le_refl _, fun _ _ => rfl⟩, by rw [hs2]; rfl, fun m => ?_, hd2, H5, fun p hp => ?_⟩
    · match m with
      | 0 => simp only [tm5, List.cons_append, List.getD_cons_zero]; simp only [rel]
      | 1 => simp only [tm5, List.cons_append, List.getD_cons_succ, List.getD_cons_zero]; simp only [rel]
      | 2 => rw [q2, g2]; simp only [tm5, List.cons_append, List.getD_cons_succ, List.getD_cons_zero]; simp only [rel]; exact ⟨w0.heap.size, by simpa using p2, rfl⟩
      | 3 => simp only [tm5, List.cons_append, List.getD_cons_succ, List.getD_cons_zero]; simp only [rel]
      | 4 => rw [q4, g4]; simp only [tm5, List.cons_append, List.getD_cons_succ, List.getD_cons_zero]; simp only [rel]; exact ⟨Br, by simp, rfl⟩
      | m + 5 =>
        have : tm5.getD (m + 5) .dead = .dead := by
          simp only [tm5, List.cons_append, List.getD_cons_succ, List.nil_append]
          simp only [List.getD_eq_getElem?_getD, List.getElem?_replicate]
          split <;> rfl
        rw [this]; simp only [rel]
    · simp [b] at hp
      rcases hp with rfl | rfl
      · simpa using p2
      · simpa using p3
  have hroom : Room (lenI (appL (outs l pre.length) [recV id t ((l.drop (off l pre.length + 14)).take k)])) te33.bytes := by
    have := outs_len l pre.length
    unfold Room lenI appL
    simp only [List.length_append, List.length_cons, List.length_nil]
    have e40 : te33.bytes = 40 := rfl
    rw [e40]
    omega
  refine wpIn_mono (h5 (b := b) (fun p hp => by simp [b] at hp; rcases hp with rfl | rfl <;> simp) hi hroom) ?_
  rintro e a5 W5 ⟨φ5, S5, tm, hp, hS5, hi5, ⟨rfl, rfl⟩, _⟩
  have hsb := hi5.since.block
  obtain ⟨φ6, H6, r2, r3⟩ := fit_J hi5.heap
  have f2 : φ6 2 = some (.box w0.heap.size) := by rw [r2]; exact hi5.anc (2, _) (by simp [b])
  have f3 : φ6 3 = some (.box (w0.heap.size + 1)) := by rw [r3]; exact hi5.anc (3, _) (by simp [b])
  have n2 := (H6.own 2 _ _ _ (by rfl) rfl f2 rfl).2.2
  have n3 := (H6.own 3 _ _ _ (by rfl) rfl f3 rfl).2.2
  have hkz : ∀ j, Zj w0.heap.size j → W5.heap[j]? = W.heap[j]? := fun j hj => by
    have hne : j ≠ Br := by unfold Zj at hj; omega
    refine (hsb j hj).trans ((hk4 j hne).trans (hbl.block j ?_))
    unfold Zj at hj; omega
  have hs5 : W4.heap.size ≤ W5.heap.size := hi5.since.size
  have hos : W5.os = W4.os := hi5.since.os
  have htp : W5.tape = W4.tape := hi5.since.tape
  have hou : W5.output = W4.output := hi5.since.output
  refine ⟨fun j hj => hkz j ?_, ⟨?_, by omega, ?_, φ6, S5, ?_, f2, f3, fun j hj => ?_⟩⟩
  · unfold Zj
    simp at hj
    omega
  · exact ⟨hos.trans (ho4.trans (hbl.os.trans j1.os)), htp.trans (ht4.trans (hbl.tape.trans j1.tape)), hou.trans (hu4.trans (hbl.output.trans j1.output)), by omega, fun j hj => (hkz j (.inl hj)).trans (j1.block j hj)⟩
  · intro cs t f he
    rw [hkz _ (by unfold Zj; omega)] at he
    exact j3 _ _ _ he
  · rw [List.length_append]
    show HOk TT φ6 _ W5 S5 (hpJ (outs l (pre.length + 1)))
    rw [outs_some hr1]
    exact H6
  · rcases hS5.2 j hj with h | h
    · exact hS j h
    · have e1 : j ≠ w0.heap.size := fun e => n2 (e ▸ hj)
      have e2 : j ≠ w0.heap.size + 1 := fun e => n3 (e ▸ hj)
      have h' : ¬ Zj w0.heap.size j := h
      unfold Zj at h'
      omega
end Go.Proofs.Ytdejapkfijdadaa
end
section
namespace Go.Proofs.Ytdejapkfijdadaa
open Go.Ab Go.RowKit
set_option maxRecDepth 100000
attribute [local go_sem] Oper.semAt_some
theorem slice_of_sl {φ : Nat → Option Ab.Loc} {w : World} {S : Nat → Prop} {t : Nat} {es : List V} {v : Value} (h : rel TT φ w S (.sl t es) v) : ∃ A n c, v = .slice A n c := by
  simp only [rel] at h
  obtain ⟨A, c, e, _⟩ := h
  exact ⟨A, _, c, e⟩
theorem slice_of_row {φ : Nat → Option Ab.Loc} {w : World} {S : Nat → Prop} {n : Nat} {v : Value} (h : rel TT φ w S (.row n) v) : ∃ A n c, v = .slice A n c := by
  simp only [rel] at h
  rcases h with ⟨B, off, len, room, sz, cap, _, e1, _⟩ | ⟨_, A, e1⟩
  · exact ⟨_, _, _, e1⟩
  · exact ⟨_, _, _, e1⟩
theorem dec_assign {w0 : World} {l : List V} {lx : Nat} {pre : List (Int × Int × Value)} {x : Int × Int × Value} {W : World} (hj : DecJ w0 l pre W) (hst : StR l pre x W) (u : Array Value) (hu : u.size = 17) (h7 : u.getD 7 undef = .agg #[.int .i64 x.1, .int .i64 x.2.1, x.2.2]) (h2 : u.getD 2 undef = .pointer (some ⟨w0.heap.size, 0, none⟩)) {c3 : Code} {ks : List Nat} (hks : ∀ k ∈ ks, k < W.heap.size) (hb : ∀ v ∈ l, ByteV v)
    (h3 : ∀ {Q : Exit → Act → World → Prop} (u : Array Value) (hu : u.size = 17) {id t : Int} {Av : Option Addr} {nv cv : Nat} {w : World} (h7 : u.getD 7 undef = .agg #[.int .i64 id, .int .i64 t, .slice Av nv cv])
      (h : ∀ (a : Act), a.defers = [] → a.tmps.size = 17 → a.tmps.getD 2 undef = u.getD 2 undef → a.tmps.getD 4 undef = .pointer (some ⟨w.heap.size, 0, none⟩) → Q .normal a (w.alloc (.cells #[.int .i64 id, .int .i64 t, .slice Av nv cv] 33))), c3.wpIn (Fence.wide.inRound lx) 0 Try.prog Q { tmps := u, defers := [] } w) :
    c3.wpIn (Fence.wide.inRound lx) 0 Try.prog (Exit.then (fun a1 W1 => Kept ks W W1 ∧ DecJ1 w0 l pre x a1 W1) (fun _ _ _ => False)) { tmps := u, defers := [] } W := by
  obtain ⟨k, hr1, hrel⟩ := hst
  obtain ⟨id, t, v⟩ := x
  simp only at hr1 hrel h7
  obtain ⟨Av, nv, cv, rfl⟩ := slice_of_sl hrel
  refine h3 u hu h7 (fun a hd hs q2 q4 => ?_)
  have hbl : Below W.heap.size W (W.alloc (.cells #[.int .i64 id, .int .i64 t, .slice Av nv cv] 33)) := (Below.refl _ W).alloc (Nat.le_refl _) _
  refine ⟨fun j hj => hbl.block j (hks j hj), ?_, hd, hs, q2.trans h2, W.heap.size, Av, nv, cv, k, rfl, q4, hj.2.1, World.alloc_heap_new W _, hr1, ?_, ?_⟩
  · refine hj.frame hbl.os hbl.tape hbl.output hbl.size (fun j h1 _ _ => hbl.block j h1) ?_
    intro cs t f he
    rw [hbl.block _ (by have := hj.2.1; omega)] at he
    exact hj.2.2.1 _ _ _ he
  · have hbD : ∀ v ∈ (l.drop (off l pre.length + 14)).take k, ByteV v := fun v hv => hb v (List.mem_of_mem_drop (List.mem_of_mem_take hv))
    simp only [rel] at hrel ⊢
    obtain ⟨Ad, cp, e0, q5, q6, q7, q8⟩ := hrel
    refine ⟨Ad, cp, e0, q5, q6, q7, fun hne => ?_⟩
    obtain ⟨ad, te, rfl, q9, q10, q11, q12⟩ := q8 hne
    have hlt : ad.block < W.heap.size := q11
    have hnn : ad.block ≠ w0.heap.size + 4 := by
      intro e
      cases hD : (l.drop (off l pre.length + 14)).take k with
      | nil => exact hne hD
      | cons v r =>
        rw [hD] at q12
        simp only [relE] at q12
        obtain ⟨⟨x, h1, h2, h3, h4⟩, _⟩ := q12
        obtain ⟨n, rfl⟩ := relByte_x (hbD v (by rw [hD]; simp)) h1
        have h5 := h4 0 (.int .u8 n) rfl
        unfold World.cell? at h5
        rw [add_block] at h5
        split at h5
        · rename_i cs t f he
          rw [e] at he
          exact hj.2.2.1 _ _ _ he
        · cases h5
    refine ⟨ad, te, rfl, q9, q10, ⟨Nat.lt_of_lt_of_le hlt hbl.size, hnn⟩, relE_move hbD q12 (hbl.block _ hlt)⟩
  · obtain ⟨j1, j2, j3, φ, S, hh, p2, p3, hS⟩ := hj
    refine ⟨φ, S, hok_frame hh hbl.size (fun j h1 _ => hbl.block j h1), p2, p3, hS, fun h => ?_, fun n b l' B h1 h2 h3 h4 => ?_⟩
    · exact absurd (hh.old _ h) (Nat.lt_irrefl _)
    · exact Nat.ne_of_lt (hh.own n b l' B h1 h2 h3 h4).2.1
theorem fold_one (p : Nat) (v : Value) (t : Array Value) : (#[p].zip #[v]).foldl (fun t (x : Nat × Value) => match x with | (p, v) => t.setIfInBounds p v) t = t.setIfInBounds p v := by
  simp
theorem dec_h0 {w0 w5 : World} {l : List V} (hB2 : Below w0.heap.size w0 w5) (hk0 : w5.heap[w0.heap.size]? = some (.cells #[.slice none 0 0] 22 (0, 0))) (hk1 : w5.heap[w0.heap.size + 1]? = some (.cells #[.bool false] 4 (0, 0))) (hs5 : w5.heap.size = w0.heap.size + 3) (r : Loop) :
    DecJ w0 l [] ((w5.alloc (.deferred (some []))).alloc (.loop r)) := by
  have hb : Below w5.heap.size w5 ((w5.alloc (.deferred (some []))).alloc (.loop r)) := ((Below.refl _ w5).alloc (Nat.le_refl _) _).alloc (by simp) _
  have hsz : ((w5.alloc (.deferred (some []))).alloc (.loop r)).heap.size = w0.heap.size + 5 := by simp [hs5]
  have hn := World.alloc_heap_new (w5.alloc (.deferred (some []))) (.loop r)
  rw [World.size_alloc, hs5] at hn
  generalize (w5.alloc (.deferred (some []))).alloc (.loop r) = W at *
  have k0 := (hb.block _ (by omega)).trans hk0
  have k1 := (hb.block _ (by omega)).trans hk1
  have hnc : noCells W (w0.heap.size + 4) := fun cs t f he => by
    rw [show w0.heap.size + 4 = w0.heap.size + 3 + 1 from rfl, hn] at he
    cases he
  refine ⟨⟨hb.os.trans hB2.os, hb.tape.trans hB2.tape, hb.output.trans hB2.output, by omega, fun j hj => (hb.block j (by omega)).trans (hB2.block j hj)⟩, by omega, hnc, fun n => if n = 2 then some (.box w0.heap.size) else if n = 3 then some (.box (w0.heap.size + 1)) else if n = 9 then some .nilrow else none, fun _ => False, ?_, by simp, by simp, fun k h => h.elim⟩
  have lk : ∀ {n : Nat} {b : Blk}, Ab.look (hpJ (outs l 0)) n = some b → (n = 2 ∧ b = .cells 22 [.row 9]) ∨ (n = 3 ∧ b = .cells 4 [.s (.bool false)]) ∨ (n = 9 ∧ b = .row 33 []) := by
    intro n b h
    unfold hpJ at h
    simp only [look_cons] at h
    split at h
    · rename_i e; subst e; injection h with h; exact .inl ⟨rfl, h.symm⟩
    · split at h
      · rename_i e; subst e; injection h with h; exact .inr (.inl ⟨rfl, h.symm⟩)
      · split at h
        · rename_i e; subst e; injection h with h; exact .inr (.inr ⟨rfl, h.symm⟩)
        · cases h
  refine ⟨fun n => ?_, fun n b h => ?_, fun n b l' B h1 h2 h3 h4 => ?_, fun n m b c l' k B h1 h2 h3 h4 h5 h6 h7 h8 => ?_, fun k h => h.elim⟩
  · unfold hpJ
    simp only [look_cons]
    by_cases e2 : n = 2
    · subst e2; simp
    · by_cases e3 : n = 3
      · subst e3; simp
      · by_cases e9 : n = 9
        · subst e9; simp
        · simp [e2, e3, e9, Ne.symm e2, Ne.symm e3, Ne.symm e9, show ¬ 2 = n from fun e => e2 e.symm, show ¬ 3 = n from fun e => e3 e.symm, show ¬ 9 = n from fun e => e9 e.symm]; rfl
  · rcases lk h with ⟨rfl, rfl⟩ | ⟨rfl, rfl⟩ | ⟨rfl, rfl⟩
    · simp only [BlkOk]
      refine ⟨w0.heap.size, _, by simp, k0, ?_, by simp [Value.oneCell']⟩
      simp only [relL]
      refine ⟨_, [], rfl, ?_, rfl⟩
      simp only [rel]
      exact .inr ⟨by simp, none, rfl⟩
    · simp only [BlkOk]
      refine ⟨w0.heap.size + 1, _, by simp, k1, ?_, by simp [Value.oneCell']⟩
      simp only [relL]
      refine ⟨_, [], rfl, ?_, rfl⟩
      simp only [rel]
      exact ⟨trivial, rfl⟩
    · simp only [BlkOk]
      exact ⟨by simp only [wtL], te33, by kernel_rfl, by decide, .inr ⟨by simp, trivial⟩⟩
  · rcases lk h1 with ⟨rfl, rfl⟩ | ⟨rfl, rfl⟩ | ⟨rfl, rfl⟩
    · simp at h3; subst h3; injection h4 with h4; subst h4
      exact ⟨by unfold Zj; omega, by omega, fun h => h⟩
    · simp at h3; subst h3; injection h4 with h4; subst h4
      exact ⟨by unfold Zj; omega, by omega, fun h => h⟩
    · simp at h3; subst h3; cases h4
  · rcases lk h1 with ⟨rfl, rfl⟩ | ⟨rfl, rfl⟩ | ⟨rfl, rfl⟩ <;> rcases lk h2 with ⟨rfl, rfl⟩ | ⟨rfl, rfl⟩ | ⟨rfl, rfl⟩ <;> simp at h5 h6 <;> subst h5 <;> subst h6 <;> first | rfl | (cases h7; done) | (cases h8; done) | (injection h7 with h7; injection h8 with h8; omega)
/-- What is told of a call. -/
def DecR (w0 : World) (l : List V) (e : Ending) (w' : World) : Prop :=
  ∃ x φ' S', e = .returned x ∧ Below w0.heap.size w0 w' ∧ HOk TT φ' (oldZ w0) w' S' [(0, .row 33 (recs l).1)] ∧ rel TT φ' w' S' (.tup [.row 0, .b (recs l).2]) x ∧ ∀ k, S' k → w0.heap.size ≤ k
theorem dec_ret {w0 W W2 : World} {es : List V} {φ : Nat → Option Ab.Loc} {S : Nat → Prop} {ov : Value} (j1 : Below w0.heap.size w0 W) (j2 : w0.heap.size + 5 ≤ W.heap.size) (hh : HOk TT φ (Zj w0.heap.size) W S (hpJ es)) (p2 : φ 2 = some (.box w0.heap.size)) (p3 : φ 3 = some (.box (w0.heap.size + 1))) (hS : ∀ k, S k → w0.heap.size + 5 ≤ k) (r2 : rel TT φ W S (.row 9) ov)
    (ho : W2.os = W.os) (ht : W2.tape = W.tape) (hu : W2.output = W.output) (hs : W.heap.size ≤ W2.heap.size) (hk : ∀ k, k < W.heap.size → k ≠ w0.heap.size → k ≠ w0.heap.size + 1 → k ≠ w0.heap.size + 3 → W2.heap[k]? = W.heap[k]?) (ok : Bool) :
    ∃ x φ' S', x = .tuple #[ov, .bool ok] ∧ Below w0.heap.size w0 W2 ∧ HOk TT φ' (oldZ w0) W2 S' [(0, .row 33 es)] ∧ rel TT φ' W2 S' (.tup [.row 0, .b ok]) x ∧ ∀ k, S' k → w0.heap.size ≤ k := by
  have h0 := hh.fit (ρ := [(0, 9)]) (hp' := [(0, .row 33 es)]) ⟨⟨rfl, rfl⟩, trivial⟩ rfl rfl
  have hB : ∀ n b l B, Ab.look [(0, Blk.row 33 es)] n = some b → b.own = true → fitφ φ [(0, 9)] [(0, .row 33 es)] n = some l → l.blk = some B → w0.heap.size + 5 ≤ B := by
    intro n b l B h1 h2 h3 h4
    have e0 : n = 0 := by
      rw [look_cons] at h1
      split at h1
      · rename_i e; exact e.symm
      · cases h1
    subst e0
    have h3' : φ 9 = some l := h3
    have hz := (hh.own 9 _ l B rfl rfl h3' h4).1
    have n2 : B ≠ w0.heap.size := fun e => by
      have := hh.inj 9 2 _ _ l _ B rfl rfl rfl rfl h3' p2 h4 (by rw [e]; rfl)
      cases this
    have n3 : B ≠ w0.heap.size + 1 := fun e => by
      have := hh.inj 9 3 _ _ l _ B rfl rfl rfl rfl h3' p3 h4 (by rw [e]; rfl)
      cases this
    unfold Zj at hz
    omega
  have h1 : HOk TT (fitφ φ [(0, 9)] [(0, .row 33 es)]) (fun k => k < w0.heap.size + 5) W S [(0, .row 33 es)] :=
    ⟨h0.dom, h0.blk, fun n b l B a1 a2 a3 a4 => ⟨Nat.not_lt.2 (hB n b l B a1 a2 a3 a4), (h0.own n b l B a1 a2 a3 a4).2⟩, h0.inj, h0.old⟩
  have h2 := hok_frame h1 hs (fun k e1 e2 => hk k e1 (by rcases e2 with h | h; have := hS k h; omega; omega) (by rcases e2 with h | h; have := hS k h; omega; omega) (by rcases e2 with h | h; have := hS k h; omega; omega))
  refine ⟨_, _, S, rfl, ⟨ho.trans j1.os, ht.trans j1.tape, hu.trans j1.output, by omega, fun k hk' => (hk k (by omega) (by omega) (by omega) (by omega)).trans (j1.block k hk')⟩, ⟨h2.dom, h2.blk, fun n b l B a1 a2 a3 a4 => ⟨fun hz => (h2.own n b l B a1 a2 a3 a4).1 (by have : B < w0.heap.size := hz; omega), (h2.own n b l B a1 a2 a3 a4).2⟩, h2.inj, h2.old⟩, ?_, fun k h => by have := hS k h; omega⟩
  simp only [rel, relL]
  refine ⟨_, rfl, _, _, rfl, ?_, _, _, rfl, rfl, rfl⟩
  simp only [rel] at r2
  exact r2
theorem results51 (W : World) (g : Nat) (A : Option Addr) (n c : Nat) (ok : Bool) (tmps : Array Value) (h2 : tmps.getD 2 undef = .pointer (some ⟨g, 0, none⟩)) (h3 : tmps.getD 3 undef = .pointer (some ⟨g + 1, 0, none⟩)) (k2 : W.heap[g]? = some (.cells #[.slice A n c] 22 (0, 0))) (k3 : W.heap[g + 1]? = some (.cells #[.bool ok] 4 (0, 0))) :
    (results Try.f51 tmps).run Try.prog W = .ok (.tuple #[.slice A n c, .bool ok]) W := by
  have z2 : W.cell? ⟨g, 0, none⟩ = some (.slice A n c) := (blk_cell k2 0).trans rfl
  have z3 : W.cell? ⟨g + 1, 0, none⟩ = some (.bool ok) := (blk_cell k3 0).trans rfl
  have h2' : tmps[2]?.getD undef = .pointer (some ⟨g, 0, none⟩) := by simpa using h2
  have h3' : tmps[3]?.getD undef = .pointer (some ⟨g + 1, 0, none⟩) := by simpa using h3
  simp [results, Try.results51, h2', h3', asAddr, go_sem, z2, z3]
set_option maxHeartbeats 4000000
theorem dec_core (l : List V) (hb : ∀ v ∈ l, ByteV v) (hl : l.length ≤ 1099511627776) {w0 : World} {A0 : Option Addr} {c0 : Nat} (hx : rel TT (fun _ => none) w0 (oldS w0) (.sl 5 l) (.slice A0 l.length c0)) :
    CallsIn Fence.wide 1 Try.prog 51 #[.slice A0 l.length c0] w0 (DecR w0 l) := by
  have hlc : l.length ≤ c0 := by
    simp only [rel] at hx
    obtain ⟨A, cap, e, h1, _⟩ := hx
    injection e with e1 e2 e3
    subst e3; exact h1
  have hlm : l.length ≤ maxLen := by
    simp only [rel] at hx
    obtain ⟨A, cap, e, h1, h2, _⟩ := hx
    exact h2
  have HX := Aside0.mk (And.intro hb (And.intro hl (And.intro hx (And.intro hlc hlm))))
  clear hb hl hx hlc hlm
  obtain ⟨R, hRR⟩ : ∃ R, R = DecR w0 l := ⟨_, rfl⟩
  rw [← hRR]
  have HR := Aside0.mk hRR
  clear hRR
  refine callsIn_of_wp_marks Try.func51 rfl trivial ?_ rfl
  simp only [Try.ntmps51, List.size_toArray, List.length_cons, List.length_nil, Nat.reduceAdd, Nat.reduceSub, Array.replicate_succ, Array.replicate_zero, List.push_toArray, List.append_toArray, List.nil_append, List.cons_append]
  gi_wp2_with (refine ⟨trivial, ?_⟩; gi_at_call 72; refine (records_calls _ _ _ _).mono ?_; rintro e w2 ⟨rfl, rfl⟩)
  have hB2 : Below w0.heap.size w0 (((w0.alloc (Obj.cells #[Value.slice none 0 0] 22)).alloc (Obj.cells #[Value.bool false] 4)).alloc (Obj.cells #[Value.slice A0 l.length c0] 24)) := (((Below.refl _ w0).alloc (Nat.le_refl _) _).alloc (by simp) _).alloc (by simp; omega) _
  have hk0 : (((w0.alloc (Obj.cells #[Value.slice none 0 0] 22)).alloc (Obj.cells #[Value.bool false] 4)).alloc (Obj.cells #[Value.slice A0 l.length c0] 24)).heap[w0.heap.size]? = some (.cells #[.slice none 0 0] 22 (0, 0)) :=
    (Below.heap_alloc _ _ _ (by simp; omega)).trans ((Below.heap_alloc _ _ _ (by simp)).trans (World.alloc_heap_new w0 _))
  have hk1 : (((w0.alloc (Obj.cells #[Value.slice none 0 0] 22)).alloc (Obj.cells #[Value.bool false] 4)).alloc (Obj.cells #[Value.slice A0 l.length c0] 24)).heap[w0.heap.size + 1]? = some (.cells #[.bool false] 4 (0, 0)) := by
    refine (Below.heap_alloc _ _ _ (by simp)).trans ?_
    have := World.alloc_heap_new (w0.alloc (Obj.cells #[Value.slice none 0 0] 22)) (Obj.cells #[Value.bool false] 4)
    rwa [World.size_alloc] at this
  have hk2 : (((w0.alloc (Obj.cells #[Value.slice none 0 0] 22)).alloc (Obj.cells #[Value.bool false] 4)).alloc (Obj.cells #[Value.slice A0 l.length c0] 24)).heap[w0.heap.size + 2]? = some (.cells #[.slice A0 l.length c0] 24 (0, 0)) := by
    have := World.alloc_heap_new ((w0.alloc (Obj.cells #[Value.slice none 0 0] 22)).alloc (Obj.cells #[Value.bool false] 4)) (Obj.cells #[Value.slice A0 l.length c0] 24)
    rwa [World.size_alloc, World.size_alloc] at this
  have hs5 : (((w0.alloc (Obj.cells #[Value.slice none 0 0] 22)).alloc (Obj.cells #[Value.bool false] 4)).alloc (Obj.cells #[Value.slice A0 l.length c0] 24)).heap.size = w0.heap.size + 3 := by simp
  generalize ((w0.alloc (Obj.cells #[Value.slice none 0 0] 22)).alloc (Obj.cells #[Value.bool false] 4)).alloc (Obj.cells #[Value.slice A0 l.length c0] 24) = w5 at *
  refine Ab.rangeFunc_law (F := Fence.wide) (Bn := w0.heap.size + 2) rfl (by decide) rfl trivial (enters_of Try.func79 (by kernel_rfl) rfl) (by omega) hk2 (it_gives l HX.out.1 HX.out.2.2.2.2 A0 c0 (w0.heap.size + 2) HX.out.2.2.2.1) (fun _ => rfl) (DecJ w0 l) (fun _ _ _ => False) ?hR ?hJp ?hJb ?hJo (fun _ _ _ _ h => h.elim) (fun _ _ _ _ h => h.elim) ?h0 (DecJ1 w0 l) ?h1p ?assign ?body ?done (fun _ _ _ _ h => h.elim) ?panic
  case hR =>
    intro pre W hj hne
    have hx := HX.out.2.2.1
    simp only [rel] at hx
    obtain ⟨Ad, cp, e0, q5, q6, q7, q8⟩ := hx
    injection e0 with e1 e2 e3
    subst e1
    obtain ⟨ad, te, rfl, q9, q10, q11, q12⟩ := q8 hne
    have e5 : te = te5 := by have : TT.look 5 = some te5 := by kernel_rfl
                             rw [this] at q9; injection q9 with q9; exact q9.symm
    subst e5
    have hlt : ad.block < w0.heap.size := q11
    exact ⟨ad, rfl, Nat.lt_of_lt_of_le hlt hj.1.size, by omega, relE_move HX.out.1 q12 (hj.1.block _ hlt)⟩
  case hJp =>
    intro pre W o hj
    rw [hs5]
    refine hj.frame rfl rfl rfl (by simp) (fun k h1 h2 h3 => World.putObj_heap_other (by omega)) ?_
    intro cs t f he
    rw [World.putObj_heap_same (by have := hj.2.1; omega)] at he
    cases he
  case hJb =>
    intro pre W W' hj hbl
    refine hj.frame hbl.os hbl.tape hbl.output hbl.size (fun k h1 h2 h3 => hbl.block k h1) ?_
    intro cs t f he
    rw [hbl.block _ (by have := hj.2.1; omega)] at he
    exact hj.2.2.1 _ _ _ he
  case hJo =>
    intro pre W o hj
    refine hj.frame rfl rfl rfl (by simp) (fun k h1 h2 h3 => World.putObj_heap_other (by omega)) ?_
    intro cs t f he
    rw [World.putObj_heap_other (by omega)] at he
    exact hj.2.2.1 _ _ _ he
  case h0 =>
    intro r
    exact dec_h0 hB2 hk0 hk1 hs5 r
  case h1p =>
    rintro pre x a1 W o ⟨hj, hd, hsz, g2, Br, Av, nv, cv, k, hv, g4, hB5, hBr, hr1, hrel, φ, S, hh, p2, p3, hS, hSB, hnb⟩
    rw [hs5]
    refine ⟨?_, hd, hsz, g2, Br, Av, nv, cv, k, hv, g4, hB5, (World.putObj_heap_other (by omega)).trans hBr, hr1, ?_, φ, S, hok_frame hh (by simp) (fun j h1 h2 => World.putObj_heap_other ?_), p2, p3, hS, hSB, hnb⟩
    · refine hj.frame rfl rfl rfl (by simp) (fun k h1 h2 h3 => World.putObj_heap_other (by omega)) ?_
      intro cs t f he
      rw [World.putObj_heap_same (by have := hj.2.1; omega)] at he
      cases he
    · rw [World.putObj_size]
      exact rel_mono (LocLe.refl _) (fun j hj => World.putObj_heap_other (by have := hj.2; omega)) (fun _ h => h) _ _ hrel
    · rcases h2 with h | h
      · have := hS j h; omega
      · unfold Zj at h; omega
  case assign =>
    intro lx pre x W hj hst
    unfold encR
    rw [fold_one]
    simp only [List.setIfInBounds_toArray, List.set_cons_zero, List.set_cons_succ]
    refine dec_assign hj hst _ (by rfl) (by rfl) (by rfl) ?_ HX.out.1 (@r3_ok lx)
    rw [hs5]
    have := hj.2.1
    intro k hk
    simp at hk
    omega
  case body =>
    intro lx pre x a1 W h
    rw [hs5]
    exact dec_body HX.out.1 HX.out.2.1 h (@r4_ok lx) (@r5_ok)
  case done =>
    intro D xs W hS hj hD hDs
    obtain ⟨j1, j2, j3, φ, S, hh, p2, p3, hSS⟩ := hj
    have b2 := hh.blk 2 _ rfl
    have b3 := hh.blk 3 _ rfl
    simp only [BlkOk] at b2 b3
    obtain ⟨B2, arr2, e1, k2, e3, e4⟩ := b2
    obtain ⟨B3, arr3, g1, k3, g3, g4⟩ := b3
    rw [p2] at e1; injection e1 with e1; injection e1 with e1; subst e1
    rw [p3] at g1; injection g1 with g1; injection g1 with g1; subst g1
    simp only [relL] at e3 g3
    obtain ⟨ov, xs2, e5, r2, e6⟩ := e3
    obtain ⟨bv, xs3, g5, r3, g6⟩ := g3
    subst e6 g6
    obtain rfl : arr2 = #[ov] := Array.ext' (by simpa using e5)
    obtain rfl : arr3 = #[bv] := Array.ext' (by simpa using g5)
    have r3' := r3
    simp only [rel] at r3'
    obtain ⟨rfl, _⟩ := r3'
    obtain ⟨Ao, no, co, rfl⟩ := slice_of_row r2
    have z2 : W.cell? ⟨w0.heap.size, 0, none⟩ = some (.slice Ao no co) := (blk_cell k2 0).trans rfl
    have z3 : W.cell? ⟨w0.heap.size + 1, 0, none⟩ = some (.bool false) := (blk_cell k3 0).trans rfl
    have f2 := blk_frozen k2 0
    have f3 := blk_frozen k3 0
    have HD := Aside0.mk (And.intro hS (And.intro j1 (And.intro j2 (And.intro hh (And.intro p2 (And.intro p3 (And.intro hSS (And.intro r2 (And.intro k2 (And.intro k3 (And.intro hD hDs)))))))))))
    clear hS j1 j2 j3 hh p2 p3 hSS r2 r3 k2 k3 hD hDs hB2 hk0 hk1 hk2 e4 g4 e5 g5
    gi_wp2
    obtain ⟨hS, j1, j2, hh, p2, p3, hSS, r2, k2, k3, hD, hDs⟩ := HD.out
    rw [hs5] at hDs
    subst hDs
    have s2 := heap_setCell_same W w0.heap.size 0 _ 22 (.slice Ao no co) k2
    have s3 := heap_setCell_same (W.setCell ⟨w0.heap.size, 0, none⟩ (.slice Ao no co)) (w0.heap.size + 1) 0 _ 4 (.bool true) ((heap_setCell_other _ _ _ _ (by simp)).trans k3)
    have s2' := (heap_setCell_other (W.setCell ⟨w0.heap.size, 0, none⟩ (.slice Ao no co)) ⟨w0.heap.size + 1, 0, none⟩ w0.heap.size (.bool true) (by simp)).trans s2
    have sk : ∀ k, k ≠ w0.heap.size → k ≠ w0.heap.size + 1 → ((W.setCell ⟨w0.heap.size, 0, none⟩ (.slice Ao no co)).setCell ⟨w0.heap.size + 1, 0, none⟩ (.bool true)).heap[k]? = W.heap[k]? := fun k h1 h2 => (heap_setCell_other _ _ _ _ h2).trans (heap_setCell_other _ _ _ _ h1)
    have sz : ((W.setCell ⟨w0.heap.size, 0, none⟩ (.slice Ao no co)).setCell ⟨w0.heap.size + 1, 0, none⟩ (.bool true)).heap.size = W.heap.size := by simp
    have so : ((W.setCell ⟨w0.heap.size, 0, none⟩ (.slice Ao no co)).setCell ⟨w0.heap.size + 1, 0, none⟩ (.bool true)).os = W.os := rfl
    have st : ((W.setCell ⟨w0.heap.size, 0, none⟩ (.slice Ao no co)).setCell ⟨w0.heap.size + 1, 0, none⟩ (.bool true)).tape = W.tape := rfl
    have su : ((W.setCell ⟨w0.heap.size, 0, none⟩ (.slice Ao no co)).setCell ⟨w0.heap.size + 1, 0, none⟩ (.bool true)).output = W.output := rfl
    generalize (W.setCell ⟨w0.heap.size, 0, none⟩ (.slice Ao no co)).setCell ⟨w0.heap.size + 1, 0, none⟩ (.bool true) = W5 at *
    refine ⟨by simp, .inl ⟨_, _, rfl, run_takeDeferred ((sk _ (by omega) (by omega)).trans hD), ?_⟩⟩
    refine ⟨by simp, .inr ⟨fun h => by simp [Fence.wide] at h, Fn.func 71, #[], 71, #[.pointer (some ⟨w0.heap.size + 1, 0, none⟩)], rfl, by simp [go_sem], fun g hg => trivial, ?_⟩⟩
    refine (caught_idle _ _).mono ?_
    rintro e u' w'' ⟨rfl, rfl, rfl⟩
    refine ⟨_, results51 _ w0.heap.size Ao no co true _ rfl rfl ((World.putObj_heap_other (by omega)).trans s2') ((World.putObj_heap_other (by omega)).trans s3), ?_⟩
    rw [HR.out]
    obtain ⟨x, φ', S', e1, e2, e3, e4, e5⟩ := dec_ret (W2 := W5.putObj (w0.heap.size + 3) (.deferred none)) j1 j2 hh p2 p3 hSS r2 so st su (by simp [sz]) (fun k h1 h2 h3 h4 => (World.putObj_heap_other h4).trans (sk k h2 h3)) true
    have hre : recs l = (outs l xs.length, true) := by
      have := recs_off l xs.length
      rw [hS, List.drop_length, recs_nil] at this
      simpa using this
    subst e1
    refine ⟨_, φ', S', rfl, e2, ?_, ?_, e5⟩
    · rw [hre]; exact e3
    · rw [hre]; exact e4
  case panic =>
    rintro D ch pre W ⟨rfl, hlt, hrn⟩ hj hD hDs
    obtain ⟨j1, j2, j3, φ, S, hh, p2, p3, hSS⟩ := hj
    have b2 := hh.blk 2 _ rfl
    have b3 := hh.blk 3 _ rfl
    simp only [BlkOk] at b2 b3
    obtain ⟨B2, arr2, e1, k2, e3, e4⟩ := b2
    obtain ⟨B3, arr3, g1, k3, g3, g4⟩ := b3
    rw [p2] at e1; injection e1 with e1; injection e1 with e1; subst e1
    rw [p3] at g1; injection g1 with g1; injection g1 with g1; subst g1
    simp only [relL] at e3 g3
    obtain ⟨ov, xs2, e5, r2, e6⟩ := e3
    obtain ⟨bv, xs3, g5, r3, g6⟩ := g3
    subst e6 g6
    obtain rfl : arr2 = #[ov] := Array.ext' (by simpa using e5)
    obtain rfl : arr3 = #[bv] := Array.ext' (by simpa using g5)
    have r3' := r3
    simp only [rel] at r3'
    obtain ⟨rfl, _⟩ := r3'
    obtain ⟨Ao, no, co, rfl⟩ := slice_of_row r2
    rw [hs5] at hDs
    subst hDs
    show bodyPostM Fence.wide 1 Try.prog Try.f51 R (.panic bad) _ W
    refine ⟨by simp, .inl ⟨_, _, rfl, run_takeDeferred hD, ?_⟩⟩
    have k3' : (W.putObj (w0.heap.size + 3) (.deferred none)).heap[w0.heap.size + 1]? = some (.cells #[.bool false] 4 (0, 0)) := (World.putObj_heap_other (by omega)).trans k3
    refine ⟨by simp, .inr ⟨fun h => by simp [Fence.wide] at h, Fn.func 71, #[], 71, #[.pointer (some ⟨w0.heap.size + 1, 0, none⟩)], rfl, by simp [go_sem], fun g hg => trivial, ?_⟩⟩
    refine (caught_panicking (w0.heap.size + 1) false [] _ k3').mono ?_
    rintro e u' w'' ⟨rfl, rfl, rfl⟩
    have s3 := heap_setCell_same (W.putObj (w0.heap.size + 3) (.deferred none)) (w0.heap.size + 1) 0 _ 4 (.bool false) k3'
    have sk : ∀ k, k < W.heap.size → k ≠ w0.heap.size + 1 → k ≠ w0.heap.size + 3 → (((W.putObj (w0.heap.size + 3) (.deferred none)).setCell ⟨w0.heap.size + 1, 0, none⟩ (.bool false)).alloc (.cells #[] 116)).heap[k]? = W.heap[k]? := fun k h0 h1 h2 => (Below.heap_alloc _ _ _ (by simpa using h0)).trans ((heap_setCell_other _ _ _ _ h1).trans (World.putObj_heap_other h2))
    refine ⟨_, results51 _ w0.heap.size Ao no co false _ rfl rfl ((sk _ (by omega) (by omega) (by omega)).trans k2) ((Below.heap_alloc _ _ _ (by simp; omega)).trans s3), ?_⟩
    rw [HR.out]
    obtain ⟨x, φ', S', e1, e2, e3, e4, e5⟩ := dec_ret (W2 := ((W.putObj (w0.heap.size + 3) (.deferred none)).setCell ⟨w0.heap.size + 1, 0, none⟩ (.bool false)).alloc (.cells #[] 116)) j1 j2 hh p2 p3 hSS r2 rfl rfl rfl (by simp) (fun k h1 h2 h3 h4 => sk k h1 h3 h4) false
    have hre : recs l = (outs l pre.length, false) := by
      have := recs_off l pre.length
      rw [recs_none (fun e => by have := congrArg List.length e; simp at this; omega) hrn] at this
      simpa using this
    subst e1
    refine ⟨_, φ', S', rfl, e2, ?_, ?_, e5⟩
    · rw [hre]; exact e3
    · rw [hre]; exact e4
end Go.Proofs.Ytdejapkfijdadaa
end
section
namespace Go.Proofs.Ytdejapkfijdadaa
open Go.Ab Go.RowKit
set_option maxRecDepth 100000
noncomputable def d51p (a0 a1 : Int) (a2 : List V) : Option (List V × Bool) := d51 (subL a2 a0 (plI a0 a1))
theorem add0 {b : Base} {φ φ' : Nat → Option Ab.Loc} {S S' : Nat → Prop} {hp : Hp} {w' : World} {es : List V} (h : HOk TT φ b.Z b.w S hp) (h0 : Ab.look hp 0 = none) (hbl : Below b.w.heap.size b.w w') (hk : HOk TT φ' (oldZ b.w) w' S' [(0, .row 33 es)]) (hS' : ∀ k, S' k → b.w.heap.size ≤ k) :
    HOk TT (fun n => if n = 0 then φ' 0 else φ n) b.Z w' (fun k => S k ∨ S' k) ((0, .row 33 es) :: hp) := by
  have hφ0 : φ 0 = none := (h.dom 0).2 h0
  have own0 : ∀ l B, φ' 0 = some l → l.blk = some B → ¬ B < b.w.heap.size ∧ B < w'.heap.size ∧ ¬ S' B := fun l B e1 e2 => hk.own 0 _ l B rfl rfl e1 e2
  have hle : LocLe φ' (fun n => if n = 0 then φ' 0 else φ n) := fun n l e => by
    by_cases e0 : n = 0
    · subst e0; simpa using e
    · have := (hk.dom n).2 (by rw [look_cons, if_neg (fun e => e0 e.symm)]; rfl)
      rw [this] at e; cases e
  refine HOk.cons h (fun n l e => ?_) (fun m hm => by simp [hm]) ?_ (fun k hk => hbl.block k (h.old k hk)) (fun k h => .inl h) (fun m c l B hm h2 h3 h4 h5 => ?_) hbl.size ?_ (fun _ l B e1 e2 => ?_) (fun k hk' => ?_)
  · by_cases e0 : n = 0
    · subst e0; rw [hφ0] at e; cases e
    · simp only [if_neg e0]; exact e
  · simp only [if_true]
    intro e
    have := (hk.dom 0).1 e
    cases this
  · obtain ⟨a1, a2, a3⟩ := h.own m c l B h2 h3 h4 h5
    exact ⟨hbl.block B a2, fun hs => hs.elim a3 (fun hs => absurd a2 (Nat.not_lt.2 (hS' B hs)))⟩
  · have q := hk.blk 0 _ rfl
    simp only [BlkOk, if_true] at q ⊢
    obtain ⟨q1, e, q2, q3, q4⟩ := q
    refine ⟨q1, e, q2, q3, q4.imp (fun ⟨B, off, room, arr, e1, e2, e3, e4, e5, e6⟩ => ⟨B, off, room, arr, e1, e2, e3, e4, e5, fun k v hv => ?_⟩) (fun x => x)⟩
    obtain ⟨x, a1, a2, a3, a4⟩ := e6 k v hv
    exact ⟨x, rel_mono hle (fun _ _ => rfl) (fun _ h => .inr h) _ _ a1, a2, a3, a4⟩
  · simp only [if_true] at e1
    obtain ⟨a1, a2, a3⟩ := own0 l B e1 e2
    refine ⟨fun hz => a1 (b.lt B hz), a2, fun hs => hs.elim (fun hs => a1 (h.old B hs)) a3, fun m c k hm h2 h3 h4 h5 => a1 (h.own m c k B h2 h3 h4 h5).2.1⟩
  · rcases hk' with h' | h'
    · exact Nat.lt_of_lt_of_le (h.old k h') hbl.size
    · exact hk.old k h'
theorem dec_goes {b : Base} {φ : Nat → Option Ab.Loc} {S : Nat → Prop} {hp : Hp} {l : List V} {x : Value} (h : HOk TT φ b.Z b.w S hp) (h0 : Ab.look hp 0 = none) (hx : rel TT (fun _ => none) b.w (oldS b.w) (.sl 5 l) x) {r : List V × Bool} (hr : d51 l = some r) :
    Goes Try.prog 51 #[x] b.w fun e w' => ∃ x φ' S', e = .returned x ∧ Since b w' ∧ HOk TT φ' b.Z w' S' ((0, .row 33 r.1) :: hp) ∧ rel TT φ' w' S' (.tup [.row 0, .b r.2]) x ∧ SLe b.Z S S' ∧ ∀ n, n ≠ 0 → φ' n = φ n := by
  unfold d51 at hr
  split at hr
  · rename_i hq
    injection hr with hr
    subst hr
    obtain ⟨A, n, c, rfl⟩ := slice_of_sl hx
    have hn : n = l.length := by
      simp only [rel] at hx
      obtain ⟨A', cap, e, _⟩ := hx
      injection e
    subst hn
    have hc := (callsIn_wide (n := 1)).1 (dec_core l hq.1 hq.2 hx)
    refine .inl ⟨⟨_, _, Try.func51, by kernel_rfl, rfl⟩, Calls.weaken hc (fun e w' hd => ?_)⟩
    obtain ⟨y, φ', S', rfl, e2, e3, e4, e5⟩ := hd
    refine ⟨y, _, _, rfl, ⟨e2.os, e2.tape, e2.output, e2.size, fun k hk => e2.block k (b.lt k hk)⟩, add0 h h0 e2 e3 e5, ?_, ⟨fun k h => .inl h, fun k hk => hk.imp id (fun hk hz => absurd (b.lt k hz) (Nat.not_lt.2 (e5 k hk)))⟩, fun n hn => by simp [hn]⟩
    simp only [rel, relL] at e4 ⊢
    simpa using e4
  · cases hr
theorem w51 (a0 : List V) (r : List V × Bool) (h : d51 a0 = some r) : Ab.FnB Try.prog TT 51 [.sl 5 a0] [] [] (.tup [.row 0, .b r.2]) [(0, .row 33 r.1)] := by
  intro b hg φ S vals hh hr
  simp only [relL] at hr
  obtain ⟨x, xs, rfl, hx, rfl⟩ := hr
  have hb : ∀ v ∈ a0, ByteV v := by
    unfold d51 at h
    split at h
    · rename_i hq; exact hq.1
    · cases h
  have hx' : rel TT (fun _ => none) b.w (oldS b.w) (.sl 5 a0) x := by
    simp only [rel] at hx ⊢
    obtain ⟨A, cap, e, q5, q6, q7, q8⟩ := hx
    refine ⟨A, cap, e, q5, q6, q7, fun hne => ?_⟩
    obtain ⟨ad, te, e1, q9, q10, q11, q12⟩ := q8 hne
    exact ⟨ad, te, e1, q9, q10, hh.old _ q11, relE_move hb q12 rfl⟩
  refine (dec_goes hh rfl hx' h).weaken ?_
  rintro e w' ⟨y, φ', S', e1, e2, e3, e4, e5, e6⟩
  exact ⟨y, φ', S', e1, e2, e3, e4, e5, fun n hn => by cases hn⟩
theorem w51p (a0 a1 : Int) (a2 : List V) (r : List V × Bool) (h : d51p a0 a1 a2 = some r) : Ab.FnB Try.prog TT 51 [.rowp 900000 a0 a1] [(900000, .row 5 a2)] [900000] (.tup [.row 0, .b r.2]) [(900000, .row 5 a2), (0, .row 33 r.1)] := by
  intro b hg φ S vals hh hr
  simp only [relL] at hr
  obtain ⟨x, xs, rfl, hx, rfl⟩ := hr
  have hx' : rel TT (fun _ => none) b.w (oldS b.w) (.sl 5 (subL a2 a0 (plI a0 a1))) x := by
    have q := hh.blk 900000 _ rfl
    simp only [BlkOk] at q
    obtain ⟨q1, te, q2, q3, q4⟩ := q
    have e5 : te = te5 := by have : TT.look 5 = some te5 := by kernel_rfl
                             rw [this] at q2; injection q2 with q2; exact q2.symm
    subst e5
    simp only [rel] at hx
    rcases hx with ⟨B, off, len, room, sz, cap, A, p1, rfl, p3, p4, p5, p6, p7, p8, p9⟩ | ⟨p1, ⟨A, rfl⟩, rfl, rfl⟩
    · rcases q4 with ⟨B', off', room', arr, r1, r2, r3, r4, r5, r6⟩ | ⟨r1, r2⟩
      · rw [p1] at r1
        injection r1 with r1
        injection r1 with z1 z2 z3 z4 z5
        subst z1 z2 z3 z4 z5
        have hlen : (subL a2 a0 (plI a0 a1)).length = a1.toNat := by
          unfold subL plI
          simp
          omega
        simp only [rel]
        refine ⟨some A, cap, by rw [hlen], by rw [hlen]; omega, by rw [hlen]; omega, wtL_sub _ _ q1, fun hne => ?_⟩
        have hpos : 0 < a1.toNat := by
          rw [← hlen]
          exact List.length_pos_iff.2 hne
        refine ⟨A, te5, rfl, by kernel_rfl, q3, ?_, ?_⟩
        · rw [p9 (by omega)]
          exact (hh.own 900000 _ _ B rfl rfl p1 rfl).2.1
        · refine relE_iff.2 (fun k e he => ?_)
          have hk : k < a1.toNat := by
            have := (List.getElem?_eq_some_iff.1 he).1
            rw [hlen] at this
            exact this
          have he2 : a2[a0.toNat + k]? = some e := by
            unfold subL plI at he
            rw [List.getElem?_drop, List.getElem?_take_of_lt (by omega)] at he
            exact he
          obtain ⟨x, x1, x2, x3, x4⟩ := r6 _ e he2
          have hbe : ByteV e := by
            unfold d51p d51 at h
            split at h
            · rename_i hq; exact hq.1 e (List.mem_of_getElem? he)
            · cases h
          refine ⟨x, relByte hbe x1, x2, x3, fun j u hu => ?_⟩
          have x5 := x4 j u hu
          rw [p9 (by omega)]
          have e1 : (⟨B, off + a0.toNat * te5.size, none⟩ : Addr).add ((0 + k) * te5.size + j) = ⟨B, off + (a0.toNat + k) * te5.size + j, none⟩ := by
            rw [show te5.size = 1 from rfl]
            unfold Addr.add
            simp
            split
            · rename_i hz
              rw [hz.1, hz.2]
              rfl
            · congr 1
              omega
          rw [e1]
          unfold World.cell?
          simp only [r2]
          exact x5
      · rw [p1] at r1; cases r1
    · have he : subL a2 0 (plI 0 0) = [] := by unfold subL plI; simp
      rw [he]
      simp only [rel]
      exact ⟨A, 0, rfl, Nat.le_refl _, Nat.zero_le _, by simp only [wtL], fun hne => absurd rfl hne⟩
  refine (dec_goes hh rfl hx' h).weaken ?_
  rintro e w' ⟨y, φ', S', e1, e2, e3, e4, e5, e6⟩
  refine ⟨y, φ', S', e1, e2, e3.perm (fun k => ?_), e4, e5, fun n hn => ?_⟩
  · simp only [look_cons]
    by_cases e0 : 0 = k <;> by_cases e9 : 900000 = k <;> simp [e0, e9] <;> omega
  · simp at hn
    subst hn
    exact e6 _ (by decide)
end Go.Proofs.Ytdejapkfijdadaa
end
section
namespace Go.Proofs.Ytdejapkfijdadaa
open Go.Ab Go.RowKit 
set_option maxRecDepth 100000
set_option maxHeartbeats 40000000
noncomputable def d70v1_b1 (a0 : Int) (a1 : Int) (s8 : Int × List V) : Option ((Int × List V) ⊕ (List V)) :=
  if (cmpLit .lss s8.1 a1) = true then
    if (Ge0 (arReal .mul .i64 8 s8.1)) then
      if (Room (lenI (appL s8.2 [.i .u8 (wrapK .u8 (arReal .shr .i64 a0 (arReal .mul .i64 8 s8.1)))])) 1) then
        some (.inl ((arReal .add .i64 s8.1 1), (appL s8.2 [.i .u8 (wrapK .u8 (arReal .shr .i64 a0 (arReal .mul .i64 8 s8.1)))])))
      else none
    else none
  else
    some (.inr s8.2)
noncomputable def d70v1 (a0 : Int) (a1 : Int) : Option (List V) :=
  Option.bind (α := List V) (
    (iter (d70v1_b1 a0 a1) (0, [])).bind fun y9 =>
    some y9) fun y7 =>
  some y7
noncomputable def w70v1_c : Code := (Try.f70.body).getD .skip
theorem w70v1_h : Try.f70.body = some w70v1_c := by kernel_rfl
theorem w70v1 (a0 : Int) (a1 : Int) (r : List V) (h : d70v1 a0 a1 = some r) : Ab.FnB Try.prog TT 70 [.nil, .i .i64 a0, .i .i64 a1] [] [] (.row 0) [(0, .row 5 r)] := by
  refine fnb_rules tok W0 [] [.row 0] [(0, .row 5 r)] [] Try.func70 (by kernel_rfl) w70v1_h (by kernel_rfl) (by rfl) ?_
  intro ar un cv mn mx pl mi cmp nt beq an scmp cat slen sbyte ssub ofB toB len gi gb gs gl sub put app ovl rep ne0 ge0 inb bnd room sroom need br call callb loop cut nl E R K hK
  have D := E.D
  clear E
  unfold d70v1 at h
  cbv
  refine R.cutB (fun p => p) (fun _ _ e => e) h [] (fun p11 => [(0, .row 15)]) (fun p11 => [(15, .row 5 p11)]) (by kernel_rfl) (by kernel_rfl) (fun y7 hy hFy7 L hLy7 => ?_) (fun p11 h2 => ?_)
  · clear h; have h := hy; clear hy; cbv
    refine R.loopD h (fun s0 y9 e0 hi hFs8 => ?_)
    clear h
    refine R.born' (e := te5) 0 15 5 rfl rfl (by kernel_rfl) (by decide) ?_
    refine R.loopI hi [] (fun s8 => [(0, .row 15), (9, .i .i64 s8.1)]) (fun s8 => [(15, .row 5 s8.2)]) ⟨rfl, ?_, ?_, rfl, rfl⟩ (by kernel_rfl) ?_
    · cbv; try (subst e0; simp only [D.happ, D.har, D.hcmp, D.hcv, D.hge0, D.hlen, D.hroom, and_self, and_true, true_and] <;> (repeat' apply And.intro) <;> rfl)
    · cbv; try (subst e0; simp only [D.happ, D.har, D.hcmp, D.hcv, D.hge0, D.hlen, D.hroom, and_self, and_true, true_and] <;> (repeat' apply And.intro) <;> rfl)
    clear hi e0
    intro s8 m y' hy hins8 houts8 L hLs8
    have h := hy; clear hy; unfold d70v1_b1 at h
    cbv
    refine R.cut' (by kernel_rfl) (by kernel_rfl) ?_
    cbv
    refine R.brD h (by (first | rfl | (simp only [D.happ, D.har, D.hcmp, D.hcv, D.hge0, D.hlen, D.hroom]; done) | (simp only [D.happ, D.har, D.hcmp, D.hcv, D.hge0, D.hlen, D.hroom]; rfl))) ?_ ?_ <;> clear h <;> intro h <;> cbv
    · refine R.cut' (by kernel_rfl) (by kernel_rfl) ?_
      cbv
      refine R.needD h (by (first | rfl | (simp only [D.happ, D.har, D.hcmp, D.hcv, D.hge0, D.hlen, D.hroom]; done) | (simp only [D.happ, D.har, D.hcmp, D.hcv, D.hge0, D.hlen, D.hroom]; rfl))) ?_
      clear h; intro h; cbv
      refine R.needD h (by (first | rfl | (simp only [D.happ, D.har, D.hcmp, D.hcv, D.hge0, D.hlen, D.hroom]; done) | (simp only [D.happ, D.har, D.hcmp, D.hcv, D.hge0, D.hlen, D.hroom]; rfl))) ?_
      clear h; intro h; cbv
      obtain ⟨s', e, hi⟩ := inl_some h hins8
      refine hLs8 s' _ _ hi ⟨rfl, ?_, ?_, rfl, rfl⟩ <;> cbv <;> (try (subst e; simp only [D.happ, D.har, D.hcmp, D.hcv, D.hge0, D.hlen, D.hroom, and_self, and_true, true_and] <;> (repeat' apply And.intro) <;> rfl))
    · have e := inr_some h houts8; clear h
      have h := hFs8; rw [e] at h; clear e; try dsimp only at h
      cbv
      obtain ⟨s', e, hi⟩ := jn_some (fun p => p) h
      refine hLy7 s' _ _ hi ⟨rfl, ?_, ?_, rfl, rfl⟩ <;> cbv <;> (try (subst e; simp only [D.happ, D.har, D.hcmp, D.hcv, D.hge0, D.hlen, D.hroom, and_self, and_true, true_and] <;> (repeat' apply And.intro) <;> rfl))
  · clear h; have h := h2; clear h2; try dsimp only at h
    cbv
    have e := ret_some h; clear h
    refine hK _ _ ⟨rfl, ?_, ?_, rfl, rfl⟩ <;> cbv <;> (try (subst e; simp only [D.happ, D.har, D.hcmp, D.hcv, D.hge0, D.hlen, D.hroom, and_self, and_true, true_and] <;> (repeat' apply And.intro) <;> rfl))

noncomputable def d70v2_b1 (a0 : Int) (a1 : Int) (s8 : Int × List V) : Option ((Int × List V) ⊕ (List V)) :=
  if (cmpLit .lss s8.1 a1) = true then
    if (Ge0 (arReal .mul .i64 8 s8.1)) then
      if (Room (lenI (appL s8.2 [.i .u8 (wrapK .u8 (arReal .shr .i64 a0 (arReal .mul .i64 8 s8.1)))])) 1) then
        some (.inl ((arReal .add .i64 s8.1 1), (appL s8.2 [.i .u8 (wrapK .u8 (arReal .shr .i64 a0 (arReal .mul .i64 8 s8.1)))])))
      else none
    else none
  else
    some (.inr s8.2)
noncomputable def d70v2 (a0 : Int) (a1 : Int) (a2 : List V) : Option (List V) :=
  Option.bind (α := List V) (
    (iter (d70v2_b1 a0 a1) (0, a2)).bind fun y9 =>
    some y9) fun y7 =>
  some y7
noncomputable def w70v2_c : Code := (Try.f70.body).getD .skip
theorem w70v2_h : Try.f70.body = some w70v2_c := by kernel_rfl
theorem w70v2 (a0 : Int) (a1 : Int) (a2 : List V) (r : List V) (h : d70v2 a0 a1 a2 = some r) : Ab.FnB Try.prog TT 70 [.row 900000, .i .i64 a0, .i .i64 a1] [(900000, .row 5 a2)] [] (.row 0) [(0, .row 5 r), (900000, .gone)] := by
  refine fnb_rules tok W0 [] [.row 0] [(0, .row 5 r)] [900000] Try.func70 (by kernel_rfl) w70v2_h (by kernel_rfl) (by rfl) ?_
  intro ar un cv mn mx pl mi cmp nt beq an scmp cat slen sbyte ssub ofB toB len gi gb gs gl sub put app ovl rep ne0 ge0 inb bnd room sroom need br call callb loop cut nl E R K hK
  have D := E.D
  clear E
  unfold d70v2 at h
  cbv
  refine R.cutB (fun p => p) (fun _ _ e => e) h [] (fun p11 => [(0, .row 900000)]) (fun p11 => [(900000, .row 5 p11)]) (by kernel_rfl) (by kernel_rfl) (fun y7 hy hFy7 L hLy7 => ?_) (fun p11 h2 => ?_)
  · clear h; have h := hy; clear hy; cbv
    refine R.loopD h (fun s0 y9 e0 hi hFs8 => ?_)
    clear h
    refine R.loopI hi [] (fun s8 => [(0, .row 900000), (9, .i .i64 s8.1)]) (fun s8 => [(900000, .row 5 s8.2)]) ⟨rfl, ?_, ?_, rfl, rfl⟩ (by kernel_rfl) ?_
    · cbv; try (subst e0; simp only [D.happ, D.har, D.hcmp, D.hcv, D.hge0, D.hlen, D.hroom, and_self, and_true, true_and] <;> (repeat' apply And.intro) <;> rfl)
    · cbv; try (subst e0; simp only [D.happ, D.har, D.hcmp, D.hcv, D.hge0, D.hlen, D.hroom, and_self, and_true, true_and] <;> (repeat' apply And.intro) <;> rfl)
    clear hi e0
    intro s8 m y' hy hins8 houts8 L hLs8
    have h := hy; clear hy; unfold d70v2_b1 at h
    cbv
    refine R.cut' (by kernel_rfl) (by kernel_rfl) ?_
    cbv
    refine R.brD h (by (first | rfl | (simp only [D.happ, D.har, D.hcmp, D.hcv, D.hge0, D.hlen, D.hroom]; done) | (simp only [D.happ, D.har, D.hcmp, D.hcv, D.hge0, D.hlen, D.hroom]; rfl))) ?_ ?_ <;> clear h <;> intro h <;> cbv
    · refine R.cut' (by kernel_rfl) (by kernel_rfl) ?_
      cbv
      refine R.needD h (by (first | rfl | (simp only [D.happ, D.har, D.hcmp, D.hcv, D.hge0, D.hlen, D.hroom]; done) | (simp only [D.happ, D.har, D.hcmp, D.hcv, D.hge0, D.hlen, D.hroom]; rfl))) ?_
      clear h; intro h; cbv
      refine R.needD h (by (first | rfl | (simp only [D.happ, D.har, D.hcmp, D.hcv, D.hge0, D.hlen, D.hroom]; done) | (simp only [D.happ, D.har, D.hcmp, D.hcv, D.hge0, D.hlen, D.hroom]; rfl))) ?_
      clear h; intro h; cbv
      obtain ⟨s', e, hi⟩ := inl_some h hins8
      refine hLs8 s' _ _ hi ⟨rfl, ?_, ?_, rfl, rfl⟩ <;> cbv <;> (try (subst e; simp only [D.happ, D.har, D.hcmp, D.hcv, D.hge0, D.hlen, D.hroom, and_self, and_true, true_and] <;> (repeat' apply And.intro) <;> rfl))
    · have e := inr_some h houts8; clear h
      have h := hFs8; rw [e] at h; clear e; try dsimp only at h
      cbv
      obtain ⟨s', e, hi⟩ := jn_some (fun p => p) h
      refine hLy7 s' _ _ hi ⟨rfl, ?_, ?_, rfl, rfl⟩ <;> cbv <;> (try (subst e; simp only [D.happ, D.har, D.hcmp, D.hcv, D.hge0, D.hlen, D.hroom, and_self, and_true, true_and] <;> (repeat' apply And.intro) <;> rfl))
  · clear h; have h := h2; clear h2; try dsimp only at h
    cbv
    have e := ret_some h; clear h
    refine hK _ _ ⟨rfl, ?_, ?_, rfl, rfl⟩ <;> cbv <;> (try (subst e; simp only [D.happ, D.har, D.hcmp, D.hcv, D.hge0, D.hlen, D.hroom, and_self, and_true, true_and] <;> (repeat' apply And.intro) <;> rfl))

noncomputable def d49 (a0_0 : Int) (a0_1 : Int) (a0_2 : List V) : Option (List V) :=
  (d70v1 a0_0 4).bind fun x1 =>
  (d70v2 a0_1 8 x1).bind fun x2 =>
  (d70v2 (lenI a0_2) 2 x2).bind fun x3 =>
  if (Room (lenI (appL x3 a0_2)) 1) then
    some (appL x3 a0_2)
  else none
noncomputable def w49_c : Code := (Try.f49.body).getD .skip
theorem w49_h : Try.f49.body = some w49_c := by kernel_rfl
theorem w49 (a0_0 : Int) (a0_1 : Int) (a0_2 : List V) (r : List V) (h : d49 a0_0 a0_1 a0_2 = some r) : Ab.Fn Try.prog TT 49 [.agg [.i .i64 a0_0, .i .i64 a0_1, .sl 5 a0_2]] (.row 0) [(0, .row 5 r)] := by
  refine fn_own tok (fun r => match r with | 1 => [[],[0],[0,1],[],[3],[0,1,2,3,4],[],[6],[6,7],[0,1,2,3,4,5,6,7,8],[0,1,2,3,4,5,6,7,8,9]] | _ => []) Try.func49 (by kernel_rfl) w49_h (by kernel_rfl) ?_
  intro ar un cv mn mx pl mi cmp nt beq an scmp cat slen sbyte ssub ofB toB len gi gb gs gl sub put app ovl rep ne0 ge0 inb bnd room sroom need br call callb loop cut nl E R K hK
  have D := E.D
  clear E
  unfold d49 at h
  cbv
  refine R.callBD h (fun x1 hx1 h2 => ?_)
  clear h; have h := h2; clear h2
  refine R.callB [(0, 96)] (w70v1 a0_0 4 _ hx1) ?_ ?_ rfl ?_
  · cbv <;> (try simp only [D.happ, D.hlen, D.hroom, and_self, and_true, true_and] <;> (repeat' apply And.intro) <;> rfl)
  · cbv <;> (try simp only [D.happ, D.hlen, D.hroom, and_self, and_true, true_and] <;> (repeat' apply And.intro) <;> rfl)
  clear hx1; cbv
  refine R.callBD h (fun x2 hx2 h2 => ?_)
  clear h; have h := h2; clear h2
  refine R.callB [(0, 144), (900000, 96)] (w70v2 a0_1 8 x1 _ hx2) ?_ ?_ rfl ?_
  · cbv <;> (try simp only [D.happ, D.hlen, D.hroom, and_self, and_true, true_and] <;> (repeat' apply And.intro) <;> rfl)
  · cbv <;> (try simp only [D.happ, D.hlen, D.hroom, and_self, and_true, true_and] <;> (repeat' apply And.intro) <;> rfl)
  clear hx2; cbv
  refine R.callBD h (fun x3 hx3 h2 => ?_)
  clear h; have h := h2; clear h2
  obtain ⟨bx3_0, ex3_0, hbx3⟩ : ∃ bx3_0, bx3_0 = (lenI a0_2) ∧ d70v2 bx3_0 2 x2 = some x3 := ⟨_, rfl, hx3⟩
  clear hx3; have hx3 := hbx3; clear hbx3
  refine R.callB [(0, 208), (900000, 144)] (w70v2 bx3_0 2 x2 _ hx3) ?_ ?_ rfl ?_
  · cbv <;> (try simp only [D.happ, D.hlen, D.hroom, ex3_0, and_self, and_true, true_and] <;> (repeat' apply And.intro) <;> rfl)
  · cbv <;> (try simp only [D.happ, D.hlen, D.hroom, ex3_0, and_self, and_true, true_and] <;> (repeat' apply And.intro) <;> rfl)
  clear hx3; cbv
  refine R.needD h (by (first | rfl | (simp only [D.happ, D.hlen, D.hroom, ex3_0]; done) | (simp only [D.happ, D.hlen, D.hroom, ex3_0]; rfl))) ?_
  clear h; intro h; cbv
  have e := ret_some h; clear h
  refine hK _ _ ⟨rfl, ⟨?_, rfl, rfl, rfl, ?_⟩⟩ <;> cbv <;> (try (subst e; simp only [D.happ, D.hlen, D.hroom, ex3_0, and_self, and_true, true_and] <;> (repeat' apply And.intro) <;> rfl))
theorem w49s (a0_0 : Int) (a0_1 : Int) (a0_2 : List V) (r : List V) (h : d49 a0_0 a0_1 a0_2 = some r) : Ab.Fn Try.prog TT 49 [.agg [.i .i64 a0_0, .i .i64 a0_1, .sl 5 a0_2]] (.sl 5 r) [] :=
  (w49 a0_0 a0_1 a0_2 r h).pure (by simp [ple, ple1, ple1L, pleL, pleS, Ab.look])

noncomputable def d24 (a0_0 : Int) (a0_1 : Int) (a0_2 : List V) : Option (List V × Int) :=
  (d45 a0_0 a0_1 a0_2).bind fun x2 =>
  if (notB' x2) = true then
    some ([], 221)
  else
    (d49 a0_0 a0_1 a0_2).bind fun x3 =>
    some (x3, 0)
noncomputable def w24_c : Code := (Try.f24.body).getD .skip
theorem w24_h : Try.f24.body = some w24_c := by kernel_rfl
theorem w24 (a0_0 : Int) (a0_1 : Int) (a0_2 : List V) (r : List V × Int) (h : d24 a0_0 a0_1 a0_2 = some r) : Ab.Fn Try.prog TT 24 [.agg [.i .i64 a0_0, .i .i64 a0_1, .sl 5 a0_2]] (.tup [.sl 5 r.1, .i .i64 r.2]) [] := by
  refine fn_pure tok W0 Try.func24 (by kernel_rfl) w24_h (by kernel_rfl) ?_
  intro ar un cv mn mx pl mi cmp nt beq an scmp cat slen sbyte ssub ofB toB len gi gb gs gl sub put app ovl rep ne0 ge0 inb bnd room sroom need br call callb loop cut nl E R K hK
  have D := E.D
  clear E
  unfold d24 at h
  cbv
  refine R.cut' (by kernel_rfl) (by kernel_rfl) ?_
  cbv
  refine R.callD h (fun x2 hx2 h2 => ?_)
  clear h; have h := h2; clear h2
  refine R.call' (w45 _ _ _ _ hx2) (by (first | rfl | (simp only [D.hnt]; done) | (simp only [D.hnt]; rfl))) ?_
  clear hx2; cbv
  refine R.brD h (by (first | rfl | (simp only [D.hnt]; done) | (simp only [D.hnt]; rfl))) ?_ ?_ <;> clear h <;> intro h <;> cbv
  · have e := ret_some h; clear h
    refine hK _ _ ?_
    cbv
    try (subst e; simp only [D.hnt, and_self, and_true, true_and] <;> (repeat' apply And.intro) <;> rfl)
  · refine R.callD h (fun x3 hx3 h2 => ?_)
    clear h; have h := h2; clear h2
    refine R.call' (w49s _ _ _ _ hx3) (by (first | rfl | (simp only [D.hnt]; done) | (simp only [D.hnt]; rfl))) ?_
    clear hx3; cbv
    have e := ret_some h; clear h
    refine hK _ _ ?_
    cbv
    try (subst e; simp only [D.hnt, and_self, and_true, true_and] <;> (repeat' apply And.intro) <;> rfl)

noncomputable def d15 (a0 : Int) (a1 : Int) : Option (Int × List V × Int × Int × Int × Int × List V × Int × Bool × Int) :=
  Option.bind (α := Bool) (
    if (cmpLit .lss a0 1) = true then
      some true
    else
      if (cmpLit .gtr a0 3) = true then
        some true
      else
        if (cmpLit .lss a1 64) = true then
          some true
        else
          some (cmpLit .gtr a1 4096)) fun y3 =>
  if y3 = true then
    some (0, [], 0, 0, 0, 0, [], 0, false, 1)
  else
    if (Ge0 a1) then
      if (Room a1 1) then
        some (a0, (repL a1 (.i .u8 0)), 0, 0, 0, 0, [], 0, false, 0)
      else none
    else none
noncomputable def w15_c : Code := (Try.f15.body).getD .skip
theorem w15_h : Try.f15.body = some w15_c := by kernel_rfl
theorem w15 (a0 : Int) (a1 : Int) (r : Int × List V × Int × Int × Int × Int × List V × Int × Bool × Int) (h : d15 a0 a1 = some r) : Ab.Fn Try.prog TT 15 [.i .i64 a0, .i .i64 a1] (.tup [.agg [.i .i64 r.1, .row 0, .i .i64 r.2.2.1, .i .i64 r.2.2.2.1, .i .i64 r.2.2.2.2.1, .i .i64 r.2.2.2.2.2.1, .sl 5 r.2.2.2.2.2.2.1, .i .i64 r.2.2.2.2.2.2.2.1, .b r.2.2.2.2.2.2.2.2.1], .i .i64 r.2.2.2.2.2.2.2.2.2]) [(0, .row 5 r.2.1)] := by
  refine fn_own tok W0 Try.func15 (by kernel_rfl) w15_h (by kernel_rfl) ?_
  intro ar un cv mn mx pl mi cmp nt beq an scmp cat slen sbyte ssub ofB toB len gi gb gs gl sub put app ovl rep ne0 ge0 inb bnd room sroom need br call callb loop cut nl E R K hK
  have D := E.D
  clear E
  unfold d15 at h
  cbv
  refine R.cut' (by kernel_rfl) (by kernel_rfl) ?_
  cbv
  refine R.cutB (fun p => p) (fun _ _ e => e) h [] (fun p4 => [(19, .b p4)]) (fun p4 => []) (by kernel_rfl) (by kernel_rfl) (fun y3 hy hFy3 L hLy3 => ?_) (fun p4 h2 => ?_)
  · clear h; have h := hy; clear hy; cbv
    refine R.brD h (by (first | rfl | (simp only [D.hcmp, D.hge0, D.hrep, D.hroom]; done) | (simp only [D.hcmp, D.hge0, D.hrep, D.hroom]; rfl))) ?_ ?_ <;> clear h <;> intro h <;> cbv
    · obtain ⟨s', e, hi⟩ := jn_some (fun p => p) h
      refine hLy3 s' _ _ hi ⟨rfl, ?_, ?_, rfl, rfl⟩ <;> cbv <;> (try (subst e; simp only [D.hcmp, D.hge0, D.hrep, D.hroom, and_self, and_true, true_and] <;> (repeat' apply And.intro) <;> rfl))
    · refine R.brD h (by (first | rfl | (simp only [D.hcmp, D.hge0, D.hrep, D.hroom]; done) | (simp only [D.hcmp, D.hge0, D.hrep, D.hroom]; rfl))) ?_ ?_ <;> clear h <;> intro h <;> cbv
      · obtain ⟨s', e, hi⟩ := jn_some (fun p => p) h
        refine hLy3 s' _ _ hi ⟨rfl, ?_, ?_, rfl, rfl⟩ <;> cbv <;> (try (subst e; simp only [D.hcmp, D.hge0, D.hrep, D.hroom, and_self, and_true, true_and] <;> (repeat' apply And.intro) <;> rfl))
      · refine R.brD h (by (first | rfl | (simp only [D.hcmp, D.hge0, D.hrep, D.hroom]; done) | (simp only [D.hcmp, D.hge0, D.hrep, D.hroom]; rfl))) ?_ ?_ <;> clear h <;> intro h <;> cbv
        · obtain ⟨s', e, hi⟩ := jn_some (fun p => p) h
          refine hLy3 s' _ _ hi ⟨rfl, ?_, ?_, rfl, rfl⟩ <;> cbv <;> (try (subst e; simp only [D.hcmp, D.hge0, D.hrep, D.hroom, and_self, and_true, true_and] <;> (repeat' apply And.intro) <;> rfl))
        · obtain ⟨s', e, hi⟩ := jn_some (fun p => p) h
          refine hLy3 s' _ _ hi ⟨rfl, ?_, ?_, rfl, rfl⟩ <;> cbv <;> (try (subst e; simp only [D.hcmp, D.hge0, D.hrep, D.hroom, and_self, and_true, true_and] <;> (repeat' apply And.intro) <;> rfl))
  · clear h; have h := h2; clear h2; try dsimp only at h
    cbv
    refine R.brD h (by (first | rfl | (simp only [D.hcmp, D.hge0, D.hrep, D.hroom]; done) | (simp only [D.hcmp, D.hge0, D.hrep, D.hroom]; rfl))) ?_ ?_ <;> clear h <;> intro h <;> cbv
    · have e := ret_some h; clear h
      refine hK _ _ ⟨rfl, ⟨?_, rfl, rfl, rfl, ?_⟩⟩ <;> cbv <;> (try (subst e; simp only [D.hcmp, D.hge0, D.hrep, D.hroom, and_self, and_true, true_and] <;> (repeat' apply And.intro) <;> rfl))
    · refine R.needD h (by (first | rfl | (simp only [D.hcmp, D.hge0, D.hrep, D.hroom]; done) | (simp only [D.hcmp, D.hge0, D.hrep, D.hroom]; rfl))) ?_
      clear h; intro h; cbv
      refine R.needD h (by (first | rfl | (simp only [D.hcmp, D.hge0, D.hrep, D.hroom]; done) | (simp only [D.hcmp, D.hge0, D.hrep, D.hroom]; rfl))) ?_
      clear h; intro h; cbv
      have e := ret_some h; clear h
      refine hK _ _ ⟨rfl, ⟨?_, rfl, rfl, rfl, ?_⟩⟩ <;> cbv <;> (try (subst e; simp only [D.hcmp, D.hge0, D.hrep, D.hroom, and_self, and_true, true_and] <;> (repeat' apply And.intro) <;> rfl))
theorem w15s (a0 : Int) (a1 : Int) (r : Int × List V × Int × Int × Int × Int × List V × Int × Bool × Int) (h : d15 a0 a1 = some r) : Ab.Fn Try.prog TT 15 [.i .i64 a0, .i .i64 a1] (.tup [.agg [.i .i64 r.1, .sl 5 r.2.1, .i .i64 r.2.2.1, .i .i64 r.2.2.2.1, .i .i64 r.2.2.2.2.1, .i .i64 r.2.2.2.2.2.1, .sl 5 r.2.2.2.2.2.2.1, .i .i64 r.2.2.2.2.2.2.2.1, .b r.2.2.2.2.2.2.2.2.1], .i .i64 r.2.2.2.2.2.2.2.2.2]) [] :=
  (w15 a0 a1 r h).pure (by simp [ple, ple1, ple1L, pleL, pleS, Ab.look])

noncomputable def d57 (a0_0 : Int) (a0_1 : List V) (a0_2 : Int) (a0_3 : Int) (a0_4 : Int) (a0_5 : Int) (a0_6 : List V) (a0_7 : Int) (a0_8 : Bool) : Option (Bool) :=
  Option.bind (α := Bool) (
    if (cmpLit .lss a0_2 0) = true then
      some true
    else
      if (cmpLit .gtr a0_2 (lenI a0_1)) = true then
        some true
      else
        if (cmpLit .lss a0_3 0) = true then
          some true
        else
          if (cmpLit .gtr a0_3 (lenI a0_1)) = true then
            some true
          else
            if (cmpLit .lss a0_4 0) = true then
              some true
            else
              if (cmpLit .gtr a0_4 (lenI a0_1)) = true then
                some true
              else
                if (cmpLit .neq a0_0 3) = true then
                  some (cmpLit .neq a0_2 0)
                else
                  some false) fun y3 =>
  if y3 = true then
    some false
  else
    if (cmpLit .neq a0_4 0) = true then
      if (cmpLit .eql a0_0 3) = true then
        if (cmpLit .lss a0_2 a0_4) = true then
          some (cmpLit .leq a0_3 a0_2)
        else
          some false
      else
        some false
    else
      if (cmpLit .lss a0_2 a0_3) = true then
        some true
      else
        if (cmpLit .eql a0_2 0) = true then
          some (cmpLit .eql a0_3 0)
        else
          some false
noncomputable def w57_c : Code := (Try.f57.body).getD .skip
theorem w57_h : Try.f57.body = some w57_c := by kernel_rfl
theorem w57 (a0_0 : Int) (a0_1 : List V) (a0_2 : Int) (a0_3 : Int) (a0_4 : Int) (a0_5 : Int) (a0_6 : List V) (a0_7 : Int) (a0_8 : Bool) (r : Bool) (h : d57 a0_0 a0_1 a0_2 a0_3 a0_4 a0_5 a0_6 a0_7 a0_8 = some r) : Ab.Fn Try.prog TT 57 [.agg [.i .i64 a0_0, .sl 5 a0_1, .i .i64 a0_2, .i .i64 a0_3, .i .i64 a0_4, .i .i64 a0_5, .sl 5 a0_6, .i .i64 a0_7, .b a0_8]] (.b r) [] := by
  refine fn_pure tok W0 Try.func57 (by kernel_rfl) w57_h (by kernel_rfl) ?_
  intro ar un cv mn mx pl mi cmp nt beq an scmp cat slen sbyte ssub ofB toB len gi gb gs gl sub put app ovl rep ne0 ge0 inb bnd room sroom need br call callb loop cut nl E R K hK
  have D := E.D
  clear E
  unfold d57 at h
  cbv
  refine R.cut' (by kernel_rfl) (by kernel_rfl) ?_
  cbv
  refine R.cutB (fun p => p) (fun _ _ e => e) h [] (fun p4 => [(47, .b p4)]) (fun p4 => []) (by kernel_rfl) (by kernel_rfl) (fun y3 hy hFy3 L hLy3 => ?_) (fun p4 h2 => ?_)
  · clear h; have h := hy; clear hy; cbv
    refine R.brD h (by (first | rfl | (simp only [D.hcmp, D.hlen]; done) | (simp only [D.hcmp, D.hlen]; rfl))) ?_ ?_ <;> clear h <;> intro h <;> cbv
    · obtain ⟨s', e, hi⟩ := jn_some (fun p => p) h
      refine hLy3 s' _ _ hi ⟨rfl, ?_, ?_, rfl, rfl⟩ <;> cbv <;> (try (subst e; simp only [D.hcmp, D.hlen, and_self, and_true, true_and] <;> (repeat' apply And.intro) <;> rfl))
    · refine R.brD h (by (first | rfl | (simp only [D.hcmp, D.hlen]; done) | (simp only [D.hcmp, D.hlen]; rfl))) ?_ ?_ <;> clear h <;> intro h <;> cbv
      · obtain ⟨s', e, hi⟩ := jn_some (fun p => p) h
        refine hLy3 s' _ _ hi ⟨rfl, ?_, ?_, rfl, rfl⟩ <;> cbv <;> (try (subst e; simp only [D.hcmp, D.hlen, and_self, and_true, true_and] <;> (repeat' apply And.intro) <;> rfl))
      · refine R.brD h (by (first | rfl | (simp only [D.hcmp, D.hlen]; done) | (simp only [D.hcmp, D.hlen]; rfl))) ?_ ?_ <;> clear h <;> intro h <;> cbv
        · obtain ⟨s', e, hi⟩ := jn_some (fun p => p) h
          refine hLy3 s' _ _ hi ⟨rfl, ?_, ?_, rfl, rfl⟩ <;> cbv <;> (try (subst e; simp only [D.hcmp, D.hlen, and_self, and_true, true_and] <;> (repeat' apply And.intro) <;> rfl))
        · refine R.brD h (by (first | rfl | (simp only [D.hcmp, D.hlen]; done) | (simp only [D.hcmp, D.hlen]; rfl))) ?_ ?_ <;> clear h <;> intro h <;> cbv
          · obtain ⟨s', e, hi⟩ := jn_some (fun p => p) h
            refine hLy3 s' _ _ hi ⟨rfl, ?_, ?_, rfl, rfl⟩ <;> cbv <;> (try (subst e; simp only [D.hcmp, D.hlen, and_self, and_true, true_and] <;> (repeat' apply And.intro) <;> rfl))
          · refine R.brD h (by (first | rfl | (simp only [D.hcmp, D.hlen]; done) | (simp only [D.hcmp, D.hlen]; rfl))) ?_ ?_ <;> clear h <;> intro h <;> cbv
            · obtain ⟨s', e, hi⟩ := jn_some (fun p => p) h
              refine hLy3 s' _ _ hi ⟨rfl, ?_, ?_, rfl, rfl⟩ <;> cbv <;> (try (subst e; simp only [D.hcmp, D.hlen, and_self, and_true, true_and] <;> (repeat' apply And.intro) <;> rfl))
            · refine R.brD h (by (first | rfl | (simp only [D.hcmp, D.hlen]; done) | (simp only [D.hcmp, D.hlen]; rfl))) ?_ ?_ <;> clear h <;> intro h <;> cbv
              · obtain ⟨s', e, hi⟩ := jn_some (fun p => p) h
                refine hLy3 s' _ _ hi ⟨rfl, ?_, ?_, rfl, rfl⟩ <;> cbv <;> (try (subst e; simp only [D.hcmp, D.hlen, and_self, and_true, true_and] <;> (repeat' apply And.intro) <;> rfl))
              · refine R.brD h (by (first | rfl | (simp only [D.hcmp, D.hlen]; done) | (simp only [D.hcmp, D.hlen]; rfl))) ?_ ?_ <;> clear h <;> intro h <;> cbv
                · obtain ⟨s', e, hi⟩ := jn_some (fun p => p) h
                  refine hLy3 s' _ _ hi ⟨rfl, ?_, ?_, rfl, rfl⟩ <;> cbv <;> (try (subst e; simp only [D.hcmp, D.hlen, and_self, and_true, true_and] <;> (repeat' apply And.intro) <;> rfl))
                · obtain ⟨s', e, hi⟩ := jn_some (fun p => p) h
                  refine hLy3 s' _ _ hi ⟨rfl, ?_, ?_, rfl, rfl⟩ <;> cbv <;> (try (subst e; simp only [D.hcmp, D.hlen, and_self, and_true, true_and] <;> (repeat' apply And.intro) <;> rfl))
  · clear h; have h := h2; clear h2; try dsimp only at h
    cbv
    refine R.brD h (by (first | rfl | (simp only [D.hcmp, D.hlen]; done) | (simp only [D.hcmp, D.hlen]; rfl))) ?_ ?_ <;> clear h <;> intro h <;> cbv
    · have e := ret_some h; clear h
      refine hK _ _ ?_
      cbv
      try (subst e; simp only [D.hcmp, D.hlen, and_self, and_true, true_and] <;> (repeat' apply And.intro) <;> rfl)
    · refine R.cut' (by kernel_rfl) (by kernel_rfl) ?_
      cbv
      refine R.brD h (by (first | rfl | (simp only [D.hcmp, D.hlen]; done) | (simp only [D.hcmp, D.hlen]; rfl))) ?_ ?_ <;> clear h <;> intro h <;> cbv
      · refine R.cut' (by kernel_rfl) (by kernel_rfl) ?_
        cbv
        refine R.brD h (by (first | rfl | (simp only [D.hcmp, D.hlen]; done) | (simp only [D.hcmp, D.hlen]; rfl))) ?_ ?_ <;> clear h <;> intro h <;> cbv
        · refine R.brD h (by (first | rfl | (simp only [D.hcmp, D.hlen]; done) | (simp only [D.hcmp, D.hlen]; rfl))) ?_ ?_ <;> clear h <;> intro h <;> cbv
          · have e := ret_some h; clear h
            refine hK _ _ ?_
            cbv
            try (subst e; simp only [D.hcmp, D.hlen, and_self, and_true, true_and] <;> (repeat' apply And.intro) <;> rfl)
          · have e := ret_some h; clear h
            refine hK _ _ ?_
            cbv
            try (subst e; simp only [D.hcmp, D.hlen, and_self, and_true, true_and] <;> (repeat' apply And.intro) <;> rfl)
        · have e := ret_some h; clear h
          refine hK _ _ ?_
          cbv
          try (subst e; simp only [D.hcmp, D.hlen, and_self, and_true, true_and] <;> (repeat' apply And.intro) <;> rfl)
      · refine R.cut' (by kernel_rfl) (by kernel_rfl) ?_
        cbv
        refine R.brD h (by (first | rfl | (simp only [D.hcmp, D.hlen]; done) | (simp only [D.hcmp, D.hlen]; rfl))) ?_ ?_ <;> clear h <;> intro h <;> cbv
        · have e := ret_some h; clear h
          refine hK _ _ ?_
          cbv
          try (subst e; simp only [D.hcmp, D.hlen, and_self, and_true, true_and] <;> (repeat' apply And.intro) <;> rfl)
        · refine R.brD h (by (first | rfl | (simp only [D.hcmp, D.hlen]; done) | (simp only [D.hcmp, D.hlen]; rfl))) ?_ ?_ <;> clear h <;> intro h <;> cbv
          · have e := ret_some h; clear h
            refine hK _ _ ?_
            cbv
            try (subst e; simp only [D.hcmp, D.hlen, and_self, and_true, true_and] <;> (repeat' apply And.intro) <;> rfl)
          · have e := ret_some h; clear h
            refine hK _ _ ?_
            cbv
            try (subst e; simp only [D.hcmp, D.hlen, and_self, and_true, true_and] <;> (repeat' apply And.intro) <;> rfl)

end Go.Proofs.Ytdejapkfijdadaa
end
section
namespace Go.Proofs.Ytdejapkfijdadaa
open Go.Ab Go.RowKit 
set_option maxRecDepth 100000
set_option maxHeartbeats 40000000
noncomputable def d74 (a0 : Int) : Option (Bool) :=
  some (cmpLit .neq a0 0)
noncomputable def w74_c : Code := (Try.f74.body).getD .skip
theorem w74_h : Try.f74.body = some w74_c := by kernel_rfl
theorem w74 (a0 : Int) (r : Bool) (h : d74 a0 = some r) : Ab.Fn Try.prog TT 74 [.i .u8 a0] (.b r) [] := by
  refine fn_pure tok W0 Try.func74 (by kernel_rfl) w74_h (by kernel_rfl) ?_
  intro ar un cv mn mx pl mi cmp nt beq an scmp cat slen sbyte ssub ofB toB len gi gb gs gl sub put app ovl rep ne0 ge0 inb bnd room sroom need br call callb loop cut nl E R K hK
  have D := E.D
  clear E
  unfold d74 at h
  cbv
  have e := ret_some h; clear h
  refine hK _ _ ?_
  cbv
  try (subst e; simp only [D.hcmp, and_self, and_true, true_and] <;> (repeat' apply And.intro) <;> rfl)

noncomputable def d80f74_b1 (a0 : List V) (s10 : Int) : Option ((Int) ⊕ ((Int) ⊕ (Unit))) :=
  if (cmpLit .lss s10 (lenI a0)) = true then
    if (Inb s10 (lenI a0)) then
      (d74 (gI a0 s10 0)).bind fun x15 =>
      if x15 = true then
        some (.inr (.inl s10))
      else
        some (.inl (arReal .add .i64 s10 1))
    else none
  else
    some (.inr (.inr ()))
noncomputable def d80f74 (a0 : List V) : Option (Int) :=
  Option.bind (α := (Unit) ⊕ (Int)) (
    (iter (d80f74_b1 a0) 0).bind fun y13 =>
    match y13 with
    | .inl p16 =>
      some (.inr p16)
    | .inr y13r0 =>
      some (.inl ())) fun y7 =>
  match y7 with
  | .inl p18 =>
    some (-1)
  | .inr y7r0 =>
    some y7r0
noncomputable def w80f74_c : Code := (Try.f80.body).getD .skip
theorem w80f74_h : Try.f80.body = some w80f74_c := by kernel_rfl
theorem w80f74 (a0 : List V) (r : Int) (h : d80f74 a0 = some r) : Ab.Fn Try.prog TT 80 [.sl 5 a0, .fn (.func 74) [] []] (.i .i64 r) [] := by
  refine fn_pure tok W0 Try.func80 (by kernel_rfl) w80f74_h (by kernel_rfl) ?_
  intro ar un cv mn mx pl mi cmp nt beq an scmp cat slen sbyte ssub ofB toB len gi gb gs gl sub put app ovl rep ne0 ge0 inb bnd room sroom need br call callb loop cut nl E R K hK
  have D := E.D
  clear E
  unfold d80f74 at h
  cbv
  refine R.cutB Sum.inl (fun _ _ e => Sum.inl.inj e) h [] (fun p18 => []) (fun p18 => []) (by kernel_rfl) (by kernel_rfl) (fun y7 hy hFy7 L hLy7 => ?_) (fun p18 h2 => ?_)
  · clear h; have h := hy; clear hy; cbv
    refine R.loopD h (fun s0 y13 e0 hi hFs10 => ?_)
    clear h
    refine R.loopI hi [] (fun s10 => [(8, .i .i64 s10)]) (fun s10 => []) ⟨rfl, ?_, ?_, rfl, rfl⟩ (by kernel_rfl) ?_
    · cbv; try (subst e0; simp only [D.har, D.hcmp, D.hgi, D.hinb, D.hlen, and_self, and_true, true_and] <;> (repeat' apply And.intro) <;> rfl)
    · cbv; try (subst e0; simp only [D.har, D.hcmp, D.hgi, D.hinb, D.hlen, and_self, and_true, true_and] <;> (repeat' apply And.intro) <;> rfl)
    clear hi e0
    intro s10 m y' hy hins10 houts10 L hLs10
    have h := hy; clear hy; unfold d80f74_b1 at h
    cbv
    refine R.cut' (by kernel_rfl) (by kernel_rfl) ?_
    cbv
    refine R.brD h (by (first | rfl | (simp only [D.har, D.hcmp, D.hgi, D.hinb, D.hlen]; done) | (simp only [D.har, D.hcmp, D.hgi, D.hinb, D.hlen]; rfl))) ?_ ?_ <;> clear h <;> intro h <;> cbv
    · refine R.cut' (by kernel_rfl) (by kernel_rfl) ?_
      cbv
      refine R.needD h (by (first | rfl | (simp only [D.har, D.hcmp, D.hgi, D.hinb, D.hlen]; done) | (simp only [D.har, D.hcmp, D.hgi, D.hinb, D.hlen]; rfl))) ?_
      clear h; intro h; cbv
      refine R.callD h (fun x15 hx15 h2 => ?_)
      clear h; have h := h2; clear h2
      refine R.call' (w74 _ _ hx15) (by (first | rfl | (simp only [D.har, D.hcmp, D.hgi, D.hinb, D.hlen]; done) | (simp only [D.har, D.hcmp, D.hgi, D.hinb, D.hlen]; rfl))) ?_
      clear hx15; cbv
      refine R.brD h (by (first | rfl | (simp only [D.har, D.hcmp, D.hgi, D.hinb, D.hlen]; done) | (simp only [D.har, D.hcmp, D.hgi, D.hinb, D.hlen]; rfl))) ?_ ?_ <;> clear h <;> intro h <;> cbv
      · have e := inr_some h houts10; clear h
        have h := hFs10; rw [e] at h; clear e; try dsimp only at h
        cbv
        have e := ret_some h; clear h
        have h := hFy7; rw [e] at h; clear e; try dsimp only at h
        cbv
        have e := ret_some h; clear h
        refine hK _ _ ?_
        cbv
        try (subst e; simp only [D.har, D.hcmp, D.hgi, D.hinb, D.hlen, and_self, and_true, true_and] <;> (repeat' apply And.intro) <;> rfl)
      · obtain ⟨s', e, hi⟩ := inl_some h hins10
        refine hLs10 s' _ _ hi ⟨rfl, ?_, ?_, rfl, rfl⟩ <;> cbv <;> (try (subst e; simp only [D.har, D.hcmp, D.hgi, D.hinb, D.hlen, and_self, and_true, true_and] <;> (repeat' apply And.intro) <;> rfl))
    · have e := inr_some h houts10; clear h
      have h := hFs10; rw [e] at h; clear e; try dsimp only at h
      cbv
      obtain ⟨s', e, hi⟩ := jn_some Sum.inl h
      refine hLy7 s' _ _ hi ⟨rfl, ?_, ?_, rfl, rfl⟩ <;> cbv <;> (try (subst e; simp only [D.har, D.hcmp, D.hgi, D.hinb, D.hlen, and_self, and_true, true_and] <;> (repeat' apply And.intro) <;> rfl))
  · clear h; have h := h2; clear h2; try dsimp only at h
    cbv
    have e := ret_some h; clear h
    refine hK _ _ ?_
    cbv
    try (subst e; simp only [D.har, D.hcmp, D.hgi, D.hinb, D.hlen, and_self, and_true, true_and] <;> (repeat' apply And.intro) <;> rfl)

noncomputable def d73f74 (a0 : List V) : Option (Bool) :=
  (d80f74 a0).bind fun x1 =>
  some (cmpLit .geq x1 0)
noncomputable def w73f74_c : Code := (Try.f73.body).getD .skip
theorem w73f74_h : Try.f73.body = some w73f74_c := by kernel_rfl
theorem w73f74 (a0 : List V) (r : Bool) (h : d73f74 a0 = some r) : Ab.Fn Try.prog TT 73 [.sl 5 a0, .fn (.func 74) [] []] (.b r) [] := by
  refine fn_pure tok W0 Try.func73 (by kernel_rfl) w73f74_h (by kernel_rfl) ?_
  intro ar un cv mn mx pl mi cmp nt beq an scmp cat slen sbyte ssub ofB toB len gi gb gs gl sub put app ovl rep ne0 ge0 inb bnd room sroom need br call callb loop cut nl E R K hK
  have D := E.D
  clear E
  unfold d73f74 at h
  cbv
  refine R.callD h (fun x1 hx1 h2 => ?_)
  clear h; have h := h2; clear h2
  refine R.call' (w80f74 _ _ hx1) (by (first | rfl | (simp only [D.hcmp]; done) | (simp only [D.hcmp]; rfl))) ?_
  clear hx1; cbv
  have e := ret_some h; clear h
  refine hK _ _ ?_
  cbv
  try (subst e; simp only [D.hcmp, and_self, and_true, true_and] <;> (repeat' apply And.intro) <;> rfl)

noncomputable def d58 (a0 : List V) : Option (Bool) :=
  (d73f74 a0).bind fun x1 =>
  some (notB' x1)
noncomputable def w58_c : Code := (Try.f58.body).getD .skip
theorem w58_h : Try.f58.body = some w58_c := by kernel_rfl
theorem w58 (a0 : List V) (r : Bool) (h : d58 a0 = some r) : Ab.Fn Try.prog TT 58 [.sl 5 a0] (.b r) [] := by
  refine fn_pure tok W0 Try.func58 (by kernel_rfl) w58_h (by kernel_rfl) ?_
  intro ar un cv mn mx pl mi cmp nt beq an scmp cat slen sbyte ssub ofB toB len gi gb gs gl sub put app ovl rep ne0 ge0 inb bnd room sroom need br call callb loop cut nl E R K hK
  have D := E.D
  clear E
  unfold d58 at h
  cbv
  refine R.callD h (fun x1 hx1 h2 => ?_)
  clear h; have h := h2; clear h2
  refine R.call' (w73f74 _ _ hx1) (by (first | rfl | (simp only [D.hnt]; done) | (simp only [D.hnt]; rfl))) ?_
  clear hx1; cbv
  have e := ret_some h; clear h
  refine hK _ _ ?_
  cbv
  try (subst e; simp only [D.hnt, and_self, and_true, true_and] <;> (repeat' apply And.intro) <;> rfl)

noncomputable def d55v1 (a0 : Int) (a1 : List V) (a2 : Int) (a3 : Int) (a4 : Int) (a5 : Int) (a6 : List V) (a7 : Int) (a8 : Bool) : Option (List V × List V) :=
  if (cmpLit .eql a4 0) = true then
    if (Bnd a2 a3 a3) then
      if (Bnd 0 a3 (lenI a1)) then
        some ((subL a1 a2 a3), [])
      else none
    else none
  else
    if (Bnd a2 a4 a4) then
      if (Bnd 0 a4 (lenI a1)) then
        if (Bnd 0 a3 a3) then
          if (Bnd 0 a3 (lenI a1)) then
            some ((subL a1 a2 a4), (subL a1 0 a3))
          else none
        else none
      else none
    else none
noncomputable def w55v1_c : Code := (Try.f55.body).getD .skip
theorem w55v1_h : Try.f55.body = some w55v1_c := by kernel_rfl
theorem w55v1 (a0 : Int) (a1 : List V) (a2 : Int) (a3 : Int) (a4 : Int) (a5 : Int) (a6 : List V) (a7 : Int) (a8 : Bool) (r : List V × List V) (h : d55v1 a0 a1 a2 a3 a4 a5 a6 a7 a8 = some r) : Ab.FnB Try.prog TT 55 [.agg [.i .i64 a0, .sl 5 a1, .i .i64 a2, .i .i64 a3, .i .i64 a4, .i .i64 a5, .sl 5 a6, .i .i64 a7, .b a8]] [] [] (.agg [.sl 5 r.1, .sl 5 r.2]) [] := by
  refine fnb_rules tok (fun r => match r with | 3 => [[],[0],[],[2],[],[4],[],[6],[0,1,2,3,4,5,6,7],[],[9],[],[11],[],[13],[9,10,11,12,13,14],[0,1,2,3,4,5,6,7,8,9,10,11,12,13,14,15],[0,1,2,3,4,5,6,7,8,9,10,11,12,13,14,15,16]] | _ => []) [] [.agg [.sl 5 r.1, .sl 5 r.2]] [] [] Try.func55 (by kernel_rfl) w55v1_h (by kernel_rfl) (by rfl) ?_
  intro ar un cv mn mx pl mi cmp nt beq an scmp cat slen sbyte ssub ofB toB len gi gb gs gl sub put app ovl rep ne0 ge0 inb bnd room sroom need br call callb loop cut nl E R K hK
  have D := E.D
  clear E
  unfold d55v1 at h
  cbv
  refine R.cut' (by kernel_rfl) (by kernel_rfl) ?_
  cbv
  refine R.brD h (by (first | rfl | (simp only [D.hbnd, D.hcmp, D.hlen, D.hsub]; done) | (simp only [D.hbnd, D.hcmp, D.hlen, D.hsub]; rfl))) ?_ ?_ <;> clear h <;> intro h <;> cbv
  · refine R.needD h (by (first | rfl | (simp only [D.hbnd, D.hcmp, D.hlen, D.hsub]; done) | (simp only [D.hbnd, D.hcmp, D.hlen, D.hsub]; rfl))) ?_
    clear h; intro h; cbv
    refine R.needD h (by (first | rfl | (simp only [D.hbnd, D.hcmp, D.hlen, D.hsub]; done) | (simp only [D.hbnd, D.hcmp, D.hlen, D.hsub]; rfl))) ?_
    clear h; intro h; cbv
    have e := ret_some h; clear h
    refine hK _ _ ⟨rfl, ?_, ?_, rfl, rfl⟩ <;> cbv <;> (try (subst e; simp only [D.hbnd, D.hcmp, D.hlen, D.hsub, and_self, and_true, true_and] <;> (repeat' apply And.intro) <;> rfl))
  · refine R.needD h (by (first | rfl | (simp only [D.hbnd, D.hcmp, D.hlen, D.hsub]; done) | (simp only [D.hbnd, D.hcmp, D.hlen, D.hsub]; rfl))) ?_
    clear h; intro h; cbv
    refine R.needD h (by (first | rfl | (simp only [D.hbnd, D.hcmp, D.hlen, D.hsub]; done) | (simp only [D.hbnd, D.hcmp, D.hlen, D.hsub]; rfl))) ?_
    clear h; intro h; cbv
    refine R.needD h (by (first | rfl | (simp only [D.hbnd, D.hcmp, D.hlen, D.hsub]; done) | (simp only [D.hbnd, D.hcmp, D.hlen, D.hsub]; rfl))) ?_
    clear h; intro h; cbv
    refine R.needD h (by (first | rfl | (simp only [D.hbnd, D.hcmp, D.hlen, D.hsub]; done) | (simp only [D.hbnd, D.hcmp, D.hlen, D.hsub]; rfl))) ?_
    clear h; intro h; cbv
    have e := ret_some h; clear h
    refine hK _ _ ⟨rfl, ?_, ?_, rfl, rfl⟩ <;> cbv <;> (try (subst e; simp only [D.hbnd, D.hcmp, D.hlen, D.hsub, and_self, and_true, true_and] <;> (repeat' apply And.intro) <;> rfl))
end Go.Proofs.Ytdejapkfijdadaa
end
section
namespace Go.Proofs.Ytdejapkfijdadaa
open Go.Ab Go.RowKit 
set_option maxRecDepth 100000
set_option maxHeartbeats 40000000
noncomputable def d29_b1 (a0_6 : List V) (x19 : List V × List V) (s29 : Int) : Option ((Int) ⊕ ((Int) ⊕ (Unit))) :=
  if (cmpLit .lss s29 (lenI [.sl 5 x19.1, .sl 5 x19.2, .sl 5 a0_6])) = true then
    if (Inb s29 (lenI [.sl 5 x19.1, .sl 5 x19.2, .sl 5 a0_6])) then
      (d51 (gL [.sl 5 x19.1, .sl 5 x19.2, .sl 5 a0_6] s29 0)).bind fun x34 =>
      if (notB' x34.2) = true then
        some (.inr (.inl 220))
      else
        some (.inl (arReal .add .i64 s29 1))
    else none
  else
    some (.inr (.inr ()))
noncomputable def d29 (a0_0 : Int) (a0_1 : List V) (a0_2 : Int) (a0_3 : Int) (a0_4 : Int) (a0_5 : Int) (a0_6 : List V) (a0_7 : Int) (a0_8 : Bool) : Option (Int) :=
  Option.bind (α := Bool) (
    if (cmpLit .lss a0_0 1) = true then
      some true
    else
      if (cmpLit .gtr a0_0 3) = true then
        some true
      else
        if (cmpLit .lss (lenI a0_1) 64) = true then
          some true
        else
          if (cmpLit .gtr (lenI a0_1) 4096) = true then
            some true
          else
            (d57 a0_0 a0_1 a0_2 a0_3 a0_4 a0_5 a0_6 a0_7 a0_8).bind fun x6 =>
            some (notB' x6)) fun y5 =>
  if y5 = true then
    some 220
  else
    Option.bind (α := Bool) (
      if (cmpLit .lss a0_5 0) = true then
        some true
      else
        if (cmpLit .gtr a0_5 1099511627776) = true then
          some true
        else
          if (cmpLit .lss a0_7 0) = true then
            some true
          else
            if (cmpLit .gtr a0_7 1099511627776) = true then
              some true
            else
              some (cmpLit .gtr (lenI a0_6) (lenI a0_1))) fun y10 =>
    if y10 = true then
      some 220
    else
      Option.bind (α := Bool) (
        if a0_8 = true then
          if (cmpLit .neq a0_0 2) = true then
            some true
          else
            if (notB' a0_8) = true then
              if (cmpLit .gtr (lenI a0_6) 0) = true then
                some true
              else
                some (cmpLit .neq a0_7 0)
            else
              some false
        else
          if (notB' a0_8) = true then
            if (cmpLit .gtr (lenI a0_6) 0) = true then
              some true
            else
              some (cmpLit .neq a0_7 0)
          else
            some false) fun y14 =>
      if y14 = true then
        some 220
      else
        (d54 a0_1).bind fun x16 =>
        Option.bind (α := List V) (
          if (cmpLit .eql a0_4 0) = true then
            if (Bnd a0_2 a0_3 (lenI x16)) then
              some (ovlReal x16 a0_2 (repL (miI a0_3 a0_2) (.i .u8 0)))
            else none
          else
            if (Bnd a0_2 a0_4 (lenI x16)) then
              if (Bnd 0 a0_3 (lenI (ovlReal x16 a0_2 (repL (miI a0_4 a0_2) (.i .u8 0))))) then
                some (ovlReal (ovlReal x16 a0_2 (repL (miI a0_4 a0_2) (.i .u8 0))) 0 (repL (miI a0_3 0) (.i .u8 0)))
              else none
            else none) fun y17 =>
        (d55v1 a0_0 a0_1 a0_2 a0_3 a0_4 a0_5 a0_6 a0_7 a0_8).bind fun x19 =>
        Option.bind (α := (Unit) ⊕ (Int)) (
          (iter (d29_b1 a0_6 x19) 0).bind fun y32 =>
          match y32 with
          | .inl p35 =>
            some (.inr p35)
          | .inr y32r0 =>
            some (.inl ())) fun y26 =>
        match y26 with
        | .inl p37 =>
          (d58 y17).bind fun x39 =>
          if (notB' x39) = true then
            some 220
          else
            some 0
        | .inr y26r0 =>
          some y26r0
noncomputable def w29_c : Code := (Try.f29.body).getD .skip
theorem w29_h : Try.f29.body = some w29_c := by kernel_rfl
theorem w29 (a0_0 : Int) (a0_1 : List V) (a0_2 : Int) (a0_3 : Int) (a0_4 : Int) (a0_5 : Int) (a0_6 : List V) (a0_7 : Int) (a0_8 : Bool) (r : Int) (h : d29 a0_0 a0_1 a0_2 a0_3 a0_4 a0_5 a0_6 a0_7 a0_8 = some r) : Ab.Fn Try.prog TT 29 [.agg [.i .i64 a0_0, .sl 5 a0_1, .i .i64 a0_2, .i .i64 a0_3, .i .i64 a0_4, .i .i64 a0_5, .sl 5 a0_6, .i .i64 a0_7, .b a0_8]] (.i .i64 r) [] := by
  refine fn_pure tok W0 Try.func29 (by kernel_rfl) w29_h (by kernel_rfl) ?_
  intro ar un cv mn mx pl mi cmp nt beq an scmp cat slen sbyte ssub ofB toB len gi gb gs gl sub put app ovl rep ne0 ge0 inb bnd room sroom need br call callb loop cut nl E R K hK
  have D := E.D
  clear E
  unfold d29 at h
  cbv
  refine R.cut' (by kernel_rfl) (by kernel_rfl) ?_
  cbv
  refine R.cutB (fun p => p) (fun _ _ e => e) h [] (fun p7 => [(33, .b p7)]) (fun p7 => []) (by kernel_rfl) (by kernel_rfl) (fun y5 hy hFy5 L hLy5 => ?_) (fun p7 h2 => ?_)
  · clear h; have h := hy; clear hy; cbv
    refine R.brD h (by (first | rfl | (simp only [D.har, D.hbnd, D.hcmp, D.hgl, D.hinb, D.hlen, D.hmi, D.hnt, D.hovl, D.hrep]; done) | (simp only [D.har, D.hbnd, D.hcmp, D.hgl, D.hinb, D.hlen, D.hmi, D.hnt, D.hovl, D.hrep]; rfl))) ?_ ?_ <;> clear h <;> intro h <;> cbv
    · obtain ⟨s', e, hi⟩ := jn_some (fun p => p) h
      refine hLy5 s' _ _ hi ⟨rfl, ?_, ?_, rfl, rfl⟩ <;> cbv <;> (try (subst e; simp only [D.har, D.hbnd, D.hcmp, D.hgl, D.hinb, D.hlen, D.hmi, D.hnt, D.hovl, D.hrep, and_self, and_true, true_and] <;> (repeat' apply And.intro) <;> rfl))
    · refine R.brD h (by (first | rfl | (simp only [D.har, D.hbnd, D.hcmp, D.hgl, D.hinb, D.hlen, D.hmi, D.hnt, D.hovl, D.hrep]; done) | (simp only [D.har, D.hbnd, D.hcmp, D.hgl, D.hinb, D.hlen, D.hmi, D.hnt, D.hovl, D.hrep]; rfl))) ?_ ?_ <;> clear h <;> intro h <;> cbv
      · obtain ⟨s', e, hi⟩ := jn_some (fun p => p) h
        refine hLy5 s' _ _ hi ⟨rfl, ?_, ?_, rfl, rfl⟩ <;> cbv <;> (try (subst e; simp only [D.har, D.hbnd, D.hcmp, D.hgl, D.hinb, D.hlen, D.hmi, D.hnt, D.hovl, D.hrep, and_self, and_true, true_and] <;> (repeat' apply And.intro) <;> rfl))
      · refine R.brD h (by (first | rfl | (simp only [D.har, D.hbnd, D.hcmp, D.hgl, D.hinb, D.hlen, D.hmi, D.hnt, D.hovl, D.hrep]; done) | (simp only [D.har, D.hbnd, D.hcmp, D.hgl, D.hinb, D.hlen, D.hmi, D.hnt, D.hovl, D.hrep]; rfl))) ?_ ?_ <;> clear h <;> intro h <;> cbv
        · obtain ⟨s', e, hi⟩ := jn_some (fun p => p) h
          refine hLy5 s' _ _ hi ⟨rfl, ?_, ?_, rfl, rfl⟩ <;> cbv <;> (try (subst e; simp only [D.har, D.hbnd, D.hcmp, D.hgl, D.hinb, D.hlen, D.hmi, D.hnt, D.hovl, D.hrep, and_self, and_true, true_and] <;> (repeat' apply And.intro) <;> rfl))
        · refine R.brD h (by (first | rfl | (simp only [D.har, D.hbnd, D.hcmp, D.hgl, D.hinb, D.hlen, D.hmi, D.hnt, D.hovl, D.hrep]; done) | (simp only [D.har, D.hbnd, D.hcmp, D.hgl, D.hinb, D.hlen, D.hmi, D.hnt, D.hovl, D.hrep]; rfl))) ?_ ?_ <;> clear h <;> intro h <;> cbv
          · obtain ⟨s', e, hi⟩ := jn_some (fun p => p) h
            refine hLy5 s' _ _ hi ⟨rfl, ?_, ?_, rfl, rfl⟩ <;> cbv <;> (try (subst e; simp only [D.har, D.hbnd, D.hcmp, D.hgl, D.hinb, D.hlen, D.hmi, D.hnt, D.hovl, D.hrep, and_self, and_true, true_and] <;> (repeat' apply And.intro) <;> rfl))
          · refine R.callD h (fun x6 hx6 h2 => ?_)
            clear h; have h := h2; clear h2
            refine R.call' (w57 _ _ _ _ _ _ _ _ _ _ hx6) (by (first | rfl | (simp only [D.har, D.hbnd, D.hcmp, D.hgl, D.hinb, D.hlen, D.hmi, D.hnt, D.hovl, D.hrep]; done) | (simp only [D.har, D.hbnd, D.hcmp, D.hgl, D.hinb, D.hlen, D.hmi, D.hnt, D.hovl, D.hrep]; rfl))) ?_
            clear hx6; cbv
            obtain ⟨s', e, hi⟩ := jn_some (fun p => p) h
            refine hLy5 s' _ _ hi ⟨rfl, ?_, ?_, rfl, rfl⟩ <;> cbv <;> (try (subst e; simp only [D.har, D.hbnd, D.hcmp, D.hgl, D.hinb, D.hlen, D.hmi, D.hnt, D.hovl, D.hrep, and_self, and_true, true_and] <;> (repeat' apply And.intro) <;> rfl))
  · as_aux_lemma =>
    clear h; have h := h2; clear h2; try dsimp only at h
    cbv
    refine R.brD h (by (first | rfl | (simp only [D.har, D.hbnd, D.hcmp, D.hgl, D.hinb, D.hlen, D.hmi, D.hnt, D.hovl, D.hrep]; done) | (simp only [D.har, D.hbnd, D.hcmp, D.hgl, D.hinb, D.hlen, D.hmi, D.hnt, D.hovl, D.hrep]; rfl))) ?_ ?_ <;> clear h <;> intro h <;> cbv
    · have e := ret_some h; clear h
      refine hK _ _ ?_
      cbv
      try (subst e; simp only [D.har, D.hbnd, D.hcmp, D.hgl, D.hinb, D.hlen, D.hmi, D.hnt, D.hovl, D.hrep, and_self, and_true, true_and] <;> (repeat' apply And.intro) <;> rfl)
    · as_aux_lemma =>
      refine R.cut' (by kernel_rfl) (by kernel_rfl) ?_
      cbv
      refine R.cutB (fun p => p) (fun _ _ e => e) h [] (fun p11 => [(58, .b p11)]) (fun p11 => []) (by kernel_rfl) (by kernel_rfl) (fun y10 hy hFy10 L hLy10 => ?_) (fun p11 h2 => ?_)
      · clear h; have h := hy; clear hy; cbv
        refine R.brD h (by (first | rfl | (simp only [D.har, D.hbnd, D.hcmp, D.hgl, D.hinb, D.hlen, D.hmi, D.hnt, D.hovl, D.hrep]; done) | (simp only [D.har, D.hbnd, D.hcmp, D.hgl, D.hinb, D.hlen, D.hmi, D.hnt, D.hovl, D.hrep]; rfl))) ?_ ?_ <;> clear h <;> intro h <;> cbv
        · obtain ⟨s', e, hi⟩ := jn_some (fun p => p) h
          refine hLy10 s' _ _ hi ⟨rfl, ?_, ?_, rfl, rfl⟩ <;> cbv <;> (try (subst e; simp only [D.har, D.hbnd, D.hcmp, D.hgl, D.hinb, D.hlen, D.hmi, D.hnt, D.hovl, D.hrep, and_self, and_true, true_and] <;> (repeat' apply And.intro) <;> rfl))
        · refine R.brD h (by (first | rfl | (simp only [D.har, D.hbnd, D.hcmp, D.hgl, D.hinb, D.hlen, D.hmi, D.hnt, D.hovl, D.hrep]; done) | (simp only [D.har, D.hbnd, D.hcmp, D.hgl, D.hinb, D.hlen, D.hmi, D.hnt, D.hovl, D.hrep]; rfl))) ?_ ?_ <;> clear h <;> intro h <;> cbv
          · obtain ⟨s', e, hi⟩ := jn_some (fun p => p) h
            refine hLy10 s' _ _ hi ⟨rfl, ?_, ?_, rfl, rfl⟩ <;> cbv <;> (try (subst e; simp only [D.har, D.hbnd, D.hcmp, D.hgl, D.hinb, D.hlen, D.hmi, D.hnt, D.hovl, D.hrep, and_self, and_true, true_and] <;> (repeat' apply And.intro) <;> rfl))
          · refine R.brD h (by (first | rfl | (simp only [D.har, D.hbnd, D.hcmp, D.hgl, D.hinb, D.hlen, D.hmi, D.hnt, D.hovl, D.hrep]; done) | (simp only [D.har, D.hbnd, D.hcmp, D.hgl, D.hinb, D.hlen, D.hmi, D.hnt, D.hovl, D.hrep]; rfl))) ?_ ?_ <;> clear h <;> intro h <;> cbv
            · obtain ⟨s', e, hi⟩ := jn_some (fun p => p) h
              refine hLy10 s' _ _ hi ⟨rfl, ?_, ?_, rfl, rfl⟩ <;> cbv <;> (try (subst e; simp only [D.har, D.hbnd, D.hcmp, D.hgl, D.hinb, D.hlen, D.hmi, D.hnt, D.hovl, D.hrep, and_self, and_true, true_and] <;> (repeat' apply And.intro) <;> rfl))
            · refine R.brD h (by (first | rfl | (simp only [D.har, D.hbnd, D.hcmp, D.hgl, D.hinb, D.hlen, D.hmi, D.hnt, D.hovl, D.hrep]; done) | (simp only [D.har, D.hbnd, D.hcmp, D.hgl, D.hinb, D.hlen, D.hmi, D.hnt, D.hovl, D.hrep]; rfl))) ?_ ?_ <;> clear h <;> intro h <;> cbv
              · obtain ⟨s', e, hi⟩ := jn_some (fun p => p) h
                refine hLy10 s' _ _ hi ⟨rfl, ?_, ?_, rfl, rfl⟩ <;> cbv <;> (try (subst e; simp only [D.har, D.hbnd, D.hcmp, D.hgl, D.hinb, D.hlen, D.hmi, D.hnt, D.hovl, D.hrep, and_self, and_true, true_and] <;> (repeat' apply And.intro) <;> rfl))
              · obtain ⟨s', e, hi⟩ := jn_some (fun p => p) h
                refine hLy10 s' _ _ hi ⟨rfl, ?_, ?_, rfl, rfl⟩ <;> cbv <;> (try (subst e; simp only [D.har, D.hbnd, D.hcmp, D.hgl, D.hinb, D.hlen, D.hmi, D.hnt, D.hovl, D.hrep, and_self, and_true, true_and] <;> (repeat' apply And.intro) <;> rfl))
      · as_aux_lemma =>
        clear h; have h := h2; clear h2; try dsimp only at h
        cbv
        refine R.brD h (by (first | rfl | (simp only [D.har, D.hbnd, D.hcmp, D.hgl, D.hinb, D.hlen, D.hmi, D.hnt, D.hovl, D.hrep]; done) | (simp only [D.har, D.hbnd, D.hcmp, D.hgl, D.hinb, D.hlen, D.hmi, D.hnt, D.hovl, D.hrep]; rfl))) ?_ ?_ <;> clear h <;> intro h <;> cbv
        · have e := ret_some h; clear h
          refine hK _ _ ?_
          cbv
          try (subst e; simp only [D.har, D.hbnd, D.hcmp, D.hgl, D.hinb, D.hlen, D.hmi, D.hnt, D.hovl, D.hrep, and_self, and_true, true_and] <;> (repeat' apply And.intro) <;> rfl)
        · as_aux_lemma =>
          refine R.cut' (by kernel_rfl) (by kernel_rfl) ?_
          cbv
          refine R.cutB (fun p => p) (fun _ _ e => e) h [] (fun p15 => [(81, .b p15)]) (fun p15 => []) (by kernel_rfl) (by kernel_rfl) (fun y14 hy hFy14 L hLy14 => ?_) (fun p15 h2 => ?_)
          · clear h; have h := hy; clear hy; cbv
            refine R.brD h (by (first | rfl | (simp only [D.har, D.hbnd, D.hcmp, D.hgl, D.hinb, D.hlen, D.hmi, D.hnt, D.hovl, D.hrep]; done) | (simp only [D.har, D.hbnd, D.hcmp, D.hgl, D.hinb, D.hlen, D.hmi, D.hnt, D.hovl, D.hrep]; rfl))) ?_ ?_ <;> clear h <;> intro h <;> cbv
            · refine R.brD h (by (first | rfl | (simp only [D.har, D.hbnd, D.hcmp, D.hgl, D.hinb, D.hlen, D.hmi, D.hnt, D.hovl, D.hrep]; done) | (simp only [D.har, D.hbnd, D.hcmp, D.hgl, D.hinb, D.hlen, D.hmi, D.hnt, D.hovl, D.hrep]; rfl))) ?_ ?_ <;> clear h <;> intro h <;> cbv
              · obtain ⟨s', e, hi⟩ := jn_some (fun p => p) h
                refine hLy14 s' _ _ hi ⟨rfl, ?_, ?_, rfl, rfl⟩ <;> cbv <;> (try (subst e; simp only [D.har, D.hbnd, D.hcmp, D.hgl, D.hinb, D.hlen, D.hmi, D.hnt, D.hovl, D.hrep, and_self, and_true, true_and] <;> (repeat' apply And.intro) <;> rfl))
              · refine R.brD h (by (first | rfl | (simp only [D.har, D.hbnd, D.hcmp, D.hgl, D.hinb, D.hlen, D.hmi, D.hnt, D.hovl, D.hrep]; done) | (simp only [D.har, D.hbnd, D.hcmp, D.hgl, D.hinb, D.hlen, D.hmi, D.hnt, D.hovl, D.hrep]; rfl))) ?_ ?_ <;> clear h <;> intro h <;> cbv
                · refine R.brD h (by (first | rfl | (simp only [D.har, D.hbnd, D.hcmp, D.hgl, D.hinb, D.hlen, D.hmi, D.hnt, D.hovl, D.hrep]; done) | (simp only [D.har, D.hbnd, D.hcmp, D.hgl, D.hinb, D.hlen, D.hmi, D.hnt, D.hovl, D.hrep]; rfl))) ?_ ?_ <;> clear h <;> intro h <;> cbv
                  · obtain ⟨s', e, hi⟩ := jn_some (fun p => p) h
                    refine hLy14 s' _ _ hi ⟨rfl, ?_, ?_, rfl, rfl⟩ <;> cbv <;> (try (subst e; simp only [D.har, D.hbnd, D.hcmp, D.hgl, D.hinb, D.hlen, D.hmi, D.hnt, D.hovl, D.hrep, and_self, and_true, true_and] <;> (repeat' apply And.intro) <;> rfl))
                  · obtain ⟨s', e, hi⟩ := jn_some (fun p => p) h
                    refine hLy14 s' _ _ hi ⟨rfl, ?_, ?_, rfl, rfl⟩ <;> cbv <;> (try (subst e; simp only [D.har, D.hbnd, D.hcmp, D.hgl, D.hinb, D.hlen, D.hmi, D.hnt, D.hovl, D.hrep, and_self, and_true, true_and] <;> (repeat' apply And.intro) <;> rfl))
                · obtain ⟨s', e, hi⟩ := jn_some (fun p => p) h
                  refine hLy14 s' _ _ hi ⟨rfl, ?_, ?_, rfl, rfl⟩ <;> cbv <;> (try (subst e; simp only [D.har, D.hbnd, D.hcmp, D.hgl, D.hinb, D.hlen, D.hmi, D.hnt, D.hovl, D.hrep, and_self, and_true, true_and] <;> (repeat' apply And.intro) <;> rfl))
            · refine R.brD h (by (first | rfl | (simp only [D.har, D.hbnd, D.hcmp, D.hgl, D.hinb, D.hlen, D.hmi, D.hnt, D.hovl, D.hrep]; done) | (simp only [D.har, D.hbnd, D.hcmp, D.hgl, D.hinb, D.hlen, D.hmi, D.hnt, D.hovl, D.hrep]; rfl))) ?_ ?_ <;> clear h <;> intro h <;> cbv
              · refine R.brD h (by (first | rfl | (simp only [D.har, D.hbnd, D.hcmp, D.hgl, D.hinb, D.hlen, D.hmi, D.hnt, D.hovl, D.hrep]; done) | (simp only [D.har, D.hbnd, D.hcmp, D.hgl, D.hinb, D.hlen, D.hmi, D.hnt, D.hovl, D.hrep]; rfl))) ?_ ?_ <;> clear h <;> intro h <;> cbv
                · obtain ⟨s', e, hi⟩ := jn_some (fun p => p) h
                  refine hLy14 s' _ _ hi ⟨rfl, ?_, ?_, rfl, rfl⟩ <;> cbv <;> (try (subst e; simp only [D.har, D.hbnd, D.hcmp, D.hgl, D.hinb, D.hlen, D.hmi, D.hnt, D.hovl, D.hrep, and_self, and_true, true_and] <;> (repeat' apply And.intro) <;> rfl))
                · obtain ⟨s', e, hi⟩ := jn_some (fun p => p) h
                  refine hLy14 s' _ _ hi ⟨rfl, ?_, ?_, rfl, rfl⟩ <;> cbv <;> (try (subst e; simp only [D.har, D.hbnd, D.hcmp, D.hgl, D.hinb, D.hlen, D.hmi, D.hnt, D.hovl, D.hrep, and_self, and_true, true_and] <;> (repeat' apply And.intro) <;> rfl))
              · obtain ⟨s', e, hi⟩ := jn_some (fun p => p) h
                refine hLy14 s' _ _ hi ⟨rfl, ?_, ?_, rfl, rfl⟩ <;> cbv <;> (try (subst e; simp only [D.har, D.hbnd, D.hcmp, D.hgl, D.hinb, D.hlen, D.hmi, D.hnt, D.hovl, D.hrep, and_self, and_true, true_and] <;> (repeat' apply And.intro) <;> rfl))
          · as_aux_lemma =>
            clear h; have h := h2; clear h2; try dsimp only at h
            cbv
            refine R.brD h (by (first | rfl | (simp only [D.har, D.hbnd, D.hcmp, D.hgl, D.hinb, D.hlen, D.hmi, D.hnt, D.hovl, D.hrep]; done) | (simp only [D.har, D.hbnd, D.hcmp, D.hgl, D.hinb, D.hlen, D.hmi, D.hnt, D.hovl, D.hrep]; rfl))) ?_ ?_ <;> clear h <;> intro h <;> cbv
            · have e := ret_some h; clear h
              refine hK _ _ ?_
              cbv
              try (subst e; simp only [D.har, D.hbnd, D.hcmp, D.hgl, D.hinb, D.hlen, D.hmi, D.hnt, D.hovl, D.hrep, and_self, and_true, true_and] <;> (repeat' apply And.intro) <;> rfl)
            · as_aux_lemma =>
              refine R.callD h (fun x16 hx16 h2 => ?_)
              clear h; have h := h2; clear h2
              refine R.call' (w54 _ _ hx16) (by (first | rfl | (simp only [D.har, D.hbnd, D.hcmp, D.hgl, D.hinb, D.hlen, D.hmi, D.hnt, D.hovl, D.hrep]; done) | (simp only [D.har, D.hbnd, D.hcmp, D.hgl, D.hinb, D.hlen, D.hmi, D.hnt, D.hovl, D.hrep]; rfl))) ?_
              clear hx16; cbv
              refine R.cutB (fun p => p) (fun _ _ e => e) h [] (fun p18 => []) (fun p18 => [(1344, .row 5 p18)]) (by kernel_rfl) (by kernel_rfl) (fun y17 hy hFy17 L hLy17 => ?_) (fun p18 h2 => ?_)
              · clear h; have h := hy; clear hy; cbv
                refine R.brD h (by (first | rfl | (simp only [D.har, D.hbnd, D.hcmp, D.hgl, D.hinb, D.hlen, D.hmi, D.hnt, D.hovl, D.hrep]; done) | (simp only [D.har, D.hbnd, D.hcmp, D.hgl, D.hinb, D.hlen, D.hmi, D.hnt, D.hovl, D.hrep]; rfl))) ?_ ?_ <;> clear h <;> intro h <;> cbv
                · refine R.needD h (by (first | rfl | (simp only [D.har, D.hbnd, D.hcmp, D.hgl, D.hinb, D.hlen, D.hmi, D.hnt, D.hovl, D.hrep]; done) | (simp only [D.har, D.hbnd, D.hcmp, D.hgl, D.hinb, D.hlen, D.hmi, D.hnt, D.hovl, D.hrep]; rfl))) ?_
                  clear h; intro h; cbv
                  obtain ⟨s', e, hi⟩ := jn_some (fun p => p) h
                  refine hLy17 s' _ _ hi ⟨rfl, ?_, ?_, rfl, rfl⟩ <;> cbv <;> (try (subst e; simp only [D.har, D.hbnd, D.hcmp, D.hgl, D.hinb, D.hlen, D.hmi, D.hnt, D.hovl, D.hrep, and_self, and_true, true_and] <;> (repeat' apply And.intro) <;> rfl))
                · refine R.needD h (by (first | rfl | (simp only [D.har, D.hbnd, D.hcmp, D.hgl, D.hinb, D.hlen, D.hmi, D.hnt, D.hovl, D.hrep]; done) | (simp only [D.har, D.hbnd, D.hcmp, D.hgl, D.hinb, D.hlen, D.hmi, D.hnt, D.hovl, D.hrep]; rfl))) ?_
                  clear h; intro h; cbv
                  refine R.needD h (by (first | rfl | (simp only [D.har, D.hbnd, D.hcmp, D.hgl, D.hinb, D.hlen, D.hmi, D.hnt, D.hovl, D.hrep]; done) | (simp only [D.har, D.hbnd, D.hcmp, D.hgl, D.hinb, D.hlen, D.hmi, D.hnt, D.hovl, D.hrep]; rfl))) ?_
                  clear h; intro h; cbv
                  obtain ⟨s', e, hi⟩ := jn_some (fun p => p) h
                  refine hLy17 s' _ _ hi ⟨rfl, ?_, ?_, rfl, rfl⟩ <;> cbv <;> (try (subst e; simp only [D.har, D.hbnd, D.hcmp, D.hgl, D.hinb, D.hlen, D.hmi, D.hnt, D.hovl, D.hrep, and_self, and_true, true_and] <;> (repeat' apply And.intro) <;> rfl))
              · as_aux_lemma =>
                clear h; have h := h2; clear h2; try dsimp only at h
                cbv
                refine R.callBD h (fun x19 hx19 h2 => ?_)
                clear h; have h := h2; clear h2
                refine R.callB [] (w55v1 a0_0 a0_1 a0_2 a0_3 a0_4 a0_5 a0_6 a0_7 a0_8 _ hx19) ?_ ?_ rfl ?_
                · cbv <;> (try simp only [D.har, D.hbnd, D.hcmp, D.hgl, D.hinb, D.hlen, D.hmi, D.hnt, D.hovl, D.hrep, and_self, and_true, true_and] <;> (repeat' apply And.intro) <;> rfl)
                · cbv <;> (try simp only [D.har, D.hbnd, D.hcmp, D.hgl, D.hinb, D.hlen, D.hmi, D.hnt, D.hovl, D.hrep, and_self, and_true, true_and] <;> (repeat' apply And.intro) <;> rfl)
                clear hx19; cbv
                refine R.cutB Sum.inl (fun _ _ e => Sum.inl.inj e) h [] (fun p37 => []) (fun p37 => []) (by kernel_rfl) (by kernel_rfl) (fun y26 hy hFy26 L hLy26 => ?_) (fun p37 h2 => ?_)
                · clear h; have h := hy; clear hy; cbv
                  refine R.loopD h (fun s0 y32 e0 hi hFs29 => ?_)
                  clear h
                  refine R.loopI hi [] (fun s29 => [(114, .i .i64 s29)]) (fun s29 => []) ⟨rfl, ?_, ?_, rfl, rfl⟩ (by kernel_rfl) ?_
                  · cbv; try (subst e0; simp only [D.har, D.hbnd, D.hcmp, D.hgl, D.hinb, D.hlen, D.hmi, D.hnt, D.hovl, D.hrep, and_self, and_true, true_and] <;> (repeat' apply And.intro) <;> rfl)
                  · cbv; try (subst e0; simp only [D.har, D.hbnd, D.hcmp, D.hgl, D.hinb, D.hlen, D.hmi, D.hnt, D.hovl, D.hrep, and_self, and_true, true_and] <;> (repeat' apply And.intro) <;> rfl)
                  clear hi e0
                  intro s29 m y' hy hins29 houts29 L hLs29
                  have h := hy; clear hy; unfold d29_b1 at h
                  cbv
                  refine R.cut' (by kernel_rfl) (by kernel_rfl) ?_
                  cbv
                  refine R.brD h (by (first | rfl | (simp only [D.har, D.hbnd, D.hcmp, D.hgl, D.hinb, D.hlen, D.hmi, D.hnt, D.hovl, D.hrep]; done) | (simp only [D.har, D.hbnd, D.hcmp, D.hgl, D.hinb, D.hlen, D.hmi, D.hnt, D.hovl, D.hrep]; rfl))) ?_ ?_ <;> clear h <;> intro h <;> cbv
                  · refine R.cut' (by kernel_rfl) (by kernel_rfl) ?_
                    cbv
                    refine R.needD h (by (first | rfl | (simp only [D.har, D.hbnd, D.hcmp, D.hgl, D.hinb, D.hlen, D.hmi, D.hnt, D.hovl, D.hrep]; done) | (simp only [D.har, D.hbnd, D.hcmp, D.hgl, D.hinb, D.hlen, D.hmi, D.hnt, D.hovl, D.hrep]; rfl))) ?_
                    clear h; intro h; cbv
                    refine R.callBD h (fun x34 hx34 h2 => ?_)
                    clear h; have h := h2; clear h2
                    obtain ⟨bx34_0, ex34_0, hbx34⟩ : ∃ bx34_0, bx34_0 = (gL [.sl 5 x19.1, .sl 5 x19.2, .sl 5 a0_6] s29 0) ∧ d51 bx34_0 = some x34 := ⟨_, rfl, hx34⟩
                    clear hx34; have hx34 := hbx34; clear hbx34
                    refine R.callB [(0, 1920)] (w51 bx34_0 _ hx34) ?_ ?_ rfl ?_
                    · cbv <;> (try simp only [D.har, D.hbnd, D.hcmp, D.hgl, D.hinb, D.hlen, D.hmi, D.hnt, D.hovl, D.hrep, ex34_0, and_self, and_true, true_and] <;> (repeat' apply And.intro) <;> rfl)
                    · cbv <;> (try simp only [D.har, D.hbnd, D.hcmp, D.hgl, D.hinb, D.hlen, D.hmi, D.hnt, D.hovl, D.hrep, ex34_0, and_self, and_true, true_and] <;> (repeat' apply And.intro) <;> rfl)
                    clear hx34; cbv
                    refine R.brD h (by (first | rfl | (simp only [D.har, D.hbnd, D.hcmp, D.hgl, D.hinb, D.hlen, D.hmi, D.hnt, D.hovl, D.hrep, ex34_0]; done) | (simp only [D.har, D.hbnd, D.hcmp, D.hgl, D.hinb, D.hlen, D.hmi, D.hnt, D.hovl, D.hrep, ex34_0]; rfl))) ?_ ?_ <;> clear h <;> intro h <;> cbv
                    · have e := inr_some h houts29; clear h
                      have h := hFs29; rw [e] at h; clear e; try dsimp only at h
                      cbv
                      have e := ret_some h; clear h
                      have h := hFy26; rw [e] at h; clear e; try dsimp only at h
                      cbv
                      have e := ret_some h; clear h
                      refine hK _ _ ?_
                      cbv
                      try (subst e; simp only [D.har, D.hbnd, D.hcmp, D.hgl, D.hinb, D.hlen, D.hmi, D.hnt, D.hovl, D.hrep, ex34_0, and_self, and_true, true_and] <;> (repeat' apply And.intro) <;> rfl)
                    · obtain ⟨s', e, hi⟩ := inl_some h hins29
                      refine hLs29 s' _ _ hi ⟨rfl, ?_, ?_, rfl, rfl⟩ <;> cbv <;> (try (subst e; simp only [D.har, D.hbnd, D.hcmp, D.hgl, D.hinb, D.hlen, D.hmi, D.hnt, D.hovl, D.hrep, ex34_0, and_self, and_true, true_and] <;> (repeat' apply And.intro) <;> rfl))
                  · have e := inr_some h houts29; clear h
                    have h := hFs29; rw [e] at h; clear e; try dsimp only at h
                    cbv
                    obtain ⟨s', e, hi⟩ := jn_some Sum.inl h
                    refine hLy26 s' _ _ hi ⟨rfl, ?_, ?_, rfl, rfl⟩ <;> cbv <;> (try (subst e; simp only [D.har, D.hbnd, D.hcmp, D.hgl, D.hinb, D.hlen, D.hmi, D.hnt, D.hovl, D.hrep, and_self, and_true, true_and] <;> (repeat' apply And.intro) <;> rfl))
                · clear h; have h := h2; clear h2; try dsimp only at h
                  cbv
                  refine R.cut' (by kernel_rfl) (by kernel_rfl) ?_
                  cbv
                  refine R.callD h (fun x39 hx39 h2 => ?_)
                  clear h; have h := h2; clear h2
                  refine R.call' (w58 _ _ hx39) (by (first | rfl | (simp only [D.har, D.hbnd, D.hcmp, D.hgl, D.hinb, D.hlen, D.hmi, D.hnt, D.hovl, D.hrep]; done) | (simp only [D.har, D.hbnd, D.hcmp, D.hgl, D.hinb, D.hlen, D.hmi, D.hnt, D.hovl, D.hrep]; rfl))) ?_
                  clear hx39; cbv
                  refine R.brD h (by (first | rfl | (simp only [D.har, D.hbnd, D.hcmp, D.hgl, D.hinb, D.hlen, D.hmi, D.hnt, D.hovl, D.hrep]; done) | (simp only [D.har, D.hbnd, D.hcmp, D.hgl, D.hinb, D.hlen, D.hmi, D.hnt, D.hovl, D.hrep]; rfl))) ?_ ?_ <;> clear h <;> intro h <;> cbv
                  · have e := ret_some h; clear h
                    refine hK _ _ ?_
                    cbv
                    try (subst e; simp only [D.har, D.hbnd, D.hcmp, D.hgl, D.hinb, D.hlen, D.hmi, D.hnt, D.hovl, D.hrep, and_self, and_true, true_and] <;> (repeat' apply And.intro) <;> rfl)
                  · have e := ret_some h; clear h
                    refine hK _ _ ?_
                    cbv
                    try (subst e; simp only [D.har, D.hbnd, D.hcmp, D.hgl, D.hinb, D.hlen, D.hmi, D.hnt, D.hovl, D.hrep, and_self, and_true, true_and] <;> (repeat' apply And.intro) <;> rfl)

noncomputable def d48 (a0_0 : Int) (a0_1 : List V) (a0_2 : Int) (a0_3 : Int) (a0_4 : Int) (a0_5 : Int) (a0_6 : List V) (a0_7 : Int) (a0_8 : Bool) : Option (Int × List V × Int × Int × Int × Int × List V × Int × Bool) :=
  (d54 a0_1).bind fun x1 =>
  (d54 a0_6).bind fun x2 =>
  some (a0_0, x1, a0_2, a0_3, a0_4, a0_5, x2, a0_7, a0_8)
noncomputable def w48_c : Code := (Try.f48.body).getD .skip
theorem w48_h : Try.f48.body = some w48_c := by kernel_rfl
theorem w48 (a0_0 : Int) (a0_1 : List V) (a0_2 : Int) (a0_3 : Int) (a0_4 : Int) (a0_5 : Int) (a0_6 : List V) (a0_7 : Int) (a0_8 : Bool) (r : Int × List V × Int × Int × Int × Int × List V × Int × Bool) (h : d48 a0_0 a0_1 a0_2 a0_3 a0_4 a0_5 a0_6 a0_7 a0_8 = some r) : Ab.Fn Try.prog TT 48 [.agg [.i .i64 a0_0, .sl 5 a0_1, .i .i64 a0_2, .i .i64 a0_3, .i .i64 a0_4, .i .i64 a0_5, .sl 5 a0_6, .i .i64 a0_7, .b a0_8]] (.agg [.i .i64 r.1, .row 0, .i .i64 r.2.2.1, .i .i64 r.2.2.2.1, .i .i64 r.2.2.2.2.1, .i .i64 r.2.2.2.2.2.1, .row 1, .i .i64 r.2.2.2.2.2.2.2.1, .b r.2.2.2.2.2.2.2.2]) [(0, .row 5 r.2.1), (1, .row 5 r.2.2.2.2.2.2.1)] := by
  refine fn_own tok W0 Try.func48 (by kernel_rfl) w48_h (by kernel_rfl) ?_
  intro ar un cv mn mx pl mi cmp nt beq an scmp cat slen sbyte ssub ofB toB len gi gb gs gl sub put app ovl rep ne0 ge0 inb bnd room sroom need br call callb loop cut nl E R K hK
  have D := E.D
  clear E
  unfold d48 at h
  cbv
  refine R.callD h (fun x1 hx1 h2 => ?_)
  clear h; have h := h2; clear h2
  refine R.call' (w54 _ _ hx1) (by rfl) ?_
  clear hx1; cbv
  refine R.callD h (fun x2 hx2 h2 => ?_)
  clear h; have h := h2; clear h2
  refine R.call' (w54 _ _ hx2) (by rfl) ?_
  clear hx2; cbv
  have e := ret_some h; clear h
  refine hK _ _ ⟨rfl, ⟨?_, rfl, rfl, rfl, ?_⟩⟩ <;> cbv <;> (try (subst e; simp only [and_self, and_true, true_and] <;> (repeat' apply And.intro) <;> rfl))
theorem w48s (a0_0 : Int) (a0_1 : List V) (a0_2 : Int) (a0_3 : Int) (a0_4 : Int) (a0_5 : Int) (a0_6 : List V) (a0_7 : Int) (a0_8 : Bool) (r : Int × List V × Int × Int × Int × Int × List V × Int × Bool) (h : d48 a0_0 a0_1 a0_2 a0_3 a0_4 a0_5 a0_6 a0_7 a0_8 = some r) : Ab.Fn Try.prog TT 48 [.agg [.i .i64 a0_0, .sl 5 a0_1, .i .i64 a0_2, .i .i64 a0_3, .i .i64 a0_4, .i .i64 a0_5, .sl 5 a0_6, .i .i64 a0_7, .b a0_8]] (.agg [.i .i64 r.1, .sl 5 r.2.1, .i .i64 r.2.2.1, .i .i64 r.2.2.2.1, .i .i64 r.2.2.2.2.1, .i .i64 r.2.2.2.2.2.1, .sl 5 r.2.2.2.2.2.2.1, .i .i64 r.2.2.2.2.2.2.2.1, .b r.2.2.2.2.2.2.2.2]) [] :=
  (w48 a0_0 a0_1 a0_2 a0_3 a0_4 a0_5 a0_6 a0_7 a0_8 r h).pure (by simp [ple, ple1, ple1L, pleL, pleS, Ab.look])

noncomputable def d67v1 (a0 : Int) (a1 : Int) (a2 : Int) (a3 : Int) (a4 : Int) (a5 : Int) (a6 : Int) (a7 : Bool) (a8 : List V) (a9 : List V) : Option (Int) :=
  some (mnI (arReal .add .i64 a5 a0) 1099511627776)
noncomputable def w67v1_c : Code := (Try.f67.body).getD .skip
theorem w67v1_h : Try.f67.body = some w67v1_c := by kernel_rfl
theorem w67v1 (a0 : Int) (a1 : Int) (a2 : Int) (a3 : Int) (a4 : Int) (a5 : Int) (a6 : Int) (a7 : Bool) (a8 : List V) (a9 : List V) (r : Int) (h : d67v1 a0 a1 a2 a3 a4 a5 a6 a7 a8 a9 = some r) : Ab.FnB Try.prog TT 67 [.ptr 900000 0, .i .i64 a0] [(900000, .cells 26 [.i .i64 a1, .row 900100, .i .i64 a2, .i .i64 a3, .i .i64 a4, .i .i64 a5, .row 900200, .i .i64 a6, .b a7]), (900100, .row 5 a8), (900200, .row 5 a9)] [900000,900100,900200] (.tup []) [(900000, .cells 26 [.i .i64 a1, .row 900100, .i .i64 a2, .i .i64 a3, .i .i64 a4, .i .i64 r, .row 900200, .i .i64 a6, .b a7]), (900100, .row 5 a8), (900200, .row 5 a9)] := by
  refine fnb_rules tok W0 [900000,900100,900200] [] [(900000, .cells 26 [.i .i64 a1, .row 900100, .i .i64 a2, .i .i64 a3, .i .i64 a4, .i .i64 r, .row 900200, .i .i64 a6, .b a7]), (900100, .row 5 a8), (900200, .row 5 a9)] [] Try.func67 (by kernel_rfl) w67v1_h (by kernel_rfl) (by rfl) ?_
  intro ar un cv mn mx pl mi cmp nt beq an scmp cat slen sbyte ssub ofB toB len gi gb gs gl sub put app ovl rep ne0 ge0 inb bnd room sroom need br call callb loop cut nl E R K hK
  have D := E.D
  clear E
  unfold d67v1 at h
  cbv
  have e := ret_some h; clear h
  refine hK _ _ ⟨rfl, ?_, ?_, rfl, rfl⟩ <;> cbv <;> (try (subst e; simp only [D.har, D.hmn, and_self, and_true, true_and] <;> (repeat' apply And.intro) <;> rfl))
end Go.Proofs.Ytdejapkfijdadaa
end
section
namespace Go.Proofs.Ytdejapkfijdadaa
open Go.Ab Go.RowKit 
set_option maxRecDepth 100000
set_option maxHeartbeats 40000000
noncomputable def d68v1 (a0 : Int) (a1 : Int) (a2 : Int) (a3 : Int) (a4 : Int) (a5 : Int) (a6 : Bool) (a7 : List V) (a8 : List V) (a9 : List V) : Option (Int × List V) :=
  if (Bnd a2 (lenI a8) (lenI a8)) then
    some ((arReal .add .i64 a2 (lenI a7)), (ovlReal a8 a2 (subL a7 0 (mnI (lenI a7) (miI (lenI a8) a2)))))
  else none
noncomputable def w68v1_c : Code := (Try.f68.body).getD .skip
theorem w68v1_h : Try.f68.body = some w68v1_c := by kernel_rfl
theorem w68v1 (a0 : Int) (a1 : Int) (a2 : Int) (a3 : Int) (a4 : Int) (a5 : Int) (a6 : Bool) (a7 : List V) (a8 : List V) (a9 : List V) (r : Int × List V) (h : d68v1 a0 a1 a2 a3 a4 a5 a6 a7 a8 a9 = some r) : Ab.FnB Try.prog TT 68 [.ptr 900000 0, .row 900100] [(900000, .cells 26 [.i .i64 a0, .row 900200, .i .i64 a1, .i .i64 a2, .i .i64 a3, .i .i64 a4, .row 900300, .i .i64 a5, .b a6]), (900100, .row 5 a7), (900200, .row 5 a8), (900300, .row 5 a9)] [900000,900100,900200,900300] (.b true) [(900000, .cells 26 [.i .i64 a0, .row 900200, .i .i64 a1, .i .i64 r.1, .i .i64 a3, .i .i64 a4, .row 900300, .i .i64 a5, .b a6]), (900100, .row 5 a7), (900200, .row 5 r.2), (900300, .row 5 a9)] := by
  refine fnb_rules tok (fun r => match r with | 1 => [[],[0],[0,1],[0,1,2],[],[4],[4,5],[4,5,6],[0,1,2,3,4,5,6,7],[],[0,1,2,3,4,5,6,7,8,9]] | _ => []) [900000,900100,900200,900300] [.b true] [(900000, .cells 26 [.i .i64 a0, .row 900200, .i .i64 a1, .i .i64 r.1, .i .i64 a3, .i .i64 a4, .row 900300, .i .i64 a5, .b a6]), (900100, .row 5 a7), (900200, .row 5 r.2), (900300, .row 5 a9)] [] Try.func68 (by kernel_rfl) w68v1_h (by kernel_rfl) (by rfl) ?_
  intro ar un cv mn mx pl mi cmp nt beq an scmp cat slen sbyte ssub ofB toB len gi gb gs gl sub put app ovl rep ne0 ge0 inb bnd room sroom need br call callb loop cut nl E R K hK
  have D := E.D
  clear E
  unfold d68v1 at h
  cbv
  refine R.needD h (by (first | rfl | (simp only [D.har, D.hbnd, D.hlen, D.hmi, D.hmn, D.hovl, D.hsub]; done) | (simp only [D.har, D.hbnd, D.hlen, D.hmi, D.hmn, D.hovl, D.hsub]; rfl))) ?_
  clear h; intro h; cbv
  have e := ret_some h; clear h
  refine hK _ _ ⟨rfl, ?_, ?_, rfl, rfl⟩ <;> cbv <;> (try (subst e; simp only [D.har, D.hbnd, D.hlen, D.hmi, D.hmn, D.hovl, D.hsub, and_self, and_true, true_and] <;> (repeat' apply And.intro) <;> rfl))

noncomputable def d46v1 (a0 : Int) (a1 : Int) (a2 : Int) (a3 : Int) (a4 : Int) (a5 : Int) (a6 : Bool) (a7 : List V) (a8 : List V) (a9 : List V) : Option (Bool × Int × Int × List V) :=
  if (cmpLit .gtr a4 0) = true then
    (d67v1 1 a0 a1 a2 a3 a4 a5 a6 a8 a9).bind fun x8 =>
    some (false, a2, x8, a8)
  else
    if (cmpLit .gtr (arReal .add .i64 a2 (lenI a7)) (lenI a8)) = true then
      (d67v1 1 a0 a1 a2 a3 a4 a5 a6 a8 a9).bind fun x9 =>
      some (false, a2, x9, a8)
    else
      (d68v1 a0 a1 a2 a3 a4 a5 a6 a7 a8 a9).bind fun x10 =>
      some (true, x10.1, a4, x10.2)
noncomputable def w46v1_c : Code := (Try.f46.body).getD .skip
theorem w46v1_h : Try.f46.body = some w46v1_c := by kernel_rfl
theorem w46v1 (a0 : Int) (a1 : Int) (a2 : Int) (a3 : Int) (a4 : Int) (a5 : Int) (a6 : Bool) (a7 : List V) (a8 : List V) (a9 : List V) (r : Bool × Int × Int × List V) (h : d46v1 a0 a1 a2 a3 a4 a5 a6 a7 a8 a9 = some r) : Ab.FnB Try.prog TT 46 [.ptr 900000 0, .row 900100] [(900000, .cells 26 [.i .i64 a0, .row 900200, .i .i64 a1, .i .i64 a2, .i .i64 a3, .i .i64 a4, .row 900300, .i .i64 a5, .b a6]), (900100, .row 5 a7), (900200, .row 5 a8), (900300, .row 5 a9)] [900000,900100,900200,900300] (.b r.1) [(900000, .cells 26 [.i .i64 a0, .row 900200, .i .i64 a1, .i .i64 r.2.1, .i .i64 a3, .i .i64 r.2.2.1, .row 900300, .i .i64 a5, .b a6]), (900100, .row 5 a7), (900200, .row 5 r.2.2.2), (900300, .row 5 a9)] := by
  refine fnb_rules tok (fun r => match r with | 1 => [[],[0],[0,1],[0,1,2],[0,1,2,3],[0,1,2,3,4],[0,1,2,3,4,5],[0,1,2,3,4,5,6],[0,1,2,3,4,5,6,7],[0,1,2,3,4,5,6,7,8],[0,1,2,3,4,5],[0,1,2,3,4,5,10],[0,1,2,3,4,5,6,7,8,9,10,11],[0,1,2,3,4,5],[0,1,2,3,4,5,13],[0,1,2,3,4,5,13,14],[0,1,2,3,4,5,13,14,15],[0,1,2,3,4,5,13,14,15,16],[0,1,2,3,4,5,6,7,8,9,10,11,12,13,14,15,16,17],[0,1,2,3,4,5,6,7,8,9,10,11,12,13,14,15,16,17,18]] | _ => []) [900000,900100,900200,900300] [.b r.1] [(900000, .cells 26 [.i .i64 a0, .row 900200, .i .i64 a1, .i .i64 r.2.1, .i .i64 a3, .i .i64 r.2.2.1, .row 900300, .i .i64 a5, .b a6]), (900100, .row 5 a7), (900200, .row 5 r.2.2.2), (900300, .row 5 a9)] [] Try.func46 (by kernel_rfl) w46v1_h (by kernel_rfl) (by rfl) ?_
  intro ar un cv mn mx pl mi cmp nt beq an scmp cat slen sbyte ssub ofB toB len gi gb gs gl sub put app ovl rep ne0 ge0 inb bnd room sroom need br call callb loop cut nl E R K hK
  have D := E.D
  clear E
  unfold d46v1 at h
  cbv
  refine R.cut' (by kernel_rfl) (by kernel_rfl) ?_
  cbv
  refine R.cut' (by kernel_rfl) (by kernel_rfl) ?_
  cbv
  refine R.brD h (by (first | rfl | (simp only [D.har, D.hcmp, D.hlen]; done) | (simp only [D.har, D.hcmp, D.hlen]; rfl))) ?_ ?_ <;> clear h <;> intro h <;> cbv
  · refine R.callBD h (fun x8 hx8 h2 => ?_)
    clear h; have h := h2; clear h2
    refine R.callB [(900000, 900000), (900100, 900200), (900200, 900300)] (w67v1 1 a0 a1 a2 a3 a4 a5 a6 a8 a9 _ hx8) ?_ ?_ rfl ?_
    · cbv <;> (try simp only [D.har, D.hcmp, D.hlen, and_self, and_true, true_and] <;> (repeat' apply And.intro) <;> rfl)
    · cbv <;> (try simp only [D.har, D.hcmp, D.hlen, and_self, and_true, true_and] <;> (repeat' apply And.intro) <;> rfl)
    clear hx8; cbv
    have e := ret_some h; clear h
    refine hK _ _ ⟨rfl, ?_, ?_, rfl, rfl⟩ <;> cbv <;> (try (subst e; simp only [D.har, D.hcmp, D.hlen, and_self, and_true, true_and] <;> (repeat' apply And.intro) <;> rfl))
  · refine R.brD h (by (first | rfl | (simp only [D.har, D.hcmp, D.hlen]; done) | (simp only [D.har, D.hcmp, D.hlen]; rfl))) ?_ ?_ <;> clear h <;> intro h <;> cbv
    · refine R.callBD h (fun x9 hx9 h2 => ?_)
      clear h; have h := h2; clear h2
      refine R.callB [(900000, 900000), (900100, 900200), (900200, 900300)] (w67v1 1 a0 a1 a2 a3 a4 a5 a6 a8 a9 _ hx9) ?_ ?_ rfl ?_
      · cbv <;> (try simp only [D.har, D.hcmp, D.hlen, and_self, and_true, true_and] <;> (repeat' apply And.intro) <;> rfl)
      · cbv <;> (try simp only [D.har, D.hcmp, D.hlen, and_self, and_true, true_and] <;> (repeat' apply And.intro) <;> rfl)
      clear hx9; cbv
      have e := ret_some h; clear h
      refine hK _ _ ⟨rfl, ?_, ?_, rfl, rfl⟩ <;> cbv <;> (try (subst e; simp only [D.har, D.hcmp, D.hlen, and_self, and_true, true_and] <;> (repeat' apply And.intro) <;> rfl))
    · refine R.callBD h (fun x10 hx10 h2 => ?_)
      clear h; have h := h2; clear h2
      refine R.callB [(900000, 900000), (900100, 900100), (900200, 900200), (900300, 900300)] (w68v1 a0 a1 a2 a3 a4 a5 a6 a7 a8 a9 _ hx10) ?_ ?_ rfl ?_
      · cbv <;> (try simp only [D.har, D.hcmp, D.hlen, and_self, and_true, true_and] <;> (repeat' apply And.intro) <;> rfl)
      · cbv <;> (try simp only [D.har, D.hcmp, D.hlen, and_self, and_true, true_and] <;> (repeat' apply And.intro) <;> rfl)
      clear hx10; cbv
      have e := ret_some h; clear h
      refine hK _ _ ⟨rfl, ?_, ?_, rfl, rfl⟩ <;> cbv <;> (try (subst e; simp only [D.har, D.hcmp, D.hlen, and_self, and_true, true_and] <;> (repeat' apply And.intro) <;> rfl))

noncomputable def d55v2 (a0 : Int) (a1 : Int) (a2 : Int) (a3 : Int) (a4 : Int) (a5 : Int) (a6 : Bool) (a7 : List V) (a8 : List V) : Option ((Int × Int) ⊕ (Int × Int × Int × Int)) :=
  if (cmpLit .eql a3 0) = true then
    if (Bnd a1 a2 a2) then
      if (Bnd 0 a2 (lenI a7)) then
        some (.inl (a1, (miI a2 a1)))
      else none
    else none
  else
    if (Bnd a1 a3 a3) then
      if (Bnd 0 a3 (lenI a7)) then
        if (Bnd 0 a2 a2) then
          if (Bnd 0 a2 (lenI a7)) then
            some (.inr (a1, (miI a3 a1), 0, (miI a2 0)))
          else none
        else none
      else none
    else none
noncomputable def w55v2_c : Code := (Try.f55.body).getD .skip
theorem w55v2_h : Try.f55.body = some w55v2_c := by kernel_rfl
theorem w55v2_0 (a0 : Int) (a1 : Int) (a2 : Int) (a3 : Int) (a4 : Int) (a5 : Int) (a6 : Bool) (a7 : List V) (a8 : List V) (r : Int × Int) (h : d55v2 a0 a1 a2 a3 a4 a5 a6 a7 a8 = some (.inl r)) : Ab.FnB Try.prog TT 55 [.agg [.i .i64 a0, .row 900000, .i .i64 a1, .i .i64 a2, .i .i64 a3, .i .i64 a4, .row 900100, .i .i64 a5, .b a6]] [(900000, .row 5 a7), (900100, .row 5 a8)] [900000,900100] (.agg [.rowp 900000 r.1 r.2, .nil]) [(900000, .row 5 a7), (900100, .row 5 a8)] := by
  refine fnb_rules tok (fun r => match r with | 3 => [[],[0],[],[2],[],[4],[],[6],[0,1,2,3,4,5,6,7],[],[9],[],[11],[],[13],[9,10,11,12,13,14],[0,1,2,3,4,5,6,7,8,9,10,11,12,13,14,15],[0,1,2,3,4,5,6,7,8,9,10,11,12,13,14,15,16]] | _ => []) [900000,900100] [.agg [.rowp 900000 r.1 r.2, .nil]] [(900000, .row 5 a7), (900100, .row 5 a8)] [] Try.func55 (by kernel_rfl) w55v2_h (by kernel_rfl) (by rfl) ?_
  intro ar un cv mn mx pl mi cmp nt beq an scmp cat slen sbyte ssub ofB toB len gi gb gs gl sub put app ovl rep ne0 ge0 inb bnd room sroom need br call callb loop cut nl E R K hK
  have D := E.D
  clear E
  unfold d55v2 at h
  cbv
  refine R.cut' (by kernel_rfl) (by kernel_rfl) ?_
  cbv
  refine R.brD h (by (first | rfl | (simp only [D.hbnd, D.hcmp, D.hlen, D.hmi]; done) | (simp only [D.hbnd, D.hcmp, D.hlen, D.hmi]; rfl))) ?_ ?_ <;> clear h <;> intro h <;> cbv
  · refine R.needD h (by (first | rfl | (simp only [D.hbnd, D.hcmp, D.hlen, D.hmi]; done) | (simp only [D.hbnd, D.hcmp, D.hlen, D.hmi]; rfl))) ?_
    clear h; intro h; cbv
    refine R.needD h (by (first | rfl | (simp only [D.hbnd, D.hcmp, D.hlen, D.hmi]; done) | (simp only [D.hbnd, D.hcmp, D.hlen, D.hmi]; rfl))) ?_
    clear h; intro h; cbv
    injection h with h
    injection h with h
    have e := h.symm; clear h
    refine hK _ _ ⟨rfl, ?_, ?_, rfl, rfl⟩ <;> cbv <;> (try (subst e; simp only [D.hbnd, D.hcmp, D.hlen, D.hmi, and_self, and_true, true_and] <;> (repeat' apply And.intro) <;> rfl))
  · refine R.needD h (by (first | rfl | (simp only [D.hbnd, D.hcmp, D.hlen, D.hmi]; done) | (simp only [D.hbnd, D.hcmp, D.hlen, D.hmi]; rfl))) ?_
    clear h; intro h; cbv
    refine R.needD h (by (first | rfl | (simp only [D.hbnd, D.hcmp, D.hlen, D.hmi]; done) | (simp only [D.hbnd, D.hcmp, D.hlen, D.hmi]; rfl))) ?_
    clear h; intro h; cbv
    refine R.needD h (by (first | rfl | (simp only [D.hbnd, D.hcmp, D.hlen, D.hmi]; done) | (simp only [D.hbnd, D.hcmp, D.hlen, D.hmi]; rfl))) ?_
    clear h; intro h; cbv
    refine R.needD h (by (first | rfl | (simp only [D.hbnd, D.hcmp, D.hlen, D.hmi]; done) | (simp only [D.hbnd, D.hcmp, D.hlen, D.hmi]; rfl))) ?_
    clear h; intro h; cbv
    exact (by simp at h)
theorem w55v2_1 (a0 : Int) (a1 : Int) (a2 : Int) (a3 : Int) (a4 : Int) (a5 : Int) (a6 : Bool) (a7 : List V) (a8 : List V) (r : Int × Int × Int × Int) (h : d55v2 a0 a1 a2 a3 a4 a5 a6 a7 a8 = some (.inr r)) : Ab.FnB Try.prog TT 55 [.agg [.i .i64 a0, .row 900000, .i .i64 a1, .i .i64 a2, .i .i64 a3, .i .i64 a4, .row 900100, .i .i64 a5, .b a6]] [(900000, .row 5 a7), (900100, .row 5 a8)] [900000,900100] (.agg [.rowp 900000 r.1 r.2.1, .rowp 900000 r.2.2.1 r.2.2.2]) [(900000, .row 5 a7), (900100, .row 5 a8)] := by
  refine fnb_rules tok (fun r => match r with | 3 => [[],[0],[],[2],[],[4],[],[6],[0,1,2,3,4,5,6,7],[],[9],[],[11],[],[13],[9,10,11,12,13,14],[0,1,2,3,4,5,6,7,8,9,10,11,12,13,14,15],[0,1,2,3,4,5,6,7,8,9,10,11,12,13,14,15,16]] | _ => []) [900000,900100] [.agg [.rowp 900000 r.1 r.2.1, .rowp 900000 r.2.2.1 r.2.2.2]] [(900000, .row 5 a7), (900100, .row 5 a8)] [] Try.func55 (by kernel_rfl) w55v2_h (by kernel_rfl) (by rfl) ?_
  intro ar un cv mn mx pl mi cmp nt beq an scmp cat slen sbyte ssub ofB toB len gi gb gs gl sub put app ovl rep ne0 ge0 inb bnd room sroom need br call callb loop cut nl E R K hK
  have D := E.D
  clear E
  unfold d55v2 at h
  cbv
  refine R.cut' (by kernel_rfl) (by kernel_rfl) ?_
  cbv
  refine R.brD h (by (first | rfl | (simp only [D.hbnd, D.hcmp, D.hlen, D.hmi]; done) | (simp only [D.hbnd, D.hcmp, D.hlen, D.hmi]; rfl))) ?_ ?_ <;> clear h <;> intro h <;> cbv
  · refine R.needD h (by (first | rfl | (simp only [D.hbnd, D.hcmp, D.hlen, D.hmi]; done) | (simp only [D.hbnd, D.hcmp, D.hlen, D.hmi]; rfl))) ?_
    clear h; intro h; cbv
    refine R.needD h (by (first | rfl | (simp only [D.hbnd, D.hcmp, D.hlen, D.hmi]; done) | (simp only [D.hbnd, D.hcmp, D.hlen, D.hmi]; rfl))) ?_
    clear h; intro h; cbv
    exact (by simp at h)
  · refine R.needD h (by (first | rfl | (simp only [D.hbnd, D.hcmp, D.hlen, D.hmi]; done) | (simp only [D.hbnd, D.hcmp, D.hlen, D.hmi]; rfl))) ?_
    clear h; intro h; cbv
    refine R.needD h (by (first | rfl | (simp only [D.hbnd, D.hcmp, D.hlen, D.hmi]; done) | (simp only [D.hbnd, D.hcmp, D.hlen, D.hmi]; rfl))) ?_
    clear h; intro h; cbv
    refine R.needD h (by (first | rfl | (simp only [D.hbnd, D.hcmp, D.hlen, D.hmi]; done) | (simp only [D.hbnd, D.hcmp, D.hlen, D.hmi]; rfl))) ?_
    clear h; intro h; cbv
    refine R.needD h (by (first | rfl | (simp only [D.hbnd, D.hcmp, D.hlen, D.hmi]; done) | (simp only [D.hbnd, D.hcmp, D.hlen, D.hmi]; rfl))) ?_
    clear h; intro h; cbv
    injection h with h
    injection h with h
    have e := h.symm; clear h
    refine hK _ _ ⟨rfl, ?_, ?_, rfl, rfl⟩ <;> cbv <;> (try (subst e; simp only [D.hbnd, D.hcmp, D.hlen, D.hmi, and_self, and_true, true_and] <;> (repeat' apply And.intro) <;> rfl))

noncomputable def d50v1 (a0 : Int) (a1 : Int) (a2 : Int) (a3 : Int) (a4 : Int) (a5 : Int) (a6 : Bool) (a7 : List V) (a8 : List V) : Option (List V) :=
  (d55v2 a0 a1 a2 a3 a4 a5 a6 a7 a8).bind fun x8 =>
  match x8 with
  | .inl q9 =>
    (d51p q9.1 q9.2 a7).bind fun x10 =>
    (d51 []).bind fun x11 =>
    if (Room (lenI (appL x10.1 x11.1)) 40) then
      some (appL x10.1 x11.1)
    else none
  | .inr x8r0 =>
    (d51p x8r0.1 x8r0.2.1 a7).bind fun x13 =>
    (d51p x8r0.2.2.1 x8r0.2.2.2 a7).bind fun x14 =>
    if (Room (lenI (appL x13.1 x14.1)) 40) then
      some (appL x13.1 x14.1)
    else none
noncomputable def w50v1_c : Code := (Try.f50.body).getD .skip
theorem w50v1_h : Try.f50.body = some w50v1_c := by kernel_rfl
theorem w50v1 (a0 : Int) (a1 : Int) (a2 : Int) (a3 : Int) (a4 : Int) (a5 : Int) (a6 : Bool) (a7 : List V) (a8 : List V) (r : List V) (h : d50v1 a0 a1 a2 a3 a4 a5 a6 a7 a8 = some r) : Ab.FnB Try.prog TT 50 [.agg [.i .i64 a0, .row 900000, .i .i64 a1, .i .i64 a2, .i .i64 a3, .i .i64 a4, .row 900100, .i .i64 a5, .b a6]] [(900000, .row 5 a7), (900100, .row 5 a8)] [900000,900100] (.row 0) [(900000, .row 5 a7), (900100, .row 5 a8), (0, .row 33 r)] := by
  refine fnb_rules tok W0 [900000,900100] [.row 0] [(900000, .row 5 a7), (900100, .row 5 a8), (0, .row 33 r)] [] Try.func50 (by kernel_rfl) w50v1_h (by kernel_rfl) (by rfl) ?_
  intro ar un cv mn mx pl mi cmp nt beq an scmp cat slen sbyte ssub ofB toB len gi gb gs gl sub put app ovl rep ne0 ge0 inb bnd room sroom need br call callb loop cut nl E R K hK
  have D := E.D
  clear E
  unfold d50v1 at h
  cbv
  refine R.callBD h (fun x8 hx8 h2 => ?_)
  clear h; have h := h2; clear h2
  cases x8 with
  | inl q9 =>
    try dsimp only at h
    refine R.callB [(900000, 900000), (900100, 900100)] (w55v2_0 a0 a1 a2 a3 a4 a5 a6 a7 a8 _ hx8) ?_ ?_ rfl ?_
    · cbv <;> (try simp only [D.happ, D.hlen, D.hroom, and_self, and_true, true_and] <;> (repeat' apply And.intro) <;> rfl)
    · cbv <;> (try simp only [D.happ, D.hlen, D.hroom, and_self, and_true, true_and] <;> (repeat' apply And.intro) <;> rfl)
    clear hx8; cbv
    refine R.callBD h (fun x10 hx10 h2 => ?_)
    clear h; have h := h2; clear h2
    refine R.callB [(0, 208), (900000, 900000)] (w51p q9.1 q9.2 a7 _ hx10) ?_ ?_ rfl ?_
    · cbv <;> (try simp only [D.happ, D.hlen, D.hroom, and_self, and_true, true_and] <;> (repeat' apply And.intro) <;> rfl)
    · cbv <;> (try simp only [D.happ, D.hlen, D.hroom, and_self, and_true, true_and] <;> (repeat' apply And.intro) <;> rfl)
    clear hx10; cbv
    refine R.callBD h (fun x11 hx11 h2 => ?_)
    clear h; have h := h2; clear h2
    refine R.callB [(0, 304)] (w51 [] _ hx11) ?_ ?_ rfl ?_
    · cbv <;> (try simp only [D.happ, D.hlen, D.hroom, and_self, and_true, true_and] <;> (repeat' apply And.intro) <;> rfl)
    · cbv <;> (try simp only [D.happ, D.hlen, D.hroom, and_self, and_true, true_and] <;> (repeat' apply And.intro) <;> rfl)
    clear hx11; cbv
    refine R.needD h (by (first | rfl | (simp only [D.happ, D.hlen, D.hroom]; done) | (simp only [D.happ, D.hlen, D.hroom]; rfl))) ?_
    clear h; intro h; cbv
    have e := ret_some h; clear h
    refine hK _ _ ⟨rfl, ?_, ?_, rfl, rfl⟩ <;> cbv <;> (try (subst e; simp only [D.happ, D.hlen, D.hroom, and_self, and_true, true_and] <;> (repeat' apply And.intro) <;> rfl))
  | inr x8r0 =>
    try dsimp only at h
    refine R.callB [(900000, 900000), (900100, 900100)] (w55v2_1 a0 a1 a2 a3 a4 a5 a6 a7 a8 _ hx8) ?_ ?_ rfl ?_
    · cbv <;> (try simp only [D.happ, D.hlen, D.hroom, and_self, and_true, true_and] <;> (repeat' apply And.intro) <;> rfl)
    · cbv <;> (try simp only [D.happ, D.hlen, D.hroom, and_self, and_true, true_and] <;> (repeat' apply And.intro) <;> rfl)
    clear hx8; cbv
    refine R.callBD h (fun x13 hx13 h2 => ?_)
    clear h; have h := h2; clear h2
    refine R.callB [(0, 208), (900000, 900000)] (w51p x8r0.1 x8r0.2.1 a7 _ hx13) ?_ ?_ rfl ?_
    · cbv <;> (try simp only [D.happ, D.hlen, D.hroom, and_self, and_true, true_and] <;> (repeat' apply And.intro) <;> rfl)
    · cbv <;> (try simp only [D.happ, D.hlen, D.hroom, and_self, and_true, true_and] <;> (repeat' apply And.intro) <;> rfl)
    clear hx13; cbv
    refine R.callBD h (fun x14 hx14 h2 => ?_)
    clear h; have h := h2; clear h2
    refine R.callB [(0, 304), (900000, 900000)] (w51p x8r0.2.2.1 x8r0.2.2.2 a7 _ hx14) ?_ ?_ rfl ?_
    · cbv <;> (try simp only [D.happ, D.hlen, D.hroom, and_self, and_true, true_and] <;> (repeat' apply And.intro) <;> rfl)
    · cbv <;> (try simp only [D.happ, D.hlen, D.hroom, and_self, and_true, true_and] <;> (repeat' apply And.intro) <;> rfl)
    clear hx14; cbv
    refine R.needD h (by (first | rfl | (simp only [D.happ, D.hlen, D.hroom]; done) | (simp only [D.happ, D.hlen, D.hroom]; rfl))) ?_
    clear h; intro h; cbv
    have e := ret_some h; clear h
    refine hK _ _ ⟨rfl, ?_, ?_, rfl, rfl⟩ <;> cbv <;> (try (subst e; simp only [D.happ, D.hlen, D.hroom, and_self, and_true, true_and] <;> (repeat' apply And.intro) <;> rfl))

noncomputable def d56v1 (a0 : Int) (a1 : Int) (a2 : Int) (a3 : Int) (a4 : Int) (a5 : Int) (a6 : Bool) (a7 : List V) (a8 : List V) : Option (List V) :=
  some (ovlReal a7 0 (repL (lenI a7) (.i .u8 0)))
noncomputable def w56v1_c : Code := (Try.f56.body).getD .skip
theorem w56v1_h : Try.f56.body = some w56v1_c := by kernel_rfl
theorem w56v1 (a0 : Int) (a1 : Int) (a2 : Int) (a3 : Int) (a4 : Int) (a5 : Int) (a6 : Bool) (a7 : List V) (a8 : List V) (r : List V) (h : d56v1 a0 a1 a2 a3 a4 a5 a6 a7 a8 = some r) : Ab.FnB Try.prog TT 56 [.ptr 900000 0] [(900000, .cells 26 [.i .i64 a0, .row 900100, .i .i64 a1, .i .i64 a2, .i .i64 a3, .i .i64 a4, .row 900200, .i .i64 a5, .b a6]), (900100, .row 5 a7), (900200, .row 5 a8)] [900000,900100,900200] (.tup []) [(900000, .cells 26 [.i .i64 a0, .row 900100, .i .i64 0, .i .i64 0, .i .i64 0, .i .i64 0, .row 900200, .i .i64 a5, .b a6]), (900100, .row 5 r), (900200, .row 5 a8)] := by
  refine fnb_rules tok W0 [900000,900100,900200] [] [(900000, .cells 26 [.i .i64 a0, .row 900100, .i .i64 0, .i .i64 0, .i .i64 0, .i .i64 0, .row 900200, .i .i64 a5, .b a6]), (900100, .row 5 r), (900200, .row 5 a8)] [] Try.func56 (by kernel_rfl) w56v1_h (by kernel_rfl) (by rfl) ?_
  intro ar un cv mn mx pl mi cmp nt beq an scmp cat slen sbyte ssub ofB toB len gi gb gs gl sub put app ovl rep ne0 ge0 inb bnd room sroom need br call callb loop cut nl E R K hK
  have D := E.D
  clear E
  unfold d56v1 at h
  cbv
  have e := ret_some h; clear h
  refine hK _ _ ⟨rfl, ?_, ?_, rfl, rfl⟩ <;> cbv <;> (try (subst e; simp only [D.hlen, D.hovl, D.hrep, and_self, and_true, true_and] <;> (repeat' apply And.intro) <;> rfl))

noncomputable def d69v1 (a0 : Int) (a1 : Int) (a2 : Int) (a3 : Int) (a4 : Int) (a5 : Int) (a6 : Bool) (a7 : List V) (a8 : List V) : Option (Int × Int × Int × List V) :=
  if (Bnd (arReal .add .i64 a1 12) (arReal .add .i64 a1 14) (lenI a7)) then
    (d78 (subL a7 (arReal .add .i64 a1 12) (plI (arReal .add .i64 a1 12) (miI (arReal .add .i64 a1 14) (arReal .add .i64 a1 12))))).bind fun x3 =>
    if (Bnd a1 (arReal .add .i64 a1 (arReal .add .i64 14 x3)) (lenI a7)) then
      (d67v1 1 a0 (arReal .add .i64 a1 (arReal .add .i64 14 x3)) a2 a3 a4 a5 a6 (ovlReal a7 a1 (repL (miI (arReal .add .i64 a1 (arReal .add .i64 14 x3)) a1) (.i .u8 0))) a8).bind fun x4 =>
      if (cmpLit .eql (arReal .add .i64 a1 (arReal .add .i64 14 x3)) a3) = true then
        some (0, 0, x4, (ovlReal a7 a1 (repL (miI (arReal .add .i64 a1 (arReal .add .i64 14 x3)) a1) (.i .u8 0))))
      else
        some ((arReal .add .i64 a1 (arReal .add .i64 14 x3)), a3, x4, (ovlReal a7 a1 (repL (miI (arReal .add .i64 a1 (arReal .add .i64 14 x3)) a1) (.i .u8 0))))
    else none
  else none
noncomputable def w69v1_c : Code := (Try.f69.body).getD .skip
theorem w69v1_h : Try.f69.body = some w69v1_c := by kernel_rfl
theorem w69v1 (a0 : Int) (a1 : Int) (a2 : Int) (a3 : Int) (a4 : Int) (a5 : Int) (a6 : Bool) (a7 : List V) (a8 : List V) (r : Int × Int × Int × List V) (h : d69v1 a0 a1 a2 a3 a4 a5 a6 a7 a8 = some r) : Ab.FnB Try.prog TT 69 [.ptr 900000 0] [(900000, .cells 26 [.i .i64 a0, .row 900100, .i .i64 a1, .i .i64 a2, .i .i64 a3, .i .i64 a4, .row 900200, .i .i64 a5, .b a6]), (900100, .row 5 a7), (900200, .row 5 a8)] [900000,900100,900200] (.tup []) [(900000, .cells 26 [.i .i64 a0, .row 900100, .i .i64 r.1, .i .i64 a2, .i .i64 r.2.1, .i .i64 r.2.2.1, .row 900200, .i .i64 a5, .b a6]), (900100, .row 5 r.2.2.2), (900200, .row 5 a8)] := by
  refine fnb_rules tok (fun r => match r with | 0 => [[],[0],[0,1],[0,1,2],[],[4],[4,5],[4,5,6],[4,5,6,7],[],[9],[9,10],[9,10,11],[9,10,11,12],[0,1,2,3,4,5,6,7,8,9,10,11,12,13],[0,1,2,3,4,5,6,7,8,9,10,11,12,13,14],[0,1,2,3,4,5,6,7,8,9,10,11,12,13,14,15],[0,1,2,3,4,5,6,7,8,9,10,11,12,13,14,15,16]] | 1 => [[],[0],[0,1],[0,1,2],[],[4],[4,5],[4,5,6],[],[8],[8,9],[8,9,10],[],[8,9,10,11,12],[0,1,2,3,4,5,6,7,8,9,10,11,12,13],[0,1,2,3,4,5,6,7,8,9,10,11,12,13,14]] | 4 => [[],[0],[0,1],[0,1,2],[],[4],[4,5],[4,5,6],[0,1,2,3,4,5,6,7]] | _ => []) [900000,900100,900200] [] [(900000, .cells 26 [.i .i64 a0, .row 900100, .i .i64 r.1, .i .i64 a2, .i .i64 r.2.1, .i .i64 r.2.2.1, .row 900200, .i .i64 a5, .b a6]), (900100, .row 5 r.2.2.2), (900200, .row 5 a8)] [] Try.func69 (by kernel_rfl) w69v1_h (by kernel_rfl) (by rfl) ?_
  intro ar un cv mn mx pl mi cmp nt beq an scmp cat slen sbyte ssub ofB toB len gi gb gs gl sub put app ovl rep ne0 ge0 inb bnd room sroom need br call callb loop cut nl E R K hK
  have D := E.D
  clear E
  unfold d69v1 at h
  cbv
  refine R.needD h (by (first | rfl | (simp only [D.har, D.hbnd, D.hcmp, D.hlen, D.hmi, D.hovl, D.hpl, D.hrep, D.hsub]; done) | (simp only [D.har, D.hbnd, D.hcmp, D.hlen, D.hmi, D.hovl, D.hpl, D.hrep, D.hsub]; rfl))) ?_
  clear h; intro h; cbv
  refine R.callD h (fun x3 hx3 h2 => ?_)
  clear h; have h := h2; clear h2
  refine R.call' (w78 _ _ hx3) (by (first | rfl | (simp only [D.har, D.hbnd, D.hcmp, D.hlen, D.hmi, D.hovl, D.hpl, D.hrep, D.hsub]; done) | (simp only [D.har, D.hbnd, D.hcmp, D.hlen, D.hmi, D.hovl, D.hpl, D.hrep, D.hsub]; rfl))) ?_
  clear hx3; cbv
  refine R.needD h (by (first | rfl | (simp only [D.har, D.hbnd, D.hcmp, D.hlen, D.hmi, D.hovl, D.hpl, D.hrep, D.hsub]; done) | (simp only [D.har, D.hbnd, D.hcmp, D.hlen, D.hmi, D.hovl, D.hpl, D.hrep, D.hsub]; rfl))) ?_
  clear h; intro h; cbv
  refine R.callBD h (fun x4 hx4 h2 => ?_)
  clear h; have h := h2; clear h2
  obtain ⟨bx4_2, ex4_2, bx4_8, ex4_8, hbx4⟩ : ∃ bx4_2, bx4_2 = (arReal .add .i64 a1 (arReal .add .i64 14 x3)) ∧ ∃ bx4_8, bx4_8 = (ovlReal a7 a1 (repL (miI (arReal .add .i64 a1 (arReal .add .i64 14 x3)) a1) (.i .u8 0))) ∧ d67v1 1 a0 bx4_2 a2 a3 a4 a5 a6 bx4_8 a8 = some x4 := ⟨_, rfl, _, rfl, hx4⟩
  clear hx4; have hx4 := hbx4; clear hbx4
  refine R.callB [(900000, 900000), (900100, 900100), (900200, 900200)] (w67v1 1 a0 bx4_2 a2 a3 a4 a5 a6 bx4_8 a8 _ hx4) ?_ ?_ rfl ?_
  · cbv <;> (try simp only [D.har, D.hbnd, D.hcmp, D.hlen, D.hmi, D.hovl, D.hpl, D.hrep, D.hsub, ex4_2, ex4_8, and_self, and_true, true_and] <;> (repeat' apply And.intro) <;> rfl)
  · cbv <;> (try simp only [D.har, D.hbnd, D.hcmp, D.hlen, D.hmi, D.hovl, D.hpl, D.hrep, D.hsub, ex4_2, ex4_8, and_self, and_true, true_and] <;> (repeat' apply And.intro) <;> rfl)
  clear hx4; cbv
  refine R.brD h (by (first | rfl | (simp only [D.har, D.hbnd, D.hcmp, D.hlen, D.hmi, D.hovl, D.hpl, D.hrep, D.hsub, ex4_2, ex4_8]; done) | (simp only [D.har, D.hbnd, D.hcmp, D.hlen, D.hmi, D.hovl, D.hpl, D.hrep, D.hsub, ex4_2, ex4_8]; rfl))) ?_ ?_ <;> clear h <;> intro h <;> cbv
  · have e := ret_some h; clear h
    refine hK _ _ ⟨rfl, ?_, ?_, rfl, rfl⟩ <;> cbv <;> (try (subst e; simp only [D.har, D.hbnd, D.hcmp, D.hlen, D.hmi, D.hovl, D.hpl, D.hrep, D.hsub, ex4_2, ex4_8, and_self, and_true, true_and] <;> (repeat' apply And.intro) <;> rfl))
  · have e := ret_some h; clear h
    refine hK _ _ ⟨rfl, ?_, ?_, rfl, rfl⟩ <;> cbv <;> (try (subst e; simp only [D.har, D.hbnd, D.hcmp, D.hlen, D.hmi, D.hovl, D.hpl, D.hrep, D.hsub, ex4_2, ex4_8, and_self, and_true, true_and] <;> (repeat' apply And.intro) <;> rfl))
end Go.Proofs.Ytdejapkfijdadaa
end
section
namespace Go.Proofs.Ytdejapkfijdadaa
open Go.Ab Go.RowKit 
set_option maxRecDepth 100000
set_option maxHeartbeats 40000000
noncomputable def d47v1_b1 (a0 : Int) (a5 : Int) (a6 : Bool) (a7 : List V) (a8 : List V) (a9 : List V) (s45 : Int × Int × Int × Int × List V) : Option ((Int × Int × Int × Int × List V) ⊕ (Bool × Int × Int × Int × Int × List V)) :=
  Option.bind (α := Bool) (
    Option.bind (α := Bool) (
      if (cmpLit .eql s45.2.2.1 0) = true then
        some (cmpLit .leq (arReal .add .i64 s45.2.1 (lenI a7)) (lenI a8))
      else
        some false) fun y56 =>
    if y56 = true then
      some true
    else
      if (cmpLit .neq s45.2.2.1 0) = true then
        some (cmpLit .leq (arReal .add .i64 s45.2.1 (lenI a7)) s45.1)
      else
        some false) fun y55 =>
  if y55 = true then
    (d68v1 a0 s45.1 s45.2.1 s45.2.2.1 s45.2.2.2.1 a5 a6 a7 s45.2.2.2.2 a9).bind fun x59 =>
    some (.inr (true, s45.1, x59.1, s45.2.2.1, s45.2.2.2.1, x59.2))
  else
    if (cmpLit .eql s45.2.2.1 0) = true then
      some (.inl (s45.1, 0, s45.2.1, s45.2.2.2.1, s45.2.2.2.2))
    else
      (d69v1 a0 s45.1 s45.2.1 s45.2.2.1 s45.2.2.2.1 a5 a6 s45.2.2.2.2 a9).bind fun x60 =>
      some (.inl (x60.1, s45.2.1, x60.2.1, x60.2.2.1, x60.2.2.2))
noncomputable def d47v1 (a0 : Int) (a1 : Int) (a2 : Int) (a3 : Int) (a4 : Int) (a5 : Int) (a6 : Bool) (a7 : List V) (a8 : List V) (a9 : List V) : Option (Bool × Int × Int × Int × Int × List V) :=
  if (cmpLit .gtr (lenI a7) (lenI a8)) = true then
    (d50v1 a0 a1 a2 a3 a4 a5 a6 a8 a9).bind fun x30 =>
    (d56v1 a0 a1 a2 a3 a4 a5 a6 a8 a9).bind fun x31 =>
    (d67v1 (arReal .add .i64 (arReal .add .i64 a4 (lenI x30)) 1) a0 0 0 0 0 a5 a6 x31 a9).bind fun x32 =>
    some (false, 0, 0, 0, x32, x31)
  else
    (iter (d47v1_b1 a0 a5 a6 a7 a8 a9) (a1, a2, a3, a4, a8)).bind fun y52 =>
    some y52
noncomputable def w47v1_c : Code := (Try.f47.body).getD .skip
theorem w47v1_h : Try.f47.body = some w47v1_c := by kernel_rfl
theorem w47v1 (a0 : Int) (a1 : Int) (a2 : Int) (a3 : Int) (a4 : Int) (a5 : Int) (a6 : Bool) (a7 : List V) (a8 : List V) (a9 : List V) (r : Bool × Int × Int × Int × Int × List V) (h : d47v1 a0 a1 a2 a3 a4 a5 a6 a7 a8 a9 = some r) : Ab.FnB Try.prog TT 47 [.ptr 900000 0, .row 900100] [(900000, .cells 26 [.i .i64 a0, .row 900200, .i .i64 a1, .i .i64 a2, .i .i64 a3, .i .i64 a4, .row 900300, .i .i64 a5, .b a6]), (900100, .row 5 a7), (900200, .row 5 a8), (900300, .row 5 a9)] [900000,900100,900200,900300] (.b r.1) [(900000, .cells 26 [.i .i64 a0, .row 900200, .i .i64 r.2.1, .i .i64 r.2.2.1, .i .i64 r.2.2.2.1, .i .i64 r.2.2.2.2.1, .row 900300, .i .i64 a5, .b a6]), (900100, .row 5 a7), (900200, .row 5 r.2.2.2.2.2), (900300, .row 5 a9)] := by
  refine fnb_rules tok (fun r => match r with | 3 => [[],[0],[0,1],[0,1,2],[],[4],[4,5],[4,5,6],[4,5,6,7],[0,1,2,3,4,5,6,7,8],[0,1,2,3,4,5,6,7,8,9],[0,1,2,3,4,5,6,7,8,9,10]] | 9 => [[],[0],[0,1],[0,1,2],[0,1,2,3],[0,1,2,3,4],[0,1,2,3,4,5],[0,1,2,3,4,5,6],[0,1,2,3,4,5,6,7],[0,1,2,3,4,5,6,7,8],[0,1,2,3,4,5],[0,1,2,3,4,5,10],[0,1,2,3,4,5,6,7,8,9,10,11],[0,1,2,3,4,5],[0,1,2,3,4,5,13],[0,1,2,3,4,5,13,14],[0,1,2,3,4,5,13,14,15],[0,1,2,3,4,5,6,7,8,9,10,11,12,13,14,15,16],[0,1,2,3,4,5,6,7,8,9,10,11,12,13,14,15,16,17],[0,1,2,3,4,5,6,7,8,9,10,11,12,13,14,15,16,17,18]] | _ => []) [900000,900100,900200,900300] [.b r.1] [(900000, .cells 26 [.i .i64 a0, .row 900200, .i .i64 r.2.1, .i .i64 r.2.2.1, .i .i64 r.2.2.2.1, .i .i64 r.2.2.2.2.1, .row 900300, .i .i64 a5, .b a6]), (900100, .row 5 a7), (900200, .row 5 r.2.2.2.2.2), (900300, .row 5 a9)] [] Try.func47 (by kernel_rfl) w47v1_h (by kernel_rfl) (by rfl) ?_
  intro ar un cv mn mx pl mi cmp nt beq an scmp cat slen sbyte ssub ofB toB len gi gb gs gl sub put app ovl rep ne0 ge0 inb bnd room sroom need br call callb loop cut nl E R K hK
  have D := E.D
  clear E
  unfold d47v1 at h
  cbv
  refine R.cut' (by kernel_rfl) (by kernel_rfl) ?_
  cbv
  refine R.brD h (by (first | rfl | (simp only [D.har, D.hcmp, D.hlen]; done) | (simp only [D.har, D.hcmp, D.hlen]; rfl))) ?_ ?_ <;> clear h <;> intro h <;> cbv
  · refine R.callBD h (fun x30 hx30 h2 => ?_)
    clear h; have h := h2; clear h2
    refine R.callB [(0, 368), (900000, 900200), (900100, 900300)] (w50v1 a0 a1 a2 a3 a4 a5 a6 a8 a9 _ hx30) ?_ ?_ rfl ?_
    · cbv <;> (try simp only [D.har, D.hcmp, D.hlen, and_self, and_true, true_and] <;> (repeat' apply And.intro) <;> rfl)
    · cbv <;> (try simp only [D.har, D.hcmp, D.hlen, and_self, and_true, true_and] <;> (repeat' apply And.intro) <;> rfl)
    clear hx30; cbv
    refine R.callBD h (fun x31 hx31 h2 => ?_)
    clear h; have h := h2; clear h2
    refine R.callB [(900000, 900000), (900100, 900200), (900200, 900300)] (w56v1 a0 a1 a2 a3 a4 a5 a6 a8 a9 _ hx31) ?_ ?_ rfl ?_
    · cbv <;> (try simp only [D.har, D.hcmp, D.hlen, and_self, and_true, true_and] <;> (repeat' apply And.intro) <;> rfl)
    · cbv <;> (try simp only [D.har, D.hcmp, D.hlen, and_self, and_true, true_and] <;> (repeat' apply And.intro) <;> rfl)
    clear hx31; cbv
    refine R.callBD h (fun x32 hx32 h2 => ?_)
    clear h; have h := h2; clear h2
    obtain ⟨bx32_0, ex32_0, hbx32⟩ : ∃ bx32_0, bx32_0 = (arReal .add .i64 (arReal .add .i64 a4 (lenI x30)) 1) ∧ d67v1 bx32_0 a0 0 0 0 0 a5 a6 x31 a9 = some x32 := ⟨_, rfl, hx32⟩
    clear hx32; have hx32 := hbx32; clear hbx32
    refine R.callB [(900000, 900000), (900100, 900200), (900200, 900300)] (w67v1 bx32_0 a0 0 0 0 0 a5 a6 x31 a9 _ hx32) ?_ ?_ rfl ?_
    · cbv <;> (try simp only [D.har, D.hcmp, D.hlen, ex32_0, and_self, and_true, true_and] <;> (repeat' apply And.intro) <;> rfl)
    · cbv <;> (try simp only [D.har, D.hcmp, D.hlen, ex32_0, and_self, and_true, true_and] <;> (repeat' apply And.intro) <;> rfl)
    clear hx32; cbv
    have e := ret_some h; clear h
    refine hK _ _ ⟨rfl, ?_, ?_, rfl, rfl⟩ <;> cbv <;> (try (subst e; simp only [D.har, D.hcmp, D.hlen, ex32_0, and_self, and_true, true_and] <;> (repeat' apply And.intro) <;> rfl))
  · as_aux_lemma =>
    refine R.loopD h (fun s0 y52 e0 hi hFs45 => ?_)
    clear h
    refine R.loopI hi [] (fun s45 => []) (fun s45 => [(900000, .cells 26 [.i .i64 a0, .row 900200, .i .i64 s45.1, .i .i64 s45.2.1, .i .i64 s45.2.2.1, .i .i64 s45.2.2.2.1, .row 900300, .i .i64 a5, .b a6]), (900200, .row 5 s45.2.2.2.2)]) ⟨rfl, ?_, ?_, rfl, rfl⟩ (by kernel_rfl) ?_
    · cbv; try (subst e0; simp only [D.har, D.hcmp, D.hlen, and_self, and_true, true_and] <;> (repeat' apply And.intro) <;> rfl)
    · cbv; try (subst e0; simp only [D.har, D.hcmp, D.hlen, and_self, and_true, true_and] <;> (repeat' apply And.intro) <;> rfl)
    clear hi e0
    intro s45 m y' hy hins45 houts45 L hLs45
    have h := hy; clear hy; unfold d47v1_b1 at h
    cbv
    refine R.cutB (fun p => p) (fun _ _ e => e) h [] (fun p58 => [(34, .b p58)]) (fun p58 => []) (by kernel_rfl) (by kernel_rfl) (fun y55 hy hFy55 L hLy55 => ?_) (fun p58 h2 => ?_)
    · clear h; have h := hy; clear hy; cbv
      refine R.cutB (fun p => p) (fun _ _ e => e) h [] (fun p57 => [(34, .b p57)]) (fun p57 => []) (by kernel_rfl) (by kernel_rfl) (fun y56 hy hFy56 L hLy56 => ?_) (fun p57 h2 => ?_)
      · clear h; have h := hy; clear hy; cbv
        refine R.brD h (by (first | rfl | (simp only [D.har, D.hcmp, D.hlen]; done) | (simp only [D.har, D.hcmp, D.hlen]; rfl))) ?_ ?_ <;> clear h <;> intro h <;> cbv
        · obtain ⟨s', e, hi⟩ := jn_some (fun p => p) h
          refine hLy56 s' _ _ hi ⟨rfl, ?_, ?_, rfl, rfl⟩ <;> cbv <;> (try (subst e; simp only [D.har, D.hcmp, D.hlen, and_self, and_true, true_and] <;> (repeat' apply And.intro) <;> rfl))
        · obtain ⟨s', e, hi⟩ := jn_some (fun p => p) h
          refine hLy56 s' _ _ hi ⟨rfl, ?_, ?_, rfl, rfl⟩ <;> cbv <;> (try (subst e; simp only [D.har, D.hcmp, D.hlen, and_self, and_true, true_and] <;> (repeat' apply And.intro) <;> rfl))
      · clear h; have h := h2; clear h2; try dsimp only at h
        cbv
        refine R.brD h (by (first | rfl | (simp only [D.har, D.hcmp, D.hlen]; done) | (simp only [D.har, D.hcmp, D.hlen]; rfl))) ?_ ?_ <;> clear h <;> intro h <;> cbv
        · obtain ⟨s', e, hi⟩ := jn_some (fun p => p) h
          refine hLy55 s' _ _ hi ⟨rfl, ?_, ?_, rfl, rfl⟩ <;> cbv <;> (try (subst e; simp only [D.har, D.hcmp, D.hlen, and_self, and_true, true_and] <;> (repeat' apply And.intro) <;> rfl))
        · refine R.brD h (by (first | rfl | (simp only [D.har, D.hcmp, D.hlen]; done) | (simp only [D.har, D.hcmp, D.hlen]; rfl))) ?_ ?_ <;> clear h <;> intro h <;> cbv
          · obtain ⟨s', e, hi⟩ := jn_some (fun p => p) h
            refine hLy55 s' _ _ hi ⟨rfl, ?_, ?_, rfl, rfl⟩ <;> cbv <;> (try (subst e; simp only [D.har, D.hcmp, D.hlen, and_self, and_true, true_and] <;> (repeat' apply And.intro) <;> rfl))
          · obtain ⟨s', e, hi⟩ := jn_some (fun p => p) h
            refine hLy55 s' _ _ hi ⟨rfl, ?_, ?_, rfl, rfl⟩ <;> cbv <;> (try (subst e; simp only [D.har, D.hcmp, D.hlen, and_self, and_true, true_and] <;> (repeat' apply And.intro) <;> rfl))
    · clear h; have h := h2; clear h2; try dsimp only at h
      cbv
      refine R.brD h (by (first | rfl | (simp only [D.har, D.hcmp, D.hlen]; done) | (simp only [D.har, D.hcmp, D.hlen]; rfl))) ?_ ?_ <;> clear h <;> intro h <;> cbv
      · refine R.callBD h (fun x59 hx59 h2 => ?_)
        clear h; have h := h2; clear h2
        refine R.callB [(900000, 900000), (900100, 900100), (900200, 900200), (900300, 900300)] (w68v1 a0 s45.1 s45.2.1 s45.2.2.1 s45.2.2.2.1 a5 a6 a7 s45.2.2.2.2 a9 _ hx59) ?_ ?_ rfl ?_
        · cbv <;> (try simp only [D.har, D.hcmp, D.hlen, and_self, and_true, true_and] <;> (repeat' apply And.intro) <;> rfl)
        · cbv <;> (try simp only [D.har, D.hcmp, D.hlen, and_self, and_true, true_and] <;> (repeat' apply And.intro) <;> rfl)
        clear hx59; cbv
        have e := inr_some h houts45; clear h
        have h := hFs45; rw [e] at h; clear e; try dsimp only at h
        cbv
        have e := ret_some h; clear h
        refine hK _ _ ⟨rfl, ?_, ?_, rfl, rfl⟩ <;> cbv <;> (try (subst e; simp only [D.har, D.hcmp, D.hlen, and_self, and_true, true_and] <;> (repeat' apply And.intro) <;> rfl))
      · refine R.brD h (by (first | rfl | (simp only [D.har, D.hcmp, D.hlen]; done) | (simp only [D.har, D.hcmp, D.hlen]; rfl))) ?_ ?_ <;> clear h <;> intro h <;> cbv
        · obtain ⟨s', e, hi⟩ := inl_some h hins45
          refine hLs45 s' _ _ hi ⟨rfl, ?_, ?_, rfl, rfl⟩ <;> cbv <;> (try (subst e; simp only [D.har, D.hcmp, D.hlen, and_self, and_true, true_and] <;> (repeat' apply And.intro) <;> rfl))
        · refine R.callBD h (fun x60 hx60 h2 => ?_)
          clear h; have h := h2; clear h2
          refine R.callB [(900000, 900000), (900100, 900200), (900200, 900300)] (w69v1 a0 s45.1 s45.2.1 s45.2.2.1 s45.2.2.2.1 a5 a6 s45.2.2.2.2 a9 _ hx60) ?_ ?_ rfl ?_
          · cbv <;> (try simp only [D.har, D.hcmp, D.hlen, and_self, and_true, true_and] <;> (repeat' apply And.intro) <;> rfl)
          · cbv <;> (try simp only [D.har, D.hcmp, D.hlen, and_self, and_true, true_and] <;> (repeat' apply And.intro) <;> rfl)
          clear hx60; cbv
          obtain ⟨s', e, hi⟩ := inl_some h hins45
          refine hLs45 s' _ _ hi ⟨rfl, ?_, ?_, rfl, rfl⟩ <;> cbv <;> (try (subst e; simp only [D.har, D.hcmp, D.hlen, and_self, and_true, true_and] <;> (repeat' apply And.intro) <;> rfl))

noncomputable def d16 (a0_0 : Int) (a0_1 : List V) (a0_2 : Int) (a0_3 : Int) (a0_4 : Int) (a0_5 : Int) (a0_6 : List V) (a0_7 : Int) (a0_8 : Bool) (a1_0 : Int) (a1_1 : Int) (a1_2 : List V) : Option (Int × List V × Int × Int × Int × Int × List V × Int × Bool × Bool × Int) :=
  (d29 a0_0 a0_1 a0_2 a0_3 a0_4 a0_5 a0_6 a0_7 a0_8).bind fun x2 =>
  if (cmpLit .neq x2 0) = true then
    some (0, [], 0, 0, 0, 0, [], 0, false, false, x2)
  else
    (d45 a1_0 a1_1 a1_2).bind fun x4 =>
    if (notB' x4) = true then
      some (0, [], 0, 0, 0, 0, [], 0, false, false, 221)
    else
      (d48 a0_0 a0_1 a0_2 a0_3 a0_4 a0_5 a0_6 a0_7 a0_8).bind fun x5 =>
      if (cmpLit .eql a0_0 1) = true then
        (d49 a1_0 a1_1 a1_2).bind fun x6 =>
        (d46v1 x5.1 x5.2.2.1 x5.2.2.2.1 x5.2.2.2.2.1 x5.2.2.2.2.2.1 x5.2.2.2.2.2.2.2.1 x5.2.2.2.2.2.2.2.2 x6 x5.2.1 x5.2.2.2.2.2.2.1).bind fun x7 =>
        some (x5.1, x7.2.2.2, x5.2.2.1, x7.2.1, x5.2.2.2.2.1, x7.2.2.1, x5.2.2.2.2.2.2.1, x5.2.2.2.2.2.2.2.1, x5.2.2.2.2.2.2.2.2, x7.1, 0)
      else
        if (cmpLit .eql a0_0 2) = true then
          (d49 a1_0 a1_1 a1_2).bind fun x8 =>
          (d46v1 x5.1 x5.2.2.1 x5.2.2.2.1 x5.2.2.2.2.1 x5.2.2.2.2.2.1 x5.2.2.2.2.2.2.2.1 x5.2.2.2.2.2.2.2.2 x8 x5.2.1 x5.2.2.2.2.2.2.1).bind fun x9 =>
          some (x5.1, x9.2.2.2, x5.2.2.1, x9.2.1, x5.2.2.2.2.1, x9.2.2.1, x5.2.2.2.2.2.2.1, x5.2.2.2.2.2.2.2.1, x5.2.2.2.2.2.2.2.2, x9.1, 0)
        else
          if (cmpLit .eql a0_0 3) = true then
            (d49 a1_0 a1_1 a1_2).bind fun x10 =>
            (d47v1 x5.1 x5.2.2.1 x5.2.2.2.1 x5.2.2.2.2.1 x5.2.2.2.2.2.1 x5.2.2.2.2.2.2.2.1 x5.2.2.2.2.2.2.2.2 x10 x5.2.1 x5.2.2.2.2.2.2.1).bind fun x11 =>
            some (x5.1, x11.2.2.2.2.2, x11.2.1, x11.2.2.1, x11.2.2.2.1, x11.2.2.2.2.1, x5.2.2.2.2.2.2.1, x5.2.2.2.2.2.2.2.1, x5.2.2.2.2.2.2.2.2, x11.1, 0)
          else
            (d49 a1_0 a1_1 a1_2).bind fun x12 =>
            none
noncomputable def w16_c : Code := (Try.f16.body).getD .skip
theorem w16_h : Try.f16.body = some w16_c := by kernel_rfl
theorem w16 (a0_0 : Int) (a0_1 : List V) (a0_2 : Int) (a0_3 : Int) (a0_4 : Int) (a0_5 : Int) (a0_6 : List V) (a0_7 : Int) (a0_8 : Bool) (a1_0 : Int) (a1_1 : Int) (a1_2 : List V) (r : Int × List V × Int × Int × Int × Int × List V × Int × Bool × Bool × Int) (h : d16 a0_0 a0_1 a0_2 a0_3 a0_4 a0_5 a0_6 a0_7 a0_8 a1_0 a1_1 a1_2 = some r) : Ab.Fn Try.prog TT 16 [.agg [.i .i64 a0_0, .sl 5 a0_1, .i .i64 a0_2, .i .i64 a0_3, .i .i64 a0_4, .i .i64 a0_5, .sl 5 a0_6, .i .i64 a0_7, .b a0_8], .agg [.i .i64 a1_0, .i .i64 a1_1, .sl 5 a1_2]] (.tup [.agg [.i .i64 r.1, .row 0, .i .i64 r.2.2.1, .i .i64 r.2.2.2.1, .i .i64 r.2.2.2.2.1, .i .i64 r.2.2.2.2.2.1, .row 1, .i .i64 r.2.2.2.2.2.2.2.1, .b r.2.2.2.2.2.2.2.2.1], .b r.2.2.2.2.2.2.2.2.2.1, .i .i64 r.2.2.2.2.2.2.2.2.2.2]) [(0, .row 5 r.2.1), (1, .row 5 r.2.2.2.2.2.2.1)] := by
  refine fn_own tok (fun r => match r with | 8 => [[],[],[1],[0,1,2],[],[4],[0,1,2,3,4,5],[0,1,2,3,4,5,6]] | _ => []) Try.func16 (by kernel_rfl) w16_h (by kernel_rfl) ?_
  intro ar un cv mn mx pl mi cmp nt beq an scmp cat slen sbyte ssub ofB toB len gi gb gs gl sub put app ovl rep ne0 ge0 inb bnd room sroom need br call callb loop cut nl E R K hK
  have D := E.D
  clear E
  unfold d16 at h
  cbv
  refine R.cut' (by kernel_rfl) (by kernel_rfl) ?_
  cbv
  refine R.callD h (fun x2 hx2 h2 => ?_)
  clear h; have h := h2; clear h2
  refine R.call' (w29 _ _ _ _ _ _ _ _ _ _ hx2) (by (first | rfl | (simp only [D.hcmp, D.hnt]; done) | (simp only [D.hcmp, D.hnt]; rfl))) ?_
  clear hx2; cbv
  refine R.brD h (by (first | rfl | (simp only [D.hcmp, D.hnt]; done) | (simp only [D.hcmp, D.hnt]; rfl))) ?_ ?_ <;> clear h <;> intro h <;> cbv
  · have e := ret_some h; clear h
    refine hK _ _ ⟨rfl, ⟨?_, rfl, rfl, rfl, ?_⟩⟩ <;> cbv <;> (try (subst e; simp only [D.hcmp, D.hnt, and_self, and_true, true_and] <;> (repeat' apply And.intro) <;> rfl))
  · as_aux_lemma =>
    refine R.cut' (by kernel_rfl) (by kernel_rfl) ?_
    cbv
    refine R.callD h (fun x4 hx4 h2 => ?_)
    clear h; have h := h2; clear h2
    refine R.call' (w45 _ _ _ _ hx4) (by (first | rfl | (simp only [D.hcmp, D.hnt]; done) | (simp only [D.hcmp, D.hnt]; rfl))) ?_
    clear hx4; cbv
    refine R.brD h (by (first | rfl | (simp only [D.hcmp, D.hnt]; done) | (simp only [D.hcmp, D.hnt]; rfl))) ?_ ?_ <;> clear h <;> intro h <;> cbv
    · have e := ret_some h; clear h
      refine hK _ _ ⟨rfl, ⟨?_, rfl, rfl, rfl, ?_⟩⟩ <;> cbv <;> (try (subst e; simp only [D.hcmp, D.hnt, and_self, and_true, true_and] <;> (repeat' apply And.intro) <;> rfl))
    · refine R.callD h (fun x5 hx5 h2 => ?_)
      clear h; have h := h2; clear h2
      refine R.call' (w48 _ _ _ _ _ _ _ _ _ _ hx5) (by (first | rfl | (simp only [D.hcmp, D.hnt]; done) | (simp only [D.hcmp, D.hnt]; rfl))) ?_
      clear hx5; cbv
      refine R.brD h (by (first | rfl | (simp only [D.hcmp, D.hnt]; done) | (simp only [D.hcmp, D.hnt]; rfl))) ?_ ?_ <;> clear h <;> intro h <;> cbv
      · refine R.callD h (fun x6 hx6 h2 => ?_)
        clear h; have h := h2; clear h2
        refine R.call' (w49 _ _ _ _ hx6) (by (first | rfl | (simp only [D.hcmp, D.hnt]; done) | (simp only [D.hcmp, D.hnt]; rfl))) ?_
        clear hx6; cbv
        refine R.callBD h (fun x7 hx7 h2 => ?_)
        clear h; have h := h2; clear h2
        refine R.callB [(900000, 144), (900100, 480), (900200, 384), (900300, 385)] (w46v1 x5.1 x5.2.2.1 x5.2.2.2.1 x5.2.2.2.2.1 x5.2.2.2.2.2.1 x5.2.2.2.2.2.2.2.1 x5.2.2.2.2.2.2.2.2 x6 x5.2.1 x5.2.2.2.2.2.2.1 _ hx7) ?_ ?_ rfl ?_
        · cbv <;> (try simp only [D.hcmp, D.hnt, and_self, and_true, true_and] <;> (repeat' apply And.intro) <;> rfl)
        · cbv <;> (try simp only [D.hcmp, D.hnt, and_self, and_true, true_and] <;> (repeat' apply And.intro) <;> rfl)
        clear hx7; cbv
        have e := ret_some h; clear h
        refine hK _ _ ⟨rfl, ⟨?_, rfl, rfl, rfl, ?_⟩⟩ <;> cbv <;> (try (subst e; simp only [D.hcmp, D.hnt, and_self, and_true, true_and] <;> (repeat' apply And.intro) <;> rfl))
      · refine R.brD h (by (first | rfl | (simp only [D.hcmp, D.hnt]; done) | (simp only [D.hcmp, D.hnt]; rfl))) ?_ ?_ <;> clear h <;> intro h <;> cbv
        · refine R.callD h (fun x8 hx8 h2 => ?_)
          clear h; have h := h2; clear h2
          refine R.call' (w49 _ _ _ _ hx8) (by (first | rfl | (simp only [D.hcmp, D.hnt]; done) | (simp only [D.hcmp, D.hnt]; rfl))) ?_
          clear hx8; cbv
          refine R.callBD h (fun x9 hx9 h2 => ?_)
          clear h; have h := h2; clear h2
          refine R.callB [(900000, 144), (900100, 480), (900200, 384), (900300, 385)] (w46v1 x5.1 x5.2.2.1 x5.2.2.2.1 x5.2.2.2.2.1 x5.2.2.2.2.2.1 x5.2.2.2.2.2.2.2.1 x5.2.2.2.2.2.2.2.2 x8 x5.2.1 x5.2.2.2.2.2.2.1 _ hx9) ?_ ?_ rfl ?_
          · cbv <;> (try simp only [D.hcmp, D.hnt, and_self, and_true, true_and] <;> (repeat' apply And.intro) <;> rfl)
          · cbv <;> (try simp only [D.hcmp, D.hnt, and_self, and_true, true_and] <;> (repeat' apply And.intro) <;> rfl)
          clear hx9; cbv
          have e := ret_some h; clear h
          refine hK _ _ ⟨rfl, ⟨?_, rfl, rfl, rfl, ?_⟩⟩ <;> cbv <;> (try (subst e; simp only [D.hcmp, D.hnt, and_self, and_true, true_and] <;> (repeat' apply And.intro) <;> rfl))
        · refine R.brD h (by (first | rfl | (simp only [D.hcmp, D.hnt]; done) | (simp only [D.hcmp, D.hnt]; rfl))) ?_ ?_ <;> clear h <;> intro h <;> cbv
          · refine R.callD h (fun x10 hx10 h2 => ?_)
            clear h; have h := h2; clear h2
            refine R.call' (w49 _ _ _ _ hx10) (by (first | rfl | (simp only [D.hcmp, D.hnt]; done) | (simp only [D.hcmp, D.hnt]; rfl))) ?_
            clear hx10; cbv
            refine R.callBD h (fun x11 hx11 h2 => ?_)
            clear h; have h := h2; clear h2
            refine R.callB [(900000, 144), (900100, 480), (900200, 384), (900300, 385)] (w47v1 x5.1 x5.2.2.1 x5.2.2.2.1 x5.2.2.2.2.1 x5.2.2.2.2.2.1 x5.2.2.2.2.2.2.2.1 x5.2.2.2.2.2.2.2.2 x10 x5.2.1 x5.2.2.2.2.2.2.1 _ hx11) ?_ ?_ rfl ?_
            · cbv <;> (try simp only [D.hcmp, D.hnt, and_self, and_true, true_and] <;> (repeat' apply And.intro) <;> rfl)
            · cbv <;> (try simp only [D.hcmp, D.hnt, and_self, and_true, true_and] <;> (repeat' apply And.intro) <;> rfl)
            clear hx11; cbv
            have e := ret_some h; clear h
            refine hK _ _ ⟨rfl, ⟨?_, rfl, rfl, rfl, ?_⟩⟩ <;> cbv <;> (try (subst e; simp only [D.hcmp, D.hnt, and_self, and_true, true_and] <;> (repeat' apply And.intro) <;> rfl))
          · refine R.callD h (fun x12 hx12 h2 => ?_)
            clear h; have h := h2; clear h2
            refine R.call' (w49 _ _ _ _ hx12) (by (first | rfl | (simp only [D.hcmp, D.hnt]; done) | (simp only [D.hcmp, D.hnt]; rfl))) ?_
            clear hx12; cbv
            exact (none_some h).elim
theorem w16s (a0_0 : Int) (a0_1 : List V) (a0_2 : Int) (a0_3 : Int) (a0_4 : Int) (a0_5 : Int) (a0_6 : List V) (a0_7 : Int) (a0_8 : Bool) (a1_0 : Int) (a1_1 : Int) (a1_2 : List V) (r : Int × List V × Int × Int × Int × Int × List V × Int × Bool × Bool × Int) (h : d16 a0_0 a0_1 a0_2 a0_3 a0_4 a0_5 a0_6 a0_7 a0_8 a1_0 a1_1 a1_2 = some r) : Ab.Fn Try.prog TT 16 [.agg [.i .i64 a0_0, .sl 5 a0_1, .i .i64 a0_2, .i .i64 a0_3, .i .i64 a0_4, .i .i64 a0_5, .sl 5 a0_6, .i .i64 a0_7, .b a0_8], .agg [.i .i64 a1_0, .i .i64 a1_1, .sl 5 a1_2]] (.tup [.agg [.i .i64 r.1, .sl 5 r.2.1, .i .i64 r.2.2.1, .i .i64 r.2.2.2.1, .i .i64 r.2.2.2.2.1, .i .i64 r.2.2.2.2.2.1, .sl 5 r.2.2.2.2.2.2.1, .i .i64 r.2.2.2.2.2.2.2.1, .b r.2.2.2.2.2.2.2.2.1], .b r.2.2.2.2.2.2.2.2.2.1, .i .i64 r.2.2.2.2.2.2.2.2.2.2]) [] :=
  (w16 a0_0 a0_1 a0_2 a0_3 a0_4 a0_5 a0_6 a0_7 a0_8 a1_0 a1_1 a1_2 r h).pure (by simp [ple, ple1, ple1L, pleL, pleS, Ab.look])

noncomputable def d50v2 (a0 : Int) (a1 : List V) (a2 : Int) (a3 : Int) (a4 : Int) (a5 : Int) (a6 : List V) (a7 : Int) (a8 : Bool) : Option (List V) :=
  (d55v1 a0 a1 a2 a3 a4 a5 a6 a7 a8).bind fun x4 =>
  (d51 x4.1).bind fun x5 =>
  (d51 x4.2).bind fun x6 =>
  if (Room (lenI (appL x5.1 x6.1)) 40) then
    some (appL x5.1 x6.1)
  else none
noncomputable def w50v2_c : Code := (Try.f50.body).getD .skip
theorem w50v2_h : Try.f50.body = some w50v2_c := by kernel_rfl
theorem w50v2 (a0 : Int) (a1 : List V) (a2 : Int) (a3 : Int) (a4 : Int) (a5 : Int) (a6 : List V) (a7 : Int) (a8 : Bool) (r : List V) (h : d50v2 a0 a1 a2 a3 a4 a5 a6 a7 a8 = some r) : Ab.FnB Try.prog TT 50 [.agg [.i .i64 a0, .sl 5 a1, .i .i64 a2, .i .i64 a3, .i .i64 a4, .i .i64 a5, .sl 5 a6, .i .i64 a7, .b a8]] [] [] (.row 0) [(0, .row 33 r)] := by
  refine fnb_rules tok W0 [] [.row 0] [(0, .row 33 r)] [] Try.func50 (by kernel_rfl) w50v2_h (by kernel_rfl) (by rfl) ?_
  intro ar un cv mn mx pl mi cmp nt beq an scmp cat slen sbyte ssub ofB toB len gi gb gs gl sub put app ovl rep ne0 ge0 inb bnd room sroom need br call callb loop cut nl E R K hK
  have D := E.D
  clear E
  unfold d50v2 at h
  cbv
  refine R.callBD h (fun x4 hx4 h2 => ?_)
  clear h; have h := h2; clear h2
  refine R.callB [] (w55v1 a0 a1 a2 a3 a4 a5 a6 a7 a8 _ hx4) ?_ ?_ rfl ?_
  · cbv <;> (try simp only [D.happ, D.hlen, D.hroom, and_self, and_true, true_and] <;> (repeat' apply And.intro) <;> rfl)
  · cbv <;> (try simp only [D.happ, D.hlen, D.hroom, and_self, and_true, true_and] <;> (repeat' apply And.intro) <;> rfl)
  clear hx4; cbv
  refine R.callBD h (fun x5 hx5 h2 => ?_)
  clear h; have h := h2; clear h2
  refine R.callB [(0, 208)] (w51 x4.1 _ hx5) ?_ ?_ rfl ?_
  · cbv <;> (try simp only [D.happ, D.hlen, D.hroom, and_self, and_true, true_and] <;> (repeat' apply And.intro) <;> rfl)
  · cbv <;> (try simp only [D.happ, D.hlen, D.hroom, and_self, and_true, true_and] <;> (repeat' apply And.intro) <;> rfl)
  clear hx5; cbv
  refine R.callBD h (fun x6 hx6 h2 => ?_)
  clear h; have h := h2; clear h2
  refine R.callB [(0, 304)] (w51 x4.2 _ hx6) ?_ ?_ rfl ?_
  · cbv <;> (try simp only [D.happ, D.hlen, D.hroom, and_self, and_true, true_and] <;> (repeat' apply And.intro) <;> rfl)
  · cbv <;> (try simp only [D.happ, D.hlen, D.hroom, and_self, and_true, true_and] <;> (repeat' apply And.intro) <;> rfl)
  clear hx6; cbv
  refine R.needD h (by (first | rfl | (simp only [D.happ, D.hlen, D.hroom]; done) | (simp only [D.happ, D.hlen, D.hroom]; rfl))) ?_
  clear h; intro h; cbv
  have e := ret_some h; clear h
  refine hK _ _ ⟨rfl, ?_, ?_, rfl, rfl⟩ <;> cbv <;> (try (subst e; simp only [D.happ, D.hlen, D.hroom, and_self, and_true, true_and] <;> (repeat' apply And.intro) <;> rfl))

noncomputable def d17 (a0_0 : Int) (a0_1 : List V) (a0_2 : Int) (a0_3 : Int) (a0_4 : Int) (a0_5 : Int) (a0_6 : List V) (a0_7 : Int) (a0_8 : Bool) : Option (List V × Int) :=
  (d29 a0_0 a0_1 a0_2 a0_3 a0_4 a0_5 a0_6 a0_7 a0_8).bind fun x2 =>
  if (cmpLit .neq x2 0) = true then
    some ([], x2)
  else
    (d50v2 a0_0 a0_1 a0_2 a0_3 a0_4 a0_5 a0_6 a0_7 a0_8).bind fun x3 =>
    some (x3, 0)
noncomputable def w17_c : Code := (Try.f17.body).getD .skip
theorem w17_h : Try.f17.body = some w17_c := by kernel_rfl
theorem w17 (a0_0 : Int) (a0_1 : List V) (a0_2 : Int) (a0_3 : Int) (a0_4 : Int) (a0_5 : Int) (a0_6 : List V) (a0_7 : Int) (a0_8 : Bool) (r : List V × Int) (h : d17 a0_0 a0_1 a0_2 a0_3 a0_4 a0_5 a0_6 a0_7 a0_8 = some r) : Ab.Fn Try.prog TT 17 [.agg [.i .i64 a0_0, .sl 5 a0_1, .i .i64 a0_2, .i .i64 a0_3, .i .i64 a0_4, .i .i64 a0_5, .sl 5 a0_6, .i .i64 a0_7, .b a0_8]] (.tup [.row 0, .i .i64 r.2]) [(0, .row 33 r.1)] := by
  refine fn_own tok W0 Try.func17 (by kernel_rfl) w17_h (by kernel_rfl) ?_
  intro ar un cv mn mx pl mi cmp nt beq an scmp cat slen sbyte ssub ofB toB len gi gb gs gl sub put app ovl rep ne0 ge0 inb bnd room sroom need br call callb loop cut nl E R K hK
  have D := E.D
  clear E
  unfold d17 at h
  cbv
  refine R.cut' (by kernel_rfl) (by kernel_rfl) ?_
  cbv
  refine R.callD h (fun x2 hx2 h2 => ?_)
  clear h; have h := h2; clear h2
  refine R.call' (w29 _ _ _ _ _ _ _ _ _ _ hx2) (by (first | rfl | (simp only [D.hcmp]; done) | (simp only [D.hcmp]; rfl))) ?_
  clear hx2; cbv
  refine R.brD h (by (first | rfl | (simp only [D.hcmp]; done) | (simp only [D.hcmp]; rfl))) ?_ ?_ <;> clear h <;> intro h <;> cbv
  · have e := ret_some h; clear h
    refine hK _ _ ⟨rfl, ⟨?_, rfl, rfl, rfl, ?_⟩⟩ <;> cbv <;> (try (subst e; simp only [D.hcmp, and_self, and_true, true_and] <;> (repeat' apply And.intro) <;> rfl))
  · refine R.callBD h (fun x3 hx3 h2 => ?_)
    clear h; have h := h2; clear h2
    refine R.callB [(0, 176)] (w50v2 a0_0 a0_1 a0_2 a0_3 a0_4 a0_5 a0_6 a0_7 a0_8 _ hx3) ?_ ?_ rfl ?_
    · cbv <;> (try simp only [D.hcmp, and_self, and_true, true_and] <;> (repeat' apply And.intro) <;> rfl)
    · cbv <;> (try simp only [D.hcmp, and_self, and_true, true_and] <;> (repeat' apply And.intro) <;> rfl)
    clear hx3; cbv
    have e := ret_some h; clear h
    refine hK _ _ ⟨rfl, ⟨?_, rfl, rfl, rfl, ?_⟩⟩ <;> cbv <;> (try (subst e; simp only [D.hcmp, and_self, and_true, true_and] <;> (repeat' apply And.intro) <;> rfl))
theorem w17s (a0_0 : Int) (a0_1 : List V) (a0_2 : Int) (a0_3 : Int) (a0_4 : Int) (a0_5 : Int) (a0_6 : List V) (a0_7 : Int) (a0_8 : Bool) (r : List V × Int) (h : d17 a0_0 a0_1 a0_2 a0_3 a0_4 a0_5 a0_6 a0_7 a0_8 = some r) : Ab.Fn Try.prog TT 17 [.agg [.i .i64 a0_0, .sl 5 a0_1, .i .i64 a0_2, .i .i64 a0_3, .i .i64 a0_4, .i .i64 a0_5, .sl 5 a0_6, .i .i64 a0_7, .b a0_8]] (.tup [.sl 33 r.1, .i .i64 r.2]) [] :=
  (w17 a0_0 a0_1 a0_2 a0_3 a0_4 a0_5 a0_6 a0_7 a0_8 r h).pure (by simp [ple, ple1, ple1L, pleL, pleS, Ab.look])
end Go.Proofs.Ytdejapkfijdadaa
end
section
namespace Go.Proofs.Ytdejapkfijdadaa
open Go.Ab Go.RowKit 
set_option maxRecDepth 100000
set_option maxHeartbeats 40000000
noncomputable def d25 (a0_0 : Int) (a0_1 : List V) (a0_2 : Int) (a0_3 : Int) (a0_4 : Int) (a0_5 : Int) (a0_6 : List V) (a0_7 : Int) (a0_8 : Bool) : Option (Int × List V × Int × Int × Int × Int × List V × Int × Bool × Int) :=
  (d29 a0_0 a0_1 a0_2 a0_3 a0_4 a0_5 a0_6 a0_7 a0_8).bind fun x2 =>
  if (cmpLit .neq x2 0) = true then
    some (0, [], 0, 0, 0, 0, [], 0, false, x2)
  else
    if (cmpLit .neq a0_0 2) = true then
      some (0, [], 0, 0, 0, 0, [], 0, false, 1)
    else
      if a0_8 = true then
        some (0, [], 0, 0, 0, 0, [], 0, false, 222)
      else
        (d48 a0_0 a0_1 a0_2 a0_3 a0_4 a0_5 a0_6 a0_7 a0_8).bind fun x3 =>
        (d55v1 a0_0 a0_1 a0_2 a0_3 a0_4 a0_5 a0_6 a0_7 a0_8).bind fun x4 =>
        (d54 x4.1).bind fun x5 =>
        (d56v1 x3.1 x3.2.2.1 x3.2.2.2.1 x3.2.2.2.2.1 x3.2.2.2.2.2.1 a0_5 true x3.2.1 x5).bind fun x6 =>
        some (x3.1, x6, 0, 0, 0, 0, x5, a0_5, true, 0)
noncomputable def w25_c : Code := (Try.f25.body).getD .skip
theorem w25_h : Try.f25.body = some w25_c := by kernel_rfl
theorem w25 (a0_0 : Int) (a0_1 : List V) (a0_2 : Int) (a0_3 : Int) (a0_4 : Int) (a0_5 : Int) (a0_6 : List V) (a0_7 : Int) (a0_8 : Bool) (r : Int × List V × Int × Int × Int × Int × List V × Int × Bool × Int) (h : d25 a0_0 a0_1 a0_2 a0_3 a0_4 a0_5 a0_6 a0_7 a0_8 = some r) : Ab.Fn Try.prog TT 25 [.agg [.i .i64 a0_0, .sl 5 a0_1, .i .i64 a0_2, .i .i64 a0_3, .i .i64 a0_4, .i .i64 a0_5, .sl 5 a0_6, .i .i64 a0_7, .b a0_8]] (.tup [.agg [.i .i64 r.1, .row 0, .i .i64 r.2.2.1, .i .i64 r.2.2.2.1, .i .i64 r.2.2.2.2.1, .i .i64 r.2.2.2.2.2.1, .row 1, .i .i64 r.2.2.2.2.2.2.2.1, .b r.2.2.2.2.2.2.2.2.1], .i .i64 r.2.2.2.2.2.2.2.2.2]) [(0, .row 5 r.2.1), (1, .row 5 r.2.2.2.2.2.2.1)] := by
  refine fn_own tok (fun r => match r with | 9 => [[],[0],[0,1],[0,1,2],[],[4],[0,1,2,3],[0,1,2,3,6],[0,1,2,3,4,5,6,7],[0,1,2,3,4,5,6,7,8],[0,1,2,3,4,5,6,7,8,9],[0,1,2,3,4,5,6,7,8,9,10]] | _ => []) Try.func25 (by kernel_rfl) w25_h (by kernel_rfl) ?_
  intro ar un cv mn mx pl mi cmp nt beq an scmp cat slen sbyte ssub ofB toB len gi gb gs gl sub put app ovl rep ne0 ge0 inb bnd room sroom need br call callb loop cut nl E R K hK
  have D := E.D
  clear E
  unfold d25 at h
  cbv
  refine R.cut' (by kernel_rfl) (by kernel_rfl) ?_
  cbv
  refine R.callD h (fun x2 hx2 h2 => ?_)
  clear h; have h := h2; clear h2
  refine R.call' (w29 _ _ _ _ _ _ _ _ _ _ hx2) (by (first | rfl | (simp only [D.hcmp]; done) | (simp only [D.hcmp]; rfl))) ?_
  clear hx2; cbv
  refine R.brD h (by (first | rfl | (simp only [D.hcmp]; done) | (simp only [D.hcmp]; rfl))) ?_ ?_ <;> clear h <;> intro h <;> cbv
  · have e := ret_some h; clear h
    refine hK _ _ ⟨rfl, ⟨?_, rfl, rfl, rfl, ?_⟩⟩ <;> cbv <;> (try (subst e; simp only [D.hcmp, and_self, and_true, true_and] <;> (repeat' apply And.intro) <;> rfl))
  · refine R.cut' (by kernel_rfl) (by kernel_rfl) ?_
    cbv
    refine R.brD h (by (first | rfl | (simp only [D.hcmp]; done) | (simp only [D.hcmp]; rfl))) ?_ ?_ <;> clear h <;> intro h <;> cbv
    · have e := ret_some h; clear h
      refine hK _ _ ⟨rfl, ⟨?_, rfl, rfl, rfl, ?_⟩⟩ <;> cbv <;> (try (subst e; simp only [D.hcmp, and_self, and_true, true_and] <;> (repeat' apply And.intro) <;> rfl))
    · refine R.cut' (by kernel_rfl) (by kernel_rfl) ?_
      cbv
      refine R.brD h (by (first | rfl | (simp only [D.hcmp]; done) | (simp only [D.hcmp]; rfl))) ?_ ?_ <;> clear h <;> intro h <;> cbv
      · have e := ret_some h; clear h
        refine hK _ _ ⟨rfl, ⟨?_, rfl, rfl, rfl, ?_⟩⟩ <;> cbv <;> (try (subst e; simp only [D.hcmp, and_self, and_true, true_and] <;> (repeat' apply And.intro) <;> rfl))
      · refine R.callD h (fun x3 hx3 h2 => ?_)
        clear h; have h := h2; clear h2
        refine R.call' (w48 _ _ _ _ _ _ _ _ _ _ hx3) (by (first | rfl | (simp only [D.hcmp]; done) | (simp only [D.hcmp]; rfl))) ?_
        clear hx3; cbv
        refine R.callBD h (fun x4 hx4 h2 => ?_)
        clear h; have h := h2; clear h2
        refine R.callB [] (w55v1 a0_0 a0_1 a0_2 a0_3 a0_4 a0_5 a0_6 a0_7 a0_8 _ hx4) ?_ ?_ rfl ?_
        · cbv <;> (try simp only [D.hcmp, and_self, and_true, true_and] <;> (repeat' apply And.intro) <;> rfl)
        · cbv <;> (try simp only [D.hcmp, and_self, and_true, true_and] <;> (repeat' apply And.intro) <;> rfl)
        clear hx4; cbv
        refine R.callD h (fun x5 hx5 h2 => ?_)
        clear h; have h := h2; clear h2
        refine R.call' (w54 _ _ hx5) (by (first | rfl | (simp only [D.hcmp]; done) | (simp only [D.hcmp]; rfl))) ?_
        clear hx5; cbv
        refine R.callBD h (fun x6 hx6 h2 => ?_)
        clear h; have h := h2; clear h2
        refine R.callB [(900000, 80), (900100, 320), (900200, 384)] (w56v1 x3.1 x3.2.2.1 x3.2.2.2.1 x3.2.2.2.2.1 x3.2.2.2.2.2.1 a0_5 true x3.2.1 x5 _ hx6) ?_ ?_ rfl ?_
        · cbv <;> (try simp only [D.hcmp, and_self, and_true, true_and] <;> (repeat' apply And.intro) <;> rfl)
        · cbv <;> (try simp only [D.hcmp, and_self, and_true, true_and] <;> (repeat' apply And.intro) <;> rfl)
        clear hx6; cbv
        have e := ret_some h; clear h
        refine hK _ _ ⟨rfl, ⟨?_, rfl, rfl, rfl, ?_⟩⟩ <;> cbv <;> (try (subst e; simp only [D.hcmp, and_self, and_true, true_and] <;> (repeat' apply And.intro) <;> rfl))
theorem w25s (a0_0 : Int) (a0_1 : List V) (a0_2 : Int) (a0_3 : Int) (a0_4 : Int) (a0_5 : Int) (a0_6 : List V) (a0_7 : Int) (a0_8 : Bool) (r : Int × List V × Int × Int × Int × Int × List V × Int × Bool × Int) (h : d25 a0_0 a0_1 a0_2 a0_3 a0_4 a0_5 a0_6 a0_7 a0_8 = some r) : Ab.Fn Try.prog TT 25 [.agg [.i .i64 a0_0, .sl 5 a0_1, .i .i64 a0_2, .i .i64 a0_3, .i .i64 a0_4, .i .i64 a0_5, .sl 5 a0_6, .i .i64 a0_7, .b a0_8]] (.tup [.agg [.i .i64 r.1, .sl 5 r.2.1, .i .i64 r.2.2.1, .i .i64 r.2.2.2.1, .i .i64 r.2.2.2.2.1, .i .i64 r.2.2.2.2.2.1, .sl 5 r.2.2.2.2.2.2.1, .i .i64 r.2.2.2.2.2.2.2.1, .b r.2.2.2.2.2.2.2.2.1], .i .i64 r.2.2.2.2.2.2.2.2.2]) [] :=
  (w25 a0_0 a0_1 a0_2 a0_3 a0_4 a0_5 a0_6 a0_7 a0_8 r h).pure (by simp [ple, ple1, ple1L, pleL, pleS, Ab.look])

noncomputable def d26 (a0_0 : Int) (a0_1 : List V) (a0_2 : Int) (a0_3 : Int) (a0_4 : Int) (a0_5 : Int) (a0_6 : List V) (a0_7 : Int) (a0_8 : Bool) : Option (Int × List V × Int × Int × Int × Int × List V × Int × Bool × List V × Int × Int) :=
  (d29 a0_0 a0_1 a0_2 a0_3 a0_4 a0_5 a0_6 a0_7 a0_8).bind fun x2 =>
  if (cmpLit .neq x2 0) = true then
    some (0, [], 0, 0, 0, 0, [], 0, false, [], 0, x2)
  else
    if (cmpLit .neq a0_0 2) = true then
      some (0, [], 0, 0, 0, 0, [], 0, false, [], 0, 1)
    else
      if (notB' a0_8) = true then
        some (0, [], 0, 0, 0, 0, [], 0, false, [], 0, 3)
      else
        (d51 a0_6).bind fun x3 =>
        (d48 a0_0 a0_1 a0_2 a0_3 a0_4 a0_5 a0_6 a0_7 a0_8).bind fun x4 =>
        some (x4.1, x4.2.1, x4.2.2.1, x4.2.2.2.1, x4.2.2.2.2.1, x4.2.2.2.2.2.1, [], 0, false, x3.1, a0_7, 0)
noncomputable def w26_c : Code := (Try.f26.body).getD .skip
theorem w26_h : Try.f26.body = some w26_c := by kernel_rfl
theorem w26 (a0_0 : Int) (a0_1 : List V) (a0_2 : Int) (a0_3 : Int) (a0_4 : Int) (a0_5 : Int) (a0_6 : List V) (a0_7 : Int) (a0_8 : Bool) (r : Int × List V × Int × Int × Int × Int × List V × Int × Bool × List V × Int × Int) (h : d26 a0_0 a0_1 a0_2 a0_3 a0_4 a0_5 a0_6 a0_7 a0_8 = some r) : Ab.Fn Try.prog TT 26 [.agg [.i .i64 a0_0, .sl 5 a0_1, .i .i64 a0_2, .i .i64 a0_3, .i .i64 a0_4, .i .i64 a0_5, .sl 5 a0_6, .i .i64 a0_7, .b a0_8]] (.tup [.agg [.i .i64 r.1, .sl 5 r.2.1, .i .i64 r.2.2.1, .i .i64 r.2.2.2.1, .i .i64 r.2.2.2.2.1, .i .i64 r.2.2.2.2.2.1, .sl 5 r.2.2.2.2.2.2.1, .i .i64 r.2.2.2.2.2.2.2.1, .b r.2.2.2.2.2.2.2.2.1], .row 0, .i .i64 r.2.2.2.2.2.2.2.2.2.2.1, .i .i64 r.2.2.2.2.2.2.2.2.2.2.2]) [(0, .row 33 r.2.2.2.2.2.2.2.2.2.1)] := by
  refine fn_own tok (fun r => match r with | 11 => [[],[],[],[2],[0],[0,1,4],[0,1,2,3,4,5],[0,1,2,3,4,5,6]] | _ => []) Try.func26 (by kernel_rfl) w26_h (by kernel_rfl) ?_
  intro ar un cv mn mx pl mi cmp nt beq an scmp cat slen sbyte ssub ofB toB len gi gb gs gl sub put app ovl rep ne0 ge0 inb bnd room sroom need br call callb loop cut nl E R K hK
  have D := E.D
  clear E
  unfold d26 at h
  cbv
  refine R.cut' (by kernel_rfl) (by kernel_rfl) ?_
  cbv
  refine R.callD h (fun x2 hx2 h2 => ?_)
  clear h; have h := h2; clear h2
  refine R.call' (w29 _ _ _ _ _ _ _ _ _ _ hx2) (by (first | rfl | (simp only [D.hcmp, D.hnt]; done) | (simp only [D.hcmp, D.hnt]; rfl))) ?_
  clear hx2; cbv
  refine R.brD h (by (first | rfl | (simp only [D.hcmp, D.hnt]; done) | (simp only [D.hcmp, D.hnt]; rfl))) ?_ ?_ <;> clear h <;> intro h <;> cbv
  · have e := ret_some h; clear h
    refine hK _ _ ⟨rfl, ⟨?_, rfl, rfl, rfl, ?_⟩⟩ <;> cbv <;> (try (subst e; simp only [D.hcmp, D.hnt, and_self, and_true, true_and] <;> (repeat' apply And.intro) <;> rfl))
  · refine R.cut' (by kernel_rfl) (by kernel_rfl) ?_
    cbv
    refine R.brD h (by (first | rfl | (simp only [D.hcmp, D.hnt]; done) | (simp only [D.hcmp, D.hnt]; rfl))) ?_ ?_ <;> clear h <;> intro h <;> cbv
    · have e := ret_some h; clear h
      refine hK _ _ ⟨rfl, ⟨?_, rfl, rfl, rfl, ?_⟩⟩ <;> cbv <;> (try (subst e; simp only [D.hcmp, D.hnt, and_self, and_true, true_and] <;> (repeat' apply And.intro) <;> rfl))
    · refine R.cut' (by kernel_rfl) (by kernel_rfl) ?_
      cbv
      refine R.brD h (by (first | rfl | (simp only [D.hcmp, D.hnt]; done) | (simp only [D.hcmp, D.hnt]; rfl))) ?_ ?_ <;> clear h <;> intro h <;> cbv
      · have e := ret_some h; clear h
        refine hK _ _ ⟨rfl, ⟨?_, rfl, rfl, rfl, ?_⟩⟩ <;> cbv <;> (try (subst e; simp only [D.hcmp, D.hnt, and_self, and_true, true_and] <;> (repeat' apply And.intro) <;> rfl))
      · refine R.callBD h (fun x3 hx3 h2 => ?_)
        clear h; have h := h2; clear h2
        refine R.callB [(0, 432)] (w51 a0_6 _ hx3) ?_ ?_ rfl ?_
        · cbv <;> (try simp only [D.hcmp, D.hnt, and_self, and_true, true_and] <;> (repeat' apply And.intro) <;> rfl)
        · cbv <;> (try simp only [D.hcmp, D.hnt, and_self, and_true, true_and] <;> (repeat' apply And.intro) <;> rfl)
        clear hx3; cbv
        refine R.callD h (fun x4 hx4 h2 => ?_)
        clear h; have h := h2; clear h2
        refine R.call' (w48s _ _ _ _ _ _ _ _ _ _ hx4) (by (first | rfl | (simp only [D.hcmp, D.hnt]; done) | (simp only [D.hcmp, D.hnt]; rfl))) ?_
        clear hx4; cbv
        have e := ret_some h; clear h
        refine hK _ _ ⟨rfl, ⟨?_, rfl, rfl, rfl, ?_⟩⟩ <;> cbv <;> (try (subst e; simp only [D.hcmp, D.hnt, and_self, and_true, true_and] <;> (repeat' apply And.intro) <;> rfl))
theorem w26s (a0_0 : Int) (a0_1 : List V) (a0_2 : Int) (a0_3 : Int) (a0_4 : Int) (a0_5 : Int) (a0_6 : List V) (a0_7 : Int) (a0_8 : Bool) (r : Int × List V × Int × Int × Int × Int × List V × Int × Bool × List V × Int × Int) (h : d26 a0_0 a0_1 a0_2 a0_3 a0_4 a0_5 a0_6 a0_7 a0_8 = some r) : Ab.Fn Try.prog TT 26 [.agg [.i .i64 a0_0, .sl 5 a0_1, .i .i64 a0_2, .i .i64 a0_3, .i .i64 a0_4, .i .i64 a0_5, .sl 5 a0_6, .i .i64 a0_7, .b a0_8]] (.tup [.agg [.i .i64 r.1, .sl 5 r.2.1, .i .i64 r.2.2.1, .i .i64 r.2.2.2.1, .i .i64 r.2.2.2.2.1, .i .i64 r.2.2.2.2.2.1, .sl 5 r.2.2.2.2.2.2.1, .i .i64 r.2.2.2.2.2.2.2.1, .b r.2.2.2.2.2.2.2.2.1], .sl 33 r.2.2.2.2.2.2.2.2.2.1, .i .i64 r.2.2.2.2.2.2.2.2.2.2.1, .i .i64 r.2.2.2.2.2.2.2.2.2.2.2]) [] :=
  (w26 a0_0 a0_1 a0_2 a0_3 a0_4 a0_5 a0_6 a0_7 a0_8 r h).pure (by simp [ple, ple1, ple1L, pleL, pleS, Ab.look])

noncomputable def d44 : Option (Bool) :=
  (d15 3 64).bind fun x1 =>
  if (Ge0 26) then
    if (Room 26 1) then
      (d16 x1.1 x1.2.1 x1.2.2.1 x1.2.2.2.1 x1.2.2.2.2.1 x1.2.2.2.2.2.1 x1.2.2.2.2.2.2.1 x1.2.2.2.2.2.2.2.1 x1.2.2.2.2.2.2.2.2.1 1 0 (repL 26 (.i .u8 0))).bind fun x2 =>
      if (Ge0 16) then
        if (Room 16 1) then
          (d16 x2.1 x2.2.1 x2.2.2.1 x2.2.2.2.1 x2.2.2.2.2.1 x2.2.2.2.2.2.1 x2.2.2.2.2.2.2.1 x2.2.2.2.2.2.2.2.1 x2.2.2.2.2.2.2.2.2.1 2 0 (repL 16 (.i .u8 0))).bind fun x3 =>
          (d17 x3.1 x3.2.1 x3.2.2.1 x3.2.2.2.1 x3.2.2.2.2.1 x3.2.2.2.2.2.1 x3.2.2.2.2.2.2.1 x3.2.2.2.2.2.2.2.1 x3.2.2.2.2.2.2.2.2.1).bind fun x4 =>
          if (cmpLit .eql x1.2.2.2.2.2.2.2.2.2 0) = true then
            if (cmpLit .eql x2.2.2.2.2.2.2.2.2.2.2 0) = true then
              if (cmpLit .eql x3.2.2.2.2.2.2.2.2.2.2 0) = true then
                if (cmpLit .eql x4.2 0) = true then
                  if x3.2.2.2.2.2.2.2.2.2.1 = true then
                    if (cmpLit .eql (lenI x4.1) 1) = true then
                      if (Inb 0 (lenI x4.1)) then
                        if (cmpLit .eql (gI x4.1 0 0) 2) = true then
                          if (cmpLit .eql x3.2.2.2.2.2.1 1) = true then
                            if (cmpLit .eql x3.2.2.1 0) = true then
                              if (cmpLit .eql x3.2.2.2.1 30) = true then
                                some (cmpLit .eql x3.2.2.2.2.1 0)
                              else
                                some false
                            else
                              some false
                          else
                            some false
                        else
                          some false
                      else none
                    else
                      some false
                  else
                    some false
                else
                  some false
              else
                some false
            else
              some false
          else
            some false
        else none
      else none
    else none
  else none
noncomputable def w44_c : Code := (Try.f44.body).getD .skip
theorem w44_h : Try.f44.body = some w44_c := by kernel_rfl
theorem w44 (r : Bool) (h : d44 = some r) : Ab.Fn Try.prog TT 44 [] (.b r) [] := by
  refine fn_pure tok (fun r => match r with | 2 => [[],[],[1],[0,1,2],[0,1,2,3],[0,1,2,3,4],[0,1,2,3,4],[0,1,2,3,4],[],[0,1,2,3,4,5,8],[0,1,2,3,4,5,6,8,9],[0,1,2,3,4,5,6,7,8,9,10]] | 3 => [[],[],[1],[0,1,2],[0,1,2,3],[0,1,2,3,4],[0,1,2,3,4],[0,1,2,3,4],[],[0,1,2,3,4,5,8],[0,1,2,3,4,5,6,8,9],[0,1,2,3,4,5,6,7,8,9,10]] | _ => []) Try.func44 (by kernel_rfl) w44_h (by kernel_rfl) ?_
  intro ar un cv mn mx pl mi cmp nt beq an scmp cat slen sbyte ssub ofB toB len gi gb gs gl sub put app ovl rep ne0 ge0 inb bnd room sroom need br call callb loop cut nl E R K hK
  have D := E.D
  clear E
  unfold d44 at h
  cbv
  refine R.callD h (fun x1 hx1 h2 => ?_)
  clear h; have h := h2; clear h2
  refine R.call' (w15s _ _ _ hx1) (by (first | rfl | (simp only [D.hcmp, D.hge0, D.hgi, D.hinb, D.hlen, D.hrep, D.hroom]; done) | (simp only [D.hcmp, D.hge0, D.hgi, D.hinb, D.hlen, D.hrep, D.hroom]; rfl))) ?_
  clear hx1; cbv
  refine R.needD h (by (first | rfl | (simp only [D.hcmp, D.hge0, D.hgi, D.hinb, D.hlen, D.hrep, D.hroom]; done) | (simp only [D.hcmp, D.hge0, D.hgi, D.hinb, D.hlen, D.hrep, D.hroom]; rfl))) ?_
  clear h; intro h; cbv
  refine R.needD h (by (first | rfl | (simp only [D.hcmp, D.hge0, D.hgi, D.hinb, D.hlen, D.hrep, D.hroom]; done) | (simp only [D.hcmp, D.hge0, D.hgi, D.hinb, D.hlen, D.hrep, D.hroom]; rfl))) ?_
  clear h; intro h; cbv
  refine R.callD h (fun x2 hx2 h2 => ?_)
  clear h; have h := h2; clear h2
  refine R.call' (w16s _ _ _ _ _ _ _ _ _ _ _ _ _ hx2) (by (first | rfl | (simp only [D.hcmp, D.hge0, D.hgi, D.hinb, D.hlen, D.hrep, D.hroom]; done) | (simp only [D.hcmp, D.hge0, D.hgi, D.hinb, D.hlen, D.hrep, D.hroom]; rfl))) ?_
  clear hx2; cbv
  refine R.needD h (by (first | rfl | (simp only [D.hcmp, D.hge0, D.hgi, D.hinb, D.hlen, D.hrep, D.hroom]; done) | (simp only [D.hcmp, D.hge0, D.hgi, D.hinb, D.hlen, D.hrep, D.hroom]; rfl))) ?_
  clear h; intro h; cbv
  refine R.needD h (by (first | rfl | (simp only [D.hcmp, D.hge0, D.hgi, D.hinb, D.hlen, D.hrep, D.hroom]; done) | (simp only [D.hcmp, D.hge0, D.hgi, D.hinb, D.hlen, D.hrep, D.hroom]; rfl))) ?_
  clear h; intro h; cbv
  refine R.callD h (fun x3 hx3 h2 => ?_)
  clear h; have h := h2; clear h2
  refine R.call' (w16s _ _ _ _ _ _ _ _ _ _ _ _ _ hx3) (by (first | rfl | (simp only [D.hcmp, D.hge0, D.hgi, D.hinb, D.hlen, D.hrep, D.hroom]; done) | (simp only [D.hcmp, D.hge0, D.hgi, D.hinb, D.hlen, D.hrep, D.hroom]; rfl))) ?_
  clear hx3; cbv
  refine R.callD h (fun x4 hx4 h2 => ?_)
  clear h; have h := h2; clear h2
  refine R.call' (w17s _ _ _ _ _ _ _ _ _ _ hx4) (by (first | rfl | (simp only [D.hcmp, D.hge0, D.hgi, D.hinb, D.hlen, D.hrep, D.hroom]; done) | (simp only [D.hcmp, D.hge0, D.hgi, D.hinb, D.hlen, D.hrep, D.hroom]; rfl))) ?_
  clear hx4; cbv
  refine R.cut' (by kernel_rfl) (by kernel_rfl) ?_
  cbv
  refine R.brD h (by (first | rfl | (simp only [D.hcmp, D.hge0, D.hgi, D.hinb, D.hlen, D.hrep, D.hroom]; done) | (simp only [D.hcmp, D.hge0, D.hgi, D.hinb, D.hlen, D.hrep, D.hroom]; rfl))) ?_ ?_ <;> clear h <;> intro h <;> cbv
  · refine R.brD h (by (first | rfl | (simp only [D.hcmp, D.hge0, D.hgi, D.hinb, D.hlen, D.hrep, D.hroom]; done) | (simp only [D.hcmp, D.hge0, D.hgi, D.hinb, D.hlen, D.hrep, D.hroom]; rfl))) ?_ ?_ <;> clear h <;> intro h <;> cbv
    · refine R.brD h (by (first | rfl | (simp only [D.hcmp, D.hge0, D.hgi, D.hinb, D.hlen, D.hrep, D.hroom]; done) | (simp only [D.hcmp, D.hge0, D.hgi, D.hinb, D.hlen, D.hrep, D.hroom]; rfl))) ?_ ?_ <;> clear h <;> intro h <;> cbv
      · refine R.brD h (by (first | rfl | (simp only [D.hcmp, D.hge0, D.hgi, D.hinb, D.hlen, D.hrep, D.hroom]; done) | (simp only [D.hcmp, D.hge0, D.hgi, D.hinb, D.hlen, D.hrep, D.hroom]; rfl))) ?_ ?_ <;> clear h <;> intro h <;> cbv
        · refine R.brD h (by (first | rfl | (simp only [D.hcmp, D.hge0, D.hgi, D.hinb, D.hlen, D.hrep, D.hroom]; done) | (simp only [D.hcmp, D.hge0, D.hgi, D.hinb, D.hlen, D.hrep, D.hroom]; rfl))) ?_ ?_ <;> clear h <;> intro h <;> cbv
          · refine R.brD h (by (first | rfl | (simp only [D.hcmp, D.hge0, D.hgi, D.hinb, D.hlen, D.hrep, D.hroom]; done) | (simp only [D.hcmp, D.hge0, D.hgi, D.hinb, D.hlen, D.hrep, D.hroom]; rfl))) ?_ ?_ <;> clear h <;> intro h <;> cbv
            · refine R.needD h (by (first | rfl | (simp only [D.hcmp, D.hge0, D.hgi, D.hinb, D.hlen, D.hrep, D.hroom]; done) | (simp only [D.hcmp, D.hge0, D.hgi, D.hinb, D.hlen, D.hrep, D.hroom]; rfl))) ?_
              clear h; intro h; cbv
              refine R.brD h (by (first | rfl | (simp only [D.hcmp, D.hge0, D.hgi, D.hinb, D.hlen, D.hrep, D.hroom]; done) | (simp only [D.hcmp, D.hge0, D.hgi, D.hinb, D.hlen, D.hrep, D.hroom]; rfl))) ?_ ?_ <;> clear h <;> intro h <;> cbv
              · refine R.brD h (by (first | rfl | (simp only [D.hcmp, D.hge0, D.hgi, D.hinb, D.hlen, D.hrep, D.hroom]; done) | (simp only [D.hcmp, D.hge0, D.hgi, D.hinb, D.hlen, D.hrep, D.hroom]; rfl))) ?_ ?_ <;> clear h <;> intro h <;> cbv
                · refine R.brD h (by (first | rfl | (simp only [D.hcmp, D.hge0, D.hgi, D.hinb, D.hlen, D.hrep, D.hroom]; done) | (simp only [D.hcmp, D.hge0, D.hgi, D.hinb, D.hlen, D.hrep, D.hroom]; rfl))) ?_ ?_ <;> clear h <;> intro h <;> cbv
                  · refine R.brD h (by (first | rfl | (simp only [D.hcmp, D.hge0, D.hgi, D.hinb, D.hlen, D.hrep, D.hroom]; done) | (simp only [D.hcmp, D.hge0, D.hgi, D.hinb, D.hlen, D.hrep, D.hroom]; rfl))) ?_ ?_ <;> clear h <;> intro h <;> cbv
                    · have e := ret_some h; clear h
                      refine hK _ _ ?_
                      cbv
                      try (subst e; simp only [D.hcmp, D.hge0, D.hgi, D.hinb, D.hlen, D.hrep, D.hroom, and_self, and_true, true_and] <;> (repeat' apply And.intro) <;> rfl)
                    · have e := ret_some h; clear h
                      refine hK _ _ ?_
                      cbv
                      try (subst e; simp only [D.hcmp, D.hge0, D.hgi, D.hinb, D.hlen, D.hrep, D.hroom, and_self, and_true, true_and] <;> (repeat' apply And.intro) <;> rfl)
                  · have e := ret_some h; clear h
                    refine hK _ _ ?_
                    cbv
                    try (subst e; simp only [D.hcmp, D.hge0, D.hgi, D.hinb, D.hlen, D.hrep, D.hroom, and_self, and_true, true_and] <;> (repeat' apply And.intro) <;> rfl)
                · have e := ret_some h; clear h
                  refine hK _ _ ?_
                  cbv
                  try (subst e; simp only [D.hcmp, D.hge0, D.hgi, D.hinb, D.hlen, D.hrep, D.hroom, and_self, and_true, true_and] <;> (repeat' apply And.intro) <;> rfl)
              · have e := ret_some h; clear h
                refine hK _ _ ?_
                cbv
                try (subst e; simp only [D.hcmp, D.hge0, D.hgi, D.hinb, D.hlen, D.hrep, D.hroom, and_self, and_true, true_and] <;> (repeat' apply And.intro) <;> rfl)
            · have e := ret_some h; clear h
              refine hK _ _ ?_
              cbv
              try (subst e; simp only [D.hcmp, D.hge0, D.hgi, D.hinb, D.hlen, D.hrep, D.hroom, and_self, and_true, true_and] <;> (repeat' apply And.intro) <;> rfl)
          · have e := ret_some h; clear h
            refine hK _ _ ?_
            cbv
            try (subst e; simp only [D.hcmp, D.hge0, D.hgi, D.hinb, D.hlen, D.hrep, D.hroom, and_self, and_true, true_and] <;> (repeat' apply And.intro) <;> rfl)
        · have e := ret_some h; clear h
          refine hK _ _ ?_
          cbv
          try (subst e; simp only [D.hcmp, D.hge0, D.hgi, D.hinb, D.hlen, D.hrep, D.hroom, and_self, and_true, true_and] <;> (repeat' apply And.intro) <;> rfl)
      · have e := ret_some h; clear h
        refine hK _ _ ?_
        cbv
        try (subst e; simp only [D.hcmp, D.hge0, D.hgi, D.hinb, D.hlen, D.hrep, D.hroom, and_self, and_true, true_and] <;> (repeat' apply And.intro) <;> rfl)
    · have e := ret_some h; clear h
      refine hK _ _ ?_
      cbv
      try (subst e; simp only [D.hcmp, D.hge0, D.hgi, D.hinb, D.hlen, D.hrep, D.hroom, and_self, and_true, true_and] <;> (repeat' apply And.intro) <;> rfl)
  · have e := ret_some h; clear h
    refine hK _ _ ?_
    cbv
    try (subst e; simp only [D.hcmp, D.hge0, D.hgi, D.hinb, D.hlen, D.hrep, D.hroom, and_self, and_true, true_and] <;> (repeat' apply And.intro) <;> rfl)

noncomputable def d37 (a0_0 : Int) (a0_1 : Int) (a0_2 : List V) (a1_0 : Int) (a1_1 : Int) (a1_2 : List V) : Option (Bool) :=
  if (cmpLit .eql a0_0 a1_0) = true then
    if (cmpLit .eql a0_1 a1_1) = true then
      some (strCmp .eql (toBy a0_2) (toBy a1_2))
    else
      some false
  else
    some false
noncomputable def w37_c : Code := (Try.f37.body).getD .skip
theorem w37_h : Try.f37.body = some w37_c := by kernel_rfl
theorem w37 (a0_0 : Int) (a0_1 : Int) (a0_2 : List V) (a1_0 : Int) (a1_1 : Int) (a1_2 : List V) (r : Bool) (h : d37 a0_0 a0_1 a0_2 a1_0 a1_1 a1_2 = some r) : Ab.Fn Try.prog TT 37 [.agg [.i .i64 a0_0, .i .i64 a0_1, .sl 5 a0_2], .agg [.i .i64 a1_0, .i .i64 a1_1, .sl 5 a1_2]] (.b r) [] := by
  refine fn_pure tok W0 Try.func37 (by kernel_rfl) w37_h (by kernel_rfl) ?_
  intro ar un cv mn mx pl mi cmp nt beq an scmp cat slen sbyte ssub ofB toB len gi gb gs gl sub put app ovl rep ne0 ge0 inb bnd room sroom need br call callb loop cut nl E R K hK
  have D := E.D
  clear E
  unfold d37 at h
  cbv
  refine R.cut' (by kernel_rfl) (by kernel_rfl) ?_
  cbv
  refine R.brD h (by (first | rfl | (simp only [D.hcmp, D.hscmp, D.htoB]; done) | (simp only [D.hcmp, D.hscmp, D.htoB]; rfl))) ?_ ?_ <;> clear h <;> intro h <;> cbv
  · refine R.brD h (by (first | rfl | (simp only [D.hcmp, D.hscmp, D.htoB]; done) | (simp only [D.hcmp, D.hscmp, D.htoB]; rfl))) ?_ ?_ <;> clear h <;> intro h <;> cbv
    · have e := ret_some h; clear h
      refine hK _ _ ?_
      cbv
      try (subst e; simp only [D.hcmp, D.hscmp, D.htoB, and_self, and_true, true_and] <;> (repeat' apply And.intro) <;> rfl)
    · have e := ret_some h; clear h
      refine hK _ _ ?_
      cbv
      try (subst e; simp only [D.hcmp, D.hscmp, D.htoB, and_self, and_true, true_and] <;> (repeat' apply And.intro) <;> rfl)
  · have e := ret_some h; clear h
    refine hK _ _ ?_
    cbv
    try (subst e; simp only [D.hcmp, D.hscmp, D.htoB, and_self, and_true, true_and] <;> (repeat' apply And.intro) <;> rfl)

noncomputable def d18_b1 (a0 : List V) (a1 : List V) (s10 : Int) : Option ((Int) ⊕ ((Bool) ⊕ (Unit))) :=
  if (cmpLit .lss s10 (lenI a0)) = true then
    if (Inb s10 (lenI a0)) then
      if (Inb s10 (lenI a1)) then
        (d37 (gI a0 s10 0) (gI a0 s10 1) (gL a0 s10 2) (gI a1 s10 0) (gI a1 s10 1) (gL a1 s10 2)).bind fun x15 =>
        if (notB' x15) = true then
          some (.inr (.inl false))
        else
          some (.inl (arReal .add .i64 s10 1))
      else none
    else none
  else
    some (.inr (.inr ()))
noncomputable def d18 (a0 : List V) (a1 : List V) : Option (Bool) :=
  if (cmpLit .neq (lenI a0) (lenI a1)) = true then
    some false
  else
    Option.bind (α := (Unit) ⊕ (Bool)) (
      (iter (d18_b1 a0 a1) 0).bind fun y13 =>
      match y13 with
      | .inl p16 =>
        some (.inr p16)
      | .inr y13r0 =>
        some (.inl ())) fun y7 =>
    match y7 with
    | .inl p18 =>
      some true
    | .inr y7r0 =>
      some y7r0
noncomputable def w18_c : Code := (Try.f18.body).getD .skip
theorem w18_h : Try.f18.body = some w18_c := by kernel_rfl
theorem w18 (a0 : List V) (a1 : List V) (r : Bool) (h : d18 a0 a1 = some r) : Ab.Fn Try.prog TT 18 [.sl 33 a0, .sl 33 a1] (.b r) [] := by
  refine fn_pure tok (fun r => match r with | 6 => [[],[],[0,1],[0,1,2],[],[],[4,5],[4,5,6],[0,1,2,3,4,5,6,7],[0,1,2,3,4,5,6,7,8]] | _ => []) Try.func18 (by kernel_rfl) w18_h (by kernel_rfl) ?_
  intro ar un cv mn mx pl mi cmp nt beq an scmp cat slen sbyte ssub ofB toB len gi gb gs gl sub put app ovl rep ne0 ge0 inb bnd room sroom need br call callb loop cut nl E R K hK
  have D := E.D
  clear E
  unfold d18 at h
  cbv
  refine R.cut' (by kernel_rfl) (by kernel_rfl) ?_
  cbv
  refine R.brD h (by (first | rfl | (simp only [D.har, D.hcmp, D.hgi, D.hgl, D.hinb, D.hlen, D.hnt]; done) | (simp only [D.har, D.hcmp, D.hgi, D.hgl, D.hinb, D.hlen, D.hnt]; rfl))) ?_ ?_ <;> clear h <;> intro h <;> cbv
  · have e := ret_some h; clear h
    refine hK _ _ ?_
    cbv
    try (subst e; simp only [D.har, D.hcmp, D.hgi, D.hgl, D.hinb, D.hlen, D.hnt, and_self, and_true, true_and] <;> (repeat' apply And.intro) <;> rfl)
  · refine R.cutB Sum.inl (fun _ _ e => Sum.inl.inj e) h [] (fun p18 => []) (fun p18 => []) (by kernel_rfl) (by kernel_rfl) (fun y7 hy hFy7 L hLy7 => ?_) (fun p18 h2 => ?_)
    · clear h; have h := hy; clear hy; cbv
      refine R.loopD h (fun s0 y13 e0 hi hFs10 => ?_)
      clear h
      refine R.loopI hi [] (fun s10 => [(5, .i .i64 s10)]) (fun s10 => []) ⟨rfl, ?_, ?_, rfl, rfl⟩ (by kernel_rfl) ?_
      · cbv; try (subst e0; simp only [D.har, D.hcmp, D.hgi, D.hgl, D.hinb, D.hlen, D.hnt, and_self, and_true, true_and] <;> (repeat' apply And.intro) <;> rfl)
      · cbv; try (subst e0; simp only [D.har, D.hcmp, D.hgi, D.hgl, D.hinb, D.hlen, D.hnt, and_self, and_true, true_and] <;> (repeat' apply And.intro) <;> rfl)
      clear hi e0
      intro s10 m y' hy hins10 houts10 L hLs10
      have h := hy; clear hy; unfold d18_b1 at h
      cbv
      refine R.cut' (by kernel_rfl) (by kernel_rfl) ?_
      cbv
      refine R.brD h (by (first | rfl | (simp only [D.har, D.hcmp, D.hgi, D.hgl, D.hinb, D.hlen, D.hnt]; done) | (simp only [D.har, D.hcmp, D.hgi, D.hgl, D.hinb, D.hlen, D.hnt]; rfl))) ?_ ?_ <;> clear h <;> intro h <;> cbv
      · refine R.cut' (by kernel_rfl) (by kernel_rfl) ?_
        cbv
        refine R.needD h (by (first | rfl | (simp only [D.har, D.hcmp, D.hgi, D.hgl, D.hinb, D.hlen, D.hnt]; done) | (simp only [D.har, D.hcmp, D.hgi, D.hgl, D.hinb, D.hlen, D.hnt]; rfl))) ?_
        clear h; intro h; cbv
        refine R.needD h (by (first | rfl | (simp only [D.har, D.hcmp, D.hgi, D.hgl, D.hinb, D.hlen, D.hnt]; done) | (simp only [D.har, D.hcmp, D.hgi, D.hgl, D.hinb, D.hlen, D.hnt]; rfl))) ?_
        clear h; intro h; cbv
        refine R.callD h (fun x15 hx15 h2 => ?_)
        clear h; have h := h2; clear h2
        refine R.call' (w37 _ _ _ _ _ _ _ hx15) (by (first | rfl | (simp only [D.har, D.hcmp, D.hgi, D.hgl, D.hinb, D.hlen, D.hnt]; done) | (simp only [D.har, D.hcmp, D.hgi, D.hgl, D.hinb, D.hlen, D.hnt]; rfl))) ?_
        clear hx15; cbv
        refine R.brD h (by (first | rfl | (simp only [D.har, D.hcmp, D.hgi, D.hgl, D.hinb, D.hlen, D.hnt]; done) | (simp only [D.har, D.hcmp, D.hgi, D.hgl, D.hinb, D.hlen, D.hnt]; rfl))) ?_ ?_ <;> clear h <;> intro h <;> cbv
        · have e := inr_some h houts10; clear h
          have h := hFs10; rw [e] at h; clear e; try dsimp only at h
          cbv
          have e := ret_some h; clear h
          have h := hFy7; rw [e] at h; clear e; try dsimp only at h
          cbv
          have e := ret_some h; clear h
          refine hK _ _ ?_
          cbv
          try (subst e; simp only [D.har, D.hcmp, D.hgi, D.hgl, D.hinb, D.hlen, D.hnt, and_self, and_true, true_and] <;> (repeat' apply And.intro) <;> rfl)
        · obtain ⟨s', e, hi⟩ := inl_some h hins10
          refine hLs10 s' _ _ hi ⟨rfl, ?_, ?_, rfl, rfl⟩ <;> cbv <;> (try (subst e; simp only [D.har, D.hcmp, D.hgi, D.hgl, D.hinb, D.hlen, D.hnt, and_self, and_true, true_and] <;> (repeat' apply And.intro) <;> rfl))
      · have e := inr_some h houts10; clear h
        have h := hFs10; rw [e] at h; clear e; try dsimp only at h
        cbv
        obtain ⟨s', e, hi⟩ := jn_some Sum.inl h
        refine hLy7 s' _ _ hi ⟨rfl, ?_, ?_, rfl, rfl⟩ <;> cbv <;> (try (subst e; simp only [D.har, D.hcmp, D.hgi, D.hgl, D.hinb, D.hlen, D.hnt, and_self, and_true, true_and] <;> (repeat' apply And.intro) <;> rfl))
    · clear h; have h := h2; clear h2; try dsimp only at h
      cbv
      have e := ret_some h; clear h
      refine hK _ _ ?_
      cbv
      try (subst e; simp only [D.har, D.hcmp, D.hgi, D.hgl, D.hinb, D.hlen, D.hnt, and_self, and_true, true_and] <;> (repeat' apply And.intro) <;> rfl)
end Go.Proofs.Ytdejapkfijdadaa
end
section
namespace Go.Proofs.Ytdejapkfijdadaa
open Go.Ab Go.RowKit 
set_option maxRecDepth 100000
set_option maxHeartbeats 40000000
noncomputable def d31 (a0_0 : Int) (a0_1 : Int) (a0_2 : List V) : Option (Int × Int) :=
  (d45 a0_0 a0_1 a0_2).bind fun x2 =>
  if (notB' x2) = true then
    some (0, 221)
  else
    some ((arReal .add .i64 14 (lenI a0_2)), 0)
noncomputable def w31_c : Code := (Try.f31.body).getD .skip
theorem w31_h : Try.f31.body = some w31_c := by kernel_rfl
theorem w31 (a0_0 : Int) (a0_1 : Int) (a0_2 : List V) (r : Int × Int) (h : d31 a0_0 a0_1 a0_2 = some r) : Ab.Fn Try.prog TT 31 [.agg [.i .i64 a0_0, .i .i64 a0_1, .sl 5 a0_2]] (.tup [.i .i64 r.1, .i .i64 r.2]) [] := by
  refine fn_pure tok W0 Try.func31 (by kernel_rfl) w31_h (by kernel_rfl) ?_
  intro ar un cv mn mx pl mi cmp nt beq an scmp cat slen sbyte ssub ofB toB len gi gb gs gl sub put app ovl rep ne0 ge0 inb bnd room sroom need br call callb loop cut nl E R K hK
  have D := E.D
  clear E
  unfold d31 at h
  cbv
  refine R.cut' (by kernel_rfl) (by kernel_rfl) ?_
  cbv
  refine R.callD h (fun x2 hx2 h2 => ?_)
  clear h; have h := h2; clear h2
  refine R.call' (w45 _ _ _ _ hx2) (by (first | rfl | (simp only [D.har, D.hlen, D.hnt]; done) | (simp only [D.har, D.hlen, D.hnt]; rfl))) ?_
  clear hx2; cbv
  refine R.brD h (by (first | rfl | (simp only [D.har, D.hlen, D.hnt]; done) | (simp only [D.har, D.hlen, D.hnt]; rfl))) ?_ ?_ <;> clear h <;> intro h <;> cbv
  · have e := ret_some h; clear h
    refine hK _ _ ?_
    cbv
    try (subst e; simp only [D.har, D.hlen, D.hnt, and_self, and_true, true_and] <;> (repeat' apply And.intro) <;> rfl)
  · have e := ret_some h; clear h
    refine hK _ _ ?_
    cbv
    try (subst e; simp only [D.har, D.hlen, D.hnt, and_self, and_true, true_and] <;> (repeat' apply And.intro) <;> rfl)

noncomputable def d20 (a0 : List V) : Option (List V × Int) :=
  (d51 a0).bind fun x1 =>
  if (notB' x1.2) = true then
    some ([], 221)
  else
    some (x1.1, 0)
noncomputable def w20_c : Code := (Try.f20.body).getD .skip
theorem w20_h : Try.f20.body = some w20_c := by kernel_rfl
theorem w20 (a0 : List V) (r : List V × Int) (h : d20 a0 = some r) : Ab.Fn Try.prog TT 20 [.sl 5 a0] (.tup [.row 0, .i .i64 r.2]) [(0, .row 33 r.1)] := by
  refine fn_own tok W0 Try.func20 (by kernel_rfl) w20_h (by kernel_rfl) ?_
  intro ar un cv mn mx pl mi cmp nt beq an scmp cat slen sbyte ssub ofB toB len gi gb gs gl sub put app ovl rep ne0 ge0 inb bnd room sroom need br call callb loop cut nl E R K hK
  have D := E.D
  clear E
  unfold d20 at h
  cbv
  refine R.callBD h (fun x1 hx1 h2 => ?_)
  clear h; have h := h2; clear h2
  refine R.callB [(0, 128)] (w51 a0 _ hx1) ?_ ?_ rfl ?_
  · cbv <;> (try simp only [D.hnt, and_self, and_true, true_and] <;> (repeat' apply And.intro) <;> rfl)
  · cbv <;> (try simp only [D.hnt, and_self, and_true, true_and] <;> (repeat' apply And.intro) <;> rfl)
  clear hx1; cbv
  refine R.cut' (by kernel_rfl) (by kernel_rfl) ?_
  cbv
  refine R.brD h (by (first | rfl | (simp only [D.hnt]; done) | (simp only [D.hnt]; rfl))) ?_ ?_ <;> clear h <;> intro h <;> cbv
  · have e := ret_some h; clear h
    refine hK _ _ ⟨rfl, ⟨?_, rfl, rfl, rfl, ?_⟩⟩ <;> cbv <;> (try (subst e; simp only [D.hnt, and_self, and_true, true_and] <;> (repeat' apply And.intro) <;> rfl))
  · have e := ret_some h; clear h
    refine hK _ _ ⟨rfl, ⟨?_, rfl, rfl, rfl, ?_⟩⟩ <;> cbv <;> (try (subst e; simp only [D.hnt, and_self, and_true, true_and] <;> (repeat' apply And.intro) <;> rfl))
theorem w20s (a0 : List V) (r : List V × Int) (h : d20 a0 = some r) : Ab.Fn Try.prog TT 20 [.sl 5 a0] (.tup [.sl 33 r.1, .i .i64 r.2]) [] :=
  (w20 a0 r h).pure (by simp [ple, ple1, ple1L, pleL, pleS, Ab.look])

noncomputable def d52_b1 (a0 : List V) (s4 : Int × Int) : Option ((Int × Int) ⊕ (Int)) :=
  if (cmpLit .geq s4.2 0) = true then
    if (Ge0 8) then
      if (Inb s4.2 (lenI a0)) then
        some (.inl ((arReal .or .i64 (arReal .shl .i64 s4.1 8) (wrapK .i64 (gI a0 s4.2 0))), (arReal .sub .i64 s4.2 1)))
      else none
    else none
  else
    some (.inr s4.1)
noncomputable def d52 (a0 : List V) : Option (Int) :=
  Option.bind (α := Int) (
    (iter (d52_b1 a0) (0, (arReal .sub .i64 (lenI a0) 1))).bind fun y5 =>
    some y5) fun y3 =>
  some y3
noncomputable def w52_c : Code := (Try.f52.body).getD .skip
theorem w52_h : Try.f52.body = some w52_c := by kernel_rfl
theorem w52 (a0 : List V) (r : Int) (h : d52 a0 = some r) : Ab.Fn Try.prog TT 52 [.sl 5 a0] (.i .i64 r) [] := by
  refine fn_pure tok W0 Try.func52 (by kernel_rfl) w52_h (by kernel_rfl) ?_
  intro ar un cv mn mx pl mi cmp nt beq an scmp cat slen sbyte ssub ofB toB len gi gb gs gl sub put app ovl rep ne0 ge0 inb bnd room sroom need br call callb loop cut nl E R K hK
  have D := E.D
  clear E
  unfold d52 at h
  cbv
  refine R.cutB (fun p => p) (fun _ _ e => e) h [] (fun p7 => [(3, .i .i64 p7)]) (fun p7 => []) (by kernel_rfl) (by kernel_rfl) (fun y3 hy hFy3 L hLy3 => ?_) (fun p7 h2 => ?_)
  · clear h; have h := hy; clear hy; cbv
    refine R.loopD h (fun s0 y5 e0 hi hFs4 => ?_)
    clear h
    refine R.loopI hi [] (fun s4 => [(3, .i .i64 s4.1), (4, .i .i64 s4.2)]) (fun s4 => []) ⟨rfl, ?_, ?_, rfl, rfl⟩ (by kernel_rfl) ?_
    · cbv; try (subst e0; simp only [D.har, D.hcmp, D.hcv, D.hge0, D.hgi, D.hinb, D.hlen, and_self, and_true, true_and] <;> (repeat' apply And.intro) <;> rfl)
    · cbv; try (subst e0; simp only [D.har, D.hcmp, D.hcv, D.hge0, D.hgi, D.hinb, D.hlen, and_self, and_true, true_and] <;> (repeat' apply And.intro) <;> rfl)
    clear hi e0
    intro s4 m y' hy hins4 houts4 L hLs4
    have h := hy; clear hy; unfold d52_b1 at h
    cbv
    refine R.cut' (by kernel_rfl) (by kernel_rfl) ?_
    cbv
    refine R.brD h (by (first | rfl | (simp only [D.har, D.hcmp, D.hcv, D.hge0, D.hgi, D.hinb, D.hlen]; done) | (simp only [D.har, D.hcmp, D.hcv, D.hge0, D.hgi, D.hinb, D.hlen]; rfl))) ?_ ?_ <;> clear h <;> intro h <;> cbv
    · refine R.cut' (by kernel_rfl) (by kernel_rfl) ?_
      cbv
      refine R.needD h (by (first | rfl | (simp only [D.har, D.hcmp, D.hcv, D.hge0, D.hgi, D.hinb, D.hlen]; done) | (simp only [D.har, D.hcmp, D.hcv, D.hge0, D.hgi, D.hinb, D.hlen]; rfl))) ?_
      clear h; intro h; cbv
      refine R.needD h (by (first | rfl | (simp only [D.har, D.hcmp, D.hcv, D.hge0, D.hgi, D.hinb, D.hlen]; done) | (simp only [D.har, D.hcmp, D.hcv, D.hge0, D.hgi, D.hinb, D.hlen]; rfl))) ?_
      clear h; intro h; cbv
      obtain ⟨s', e, hi⟩ := inl_some h hins4
      refine hLs4 s' _ _ hi ⟨rfl, ?_, ?_, rfl, rfl⟩ <;> cbv <;> (try (subst e; simp only [D.har, D.hcmp, D.hcv, D.hge0, D.hgi, D.hinb, D.hlen, and_self, and_true, true_and] <;> (repeat' apply And.intro) <;> rfl))
    · have e := inr_some h houts4; clear h
      have h := hFs4; rw [e] at h; clear e; try dsimp only at h
      cbv
      obtain ⟨s', e, hi⟩ := jn_some (fun p => p) h
      refine hLy3 s' _ _ hi ⟨rfl, ?_, ?_, rfl, rfl⟩ <;> cbv <;> (try (subst e; simp only [D.har, D.hcmp, D.hcv, D.hge0, D.hgi, D.hinb, D.hlen, and_self, and_true, true_and] <;> (repeat' apply And.intro) <;> rfl))
  · clear h; have h := h2; clear h2; try dsimp only at h
    cbv
    have e := ret_some h; clear h
    refine hK _ _ ?_
    cbv
    try (subst e; simp only [D.har, D.hcmp, D.hcv, D.hge0, D.hgi, D.hinb, D.hlen, and_self, and_true, true_and] <;> (repeat' apply And.intro) <;> rfl)

noncomputable def d53 (a0_0 : Int) (a0_1 : Int) (a0_2 : List V) : Option (Bool) :=
  if (cmpLit .geq a0_0 1) = true then
    if (cmpLit .leq a0_0 1073741824) = true then
      if (cmpLit .geq a0_1 0) = true then
        if (cmpLit .leq a0_1 1099511627776) = true then
          some (cmpLit .leq (lenI a0_2) 256)
        else
          some false
      else
        some false
    else
      some false
  else
    some false
noncomputable def w53_c : Code := (Try.f53.body).getD .skip
theorem w53_h : Try.f53.body = some w53_c := by kernel_rfl
theorem w53 (a0_0 : Int) (a0_1 : Int) (a0_2 : List V) (r : Bool) (h : d53 a0_0 a0_1 a0_2 = some r) : Ab.Fn Try.prog TT 53 [.agg [.i .i64 a0_0, .i .i64 a0_1, .sl 5 a0_2]] (.b r) [] := by
  refine fn_pure tok W0 Try.func53 (by kernel_rfl) w53_h (by kernel_rfl) ?_
  intro ar un cv mn mx pl mi cmp nt beq an scmp cat slen sbyte ssub ofB toB len gi gb gs gl sub put app ovl rep ne0 ge0 inb bnd room sroom need br call callb loop cut nl E R K hK
  have D := E.D
  clear E
  unfold d53 at h
  cbv
  refine R.cut' (by kernel_rfl) (by kernel_rfl) ?_
  cbv
  refine R.brD h (by (first | rfl | (simp only [D.hcmp, D.hlen]; done) | (simp only [D.hcmp, D.hlen]; rfl))) ?_ ?_ <;> clear h <;> intro h <;> cbv
  · refine R.brD h (by (first | rfl | (simp only [D.hcmp, D.hlen]; done) | (simp only [D.hcmp, D.hlen]; rfl))) ?_ ?_ <;> clear h <;> intro h <;> cbv
    · refine R.brD h (by (first | rfl | (simp only [D.hcmp, D.hlen]; done) | (simp only [D.hcmp, D.hlen]; rfl))) ?_ ?_ <;> clear h <;> intro h <;> cbv
      · refine R.brD h (by (first | rfl | (simp only [D.hcmp, D.hlen]; done) | (simp only [D.hcmp, D.hlen]; rfl))) ?_ ?_ <;> clear h <;> intro h <;> cbv
        · have e := ret_some h; clear h
          refine hK _ _ ?_
          cbv
          try (subst e; simp only [D.hcmp, D.hlen, and_self, and_true, true_and] <;> (repeat' apply And.intro) <;> rfl)
        · have e := ret_some h; clear h
          refine hK _ _ ?_
          cbv
          try (subst e; simp only [D.hcmp, D.hlen, and_self, and_true, true_and] <;> (repeat' apply And.intro) <;> rfl)
      · have e := ret_some h; clear h
        refine hK _ _ ?_
        cbv
        try (subst e; simp only [D.hcmp, D.hlen, and_self, and_true, true_and] <;> (repeat' apply And.intro) <;> rfl)
    · have e := ret_some h; clear h
      refine hK _ _ ?_
      cbv
      try (subst e; simp only [D.hcmp, D.hlen, and_self, and_true, true_and] <;> (repeat' apply And.intro) <;> rfl)
  · have e := ret_some h; clear h
    refine hK _ _ ?_
    cbv
    try (subst e; simp only [D.hcmp, D.hlen, and_self, and_true, true_and] <;> (repeat' apply And.intro) <;> rfl)

noncomputable def d21_b1 (s29 : List V × List V) : Option ((List V × List V) ⊕ ((List V × Int × Int) ⊕ (List V))) :=
  if (cmpLit .gtr (lenI s29.1) 0) = true then
    if (cmpLit .lss (lenI s29.1) 14) = true then
      some (.inr (.inl ([], 0, 221)))
    else
      if (Bnd 12 14 (lenI s29.1)) then
        (d52 (subL s29.1 12 14)).bind fun x36 =>
        if (cmpLit .lss (lenI s29.1) (arReal .add .i64 14 x36)) = true then
          some (.inr (.inl ([], 0, 221)))
        else
          if (Bnd 14 (arReal .add .i64 14 x36) (lenI s29.1)) then
            if (Room (lenI (subL s29.1 14 (arReal .add .i64 14 x36))) 1) then
              if (Bnd 0 4 (lenI s29.1)) then
                (d52 (subL s29.1 0 4)).bind fun x37 =>
                if (Bnd 4 12 (lenI s29.1)) then
                  (d52 (subL s29.1 4 12)).bind fun x38 =>
                  (d53 x37 x38 (subL s29.1 14 (arReal .add .i64 14 x36))).bind fun x40 =>
                  if (notB' x40) = true then
                    some (.inr (.inl ([], 0, 221)))
                  else
                    if (Room (lenI (appL s29.2 [.agg [.i .i64 x37, .i .i64 x38, .sl 5 (subL s29.1 14 (arReal .add .i64 14 x36))]])) 40) then
                      if (Bnd (arReal .add .i64 14 x36) (lenI s29.1) (lenI s29.1)) then
                        some (.inl ((subL s29.1 (arReal .add .i64 14 x36) (lenI s29.1)), (appL s29.2 [.agg [.i .i64 x37, .i .i64 x38, .sl 5 (subL s29.1 14 (arReal .add .i64 14 x36))]])))
                      else none
                    else none
                else none
              else none
            else none
          else none
      else none
  else
    some (.inr (.inr s29.2))
noncomputable def d21 (a0 : List V) : Option (List V × Int × Int) :=
  Option.bind (α := (List V) ⊕ (List V × Int × Int)) (
    (iter (d21_b1) (a0, [])).bind fun y35 =>
    match y35 with
    | .inl p41 =>
      some (.inr p41)
    | .inr y35r0 =>
      some (.inl y35r0)) fun y18 =>
  match y18 with
  | .inl p43 =>
    some (p43, 0, 0)
  | .inr y18r0 =>
    some y18r0
noncomputable def w21_c : Code := (Try.f21.body).getD .skip
theorem w21_h : Try.f21.body = some w21_c := by kernel_rfl
theorem w21 (a0 : List V) (r : List V × Int × Int) (h : d21 a0 = some r) : Ab.Fn Try.prog TT 21 [.sl 5 a0] (.agg [.row 0, .i .i64 r.2.1, .i .i64 r.2.2]) [(0, .row 33 r.1)] := by
  refine fn_own tok (fun r => match r with | 10 => [[],[0],[0,1],[],[3],[0,1,2,3,4],[],[0,1,2,3,4,5,6],[],[0,1,2,3,4,5,6,7,8]] | _ => []) Try.func21 (by kernel_rfl) w21_h (by kernel_rfl) ?_
  intro ar un cv mn mx pl mi cmp nt beq an scmp cat slen sbyte ssub ofB toB len gi gb gs gl sub put app ovl rep ne0 ge0 inb bnd room sroom need br call callb loop cut nl E R K hK
  have D := E.D
  clear E
  unfold d21 at h
  cbv
  refine R.cutB Sum.inl (fun _ _ e => Sum.inl.inj e) h [] (fun p43 => [(3, .row 63)]) (fun p43 => [(63, .row 33 p43)]) (by kernel_rfl) (by kernel_rfl) (fun y18 hy hFy18 L hLy18 => ?_) (fun p43 h2 => ?_)
  · as_aux_lemma =>
    clear h; have h := hy; clear hy; cbv
    refine R.loopD h (fun s0 y35 e0 hi hFs29 => ?_)
    clear h
    refine R.born' (e := te33) 3 63 33 rfl rfl (by kernel_rfl) (by decide) ?_
    refine R.loopI hi [] (fun s29 => [(0, .sl 5 s29.1), (3, .row 63)]) (fun s29 => [(63, .row 33 s29.2)]) ⟨rfl, ?_, ?_, rfl, rfl⟩ (by kernel_rfl) ?_
    · cbv; try (subst e0; simp only [D.happ, D.har, D.hbnd, D.hcmp, D.hlen, D.hnt, D.hroom, D.hsub, and_self, and_true, true_and] <;> (repeat' apply And.intro) <;> rfl)
    · cbv; try (subst e0; simp only [D.happ, D.har, D.hbnd, D.hcmp, D.hlen, D.hnt, D.hroom, D.hsub, and_self, and_true, true_and] <;> (repeat' apply And.intro) <;> rfl)
    clear hi e0
    intro s29 m y' hy hins29 houts29 L hLs29
    have h := hy; clear hy; unfold d21_b1 at h
    cbv
    refine R.cut' (by kernel_rfl) (by kernel_rfl) ?_
    cbv
    refine R.brD h (by (first | rfl | (simp only [D.happ, D.har, D.hbnd, D.hcmp, D.hlen, D.hnt, D.hroom, D.hsub]; done) | (simp only [D.happ, D.har, D.hbnd, D.hcmp, D.hlen, D.hnt, D.hroom, D.hsub]; rfl))) ?_ ?_ <;> clear h <;> intro h <;> cbv
    · refine R.cut' (by kernel_rfl) (by kernel_rfl) ?_
      cbv
      refine R.brD h (by (first | rfl | (simp only [D.happ, D.har, D.hbnd, D.hcmp, D.hlen, D.hnt, D.hroom, D.hsub]; done) | (simp only [D.happ, D.har, D.hbnd, D.hcmp, D.hlen, D.hnt, D.hroom, D.hsub]; rfl))) ?_ ?_ <;> clear h <;> intro h <;> cbv
      · have e := inr_some h houts29; clear h
        have h := hFs29; rw [e] at h; clear e; try dsimp only at h
        cbv
        have e := ret_some h; clear h
        have h := hFy18; rw [e] at h; clear e; try dsimp only at h
        cbv
        have e := ret_some h; clear h
        refine hK _ _ ⟨rfl, ⟨?_, rfl, rfl, rfl, ?_⟩⟩ <;> cbv <;> (try (subst e; simp only [D.happ, D.har, D.hbnd, D.hcmp, D.hlen, D.hnt, D.hroom, D.hsub, and_self, and_true, true_and] <;> (repeat' apply And.intro) <;> rfl))
      · refine R.needD h (by (first | rfl | (simp only [D.happ, D.har, D.hbnd, D.hcmp, D.hlen, D.hnt, D.hroom, D.hsub]; done) | (simp only [D.happ, D.har, D.hbnd, D.hcmp, D.hlen, D.hnt, D.hroom, D.hsub]; rfl))) ?_
        clear h; intro h; cbv
        refine R.callD h (fun x36 hx36 h2 => ?_)
        clear h; have h := h2; clear h2
        refine R.call' (w52 _ _ hx36) (by (first | rfl | (simp only [D.happ, D.har, D.hbnd, D.hcmp, D.hlen, D.hnt, D.hroom, D.hsub]; done) | (simp only [D.happ, D.har, D.hbnd, D.hcmp, D.hlen, D.hnt, D.hroom, D.hsub]; rfl))) ?_
        clear hx36; cbv
        refine R.cut' (by kernel_rfl) (by kernel_rfl) ?_
        cbv
        refine R.brD h (by (first | rfl | (simp only [D.happ, D.har, D.hbnd, D.hcmp, D.hlen, D.hnt, D.hroom, D.hsub]; done) | (simp only [D.happ, D.har, D.hbnd, D.hcmp, D.hlen, D.hnt, D.hroom, D.hsub]; rfl))) ?_ ?_ <;> clear h <;> intro h <;> cbv
        · have e := inr_some h houts29; clear h
          have h := hFs29; rw [e] at h; clear e; try dsimp only at h
          cbv
          have e := ret_some h; clear h
          have h := hFy18; rw [e] at h; clear e; try dsimp only at h
          cbv
          have e := ret_some h; clear h
          refine hK _ _ ⟨rfl, ⟨?_, rfl, rfl, rfl, ?_⟩⟩ <;> cbv <;> (try (subst e; simp only [D.happ, D.har, D.hbnd, D.hcmp, D.hlen, D.hnt, D.hroom, D.hsub, and_self, and_true, true_and] <;> (repeat' apply And.intro) <;> rfl))
        · refine R.needD h (by (first | rfl | (simp only [D.happ, D.har, D.hbnd, D.hcmp, D.hlen, D.hnt, D.hroom, D.hsub]; done) | (simp only [D.happ, D.har, D.hbnd, D.hcmp, D.hlen, D.hnt, D.hroom, D.hsub]; rfl))) ?_
          clear h; intro h; cbv
          refine R.needD h (by (first | rfl | (simp only [D.happ, D.har, D.hbnd, D.hcmp, D.hlen, D.hnt, D.hroom, D.hsub]; done) | (simp only [D.happ, D.har, D.hbnd, D.hcmp, D.hlen, D.hnt, D.hroom, D.hsub]; rfl))) ?_
          clear h; intro h; cbv
          refine R.needD h (by (first | rfl | (simp only [D.happ, D.har, D.hbnd, D.hcmp, D.hlen, D.hnt, D.hroom, D.hsub]; done) | (simp only [D.happ, D.har, D.hbnd, D.hcmp, D.hlen, D.hnt, D.hroom, D.hsub]; rfl))) ?_
          clear h; intro h; cbv
          refine R.callD h (fun x37 hx37 h2 => ?_)
          clear h; have h := h2; clear h2
          refine R.call' (w52 _ _ hx37) (by (first | rfl | (simp only [D.happ, D.har, D.hbnd, D.hcmp, D.hlen, D.hnt, D.hroom, D.hsub]; done) | (simp only [D.happ, D.har, D.hbnd, D.hcmp, D.hlen, D.hnt, D.hroom, D.hsub]; rfl))) ?_
          clear hx37; cbv
          refine R.needD h (by (first | rfl | (simp only [D.happ, D.har, D.hbnd, D.hcmp, D.hlen, D.hnt, D.hroom, D.hsub]; done) | (simp only [D.happ, D.har, D.hbnd, D.hcmp, D.hlen, D.hnt, D.hroom, D.hsub]; rfl))) ?_
          clear h; intro h; cbv
          refine R.callD h (fun x38 hx38 h2 => ?_)
          clear h; have h := h2; clear h2
          refine R.call' (w52 _ _ hx38) (by (first | rfl | (simp only [D.happ, D.har, D.hbnd, D.hcmp, D.hlen, D.hnt, D.hroom, D.hsub]; done) | (simp only [D.happ, D.har, D.hbnd, D.hcmp, D.hlen, D.hnt, D.hroom, D.hsub]; rfl))) ?_
          clear hx38; cbv
          refine R.cut' (by kernel_rfl) (by kernel_rfl) ?_
          cbv
          refine R.callD h (fun x40 hx40 h2 => ?_)
          clear h; have h := h2; clear h2
          refine R.call' (w53 _ _ _ _ hx40) (by (first | rfl | (simp only [D.happ, D.har, D.hbnd, D.hcmp, D.hlen, D.hnt, D.hroom, D.hsub]; done) | (simp only [D.happ, D.har, D.hbnd, D.hcmp, D.hlen, D.hnt, D.hroom, D.hsub]; rfl))) ?_
          clear hx40; cbv
          refine R.brD h (by (first | rfl | (simp only [D.happ, D.har, D.hbnd, D.hcmp, D.hlen, D.hnt, D.hroom, D.hsub]; done) | (simp only [D.happ, D.har, D.hbnd, D.hcmp, D.hlen, D.hnt, D.hroom, D.hsub]; rfl))) ?_ ?_ <;> clear h <;> intro h <;> cbv
          · have e := inr_some h houts29; clear h
            have h := hFs29; rw [e] at h; clear e; try dsimp only at h
            cbv
            have e := ret_some h; clear h
            have h := hFy18; rw [e] at h; clear e; try dsimp only at h
            cbv
            have e := ret_some h; clear h
            refine hK _ _ ⟨rfl, ⟨?_, rfl, rfl, rfl, ?_⟩⟩ <;> cbv <;> (try (subst e; simp only [D.happ, D.har, D.hbnd, D.hcmp, D.hlen, D.hnt, D.hroom, D.hsub, and_self, and_true, true_and] <;> (repeat' apply And.intro) <;> rfl))
          · refine R.needD h (by (first | rfl | (simp only [D.happ, D.har, D.hbnd, D.hcmp, D.hlen, D.hnt, D.hroom, D.hsub]; done) | (simp only [D.happ, D.har, D.hbnd, D.hcmp, D.hlen, D.hnt, D.hroom, D.hsub]; rfl))) ?_
            clear h; intro h; cbv
            refine R.needD h (by (first | rfl | (simp only [D.happ, D.har, D.hbnd, D.hcmp, D.hlen, D.hnt, D.hroom, D.hsub]; done) | (simp only [D.happ, D.har, D.hbnd, D.hcmp, D.hlen, D.hnt, D.hroom, D.hsub]; rfl))) ?_
            clear h; intro h; cbv
            obtain ⟨s', e, hi⟩ := inl_some h hins29
            refine hLs29 s' _ _ hi ⟨rfl, ?_, ?_, rfl, rfl⟩ <;> cbv <;> (try (subst e; simp only [D.happ, D.har, D.hbnd, D.hcmp, D.hlen, D.hnt, D.hroom, D.hsub, and_self, and_true, true_and] <;> (repeat' apply And.intro) <;> rfl))
    · have e := inr_some h houts29; clear h
      have h := hFs29; rw [e] at h; clear e; try dsimp only at h
      cbv
      obtain ⟨s', e, hi⟩ := jn_some Sum.inl h
      refine hLy18 s' _ _ hi ⟨rfl, ?_, ?_, rfl, rfl⟩ <;> cbv <;> (try (subst e; simp only [D.happ, D.har, D.hbnd, D.hcmp, D.hlen, D.hnt, D.hroom, D.hsub, and_self, and_true, true_and] <;> (repeat' apply And.intro) <;> rfl))
  · clear h; have h := h2; clear h2; try dsimp only at h
    cbv
    have e := ret_some h; clear h
    refine hK _ _ ⟨rfl, ⟨?_, rfl, rfl, rfl, ?_⟩⟩ <;> cbv <;> (try (subst e; simp only [D.happ, D.har, D.hbnd, D.hcmp, D.hlen, D.hnt, D.hroom, D.hsub, and_self, and_true, true_and] <;> (repeat' apply And.intro) <;> rfl))
theorem w21s (a0 : List V) (r : List V × Int × Int) (h : d21 a0 = some r) : Ab.Fn Try.prog TT 21 [.sl 5 a0] (.agg [.sl 33 r.1, .i .i64 r.2.1, .i .i64 r.2.2]) [] :=
  (w21 a0 r h).pure (by simp [ple, ple1, ple1L, pleL, pleS, Ab.look])
end Go.Proofs.Ytdejapkfijdadaa
end
