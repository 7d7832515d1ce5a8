/- The law MemApart: its function's walk, the pure law, the row. Conditions: none. -/
import Derived.Test.YtmpdimigpaogkaaRows
import Derived.WalkKit
import Derived.ProofKit
import Derived.OpenShut
import Derived.ShutString
import Derived.ChangeOld
import Derived.Below
import Derived.SizedLaws
import Derived.Carry
import Derived.Test.YtmpdimigpaogkaaK5
set_option linter.unusedVariables false
set_option linter.unusedSimpArgs false
section
namespace Go.Proofs.Ytmpdimigpaogkaa
open Go.Ab Go.RowKit Go.Proofs.Ytmpdimigpaogkaa.G Go.Proofs.YtmpdimigpaogkaaW.PrintWords Go.Proofs.YtmpdimigpaogkaaW.PrintLast
set_option maxRecDepth 100000
set_option maxHeartbeats 4000000
noncomputable def d6 (a0_0 : List V) (a0_1 : List V) (a1_0 : Int) (a1_1 : Int) (a1_2 : Bool) (a1_3 : Int) (a2_0 : Int) (a2_1 : Int) (a2_2 : Bool) (a2_3 : Int) : Option (Bool) :=
  (d14).bind fun x1 =>
  Option.bind (α := Bool) (
    if (notB' x1) = true then
      some true
    else
      (d18 a0_0 a0_1).bind fun x13 =>
      if (cmpLit .neq x13 0) = true then
        some true
      else
        (d30 a1_1 a1_2).bind fun x14 =>
        if (cmpLit .neq x14 0) = true then
          some true
        else
          (d30 a2_1 a2_2).bind fun x15 =>
          if (cmpLit .neq x15 0) = true then
            some true
          else
            (d31 a1_0 a1_1 a1_2 a1_3 a2_0 a2_1 a2_2 a2_3).bind fun x16 =>
            some (notB' x16)) fun y12 =>
  if y12 = true then
    some x1
  else
    (d17 a0_0 a0_1 a1_0 a1_1 a1_2 a1_3).bind fun x18 =>
    (d17 a0_0 a0_1 a2_0 a2_1 a2_2 a2_3).bind fun x19 =>
    if (cmpLit .neq x18.2.2.2.2 0) = true then
      some false
    else
      if (cmpLit .neq x19.2.2.2.2 0) = true then
        some false
      else
        Option.bind (α := List V × List V) (
          if (cmpLit .neq x18.2.2.1 0) = true then
            some (a0_0, a0_1)
          else
            some (x18.1, x18.2.1)) fun y20 =>
        Option.bind (α := List V × List V) (
          if (cmpLit .neq x19.2.2.1 0) = true then
            some (a0_0, a0_1)
          else
            some (x19.1, x19.2.1)) fun y22 =>
        (d17 y20.1 y20.2 a2_0 a2_1 a2_2 a2_3).bind fun x24 =>
        (d17 y22.1 y22.2 a1_0 a1_1 a1_2 a1_3).bind fun x25 =>
        Option.bind (α := List V × List V) (
          if (cmpLit .neq x19.2.2.1 0) = true then
            some (y20.1, y20.2)
          else
            some (x24.1, x24.2.1)) fun y26 =>
        Option.bind (α := List V × List V) (
          if (cmpLit .neq x18.2.2.1 0) = true then
            some (y22.1, y22.2)
          else
            some (x25.1, x25.2.1)) fun y28 =>
        if (andB' (cmpLit .eql x24.2.2.1 x19.2.2.1) (cmpLit .eql x24.2.2.2.1 x19.2.2.2.1)) = true then
          if (andB' (cmpLit .eql x25.2.2.1 x18.2.2.1) (cmpLit .eql x25.2.2.2.1 x18.2.2.2.1)) = true then
            (d29 y26.1 y26.2 y28.1 y28.2).bind fun x31 =>
            some x31
          else
            some false
        else
          some false
noncomputable def w6_c : Code := (Try.f6.body).getD .skip
theorem w6_h : Try.f6.body = some w6_c := by kernel_rfl
theorem w6 (a0_0 : List V) (a0_1 : List V) (a1_0 : Int) (a1_1 : Int) (a1_2 : Bool) (a1_3 : Int) (a2_0 : Int) (a2_1 : Int) (a2_2 : Bool) (a2_3 : Int) (r : Bool) (h : d6 a0_0 a0_1 a1_0 a1_1 a1_2 a1_3 a2_0 a2_1 a2_2 a2_3 = some r) : Ab.Fn Try.prog TT 6 [.agg [.sl 3 a0_0, .sl 5 a0_1], .agg [.i .i64 a1_0, .i .i64 a1_1, .b a1_2, .i .i64 a1_3], .agg [.i .i64 a2_0, .i .i64 a2_1, .b a2_2, .i .i64 a2_3]] (.b r) [] := by
  refine fn_pure tok W0 Try.func6 (by kernel_rfl) w6_h (by kernel_rfl) ?_
  intro ar un cv mn mx pl mi cmp nt beq an scmp cat slen sbyte ssub ofB toB len gi gb gs gl sub put app ovl rep ne0 ge0 inb bnd room sroom need br call loop cut nl E R K hK
  have D := E.D
  clear E
  unfold d6 at h
  cbv
  refine R.callD h (fun x1 hx1 h2 => ?_)
  clear h; have h := h2; clear h2
  refine R.call' (w14 _ hx1) (by (first | rfl | simp only [D.han, D.hcmp, D.hnt])) ?_
  clear hx1; cbv
  refine R.cut' (by kernel_rfl) (by kernel_rfl) ?_
  cbv
  refine R.cutB (fun p => p) (fun _ _ e => e) h [] (fun p17 => [(45, .b p17)]) (fun p17 => []) (by kernel_rfl) (by kernel_rfl) (fun y12 hy hFy12 L hLy12 => ?_) (fun p17 h2 => ?_)
  · clear h; have h := hy; clear hy; cbv
    refine R.brD h (by (first | rfl | simp only [D.han, D.hcmp, D.hnt])) ?_ ?_ <;> clear h <;> intro h <;> cbv
    · obtain ⟨s', e, hi⟩ := jn_some (fun p => p) h
      refine hLy12 s' _ _ hi ⟨rfl, ?_, ?_, rfl, rfl⟩ <;> cbv <;> (try (subst e; simp only [D.han, D.hcmp, D.hnt, and_self, and_true, true_and] <;> (repeat' apply And.intro) <;> rfl))
    · refine R.callD h (fun x13 hx13 h2 => ?_)
      clear h; have h := h2; clear h2
      refine R.call' (w18 _ _ _ hx13) (by (first | rfl | simp only [D.han, D.hcmp, D.hnt])) ?_
      clear hx13; cbv
      refine R.brD h (by (first | rfl | simp only [D.han, D.hcmp, D.hnt])) ?_ ?_ <;> clear h <;> intro h <;> cbv
      · obtain ⟨s', e, hi⟩ := jn_some (fun p => p) h
        refine hLy12 s' _ _ hi ⟨rfl, ?_, ?_, rfl, rfl⟩ <;> cbv <;> (try (subst e; simp only [D.han, D.hcmp, D.hnt, and_self, and_true, true_and] <;> (repeat' apply And.intro) <;> rfl))
      · refine R.callD h (fun x14 hx14 h2 => ?_)
        clear h; have h := h2; clear h2
        refine R.call' (w30 _ _ _ hx14) (by (first | rfl | simp only [D.han, D.hcmp, D.hnt])) ?_
        clear hx14; cbv
        refine R.brD h (by (first | rfl | simp only [D.han, D.hcmp, D.hnt])) ?_ ?_ <;> clear h <;> intro h <;> cbv
        · obtain ⟨s', e, hi⟩ := jn_some (fun p => p) h
          refine hLy12 s' _ _ hi ⟨rfl, ?_, ?_, rfl, rfl⟩ <;> cbv <;> (try (subst e; simp only [D.han, D.hcmp, D.hnt, and_self, and_true, true_and] <;> (repeat' apply And.intro) <;> rfl))
        · refine R.callD h (fun x15 hx15 h2 => ?_)
          clear h; have h := h2; clear h2
          refine R.call' (w30 _ _ _ hx15) (by (first | rfl | simp only [D.han, D.hcmp, D.hnt])) ?_
          clear hx15; cbv
          refine R.brD h (by (first | rfl | simp only [D.han, D.hcmp, D.hnt])) ?_ ?_ <;> clear h <;> intro h <;> cbv
          · obtain ⟨s', e, hi⟩ := jn_some (fun p => p) h
            refine hLy12 s' _ _ hi ⟨rfl, ?_, ?_, rfl, rfl⟩ <;> cbv <;> (try (subst e; simp only [D.han, D.hcmp, D.hnt, and_self, and_true, true_and] <;> (repeat' apply And.intro) <;> rfl))
          · refine R.callD h (fun x16 hx16 h2 => ?_)
            clear h; have h := h2; clear h2
            refine R.call' (w31 _ _ _ _ _ _ _ _ _ hx16) (by (first | rfl | simp only [D.han, D.hcmp, D.hnt])) ?_
            clear hx16; cbv
            obtain ⟨s', e, hi⟩ := jn_some (fun p => p) h
            refine hLy12 s' _ _ hi ⟨rfl, ?_, ?_, rfl, rfl⟩ <;> cbv <;> (try (subst e; simp only [D.han, D.hcmp, D.hnt, and_self, and_true, true_and] <;> (repeat' apply And.intro) <;> rfl))
  · clear h; have h := h2; clear h2; try dsimp only at h
    cbv
    refine R.brD h (by (first | rfl | simp only [D.han, D.hcmp, D.hnt])) ?_ ?_ <;> clear h <;> intro h <;> cbv
    · have e := ret_some h; clear h
      refine hK _ _ ?_
      cbv
      try (subst e; simp only [D.han, D.hcmp, D.hnt, and_self, and_true, true_and] <;> (repeat' apply And.intro) <;> rfl)
    · refine R.callD h (fun x18 hx18 h2 => ?_)
      clear h; have h := h2; clear h2
      refine R.call' (w17s _ _ _ _ _ _ _ hx18) (by (first | rfl | simp only [D.han, D.hcmp, D.hnt])) ?_
      clear hx18; cbv
      refine R.callD h (fun x19 hx19 h2 => ?_)
      clear h; have h := h2; clear h2
      refine R.call' (w17s _ _ _ _ _ _ _ hx19) (by (first | rfl | simp only [D.han, D.hcmp, D.hnt])) ?_
      clear hx19; cbv
      refine R.cut' (by kernel_rfl) (by kernel_rfl) ?_
      cbv
      refine R.cut' (by kernel_rfl) (by kernel_rfl) ?_
      cbv
      refine R.brD h (by (first | rfl | simp only [D.han, D.hcmp, D.hnt])) ?_ ?_ <;> clear h <;> intro h <;> cbv
      · have e := ret_some h; clear h
        refine hK _ _ ?_
        cbv
        try (subst e; simp only [D.han, D.hcmp, D.hnt, and_self, and_true, true_and] <;> (repeat' apply And.intro) <;> rfl)
      · refine R.brD h (by (first | rfl | simp only [D.han, D.hcmp, D.hnt])) ?_ ?_ <;> clear h <;> intro h <;> cbv
        · have e := ret_some h; clear h
          refine hK _ _ ?_
          cbv
          try (subst e; simp only [D.han, D.hcmp, D.hnt, and_self, and_true, true_and] <;> (repeat' apply And.intro) <;> rfl)
        · refine R.cutB (fun p => p) (fun _ _ e => e) h [] (fun p21 => []) (fun p21 => [(128, .cells 25 [.sl 3 p21.1, .sl 5 p21.2])]) (by kernel_rfl) (by kernel_rfl) (fun y20 hy hFy20 L hLy20 => ?_) (fun p21 h2 => ?_)
          · clear h; have h := hy; clear hy; cbv
            refine R.brD h (by (first | rfl | simp only [D.han, D.hcmp, D.hnt])) ?_ ?_ <;> clear h <;> intro h <;> cbv
            · obtain ⟨s', e, hi⟩ := jn_some (fun p => p) h
              refine hLy20 s' _ _ hi ⟨rfl, ?_, ?_, rfl, rfl⟩ <;> cbv <;> (try (subst e; simp only [D.han, D.hcmp, D.hnt, and_self, and_true, true_and] <;> (repeat' apply And.intro) <;> rfl))
            · obtain ⟨s', e, hi⟩ := jn_some (fun p => p) h
              refine hLy20 s' _ _ hi ⟨rfl, ?_, ?_, rfl, rfl⟩ <;> cbv <;> (try (subst e; simp only [D.han, D.hcmp, D.hnt, and_self, and_true, true_and] <;> (repeat' apply And.intro) <;> rfl))
          · clear h; have h := h2; clear h2; try dsimp only at h
            cbv
            refine R.cutB (fun p => p) (fun _ _ e => e) h [] (fun p23 => []) (fun p23 => [(176, .cells 25 [.sl 3 p23.1, .sl 5 p23.2])]) (by kernel_rfl) (by kernel_rfl) (fun y22 hy hFy22 L hLy22 => ?_) (fun p23 h2 => ?_)
            · clear h; have h := hy; clear hy; cbv
              refine R.brD h (by (first | rfl | simp only [D.han, D.hcmp, D.hnt])) ?_ ?_ <;> clear h <;> intro h <;> cbv
              · obtain ⟨s', e, hi⟩ := jn_some (fun p => p) h
                refine hLy22 s' _ _ hi ⟨rfl, ?_, ?_, rfl, rfl⟩ <;> cbv <;> (try (subst e; simp only [D.han, D.hcmp, D.hnt, and_self, and_true, true_and] <;> (repeat' apply And.intro) <;> rfl))
              · obtain ⟨s', e, hi⟩ := jn_some (fun p => p) h
                refine hLy22 s' _ _ hi ⟨rfl, ?_, ?_, rfl, rfl⟩ <;> cbv <;> (try (subst e; simp only [D.han, D.hcmp, D.hnt, and_self, and_true, true_and] <;> (repeat' apply And.intro) <;> rfl))
            · clear h; have h := h2; clear h2; try dsimp only at h
              cbv
              refine R.callD h (fun x24 hx24 h2 => ?_)
              clear h; have h := h2; clear h2
              refine R.call' (w17s _ _ _ _ _ _ _ hx24) (by (first | rfl | simp only [D.han, D.hcmp, D.hnt])) ?_
              clear hx24; cbv
              refine R.callD h (fun x25 hx25 h2 => ?_)
              clear h; have h := h2; clear h2
              refine R.call' (w17s _ _ _ _ _ _ _ hx25) (by (first | rfl | simp only [D.han, D.hcmp, D.hnt])) ?_
              clear hx25; cbv
              refine R.cutB (fun p => p) (fun _ _ e => e) h [] (fun p27 => []) (fun p27 => [(224, .cells 25 [.sl 3 p27.1, .sl 5 p27.2])]) (by kernel_rfl) (by kernel_rfl) (fun y26 hy hFy26 L hLy26 => ?_) (fun p27 h2 => ?_)
              · clear h; have h := hy; clear hy; cbv
                refine R.brD h (by (first | rfl | simp only [D.han, D.hcmp, D.hnt])) ?_ ?_ <;> clear h <;> intro h <;> cbv
                · obtain ⟨s', e, hi⟩ := jn_some (fun p => p) h
                  refine hLy26 s' _ _ hi ⟨rfl, ?_, ?_, rfl, rfl⟩ <;> cbv <;> (try (subst e; simp only [D.han, D.hcmp, D.hnt, and_self, and_true, true_and] <;> (repeat' apply And.intro) <;> rfl))
                · obtain ⟨s', e, hi⟩ := jn_some (fun p => p) h
                  refine hLy26 s' _ _ hi ⟨rfl, ?_, ?_, rfl, rfl⟩ <;> cbv <;> (try (subst e; simp only [D.han, D.hcmp, D.hnt, and_self, and_true, true_and] <;> (repeat' apply And.intro) <;> rfl))
              · clear h; have h := h2; clear h2; try dsimp only at h
                cbv
                refine R.cutB (fun p => p) (fun _ _ e => e) h [] (fun p29 => []) (fun p29 => [(272, .cells 25 [.sl 3 p29.1, .sl 5 p29.2])]) (by kernel_rfl) (by kernel_rfl) (fun y28 hy hFy28 L hLy28 => ?_) (fun p29 h2 => ?_)
                · clear h; have h := hy; clear hy; cbv
                  refine R.brD h (by (first | rfl | simp only [D.han, D.hcmp, D.hnt])) ?_ ?_ <;> clear h <;> intro h <;> cbv
                  · obtain ⟨s', e, hi⟩ := jn_some (fun p => p) h
                    refine hLy28 s' _ _ hi ⟨rfl, ?_, ?_, rfl, rfl⟩ <;> cbv <;> (try (subst e; simp only [D.han, D.hcmp, D.hnt, and_self, and_true, true_and] <;> (repeat' apply And.intro) <;> rfl))
                  · obtain ⟨s', e, hi⟩ := jn_some (fun p => p) h
                    refine hLy28 s' _ _ hi ⟨rfl, ?_, ?_, rfl, rfl⟩ <;> cbv <;> (try (subst e; simp only [D.han, D.hcmp, D.hnt, and_self, and_true, true_and] <;> (repeat' apply And.intro) <;> rfl))
                · clear h; have h := h2; clear h2; try dsimp only at h
                  cbv
                  refine R.cut' (by kernel_rfl) (by kernel_rfl) ?_
                  cbv
                  refine R.brD h (by (first | rfl | simp only [D.han, D.hcmp, D.hnt])) ?_ ?_ <;> clear h <;> intro h <;> cbv
                  · refine R.brD h (by (first | rfl | simp only [D.han, D.hcmp, D.hnt])) ?_ ?_ <;> clear h <;> intro h <;> cbv
                    · refine R.callD h (fun x31 hx31 h2 => ?_)
                      clear h; have h := h2; clear h2
                      refine R.call' (w29 _ _ _ _ _ hx31) (by (first | rfl | simp only [D.han, D.hcmp, D.hnt])) ?_
                      clear hx31; cbv
                      have e := ret_some h; clear h
                      refine hK _ _ ?_
                      cbv
                      try (subst e; simp only [D.han, D.hcmp, D.hnt, and_self, and_true, true_and] <;> (repeat' apply And.intro) <;> rfl)
                    · have e := ret_some h; clear h
                      refine hK _ _ ?_
                      cbv
                      try (subst e; simp only [D.han, D.hcmp, D.hnt, and_self, and_true, true_and] <;> (repeat' apply And.intro) <;> rfl)
                  · have e := ret_some h; clear h
                    refine hK _ _ ?_
                    cbv
                    try (subst e; simp only [D.han, D.hcmp, D.hnt, and_self, and_true, true_and] <;> (repeat' apply And.intro) <;> rfl)
end Go.Proofs.Ytmpdimigpaogkaa

end
section
/- The one statement over its function that the law MemApart comes to. Conditions: none. -/
-- Told by a program of this seat's session. Not trusted: Lean checks it.

namespace Go.Proofs.Ytmpdimigpaogkaa
open Go.Ab Go.RowKit
def MemApart.Claim : Prop := ∀ (x0 : ((List Int) × (List Int))) (x1 : (Int × ((Int × Bool) × Int))) (x2 : (Int × ((Int × Bool) × Int))), (fun x : ((List Int) × (List Int)) => (fun l : List Int => l.length ≤ maxLen ∧ ∀ x ∈ l, (fun n : Int => (Lit.int .i64 n).wf = true) x) x.1 ∧ (fun l : List Int => l.length ≤ maxLen ∧ ∀ x ∈ l, (fun n : Int => (Lit.int .u8 n).wf = true) x) x.2) x0 → (fun x : (Int × ((Int × Bool) × Int)) => (fun n : Int => (Lit.int .i64 n).wf = true) x.1 ∧ (fun x : ((Int × Bool) × Int) => (fun x : (Int × Bool) => (fun n : Int => (Lit.int .i64 n).wf = true) x.1 ∧ (fun _ : Bool => True) x.2) x.1 ∧ (fun n : Int => (Lit.int .i64 n).wf = true) x.2) x.2) x1 → (fun x : (Int × ((Int × Bool) × Int)) => (fun n : Int => (Lit.int .i64 n).wf = true) x.1 ∧ (fun x : ((Int × Bool) × Int) => (fun x : (Int × Bool) => (fun n : Int => (Lit.int .i64 n).wf = true) x.1 ∧ (fun _ : Bool => True) x.2) x.1 ∧ (fun n : Int => (Lit.int .i64 n).wf = true) x.2) x.2) x2 → Ab.Fn Try.prog TT 6 [.agg [.sl 3 (x0.1.map (fun x : Int => .i .i64 x)), .sl 5 (x0.2.map (fun x : Int => .i .u8 x))], .agg [.i .i64 x1.1, .i .i64 x1.2.1.1, .b x1.2.1.2, .i .i64 x1.2.2], .agg [.i .i64 x2.1, .i .i64 x2.2.1.1, .b x2.2.1.2, .i .i64 x2.2.2]] (.b true) []
end Go.Proofs.Ytmpdimigpaogkaa
end
section
/- The law MemApart: stores to parts that do not overlap commute. Conditions: none. -/

namespace Go.Proofs.Ytmpdimigpaogkaa
open Go.Ab Go.RowKit Go.Proofs.Ytmpdimigpaogkaa.G Go.Proofs.YtmpdimigpaogkaaW.PrintWords Go.Proofs.YtmpdimigpaogkaaW.PrintLast
theorem storeV_ok {P B : List Int} (hc : checkV P B = 0) {a : Int} (ht : tyOk a = true) (at_ : Int) (b : Bool) (v : Int) : storeV P B at_ a b v = (if (fault P B at_ a 2).1 ≠ 0 then ([], [], (fault P B at_ a 2).1, (fault P B at_ a 2).2, 0) else (ints P, u8s (stored B at_ a b v), 0, 0, 0)) := by
  unfold storeV
  rw [if_neg (not_not_intro hc), if_pos ht]
theorem stored_comm {B : List Int} {x n y m : Int} (b : Bool) (v : Int) (c : Bool) (w : Int) (hn : 0 ≤ n) (hm : 0 ≤ m) (hx : 0 ≤ x) (hy : 0 ≤ y) (h1 : x + n ≤ ln B) (h2 : y + m ≤ ln B) (hd : x + n ≤ y ∨ y + m ≤ x) : stored (stored B x n b v) y m c w = stored (stored B y m c w) x n b v := by
  have l1 : ln (leBytes n.toNat (wrapT n b v)) = n := by unfold ln; rw [leBytes_length]; omega
  have l2 : ln (leBytes m.toNat (wrapT m c w)) = m := by unfold ln; rw [leBytes_length]; omega
  exact spl_comm hx hy (by omega) (by omega) (by omega)
theorem d6_true (P B : List Int) (hP : ln P ≤ 9223372036854775807) (x n : Int) (b : Bool) (v : Int) (hx : -9223372036854775808 ≤ x ∧ x ≤ 9223372036854775807) (y m : Int) (c : Bool) (w : Int) (hy : -9223372036854775808 ≤ y ∧ y ≤ 9223372036854775807) : d6 (ints P) (u8s B) x n b v y m c w = some true := by
  unfold d6
  rw [s14, Option.bind_some, if_neg (by simp [notB']), s18, Option.bind_some]
  by_cases hc : checkV P B = 0
  · obtain ⟨c1, c2, c3⟩ := check_to hc
    rw [if_neg (by simp [c_neq, hc]), s30, Option.bind_some]
    by_cases hn : tyOk n = true
    · have := ty_pos hn
      rw [if_pos hn, if_neg (by simp [c_neq]), s30, Option.bind_some]
      by_cases hm : tyOk m = true
      · have := ty_pos hm
        rw [if_pos hm, if_neg (by simp [c_neq]), s31, Option.bind_some, Option.bind_some]
        by_cases hap : apartB x n y m = true
        · rw [if_neg (by simp [notB', hap])]
          have hd : x + n ≤ y ∨ y + m ≤ x := by
            unfold apartB at hap
            have := of_decide_eq_true hap
            rw [wr (by omega) (by omega), wr (by omega) (by omega)] at this
            exact this.2.2.2.2
          rw [s17 P B x hx, Option.bind_some, s17 P B y hy, Option.bind_some, storeV_ok hc hn, storeV_ok hc hm]
          by_cases hf : (fault P B x n 2).1 = 0
          · obtain ⟨f1, f2, f3⟩ := fault_in hc hx (by omega) (by omega) (.inr (.inr (.inl rfl))) hf
            have hl : ln (stored B x n b v) = ln B := stored_ln (by omega) f1 f2
            have hc2 := check_len hl hc
            have hF : ∀ z k, fault P (stored B x n b v) z k 2 = fault P B z k 2 := fun z k => fault_len (by unfold ln at hl; omega) z k 2
            rw [if_neg (not_not_intro hf)]
            by_cases hg : (fault P B y m 2).1 = 0
            · obtain ⟨g1, g2, g3⟩ := fault_in hc hy (by omega) (by omega) (.inr (.inr (.inl rfl))) hg
              have hl2 : ln (stored B y m c w) = ln B := stored_ln (by omega) g1 g2
              have hc3 := check_len hl2 hc
              have hG : ∀ z k, fault P (stored B y m c w) z k 2 = fault P B z k 2 := fun z k => fault_len (by unfold ln at hl2; omega) z k 2
              rw [if_neg (not_not_intro hg)]
              simp only [c_neq, ne_eq, not_true_eq_false, decide_false, Bool.false_eq_true, if_false, Option.bind_some]
              rw [s17 P _ y hy, Option.bind_some, s17 P _ x hx, Option.bind_some, storeV_ok hc2 hm, storeV_ok hc3 hn, hF, hG, if_neg (not_not_intro hg), if_neg (not_not_intro hf)]
              simp only [c_neq, c_eql, ne_eq, not_true_eq_false, decide_false, Bool.false_eq_true, if_false, Option.bind_some, andB', decide_true, Bool.and_self, if_true]
              rw [stored_comm b v c w (by omega) (by omega) f1 g1 f2 g2 hd, s29 P _ P _ hP (by rw [stored_ln (by omega) f1 (by rw [hl2]; exact f2), hl2]; omega)]
              simp
            · rw [if_pos hg]
              simp only [c_neq, c_eql, ne_eq, not_true_eq_false, decide_false, Bool.false_eq_true, if_false, Option.bind_some, hg, not_false_eq_true, decide_true, if_true]
              rw [s17 P _ y hy, Option.bind_some, s17 P _ x hx, Option.bind_some, storeV_ok hc2 hm, storeV_ok hc hn, hF, if_pos hg, if_neg (not_not_intro hf)]
              simp only [c_neq, c_eql, ne_eq, not_true_eq_false, decide_false, Bool.false_eq_true, if_false, Option.bind_some, andB', decide_true, Bool.and_self, if_true]
              rw [s29 P _ P _ hP (by rw [hl]; omega)]
              simp
          · rw [if_pos hf]
            by_cases hg : (fault P B y m 2).1 = 0
            · obtain ⟨g1, g2, g3⟩ := fault_in hc hy (by omega) (by omega) (.inr (.inr (.inl rfl))) hg
              have hl2 : ln (stored B y m c w) = ln B := stored_ln (by omega) g1 g2
              have hc3 := check_len hl2 hc
              have hG : ∀ z k, fault P (stored B y m c w) z k 2 = fault P B z k 2 := fun z k => fault_len (by unfold ln at hl2; omega) z k 2
              rw [if_neg (not_not_intro hg)]
              simp only [c_neq, c_eql, ne_eq, not_true_eq_false, decide_false, Bool.false_eq_true, if_false, Option.bind_some, hf, not_false_eq_true, decide_true, if_true]
              rw [s17 P _ y hy, Option.bind_some, s17 P _ x hx, Option.bind_some, storeV_ok hc hm, storeV_ok hc3 hn, hG, if_neg (not_not_intro hg), if_pos hf]
              simp only [c_neq, c_eql, ne_eq, not_true_eq_false, decide_false, Bool.false_eq_true, if_false, Option.bind_some, andB', decide_true, Bool.and_self, if_true]
              rw [s29 P _ P _ hP (by rw [hl2]; omega)]
              simp
            · rw [if_pos hg]
              simp only [c_neq, c_eql, ne_eq, not_true_eq_false, decide_false, Bool.false_eq_true, if_false, Option.bind_some, hf, hg, not_false_eq_true, decide_true, if_true]
              rw [s17 P _ y hy, Option.bind_some, s17 P _ x hx, Option.bind_some, storeV_ok hc hm, storeV_ok hc hn, if_pos hg, if_pos hf]
              simp only [c_neq, c_eql, ne_eq, not_true_eq_false, decide_false, Bool.false_eq_true, if_false, Option.bind_some, andB', decide_true, Bool.and_self, if_true]
              rw [s29 P _ P _ hP (by omega)]
              simp
        · rw [if_pos (by simp [notB', hap])]
      · rw [if_neg hm, if_pos (by simp [c_neq]), Option.bind_some, if_pos rfl]
    · rw [if_neg hn, if_pos (by simp [c_neq]), Option.bind_some, if_pos rfl]
  · rw [if_pos (by simp [c_neq, hc]), Option.bind_some, if_pos rfl]
theorem MemApart.pure : MemApart.Claim := by
  intro x0 x1 x2 h0 h1 h2
  exact w6 (ints x0.1) (u8s x0.2) x1.1 x1.2.1.1 x1.2.1.2 x1.2.2 x2.1 x2.2.1.1 x2.2.1.2 x2.2.2 true (d6_true x0.1 x0.2 (lnmax h0.1.1) x1.1 x1.2.1.1 x1.2.1.2 x1.2.2 (wf64 h1.1) x2.1 x2.2.1.1 x2.2.1.2 x2.2.2 (wf64 h2.1))
end Go.Proofs.Ytmpdimigpaogkaa
end
section
/- MemApart: the law's call returns true for every input, and its arguments read afterwards as_ before. Conditions: none. -/
-- Told by a program of this seat's session. Not trusted: Lean checks it.

namespace Go.Proofs.Ytmpdimigpaogkaa.memApart
open Go.ChangeShapes Go.WideShapes Go.ChangeAt Go.RowKit Go.Ab Go.Proofs.Ytmpdimigpaogkaa
open Go.ChangeMaps (open_string shut_string)
theorem own : ownKnob Try.prog.godebug = none := by kernel_rfl
theorem laidOut : laidOutB Try.prog = true := by kernel_rfl
set_option maxRecDepth 100000 in
set_option maxHeartbeats 8000000 in
theorem lifted (os : Os) (started : os.Started) (H : Type) (enc : TypeId × Value → H) :
    ReturnsInHanded {} Try.checked os 6 .any (Rows.memApartSpec.pre6 enc Try.prog Try.f6 Rows.memApartRow.domain false) (Rows.memApartSpec.post enc Try.prog Try.f6 false true false false) := by
  refine returnsInHanded_of_change_sized (C := Try.checked) own started (by kernel_rfl) Try.func6
    (ChangeSpec.witness6 (enc := enc) (C := Try.checked) false ⟨#[], #[.agg #[.slice none 0 0, .slice none 0 0], .agg #[.int .i64 0, .int .i64 0, .bool false, .int .i64 0], .agg #[.int .i64 0, .int .i64 0, .bool false, .int .i64 0]], []⟩ 8 (by kernel_rfl) (by kernel_rfl) (by kernel_rfl) (by kernel_rfl)) ?_
  intro W base args ds gs before hval0 hW hcnd hsz0 _
  have hval : ∀ (j : Nat) t v, Try.f6.params[j]? = some t → args[j]? = some v → Value.okWide Try.prog W .any base t v := hval0
  have hW' := hW
  obtain ⟨p, q, hA0, hV, rfl, hfz, hnd⟩ := hW
  have hA : DataW.TrodAll enc Try.prog W 0 (fun _ => true) true Try.f6.params.toList args.toList ds p := hA0
  rw [Try.params6] at hA hval
  obtain ⟨v0, vs0, d0, ds0, p0, q0, hargs, rfl, rfl, h0, r0⟩ := trodAll_cons hA
  obtain ⟨v1, vs1, d1, ds1, p1, q1, rfl, rfl, rfl, h1, r1⟩ := trodAll_cons r0
  obtain ⟨v2, vs2, d2, ds2, p2, q2, rfl, rfl, rfl, h2, r2⟩ := trodAll_cons r1
  obtain ⟨rfl, rfl, rfl⟩ := trodAll_nil r2
  obtain rfl : args = #[v0, v1, v2] := by cases args; simp_all
  obtain ⟨rfl, rfl⟩ := trodVars_none hV
  have k0 := h0
  have lt0 : ∀ x ∈ p0, x.block < W.heap.size := by obtain ⟨m, hm⟩ := k0; exact DataW.trod_lt m _ _ _ hm
  obtain ⟨cs0, rfl, sz0⟩ := okWide_struct Try.underlying25 (hval 0 25 v0 rfl rfl)
  obtain ⟨x0, ra0, rb0, _, ok0⟩ := h0.elim fun fuel hf => ((OpV.struct tok (te := te25) (by kernel_rfl) rfl (by kernel_rfl) (OpAt.cons rfl (by kernel_rfl) (OpV.slice tok (fun x : Int => .i .i64 x) (te := te22) (eu := te3) (by kernel_rfl) rfl (by kernel_rfl) (by decide) (by kernel_rfl) (.inr ⟨by kernel_rfl, rfl, fun _ => rfl⟩) (OpV.int tok (e := te3) (by kernel_rfl) rfl)) (OpAt.last rfl (by kernel_rfl) (OpV.slice tok (fun x : Int => .i .u8 x) (te := te23) (eu := te5) (by kernel_rfl) rfl (by kernel_rfl) (by decide) (by kernel_rfl) (.inr ⟨by kernel_rfl, rfl, fun _ => rfl⟩) (OpV.int tok (e := te5) (by kernel_rfl) rfl))))) : OpV TT enc Try.prog W 25 _ _ _) _ _ _ hf
  have k1 := h1
  have lt1 : ∀ x ∈ p1, x.block < W.heap.size := by obtain ⟨m, hm⟩ := k1; exact DataW.trod_lt m _ _ _ hm
  obtain ⟨cs1, rfl, sz1⟩ := okWide_struct Try.underlying31 (hval 1 31 v1 rfl rfl)
  obtain ⟨x1, ra1, rb1, _, ok1⟩ := h1.elim fun fuel hf => ((OpV.struct tok (te := te31) (by kernel_rfl) rfl (by kernel_rfl) (OpAt.cons rfl (by kernel_rfl) (OpV.int tok (e := te2) (by kernel_rfl) rfl) (OpAt.cons rfl (by kernel_rfl) (OpV.struct tok (te := te29) (by kernel_rfl) rfl (by kernel_rfl) (OpAt.cons rfl (by kernel_rfl) (OpV.int tok (e := te3) (by kernel_rfl) rfl) (OpAt.last rfl (by kernel_rfl) (OpV.bool tok (e := te4) (by kernel_rfl) rfl)))) (OpAt.last rfl (by kernel_rfl) (OpV.int tok (e := te2) (by kernel_rfl) rfl))))) : OpV TT enc Try.prog W 31 _ _ _) _ _ _ hf
  have k2 := h2
  have lt2 : ∀ x ∈ p2, x.block < W.heap.size := by obtain ⟨m, hm⟩ := k2; exact DataW.trod_lt m _ _ _ hm
  obtain ⟨cs2, rfl, sz2⟩ := okWide_struct Try.underlying31 (hval 2 31 v2 rfl rfl)
  obtain ⟨x2, ra2, rb2, _, ok2⟩ := h2.elim fun fuel hf => ((OpV.struct tok (te := te31) (by kernel_rfl) rfl (by kernel_rfl) (OpAt.cons rfl (by kernel_rfl) (OpV.int tok (e := te2) (by kernel_rfl) rfl) (OpAt.cons rfl (by kernel_rfl) (OpV.struct tok (te := te29) (by kernel_rfl) rfl (by kernel_rfl) (OpAt.cons rfl (by kernel_rfl) (OpV.int tok (e := te3) (by kernel_rfl) rfl) (OpAt.last rfl (by kernel_rfl) (OpV.bool tok (e := te4) (by kernel_rfl) rfl)))) (OpAt.last rfl (by kernel_rfl) (OpV.int tok (e := te2) (by kernel_rfl) rfl))))) : OpV TT enc Try.prog W 31 _ _ _) _ _ _ hf
  clear hA0 hval0 hsz0
  refine (law_calls (w := W) (MemApart.pure x0 x1 x2 ok0 ok1 ok2) (args_agg ra0 rb0 (args_agg ra1 rb1 (args_agg ra2 rb2 args_nil)))).mono fun e W' ⟨he, bel⟩ => ?_
  subst he
  exact ⟨_, rfl, _, _, _, [], _, [], hW', trodAll_mk1 (shut_bool Try.underlying4 _), (trodAll_cons_mk (Below.trod laidOut (by kernel_rfl) (of_decide_eq_true (by kernel_rfl)) k0 bel lt0) (trodAll_cons_mk (Below.trod laidOut (by kernel_rfl) (of_decide_eq_true (by kernel_rfl)) k1 bel lt1) (trodAll_cons_mk (Below.trod laidOut (by kernel_rfl) (of_decide_eq_true (by kernel_rfl)) k2 bel lt2) trodAll_mk0))), rfl, bel.frame _, fun h => by cases h⟩
theorem over : Rows.memApartRow.holds Try.pinned (OpenSpec.ofChange Rows.memApartSpec) :=
  OpenClaim.holds_of_wide 6 Try.f6 rfl rfl rfl rfl rfl rfl rfl ⟨rfl, rfl, rfl, rfl, rfl⟩ rfl rfl rfl rfl rfl (by kernel_rfl) Try.func6 (by kernel_rfl)
    (of_decide_eq_true (by kernel_rfl)) (by unfold Func.isWrapper; first | (rw [if_pos (by decide +kernel)]; kernel_rfl) | (rw [if_neg (by decide +kernel)]; exact ⟨rfl, rfl⟩))
    (fun os started H enc _ => lifted os started H enc)
theorem proved : Rows.MemApartSaid := over
end Go.Proofs.Ytmpdimigpaogkaa.memApart
namespace Go.Proofs.Ytmpdimigpaogkaa
theorem memApart_holds : Rows.MemApartSaid := memApart.proved
end Go.Proofs.Ytmpdimigpaogkaa
end
