/- The law MemHalves: its function's walk, the pure law, the row. Conditions: none. -/
import Derived.Test.YtmpdimigpaogkaaRows
import Derived.WalkKit
import Derived.ProofKit
import Derived.OpenShut
import Derived.ShutString
import Derived.ChangeOld
import Derived.Below
import Derived.SizedLaws
import Derived.Carry
import Derived.Test.YtmpdimigpaogkaaK5
set_option linter.unusedVariables false
set_option linter.unusedSimpArgs false
section
namespace Go.Proofs.Ytmpdimigpaogkaa
open Go.Ab Go.RowKit Go.Proofs.Ytmpdimigpaogkaa.G Go.Proofs.YtmpdimigpaogkaaW.PrintWords Go.Proofs.YtmpdimigpaogkaaW.PrintLast
set_option maxRecDepth 100000
set_option maxHeartbeats 4000000
noncomputable def d7 (a0_0 : List V) (a0_1 : List V) (a1_0 : Int) (a1_1 : Int) (a1_2 : Bool) (a1_3 : Int) : Option (Bool) :=
  (d14).bind fun x1 =>
  Option.bind (α := Bool) (
    if (notB' x1) = true then
      some true
    else
      (d18 a0_0 a0_1).bind fun x9 =>
      if (cmpLit .neq x9 0) = true then
        some true
      else
        (d30 a1_1 false).bind fun x10 =>
        if (cmpLit .neq x10 0) = true then
          some true
        else
          some (cmpLit .eql a1_1 1)) fun y8 =>
  if y8 = true then
    some x1
  else
    if (Ne0 2) then
      (d16 a0_0 a0_1 a1_0 a1_1 false).bind fun x12 =>
      (d16 a0_0 a0_1 a1_0 (arReal .quo .i64 a1_1 2) false).bind fun x13 =>
      (d16 a0_0 a0_1 (arReal .add .i64 a1_0 (arReal .quo .i64 a1_1 2)) (arReal .quo .i64 a1_1 2) false).bind fun x14 =>
      Option.bind (α := Bool) (
        if (cmpLit .neq x12.2.2.2 0) = true then
          some true
        else
          if (cmpLit .neq x13.2.2.2 0) = true then
            some true
          else
            if (cmpLit .neq x14.2.2.2 0) = true then
              some true
            else
              if (cmpLit .eql x13.2.1 0) = true then
                some (notB' (beqB (cmpLit .eql x12.2.1 0) (cmpLit .eql x14.2.1 0)))
              else
                some (notB' (beqB (cmpLit .eql x12.2.1 0) false))) fun y17 =>
      if y17 = true then
        some false
      else
        Option.bind (α := (Unit) ⊕ (Bool)) (
          if (cmpLit .eql x12.2.1 0) = true then
            if (Ge0 (arReal .mul .i64 8 (arReal .quo .i64 a1_1 2))) then
              if (cmpLit .neq x12.1 (arReal .add .i64 x13.1 (arReal .shl .i64 x14.1 (arReal .mul .i64 8 (arReal .quo .i64 a1_1 2))))) = true then
                some (.inr false)
              else
                some (.inl ())
            else none
          else
            some (.inl ())) fun y19 =>
        match y19 with
        | .inl p20 =>
          (d17 a0_0 a0_1 a1_0 a1_1 false a1_3).bind fun x21 =>
          if (cmpLit .neq x21.2.2.1 0) = true then
            some true
          else
            (d17 a0_0 a0_1 a1_0 (arReal .quo .i64 a1_1 2) false a1_3).bind fun x22 =>
            if (Ge0 (arReal .mul .i64 8 (arReal .quo .i64 a1_1 2))) then
              (d17 x22.1 x22.2.1 (arReal .add .i64 a1_0 (arReal .quo .i64 a1_1 2)) (arReal .quo .i64 a1_1 2) false (arReal .shr .i64 a1_3 (arReal .mul .i64 8 (arReal .quo .i64 a1_1 2)))).bind fun x23 =>
              if (cmpLit .eql x22.2.2.1 0) = true then
                if (cmpLit .eql x23.2.2.1 0) = true then
                  (d29 x21.1 x21.2.1 x23.1 x23.2.1).bind fun x25 =>
                  some x25
                else
                  some false
              else
                some false
            else none
        | .inr y19r0 =>
          some y19r0
    else none
noncomputable def w7_c : Code := (Try.f7.body).getD .skip
theorem w7_h : Try.f7.body = some w7_c := by kernel_rfl
theorem w7 (a0_0 : List V) (a0_1 : List V) (a1_0 : Int) (a1_1 : Int) (a1_2 : Bool) (a1_3 : Int) (r : Bool) (h : d7 a0_0 a0_1 a1_0 a1_1 a1_2 a1_3 = some r) : Ab.Fn Try.prog TT 7 [.agg [.sl 3 a0_0, .sl 5 a0_1], .agg [.i .i64 a1_0, .i .i64 a1_1, .b a1_2, .i .i64 a1_3]] (.b r) [] := by
  refine fn_pure tok (fun r => match r with | 18 => [[],[],[],[],[3],[],[5],[5,6],[3,4,5,6,7],[0,1,2,3,4,5,6,7,8],[0,1,2,3,4,5,6,7,8,9],[0,1,2,3,4,5,6,7,8,9,10],[0,1,2,3,4,5,6,7,8,9,10],[0,1,2,3,4,5,6,7,8,9,10],[],[],[0,1,2,3,4,5,6,7,8,9,10,11,14,15],[0,1,2,3,4,5,6,7,8,9,10,11,12,14,15,16],[0,1,2,3,4,5,6,7,8,9,10,11,12,13,14,15,16,17]] | _ => []) Try.func7 (by kernel_rfl) w7_h (by kernel_rfl) ?_
  intro ar un cv mn mx pl mi cmp nt beq an scmp cat slen sbyte ssub ofB toB len gi gb gs gl sub put app ovl rep ne0 ge0 inb bnd room sroom need br call loop cut nl E R K hK
  have D := E.D
  clear E
  unfold d7 at h
  cbv
  refine R.callD h (fun x1 hx1 h2 => ?_)
  clear h; have h := h2; clear h2
  refine R.call' (w14 _ hx1) (by (first | rfl | simp only [D.har, D.hbeq, D.hcmp, D.hge0, D.hne0, D.hnt])) ?_
  clear hx1; cbv
  refine R.cut' (by kernel_rfl) (by kernel_rfl) ?_
  cbv
  refine R.cutB (fun p => p) (fun _ _ e => e) h [] (fun p11 => [(47, .b p11)]) (fun p11 => []) (by kernel_rfl) (by kernel_rfl) (fun y8 hy hFy8 L hLy8 => ?_) (fun p11 h2 => ?_)
  · clear h; have h := hy; clear hy; cbv
    refine R.brD h (by (first | rfl | simp only [D.har, D.hbeq, D.hcmp, D.hge0, D.hne0, D.hnt])) ?_ ?_ <;> clear h <;> intro h <;> cbv
    · obtain ⟨s', e, hi⟩ := jn_some (fun p => p) h
      refine hLy8 s' _ _ hi ⟨rfl, ?_, ?_, rfl, rfl⟩ <;> cbv <;> (try (subst e; simp only [D.har, D.hbeq, D.hcmp, D.hge0, D.hne0, D.hnt, and_self, and_true, true_and] <;> (repeat' apply And.intro) <;> rfl))
    · refine R.callD h (fun x9 hx9 h2 => ?_)
      clear h; have h := h2; clear h2
      refine R.call' (w18 _ _ _ hx9) (by (first | rfl | simp only [D.har, D.hbeq, D.hcmp, D.hge0, D.hne0, D.hnt])) ?_
      clear hx9; cbv
      refine R.brD h (by (first | rfl | simp only [D.har, D.hbeq, D.hcmp, D.hge0, D.hne0, D.hnt])) ?_ ?_ <;> clear h <;> intro h <;> cbv
      · obtain ⟨s', e, hi⟩ := jn_some (fun p => p) h
        refine hLy8 s' _ _ hi ⟨rfl, ?_, ?_, rfl, rfl⟩ <;> cbv <;> (try (subst e; simp only [D.har, D.hbeq, D.hcmp, D.hge0, D.hne0, D.hnt, and_self, and_true, true_and] <;> (repeat' apply And.intro) <;> rfl))
      · refine R.callD h (fun x10 hx10 h2 => ?_)
        clear h; have h := h2; clear h2
        refine R.call' (w30 _ _ _ hx10) (by (first | rfl | simp only [D.har, D.hbeq, D.hcmp, D.hge0, D.hne0, D.hnt])) ?_
        clear hx10; cbv
        refine R.brD h (by (first | rfl | simp only [D.har, D.hbeq, D.hcmp, D.hge0, D.hne0, D.hnt])) ?_ ?_ <;> clear h <;> intro h <;> cbv
        · obtain ⟨s', e, hi⟩ := jn_some (fun p => p) h
          refine hLy8 s' _ _ hi ⟨rfl, ?_, ?_, rfl, rfl⟩ <;> cbv <;> (try (subst e; simp only [D.har, D.hbeq, D.hcmp, D.hge0, D.hne0, D.hnt, and_self, and_true, true_and] <;> (repeat' apply And.intro) <;> rfl))
        · obtain ⟨s', e, hi⟩ := jn_some (fun p => p) h
          refine hLy8 s' _ _ hi ⟨rfl, ?_, ?_, rfl, rfl⟩ <;> cbv <;> (try (subst e; simp only [D.har, D.hbeq, D.hcmp, D.hge0, D.hne0, D.hnt, and_self, and_true, true_and] <;> (repeat' apply And.intro) <;> rfl))
  · clear h; have h := h2; clear h2; try dsimp only at h
    cbv
    refine R.brD h (by (first | rfl | simp only [D.har, D.hbeq, D.hcmp, D.hge0, D.hne0, D.hnt])) ?_ ?_ <;> clear h <;> intro h <;> cbv
    · have e := ret_some h; clear h
      refine hK _ _ ?_
      cbv
      try (subst e; simp only [D.har, D.hbeq, D.hcmp, D.hge0, D.hne0, D.hnt, and_self, and_true, true_and] <;> (repeat' apply And.intro) <;> rfl)
    · refine R.needD h (by (first | rfl | simp only [D.har, D.hbeq, D.hcmp, D.hge0, D.hne0, D.hnt])) ?_
      clear h; intro h; cbv
      refine R.callD h (fun x12 hx12 h2 => ?_)
      clear h; have h := h2; clear h2
      refine R.call' (w16 _ _ _ _ _ _ hx12) (by (first | rfl | simp only [D.har, D.hbeq, D.hcmp, D.hge0, D.hne0, D.hnt])) ?_
      clear hx12; cbv
      refine R.callD h (fun x13 hx13 h2 => ?_)
      clear h; have h := h2; clear h2
      refine R.call' (w16 _ _ _ _ _ _ hx13) (by (first | rfl | simp only [D.har, D.hbeq, D.hcmp, D.hge0, D.hne0, D.hnt])) ?_
      clear hx13; cbv
      refine R.callD h (fun x14 hx14 h2 => ?_)
      clear h; have h := h2; clear h2
      refine R.call' (w16 _ _ _ _ _ _ hx14) (by (first | rfl | simp only [D.har, D.hbeq, D.hcmp, D.hge0, D.hne0, D.hnt])) ?_
      clear hx14; cbv
      refine R.cut' (by kernel_rfl) (by kernel_rfl) ?_
      cbv
      refine R.cutB (fun p => p) (fun _ _ e => e) h [] (fun p18 => [(109, .b p18)]) (fun p18 => []) (by kernel_rfl) (by kernel_rfl) (fun y17 hy hFy17 L hLy17 => ?_) (fun p18 h2 => ?_)
      · clear h; have h := hy; clear hy; cbv
        refine R.brD h (by (first | rfl | simp only [D.har, D.hbeq, D.hcmp, D.hge0, D.hne0, D.hnt])) ?_ ?_ <;> clear h <;> intro h <;> cbv
        · obtain ⟨s', e, hi⟩ := jn_some (fun p => p) h
          refine hLy17 s' _ _ hi ⟨rfl, ?_, ?_, rfl, rfl⟩ <;> cbv <;> (try (subst e; simp only [D.har, D.hbeq, D.hcmp, D.hge0, D.hne0, D.hnt, and_self, and_true, true_and] <;> (repeat' apply And.intro) <;> rfl))
        · refine R.brD h (by (first | rfl | simp only [D.har, D.hbeq, D.hcmp, D.hge0, D.hne0, D.hnt])) ?_ ?_ <;> clear h <;> intro h <;> cbv
          · obtain ⟨s', e, hi⟩ := jn_some (fun p => p) h
            refine hLy17 s' _ _ hi ⟨rfl, ?_, ?_, rfl, rfl⟩ <;> cbv <;> (try (subst e; simp only [D.har, D.hbeq, D.hcmp, D.hge0, D.hne0, D.hnt, and_self, and_true, true_and] <;> (repeat' apply And.intro) <;> rfl))
          · refine R.brD h (by (first | rfl | simp only [D.har, D.hbeq, D.hcmp, D.hge0, D.hne0, D.hnt])) ?_ ?_ <;> clear h <;> intro h <;> cbv
            · obtain ⟨s', e, hi⟩ := jn_some (fun p => p) h
              refine hLy17 s' _ _ hi ⟨rfl, ?_, ?_, rfl, rfl⟩ <;> cbv <;> (try (subst e; simp only [D.har, D.hbeq, D.hcmp, D.hge0, D.hne0, D.hnt, and_self, and_true, true_and] <;> (repeat' apply And.intro) <;> rfl))
            · refine R.brD h (by (first | rfl | simp only [D.har, D.hbeq, D.hcmp, D.hge0, D.hne0, D.hnt])) ?_ ?_ <;> clear h <;> intro h <;> cbv
              · obtain ⟨s', e, hi⟩ := jn_some (fun p => p) h
                refine hLy17 s' _ _ hi ⟨rfl, ?_, ?_, rfl, rfl⟩ <;> cbv <;> (try (subst e; simp only [D.har, D.hbeq, D.hcmp, D.hge0, D.hne0, D.hnt, and_self, and_true, true_and] <;> (repeat' apply And.intro) <;> rfl))
              · obtain ⟨s', e, hi⟩ := jn_some (fun p => p) h
                refine hLy17 s' _ _ hi ⟨rfl, ?_, ?_, rfl, rfl⟩ <;> cbv <;> (try (subst e; simp only [D.har, D.hbeq, D.hcmp, D.hge0, D.hne0, D.hnt, and_self, and_true, true_and] <;> (repeat' apply And.intro) <;> rfl))
      · clear h; have h := h2; clear h2; try dsimp only at h
        cbv
        refine R.brD h (by (first | rfl | simp only [D.har, D.hbeq, D.hcmp, D.hge0, D.hne0, D.hnt])) ?_ ?_ <;> clear h <;> intro h <;> cbv
        · have e := ret_some h; clear h
          refine hK _ _ ?_
          cbv
          try (subst e; simp only [D.har, D.hbeq, D.hcmp, D.hge0, D.hne0, D.hnt, and_self, and_true, true_and] <;> (repeat' apply And.intro) <;> rfl)
        · refine R.cutB Sum.inl (fun _ _ e => Sum.inl.inj e) h [] (fun p20 => []) (fun p20 => []) (by kernel_rfl) (by kernel_rfl) (fun y19 hy hFy19 L hLy19 => ?_) (fun p20 h2 => ?_)
          · clear h; have h := hy; clear hy; cbv
            refine R.cut' (by kernel_rfl) (by kernel_rfl) ?_
            cbv
            refine R.brD h (by (first | rfl | simp only [D.har, D.hbeq, D.hcmp, D.hge0, D.hne0, D.hnt])) ?_ ?_ <;> clear h <;> intro h <;> cbv
            · refine R.needD h (by (first | rfl | simp only [D.har, D.hbeq, D.hcmp, D.hge0, D.hne0, D.hnt])) ?_
              clear h; intro h; cbv
              refine R.brD h (by (first | rfl | simp only [D.har, D.hbeq, D.hcmp, D.hge0, D.hne0, D.hnt])) ?_ ?_ <;> clear h <;> intro h <;> cbv
              · have e := ret_some h; clear h
                have h := hFy19; rw [e] at h; clear e; try dsimp only at h
                cbv
                have e := ret_some h; clear h
                refine hK _ _ ?_
                cbv
                try (subst e; simp only [D.har, D.hbeq, D.hcmp, D.hge0, D.hne0, D.hnt, and_self, and_true, true_and] <;> (repeat' apply And.intro) <;> rfl)
              · obtain ⟨s', e, hi⟩ := jn_some Sum.inl h
                refine hLy19 s' _ _ hi ⟨rfl, ?_, ?_, rfl, rfl⟩ <;> cbv <;> (try (subst e; simp only [D.har, D.hbeq, D.hcmp, D.hge0, D.hne0, D.hnt, and_self, and_true, true_and] <;> (repeat' apply And.intro) <;> rfl))
            · obtain ⟨s', e, hi⟩ := jn_some Sum.inl h
              refine hLy19 s' _ _ hi ⟨rfl, ?_, ?_, rfl, rfl⟩ <;> cbv <;> (try (subst e; simp only [D.har, D.hbeq, D.hcmp, D.hge0, D.hne0, D.hnt, and_self, and_true, true_and] <;> (repeat' apply And.intro) <;> rfl))
          · clear h; have h := h2; clear h2; try dsimp only at h
            cbv
            refine R.callD h (fun x21 hx21 h2 => ?_)
            clear h; have h := h2; clear h2
            refine R.call' (w17s _ _ _ _ _ _ _ hx21) (by (first | rfl | simp only [D.har, D.hbeq, D.hcmp, D.hge0, D.hne0, D.hnt])) ?_
            clear hx21; cbv
            refine R.cut' (by kernel_rfl) (by kernel_rfl) ?_
            cbv
            refine R.brD h (by (first | rfl | simp only [D.har, D.hbeq, D.hcmp, D.hge0, D.hne0, D.hnt])) ?_ ?_ <;> clear h <;> intro h <;> cbv
            · have e := ret_some h; clear h
              refine hK _ _ ?_
              cbv
              try (subst e; simp only [D.har, D.hbeq, D.hcmp, D.hge0, D.hne0, D.hnt, and_self, and_true, true_and] <;> (repeat' apply And.intro) <;> rfl)
            · refine R.callD h (fun x22 hx22 h2 => ?_)
              clear h; have h := h2; clear h2
              refine R.call' (w17s _ _ _ _ _ _ _ hx22) (by (first | rfl | simp only [D.har, D.hbeq, D.hcmp, D.hge0, D.hne0, D.hnt])) ?_
              clear hx22; cbv
              refine R.needD h (by (first | rfl | simp only [D.har, D.hbeq, D.hcmp, D.hge0, D.hne0, D.hnt])) ?_
              clear h; intro h; cbv
              refine R.callD h (fun x23 hx23 h2 => ?_)
              clear h; have h := h2; clear h2
              refine R.call' (w17s _ _ _ _ _ _ _ hx23) (by (first | rfl | simp only [D.har, D.hbeq, D.hcmp, D.hge0, D.hne0, D.hnt])) ?_
              clear hx23; cbv
              refine R.cut' (by kernel_rfl) (by kernel_rfl) ?_
              cbv
              refine R.brD h (by (first | rfl | simp only [D.har, D.hbeq, D.hcmp, D.hge0, D.hne0, D.hnt])) ?_ ?_ <;> clear h <;> intro h <;> cbv
              · refine R.brD h (by (first | rfl | simp only [D.har, D.hbeq, D.hcmp, D.hge0, D.hne0, D.hnt])) ?_ ?_ <;> clear h <;> intro h <;> cbv
                · refine R.callD h (fun x25 hx25 h2 => ?_)
                  clear h; have h := h2; clear h2
                  refine R.call' (w29 _ _ _ _ _ hx25) (by (first | rfl | simp only [D.har, D.hbeq, D.hcmp, D.hge0, D.hne0, D.hnt])) ?_
                  clear hx25; cbv
                  have e := ret_some h; clear h
                  refine hK _ _ ?_
                  cbv
                  try (subst e; simp only [D.har, D.hbeq, D.hcmp, D.hge0, D.hne0, D.hnt, and_self, and_true, true_and] <;> (repeat' apply And.intro) <;> rfl)
                · have e := ret_some h; clear h
                  refine hK _ _ ?_
                  cbv
                  try (subst e; simp only [D.har, D.hbeq, D.hcmp, D.hge0, D.hne0, D.hnt, and_self, and_true, true_and] <;> (repeat' apply And.intro) <;> rfl)
              · have e := ret_some h; clear h
                refine hK _ _ ?_
                cbv
                try (subst e; simp only [D.har, D.hbeq, D.hcmp, D.hge0, D.hne0, D.hnt, and_self, and_true, true_and] <;> (repeat' apply And.intro) <;> rfl)

end Go.Proofs.Ytmpdimigpaogkaa

end
section
/- The one statement over its function that the law MemHalves comes to. Conditions: none. -/
-- Told by a program of this seat's session. Not trusted: Lean checks it.

namespace Go.Proofs.Ytmpdimigpaogkaa
open Go.Ab Go.RowKit
def MemHalves.Claim : Prop := ∀ (x0 : ((List Int) × (List Int))) (x1 : (Int × ((Int × Bool) × Int))), (fun x : ((List Int) × (List Int)) => (fun l : List Int => l.length ≤ maxLen ∧ ∀ x ∈ l, (fun n : Int => (Lit.int .i64 n).wf = true) x) x.1 ∧ (fun l : List Int => l.length ≤ maxLen ∧ ∀ x ∈ l, (fun n : Int => (Lit.int .u8 n).wf = true) x) x.2) x0 → (fun x : (Int × ((Int × Bool) × Int)) => (fun n : Int => (Lit.int .i64 n).wf = true) x.1 ∧ (fun x : ((Int × Bool) × Int) => (fun x : (Int × Bool) => (fun n : Int => (Lit.int .i64 n).wf = true) x.1 ∧ (fun _ : Bool => True) x.2) x.1 ∧ (fun n : Int => (Lit.int .i64 n).wf = true) x.2) x.2) x1 → Ab.Fn Try.prog TT 7 [.agg [.sl 3 (x0.1.map (fun x : Int => .i .i64 x)), .sl 5 (x0.2.map (fun x : Int => .i .u8 x))], .agg [.i .i64 x1.1, .i .i64 x1.2.1.1, .b x1.2.1.2, .i .i64 x1.2.2]] (.b true) []
end Go.Proofs.Ytmpdimigpaogkaa
end
section
/- The law MemHalves: loads and stores are made of those of half the size. Conditions: none. -/

namespace Go.Proofs.Ytmpdimigpaogkaa
open Go.Ab Go.RowKit Go.Proofs.Ytmpdimigpaogkaa.G Go.Proofs.YtmpdimigpaogkaaW.PrintWords Go.Proofs.YtmpdimigpaogkaaW.PrintLast
theorem bind_toH {α β : Type} {x : Option α} {F : α → Option β} {a : α} {r : Option β} (h : x = some a) (k : F a = r) : x.bind F = r := by subst h; exact k
theorem storeV_okH {P B : List Int} (hc : checkV P B = 0) {a : Int} (ht : tyOk a = true) (at_ : Int) (b : Bool) (v : Int) : storeV P B at_ a b v = (if (fault P B at_ a 2).1 ≠ 0 then ([], [], (fault P B at_ a 2).1, (fault P B at_ a 2).2, 0) else (ints P, u8s (stored B at_ a b v), 0, 0, 0)) := by
  unfold storeV
  rw [if_neg (not_not_intro hc), if_pos ht]
theorem loadV_okH {P B : List Int} (hc : checkV P B = 0) {a : Int} (ht : tyOk a = true) (at_ : Int) (b : Bool) : loadV P B at_ a b = (if (fault P B at_ a 1).1 ≠ 0 then (0, (fault P B at_ a 1).1, (fault P B at_ a 1).2, 0) else (loaded B at_ a b, 0, 0, 0)) := by
  unfold loadV
  rw [if_neg (not_not_intro hc), if_pos ht]
theorem part_two {B : List Int} {x h : Int} (h0 : 0 ≤ x) (hh : 0 ≤ h) (h1 : x + (h + h) ≤ ln B) : part B x (h + h) = part B x h ++ part B (x + h) h := by
  have e1 := part_ln (B := B) h0 hh (by omega)
  have e2 := part_ln (B := B) (at_ := x + h) (by omega) hh (by omega)
  have e3 := part_ln (B := B) h0 (n := h + h) (by omega) h1
  refine eq_of_rd (by unfold ln at *; simp; omega) (fun i i0 i1 => ?_)
  rw [e3] at i1
  rw [rdI_part h0 h1 i0 i1]
  unfold ln at e1 e2
  by_cases hi : i < h
  · have : rdI (part B x h ++ part B (x + h) h) i = rdI (part B x h) i := by
      unfold rdI
      rw [List.getD_eq_getElem?_getD, List.getD_eq_getElem?_getD, List.getElem?_append_left (by omega)]
    rw [this, rdI_part h0 (by omega) i0 hi]
  · have : rdI (part B x h ++ part B (x + h) h) i = rdI (part B (x + h) h) (i - h) := by
      unfold rdI
      rw [List.getD_eq_getElem?_getD, List.getD_eq_getElem?_getD, List.getElem?_append_right (by omega)]
      congr 2
      omega
    rw [this, rdI_part (by omega) (by omega) (by omega) (by omega)]
    congr 1; omega
theorem halves_val {p q : List Int} {h : Int} (hh : h = 1 ∨ h = 2 ∨ h = 4) (hp : Bytes p) (hq : Bytes q) (lp : ln p = h) (lq : ln q = h) :
    wrapT (h + h) false (IntKind.i64.wrap (le (p ++ q))) = arReal .add .i64 (wrapT h false (IntKind.i64.wrap (le p))) (arReal .shl .i64 (wrapT h false (IntKind.i64.wrap (le q))) (8 * h)) := by
  have b1 := le_bound p hp
  have b2 := le_bound q hq
  rw [le_append]
  unfold ln at lp lq
  have e : ∀ a c, arReal .add .i64 a (arReal .shl .i64 c (8 * h)) = IntKind.i64.wrap (a + IntKind.i64.wrap (c * 2 ^ (min (8 * h).toNat 64))) := fun _ _ => rfl
  rw [e]
  generalize le p = L at *
  generalize le q = R at *
  rcases hh with rfl | rfl | rfl
  · have np : p.length = 1 := by omega
    have nq : q.length = 1 := by omega
    rw [np] at b1 ⊢
    rw [nq] at b2
    simp [wrapT, wr64] at *
    omega
  · have np : p.length = 2 := by omega
    have nq : q.length = 2 := by omega
    rw [np] at b1 ⊢
    rw [nq] at b2
    simp [wrapT, wr64] at *
    omega
  · have np : p.length = 4 := by omega
    have nq : q.length = 4 := by omega
    rw [np] at b1 ⊢
    rw [nq] at b2
    simp [wrapT, wr64, wrap64] at *
    omega
theorem stored_two {B : List Int} {x h v : Int} (hh : h = 1 ∨ h = 2 ∨ h = 4) (h0 : 0 ≤ x) (h1 : x + (h + h) ≤ ln B) : stored B x (h + h) false v = stored (stored B x h false v) (x + h) h false (arReal .shr .i64 v (8 * h)) := by
  have t1 : tyOk h = true := by rcases hh with rfl | rfl | rfl <;> rfl
  have t2 : tyOk (h + h) = true := by rcases hh with rfl | rfl | rfl <;> rfl
  unfold stored
  rw [leBytes_wrapT _ _ _ t2, leBytes_wrapT _ _ _ t1, leBytes_wrapT _ _ _ t1]
  have e : arReal .shr .i64 v (8 * h) = v / 256 ^ h.toNat := by
    show v.fdiv (2 ^ (min (8 * h).toNat 64)) = _
    rw [Int.fdiv_eq_ediv_of_nonneg _ (Int.le_of_lt (Int.pow_pos (by decide)))]
    rcases hh with rfl | rfl | rfl <;> rfl
  rw [e, show (h + h).toNat = h.toNat + h.toNat from by omega, leBytes_app]
  have l1 := leBytes_length h.toNat v
  have l2 := leBytes_length h.toNat (v / 256 ^ h.toNat)
  unfold ln at h1
  rw [show (x + h).toNat = x.toNat + (leBytes h.toNat v).length from by omega, spl_spl (by omega)]
theorem d7_core (P B : List Int) (hB : Bytes B) (hP : ln P ≤ 9223372036854775807) (x h : Int) (b : Bool) (v : Int) (hx : -9223372036854775808 ≤ x ∧ x ≤ 9223372036854775807) (hh : h = 1 ∨ h = 2 ∨ h = 4) : d7 (ints P) (u8s B) x (h + h) b v = some true := by
  have t1 : tyOk h = true := by rcases hh with rfl | rfl | rfl <;> rfl
  have t2 : tyOk (h + h) = true := by rcases hh with rfl | rfl | rfl <;> rfl
  have eq : arReal .quo .i64 (h + h) 2 = h := by rcases hh with rfl | rfl | rfl <;> rfl
  have e8 : arReal .mul .i64 8 h = 8 * h := a_mul (by omega) (by omega)
  have ex : arReal .add .i64 x h = IntKind.i64.wrap (x + h) := rfl
  unfold d7
  rw [s14, Option.bind_some, if_neg (by simp [notB']), s18, Option.bind_some]
  by_cases hc : checkV P B = 0
  · obtain ⟨c1, c2, c3⟩ := check_to hc
    rw [if_neg (by simp [c_neq, hc]), s30, Option.bind_some, if_pos t2, if_neg (by simp [c_neq]), Option.bind_some, if_neg (by simp [c_eql]; omega), if_pos (show Ne0 2 by unfold Ne0; omega), eq, ex, e8]
    have hy := i64_r (x + h)
    rw [s16 P B hB x hx, Option.bind_some, s16 P B hB x hx, Option.bind_some, s16 P B hB _ hy, Option.bind_some, loadV_okH hc t2, loadV_okH hc t1, loadV_okH hc t1]
    have tw := fun p hp => fault_two (P := P) (B := B) (a := x) (k := h) (by omega) (p := p) hp
    have tw1 := tw 1 (.inr (.inl rfl))
    have tw2 := tw 2 (.inr (.inr (.inl rfl)))
    refine bind_toH (a := false) ?_ ?_
    · by_cases hf : (fault P B x (h + h) 1).1 = 0
      · obtain ⟨g1, g2⟩ := tw1.1 hf
        simp [hf, g1, g2, c_neq, c_eql, notB', beqB]
      · by_cases g1 : (fault P B x h 1).1 = 0
        · have g2 : ¬ (fault P B (IntKind.i64.wrap (x + h)) h 1).1 = 0 := fun g2 => hf (tw1.2 ⟨g1, g2⟩)
          simp [hf, g1, g2, c_neq, c_eql, notB', beqB]
        · by_cases g2 : (fault P B (IntKind.i64.wrap (x + h)) h 1).1 = 0 <;> simp [hf, g1, g2, c_neq, c_eql, notB', beqB]
    · rw [if_neg (by simp)]
      refine bind_toH (a := Sum.inl ()) ?_ ?_
      · by_cases hf : (fault P B x (h + h) 1).1 = 0
        · obtain ⟨g1, g2⟩ := tw1.1 hf
          obtain ⟨f1, f2, f3⟩ := fault_in hc hx (by omega) (by omega) (.inr (.inl rfl)) hf
          have e5 : IntKind.i64.wrap (x + h) = x + h := wr (by omega) (by omega)
          rw [if_neg (not_not_intro hf), if_neg (not_not_intro g1), if_neg (not_not_intro g2), e5]
          have hv := halves_val hh (part_bytes (B := B) (at_ := x) (n := h) hB) (part_bytes (B := B) (at_ := x + h) (n := h) hB) (part_ln f1 (by omega) (by omega)) (part_ln (by omega) (by omega) (by omega))
          rw [← part_two f1 (by omega) f2] at hv
          have hv2 : loaded B x (h + h) false = arReal .add .i64 (loaded B x h false) (arReal .shl .i64 (loaded B (x + h) h false) (8 * h)) := hv
          simp only [c_eql, decide_true, if_true]
          rw [if_pos (show Ge0 (8 * h) by unfold Ge0; omega), ← hv2, if_neg (by simp [c_neq])]
        · rw [if_pos hf, if_neg (by simp [c_eql, hf])]
      · simp only []
        rw [s17 P B x hx, Option.bind_some, storeV_okH hc t2]
        by_cases hf : (fault P B x (h + h) 2).1 = 0
        · obtain ⟨g1, g2⟩ := tw2.1 hf
          obtain ⟨f1, f2, f3⟩ := fault_in hc hx (by omega) (by omega) (.inr (.inr (.inl rfl))) hf
          have e5 : IntKind.i64.wrap (x + h) = x + h := wr (by omega) (by omega)
          rw [if_neg (not_not_intro hf), if_neg (by simp [c_neq]), s17 P B x hx, Option.bind_some, storeV_okH hc t1, if_neg (not_not_intro g1), if_pos (show Ge0 (8 * h) by unfold Ge0; omega)]
          simp only []
          have hl : ln (stored B x h false v) = ln B := stored_ln (by omega) f1 (by omega)
          have hl2 : ln (stored B x (h + h) false v) = ln B := stored_ln (by omega) f1 (by omega)
          rw [s17 P _ _ hy, Option.bind_some, storeV_okH (check_len hl hc) t1, fault_len (C := B) (by unfold ln at hl; omega), if_neg (not_not_intro g2)]
          simp only [c_eql, decide_true, if_true]
          rw [e5, ← stored_two hh f1 f2, s29 P _ P _ hP (by omega)]
          simp
        · rw [if_pos hf, if_pos (by simp [c_neq, hf])]
  · rw [if_pos (by simp [c_neq, hc]), Option.bind_some, if_pos rfl]
theorem d7_true (P B : List Int) (hB : Bytes B) (hP : ln P ≤ 9223372036854775807) (x n : Int) (b : Bool) (v : Int) (hx : -9223372036854775808 ≤ x ∧ x ≤ 9223372036854775807) : d7 (ints P) (u8s B) x n b v = some true := by
  by_cases h2 : n = 2
  · subst h2; exact d7_core P B hB hP x 1 b v hx (by omega)
  · by_cases h4 : n = 4
    · subst h4; exact d7_core P B hB hP x 2 b v hx (by omega)
    · by_cases h8 : n = 8
      · subst h8; exact d7_core P B hB hP x 4 b v hx (by omega)
      · unfold d7
        rw [s14, Option.bind_some, if_neg (by simp [notB']), s18, Option.bind_some]
        refine bind_toH (a := true) ?_ (by rw [if_pos rfl])
        split
        · rfl
        · rw [s30, Option.bind_some]
          by_cases ht : tyOk n = true
          · have := ty_iff.1 ht
            have : n = 1 := by omega
            subst this; rfl
          · rw [if_neg ht, if_pos (by simp [c_neq])]
theorem MemHalves.pure : MemHalves.Claim := by
  intro x0 x1 h0 h1
  exact w7 (ints x0.1) (u8s x0.2) x1.1 x1.2.1.1 x1.2.1.2 x1.2.2 true (d7_true x0.1 x0.2 (bytesWf h0.2.2) (lnmax h0.1.1) x1.1 x1.2.1.1 x1.2.1.2 x1.2.2 (wf64 h1.1))
end Go.Proofs.Ytmpdimigpaogkaa
end
section
/- MemHalves: the law's call returns true for every input, and its arguments read afterwards as_ before. Conditions: none. -/
-- Told by a program of this seat's session. Not trusted: Lean checks it.

namespace Go.Proofs.Ytmpdimigpaogkaa.memHalves
open Go.ChangeShapes Go.WideShapes Go.ChangeAt Go.RowKit Go.Ab Go.Proofs.Ytmpdimigpaogkaa
open Go.ChangeMaps (open_string shut_string)
theorem own : ownKnob Try.prog.godebug = none := by kernel_rfl
theorem laidOut : laidOutB Try.prog = true := by kernel_rfl
set_option maxRecDepth 100000 in
set_option maxHeartbeats 8000000 in
theorem lifted (os : Os) (started : os.Started) (H : Type) (enc : TypeId × Value → H) :
    ReturnsInHanded {} Try.checked os 7 .any (Rows.memHalvesSpec.pre6 enc Try.prog Try.f7 Rows.memHalvesRow.domain false) (Rows.memHalvesSpec.post enc Try.prog Try.f7 false true false false) := by
  refine returnsInHanded_of_change_sized (C := Try.checked) own started (by kernel_rfl) Try.func7
    (ChangeSpec.witness6 (enc := enc) (C := Try.checked) false ⟨#[], #[.agg #[.slice none 0 0, .slice none 0 0], .agg #[.int .i64 0, .int .i64 0, .bool false, .int .i64 0]], []⟩ 8 (by kernel_rfl) (by kernel_rfl) (by kernel_rfl) (by kernel_rfl)) ?_
  intro W base args ds gs before hval0 hW hcnd hsz0 _
  have hval : ∀ (j : Nat) t v, Try.f7.params[j]? = some t → args[j]? = some v → Value.okWide Try.prog W .any base t v := hval0
  have hW' := hW
  obtain ⟨p, q, hA0, hV, rfl, hfz, hnd⟩ := hW
  have hA : DataW.TrodAll enc Try.prog W 0 (fun _ => true) true Try.f7.params.toList args.toList ds p := hA0
  rw [Try.params7] at hA hval
  obtain ⟨v0, vs0, d0, ds0, p0, q0, hargs, rfl, rfl, h0, r0⟩ := trodAll_cons hA
  obtain ⟨v1, vs1, d1, ds1, p1, q1, rfl, rfl, rfl, h1, r1⟩ := trodAll_cons r0
  obtain ⟨rfl, rfl, rfl⟩ := trodAll_nil r1
  obtain rfl : args = #[v0, v1] := by cases args; simp_all
  obtain ⟨rfl, rfl⟩ := trodVars_none hV
  have k0 := h0
  have lt0 : ∀ x ∈ p0, x.block < W.heap.size := by obtain ⟨m, hm⟩ := k0; exact DataW.trod_lt m _ _ _ hm
  obtain ⟨cs0, rfl, sz0⟩ := okWide_struct Try.underlying25 (hval 0 25 v0 rfl rfl)
  obtain ⟨x0, ra0, rb0, _, ok0⟩ := h0.elim fun fuel hf => ((OpV.struct tok (te := te25) (by kernel_rfl) rfl (by kernel_rfl) (OpAt.cons rfl (by kernel_rfl) (OpV.slice tok (fun x : Int => .i .i64 x) (te := te22) (eu := te3) (by kernel_rfl) rfl (by kernel_rfl) (by decide) (by kernel_rfl) (.inr ⟨by kernel_rfl, rfl, fun _ => rfl⟩) (OpV.int tok (e := te3) (by kernel_rfl) rfl)) (OpAt.last rfl (by kernel_rfl) (OpV.slice tok (fun x : Int => .i .u8 x) (te := te23) (eu := te5) (by kernel_rfl) rfl (by kernel_rfl) (by decide) (by kernel_rfl) (.inr ⟨by kernel_rfl, rfl, fun _ => rfl⟩) (OpV.int tok (e := te5) (by kernel_rfl) rfl))))) : OpV TT enc Try.prog W 25 _ _ _) _ _ _ hf
  have k1 := h1
  have lt1 : ∀ x ∈ p1, x.block < W.heap.size := by obtain ⟨m, hm⟩ := k1; exact DataW.trod_lt m _ _ _ hm
  obtain ⟨cs1, rfl, sz1⟩ := okWide_struct Try.underlying31 (hval 1 31 v1 rfl rfl)
  obtain ⟨x1, ra1, rb1, _, ok1⟩ := h1.elim fun fuel hf => ((OpV.struct tok (te := te31) (by kernel_rfl) rfl (by kernel_rfl) (OpAt.cons rfl (by kernel_rfl) (OpV.int tok (e := te2) (by kernel_rfl) rfl) (OpAt.cons rfl (by kernel_rfl) (OpV.struct tok (te := te29) (by kernel_rfl) rfl (by kernel_rfl) (OpAt.cons rfl (by kernel_rfl) (OpV.int tok (e := te3) (by kernel_rfl) rfl) (OpAt.last rfl (by kernel_rfl) (OpV.bool tok (e := te4) (by kernel_rfl) rfl)))) (OpAt.last rfl (by kernel_rfl) (OpV.int tok (e := te2) (by kernel_rfl) rfl))))) : OpV TT enc Try.prog W 31 _ _ _) _ _ _ hf
  clear hA0 hval0 hsz0
  refine (law_calls (w := W) (MemHalves.pure x0 x1 ok0 ok1) (args_agg ra0 rb0 (args_agg ra1 rb1 args_nil))).mono fun e W' ⟨he, bel⟩ => ?_
  subst he
  exact ⟨_, rfl, _, _, _, [], _, [], hW', trodAll_mk1 (shut_bool Try.underlying4 _), (trodAll_cons_mk (Below.trod laidOut (by kernel_rfl) (of_decide_eq_true (by kernel_rfl)) k0 bel lt0) (trodAll_cons_mk (Below.trod laidOut (by kernel_rfl) (of_decide_eq_true (by kernel_rfl)) k1 bel lt1) trodAll_mk0)), rfl, bel.frame _, fun h => by cases h⟩
theorem over : Rows.memHalvesRow.holds Try.pinned (OpenSpec.ofChange Rows.memHalvesSpec) :=
  OpenClaim.holds_of_wide 7 Try.f7 rfl rfl rfl rfl rfl rfl rfl ⟨rfl, rfl, rfl, rfl, rfl⟩ rfl rfl rfl rfl rfl (by kernel_rfl) Try.func7 (by kernel_rfl)
    (of_decide_eq_true (by kernel_rfl)) (by unfold Func.isWrapper; first | (rw [if_pos (by decide +kernel)]; kernel_rfl) | (rw [if_neg (by decide +kernel)]; exact ⟨rfl, rfl⟩))
    (fun os started H enc _ => lifted os started H enc)
theorem proved : Rows.MemHalvesSaid := over
end Go.Proofs.Ytmpdimigpaogkaa.memHalves
namespace Go.Proofs.Ytmpdimigpaogkaa
theorem memHalves_holds : Rows.MemHalvesSaid := memHalves.proved
end Go.Proofs.Ytmpdimigpaogkaa
end
