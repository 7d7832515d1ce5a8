/- The law MemStrings: its function's walk, the pure law, the row. Conditions: none. -/
import Derived.Test.YtmpdimigpaogkaaRows
import Derived.WalkKit
import Derived.ProofKit
import Derived.OpenShut
import Derived.ShutString
import Derived.ChangeOld
import Derived.Below
import Derived.SizedLaws
import Derived.Carry
import Derived.Test.YtmpdimigpaogkaaK5
set_option linter.unusedVariables false
set_option linter.unusedSimpArgs false
section
namespace Go.Proofs.Ytmpdimigpaogkaa
open Go.Ab Go.RowKit Go.Proofs.Ytmpdimigpaogkaa.G Go.Proofs.YtmpdimigpaogkaaW.PrintWords Go.Proofs.YtmpdimigpaogkaaW.PrintLast
set_option maxRecDepth 100000
set_option maxHeartbeats 4000000
noncomputable def d9_b1 (x2 : ByteArray × Int × Int × Int) (s6 : Int) : Option ((Int) ⊕ ((Bool) ⊕ (Unit))) :=
  if (cmpLit .lss s6 (slenI x2.1)) = true then
    if (Inb s6 (slenI x2.1)) then
      if (cmpLit .eql (sbyteI x2.1 s6) 0) = true then
        some (.inr (.inl false))
      else
        some (.inl (arReal .add .i64 s6 1))
    else none
  else
    some (.inr (.inr ()))
noncomputable def d9 (a0_0 : List V) (a0_1 : List V) (a1_0 : Int) (a1_1 : Int) (a1_2 : Int) : Option (Bool) :=
  (d14).bind fun x1 =>
  (d36 a0_0 a0_1 a1_0 a1_1).bind fun x2 =>
  if (notB' x1) = true then
    some x1
  else
    if (cmpLit .neq x2.2.2.2 0) = true then
      some x1
    else
      if (cmpLit .neq x2.2.1 0) = true then
        some x1
      else
        Option.bind (α := (Unit) ⊕ (Bool)) (
          (iter (d9_b1 x2) 0).bind fun y7 =>
          match y7 with
          | .inl p8 =>
            some (.inr p8)
          | .inr y7r0 =>
            some (.inl ())) fun y5 =>
        match y5 with
        | .inl p10 =>
          (d20 a0_0 a0_1 a1_0 (slenI x2.1)).bind fun x11 =>
          Option.bind (α := Bool) (
            if (cmpLit .neq x11.2.2.2 0) = true then
              some true
            else
              if (cmpLit .neq x11.2.1 0) = true then
                some true
              else
                if (strCmp .neq (toBy x11.1) x2.1) = true then
                  some true
                else
                  some (cmpLit .gtr (slenI x2.1) a1_1)) fun y14 =>
          if y14 = true then
            some false
          else
            (d36 a0_0 a0_1 a1_0 (arReal .add .i64 a1_1 1)).bind fun x16 =>
            Option.bind (α := Bool) (
              if (cmpLit .neq x16.2.2.2 0) = true then
                some true
              else
                some (cmpLit .neq x16.2.1 0)) fun y19 =>
            if y19 = true then
              if (cmpLit .eql x16.2.2.2 1) = true then
                some true
              else
                if (cmpLit .eql x16.2.2.1 (arReal .add .i64 a1_0 a1_1)) = true then
                  some (cmpLit .eql (slenI x2.1) a1_1)
                else
                  some false
            else
              if (cmpLit .geq (slenI x16.1) (slenI x2.1)) = true then
                if (Bnd 0 (slenI x2.1) (slenI x16.1)) then
                  if (strCmp .eql (subS x16.1 0 (slenI x2.1)) x2.1) = true then
                    if (cmpLit .eql (slenI x2.1) a1_1) = true then
                      some true
                    else
                      some (strCmp .eql x16.1 x2.1)
                  else
                    some false
                else none
              else
                some false
        | .inr y5r0 =>
          some y5r0
noncomputable def w9_c : Code := (Try.f9.body).getD .skip
theorem w9_h : Try.f9.body = some w9_c := by kernel_rfl
theorem w9 (a0_0 : List V) (a0_1 : List V) (a1_0 : Int) (a1_1 : Int) (a1_2 : Int) (r : Bool) (h : d9 a0_0 a0_1 a1_0 a1_1 a1_2 = some r) : Ab.Fn Try.prog TT 9 [.agg [.sl 3 a0_0, .sl 5 a0_1], .agg [.i .i64 a1_0, .i .i64 a1_1, .i .i64 a1_2]] (.b r) [] := by
  refine fn_pure tok W0 Try.func9 (by kernel_rfl) w9_h (by kernel_rfl) ?_
  intro ar un cv mn mx pl mi cmp nt beq an scmp cat slen sbyte ssub ofB toB len gi gb gs gl sub put app ovl rep ne0 ge0 inb bnd room sroom need br call loop cut nl E R K hK
  have D := E.D
  clear E
  unfold d9 at h
  cbv
  refine R.callD h (fun x1 hx1 h2 => ?_)
  clear h; have h := h2; clear h2
  refine R.call' (w14 _ hx1) (by (first | rfl | simp only [D.har, D.hbnd, D.hcmp, D.hinb, D.hnt, D.hsbyte, D.hscmp, D.hslen, D.hssub, D.htoB])) ?_
  clear hx1; cbv
  refine R.callD h (fun x2 hx2 h2 => ?_)
  clear h; have h := h2; clear h2
  refine R.call' (w36 _ _ _ _ _ hx2) (by (first | rfl | simp only [D.har, D.hbnd, D.hcmp, D.hinb, D.hnt, D.hsbyte, D.hscmp, D.hslen, D.hssub, D.htoB])) ?_
  clear hx2; cbv
  refine R.cut' (by kernel_rfl) (by kernel_rfl) ?_
  cbv
  refine R.cut' (by kernel_rfl) (by kernel_rfl) ?_
  cbv
  refine R.brD h (by (first | rfl | simp only [D.har, D.hbnd, D.hcmp, D.hinb, D.hnt, D.hsbyte, D.hscmp, D.hslen, D.hssub, D.htoB])) ?_ ?_ <;> clear h <;> intro h <;> cbv
  · have e := ret_some h; clear h
    refine hK _ _ ?_
    cbv
    try (subst e; simp only [D.har, D.hbnd, D.hcmp, D.hinb, D.hnt, D.hsbyte, D.hscmp, D.hslen, D.hssub, D.htoB, and_self, and_true, true_and] <;> (repeat' apply And.intro) <;> rfl)
  · refine R.brD h (by (first | rfl | simp only [D.har, D.hbnd, D.hcmp, D.hinb, D.hnt, D.hsbyte, D.hscmp, D.hslen, D.hssub, D.htoB])) ?_ ?_ <;> clear h <;> intro h <;> cbv
    · have e := ret_some h; clear h
      refine hK _ _ ?_
      cbv
      try (subst e; simp only [D.har, D.hbnd, D.hcmp, D.hinb, D.hnt, D.hsbyte, D.hscmp, D.hslen, D.hssub, D.htoB, and_self, and_true, true_and] <;> (repeat' apply And.intro) <;> rfl)
    · refine R.brD h (by (first | rfl | simp only [D.har, D.hbnd, D.hcmp, D.hinb, D.hnt, D.hsbyte, D.hscmp, D.hslen, D.hssub, D.htoB])) ?_ ?_ <;> clear h <;> intro h <;> cbv
      · have e := ret_some h; clear h
        refine hK _ _ ?_
        cbv
        try (subst e; simp only [D.har, D.hbnd, D.hcmp, D.hinb, D.hnt, D.hsbyte, D.hscmp, D.hslen, D.hssub, D.htoB, and_self, and_true, true_and] <;> (repeat' apply And.intro) <;> rfl)
      · refine R.cutB Sum.inl (fun _ _ e => Sum.inl.inj e) h [] (fun p10 => []) (fun p10 => []) (by kernel_rfl) (by kernel_rfl) (fun y5 hy hFy5 L hLy5 => ?_) (fun p10 h2 => ?_)
        · clear h; have h := hy; clear hy; cbv
          refine R.loopD h (fun s0 y7 e0 hi hFs6 => ?_)
          clear h
          refine R.loopI hi [] (fun s6 => [(9, .i .i64 s6)]) (fun s6 => []) ⟨rfl, ?_, ?_, rfl, rfl⟩ (by kernel_rfl) ?_
          · cbv; try (subst e0; simp only [D.har, D.hbnd, D.hcmp, D.hinb, D.hnt, D.hsbyte, D.hscmp, D.hslen, D.hssub, D.htoB, and_self, and_true, true_and] <;> (repeat' apply And.intro) <;> rfl)
          · cbv; try (subst e0; simp only [D.har, D.hbnd, D.hcmp, D.hinb, D.hnt, D.hsbyte, D.hscmp, D.hslen, D.hssub, D.htoB, and_self, and_true, true_and] <;> (repeat' apply And.intro) <;> rfl)
          clear hi e0
          intro s6 m y' hy hins6 houts6 L hLs6
          have h := hy; clear hy; unfold d9_b1 at h
          cbv
          refine R.cut' (by kernel_rfl) (by kernel_rfl) ?_
          cbv
          refine R.brD h (by (first | rfl | simp only [D.har, D.hbnd, D.hcmp, D.hinb, D.hnt, D.hsbyte, D.hscmp, D.hslen, D.hssub, D.htoB])) ?_ ?_ <;> clear h <;> intro h <;> cbv
          · refine R.cut' (by kernel_rfl) (by kernel_rfl) ?_
            cbv
            refine R.needD h (by (first | rfl | simp only [D.har, D.hbnd, D.hcmp, D.hinb, D.hnt, D.hsbyte, D.hscmp, D.hslen, D.hssub, D.htoB])) ?_
            clear h; intro h; cbv
            refine R.brD h (by (first | rfl | simp only [D.har, D.hbnd, D.hcmp, D.hinb, D.hnt, D.hsbyte, D.hscmp, D.hslen, D.hssub, D.htoB])) ?_ ?_ <;> clear h <;> intro h <;> cbv
            · have e := inr_some h houts6; clear h
              have h := hFs6; rw [e] at h; clear e; try dsimp only at h
              cbv
              have e := ret_some h; clear h
              have h := hFy5; rw [e] at h; clear e; try dsimp only at h
              cbv
              have e := ret_some h; clear h
              refine hK _ _ ?_
              cbv
              try (subst e; simp only [D.har, D.hbnd, D.hcmp, D.hinb, D.hnt, D.hsbyte, D.hscmp, D.hslen, D.hssub, D.htoB, and_self, and_true, true_and] <;> (repeat' apply And.intro) <;> rfl)
            · obtain ⟨s', e, hi⟩ := inl_some h hins6
              refine hLs6 s' _ _ hi ⟨rfl, ?_, ?_, rfl, rfl⟩ <;> cbv <;> (try (subst e; simp only [D.har, D.hbnd, D.hcmp, D.hinb, D.hnt, D.hsbyte, D.hscmp, D.hslen, D.hssub, D.htoB, and_self, and_true, true_and] <;> (repeat' apply And.intro) <;> rfl))
          · have e := inr_some h houts6; clear h
            have h := hFs6; rw [e] at h; clear e; try dsimp only at h
            cbv
            obtain ⟨s', e, hi⟩ := jn_some Sum.inl h
            refine hLy5 s' _ _ hi ⟨rfl, ?_, ?_, rfl, rfl⟩ <;> cbv <;> (try (subst e; simp only [D.har, D.hbnd, D.hcmp, D.hinb, D.hnt, D.hsbyte, D.hscmp, D.hslen, D.hssub, D.htoB, and_self, and_true, true_and] <;> (repeat' apply And.intro) <;> rfl))
        · clear h; have h := h2; clear h2; try dsimp only at h
          cbv
          refine R.callD h (fun x11 hx11 h2 => ?_)
          clear h; have h := h2; clear h2
          refine R.call' (w20 _ _ _ _ _ hx11) (by (first | rfl | simp only [D.har, D.hbnd, D.hcmp, D.hinb, D.hnt, D.hsbyte, D.hscmp, D.hslen, D.hssub, D.htoB])) ?_
          clear hx11; cbv
          refine R.cut' (by kernel_rfl) (by kernel_rfl) ?_
          cbv
          refine R.cutB (fun p => p) (fun _ _ e => e) h [] (fun p15 => [(78, .b p15)]) (fun p15 => []) (by kernel_rfl) (by kernel_rfl) (fun y14 hy hFy14 L hLy14 => ?_) (fun p15 h2 => ?_)
          · clear h; have h := hy; clear hy; cbv
            refine R.brD h (by (first | rfl | simp only [D.har, D.hbnd, D.hcmp, D.hinb, D.hnt, D.hsbyte, D.hscmp, D.hslen, D.hssub, D.htoB])) ?_ ?_ <;> clear h <;> intro h <;> cbv
            · obtain ⟨s', e, hi⟩ := jn_some (fun p => p) h
              refine hLy14 s' _ _ hi ⟨rfl, ?_, ?_, rfl, rfl⟩ <;> cbv <;> (try (subst e; simp only [D.har, D.hbnd, D.hcmp, D.hinb, D.hnt, D.hsbyte, D.hscmp, D.hslen, D.hssub, D.htoB, and_self, and_true, true_and] <;> (repeat' apply And.intro) <;> rfl))
            · refine R.brD h (by (first | rfl | simp only [D.har, D.hbnd, D.hcmp, D.hinb, D.hnt, D.hsbyte, D.hscmp, D.hslen, D.hssub, D.htoB])) ?_ ?_ <;> clear h <;> intro h <;> cbv
              · obtain ⟨s', e, hi⟩ := jn_some (fun p => p) h
                refine hLy14 s' _ _ hi ⟨rfl, ?_, ?_, rfl, rfl⟩ <;> cbv <;> (try (subst e; simp only [D.har, D.hbnd, D.hcmp, D.hinb, D.hnt, D.hsbyte, D.hscmp, D.hslen, D.hssub, D.htoB, and_self, and_true, true_and] <;> (repeat' apply And.intro) <;> rfl))
              · refine R.brD h (by (first | rfl | simp only [D.har, D.hbnd, D.hcmp, D.hinb, D.hnt, D.hsbyte, D.hscmp, D.hslen, D.hssub, D.htoB])) ?_ ?_ <;> clear h <;> intro h <;> cbv
                · obtain ⟨s', e, hi⟩ := jn_some (fun p => p) h
                  refine hLy14 s' _ _ hi ⟨rfl, ?_, ?_, rfl, rfl⟩ <;> cbv <;> (try (subst e; simp only [D.har, D.hbnd, D.hcmp, D.hinb, D.hnt, D.hsbyte, D.hscmp, D.hslen, D.hssub, D.htoB, and_self, and_true, true_and] <;> (repeat' apply And.intro) <;> rfl))
                · obtain ⟨s', e, hi⟩ := jn_some (fun p => p) h
                  refine hLy14 s' _ _ hi ⟨rfl, ?_, ?_, rfl, rfl⟩ <;> cbv <;> (try (subst e; simp only [D.har, D.hbnd, D.hcmp, D.hinb, D.hnt, D.hsbyte, D.hscmp, D.hslen, D.hssub, D.htoB, and_self, and_true, true_and] <;> (repeat' apply And.intro) <;> rfl))
          · clear h; have h := h2; clear h2; try dsimp only at h
            cbv
            refine R.brD h (by (first | rfl | simp only [D.har, D.hbnd, D.hcmp, D.hinb, D.hnt, D.hsbyte, D.hscmp, D.hslen, D.hssub, D.htoB])) ?_ ?_ <;> clear h <;> intro h <;> cbv
            · have e := ret_some h; clear h
              refine hK _ _ ?_
              cbv
              try (subst e; simp only [D.har, D.hbnd, D.hcmp, D.hinb, D.hnt, D.hsbyte, D.hscmp, D.hslen, D.hssub, D.htoB, and_self, and_true, true_and] <;> (repeat' apply And.intro) <;> rfl)
            · refine R.callD h (fun x16 hx16 h2 => ?_)
              clear h; have h := h2; clear h2
              refine R.call' (w36 _ _ _ _ _ hx16) (by (first | rfl | simp only [D.har, D.hbnd, D.hcmp, D.hinb, D.hnt, D.hsbyte, D.hscmp, D.hslen, D.hssub, D.htoB])) ?_
              clear hx16; cbv
              refine R.cut' (by kernel_rfl) (by kernel_rfl) ?_
              cbv
              refine R.cutB (fun p => p) (fun _ _ e => e) h [] (fun p20 => [(96, .b p20)]) (fun p20 => []) (by kernel_rfl) (by kernel_rfl) (fun y19 hy hFy19 L hLy19 => ?_) (fun p20 h2 => ?_)
              · clear h; have h := hy; clear hy; cbv
                refine R.brD h (by (first | rfl | simp only [D.har, D.hbnd, D.hcmp, D.hinb, D.hnt, D.hsbyte, D.hscmp, D.hslen, D.hssub, D.htoB])) ?_ ?_ <;> clear h <;> intro h <;> cbv
                · obtain ⟨s', e, hi⟩ := jn_some (fun p => p) h
                  refine hLy19 s' _ _ hi ⟨rfl, ?_, ?_, rfl, rfl⟩ <;> cbv <;> (try (subst e; simp only [D.har, D.hbnd, D.hcmp, D.hinb, D.hnt, D.hsbyte, D.hscmp, D.hslen, D.hssub, D.htoB, and_self, and_true, true_and] <;> (repeat' apply And.intro) <;> rfl))
                · obtain ⟨s', e, hi⟩ := jn_some (fun p => p) h
                  refine hLy19 s' _ _ hi ⟨rfl, ?_, ?_, rfl, rfl⟩ <;> cbv <;> (try (subst e; simp only [D.har, D.hbnd, D.hcmp, D.hinb, D.hnt, D.hsbyte, D.hscmp, D.hslen, D.hssub, D.htoB, and_self, and_true, true_and] <;> (repeat' apply And.intro) <;> rfl))
              · clear h; have h := h2; clear h2; try dsimp only at h
                cbv
                refine R.brD h (by (first | rfl | simp only [D.har, D.hbnd, D.hcmp, D.hinb, D.hnt, D.hsbyte, D.hscmp, D.hslen, D.hssub, D.htoB])) ?_ ?_ <;> clear h <;> intro h <;> cbv
                · refine R.cut' (by kernel_rfl) (by kernel_rfl) ?_
                  cbv
                  refine R.brD h (by (first | rfl | simp only [D.har, D.hbnd, D.hcmp, D.hinb, D.hnt, D.hsbyte, D.hscmp, D.hslen, D.hssub, D.htoB])) ?_ ?_ <;> clear h <;> intro h <;> cbv
                  · have e := ret_some h; clear h
                    refine hK _ _ ?_
                    cbv
                    try (subst e; simp only [D.har, D.hbnd, D.hcmp, D.hinb, D.hnt, D.hsbyte, D.hscmp, D.hslen, D.hssub, D.htoB, and_self, and_true, true_and] <;> (repeat' apply And.intro) <;> rfl)
                  · refine R.brD h (by (first | rfl | simp only [D.har, D.hbnd, D.hcmp, D.hinb, D.hnt, D.hsbyte, D.hscmp, D.hslen, D.hssub, D.htoB])) ?_ ?_ <;> clear h <;> intro h <;> cbv
                    · have e := ret_some h; clear h
                      refine hK _ _ ?_
                      cbv
                      try (subst e; simp only [D.har, D.hbnd, D.hcmp, D.hinb, D.hnt, D.hsbyte, D.hscmp, D.hslen, D.hssub, D.htoB, and_self, and_true, true_and] <;> (repeat' apply And.intro) <;> rfl)
                    · have e := ret_some h; clear h
                      refine hK _ _ ?_
                      cbv
                      try (subst e; simp only [D.har, D.hbnd, D.hcmp, D.hinb, D.hnt, D.hsbyte, D.hscmp, D.hslen, D.hssub, D.htoB, and_self, and_true, true_and] <;> (repeat' apply And.intro) <;> rfl)
                · refine R.cut' (by kernel_rfl) (by kernel_rfl) ?_
                  cbv
                  refine R.brD h (by (first | rfl | simp only [D.har, D.hbnd, D.hcmp, D.hinb, D.hnt, D.hsbyte, D.hscmp, D.hslen, D.hssub, D.htoB])) ?_ ?_ <;> clear h <;> intro h <;> cbv
                  · refine R.needD h (by (first | rfl | simp only [D.har, D.hbnd, D.hcmp, D.hinb, D.hnt, D.hsbyte, D.hscmp, D.hslen, D.hssub, D.htoB])) ?_
                    clear h; intro h; cbv
                    refine R.brD h (by (first | rfl | simp only [D.har, D.hbnd, D.hcmp, D.hinb, D.hnt, D.hsbyte, D.hscmp, D.hslen, D.hssub, D.htoB])) ?_ ?_ <;> clear h <;> intro h <;> cbv
                    · refine R.brD h (by (first | rfl | simp only [D.har, D.hbnd, D.hcmp, D.hinb, D.hnt, D.hsbyte, D.hscmp, D.hslen, D.hssub, D.htoB])) ?_ ?_ <;> clear h <;> intro h <;> cbv
                      · have e := ret_some h; clear h
                        refine hK _ _ ?_
                        cbv
                        try (subst e; simp only [D.har, D.hbnd, D.hcmp, D.hinb, D.hnt, D.hsbyte, D.hscmp, D.hslen, D.hssub, D.htoB, and_self, and_true, true_and] <;> (repeat' apply And.intro) <;> rfl)
                      · have e := ret_some h; clear h
                        refine hK _ _ ?_
                        cbv
                        try (subst e; simp only [D.har, D.hbnd, D.hcmp, D.hinb, D.hnt, D.hsbyte, D.hscmp, D.hslen, D.hssub, D.htoB, and_self, and_true, true_and] <;> (repeat' apply And.intro) <;> rfl)
                    · have e := ret_some h; clear h
                      refine hK _ _ ?_
                      cbv
                      try (subst e; simp only [D.har, D.hbnd, D.hcmp, D.hinb, D.hnt, D.hsbyte, D.hscmp, D.hslen, D.hssub, D.htoB, and_self, and_true, true_and] <;> (repeat' apply And.intro) <;> rfl)
                  · have e := ret_some h; clear h
                    refine hK _ _ ?_
                    cbv
                    try (subst e; simp only [D.har, D.hbnd, D.hcmp, D.hinb, D.hnt, D.hsbyte, D.hscmp, D.hslen, D.hssub, D.htoB, and_self, and_true, true_and] <;> (repeat' apply And.intro) <;> rfl)

end Go.Proofs.Ytmpdimigpaogkaa

end
section
/- The one statement over its function that the law MemStrings comes to. Conditions: none. -/
-- Told by a program of this seat's session. Not trusted: Lean checks it.

namespace Go.Proofs.Ytmpdimigpaogkaa
open Go.Ab Go.RowKit
def MemStrings.Claim : Prop := ∀ (x0 : ((List Int) × (List Int))) (x1 : (Int × (Int × Int))), (fun x : ((List Int) × (List Int)) => (fun l : List Int => l.length ≤ maxLen ∧ ∀ x ∈ l, (fun n : Int => (Lit.int .i64 n).wf = true) x) x.1 ∧ (fun l : List Int => l.length ≤ maxLen ∧ ∀ x ∈ l, (fun n : Int => (Lit.int .u8 n).wf = true) x) x.2) x0 → (fun x : (Int × (Int × Int)) => (fun n : Int => (Lit.int .i64 n).wf = true) x.1 ∧ (fun x : (Int × Int) => (fun n : Int => (Lit.int .i64 n).wf = true) x.1 ∧ (fun n : Int => (Lit.int .i64 n).wf = true) x.2) x.2) x1 → Ab.Fn Try.prog TT 9 [.agg [.sl 3 (x0.1.map (fun x : Int => .i .i64 x)), .sl 5 (x0.2.map (fun x : Int => .i .u8 x))], .agg [.i .i64 x1.1, .i .i64 x1.2.1, .i .i64 x1.2.2]] (.b true) []
end Go.Proofs.Ytmpdimigpaogkaa
end
section
/- The law MemStrings: strings have no byte 0, are what Peek returns, and begin longer ones. Conditions: none. -/

namespace Go.Proofs.Ytmpdimigpaogkaa
open Go.Ab Go.RowKit Go.Proofs.Ytmpdimigpaogkaa.G Go.Proofs.YtmpdimigpaogkaaW.PrintWords Go.Proofs.YtmpdimigpaogkaaW.PrintLast
theorem bind_toH {α β : Type} {x : Option α} {F : α → Option β} {a : α} {r : Option β} (h : x = some a) (k : F a = r) : x.bind F = r := by subst h; exact k
theorem strFrom_ok {P B : List Int} {a : Int} : ∀ (m : Nat) (i : Int) (acc L : List Int), strFrom P B a m i acc = (L, none) → ∃ M, L = acc ++ M ∧ M.length ≤ m ∧ ∀ j : Nat, j < M.length → need1 P B.length (wrap64 (a + (i + j))) 1 = none ∧ rdI M j = rdI B (wrap64 (a + (i + j))) ∧ rdI M j ≠ 0
  | 0, i, acc, L, h => ⟨[], by simp only [strFrom] at h; injection h with h; simp [h], by simp, fun j hj => absurd hj (Nat.not_lt_zero _)⟩
  | m + 1, i, acc, L, h => by
    unfold strFrom at h
    cases hn : need1 P B.length (wrap64 (a + i)) 1 with
    | some f => rw [hn] at h; cases h
    | none =>
      rw [hn] at h
      simp only at h
      split at h
      · injection h with h; exact ⟨[], by simp [h], by simp, fun j hj => absurd hj (Nat.not_lt_zero _)⟩
      · rename_i hz
        obtain ⟨M, h1, h2, h3⟩ := strFrom_ok m (i + 1) _ L h
        refine ⟨rd B (wrap64 (a + i)) :: M, by rw [h1]; simp, by simpa using h2, fun j hj => ?_⟩
        cases j with
        | zero => simp only [Int.natCast_zero, Int.add_zero]; exact ⟨hn, rfl, hz⟩
        | succ j =>
          have := h3 j (by simpa using hj)
          rw [show i + ((j + 1 : Nat) : Int) = i + 1 + (j : Int) from by omega]
          have e : rdI (rd B (wrap64 (a + i)) :: M) ((j + 1 : Nat) : Int) = rdI M j := by simp [rdI]
          rw [e]; exact this
theorem strFrom_more {P B : List Int} {a : Int} : ∀ (m : Nat) (i : Int) (acc L : List Int), strFrom P B a m i acc = (L, none) → strFrom P B a (m + 1) i acc = (L, none) ∨ (L.length = acc.length + m ∧ ((∃ f, need1 P B.length (wrap64 (a + (i + m))) 1 = some f ∧ strFrom P B a (m + 1) i acc = ([], some f)) ∨ ∃ c, strFrom P B a (m + 1) i acc = (L ++ [c], none)))
  | 0, i, acc, L, h => by
    simp only [strFrom] at h
    injection h with h
    subst h
    unfold strFrom
    simp only [Int.natCast_zero, Int.add_zero]
    cases hn : need1 P B.length (wrap64 (a + i)) 1 with
    | some f => exact .inr ⟨by simp, .inl ⟨f, rfl, rfl⟩⟩
    | none =>
      simp only
      split
      · exact .inl rfl
      · exact .inr ⟨by simp, .inr ⟨_, rfl⟩⟩
  | m + 1, i, acc, L, h => by
    have e1 : ∀ k, strFrom P B a (k + 1) i acc = (match need1 P B.length (wrap64 (a + i)) 1 with | some f => ([], some f) | none => if rd B (wrap64 (a + i)) = 0 then (acc, none) else strFrom P B a k (i + 1) (acc ++ [rd B (wrap64 (a + i))])) := fun _ => rfl
    rw [e1] at h
    rw [e1]
    cases hn : need1 P B.length (wrap64 (a + i)) 1 with
    | some f => rw [hn] at h; cases h
    | none =>
      rw [hn] at h
      simp only at h ⊢
      split at h
      · rename_i hz
        rw [if_pos hz]; exact .inl h
      · rename_i hz
        rw [if_neg hz]
        rcases strFrom_more m (i + 1) _ L h with k | ⟨k1, k2⟩
        · exact .inl k
        · refine .inr ⟨by rw [k1]; simp; omega, ?_⟩
          rw [show i + ((m + 1 : Nat) : Int) = i + 1 + (m : Int) from by omega]
          exact k2
theorem slen_str (l : List Int) : slenI (strOfNums l) = ln l := by
  show ((strOfNums l).size : Int) = _
  rw [strOfNums_size]; rfl
theorem sbyte_str {l : List Int} {s : Int} (h0 : 0 ≤ s) (h1 : s < ln l) (hr : 0 ≤ rdI l s ∧ rdI l s < 256) : sbyteI (strOfNums l) s = rdI l s := by
  unfold ln at h1
  have hl : s.toNat < l.length := by omega
  have e : rdI l s = l[s.toNat] := by rw [← rdI_lt hl, Int.toNat_of_nonneg h0]
  rw [e] at hr ⊢
  show ((((strOfNums l)[s.toNat]?).getD 0).toNat : Int) = _
  have : (strOfNums l)[s.toNat]? = some (UInt8.ofNat l[s.toNat].toNat) := by
    rw [getElem?_pos (strOfNums l) s.toNat (by rw [strOfNums_size]; exact hl)]
    show some ((strOfNums l).data[s.toNat]'_) = _
    simp [strOfNums]
  rw [this]
  simp only [Option.getD_some, UInt8.toNat_ofNat']
  omega
theorem toBy_str (l : List Int) : toBy (u8s l) = strOfNums l := by simp [toBy, u8s, strOfNums, Function.comp_def, Ab.asInt]
theorem sub_str (l m : List Int) : subS (strOfNums (l ++ m)) 0 (ln l) = strOfNums l := by
  apply ByteArray.ext
  show ((strOfNums (l ++ m)).extract (0 : Int).toNat (ln l).toNat).data = _
  rw [ByteArray.data_extract]
  simp [strOfNums, ln]
theorem it9 (l : List Int) (r : Int × Int × Int) (h : ∀ s, 0 ≤ s → s < ln l → 0 < rdI l s ∧ rdI l s < 256) (hl : ln l ≤ 64) : iter (d9_b1 (strOfNums l, r)) 0 = some (.inr ()) := by
  refine iter_fun (fun s : Int => 0 ≤ s ∧ s ≤ ln l) (fun s : Int => (ln l - s).toNat) (fun _ => (Sum.inr () : Bool ⊕ Unit)) (fun s hs => ?_) 0 ⟨by omega, ln_nn l⟩
  obtain ⟨h0, h1⟩ := hs
  unfold d9_b1
  simp only [c_lss, c_eql, decide_eq_true_eq, slen_str]
  by_cases hlt : s < ln l
  · have := h s h0 hlt
    rw [if_pos hlt, if_pos (show Inb s (ln l) from ⟨h0, hlt⟩), sbyte_str h0 hlt ⟨by omega, this.2⟩, if_neg (by omega), a_add (by omega) (by omega)]
    exact .inl ⟨s + 1, rfl, ⟨by omega, by omega⟩, by omega, trivial⟩
  · rw [if_neg hlt]; exact .inr rfl
theorem str_peek {P B L : List Int} (hc : checkV P B = 0) {a : Int} (ha : -9223372036854775808 ≤ a ∧ a ≤ 9223372036854775807) (hl : ln L ≤ 64) (h : ∀ j : Nat, j < L.length → need1 P B.length (wrap64 (a + (0 + j))) 1 = none ∧ rdI L j = rdI B (wrap64 (a + (0 + j))) ∧ rdI L j ≠ 0) : peekV P B a (ln L) = (L, 0, 0, 0) := by
  have hf : fault P B a (ln L) 0 = (0, 0) := by
    unfold fault
    rw [needs_of_none]
    · rfl
    · intro j hj
      have := (h j (by unfold ln at hj; omega)).1
      generalize wrap64 (a + (0 + j)) = y at *
      have hr := need1_range this
      unfold need1
      rw [if_pos hr, if_pos]
      have hp := perm_at hc hr.1 (show y < ln B from hr.2)
      have e : rd P (y / 64) = rdI P (y / 64) := rfl
      rw [e]
      rcases hp with hp | hp | hp | hp <;> rw [hp] <;> rfl
  unfold peekV
  have := ln_nn L
  rw [if_neg (not_not_intro hc), if_neg (by omega), hf]
  by_cases h0 : ln L = 0
  · rw [if_pos (.inr h0)]
    have : L = [] := List.eq_nil_of_length_eq_zero (by unfold ln at h0; omega)
    rw [this]
  · rw [if_neg (by simp [h0])]
    obtain ⟨f1, f2, f3⟩ := fault_in (n := ln L) hc ha (by omega) (by omega) (.inl rfl) (by rw [hf])
    have hp := part_ln (n := ln L) f1 (by omega) f2
    have : part B a (ln L) = L := by
      refine eq_of_rd hp (fun j j0 j1 => ?_)
      rw [hp] at j1
      rw [rdI_part f1 f2 j0 j1]
      have hj := (h j.toNat (by unfold ln at j1; omega)).2.1
      rw [show ((j.toNat : Nat) : Int) = j from by omega] at hj
      rw [hj]
      have : wrap64 (a + (0 + j)) = a + j := by unfold wrap64; omega
      rw [this]
    rw [this]
theorem d9_true (P B : List Int) (hB : Bytes B) (a n q : Int) (ha : -9223372036854775808 ≤ a ∧ a ≤ 9223372036854775807) : d9 (ints P) (u8s B) a n q = some true := by
  unfold d9
  rw [s14, Option.bind_some, s36]
  by_cases hc : checkV P B = 0
  · by_cases hn : n < 0 ∨ 64 < n
    · have e : mem_String.f P B a n = some (⟨#[]⟩, 0, 0, 1) := by unfold mem_String.f; rw [if_pos hc, if_pos hn]
      rw [e, Option.bind_some, if_neg (by simp [notB']), if_pos (by simp [c_neq])]
    · have e : mem_String.f P B a n = some (strOfNums (strR P B a n).1, ((strR P B a n).2.getD (0, 0)).1, ((strR P B a n).2.getD (0, 0)).2, 0) := by unfold mem_String.f; rw [if_pos hc, if_neg hn]; rfl
      rw [e, Option.bind_some, if_neg (by simp [notB']), if_neg (by simp [c_neq])]
      by_cases hf : ((strR P B a n).2.getD (0, 0)).1 = 0
      · rw [if_neg (by simp [c_neq, hf])]
        have hnone : (strR P B a n).2 = none := by
          cases hs : (strR P B a n).2 with
          | none => rfl
          | some f =>
            rw [hs] at hf
            have key : ∀ m i acc g, (strFrom P B a m i acc).2 = some g → g.1 ≠ 0 := by
              intro m
              induction m with
              | zero => intro i acc g h; cases h
              | succ m ih =>
                intro i acc g h
                unfold strFrom at h
                split at h
                · rename_i f' hf'; injection h with h; subst h; exact need1_kind (.inr (.inl rfl)) hf'
                · split at h
                  · cases h
                  · exact ih _ _ _ h
            exact absurd hf (key _ _ _ _ hs)
        have hpair : strFrom P B a n.toNat 0 [] = ((strR P B a n).1, none) := by
          have : strR P B a n = ((strR P B a n).1, (strR P B a n).2) := rfl
          rw [hnone] at this
          exact this
        have hmore := strFrom_more n.toNat 0 [] _ hpair
        obtain ⟨M, m1, m2, m3⟩ := strFrom_ok n.toNat 0 [] _ hpair
        rw [List.nil_append] at m1
        rw [hnone]
        rw [m1] at hmore ⊢
        clear m1 hpair
        have hl : ln M ≤ n := by unfold ln; omega
        have hpos : ∀ s, 0 ≤ s → s < ln M → 0 < rdI M s ∧ rdI M s < 256 := fun s s0 s1 => by
          have := m3 s.toNat (by unfold ln at s1; omega)
          rw [show ((s.toNat : Nat) : Int) = s from by omega] at this
          obtain ⟨k1, k2, k3⟩ := this
          have hr := need1_range k1
          have hy : (wrap64 (a + (0 + s))).toNat < B.length := by omega
          have hb := hB _ (List.getElem_mem hy)
          have eb : rdI B (wrap64 (a + (0 + s))) = B[(wrap64 (a + (0 + s))).toNat] := by rw [← rdI_lt hy, Int.toNat_of_nonneg hr.1]
          rw [← eb] at hb
          omega
        rw [it9 M _ hpos (by omega)]
        simp only [Option.bind_some, Option.getD_none, slen_str]
        rw [s20 P B a _ ha, Option.bind_some, str_peek hc ha (by omega) m3]
        refine bind_toH (a := false) ?_ ?_
        · simp only [toBy_str, cmp_refl, c_neq, c_gtr]
          simp; omega
        · rw [if_neg (by simp), s36, a_add (by omega) (by omega)]
          by_cases h64 : n = 64
          · have e2 : mem_String.f P B a (n + 1) = some (⟨#[]⟩, 0, 0, 1) := by unfold mem_String.f; rw [if_pos hc, if_pos (by omega)]
            rw [e2, Option.bind_some]
            simp [c_neq, c_eql]
          · have e2 : mem_String.f P B a (n + 1) = some (strOfNums (strR P B a (n + 1)).1, ((strR P B a (n + 1)).2.getD (0, 0)).1, ((strR P B a (n + 1)).2.getD (0, 0)).2, 0) := by unfold mem_String.f; rw [if_pos hc, if_neg (by omega)]; rfl
            have e3 : strR P B a (n + 1) = strFrom P B a (n.toNat + 1) 0 [] := by unfold strR; rw [show (n + 1).toNat = n.toNat + 1 from by omega]
            rw [e2, Option.bind_some, e3]
            have same : ∀ r, r = (M, (none : Option (Int × Int))) → strFrom P B a (n.toNat + 1) 0 [] = r → (Option.bind (α := Bool) (
              if (cmpLit .neq (0 : Int) 0) = true then some true else some (cmpLit .neq ((strFrom P B a (n.toNat + 1) 0 []).2.getD (0, 0)).1 0)) fun y19 => if y19 = true then (if (cmpLit .eql (0 : Int) 1) = true then some true else if (cmpLit .eql ((strFrom P B a (n.toNat + 1) 0 []).2.getD (0, 0)).2 (arReal .add .i64 a n)) = true then some (cmpLit .eql (ln M) n) else some false) else (if (cmpLit .geq (slenI (strOfNums (strFrom P B a (n.toNat + 1) 0 []).1)) (ln M)) = true then (if (Bnd 0 (ln M) (slenI (strOfNums (strFrom P B a (n.toNat + 1) 0 []).1))) then (if (strCmp .eql (subS (strOfNums (strFrom P B a (n.toNat + 1) 0 []).1) 0 (ln M)) (strOfNums M)) = true then (if (cmpLit .eql (ln M) n) = true then some true else some (strCmp .eql (strOfNums (strFrom P B a (n.toNat + 1) 0 []).1) (strOfNums M))) else some false) else none) else some false)) = some true := by
              intro r hr hs
              rw [hs, hr]
              have es : subS (strOfNums M) 0 (ln M) = strOfNums M := by have := sub_str M []; rwa [List.append_nil] at this
              have hb : Bnd 0 (ln M) (ln M) := ⟨by omega, ln_nn M, by omega⟩
              simp only [slen_str, es, cmp_refl', if_pos hb]
              simp [c_neq, c_eql, c_geq]
            rcases hmore with k | ⟨k1, ⟨f, k2, k3⟩ | ⟨c, k2⟩⟩
            · exact same _ rfl k
            · rw [k3]
              have hk := need1_kind (.inr (.inl rfl)) k2
              have hf2 : f.2 = arReal .add .i64 a n := by
                have e4 : wrap64 (a + (0 + (n.toNat : Int))) = IntKind.i64.wrap (a + n) := by rw [wr64]; unfold wrap64; omega
                rw [e4] at k2
                unfold need1 at k2
                split at k2
                · split at k2
                  · cases k2
                  · injection k2 with k2; rw [← k2]; rfl
                · injection k2 with k2; rw [← k2]; rfl
              have hlm : ln M = n := by unfold ln; simp at k1; omega
              simp [c_neq, c_eql, hk, hf2, hlm]
            · rw [k2]
              have hlm : ln M = n := by unfold ln; simp at k1; omega
              have hl2 : ln (M ++ [c]) = ln M + 1 := by simp [ln]
              have hb : Bnd 0 (ln M) (ln M + 1) := ⟨by omega, ln_nn M, by omega⟩
              simp only [slen_str, sub_str, cmp_refl', hl2, if_pos hb]
              simp [c_neq, c_eql, c_geq, hlm]
              omega
      · rw [if_pos (by simp [c_neq, hf])]
  · have e : mem_String.f P B a n = some (⟨#[]⟩, 0, 0, 30) := by unfold mem_String.f; rw [if_neg hc]
    rw [e, Option.bind_some, if_neg (by simp [notB']), if_pos (by simp [c_neq])]
theorem MemStrings.pure : MemStrings.Claim := by
  intro x0 x1 h0 h1
  exact w9 (ints x0.1) (u8s x0.2) x1.1 x1.2.1 x1.2.2 true (d9_true x0.1 x0.2 (bytesWf h0.2.2) x1.1 x1.2.1 x1.2.2 (wf64 h1.1))
end Go.Proofs.Ytmpdimigpaogkaa
end
section
/- MemStrings: the law's call returns true for every input, and its arguments read afterwards as_ before. Conditions: none. -/
-- Told by a program of this seat's session. Not trusted: Lean checks it.

namespace Go.Proofs.Ytmpdimigpaogkaa.memStrings
open Go.ChangeShapes Go.WideShapes Go.ChangeAt Go.RowKit Go.Ab Go.Proofs.Ytmpdimigpaogkaa
open Go.ChangeMaps (open_string shut_string)
theorem own : ownKnob Try.prog.godebug = none := by kernel_rfl
theorem laidOut : laidOutB Try.prog = true := by kernel_rfl
set_option maxRecDepth 100000 in
set_option maxHeartbeats 8000000 in
theorem lifted (os : Os) (started : os.Started) (H : Type) (enc : TypeId × Value → H) :
    ReturnsInHanded {} Try.checked os 9 .any (Rows.memStringsSpec.pre6 enc Try.prog Try.f9 Rows.memStringsRow.domain false) (Rows.memStringsSpec.post enc Try.prog Try.f9 false true false false) := by
  refine returnsInHanded_of_change_sized (C := Try.checked) own started (by kernel_rfl) Try.func9
    (ChangeSpec.witness6 (enc := enc) (C := Try.checked) false ⟨#[], #[.agg #[.slice none 0 0, .slice none 0 0], .agg #[.int .i64 0, .int .i64 0, .int .i64 0]], []⟩ 8 (by kernel_rfl) (by kernel_rfl) (by kernel_rfl) (by kernel_rfl)) ?_
  intro W base args ds gs before hval0 hW hcnd hsz0 _
  have hval : ∀ (j : Nat) t v, Try.f9.params[j]? = some t → args[j]? = some v → Value.okWide Try.prog W .any base t v := hval0
  have hW' := hW
  obtain ⟨p, q, hA0, hV, rfl, hfz, hnd⟩ := hW
  have hA : DataW.TrodAll enc Try.prog W 0 (fun _ => true) true Try.f9.params.toList args.toList ds p := hA0
  rw [Try.params9] at hA hval
  obtain ⟨v0, vs0, d0, ds0, p0, q0, hargs, rfl, rfl, h0, r0⟩ := trodAll_cons hA
  obtain ⟨v1, vs1, d1, ds1, p1, q1, rfl, rfl, rfl, h1, r1⟩ := trodAll_cons r0
  obtain ⟨rfl, rfl, rfl⟩ := trodAll_nil r1
  obtain rfl : args = #[v0, v1] := by cases args; simp_all
  obtain ⟨rfl, rfl⟩ := trodVars_none hV
  have k0 := h0
  have lt0 : ∀ x ∈ p0, x.block < W.heap.size := by obtain ⟨m, hm⟩ := k0; exact DataW.trod_lt m _ _ _ hm
  obtain ⟨cs0, rfl, sz0⟩ := okWide_struct Try.underlying25 (hval 0 25 v0 rfl rfl)
  obtain ⟨x0, ra0, rb0, _, ok0⟩ := h0.elim fun fuel hf => ((OpV.struct tok (te := te25) (by kernel_rfl) rfl (by kernel_rfl) (OpAt.cons rfl (by kernel_rfl) (OpV.slice tok (fun x : Int => .i .i64 x) (te := te22) (eu := te3) (by kernel_rfl) rfl (by kernel_rfl) (by decide) (by kernel_rfl) (.inr ⟨by kernel_rfl, rfl, fun _ => rfl⟩) (OpV.int tok (e := te3) (by kernel_rfl) rfl)) (OpAt.last rfl (by kernel_rfl) (OpV.slice tok (fun x : Int => .i .u8 x) (te := te23) (eu := te5) (by kernel_rfl) rfl (by kernel_rfl) (by decide) (by kernel_rfl) (.inr ⟨by kernel_rfl, rfl, fun _ => rfl⟩) (OpV.int tok (e := te5) (by kernel_rfl) rfl))))) : OpV TT enc Try.prog W 25 _ _ _) _ _ _ hf
  have k1 := h1
  have lt1 : ∀ x ∈ p1, x.block < W.heap.size := by obtain ⟨m, hm⟩ := k1; exact DataW.trod_lt m _ _ _ hm
  obtain ⟨cs1, rfl, sz1⟩ := okWide_struct Try.underlying27 (hval 1 27 v1 rfl rfl)
  obtain ⟨x1, ra1, rb1, _, ok1⟩ := h1.elim fun fuel hf => ((OpV.struct tok (te := te27) (by kernel_rfl) rfl (by kernel_rfl) (OpAt.cons rfl (by kernel_rfl) (OpV.int tok (e := te2) (by kernel_rfl) rfl) (OpAt.cons rfl (by kernel_rfl) (OpV.int tok (e := te3) (by kernel_rfl) rfl) (OpAt.last rfl (by kernel_rfl) (OpV.int tok (e := te3) (by kernel_rfl) rfl))))) : OpV TT enc Try.prog W 27 _ _ _) _ _ _ hf
  clear hA0 hval0 hsz0
  refine (law_calls (w := W) (MemStrings.pure x0 x1 ok0 ok1) (args_agg ra0 rb0 (args_agg ra1 rb1 args_nil))).mono fun e W' ⟨he, bel⟩ => ?_
  subst he
  exact ⟨_, rfl, _, _, _, [], _, [], hW', trodAll_mk1 (shut_bool Try.underlying4 _), (trodAll_cons_mk (Below.trod laidOut (by kernel_rfl) (of_decide_eq_true (by kernel_rfl)) k0 bel lt0) (trodAll_cons_mk (Below.trod laidOut (by kernel_rfl) (of_decide_eq_true (by kernel_rfl)) k1 bel lt1) trodAll_mk0)), rfl, bel.frame _, fun h => by cases h⟩
theorem over : Rows.memStringsRow.holds Try.pinned (OpenSpec.ofChange Rows.memStringsSpec) :=
  OpenClaim.holds_of_wide 9 Try.f9 rfl rfl rfl rfl rfl rfl rfl ⟨rfl, rfl, rfl, rfl, rfl⟩ rfl rfl rfl rfl rfl (by kernel_rfl) Try.func9 (by kernel_rfl)
    (of_decide_eq_true (by kernel_rfl)) (by unfold Func.isWrapper; first | (rw [if_pos (by decide +kernel)]; kernel_rfl) | (rw [if_neg (by decide +kernel)]; exact ⟨rfl, rfl⟩))
    (fun os started H enc _ => lifted os started H enc)
theorem proved : Rows.MemStringsSaid := over
end Go.Proofs.Ytmpdimigpaogkaa.memStrings
namespace Go.Proofs.Ytmpdimigpaogkaa
theorem memStrings_holds : Rows.MemStringsSaid := memStrings.proved
end Go.Proofs.Ytmpdimigpaogkaa
end
