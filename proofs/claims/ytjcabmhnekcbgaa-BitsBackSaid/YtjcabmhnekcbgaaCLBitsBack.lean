/- The law BitsBack: its function's walk, the pure law, the row. Conditions: none. -/
import Derived.Test.YtjcabmhnekcbgaaRows
import Derived.WalkKit
import Derived.ProofKit
import Derived.OpenShut
import Derived.ShutString
import Derived.ChangeOld
import Derived.Below
import Derived.SizedLaws
import Derived.Carry
import Derived.Test.YtjcabmhnekcbgaaC8
set_option linter.unusedVariables false
set_option linter.unusedSimpArgs false
section
namespace Go.Proofs.Ytjcabmhnekcbgaa
open Go.Ab Go.RowKit 
set_option maxRecDepth 100000
set_option maxHeartbeats 4000000
noncomputable def d7 (a0_0 : Int) (a0_1 : Bool) (a1 : Int) (a2 : ByteArray) : Option (Bool) :=
  (d9).bind fun x1 =>
  if (notB' x1) = true then
    some x1
  else
    (d10 a0_0 a0_1).bind fun x5 =>
    if (cmpLit .neq x5 0) = true then
      some x1
    else
      (d12 a0_0 a0_1 a1).bind fun x6 =>
      (d20 a0_0 a0_1 a1).bind fun x7 =>
      (d21 a0_0 a0_1 x7.1).bind fun x8 =>
      (d17 a0_0 a0_1 a1).bind fun x9 =>
      (d18 a0_0 a0_1 x9.1).bind fun x10 =>
      Option.bind (α := Bool) (
        if (cmpLit .neq x7.2 0) = true then
          some true
        else
          if (cmpLit .neq x8.2 0) = true then
            some true
          else
            if (cmpLit .neq x9.2 0) = true then
              some true
            else
              if (cmpLit .neq x10.2 0) = true then
                some true
              else
                if (cmpLit .neq x8.1 x6) = true then
                  some true
                else
                  if (cmpLit .neq x10.1 x6) = true then
                    some true
                  else
                    some (cmpLit .neq (lenI x7.1) a0_0)) fun y13 =>
      if y13 = true then
        some false
      else
        if (Sroom a2 ByteArray.empty) then
          (d21 a0_0 a0_1 (strBytes a2)).bind fun x15 =>
          Option.bind (α := (Unit) ⊕ (Bool)) (
            if (cmpLit .eql x15.2 0) = true then
              (d20 a0_0 a0_1 x15.1).bind fun x18 =>
              if (cmpLit .neq x18.2 0) = true then
                some (.inr false)
              else
                if (strCmp .neq (toBy x18.1) a2) = true then
                  some (.inr false)
                else
                  some (.inl ())
            else
              some (.inl ())) fun y17 =>
          match y17 with
          | .inl p19 =>
            (d18 a0_0 a0_1 a2).bind fun x20 =>
            Option.bind (α := Bool) (
              if (cmpLit .neq x20.2 0) = true then
                some true
              else
                if (cmpLit .gtr (slenI a2) 1) = true then
                  if (Inb 1 (slenI a2)) then
                    some (cmpLit .eql (sbyteI a2 1) 120)
                  else none
                else
                  some false) fun y23 =>
            if y23 = true then
              if (cmpLit .eql x20.2 0) = true then
                some true
              else
                some (cmpLit .eql x20.2 13)
            else
              (d17 a0_0 a0_1 x20.1).bind fun x25 =>
              if (cmpLit .eql x25.2 0) = true then
                some (strCmp .eql x25.1 a2)
              else
                some false
          | .inr y17r0 =>
            some y17r0
        else none
noncomputable def w7_c : Code := (Try.f7.body).getD .skip
theorem w7_h : Try.f7.body = some w7_c := by kernel_rfl
theorem w7 (a0_0 : Int) (a0_1 : Bool) (a1 : Int) (a2 : ByteArray) (r : Bool) (h : d7 a0_0 a0_1 a1 a2 = some r) : Ab.Fn Try.prog TT 7 [.agg [.i .i64 a0_0, .b a0_1], .i .i64 a1, .str a2] (.b r) [] := by
  refine fn_pure tok W0 Try.func7 (by kernel_rfl) w7_h (by kernel_rfl) ?_
  intro ar un cv mn mx pl mi cmp nt beq an scmp cat slen sbyte ssub ofB toB len gi gb gs gl sub put app ovl rep ne0 ge0 inb bnd room sroom need br call loop cut nl E R K hK
  have D := E.D
  clear E
  unfold d7 at h
  cbv
  refine R.callD h (fun x1 hx1 h2 => ?_)
  clear h; have h := h2; clear h2
  refine R.call' (w9 _ hx1) (by (first | rfl | (simp only [D.hcmp, D.hinb, D.hlen, D.hnt, D.hofB, D.hsbyte, D.hscmp, D.hslen, D.hsroom, D.htoB]; done) | (simp only [D.hcmp, D.hinb, D.hlen, D.hnt, D.hofB, D.hsbyte, D.hscmp, D.hslen, D.hsroom, D.htoB]; rfl))) ?_
  clear hx1; cbv
  refine R.cut' (by kernel_rfl) (by kernel_rfl) ?_
  cbv
  refine R.cut' (by kernel_rfl) (by kernel_rfl) ?_
  cbv
  refine R.brD h (by (first | rfl | (simp only [D.hcmp, D.hinb, D.hlen, D.hnt, D.hofB, D.hsbyte, D.hscmp, D.hslen, D.hsroom, D.htoB]; done) | (simp only [D.hcmp, D.hinb, D.hlen, D.hnt, D.hofB, D.hsbyte, D.hscmp, D.hslen, D.hsroom, D.htoB]; rfl))) ?_ ?_ <;> clear h <;> intro h <;> cbv
  · have e := ret_some h; clear h
    refine hK _ _ ?_
    cbv
    try (subst e; simp only [D.hcmp, D.hinb, D.hlen, D.hnt, D.hofB, D.hsbyte, D.hscmp, D.hslen, D.hsroom, D.htoB, and_self, and_true, true_and] <;> (repeat' apply And.intro) <;> rfl)
  · as_aux_lemma =>
    refine R.callD h (fun x5 hx5 h2 => ?_)
    clear h; have h := h2; clear h2
    refine R.call' (w10 _ _ _ hx5) (by (first | rfl | (simp only [D.hcmp, D.hinb, D.hlen, D.hnt, D.hofB, D.hsbyte, D.hscmp, D.hslen, D.hsroom, D.htoB]; done) | (simp only [D.hcmp, D.hinb, D.hlen, D.hnt, D.hofB, D.hsbyte, D.hscmp, D.hslen, D.hsroom, D.htoB]; rfl))) ?_
    clear hx5; cbv
    refine R.brD h (by (first | rfl | (simp only [D.hcmp, D.hinb, D.hlen, D.hnt, D.hofB, D.hsbyte, D.hscmp, D.hslen, D.hsroom, D.htoB]; done) | (simp only [D.hcmp, D.hinb, D.hlen, D.hnt, D.hofB, D.hsbyte, D.hscmp, D.hslen, D.hsroom, D.htoB]; rfl))) ?_ ?_ <;> clear h <;> intro h <;> cbv
    · have e := ret_some h; clear h
      refine hK _ _ ?_
      cbv
      try (subst e; simp only [D.hcmp, D.hinb, D.hlen, D.hnt, D.hofB, D.hsbyte, D.hscmp, D.hslen, D.hsroom, D.htoB, and_self, and_true, true_and] <;> (repeat' apply And.intro) <;> rfl)
    · as_aux_lemma =>
      refine R.callD h (fun x6 hx6 h2 => ?_)
      clear h; have h := h2; clear h2
      refine R.call' (w12 _ _ _ _ hx6) (by (first | rfl | (simp only [D.hcmp, D.hinb, D.hlen, D.hnt, D.hofB, D.hsbyte, D.hscmp, D.hslen, D.hsroom, D.htoB]; done) | (simp only [D.hcmp, D.hinb, D.hlen, D.hnt, D.hofB, D.hsbyte, D.hscmp, D.hslen, D.hsroom, D.htoB]; rfl))) ?_
      clear hx6; cbv
      refine R.callD h (fun x7 hx7 h2 => ?_)
      clear h; have h := h2; clear h2
      refine R.call' (w20s _ _ _ _ hx7) (by (first | rfl | (simp only [D.hcmp, D.hinb, D.hlen, D.hnt, D.hofB, D.hsbyte, D.hscmp, D.hslen, D.hsroom, D.htoB]; done) | (simp only [D.hcmp, D.hinb, D.hlen, D.hnt, D.hofB, D.hsbyte, D.hscmp, D.hslen, D.hsroom, D.htoB]; rfl))) ?_
      clear hx7; cbv
      refine R.callD h (fun x8 hx8 h2 => ?_)
      clear h; have h := h2; clear h2
      refine R.call' (w21 _ _ _ _ hx8) (by (first | rfl | (simp only [D.hcmp, D.hinb, D.hlen, D.hnt, D.hofB, D.hsbyte, D.hscmp, D.hslen, D.hsroom, D.htoB]; done) | (simp only [D.hcmp, D.hinb, D.hlen, D.hnt, D.hofB, D.hsbyte, D.hscmp, D.hslen, D.hsroom, D.htoB]; rfl))) ?_
      clear hx8; cbv
      refine R.callD h (fun x9 hx9 h2 => ?_)
      clear h; have h := h2; clear h2
      refine R.call' (w17 _ _ _ _ hx9) (by (first | rfl | (simp only [D.hcmp, D.hinb, D.hlen, D.hnt, D.hofB, D.hsbyte, D.hscmp, D.hslen, D.hsroom, D.htoB]; done) | (simp only [D.hcmp, D.hinb, D.hlen, D.hnt, D.hofB, D.hsbyte, D.hscmp, D.hslen, D.hsroom, D.htoB]; rfl))) ?_
      clear hx9; cbv
      refine R.callD h (fun x10 hx10 h2 => ?_)
      clear h; have h := h2; clear h2
      refine R.call' (w18 _ _ _ _ hx10) (by (first | rfl | (simp only [D.hcmp, D.hinb, D.hlen, D.hnt, D.hofB, D.hsbyte, D.hscmp, D.hslen, D.hsroom, D.htoB]; done) | (simp only [D.hcmp, D.hinb, D.hlen, D.hnt, D.hofB, D.hsbyte, D.hscmp, D.hslen, D.hsroom, D.htoB]; rfl))) ?_
      clear hx10; cbv
      refine R.cut' (by kernel_rfl) (by kernel_rfl) ?_
      cbv
      refine R.cutB (fun p => p) (fun _ _ e => e) h [] (fun p14 => [(91, .b p14)]) (fun p14 => []) (by kernel_rfl) (by kernel_rfl) (fun y13 hy hFy13 L hLy13 => ?_) (fun p14 h2 => ?_)
      · clear h; have h := hy; clear hy; cbv
        refine R.brD h (by (first | rfl | (simp only [D.hcmp, D.hinb, D.hlen, D.hnt, D.hofB, D.hsbyte, D.hscmp, D.hslen, D.hsroom, D.htoB]; done) | (simp only [D.hcmp, D.hinb, D.hlen, D.hnt, D.hofB, D.hsbyte, D.hscmp, D.hslen, D.hsroom, D.htoB]; rfl))) ?_ ?_ <;> clear h <;> intro h <;> cbv
        · obtain ⟨s', e, hi⟩ := jn_some (fun p => p) h
          refine hLy13 s' _ _ hi ⟨rfl, ?_, ?_, rfl, rfl⟩ <;> cbv <;> (try (subst e; simp only [D.hcmp, D.hinb, D.hlen, D.hnt, D.hofB, D.hsbyte, D.hscmp, D.hslen, D.hsroom, D.htoB, and_self, and_true, true_and] <;> (repeat' apply And.intro) <;> rfl))
        · refine R.brD h (by (first | rfl | (simp only [D.hcmp, D.hinb, D.hlen, D.hnt, D.hofB, D.hsbyte, D.hscmp, D.hslen, D.hsroom, D.htoB]; done) | (simp only [D.hcmp, D.hinb, D.hlen, D.hnt, D.hofB, D.hsbyte, D.hscmp, D.hslen, D.hsroom, D.htoB]; rfl))) ?_ ?_ <;> clear h <;> intro h <;> cbv
          · obtain ⟨s', e, hi⟩ := jn_some (fun p => p) h
            refine hLy13 s' _ _ hi ⟨rfl, ?_, ?_, rfl, rfl⟩ <;> cbv <;> (try (subst e; simp only [D.hcmp, D.hinb, D.hlen, D.hnt, D.hofB, D.hsbyte, D.hscmp, D.hslen, D.hsroom, D.htoB, and_self, and_true, true_and] <;> (repeat' apply And.intro) <;> rfl))
          · refine R.brD h (by (first | rfl | (simp only [D.hcmp, D.hinb, D.hlen, D.hnt, D.hofB, D.hsbyte, D.hscmp, D.hslen, D.hsroom, D.htoB]; done) | (simp only [D.hcmp, D.hinb, D.hlen, D.hnt, D.hofB, D.hsbyte, D.hscmp, D.hslen, D.hsroom, D.htoB]; rfl))) ?_ ?_ <;> clear h <;> intro h <;> cbv
            · obtain ⟨s', e, hi⟩ := jn_some (fun p => p) h
              refine hLy13 s' _ _ hi ⟨rfl, ?_, ?_, rfl, rfl⟩ <;> cbv <;> (try (subst e; simp only [D.hcmp, D.hinb, D.hlen, D.hnt, D.hofB, D.hsbyte, D.hscmp, D.hslen, D.hsroom, D.htoB, and_self, and_true, true_and] <;> (repeat' apply And.intro) <;> rfl))
            · refine R.brD h (by (first | rfl | (simp only [D.hcmp, D.hinb, D.hlen, D.hnt, D.hofB, D.hsbyte, D.hscmp, D.hslen, D.hsroom, D.htoB]; done) | (simp only [D.hcmp, D.hinb, D.hlen, D.hnt, D.hofB, D.hsbyte, D.hscmp, D.hslen, D.hsroom, D.htoB]; rfl))) ?_ ?_ <;> clear h <;> intro h <;> cbv
              · obtain ⟨s', e, hi⟩ := jn_some (fun p => p) h
                refine hLy13 s' _ _ hi ⟨rfl, ?_, ?_, rfl, rfl⟩ <;> cbv <;> (try (subst e; simp only [D.hcmp, D.hinb, D.hlen, D.hnt, D.hofB, D.hsbyte, D.hscmp, D.hslen, D.hsroom, D.htoB, and_self, and_true, true_and] <;> (repeat' apply And.intro) <;> rfl))
              · refine R.brD h (by (first | rfl | (simp only [D.hcmp, D.hinb, D.hlen, D.hnt, D.hofB, D.hsbyte, D.hscmp, D.hslen, D.hsroom, D.htoB]; done) | (simp only [D.hcmp, D.hinb, D.hlen, D.hnt, D.hofB, D.hsbyte, D.hscmp, D.hslen, D.hsroom, D.htoB]; rfl))) ?_ ?_ <;> clear h <;> intro h <;> cbv
                · obtain ⟨s', e, hi⟩ := jn_some (fun p => p) h
                  refine hLy13 s' _ _ hi ⟨rfl, ?_, ?_, rfl, rfl⟩ <;> cbv <;> (try (subst e; simp only [D.hcmp, D.hinb, D.hlen, D.hnt, D.hofB, D.hsbyte, D.hscmp, D.hslen, D.hsroom, D.htoB, and_self, and_true, true_and] <;> (repeat' apply And.intro) <;> rfl))
                · refine R.brD h (by (first | rfl | (simp only [D.hcmp, D.hinb, D.hlen, D.hnt, D.hofB, D.hsbyte, D.hscmp, D.hslen, D.hsroom, D.htoB]; done) | (simp only [D.hcmp, D.hinb, D.hlen, D.hnt, D.hofB, D.hsbyte, D.hscmp, D.hslen, D.hsroom, D.htoB]; rfl))) ?_ ?_ <;> clear h <;> intro h <;> cbv
                  · obtain ⟨s', e, hi⟩ := jn_some (fun p => p) h
                    refine hLy13 s' _ _ hi ⟨rfl, ?_, ?_, rfl, rfl⟩ <;> cbv <;> (try (subst e; simp only [D.hcmp, D.hinb, D.hlen, D.hnt, D.hofB, D.hsbyte, D.hscmp, D.hslen, D.hsroom, D.htoB, and_self, and_true, true_and] <;> (repeat' apply And.intro) <;> rfl))
                  · obtain ⟨s', e, hi⟩ := jn_some (fun p => p) h
                    refine hLy13 s' _ _ hi ⟨rfl, ?_, ?_, rfl, rfl⟩ <;> cbv <;> (try (subst e; simp only [D.hcmp, D.hinb, D.hlen, D.hnt, D.hofB, D.hsbyte, D.hscmp, D.hslen, D.hsroom, D.htoB, and_self, and_true, true_and] <;> (repeat' apply And.intro) <;> rfl))
      · as_aux_lemma =>
        clear h; have h := h2; clear h2; try dsimp only at h
        cbv
        refine R.brD h (by (first | rfl | (simp only [D.hcmp, D.hinb, D.hlen, D.hnt, D.hofB, D.hsbyte, D.hscmp, D.hslen, D.hsroom, D.htoB]; done) | (simp only [D.hcmp, D.hinb, D.hlen, D.hnt, D.hofB, D.hsbyte, D.hscmp, D.hslen, D.hsroom, D.htoB]; rfl))) ?_ ?_ <;> clear h <;> intro h <;> cbv
        · have e := ret_some h; clear h
          refine hK _ _ ?_
          cbv
          try (subst e; simp only [D.hcmp, D.hinb, D.hlen, D.hnt, D.hofB, D.hsbyte, D.hscmp, D.hslen, D.hsroom, D.htoB, and_self, and_true, true_and] <;> (repeat' apply And.intro) <;> rfl)
        · as_aux_lemma =>
          refine R.needD h (by (first | rfl | (simp only [D.hcmp, D.hinb, D.hlen, D.hnt, D.hofB, D.hsbyte, D.hscmp, D.hslen, D.hsroom, D.htoB]; done) | (simp only [D.hcmp, D.hinb, D.hlen, D.hnt, D.hofB, D.hsbyte, D.hscmp, D.hslen, D.hsroom, D.htoB]; rfl))) ?_
          clear h; intro h; cbv
          refine R.callD h (fun x15 hx15 h2 => ?_)
          clear h; have h := h2; clear h2
          refine R.call' (w21 _ _ _ _ hx15) (by (first | rfl | (simp only [D.hcmp, D.hinb, D.hlen, D.hnt, D.hofB, D.hsbyte, D.hscmp, D.hslen, D.hsroom, D.htoB]; done) | (simp only [D.hcmp, D.hinb, D.hlen, D.hnt, D.hofB, D.hsbyte, D.hscmp, D.hslen, D.hsroom, D.htoB]; rfl))) ?_
          clear hx15; cbv
          refine R.cutB Sum.inl (fun _ _ e => Sum.inl.inj e) h [] (fun p19 => []) (fun p19 => []) (by kernel_rfl) (by kernel_rfl) (fun y17 hy hFy17 L hLy17 => ?_) (fun p19 h2 => ?_)
          · clear h; have h := hy; clear hy; cbv
            refine R.brD h (by (first | rfl | (simp only [D.hcmp, D.hinb, D.hlen, D.hnt, D.hofB, D.hsbyte, D.hscmp, D.hslen, D.hsroom, D.htoB]; done) | (simp only [D.hcmp, D.hinb, D.hlen, D.hnt, D.hofB, D.hsbyte, D.hscmp, D.hslen, D.hsroom, D.htoB]; rfl))) ?_ ?_ <;> clear h <;> intro h <;> cbv
            · refine R.callD h (fun x18 hx18 h2 => ?_)
              clear h; have h := h2; clear h2
              refine R.call' (w20s _ _ _ _ hx18) (by (first | rfl | (simp only [D.hcmp, D.hinb, D.hlen, D.hnt, D.hofB, D.hsbyte, D.hscmp, D.hslen, D.hsroom, D.htoB]; done) | (simp only [D.hcmp, D.hinb, D.hlen, D.hnt, D.hofB, D.hsbyte, D.hscmp, D.hslen, D.hsroom, D.htoB]; rfl))) ?_
              clear hx18; cbv
              refine R.cut' (by kernel_rfl) (by kernel_rfl) ?_
              cbv
              refine R.brD h (by (first | rfl | (simp only [D.hcmp, D.hinb, D.hlen, D.hnt, D.hofB, D.hsbyte, D.hscmp, D.hslen, D.hsroom, D.htoB]; done) | (simp only [D.hcmp, D.hinb, D.hlen, D.hnt, D.hofB, D.hsbyte, D.hscmp, D.hslen, D.hsroom, D.htoB]; rfl))) ?_ ?_ <;> clear h <;> intro h <;> cbv
              · have e := ret_some h; clear h
                have h := hFy17; rw [e] at h; clear e; try dsimp only at h
                cbv
                have e := ret_some h; clear h
                refine hK _ _ ?_
                cbv
                try (subst e; simp only [D.hcmp, D.hinb, D.hlen, D.hnt, D.hofB, D.hsbyte, D.hscmp, D.hslen, D.hsroom, D.htoB, and_self, and_true, true_and] <;> (repeat' apply And.intro) <;> rfl)
              · refine R.brD h (by (first | rfl | (simp only [D.hcmp, D.hinb, D.hlen, D.hnt, D.hofB, D.hsbyte, D.hscmp, D.hslen, D.hsroom, D.htoB]; done) | (simp only [D.hcmp, D.hinb, D.hlen, D.hnt, D.hofB, D.hsbyte, D.hscmp, D.hslen, D.hsroom, D.htoB]; rfl))) ?_ ?_ <;> clear h <;> intro h <;> cbv
                · have e := ret_some h; clear h
                  have h := hFy17; rw [e] at h; clear e; try dsimp only at h
                  cbv
                  have e := ret_some h; clear h
                  refine hK _ _ ?_
                  cbv
                  try (subst e; simp only [D.hcmp, D.hinb, D.hlen, D.hnt, D.hofB, D.hsbyte, D.hscmp, D.hslen, D.hsroom, D.htoB, and_self, and_true, true_and] <;> (repeat' apply And.intro) <;> rfl)
                · obtain ⟨s', e, hi⟩ := jn_some Sum.inl h
                  refine hLy17 s' _ _ hi ⟨rfl, ?_, ?_, rfl, rfl⟩ <;> cbv <;> (try (subst e; simp only [D.hcmp, D.hinb, D.hlen, D.hnt, D.hofB, D.hsbyte, D.hscmp, D.hslen, D.hsroom, D.htoB, and_self, and_true, true_and] <;> (repeat' apply And.intro) <;> rfl))
            · obtain ⟨s', e, hi⟩ := jn_some Sum.inl h
              refine hLy17 s' _ _ hi ⟨rfl, ?_, ?_, rfl, rfl⟩ <;> cbv <;> (try (subst e; simp only [D.hcmp, D.hinb, D.hlen, D.hnt, D.hofB, D.hsbyte, D.hscmp, D.hslen, D.hsroom, D.htoB, and_self, and_true, true_and] <;> (repeat' apply And.intro) <;> rfl))
          · clear h; have h := h2; clear h2; try dsimp only at h
            cbv
            refine R.callD h (fun x20 hx20 h2 => ?_)
            clear h; have h := h2; clear h2
            refine R.call' (w18 _ _ _ _ hx20) (by (first | rfl | (simp only [D.hcmp, D.hinb, D.hlen, D.hnt, D.hofB, D.hsbyte, D.hscmp, D.hslen, D.hsroom, D.htoB]; done) | (simp only [D.hcmp, D.hinb, D.hlen, D.hnt, D.hofB, D.hsbyte, D.hscmp, D.hslen, D.hsroom, D.htoB]; rfl))) ?_
            clear hx20; cbv
            refine R.cut' (by kernel_rfl) (by kernel_rfl) ?_
            cbv
            refine R.cutB (fun p => p) (fun _ _ e => e) h [] (fun p24 => [(132, .b p24)]) (fun p24 => []) (by kernel_rfl) (by kernel_rfl) (fun y23 hy hFy23 L hLy23 => ?_) (fun p24 h2 => ?_)
            · clear h; have h := hy; clear hy; cbv
              refine R.brD h (by (first | rfl | (simp only [D.hcmp, D.hinb, D.hlen, D.hnt, D.hofB, D.hsbyte, D.hscmp, D.hslen, D.hsroom, D.htoB]; done) | (simp only [D.hcmp, D.hinb, D.hlen, D.hnt, D.hofB, D.hsbyte, D.hscmp, D.hslen, D.hsroom, D.htoB]; rfl))) ?_ ?_ <;> clear h <;> intro h <;> cbv
              · obtain ⟨s', e, hi⟩ := jn_some (fun p => p) h
                refine hLy23 s' _ _ hi ⟨rfl, ?_, ?_, rfl, rfl⟩ <;> cbv <;> (try (subst e; simp only [D.hcmp, D.hinb, D.hlen, D.hnt, D.hofB, D.hsbyte, D.hscmp, D.hslen, D.hsroom, D.htoB, and_self, and_true, true_and] <;> (repeat' apply And.intro) <;> rfl))
              · refine R.brD h (by (first | rfl | (simp only [D.hcmp, D.hinb, D.hlen, D.hnt, D.hofB, D.hsbyte, D.hscmp, D.hslen, D.hsroom, D.htoB]; done) | (simp only [D.hcmp, D.hinb, D.hlen, D.hnt, D.hofB, D.hsbyte, D.hscmp, D.hslen, D.hsroom, D.htoB]; rfl))) ?_ ?_ <;> clear h <;> intro h <;> cbv
                · refine R.needD h (by (first | rfl | (simp only [D.hcmp, D.hinb, D.hlen, D.hnt, D.hofB, D.hsbyte, D.hscmp, D.hslen, D.hsroom, D.htoB]; done) | (simp only [D.hcmp, D.hinb, D.hlen, D.hnt, D.hofB, D.hsbyte, D.hscmp, D.hslen, D.hsroom, D.htoB]; rfl))) ?_
                  clear h; intro h; cbv
                  obtain ⟨s', e, hi⟩ := jn_some (fun p => p) h
                  refine hLy23 s' _ _ hi ⟨rfl, ?_, ?_, rfl, rfl⟩ <;> cbv <;> (try (subst e; simp only [D.hcmp, D.hinb, D.hlen, D.hnt, D.hofB, D.hsbyte, D.hscmp, D.hslen, D.hsroom, D.htoB, and_self, and_true, true_and] <;> (repeat' apply And.intro) <;> rfl))
                · obtain ⟨s', e, hi⟩ := jn_some (fun p => p) h
                  refine hLy23 s' _ _ hi ⟨rfl, ?_, ?_, rfl, rfl⟩ <;> cbv <;> (try (subst e; simp only [D.hcmp, D.hinb, D.hlen, D.hnt, D.hofB, D.hsbyte, D.hscmp, D.hslen, D.hsroom, D.htoB, and_self, and_true, true_and] <;> (repeat' apply And.intro) <;> rfl))
            · clear h; have h := h2; clear h2; try dsimp only at h
              cbv
              refine R.brD h (by (first | rfl | (simp only [D.hcmp, D.hinb, D.hlen, D.hnt, D.hofB, D.hsbyte, D.hscmp, D.hslen, D.hsroom, D.htoB]; done) | (simp only [D.hcmp, D.hinb, D.hlen, D.hnt, D.hofB, D.hsbyte, D.hscmp, D.hslen, D.hsroom, D.htoB]; rfl))) ?_ ?_ <;> clear h <;> intro h <;> cbv
              · refine R.cut' (by kernel_rfl) (by kernel_rfl) ?_
                cbv
                refine R.brD h (by (first | rfl | (simp only [D.hcmp, D.hinb, D.hlen, D.hnt, D.hofB, D.hsbyte, D.hscmp, D.hslen, D.hsroom, D.htoB]; done) | (simp only [D.hcmp, D.hinb, D.hlen, D.hnt, D.hofB, D.hsbyte, D.hscmp, D.hslen, D.hsroom, D.htoB]; rfl))) ?_ ?_ <;> clear h <;> intro h <;> cbv
                · have e := ret_some h; clear h
                  refine hK _ _ ?_
                  cbv
                  try (subst e; simp only [D.hcmp, D.hinb, D.hlen, D.hnt, D.hofB, D.hsbyte, D.hscmp, D.hslen, D.hsroom, D.htoB, and_self, and_true, true_and] <;> (repeat' apply And.intro) <;> rfl)
                · have e := ret_some h; clear h
                  refine hK _ _ ?_
                  cbv
                  try (subst e; simp only [D.hcmp, D.hinb, D.hlen, D.hnt, D.hofB, D.hsbyte, D.hscmp, D.hslen, D.hsroom, D.htoB, and_self, and_true, true_and] <;> (repeat' apply And.intro) <;> rfl)
              · refine R.callD h (fun x25 hx25 h2 => ?_)
                clear h; have h := h2; clear h2
                refine R.call' (w17 _ _ _ _ hx25) (by (first | rfl | (simp only [D.hcmp, D.hinb, D.hlen, D.hnt, D.hofB, D.hsbyte, D.hscmp, D.hslen, D.hsroom, D.htoB]; done) | (simp only [D.hcmp, D.hinb, D.hlen, D.hnt, D.hofB, D.hsbyte, D.hscmp, D.hslen, D.hsroom, D.htoB]; rfl))) ?_
                clear hx25; cbv
                refine R.cut' (by kernel_rfl) (by kernel_rfl) ?_
                cbv
                refine R.brD h (by (first | rfl | (simp only [D.hcmp, D.hinb, D.hlen, D.hnt, D.hofB, D.hsbyte, D.hscmp, D.hslen, D.hsroom, D.htoB]; done) | (simp only [D.hcmp, D.hinb, D.hlen, D.hnt, D.hofB, D.hsbyte, D.hscmp, D.hslen, D.hsroom, D.htoB]; rfl))) ?_ ?_ <;> clear h <;> intro h <;> cbv
                · have e := ret_some h; clear h
                  refine hK _ _ ?_
                  cbv
                  try (subst e; simp only [D.hcmp, D.hinb, D.hlen, D.hnt, D.hofB, D.hsbyte, D.hscmp, D.hslen, D.hsroom, D.htoB, and_self, and_true, true_and] <;> (repeat' apply And.intro) <;> rfl)
                · have e := ret_some h; clear h
                  refine hK _ _ ?_
                  cbv
                  try (subst e; simp only [D.hcmp, D.hinb, D.hlen, D.hnt, D.hofB, D.hsbyte, D.hscmp, D.hslen, D.hsroom, D.htoB, and_self, and_true, true_and] <;> (repeat' apply And.intro) <;> rfl)

end Go.Proofs.Ytjcabmhnekcbgaa

end
section
/- The one statement over its function that the law BitsBack comes to. Conditions: none. -/
-- Told by a program of this seat's session. Not trusted: Lean checks it.

namespace Go.Proofs.Ytjcabmhnekcbgaa
open Go.Ab Go.RowKit
def BitsBack.Claim : Prop := ∀ (x0 : (Int × Bool)) (x1 : Int) (x2 : ByteArray), (fun x : (Int × Bool) => (fun n : Int => (Lit.int .i64 n).wf = true) x.1 ∧ (fun _ : Bool => True) x.2) x0 → (fun n : Int => (Lit.int .i64 n).wf = true) x1 → (fun s : ByteArray => s.size ≤ maxLen) x2 → Ab.Fn Try.prog TT 7 [.agg [.i .i64 x0.1, .b x0.2], .i .i64 x1, .str x2] (.b true) []
end Go.Proofs.Ytjcabmhnekcbgaa
end
section
/- The law BitsBack by the calculus. Conditions: none. -/

namespace Go.Proofs.Ytjcabmhnekcbgaa
open Go.Ab Go.RowKit
theorem valD_i64 {l : List Int} {v : Int} (h : valD l = some v) : I64 v := by
  unfold valD at h
  split at h
  · cases h
  · split at h
    · cases h
    · injection h with h
      rw [← h]; split <;> exact wk_in _
theorem BitsBack.d7_true (z : Int) (b : Bool) {v : Int} (s : ByteArray) (hv : I64 v) (hs : s.size ≤ 9223372036854775807) : d7 z b v s = some true := by
  unfold d7
  simp only [s9, s10, Option.bind_some, notB', c_neq]
  by_cases h : OkZ z
  · have q1 := s12 z b hv
    rw [if_pos h] at q1
    have q2 := s20 b v h
    have q3 := s21 b h (leN_bs z.toNat v)
    rw [leN_len, Int.toNat_of_nonneg (by have := okz_le h; omega), if_pos rfl, leV_leN h, wT_congr h b (Int.emod_emod_of_dvd v (Int.dvd_refl _))] at q3
    have q4 := s17 b h hv
    have q5 := s18_txt b b v h h
    rw [wT_id h, if_pos rfl] at q5
    have q6 : wrapK .i64 (numT z b (wT z b v)) = wT z b v := by rw [wk_congr (numT_mod z b _), wk_id (wT_i64 b v)]
    rw [q6] at q5
    have hS : Sroom s ByteArray.empty := hs
    have q7 := s21 b h (nb_bs s)
    have q8 := s18 z b s h hs
    have len : ((leN z.toNat v).length : Int) = z := by rw [leN_len, Int.toNat_of_nonneg (by have := okz_le h; omega)]
    simp only [h, if_true, q1, q2, q3, q4, q5, Option.bind_some, lenI_u8s, len, if_pos hS, strBytes_nb, q7, q8, c_eql, c_neq, c_gtr, scmp_neq, scmp_eql, toBy_u8s]
    have last : ((if decide ((errV (parseV z b (nb s))).2 ≠ 0) = true then some true
        else if decide (1 < slenI s) = true then if Inb 1 (slenI s) then some (decide (sbyteI s 1 = 120)) else none else some false).bind fun y23 =>
          if y23 = true then (if decide ((errV (parseV z b (nb s))).2 = 0) = true then some true else some (decide ((errV (parseV z b (nb s))).2 = 13)))
          else (d17 z b (errV (parseV z b (nb s))).1).bind fun x25 => if decide (x25.2 = 0) = true then some (decide (x25.1 = s)) else some false) = some true := by
      unfold parseV
      by_cases hx : (nb s).take 2 = [48, 120]
      · rw [if_pos hx]
        have hl : 1 < (nb s).length := by have := congrArg List.length hx; simp at this; omega
        have hx1 : (nb s)[1] = 120 := by
          have e1 : ((nb s).take 2)[1]? = some 120 := by rw [hx]; rfl
          rw [List.getElem?_take_of_lt (by omega), List.getElem?_eq_getElem hl] at e1
          injection e1
        have hI : Inb 1 (slenI s) := by rw [slen_nb]; exact ⟨by omega, by omega⟩
        have e3 : sbyteI s 1 = 120 := by have := sbyte_nb s 1 hl; rw [hx1] at this; exact this
        have hL : (1 : Int) < slenI s := by rw [slen_nb]; omega
        cases valX z b ((nb s).drop 2) with
        | none => simp [errV]
        | some n => simp [errV, hL, hI, e3]
      · rw [if_neg hx]
        cases hV : valD (nb s) with
        | none => simp [errV]
        | some n =>
          simp only []
          by_cases hT : textN (numT z b (wT z b n)) = nb s
          · have q9 := s17 b h (valD_i64 hV)
            have e4 : strOfNums (txt z b n) = s := by unfold txt; rw [hT, strOf_nb]
            simp only [if_pos hT]
            by_cases hL : (1 : Int) < slenI s
            · have hI : Inb 1 (slenI s) := ⟨by omega, hL⟩
              by_cases h120 : sbyteI s 1 = 120
              · simp [errV, hL, hI, h120]
              · simp [errV, hL, hI, h120, q9, e4]
            · simp [errV, hL, q9, e4]
          · simp only [if_neg hT]; simp [errV]
    by_cases hl : ((nb s).length : Int) = z
    · have q9 := s20 b (wT z b (leV (nb s))) h
      have e1 : leN z.toNat (wT z b (leV (nb s))) = nb s := by
        rw [leN_congr h (wT_mod h b _)]
        have : z.toNat = (nb s).length := by omega
        rw [this, leN_leV (nb_bs s)]
      rw [e1] at q9
      simp only [if_pos hl, q9, Option.bind_some, toBy_u8s, strOf_nb]
      simp
      simpa using last
    · simp only [if_neg hl]
      simp
      simpa using last
  · simp [h]
theorem BitsBack.pure : BitsBack.Claim := by
  intro x0 x1 x2 h0 h1 h2
  exact w7 _ _ _ _ true (BitsBack.d7_true _ _ _ (i64_wf' h1) h2)
end Go.Proofs.Ytjcabmhnekcbgaa
end
section
/- BitsBack: the law's call returns true for every input, and its arguments read afterwards as_ before. Conditions: none. -/
-- Told by a program of this seat's session. Not trusted: Lean checks it.

namespace Go.Proofs.Ytjcabmhnekcbgaa.bitsBack
open Go.ChangeShapes Go.WideShapes Go.ChangeAt Go.RowKit Go.Ab Go.Proofs.Ytjcabmhnekcbgaa
open Go.ChangeMaps (open_string shut_string)
theorem own : ownKnob Try.prog.godebug = none := by kernel_rfl
theorem laidOut : laidOutB Try.prog = true := by kernel_rfl
set_option maxRecDepth 100000 in
set_option maxHeartbeats 8000000 in
theorem lifted (os : Os) (started : os.Started) (H : Type) (enc : TypeId × Value → H) :
    ReturnsInHanded {} Try.checked os 7 .any (Rows.bitsBackSpec.pre6 enc Try.prog Try.f7 Rows.bitsBackRow.domain false) (Rows.bitsBackSpec.post enc Try.prog Try.f7 false true false false) := by
  refine returnsInHanded_of_change_sized (C := Try.checked) own started (by kernel_rfl) Try.func7
    (ChangeSpec.witness6 (enc := enc) (C := Try.checked) false ⟨#[], #[.agg #[.int .i64 0, .bool false], .int .i64 0, .string ByteArray.empty], []⟩ 8 (by kernel_rfl) (by kernel_rfl) (by kernel_rfl) (by kernel_rfl)) ?_
  intro W base args ds gs before hval0 hW hcnd hsz0 _
  have hval : ∀ (j : Nat) t v, Try.f7.params[j]? = some t → args[j]? = some v → Value.okWide Try.prog W .any base t v := hval0
  have hW' := hW
  obtain ⟨p, q, hA0, hV, rfl, hfz, hnd⟩ := hW
  have hA : DataW.TrodAll enc Try.prog W 0 (fun _ => true) true Try.f7.params.toList args.toList ds p := hA0
  rw [Try.params7] at hA hval
  obtain ⟨v0, vs0, d0, ds0, p0, q0, hargs, rfl, rfl, h0, r0⟩ := trodAll_cons hA
  obtain ⟨v1, vs1, d1, ds1, p1, q1, rfl, rfl, rfl, h1, r1⟩ := trodAll_cons r0
  obtain ⟨v2, vs2, d2, ds2, p2, q2, rfl, rfl, rfl, h2, r2⟩ := trodAll_cons r1
  obtain ⟨rfl, rfl, rfl⟩ := trodAll_nil r2
  obtain rfl : args = #[v0, v1, v2] := by cases args; simp_all
  obtain ⟨rfl, rfl⟩ := trodVars_none hV
  have k0 := h0
  have lt0 : ∀ x ∈ p0, x.block < W.heap.size := by obtain ⟨m, hm⟩ := k0; exact DataW.trod_lt m _ _ _ hm
  obtain ⟨cs0, rfl, sz0⟩ := okWide_struct Try.underlying23 (hval 0 23 v0 rfl rfl)
  obtain ⟨x0, ra0, rb0, _, ok0⟩ := h0.elim fun fuel hf => ((OpV.struct tok (te := te23) (by kernel_rfl) rfl (by kernel_rfl) (OpAt.cons rfl (by kernel_rfl) (OpV.int tok (e := te3) (by kernel_rfl) rfl) (OpAt.last rfl (by kernel_rfl) (OpV.bool tok (e := te4) (by kernel_rfl) rfl)))) : OpV TT enc Try.prog W 23 _ _ _) _ _ _ hf
  obtain ⟨x1, rfl, rfl, rfl, u1⟩ := open_int Try.underlying2 (hval 1 2 v1 rfl rfl) h1
  obtain ⟨x2, rfl, rfl, rfl, u2⟩ := open_string Try.underlying9 (hval 2 9 v2 rfl rfl) h2
  clear hA0 hval0 hsz0
  refine (law_calls (w := W) ⟨_, _, Try.func7, by kernel_rfl, w7_h⟩ (BitsBack.pure x0 x1 x2 ok0 u1 u2) (args_agg ra0 rb0 (args_i x1 (args_str x2 args_nil)))).mono fun e W' ⟨he, bel⟩ => ?_
  subst he
  exact ⟨_, rfl, _, _, _, [], _, [], hW', trodAll_mk1 (shut_bool Try.underlying4 _), (trodAll_cons_mk (Below.trod laidOut (by kernel_rfl) (of_decide_eq_true (by kernel_rfl)) k0 bel lt0) (trodAll_cons_mk (shut_int Try.underlying2 u1) (trodAll_cons_mk (shut_string Try.underlying9 u2) trodAll_mk0))), rfl, bel.frame _, fun h => by cases h⟩
theorem over : Rows.bitsBackRow.holds Try.pinned (OpenSpec.ofChange Rows.bitsBackSpec) :=
  OpenClaim.holds_of_wide 7 Try.f7 rfl rfl rfl rfl rfl rfl rfl ⟨rfl, rfl, rfl, rfl, rfl⟩ rfl rfl rfl rfl rfl (by kernel_rfl) Try.func7 (by kernel_rfl)
    (of_decide_eq_true (by kernel_rfl)) (by unfold Func.isWrapper; first | (rw [if_pos (by decide +kernel)]; kernel_rfl) | (rw [if_neg (by decide +kernel)]; exact ⟨rfl, rfl⟩))
    (fun os started H enc _ => lifted os started H enc)
theorem proved : Rows.BitsBackSaid := over
end Go.Proofs.Ytjcabmhnekcbgaa.bitsBack
namespace Go.Proofs.Ytjcabmhnekcbgaa
theorem bitsBack_holds : Rows.BitsBackSaid := bitsBack.proved
end Go.Proofs.Ytjcabmhnekcbgaa
end
