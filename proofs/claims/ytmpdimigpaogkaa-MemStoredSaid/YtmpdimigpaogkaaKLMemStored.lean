/- The law MemStored: its function's walk, the pure law, the row. Conditions: none. -/
import Derived.Test.YtmpdimigpaogkaaRows
import Derived.WalkKit
import Derived.ProofKit
import Derived.OpenShut
import Derived.ShutString
import Derived.ChangeOld
import Derived.Below
import Derived.SizedLaws
import Derived.Carry
import Derived.Test.YtmpdimigpaogkaaK5
set_option linter.unusedVariables false
set_option linter.unusedSimpArgs false
section
namespace Go.Proofs.Ytmpdimigpaogkaa
open Go.Ab Go.RowKit Go.Proofs.Ytmpdimigpaogkaa.G Go.Proofs.YtmpdimigpaogkaaW.PrintWords Go.Proofs.YtmpdimigpaogkaaW.PrintLast
set_option maxRecDepth 100000
set_option maxHeartbeats 4000000
noncomputable def d12_b1 (a1_0 : Int) (a1_1 : Int) (x11 : List V × Int) (s15 : Int) : Option ((Int) ⊕ ((Bool) ⊕ (Unit))) :=
  if (cmpLit .lss s15 (lenI x11.1)) = true then
    if (Inb s15 (lenI x11.1)) then
      if (cmpLit .lss (gI x11.1 s15 0) a1_0) = true then
        some (.inr (.inl false))
      else
        if (Inb s15 (lenI x11.1)) then
          if (cmpLit .geq (gI x11.1 s15 0) (arReal .add .i64 a1_0 a1_1)) = true then
            some (.inr (.inl false))
          else
            some (.inl (arReal .add .i64 s15 1))
        else none
    else none
  else
    some (.inr (.inr ()))
noncomputable def d12 (a0_0 : List V) (a0_1 : List V) (a1_0 : Int) (a1_1 : Int) (a1_2 : Bool) (a1_3 : Int) (a2_0 : Int) (a2_1 : Int) (a2_2 : Bool) (a2_3 : Int) : Option (Bool) :=
  (d14).bind fun x1 =>
  (d17 a0_0 a0_1 a1_0 a1_1 a1_2 a1_3).bind fun x2 =>
  if (notB' x1) = true then
    some x1
  else
    if (cmpLit .neq x2.2.2.2.2 0) = true then
      some x1
    else
      if (cmpLit .neq x2.2.2.1 0) = true then
        some x1
      else
        (d44 a1_1 a1_2 a1_3).bind fun x3 =>
        (d16 x2.1 x2.2.1 a1_0 a1_1 a1_2).bind fun x4 =>
        (d20 x2.1 x2.2.1 a1_0 a1_1).bind fun x5 =>
        (d45 a1_1 a1_2 x5.1).bind fun x6 =>
        Option.bind (α := Bool) (
          if (cmpLit .neq x4.2.2.2 0) = true then
            some true
          else
            if (cmpLit .neq x4.2.1 0) = true then
              some true
            else
              if (cmpLit .neq x4.1 x3.1) = true then
                some true
              else
                if (cmpLit .neq x5.2.2.2 0) = true then
                  some true
                else
                  if (cmpLit .neq x5.2.1 0) = true then
                    some true
                  else
                    if (cmpLit .neq x6.2 0) = true then
                      some true
                    else
                      some (cmpLit .neq x6.1 x3.1)) fun y9 =>
        if y9 = true then
          some false
        else
          (d41 a0_0 a0_1 x2.1 x2.2.1).bind fun x11 =>
          if (cmpLit .neq x11.2 0) = true then
            some false
          else
            Option.bind (α := (Unit) ⊕ (Bool)) (
              (iter (d12_b1 a1_0 a1_1 x11) 0).bind fun y16 =>
              match y16 with
              | .inl p17 =>
                some (.inr p17)
              | .inr y16r0 =>
                some (.inl ())) fun y14 =>
            match y14 with
            | .inl p19 =>
              (d31 a1_0 a1_1 a1_2 a1_3 a2_0 a2_1 a2_2 a2_3).bind fun x21 =>
              if (notB' x21) = true then
                some true
              else
                (d16 a0_0 a0_1 a2_0 a2_1 a2_2).bind fun x22 =>
                (d16 x2.1 x2.2.1 a2_0 a2_1 a2_2).bind fun x23 =>
                if (cmpLit .eql x22.1 x23.1) = true then
                  if (andB' (cmpLit .eql x22.2.1 x23.2.1) (cmpLit .eql x22.2.2.1 x23.2.2.1)) = true then
                    some (cmpLit .eql x22.2.2.2 x23.2.2.2)
                  else
                    some false
                else
                  some false
            | .inr y14r0 =>
              some y14r0
noncomputable def w12_c : Code := (Try.f12.body).getD .skip
theorem w12_h : Try.f12.body = some w12_c := by kernel_rfl
theorem w12 (a0_0 : List V) (a0_1 : List V) (a1_0 : Int) (a1_1 : Int) (a1_2 : Bool) (a1_3 : Int) (a2_0 : Int) (a2_1 : Int) (a2_2 : Bool) (a2_3 : Int) (r : Bool) (h : d12 a0_0 a0_1 a1_0 a1_1 a1_2 a1_3 a2_0 a2_1 a2_2 a2_3 = some r) : Ab.Fn Try.prog TT 12 [.agg [.sl 3 a0_0, .sl 5 a0_1], .agg [.i .i64 a1_0, .i .i64 a1_1, .b a1_2, .i .i64 a1_3], .agg [.i .i64 a2_0, .i .i64 a2_1, .b a2_2, .i .i64 a2_3]] (.b r) [] := by
  refine fn_pure tok (fun r => match r with | 17 => [[],[],[0,1],[0,1,2],[0,1,2,3],[],[5],[0,1,2,3,4,5,6],[0,1,2,3,4,5,6,7],[0,1,2,3,4,5,6,7,8],[0,1,2,3,4,5,6,7,8],[0,1,2,3,4,5,6,7,8,9,10],[0,1,2,3,4,5,6,7,8,9,10,11],[0,1,2,3,4,5,6,7,8,9,10,11,12],[0,1,2,3,4,5,6,7,8],[0,1,2,3,4,5,6,7,8,14],[0,1,2,3,4,5,6,7,8],[0,1,2,3,4,5,6,7,8,16],[0,1,2,3,4,5,6,7,8,16,17],[0,1,2,3,4,5,6,7,8,14,15,16,17,18],[0,1,2,3,4,5,6,7,8,9,10,11,12,13,14,15,16,17,18,19],[0,1,2,3,4,5,6,7,8,9,10,11,12,13,14,15,16,17,18,19,20]] | _ => []) Try.func12 (by kernel_rfl) w12_h (by kernel_rfl) ?_
  intro ar un cv mn mx pl mi cmp nt beq an scmp cat slen sbyte ssub ofB toB len gi gb gs gl sub put app ovl rep ne0 ge0 inb bnd room sroom need br call loop cut nl E R K hK
  have D := E.D
  clear E
  unfold d12 at h
  cbv
  refine R.callD h (fun x1 hx1 h2 => ?_)
  clear h; have h := h2; clear h2
  refine R.call' (w14 _ hx1) (by (first | rfl | simp only [D.han, D.har, D.hcmp, D.hgi, D.hinb, D.hlen, D.hnt])) ?_
  clear hx1; cbv
  refine R.callD h (fun x2 hx2 h2 => ?_)
  clear h; have h := h2; clear h2
  refine R.call' (w17s _ _ _ _ _ _ _ hx2) (by (first | rfl | simp only [D.han, D.har, D.hcmp, D.hgi, D.hinb, D.hlen, D.hnt])) ?_
  clear hx2; cbv
  refine R.cut' (by kernel_rfl) (by kernel_rfl) ?_
  cbv
  refine R.cut' (by kernel_rfl) (by kernel_rfl) ?_
  cbv
  refine R.brD h (by (first | rfl | simp only [D.han, D.har, D.hcmp, D.hgi, D.hinb, D.hlen, D.hnt])) ?_ ?_ <;> clear h <;> intro h <;> cbv
  · have e := ret_some h; clear h
    refine hK _ _ ?_
    cbv
    try (subst e; simp only [D.han, D.har, D.hcmp, D.hgi, D.hinb, D.hlen, D.hnt, and_self, and_true, true_and] <;> (repeat' apply And.intro) <;> rfl)
  · refine R.brD h (by (first | rfl | simp only [D.han, D.har, D.hcmp, D.hgi, D.hinb, D.hlen, D.hnt])) ?_ ?_ <;> clear h <;> intro h <;> cbv
    · have e := ret_some h; clear h
      refine hK _ _ ?_
      cbv
      try (subst e; simp only [D.han, D.har, D.hcmp, D.hgi, D.hinb, D.hlen, D.hnt, and_self, and_true, true_and] <;> (repeat' apply And.intro) <;> rfl)
    · refine R.brD h (by (first | rfl | simp only [D.han, D.har, D.hcmp, D.hgi, D.hinb, D.hlen, D.hnt])) ?_ ?_ <;> clear h <;> intro h <;> cbv
      · have e := ret_some h; clear h
        refine hK _ _ ?_
        cbv
        try (subst e; simp only [D.han, D.har, D.hcmp, D.hgi, D.hinb, D.hlen, D.hnt, and_self, and_true, true_and] <;> (repeat' apply And.intro) <;> rfl)
      · refine R.callD h (fun x3 hx3 h2 => ?_)
        clear h; have h := h2; clear h2
        refine R.call' (w44 _ _ _ _ hx3) (by (first | rfl | simp only [D.han, D.har, D.hcmp, D.hgi, D.hinb, D.hlen, D.hnt])) ?_
        clear hx3; cbv
        refine R.callD h (fun x4 hx4 h2 => ?_)
        clear h; have h := h2; clear h2
        refine R.call' (w16 _ _ _ _ _ _ hx4) (by (first | rfl | simp only [D.han, D.har, D.hcmp, D.hgi, D.hinb, D.hlen, D.hnt])) ?_
        clear hx4; cbv
        refine R.callD h (fun x5 hx5 h2 => ?_)
        clear h; have h := h2; clear h2
        refine R.call' (w20 _ _ _ _ _ hx5) (by (first | rfl | simp only [D.han, D.har, D.hcmp, D.hgi, D.hinb, D.hlen, D.hnt])) ?_
        clear hx5; cbv
        refine R.callD h (fun x6 hx6 h2 => ?_)
        clear h; have h := h2; clear h2
        refine R.call' (w45 _ _ _ _ hx6) (by (first | rfl | simp only [D.han, D.har, D.hcmp, D.hgi, D.hinb, D.hlen, D.hnt])) ?_
        clear hx6; cbv
        refine R.cut' (by kernel_rfl) (by kernel_rfl) ?_
        cbv
        refine R.cutB (fun p => p) (fun _ _ e => e) h [] (fun p10 => [(120, .b p10)]) (fun p10 => []) (by kernel_rfl) (by kernel_rfl) (fun y9 hy hFy9 L hLy9 => ?_) (fun p10 h2 => ?_)
        · clear h; have h := hy; clear hy; cbv
          refine R.brD h (by (first | rfl | simp only [D.han, D.har, D.hcmp, D.hgi, D.hinb, D.hlen, D.hnt])) ?_ ?_ <;> clear h <;> intro h <;> cbv
          · obtain ⟨s', e, hi⟩ := jn_some (fun p => p) h
            refine hLy9 s' _ _ hi ⟨rfl, ?_, ?_, rfl, rfl⟩ <;> cbv <;> (try (subst e; simp only [D.han, D.har, D.hcmp, D.hgi, D.hinb, D.hlen, D.hnt, and_self, and_true, true_and] <;> (repeat' apply And.intro) <;> rfl))
          · refine R.brD h (by (first | rfl | simp only [D.han, D.har, D.hcmp, D.hgi, D.hinb, D.hlen, D.hnt])) ?_ ?_ <;> clear h <;> intro h <;> cbv
            · obtain ⟨s', e, hi⟩ := jn_some (fun p => p) h
              refine hLy9 s' _ _ hi ⟨rfl, ?_, ?_, rfl, rfl⟩ <;> cbv <;> (try (subst e; simp only [D.han, D.har, D.hcmp, D.hgi, D.hinb, D.hlen, D.hnt, and_self, and_true, true_and] <;> (repeat' apply And.intro) <;> rfl))
            · refine R.brD h (by (first | rfl | simp only [D.han, D.har, D.hcmp, D.hgi, D.hinb, D.hlen, D.hnt])) ?_ ?_ <;> clear h <;> intro h <;> cbv
              · obtain ⟨s', e, hi⟩ := jn_some (fun p => p) h
                refine hLy9 s' _ _ hi ⟨rfl, ?_, ?_, rfl, rfl⟩ <;> cbv <;> (try (subst e; simp only [D.han, D.har, D.hcmp, D.hgi, D.hinb, D.hlen, D.hnt, and_self, and_true, true_and] <;> (repeat' apply And.intro) <;> rfl))
              · refine R.brD h (by (first | rfl | simp only [D.han, D.har, D.hcmp, D.hgi, D.hinb, D.hlen, D.hnt])) ?_ ?_ <;> clear h <;> intro h <;> cbv
                · obtain ⟨s', e, hi⟩ := jn_some (fun p => p) h
                  refine hLy9 s' _ _ hi ⟨rfl, ?_, ?_, rfl, rfl⟩ <;> cbv <;> (try (subst e; simp only [D.han, D.har, D.hcmp, D.hgi, D.hinb, D.hlen, D.hnt, and_self, and_true, true_and] <;> (repeat' apply And.intro) <;> rfl))
                · refine R.brD h (by (first | rfl | simp only [D.han, D.har, D.hcmp, D.hgi, D.hinb, D.hlen, D.hnt])) ?_ ?_ <;> clear h <;> intro h <;> cbv
                  · obtain ⟨s', e, hi⟩ := jn_some (fun p => p) h
                    refine hLy9 s' _ _ hi ⟨rfl, ?_, ?_, rfl, rfl⟩ <;> cbv <;> (try (subst e; simp only [D.han, D.har, D.hcmp, D.hgi, D.hinb, D.hlen, D.hnt, and_self, and_true, true_and] <;> (repeat' apply And.intro) <;> rfl))
                  · refine R.brD h (by (first | rfl | simp only [D.han, D.har, D.hcmp, D.hgi, D.hinb, D.hlen, D.hnt])) ?_ ?_ <;> clear h <;> intro h <;> cbv
                    · obtain ⟨s', e, hi⟩ := jn_some (fun p => p) h
                      refine hLy9 s' _ _ hi ⟨rfl, ?_, ?_, rfl, rfl⟩ <;> cbv <;> (try (subst e; simp only [D.han, D.har, D.hcmp, D.hgi, D.hinb, D.hlen, D.hnt, and_self, and_true, true_and] <;> (repeat' apply And.intro) <;> rfl))
                    · obtain ⟨s', e, hi⟩ := jn_some (fun p => p) h
                      refine hLy9 s' _ _ hi ⟨rfl, ?_, ?_, rfl, rfl⟩ <;> cbv <;> (try (subst e; simp only [D.han, D.har, D.hcmp, D.hgi, D.hinb, D.hlen, D.hnt, and_self, and_true, true_and] <;> (repeat' apply And.intro) <;> rfl))
        · clear h; have h := h2; clear h2; try dsimp only at h
          cbv
          refine R.brD h (by (first | rfl | simp only [D.han, D.har, D.hcmp, D.hgi, D.hinb, D.hlen, D.hnt])) ?_ ?_ <;> clear h <;> intro h <;> cbv
          · have e := ret_some h; clear h
            refine hK _ _ ?_
            cbv
            try (subst e; simp only [D.han, D.har, D.hcmp, D.hgi, D.hinb, D.hlen, D.hnt, and_self, and_true, true_and] <;> (repeat' apply And.intro) <;> rfl)
          · refine R.callD h (fun x11 hx11 h2 => ?_)
            clear h; have h := h2; clear h2
            refine R.call' (w41s _ _ _ _ _ hx11) (by (first | rfl | simp only [D.han, D.har, D.hcmp, D.hgi, D.hinb, D.hlen, D.hnt])) ?_
            clear hx11; cbv
            refine R.cut' (by kernel_rfl) (by kernel_rfl) ?_
            cbv
            refine R.brD h (by (first | rfl | simp only [D.han, D.har, D.hcmp, D.hgi, D.hinb, D.hlen, D.hnt])) ?_ ?_ <;> clear h <;> intro h <;> cbv
            · have e := ret_some h; clear h
              refine hK _ _ ?_
              cbv
              try (subst e; simp only [D.han, D.har, D.hcmp, D.hgi, D.hinb, D.hlen, D.hnt, and_self, and_true, true_and] <;> (repeat' apply And.intro) <;> rfl)
            · refine R.cutB Sum.inl (fun _ _ e => Sum.inl.inj e) h [] (fun p19 => []) (fun p19 => []) (by kernel_rfl) (by kernel_rfl) (fun y14 hy hFy14 L hLy14 => ?_) (fun p19 h2 => ?_)
              · clear h; have h := hy; clear hy; cbv
                refine R.loopD h (fun s0 y16 e0 hi hFs15 => ?_)
                clear h
                refine R.loopI hi [] (fun s15 => [(23, .i .i64 s15)]) (fun s15 => []) ⟨rfl, ?_, ?_, rfl, rfl⟩ (by kernel_rfl) ?_
                · cbv; try (subst e0; simp only [D.han, D.har, D.hcmp, D.hgi, D.hinb, D.hlen, D.hnt, and_self, and_true, true_and] <;> (repeat' apply And.intro) <;> rfl)
                · cbv; try (subst e0; simp only [D.han, D.har, D.hcmp, D.hgi, D.hinb, D.hlen, D.hnt, and_self, and_true, true_and] <;> (repeat' apply And.intro) <;> rfl)
                clear hi e0
                intro s15 m y' hy hins15 houts15 L hLs15
                have h := hy; clear hy; unfold d12_b1 at h
                cbv
                refine R.cut' (by kernel_rfl) (by kernel_rfl) ?_
                cbv
                refine R.brD h (by (first | rfl | simp only [D.han, D.har, D.hcmp, D.hgi, D.hinb, D.hlen, D.hnt])) ?_ ?_ <;> clear h <;> intro h <;> cbv
                · refine R.cut' (by kernel_rfl) (by kernel_rfl) ?_
                  cbv
                  refine R.cut' (by kernel_rfl) (by kernel_rfl) ?_
                  cbv
                  refine R.needD h (by (first | rfl | simp only [D.han, D.har, D.hcmp, D.hgi, D.hinb, D.hlen, D.hnt])) ?_
                  clear h; intro h; cbv
                  refine R.brD h (by (first | rfl | simp only [D.han, D.har, D.hcmp, D.hgi, D.hinb, D.hlen, D.hnt])) ?_ ?_ <;> clear h <;> intro h <;> cbv
                  · have e := inr_some h houts15; clear h
                    have h := hFs15; rw [e] at h; clear e; try dsimp only at h
                    cbv
                    have e := ret_some h; clear h
                    have h := hFy14; rw [e] at h; clear e; try dsimp only at h
                    cbv
                    have e := ret_some h; clear h
                    refine hK _ _ ?_
                    cbv
                    try (subst e; simp only [D.han, D.har, D.hcmp, D.hgi, D.hinb, D.hlen, D.hnt, and_self, and_true, true_and] <;> (repeat' apply And.intro) <;> rfl)
                  · refine R.needD h (by (first | rfl | simp only [D.han, D.har, D.hcmp, D.hgi, D.hinb, D.hlen, D.hnt])) ?_
                    clear h; intro h; cbv
                    refine R.brD h (by (first | rfl | simp only [D.han, D.har, D.hcmp, D.hgi, D.hinb, D.hlen, D.hnt])) ?_ ?_ <;> clear h <;> intro h <;> cbv
                    · have e := inr_some h houts15; clear h
                      have h := hFs15; rw [e] at h; clear e; try dsimp only at h
                      cbv
                      have e := ret_some h; clear h
                      have h := hFy14; rw [e] at h; clear e; try dsimp only at h
                      cbv
                      have e := ret_some h; clear h
                      refine hK _ _ ?_
                      cbv
                      try (subst e; simp only [D.han, D.har, D.hcmp, D.hgi, D.hinb, D.hlen, D.hnt, and_self, and_true, true_and] <;> (repeat' apply And.intro) <;> rfl)
                    · obtain ⟨s', e, hi⟩ := inl_some h hins15
                      refine hLs15 s' _ _ hi ⟨rfl, ?_, ?_, rfl, rfl⟩ <;> cbv <;> (try (subst e; simp only [D.han, D.har, D.hcmp, D.hgi, D.hinb, D.hlen, D.hnt, and_self, and_true, true_and] <;> (repeat' apply And.intro) <;> rfl))
                · have e := inr_some h houts15; clear h
                  have h := hFs15; rw [e] at h; clear e; try dsimp only at h
                  cbv
                  obtain ⟨s', e, hi⟩ := jn_some Sum.inl h
                  refine hLy14 s' _ _ hi ⟨rfl, ?_, ?_, rfl, rfl⟩ <;> cbv <;> (try (subst e; simp only [D.han, D.har, D.hcmp, D.hgi, D.hinb, D.hlen, D.hnt, and_self, and_true, true_and] <;> (repeat' apply And.intro) <;> rfl))
              · clear h; have h := h2; clear h2; try dsimp only at h
                cbv
                refine R.cut' (by kernel_rfl) (by kernel_rfl) ?_
                cbv
                refine R.callD h (fun x21 hx21 h2 => ?_)
                clear h; have h := h2; clear h2
                refine R.call' (w31 _ _ _ _ _ _ _ _ _ hx21) (by (first | rfl | simp only [D.han, D.har, D.hcmp, D.hgi, D.hinb, D.hlen, D.hnt])) ?_
                clear hx21; cbv
                refine R.brD h (by (first | rfl | simp only [D.han, D.har, D.hcmp, D.hgi, D.hinb, D.hlen, D.hnt])) ?_ ?_ <;> clear h <;> intro h <;> cbv
                · have e := ret_some h; clear h
                  refine hK _ _ ?_
                  cbv
                  try (subst e; simp only [D.han, D.har, D.hcmp, D.hgi, D.hinb, D.hlen, D.hnt, and_self, and_true, true_and] <;> (repeat' apply And.intro) <;> rfl)
                · refine R.callD h (fun x22 hx22 h2 => ?_)
                  clear h; have h := h2; clear h2
                  refine R.call' (w16 _ _ _ _ _ _ hx22) (by (first | rfl | simp only [D.han, D.har, D.hcmp, D.hgi, D.hinb, D.hlen, D.hnt])) ?_
                  clear hx22; cbv
                  refine R.callD h (fun x23 hx23 h2 => ?_)
                  clear h; have h := h2; clear h2
                  refine R.call' (w16 _ _ _ _ _ _ hx23) (by (first | rfl | simp only [D.han, D.har, D.hcmp, D.hgi, D.hinb, D.hlen, D.hnt])) ?_
                  clear hx23; cbv
                  refine R.cut' (by kernel_rfl) (by kernel_rfl) ?_
                  cbv
                  refine R.brD h (by (first | rfl | simp only [D.han, D.har, D.hcmp, D.hgi, D.hinb, D.hlen, D.hnt])) ?_ ?_ <;> clear h <;> intro h <;> cbv
                  · refine R.brD h (by (first | rfl | simp only [D.han, D.har, D.hcmp, D.hgi, D.hinb, D.hlen, D.hnt])) ?_ ?_ <;> clear h <;> intro h <;> cbv
                    · have e := ret_some h; clear h
                      refine hK _ _ ?_
                      cbv
                      try (subst e; simp only [D.han, D.har, D.hcmp, D.hgi, D.hinb, D.hlen, D.hnt, and_self, and_true, true_and] <;> (repeat' apply And.intro) <;> rfl)
                    · have e := ret_some h; clear h
                      refine hK _ _ ?_
                      cbv
                      try (subst e; simp only [D.han, D.har, D.hcmp, D.hgi, D.hinb, D.hlen, D.hnt, and_self, and_true, true_and] <;> (repeat' apply And.intro) <;> rfl)
                  · have e := ret_some h; clear h
                    refine hK _ _ ?_
                    cbv
                    try (subst e; simp only [D.han, D.har, D.hcmp, D.hgi, D.hinb, D.hlen, D.hnt, and_self, and_true, true_and] <;> (repeat' apply And.intro) <;> rfl)
end Go.Proofs.Ytmpdimigpaogkaa

end
section
/- The one statement over its function that the law MemStored comes to. Conditions: none. -/
-- Told by a program of this seat's session. Not trusted: Lean checks it.

namespace Go.Proofs.Ytmpdimigpaogkaa
open Go.Ab Go.RowKit
def MemStored.Claim : Prop := ∀ (x0 : ((List Int) × (List Int))) (x1 : (Int × ((Int × Bool) × Int))) (x2 : (Int × ((Int × Bool) × Int))), (fun x : ((List Int) × (List Int)) => (fun l : List Int => l.length ≤ maxLen ∧ ∀ x ∈ l, (fun n : Int => (Lit.int .i64 n).wf = true) x) x.1 ∧ (fun l : List Int => l.length ≤ maxLen ∧ ∀ x ∈ l, (fun n : Int => (Lit.int .u8 n).wf = true) x) x.2) x0 → (fun x : (Int × ((Int × Bool) × Int)) => (fun n : Int => (Lit.int .i64 n).wf = true) x.1 ∧ (fun x : ((Int × Bool) × Int) => (fun x : (Int × Bool) => (fun n : Int => (Lit.int .i64 n).wf = true) x.1 ∧ (fun _ : Bool => True) x.2) x.1 ∧ (fun n : Int => (Lit.int .i64 n).wf = true) x.2) x.2) x1 → (fun x : (Int × ((Int × Bool) × Int)) => (fun n : Int => (Lit.int .i64 n).wf = true) x.1 ∧ (fun x : ((Int × Bool) × Int) => (fun x : (Int × Bool) => (fun n : Int => (Lit.int .i64 n).wf = true) x.1 ∧ (fun _ : Bool => True) x.2) x.1 ∧ (fun n : Int => (Lit.int .i64 n).wf = true) x.2) x.2) x2 → Ab.Fn Try.prog TT 12 [.agg [.sl 3 (x0.1.map (fun x : Int => .i .i64 x)), .sl 5 (x0.2.map (fun x : Int => .i .u8 x))], .agg [.i .i64 x1.1, .i .i64 x1.2.1.1, .b x1.2.1.2, .i .i64 x1.2.2], .agg [.i .i64 x2.1, .i .i64 x2.2.1.1, .b x2.2.1.2, .i .i64 x2.2.2]] (.b true) []
end Go.Proofs.Ytmpdimigpaogkaa
end
section
/- The law MemStored: what was stored is read; all else is as_ before. Conditions: none. -/

namespace Go.Proofs.Ytmpdimigpaogkaa
open Go.Ab Go.RowKit Go.Proofs.Ytmpdimigpaogkaa.G Go.Proofs.YtmpdimigpaogkaaW.PrintWords Go.Proofs.YtmpdimigpaogkaaW.PrintLast
theorem bind_toH {α β : Type} {x : Option α} {F : α → Option β} {a : α} {r : Option β} (h : x = some a) (k : F a = r) : x.bind F = r := by subst h; exact k
theorem fault_less {P B : List Int} (hc : checkV P B = 0) {x n : Int} (hx : -9223372036854775808 ≤ x ∧ x ≤ 9223372036854775807) (h : (fault P B x n 2).1 = 0) {q : Int} (hq : q = 0 ∨ q = 1) : fault P B x n q = (0, 0) := by
  obtain ⟨c1, c2, c3⟩ := check_to hc
  have h2 := fault_none (.inr (.inr (.inl rfl))) h
  unfold fault
  rw [needs_of_none]
  · rfl
  · intro j hj
    have h3 := h2 j (by omega)
    rw [show (0 : Int) + (j : Int) = j from by omega]
    generalize wrap64 (x + j) = y at *
    have hr := need1_range h3
    unfold need1 at h3 ⊢
    rw [if_pos hr] at h3 ⊢
    split at h3
    · rename_i h4
      have hp := perm_at hc hr.1 (show y < ln B from hr.2)
      have e : rd P (y / 64) = rdI P (y / 64) := rfl
      rw [e] at h4 ⊢
      generalize rdI P (y / 64) = p at *
      have : p = 3 := by
        rcases hp with rfl | rfl | rfl | rfl
        · exact absurd h4 (by decide)
        · exact absurd h4 (by decide)
        · rfl
        · exact absurd h4 (by decide)
      subst this
      rcases hq with rfl | rfl <;> rfl
    · cases h3
theorem loaded_stored {B : List Int} {x n : Int} {b : Bool} {v : Int} (ht : tyOk n = true) (hv : -9223372036854775808 ≤ v ∧ v ≤ 9223372036854775807) (h0 : 0 ≤ x) (h1 : x + n ≤ ln B) : part (stored B x n b v) x n = leBytes n.toNat (wrapT n b v) ∧ wrapT n b (IntKind.i64.wrap (le (leBytes n.toNat (wrapT n b v)))) = wrapT n b v := by
  have := ty_pos ht
  have hl : ln (leBytes n.toNat (wrapT n b v)) = n := by unfold ln; rw [leBytes_length]; omega
  constructor
  · have := part_spl (B := B) (b := leBytes n.toNat (wrapT n b v)) h0 (by omega)
    rw [hl] at this
    exact this
  · rw [le_leBytes]
    rcases ty_iff.1 ht with rfl | rfl | rfl | rfl <;> cases b <;> simp [wrapT, wr64, wrap32, wrap64] <;> omega
theorem diffs_in {B C : List Int} {lo hi : Int} (h : ∀ i, 0 ≤ i → i < ln B → i < lo ∨ hi ≤ i → rdI B i = rdI C i) : ∀ (m : Nat) (i : Int), 0 ≤ i → i + m ≤ ln B → ∀ e ∈ diffs B C m i, lo ≤ e.1 ∧ e.1 < hi
  | 0, _, _, _, e, he => by cases he
  | m + 1, i, h0, h1, e, he => by
    unfold diffs at he
    split at he
    · rename_i hne
      rcases List.mem_cons.1 he with rfl | he
      · by_cases hx : i < lo ∨ hi ≤ i
        · exact absurd (h i h0 (by omega) hx) hne
        · simp only; omega
      · exact diffs_in h m (i + 1) (by omega) (by omega) e he
    · exact diffs_in h m (i + 1) (by omega) (by omega) e he
theorem gI_chg (l : List (Int × Int × Int)) (i : Int) : gI (chgs l) i 0 = (l.getD i.toNat (0, 0, 0)).1 := by
  simp only [gI, elAt, chgs, List.getD_eq_getElem?_getD, List.getElem?_map]
  cases h : l[i.toNat]? <;> simp [cellAt, chg, Ab.asInt]
theorem it12 (x n : Int) (L : List (Int × Int × Int)) (hL : ∀ e ∈ L, x ≤ e.1 ∧ e.1 < x + n) (hr : -9223372036854775808 ≤ x + n ∧ x + n ≤ 9223372036854775807) (hl : (L.length : Int) ≤ 2048) : iter (d12_b1 x n (chgs L, 0)) 0 = some (.inr ()) := by
  refine iter_fun (fun s : Int => 0 ≤ s ∧ s ≤ (L.length : Int)) (fun s : Int => ((L.length : Int) - s).toNat) (fun _ => (Sum.inr () : Bool ⊕ Unit)) (fun s hs => ?_) 0 ⟨by omega, by omega⟩
  obtain ⟨h0, h1⟩ := hs
  unfold d12_b1
  have el : lenI (chgs L) = L.length := by simp [lenI, chgs]
  simp only [c_lss, c_geq, decide_eq_true_eq, el, gI_chg]
  by_cases hlt : s < L.length
  · have hm : L.getD s.toNat (0, 0, 0) ∈ L := by
      rw [List.getD_eq_getElem?_getD, List.getElem?_eq_getElem (by omega)]
      exact List.getElem_mem _
    have := hL _ hm
    rw [if_pos hlt, if_pos (show Inb s L.length from ⟨h0, hlt⟩), if_neg (by omega), if_pos (show Inb s L.length from ⟨h0, hlt⟩), a_add hr.1 hr.2, if_neg (by omega), a_add (by omega) (by omega)]
    exact .inl ⟨s + 1, rfl, ⟨by omega, by omega⟩, by omega, trivial⟩
  · rw [if_neg hlt]; exact .inr rfl
theorem loadV_out {P B : List Int} {x n : Int} {b : Bool} {v : Int} (hc : checkV P B = 0) (hn : tyOk n = true) (h0 : 0 ≤ x) (h1 : x + n ≤ ln B) {y m : Int} (c : Bool) (hy : -9223372036854775808 ≤ y ∧ y ≤ 9223372036854775807) (hap : apartB x n y m = true) : loadV P (stored B x n b v) y m c = loadV P B y m c := by
  have hnp := ty_pos hn
  have hl : ln (stored B x n b v) = ln B := stored_ln (by omega) h0 h1
  obtain ⟨c1, c2, c3⟩ := check_to hc
  unfold loadV
  rw [if_neg (not_not_intro hc), if_neg (not_not_intro (check_len hl hc))]
  by_cases ht : tyOk m = true
  · have hmp := ty_pos ht
    rw [if_pos ht, if_pos ht, fault_len (C := B) (by unfold ln at hl; omega)]
    by_cases hf : (fault P B y m 1).1 = 0
    · obtain ⟨f1, f2, f3⟩ := fault_in hc hy (by omega) (by omega) (.inr (.inl rfl)) hf
      rw [if_neg (not_not_intro hf), if_neg (not_not_intro hf)]
      have hd : x + n ≤ y ∨ y + m ≤ x := by
        unfold apartB at hap
        have := of_decide_eq_true hap
        rw [wr (by omega) (by omega), wr (by omega) (by omega)] at this
        exact this.2.2.2.2
      have hbl : ln (leBytes n.toNat (wrapT n b v)) = n := by unfold ln; rw [leBytes_length]; omega
      have : part (stored B x n b v) y m = part B y m := part_out h0 (by omega) f1 (by omega) f2 (by omega)
      unfold loaded
      rw [this]
    · rw [if_pos hf, if_pos hf]
  · rw [if_neg ht, if_neg ht]
theorem d12_true (P B : List Int) (hB : Bytes B) (hP : ln P ≤ 9223372036854775807) (x n : Int) (b : Bool) (v : Int) (hx : -9223372036854775808 ≤ x ∧ x ≤ 9223372036854775807) (hv : -9223372036854775808 ≤ v ∧ v ≤ 9223372036854775807) (y m : Int) (c : Bool) (w : Int) (hy : -9223372036854775808 ≤ y ∧ y ≤ 9223372036854775807) : d12 (ints P) (u8s B) x n b v y m c w = some true := by
  unfold d12
  rw [s14, Option.bind_some, s17 P B x hx, Option.bind_some, if_neg (by simp [notB'])]
  by_cases hc : checkV P B = 0
  · by_cases ht : tyOk n = true
    · by_cases hf : (fault P B x n 2).1 = 0
      · have htp := ty_pos ht
        obtain ⟨c1, c2, c3⟩ := check_to hc
        have e : storeV P B x n b v = (ints P, u8s (stored B x n b v), 0, 0, 0) := by unfold storeV; rw [if_neg (not_not_intro hc), if_pos ht, if_neg (not_not_intro hf)]
        obtain ⟨f1, f2, f3⟩ := fault_in hc hx (by omega) (by omega) (.inr (.inr (.inl rfl))) hf
        have hl : ln (stored B x n b v) = ln B := stored_ln (by omega) f1 f2
        have hc2 := check_len hl hc
        have hB2 := bytesStored hB x n b v
        obtain ⟨g1, g2⟩ := loaded_stored (b := b) (v := v) ht hv f1 f2
        have hF : ∀ q, q = 0 ∨ q = 1 → fault P (stored B x n b v) x n q = (0, 0) := fun q hq => by
          rw [fault_len (C := B) (by unfold ln at hl; omega)]; exact fault_less hc hx hf hq
        rw [e]
        simp only [c_neq, ne_eq, not_true_eq_false, decide_false, Bool.false_eq_true, if_false]
        rw [s44 n b v hv, Option.bind_some, s16 P _ hB2 x hx, Option.bind_some, s20 P _ x n hx, Option.bind_some]
        have eL : loadV P (stored B x n b v) x n b = (wrapT n b v, 0, 0, 0) := by
          unfold loadV
          rw [if_neg (not_not_intro hc2), if_pos ht, hF 1 (.inr rfl), if_neg (by simp)]
          unfold loaded
          rw [g1, g2]
        have eP : peekV P (stored B x n b v) x n = (leBytes n.toNat (wrapT n b v), 0, 0, 0) := by
          unfold peekV
          rw [if_neg (not_not_intro hc2), if_neg (by omega), hF 0 (.inl rfl), if_neg (by simp; omega), g1]
        have hll : ln (leBytes n.toNat (wrapT n b v)) = n := by unfold ln; rw [leBytes_length]; omega
        rw [eL, eP]
        simp only []
        rw [s45 n b _ (leB_bytes _ _) (by omega), Option.bind_some, if_pos ht, if_pos ht, if_pos hll, g2]
        refine bind_toH (a := false) (by simp) ?_
        rw [if_neg (by simp), s41, Option.bind_some]
        have eD : diffV P B P (stored B x n b v) = (chgs (diffs B (stored B x n b v) (ln B).toNat 0), 0) := by
          unfold diffV
          rw [if_neg (not_not_intro hc), if_neg (not_not_intro hc2), if_pos rfl]
        rw [eD, if_neg (by simp)]
        have hin := diffs_in (B := B) (C := stored B x n b v) (lo := x) (hi := x + n) (fun i i0 i1 ho => (rdI_spl f1 (by rw [hll]; exact f2) i0 (by rw [hll]; exact ho)).symm) (ln B).toNat 0 (by omega) (by have := ln_nn B; omega)
        have hdl := diffs_len B (stored B x n b v) (ln B).toNat 0
        rw [it12 x n _ hin (by omega) (by omega)]
        simp only [Option.bind_some]
        rw [s31, Option.bind_some]
        by_cases hap : apartB x n y m = true
        · rw [if_neg (by simp [notB', hap]), s16 P B hB y hy, Option.bind_some, s16 P _ hB2 y hy, Option.bind_some, loadV_out hc ht f1 f2 c hy hap]
          simp [c_eql, andB']
        · rw [if_pos (by simp [notB', hap])]
      · have e : storeV P B x n b v = ([], [], (fault P B x n 2).1, (fault P B x n 2).2, 0) := by unfold storeV; rw [if_neg (not_not_intro hc), if_pos ht, if_pos hf]
        rw [e, if_neg (by simp [c_neq]), if_pos (by simp [c_neq, hf])]
    · have e : storeV P B x n b v = ([], [], 0, 0, 10) := by unfold storeV; rw [if_neg (not_not_intro hc), if_neg ht]
      rw [e, if_pos (by simp [c_neq])]
  · have e : storeV P B x n b v = ([], [], 0, 0, checkV P B) := by unfold storeV; rw [if_pos hc]
    rw [e, if_pos (by simp [c_neq, hc])]
theorem MemStored.pure : MemStored.Claim := by
  intro x0 x1 x2 h0 h1 h2
  exact w12 (ints x0.1) (u8s x0.2) x1.1 x1.2.1.1 x1.2.1.2 x1.2.2 x2.1 x2.2.1.1 x2.2.1.2 x2.2.2 true (d12_true x0.1 x0.2 (bytesWf h0.2.2) (lnmax h0.1.1) x1.1 x1.2.1.1 x1.2.1.2 x1.2.2 (wf64 h1.1) (wf64 h1.2.2) x2.1 x2.2.1.1 x2.2.1.2 x2.2.2 (wf64 h2.1))
end Go.Proofs.Ytmpdimigpaogkaa
end
section
/- MemStored: the law's call returns true for every input, and its arguments read afterwards as_ before. Conditions: none. -/
-- Told by a program of this seat's session. Not trusted: Lean checks it.

namespace Go.Proofs.Ytmpdimigpaogkaa.memStored
open Go.ChangeShapes Go.WideShapes Go.ChangeAt Go.RowKit Go.Ab Go.Proofs.Ytmpdimigpaogkaa
open Go.ChangeMaps (open_string shut_string)
theorem own : ownKnob Try.prog.godebug = none := by kernel_rfl
theorem laidOut : laidOutB Try.prog = true := by kernel_rfl
set_option maxRecDepth 100000 in
set_option maxHeartbeats 8000000 in
theorem lifted (os : Os) (started : os.Started) (H : Type) (enc : TypeId × Value → H) :
    ReturnsInHanded {} Try.checked os 12 .any (Rows.memStoredSpec.pre6 enc Try.prog Try.f12 Rows.memStoredRow.domain false) (Rows.memStoredSpec.post enc Try.prog Try.f12 false true false false) := by
  refine returnsInHanded_of_change_sized (C := Try.checked) own started (by kernel_rfl) Try.func12
    (ChangeSpec.witness6 (enc := enc) (C := Try.checked) false ⟨#[], #[.agg #[.slice none 0 0, .slice none 0 0], .agg #[.int .i64 0, .int .i64 0, .bool false, .int .i64 0], .agg #[.int .i64 0, .int .i64 0, .bool false, .int .i64 0]], []⟩ 8 (by kernel_rfl) (by kernel_rfl) (by kernel_rfl) (by kernel_rfl)) ?_
  intro W base args ds gs before hval0 hW hcnd hsz0 _
  have hval : ∀ (j : Nat) t v, Try.f12.params[j]? = some t → args[j]? = some v → Value.okWide Try.prog W .any base t v := hval0
  have hW' := hW
  obtain ⟨p, q, hA0, hV, rfl, hfz, hnd⟩ := hW
  have hA : DataW.TrodAll enc Try.prog W 0 (fun _ => true) true Try.f12.params.toList args.toList ds p := hA0
  rw [Try.params12] at hA hval
  obtain ⟨v0, vs0, d0, ds0, p0, q0, hargs, rfl, rfl, h0, r0⟩ := trodAll_cons hA
  obtain ⟨v1, vs1, d1, ds1, p1, q1, rfl, rfl, rfl, h1, r1⟩ := trodAll_cons r0
  obtain ⟨v2, vs2, d2, ds2, p2, q2, rfl, rfl, rfl, h2, r2⟩ := trodAll_cons r1
  obtain ⟨rfl, rfl, rfl⟩ := trodAll_nil r2
  obtain rfl : args = #[v0, v1, v2] := by cases args; simp_all
  obtain ⟨rfl, rfl⟩ := trodVars_none hV
  have k0 := h0
  have lt0 : ∀ x ∈ p0, x.block < W.heap.size := by obtain ⟨m, hm⟩ := k0; exact DataW.trod_lt m _ _ _ hm
  obtain ⟨cs0, rfl, sz0⟩ := okWide_struct Try.underlying25 (hval 0 25 v0 rfl rfl)
  obtain ⟨x0, ra0, rb0, _, ok0⟩ := h0.elim fun fuel hf => ((OpV.struct tok (te := te25) (by kernel_rfl) rfl (by kernel_rfl) (OpAt.cons rfl (by kernel_rfl) (OpV.slice tok (fun x : Int => .i .i64 x) (te := te22) (eu := te3) (by kernel_rfl) rfl (by kernel_rfl) (by decide) (by kernel_rfl) (.inr ⟨by kernel_rfl, rfl, fun _ => rfl⟩) (OpV.int tok (e := te3) (by kernel_rfl) rfl)) (OpAt.last rfl (by kernel_rfl) (OpV.slice tok (fun x : Int => .i .u8 x) (te := te23) (eu := te5) (by kernel_rfl) rfl (by kernel_rfl) (by decide) (by kernel_rfl) (.inr ⟨by kernel_rfl, rfl, fun _ => rfl⟩) (OpV.int tok (e := te5) (by kernel_rfl) rfl))))) : OpV TT enc Try.prog W 25 _ _ _) _ _ _ hf
  have k1 := h1
  have lt1 : ∀ x ∈ p1, x.block < W.heap.size := by obtain ⟨m, hm⟩ := k1; exact DataW.trod_lt m _ _ _ hm
  obtain ⟨cs1, rfl, sz1⟩ := okWide_struct Try.underlying31 (hval 1 31 v1 rfl rfl)
  obtain ⟨x1, ra1, rb1, _, ok1⟩ := h1.elim fun fuel hf => ((OpV.struct tok (te := te31) (by kernel_rfl) rfl (by kernel_rfl) (OpAt.cons rfl (by kernel_rfl) (OpV.int tok (e := te2) (by kernel_rfl) rfl) (OpAt.cons rfl (by kernel_rfl) (OpV.struct tok (te := te29) (by kernel_rfl) rfl (by kernel_rfl) (OpAt.cons rfl (by kernel_rfl) (OpV.int tok (e := te3) (by kernel_rfl) rfl) (OpAt.last rfl (by kernel_rfl) (OpV.bool tok (e := te4) (by kernel_rfl) rfl)))) (OpAt.last rfl (by kernel_rfl) (OpV.int tok (e := te2) (by kernel_rfl) rfl))))) : OpV TT enc Try.prog W 31 _ _ _) _ _ _ hf
  have k2 := h2
  have lt2 : ∀ x ∈ p2, x.block < W.heap.size := by obtain ⟨m, hm⟩ := k2; exact DataW.trod_lt m _ _ _ hm
  obtain ⟨cs2, rfl, sz2⟩ := okWide_struct Try.underlying31 (hval 2 31 v2 rfl rfl)
  obtain ⟨x2, ra2, rb2, _, ok2⟩ := h2.elim fun fuel hf => ((OpV.struct tok (te := te31) (by kernel_rfl) rfl (by kernel_rfl) (OpAt.cons rfl (by kernel_rfl) (OpV.int tok (e := te2) (by kernel_rfl) rfl) (OpAt.cons rfl (by kernel_rfl) (OpV.struct tok (te := te29) (by kernel_rfl) rfl (by kernel_rfl) (OpAt.cons rfl (by kernel_rfl) (OpV.int tok (e := te3) (by kernel_rfl) rfl) (OpAt.last rfl (by kernel_rfl) (OpV.bool tok (e := te4) (by kernel_rfl) rfl)))) (OpAt.last rfl (by kernel_rfl) (OpV.int tok (e := te2) (by kernel_rfl) rfl))))) : OpV TT enc Try.prog W 31 _ _ _) _ _ _ hf
  clear hA0 hval0 hsz0
  refine (law_calls (w := W) (MemStored.pure x0 x1 x2 ok0 ok1 ok2) (args_agg ra0 rb0 (args_agg ra1 rb1 (args_agg ra2 rb2 args_nil)))).mono fun e W' ⟨he, bel⟩ => ?_
  subst he
  exact ⟨_, rfl, _, _, _, [], _, [], hW', trodAll_mk1 (shut_bool Try.underlying4 _), (trodAll_cons_mk (Below.trod laidOut (by kernel_rfl) (of_decide_eq_true (by kernel_rfl)) k0 bel lt0) (trodAll_cons_mk (Below.trod laidOut (by kernel_rfl) (of_decide_eq_true (by kernel_rfl)) k1 bel lt1) (trodAll_cons_mk (Below.trod laidOut (by kernel_rfl) (of_decide_eq_true (by kernel_rfl)) k2 bel lt2) trodAll_mk0))), rfl, bel.frame _, fun h => by cases h⟩
theorem over : Rows.memStoredRow.holds Try.pinned (OpenSpec.ofChange Rows.memStoredSpec) :=
  OpenClaim.holds_of_wide 12 Try.f12 rfl rfl rfl rfl rfl rfl rfl ⟨rfl, rfl, rfl, rfl, rfl⟩ rfl rfl rfl rfl rfl (by kernel_rfl) Try.func12 (by kernel_rfl)
    (of_decide_eq_true (by kernel_rfl)) (by unfold Func.isWrapper; first | (rw [if_pos (by decide +kernel)]; kernel_rfl) | (rw [if_neg (by decide +kernel)]; exact ⟨rfl, rfl⟩))
    (fun os started H enc _ => lifted os started H enc)
theorem proved : Rows.MemStoredSaid := over
end Go.Proofs.Ytmpdimigpaogkaa.memStored
namespace Go.Proofs.Ytmpdimigpaogkaa
theorem memStored_holds : Rows.MemStoredSaid := memStored.proved
end Go.Proofs.Ytmpdimigpaogkaa
end
