/- The law MemCode: its function's walk, the pure law, the row. Conditions: none. -/
import Derived.Test.YtmpdimigpaogkaaRows
import Derived.WalkKit
import Derived.ProofKit
import Derived.OpenShut
import Derived.ShutString
import Derived.ChangeOld
import Derived.Below
import Derived.SizedLaws
import Derived.Carry
import Derived.Test.YtmpdimigpaogkaaK5
set_option linter.unusedVariables false
set_option linter.unusedSimpArgs false
section
namespace Go.Proofs.Ytmpdimigpaogkaa
open Go.Ab Go.RowKit Go.Proofs.Ytmpdimigpaogkaa.G Go.Proofs.YtmpdimigpaogkaaW.PrintWords Go.Proofs.YtmpdimigpaogkaaW.PrintLast
set_option maxRecDepth 100000
set_option maxHeartbeats 4000000
noncomputable def d4_b1 (a0_0 : List V) (a0_1 : List V) (p31 : List V × List V) (s39 : Int) : Option ((Int) ⊕ ((Bool) ⊕ (Unit))) :=
  if (cmpLit .lss s39 (lenI a0_0)) = true then
    if (Inb s39 (lenI a0_0)) then
      if (cmpLit .eql (gI a0_0 s39 0) 4) = true then
        if (Inb s39 (lenI p31.1)) then
          if (cmpLit .neq (gI p31.1 s39 0) 4) = true then
            some (.inr (.inl false))
          else
            if (Bnd (arReal .mul .i64 64 s39) (arReal .add .i64 (arReal .mul .i64 64 s39) 64) (lenI p31.2)) then
              if (Bnd (arReal .mul .i64 64 s39) (arReal .add .i64 (arReal .mul .i64 64 s39) 64) (lenI a0_1)) then
                if (strCmp .neq (toBy (subL p31.2 (arReal .mul .i64 64 s39) (arReal .add .i64 (arReal .mul .i64 64 s39) 64))) (toBy (subL a0_1 (arReal .mul .i64 64 s39) (arReal .add .i64 (arReal .mul .i64 64 s39) 64)))) = true then
                  some (.inr (.inl false))
                else
                  some (.inl (arReal .add .i64 s39 1))
              else none
            else none
        else none
      else
        some (.inl (arReal .add .i64 s39 1))
    else none
  else
    some (.inr (.inr ()))
noncomputable def d4 (a0_0 : List V) (a0_1 : List V) (a1_0 : Int) (a1_1 : Int) (a1_2 : Int) (a2_0 : Int) (a2_1 : Int) (a2_2 : Bool) (a2_3 : Int) : Option (Bool) :=
  (d14).bind fun x1 =>
  if (notB' x1) = true then
    some x1
  else
    (d18 a0_0 a0_1).bind fun x5 =>
    if (cmpLit .neq x5 0) = true then
      some x1
    else
      (d19 a0_0 a0_1 a1_0 a1_1).bind fun x6 =>
      Option.bind (α := (Unit) ⊕ (Bool)) (
        if (cmpLit .eql x6.2 0) = true then
          (d20 a0_0 a0_1 a1_0 (lenI x6.1)).bind fun x15 =>
          (d15 a0_0 a0_1 a1_0 (lenI x6.1) 4).bind fun x16 =>
          Option.bind (α := Bool) (
            if (cmpLit .neq x15.2.2.2 0) = true then
              some true
            else
              if (cmpLit .neq x15.2.1 0) = true then
                some true
              else
                if (cmpLit .neq x16.2.2 0) = true then
                  some true
                else
                  if (cmpLit .neq x16.1 0) = true then
                    some true
                  else
                    if (strCmp .neq (toBy x6.1) (toBy x15.1)) = true then
                      some true
                    else
                      some (cmpLit .gtr (lenI x6.1) a1_1)) fun y19 =>
          if y19 = true then
            some (.inr false)
          else
            if (cmpLit .lss (lenI x6.1) a1_1) = true then
              (d15 a0_0 a0_1 (arReal .add .i64 a1_0 (lenI x6.1)) 1 4).bind fun x21 =>
              if (cmpLit .neq x21.2.2 0) = true then
                some (.inr false)
              else
                if (cmpLit .eql x21.1 0) = true then
                  some (.inr false)
                else
                  some (.inl ())
            else
              some (.inl ())
        else
          some (.inl ())) fun y14 =>
      match y14 with
      | .inl p22 =>
        (d21 a0_0 a0_1 a1_1 a1_2).bind fun x23 =>
        Option.bind (α := List V × List V) (
          if (cmpLit .eql x23.2.2 0) = true then
            some (x23.1, x23.2.1)
          else
            some (a0_0, a0_1)) fun y24 =>
        (d17 y24.1 y24.2 a2_0 a2_1 a2_2 a2_3).bind fun x26 =>
        Option.bind (α := List V × List V) (
          if (cmpLit .eql x26.2.2.2.2 0) = true then
            if (cmpLit .eql x26.2.2.1 0) = true then
              some (x26.1, x26.2.1)
            else
              some (y24.1, y24.2)
          else
            some (y24.1, y24.2)) fun y27 =>
        (d22 y27.1 y27.2 a1_2).bind fun x29 =>
        Option.bind (α := List V × List V) (
          if (cmpLit .eql x29.2.2 0) = true then
            some (x29.1, x29.2.1)
          else
            some (y27.1, y27.2)) fun y30 =>
        (d18 y30.1 y30.2).bind fun x35 =>
        if (cmpLit .neq x35 0) = true then
          some false
        else
          if (cmpLit .neq (lenI y30.1) (lenI a0_0)) = true then
            some false
          else
            Option.bind (α := (Unit) ⊕ (Bool)) (
              (iter (d4_b1 a0_0 a0_1 y30) 0).bind fun y40 =>
              match y40 with
              | .inl p41 =>
                some (.inr p41)
              | .inr y40r0 =>
                some (.inl ())) fun y38 =>
            match y38 with
            | .inl p43 =>
              some true
            | .inr y38r0 =>
              some y38r0
      | .inr y14r0 =>
        some y14r0
noncomputable def w4_c : Code := (Try.f4.body).getD .skip
theorem w4_h : Try.f4.body = some w4_c := by kernel_rfl
theorem w4 (a0_0 : List V) (a0_1 : List V) (a1_0 : Int) (a1_1 : Int) (a1_2 : Int) (a2_0 : Int) (a2_1 : Int) (a2_2 : Bool) (a2_3 : Int) (r : Bool) (h : d4 a0_0 a0_1 a1_0 a1_1 a1_2 a2_0 a2_1 a2_2 a2_3 = some r) : Ab.Fn Try.prog TT 4 [.agg [.sl 3 a0_0, .sl 5 a0_1], .agg [.i .i64 a1_0, .i .i64 a1_1, .i .i64 a1_2], .agg [.i .i64 a2_0, .i .i64 a2_1, .b a2_2, .i .i64 a2_3]] (.b r) [] := by
  refine fn_pure tok (fun r => match r with | 29 => [[],[0],[],[0,1,2],[0,1,2,3],[0,1,2,3,4],[0,1,2,3,4,5],[0,1,2,3,4,5,6],[0,1,2,3,4,5,6,7],[0,1,2,3,4,5,6],[0,1,2,3,4,5,6,7,8,9],[0,1,2,3,4,5,6,7,8,9,10],[0,1,2,3,4,5,6,7,8,9,10,11],[0,1,2,3,4,5,6,7,8,9,10,11,12],[0,1,2,3,4,5,6,7,8,9,10,11,12,13],[0,1,2,3,4,5,6,7,8,9,10,11,12,13,14],[0,1,2,3,4,5,6,7,8,9,10,11,12,13],[0,1,2,3,4,5,6,7,8,9,10,11,12,13,16],[0,1,2,3,4,5,6,7,8,9,10,11,12,13],[0,1,2,3,4,5,6,7,8,9,10,11,12,13,18],[0,1,2,3,4,5,6,7,8,9,10,11,12,13,18,19],[0,1,2,3,4,5,6,7,8,9,10,11,12,13,14,15,16,17,18,19,20],[0,1,2,3,4,5,6,7,8,9,10,11,12,13,14,15,16,17,18,19,20,21],[0,1,2,3,4,5,6,7,8,9,10,11,12,13],[0,1,2,3,4,5,6,7,8,9,10,11,12,13,23],[0,1,2,3,4,5,6,7,8,9,10,11,12,13],[0,1,2,3,4,5,6,7,8,9,10,11,12,13,25],[0,1,2,3,4,5,6,7,8,9,10,11,12,13],[0,1,2,3,4,5,6,7,8,9,10,11,12,13,27],[0,1,2,3,4,5,6,7,8,9,10,11,12,13,27,28],[0,1,2,3,4,5,6,7,8,9,10,11,12,13,23,24,25,26,27,28,29],[0,1,2,3,4,5,6,7,8,9,10,11,12,13,23,24,25,26,27,28,29,30],[0,1,2,3,4,5,6,7,8,9,10,11,12,13,14,15,16,17,18,19,20,21,22,23,24,25,26,27,28,29,30,31],[0,1,2,3,4,5,6,7,8,9,10,11,12,13,14,15,16,17,18,19,20,21,22,23,24,25,26,27,28,29,30,31,32],[0,1,2,3,4,5,6,7,8,9,10,11,12,13,14,15,16,17,18,19,20,21,22,23,24,25,26,27,28,29,30,31,32,33]] | _ => []) Try.func4 (by kernel_rfl) w4_h (by kernel_rfl) ?_
  intro ar un cv mn mx pl mi cmp nt beq an scmp cat slen sbyte ssub ofB toB len gi gb gs gl sub put app ovl rep ne0 ge0 inb bnd room sroom need br call loop cut nl E R K hK
  have D := E.D
  clear E
  unfold d4 at h
  cbv
  refine R.callD h (fun x1 hx1 h2 => ?_)
  clear h; have h := h2; clear h2
  refine R.call' (w14 _ hx1) (by (first | rfl | simp only [D.har, D.hbnd, D.hcmp, D.hgi, D.hinb, D.hlen, D.hnt, D.hscmp, D.hsub, D.htoB])) ?_
  clear hx1; cbv
  refine R.cut' (by kernel_rfl) (by kernel_rfl) ?_
  cbv
  refine R.cut' (by kernel_rfl) (by kernel_rfl) ?_
  cbv
  refine R.brD h (by (first | rfl | simp only [D.har, D.hbnd, D.hcmp, D.hgi, D.hinb, D.hlen, D.hnt, D.hscmp, D.hsub, D.htoB])) ?_ ?_ <;> clear h <;> intro h <;> cbv
  · have e := ret_some h; clear h
    refine hK _ _ ?_
    cbv
    try (subst e; simp only [D.har, D.hbnd, D.hcmp, D.hgi, D.hinb, D.hlen, D.hnt, D.hscmp, D.hsub, D.htoB, and_self, and_true, true_and] <;> (repeat' apply And.intro) <;> rfl)
  · refine R.callD h (fun x5 hx5 h2 => ?_)
    clear h; have h := h2; clear h2
    refine R.call' (w18 _ _ _ hx5) (by (first | rfl | simp only [D.har, D.hbnd, D.hcmp, D.hgi, D.hinb, D.hlen, D.hnt, D.hscmp, D.hsub, D.htoB])) ?_
    clear hx5; cbv
    refine R.brD h (by (first | rfl | simp only [D.har, D.hbnd, D.hcmp, D.hgi, D.hinb, D.hlen, D.hnt, D.hscmp, D.hsub, D.htoB])) ?_ ?_ <;> clear h <;> intro h <;> cbv
    · have e := ret_some h; clear h
      refine hK _ _ ?_
      cbv
      try (subst e; simp only [D.har, D.hbnd, D.hcmp, D.hgi, D.hinb, D.hlen, D.hnt, D.hscmp, D.hsub, D.htoB, and_self, and_true, true_and] <;> (repeat' apply And.intro) <;> rfl)
    · refine R.callD h (fun x6 hx6 h2 => ?_)
      clear h; have h := h2; clear h2
      refine R.call' (w19s _ _ _ _ _ hx6) (by (first | rfl | simp only [D.har, D.hbnd, D.hcmp, D.hgi, D.hinb, D.hlen, D.hnt, D.hscmp, D.hsub, D.htoB])) ?_
      clear hx6; cbv
      refine R.cutB Sum.inl (fun _ _ e => Sum.inl.inj e) h [] (fun p22 => []) (fun p22 => []) (by kernel_rfl) (by kernel_rfl) (fun y14 hy hFy14 L hLy14 => ?_) (fun p22 h2 => ?_)
      · clear h; have h := hy; clear hy; cbv
        refine R.brD h (by (first | rfl | simp only [D.har, D.hbnd, D.hcmp, D.hgi, D.hinb, D.hlen, D.hnt, D.hscmp, D.hsub, D.htoB])) ?_ ?_ <;> clear h <;> intro h <;> cbv
        · refine R.callD h (fun x15 hx15 h2 => ?_)
          clear h; have h := h2; clear h2
          refine R.call' (w20 _ _ _ _ _ hx15) (by (first | rfl | simp only [D.har, D.hbnd, D.hcmp, D.hgi, D.hinb, D.hlen, D.hnt, D.hscmp, D.hsub, D.htoB])) ?_
          clear hx15; cbv
          refine R.callD h (fun x16 hx16 h2 => ?_)
          clear h; have h := h2; clear h2
          refine R.call' (w15 _ _ _ _ _ _ hx16) (by (first | rfl | simp only [D.har, D.hbnd, D.hcmp, D.hgi, D.hinb, D.hlen, D.hnt, D.hscmp, D.hsub, D.htoB])) ?_
          clear hx16; cbv
          refine R.cut' (by kernel_rfl) (by kernel_rfl) ?_
          cbv
          refine R.cutB (fun p => p) (fun _ _ e => e) h [] (fun p20 => [(94, .b p20)]) (fun p20 => []) (by kernel_rfl) (by kernel_rfl) (fun y19 hy hFy19 L hLy19 => ?_) (fun p20 h2 => ?_)
          · clear h; have h := hy; clear hy; cbv
            refine R.brD h (by (first | rfl | simp only [D.har, D.hbnd, D.hcmp, D.hgi, D.hinb, D.hlen, D.hnt, D.hscmp, D.hsub, D.htoB])) ?_ ?_ <;> clear h <;> intro h <;> cbv
            · obtain ⟨s', e, hi⟩ := jn_some (fun p => p) h
              refine hLy19 s' _ _ hi ⟨rfl, ?_, ?_, rfl, rfl⟩ <;> cbv <;> (try (subst e; simp only [D.har, D.hbnd, D.hcmp, D.hgi, D.hinb, D.hlen, D.hnt, D.hscmp, D.hsub, D.htoB, and_self, and_true, true_and] <;> (repeat' apply And.intro) <;> rfl))
            · refine R.brD h (by (first | rfl | simp only [D.har, D.hbnd, D.hcmp, D.hgi, D.hinb, D.hlen, D.hnt, D.hscmp, D.hsub, D.htoB])) ?_ ?_ <;> clear h <;> intro h <;> cbv
              · obtain ⟨s', e, hi⟩ := jn_some (fun p => p) h
                refine hLy19 s' _ _ hi ⟨rfl, ?_, ?_, rfl, rfl⟩ <;> cbv <;> (try (subst e; simp only [D.har, D.hbnd, D.hcmp, D.hgi, D.hinb, D.hlen, D.hnt, D.hscmp, D.hsub, D.htoB, and_self, and_true, true_and] <;> (repeat' apply And.intro) <;> rfl))
              · refine R.brD h (by (first | rfl | simp only [D.har, D.hbnd, D.hcmp, D.hgi, D.hinb, D.hlen, D.hnt, D.hscmp, D.hsub, D.htoB])) ?_ ?_ <;> clear h <;> intro h <;> cbv
                · obtain ⟨s', e, hi⟩ := jn_some (fun p => p) h
                  refine hLy19 s' _ _ hi ⟨rfl, ?_, ?_, rfl, rfl⟩ <;> cbv <;> (try (subst e; simp only [D.har, D.hbnd, D.hcmp, D.hgi, D.hinb, D.hlen, D.hnt, D.hscmp, D.hsub, D.htoB, and_self, and_true, true_and] <;> (repeat' apply And.intro) <;> rfl))
                · refine R.brD h (by (first | rfl | simp only [D.har, D.hbnd, D.hcmp, D.hgi, D.hinb, D.hlen, D.hnt, D.hscmp, D.hsub, D.htoB])) ?_ ?_ <;> clear h <;> intro h <;> cbv
                  · obtain ⟨s', e, hi⟩ := jn_some (fun p => p) h
                    refine hLy19 s' _ _ hi ⟨rfl, ?_, ?_, rfl, rfl⟩ <;> cbv <;> (try (subst e; simp only [D.har, D.hbnd, D.hcmp, D.hgi, D.hinb, D.hlen, D.hnt, D.hscmp, D.hsub, D.htoB, and_self, and_true, true_and] <;> (repeat' apply And.intro) <;> rfl))
                  · refine R.brD h (by (first | rfl | simp only [D.har, D.hbnd, D.hcmp, D.hgi, D.hinb, D.hlen, D.hnt, D.hscmp, D.hsub, D.htoB])) ?_ ?_ <;> clear h <;> intro h <;> cbv
                    · obtain ⟨s', e, hi⟩ := jn_some (fun p => p) h
                      refine hLy19 s' _ _ hi ⟨rfl, ?_, ?_, rfl, rfl⟩ <;> cbv <;> (try (subst e; simp only [D.har, D.hbnd, D.hcmp, D.hgi, D.hinb, D.hlen, D.hnt, D.hscmp, D.hsub, D.htoB, and_self, and_true, true_and] <;> (repeat' apply And.intro) <;> rfl))
                    · obtain ⟨s', e, hi⟩ := jn_some (fun p => p) h
                      refine hLy19 s' _ _ hi ⟨rfl, ?_, ?_, rfl, rfl⟩ <;> cbv <;> (try (subst e; simp only [D.har, D.hbnd, D.hcmp, D.hgi, D.hinb, D.hlen, D.hnt, D.hscmp, D.hsub, D.htoB, and_self, and_true, true_and] <;> (repeat' apply And.intro) <;> rfl))
          · clear h; have h := h2; clear h2; try dsimp only at h
            cbv
            refine R.brD h (by (first | rfl | simp only [D.har, D.hbnd, D.hcmp, D.hgi, D.hinb, D.hlen, D.hnt, D.hscmp, D.hsub, D.htoB])) ?_ ?_ <;> clear h <;> intro h <;> cbv
            · have e := ret_some h; clear h
              have h := hFy14; rw [e] at h; clear e; try dsimp only at h
              cbv
              have e := ret_some h; clear h
              refine hK _ _ ?_
              cbv
              try (subst e; simp only [D.har, D.hbnd, D.hcmp, D.hgi, D.hinb, D.hlen, D.hnt, D.hscmp, D.hsub, D.htoB, and_self, and_true, true_and] <;> (repeat' apply And.intro) <;> rfl)
            · refine R.brD h (by (first | rfl | simp only [D.har, D.hbnd, D.hcmp, D.hgi, D.hinb, D.hlen, D.hnt, D.hscmp, D.hsub, D.htoB])) ?_ ?_ <;> clear h <;> intro h <;> cbv
              · refine R.callD h (fun x21 hx21 h2 => ?_)
                clear h; have h := h2; clear h2
                refine R.call' (w15 _ _ _ _ _ _ hx21) (by (first | rfl | simp only [D.har, D.hbnd, D.hcmp, D.hgi, D.hinb, D.hlen, D.hnt, D.hscmp, D.hsub, D.htoB])) ?_
                clear hx21; cbv
                refine R.cut' (by kernel_rfl) (by kernel_rfl) ?_
                cbv
                refine R.brD h (by (first | rfl | simp only [D.har, D.hbnd, D.hcmp, D.hgi, D.hinb, D.hlen, D.hnt, D.hscmp, D.hsub, D.htoB])) ?_ ?_ <;> clear h <;> intro h <;> cbv
                · have e := ret_some h; clear h
                  have h := hFy14; rw [e] at h; clear e; try dsimp only at h
                  cbv
                  have e := ret_some h; clear h
                  refine hK _ _ ?_
                  cbv
                  try (subst e; simp only [D.har, D.hbnd, D.hcmp, D.hgi, D.hinb, D.hlen, D.hnt, D.hscmp, D.hsub, D.htoB, and_self, and_true, true_and] <;> (repeat' apply And.intro) <;> rfl)
                · refine R.brD h (by (first | rfl | simp only [D.har, D.hbnd, D.hcmp, D.hgi, D.hinb, D.hlen, D.hnt, D.hscmp, D.hsub, D.htoB])) ?_ ?_ <;> clear h <;> intro h <;> cbv
                  · have e := ret_some h; clear h
                    have h := hFy14; rw [e] at h; clear e; try dsimp only at h
                    cbv
                    have e := ret_some h; clear h
                    refine hK _ _ ?_
                    cbv
                    try (subst e; simp only [D.har, D.hbnd, D.hcmp, D.hgi, D.hinb, D.hlen, D.hnt, D.hscmp, D.hsub, D.htoB, and_self, and_true, true_and] <;> (repeat' apply And.intro) <;> rfl)
                  · obtain ⟨s', e, hi⟩ := jn_some Sum.inl h
                    refine hLy14 s' _ _ hi ⟨rfl, ?_, ?_, rfl, rfl⟩ <;> cbv <;> (try (subst e; simp only [D.har, D.hbnd, D.hcmp, D.hgi, D.hinb, D.hlen, D.hnt, D.hscmp, D.hsub, D.htoB, and_self, and_true, true_and] <;> (repeat' apply And.intro) <;> rfl))
              · obtain ⟨s', e, hi⟩ := jn_some Sum.inl h
                refine hLy14 s' _ _ hi ⟨rfl, ?_, ?_, rfl, rfl⟩ <;> cbv <;> (try (subst e; simp only [D.har, D.hbnd, D.hcmp, D.hgi, D.hinb, D.hlen, D.hnt, D.hscmp, D.hsub, D.htoB, and_self, and_true, true_and] <;> (repeat' apply And.intro) <;> rfl))
        · obtain ⟨s', e, hi⟩ := jn_some Sum.inl h
          refine hLy14 s' _ _ hi ⟨rfl, ?_, ?_, rfl, rfl⟩ <;> cbv <;> (try (subst e; simp only [D.har, D.hbnd, D.hcmp, D.hgi, D.hinb, D.hlen, D.hnt, D.hscmp, D.hsub, D.htoB, and_self, and_true, true_and] <;> (repeat' apply And.intro) <;> rfl))
      · clear h; have h := h2; clear h2; try dsimp only at h
        cbv
        refine R.callD h (fun x23 hx23 h2 => ?_)
        clear h; have h := h2; clear h2
        refine R.call' (w21s _ _ _ _ _ hx23) (by (first | rfl | simp only [D.har, D.hbnd, D.hcmp, D.hgi, D.hinb, D.hlen, D.hnt, D.hscmp, D.hsub, D.htoB])) ?_
        clear hx23; cbv
        refine R.cutB (fun p => p) (fun _ _ e => e) h [] (fun p25 => []) (fun p25 => [(272, .cells 25 [.sl 3 p25.1, .sl 5 p25.2])]) (by kernel_rfl) (by kernel_rfl) (fun y24 hy hFy24 L hLy24 => ?_) (fun p25 h2 => ?_)
        · clear h; have h := hy; clear hy; cbv
          refine R.brD h (by (first | rfl | simp only [D.har, D.hbnd, D.hcmp, D.hgi, D.hinb, D.hlen, D.hnt, D.hscmp, D.hsub, D.htoB])) ?_ ?_ <;> clear h <;> intro h <;> cbv
          · obtain ⟨s', e, hi⟩ := jn_some (fun p => p) h
            refine hLy24 s' _ _ hi ⟨rfl, ?_, ?_, rfl, rfl⟩ <;> cbv <;> (try (subst e; simp only [D.har, D.hbnd, D.hcmp, D.hgi, D.hinb, D.hlen, D.hnt, D.hscmp, D.hsub, D.htoB, and_self, and_true, true_and] <;> (repeat' apply And.intro) <;> rfl))
          · obtain ⟨s', e, hi⟩ := jn_some (fun p => p) h
            refine hLy24 s' _ _ hi ⟨rfl, ?_, ?_, rfl, rfl⟩ <;> cbv <;> (try (subst e; simp only [D.har, D.hbnd, D.hcmp, D.hgi, D.hinb, D.hlen, D.hnt, D.hscmp, D.hsub, D.htoB, and_self, and_true, true_and] <;> (repeat' apply And.intro) <;> rfl))
        · clear h; have h := h2; clear h2; try dsimp only at h
          cbv
          refine R.callD h (fun x26 hx26 h2 => ?_)
          clear h; have h := h2; clear h2
          refine R.call' (w17s _ _ _ _ _ _ _ hx26) (by (first | rfl | simp only [D.har, D.hbnd, D.hcmp, D.hgi, D.hinb, D.hlen, D.hnt, D.hscmp, D.hsub, D.htoB])) ?_
          clear hx26; cbv
          refine R.cutB (fun p => p) (fun _ _ e => e) h [] (fun p28 => []) (fun p28 => [(272, .cells 25 [.sl 3 p28.1, .sl 5 p28.2])]) (by kernel_rfl) (by kernel_rfl) (fun y27 hy hFy27 L hLy27 => ?_) (fun p28 h2 => ?_)
          · clear h; have h := hy; clear hy; cbv
            refine R.cut' (by kernel_rfl) (by kernel_rfl) ?_
            cbv
            refine R.brD h (by (first | rfl | simp only [D.har, D.hbnd, D.hcmp, D.hgi, D.hinb, D.hlen, D.hnt, D.hscmp, D.hsub, D.htoB])) ?_ ?_ <;> clear h <;> intro h <;> cbv
            · refine R.brD h (by (first | rfl | simp only [D.har, D.hbnd, D.hcmp, D.hgi, D.hinb, D.hlen, D.hnt, D.hscmp, D.hsub, D.htoB])) ?_ ?_ <;> clear h <;> intro h <;> cbv
              · obtain ⟨s', e, hi⟩ := jn_some (fun p => p) h
                refine hLy27 s' _ _ hi ⟨rfl, ?_, ?_, rfl, rfl⟩ <;> cbv <;> (try (subst e; simp only [D.har, D.hbnd, D.hcmp, D.hgi, D.hinb, D.hlen, D.hnt, D.hscmp, D.hsub, D.htoB, and_self, and_true, true_and] <;> (repeat' apply And.intro) <;> rfl))
              · obtain ⟨s', e, hi⟩ := jn_some (fun p => p) h
                refine hLy27 s' _ _ hi ⟨rfl, ?_, ?_, rfl, rfl⟩ <;> cbv <;> (try (subst e; simp only [D.har, D.hbnd, D.hcmp, D.hgi, D.hinb, D.hlen, D.hnt, D.hscmp, D.hsub, D.htoB, and_self, and_true, true_and] <;> (repeat' apply And.intro) <;> rfl))
            · obtain ⟨s', e, hi⟩ := jn_some (fun p => p) h
              refine hLy27 s' _ _ hi ⟨rfl, ?_, ?_, rfl, rfl⟩ <;> cbv <;> (try (subst e; simp only [D.har, D.hbnd, D.hcmp, D.hgi, D.hinb, D.hlen, D.hnt, D.hscmp, D.hsub, D.htoB, and_self, and_true, true_and] <;> (repeat' apply And.intro) <;> rfl))
          · clear h; have h := h2; clear h2; try dsimp only at h
            cbv
            refine R.callD h (fun x29 hx29 h2 => ?_)
            clear h; have h := h2; clear h2
            refine R.call' (w22s _ _ _ _ hx29) (by (first | rfl | simp only [D.har, D.hbnd, D.hcmp, D.hgi, D.hinb, D.hlen, D.hnt, D.hscmp, D.hsub, D.htoB])) ?_
            clear hx29; cbv
            refine R.cutB (fun p => p) (fun _ _ e => e) h [] (fun p31 => []) (fun p31 => [(272, .cells 25 [.sl 3 p31.1, .sl 5 p31.2])]) (by kernel_rfl) (by kernel_rfl) (fun y30 hy hFy30 L hLy30 => ?_) (fun p31 h2 => ?_)
            · clear h; have h := hy; clear hy; cbv
              refine R.brD h (by (first | rfl | simp only [D.har, D.hbnd, D.hcmp, D.hgi, D.hinb, D.hlen, D.hnt, D.hscmp, D.hsub, D.htoB])) ?_ ?_ <;> clear h <;> intro h <;> cbv
              · obtain ⟨s', e, hi⟩ := jn_some (fun p => p) h
                refine hLy30 s' _ _ hi ⟨rfl, ?_, ?_, rfl, rfl⟩ <;> cbv <;> (try (subst e; simp only [D.har, D.hbnd, D.hcmp, D.hgi, D.hinb, D.hlen, D.hnt, D.hscmp, D.hsub, D.htoB, and_self, and_true, true_and] <;> (repeat' apply And.intro) <;> rfl))
              · obtain ⟨s', e, hi⟩ := jn_some (fun p => p) h
                refine hLy30 s' _ _ hi ⟨rfl, ?_, ?_, rfl, rfl⟩ <;> cbv <;> (try (subst e; simp only [D.har, D.hbnd, D.hcmp, D.hgi, D.hinb, D.hlen, D.hnt, D.hscmp, D.hsub, D.htoB, and_self, and_true, true_and] <;> (repeat' apply And.intro) <;> rfl))
            · clear h; have h := h2; clear h2; try dsimp only at h
              cbv
              refine R.cut' (by kernel_rfl) (by kernel_rfl) ?_
              cbv
              refine R.cut' (by kernel_rfl) (by kernel_rfl) ?_
              cbv
              refine R.callD h (fun x35 hx35 h2 => ?_)
              clear h; have h := h2; clear h2
              refine R.call' (w18 _ _ _ hx35) (by (first | rfl | simp only [D.har, D.hbnd, D.hcmp, D.hgi, D.hinb, D.hlen, D.hnt, D.hscmp, D.hsub, D.htoB])) ?_
              clear hx35; cbv
              refine R.brD h (by (first | rfl | simp only [D.har, D.hbnd, D.hcmp, D.hgi, D.hinb, D.hlen, D.hnt, D.hscmp, D.hsub, D.htoB])) ?_ ?_ <;> clear h <;> intro h <;> cbv
              · have e := ret_some h; clear h
                refine hK _ _ ?_
                cbv
                try (subst e; simp only [D.har, D.hbnd, D.hcmp, D.hgi, D.hinb, D.hlen, D.hnt, D.hscmp, D.hsub, D.htoB, and_self, and_true, true_and] <;> (repeat' apply And.intro) <;> rfl)
              · refine R.brD h (by (first | rfl | simp only [D.har, D.hbnd, D.hcmp, D.hgi, D.hinb, D.hlen, D.hnt, D.hscmp, D.hsub, D.htoB])) ?_ ?_ <;> clear h <;> intro h <;> cbv
                · have e := ret_some h; clear h
                  refine hK _ _ ?_
                  cbv
                  try (subst e; simp only [D.har, D.hbnd, D.hcmp, D.hgi, D.hinb, D.hlen, D.hnt, D.hscmp, D.hsub, D.htoB, and_self, and_true, true_and] <;> (repeat' apply And.intro) <;> rfl)
                · refine R.cutB Sum.inl (fun _ _ e => Sum.inl.inj e) h [] (fun p43 => []) (fun p43 => []) (by kernel_rfl) (by kernel_rfl) (fun y38 hy hFy38 L hLy38 => ?_) (fun p43 h2 => ?_)
                  · clear h; have h := hy; clear hy; cbv
                    refine R.loopD h (fun s0 y40 e0 hi hFs39 => ?_)
                    clear h
                    refine R.loopI hi [] (fun s39 => [(25, .i .i64 s39)]) (fun s39 => []) ⟨rfl, ?_, ?_, rfl, rfl⟩ (by kernel_rfl) ?_
                    · cbv; try (subst e0; simp only [D.har, D.hbnd, D.hcmp, D.hgi, D.hinb, D.hlen, D.hnt, D.hscmp, D.hsub, D.htoB, and_self, and_true, true_and] <;> (repeat' apply And.intro) <;> rfl)
                    · cbv; try (subst e0; simp only [D.har, D.hbnd, D.hcmp, D.hgi, D.hinb, D.hlen, D.hnt, D.hscmp, D.hsub, D.htoB, and_self, and_true, true_and] <;> (repeat' apply And.intro) <;> rfl)
                    clear hi e0
                    intro s39 m y' hy hins39 houts39 L hLs39
                    have h := hy; clear hy; unfold d4_b1 at h
                    cbv
                    refine R.cut' (by kernel_rfl) (by kernel_rfl) ?_
                    cbv
                    refine R.brD h (by (first | rfl | simp only [D.har, D.hbnd, D.hcmp, D.hgi, D.hinb, D.hlen, D.hnt, D.hscmp, D.hsub, D.htoB])) ?_ ?_ <;> clear h <;> intro h <;> cbv
                    · refine R.cut' (by kernel_rfl) (by kernel_rfl) ?_
                      cbv
                      refine R.cut' (by kernel_rfl) (by kernel_rfl) ?_
                      cbv
                      refine R.needD h (by (first | rfl | simp only [D.har, D.hbnd, D.hcmp, D.hgi, D.hinb, D.hlen, D.hnt, D.hscmp, D.hsub, D.htoB])) ?_
                      clear h; intro h; cbv
                      refine R.brD h (by (first | rfl | simp only [D.har, D.hbnd, D.hcmp, D.hgi, D.hinb, D.hlen, D.hnt, D.hscmp, D.hsub, D.htoB])) ?_ ?_ <;> clear h <;> intro h <;> cbv
                      · refine R.needD h (by (first | rfl | simp only [D.har, D.hbnd, D.hcmp, D.hgi, D.hinb, D.hlen, D.hnt, D.hscmp, D.hsub, D.htoB])) ?_
                        clear h; intro h; cbv
                        refine R.brD h (by (first | rfl | simp only [D.har, D.hbnd, D.hcmp, D.hgi, D.hinb, D.hlen, D.hnt, D.hscmp, D.hsub, D.htoB])) ?_ ?_ <;> clear h <;> intro h <;> cbv
                        · have e := inr_some h houts39; clear h
                          have h := hFs39; rw [e] at h; clear e; try dsimp only at h
                          cbv
                          have e := ret_some h; clear h
                          have h := hFy38; rw [e] at h; clear e; try dsimp only at h
                          cbv
                          have e := ret_some h; clear h
                          refine hK _ _ ?_
                          cbv
                          try (subst e; simp only [D.har, D.hbnd, D.hcmp, D.hgi, D.hinb, D.hlen, D.hnt, D.hscmp, D.hsub, D.htoB, and_self, and_true, true_and] <;> (repeat' apply And.intro) <;> rfl)
                        · refine R.needD h (by (first | rfl | simp only [D.har, D.hbnd, D.hcmp, D.hgi, D.hinb, D.hlen, D.hnt, D.hscmp, D.hsub, D.htoB])) ?_
                          clear h; intro h; cbv
                          refine R.needD h (by (first | rfl | simp only [D.har, D.hbnd, D.hcmp, D.hgi, D.hinb, D.hlen, D.hnt, D.hscmp, D.hsub, D.htoB])) ?_
                          clear h; intro h; cbv
                          refine R.brD h (by (first | rfl | simp only [D.har, D.hbnd, D.hcmp, D.hgi, D.hinb, D.hlen, D.hnt, D.hscmp, D.hsub, D.htoB])) ?_ ?_ <;> clear h <;> intro h <;> cbv
                          · have e := inr_some h houts39; clear h
                            have h := hFs39; rw [e] at h; clear e; try dsimp only at h
                            cbv
                            have e := ret_some h; clear h
                            have h := hFy38; rw [e] at h; clear e; try dsimp only at h
                            cbv
                            have e := ret_some h; clear h
                            refine hK _ _ ?_
                            cbv
                            try (subst e; simp only [D.har, D.hbnd, D.hcmp, D.hgi, D.hinb, D.hlen, D.hnt, D.hscmp, D.hsub, D.htoB, and_self, and_true, true_and] <;> (repeat' apply And.intro) <;> rfl)
                          · obtain ⟨s', e, hi⟩ := inl_some h hins39
                            refine hLs39 s' _ _ hi ⟨rfl, ?_, ?_, rfl, rfl⟩ <;> cbv <;> (try (subst e; simp only [D.har, D.hbnd, D.hcmp, D.hgi, D.hinb, D.hlen, D.hnt, D.hscmp, D.hsub, D.htoB, and_self, and_true, true_and] <;> (repeat' apply And.intro) <;> rfl))
                      · obtain ⟨s', e, hi⟩ := inl_some h hins39
                        refine hLs39 s' _ _ hi ⟨rfl, ?_, ?_, rfl, rfl⟩ <;> cbv <;> (try (subst e; simp only [D.har, D.hbnd, D.hcmp, D.hgi, D.hinb, D.hlen, D.hnt, D.hscmp, D.hsub, D.htoB, and_self, and_true, true_and] <;> (repeat' apply And.intro) <;> rfl))
                    · have e := inr_some h houts39; clear h
                      have h := hFs39; rw [e] at h; clear e; try dsimp only at h
                      cbv
                      obtain ⟨s', e, hi⟩ := jn_some Sum.inl h
                      refine hLy38 s' _ _ hi ⟨rfl, ?_, ?_, rfl, rfl⟩ <;> cbv <;> (try (subst e; simp only [D.har, D.hbnd, D.hcmp, D.hgi, D.hinb, D.hlen, D.hnt, D.hscmp, D.hsub, D.htoB, and_self, and_true, true_and] <;> (repeat' apply And.intro) <;> rfl))
                  · clear h; have h := h2; clear h2; try dsimp only at h
                    cbv
                    have e := ret_some h; clear h
                    refine hK _ _ ?_
                    cbv
                    try (subst e; simp only [D.har, D.hbnd, D.hcmp, D.hgi, D.hinb, D.hlen, D.hnt, D.hscmp, D.hsub, D.htoB, and_self, and_true, true_and] <;> (repeat' apply And.intro) <;> rfl)
end Go.Proofs.Ytmpdimigpaogkaa

end
section
/- The one statement over its function that the law MemCode comes to. Conditions: none. -/
-- Told by a program of this seat's session. Not trusted: Lean checks it.

namespace Go.Proofs.Ytmpdimigpaogkaa
open Go.Ab Go.RowKit
def MemCode.Claim : Prop := ∀ (x0 : ((List Int) × (List Int))) (x1 : (Int × (Int × Int))) (x2 : (Int × ((Int × Bool) × Int))), (fun x : ((List Int) × (List Int)) => (fun l : List Int => l.length ≤ maxLen ∧ ∀ x ∈ l, (fun n : Int => (Lit.int .i64 n).wf = true) x) x.1 ∧ (fun l : List Int => l.length ≤ maxLen ∧ ∀ x ∈ l, (fun n : Int => (Lit.int .u8 n).wf = true) x) x.2) x0 → (fun x : (Int × (Int × Int)) => (fun n : Int => (Lit.int .i64 n).wf = true) x.1 ∧ (fun x : (Int × Int) => (fun n : Int => (Lit.int .i64 n).wf = true) x.1 ∧ (fun n : Int => (Lit.int .i64 n).wf = true) x.2) x.2) x1 → (fun x : (Int × ((Int × Bool) × Int)) => (fun n : Int => (Lit.int .i64 n).wf = true) x.1 ∧ (fun x : ((Int × Bool) × Int) => (fun x : (Int × Bool) => (fun n : Int => (Lit.int .i64 n).wf = true) x.1 ∧ (fun _ : Bool => True) x.2) x.1 ∧ (fun n : Int => (Lit.int .i64 n).wf = true) x.2) x.2) x2 → Ab.Fn Try.prog TT 4 [.agg [.sl 3 (x0.1.map (fun x : Int => .i .i64 x)), .sl 5 (x0.2.map (fun x : Int => .i .u8 x))], .agg [.i .i64 x1.1, .i .i64 x1.2.1, .i .i64 x1.2.2], .agg [.i .i64 x2.1, .i .i64 x2.2.1.1, .b x2.2.1.2, .i .i64 x2.2.2]] (.b true) []
end Go.Proofs.Ytmpdimigpaogkaa
end
section
/- The law MemCode: what may be run stays. Conditions: none. -/

namespace Go.Proofs.Ytmpdimigpaogkaa
open Go.Ab Go.RowKit Go.Proofs.Ytmpdimigpaogkaa.G Go.Proofs.YtmpdimigpaogkaaW.PrintWords Go.Proofs.YtmpdimigpaogkaaW.PrintLast
theorem bind_to {α β : Type} {x : Option α} {F : α → Option β} {a : α} {r : Option β} (h : x = some a) (k : F a = r) : x.bind F = r := by subst h; exact k
theorem w64 (x : Int) : IntKind.i64.wrap x = wrap64 x := by
  unfold wrap64 IntKind.wrap
  simp [IntKind.bits, IntKind.signed]
  split <;> omega
theorem w64_0 (x : Int) : wrap64 (IntKind.i64.wrap x + ((0 : Nat) : Int)) = IntKind.i64.wrap x := by
  rw [w64]; unfold wrap64; omega
theorem fetch_fault {P B : List Int} (hc : checkV P B = 0) (at_ n : Int) (hn : 0 ≤ n) (perm : Int) (hp : perm = 0 ∨ perm = 4) : fault P B at_ (ln (fetched P B at_ n.toNat 0)) perm = (0, 0) := by
  obtain ⟨h1, h2, h3⟩ := fetched_all (P := P) (B := B) (at_ := at_) n.toNat 0
  unfold fault
  rw [needs_of_none]
  · rfl
  · intro j hj
    obtain ⟨g1, g2, g3⟩ := h2 j (by unfold ln at hj; omega)
    have hw : wrap64 (at_ + (0 + (j : Int))) = IntKind.i64.wrap (at_ + (0 + (j : Int))) := (w64 _).symm
    rw [hw]
    have hr : 0 ≤ IntKind.i64.wrap (at_ + (0 + (j : Int))) ∧ IntKind.i64.wrap (at_ + (0 + (j : Int))) < (B.length : Int) := by simpa [hasB, ln] using g1
    unfold need1
    rw [if_pos hr]
    have e4 : rd P (IntKind.i64.wrap (at_ + (0 + (j : Int))) / 64) = 4 := g2
    rw [e4]
    rcases hp with rfl | rfl <;> rfl
theorem fetch_peek {P B : List Int} (hc : checkV P B = 0) (at_ n : Int) (ha : -9223372036854775808 ≤ at_ ∧ at_ ≤ 9223372036854775807) (hn : 0 ≤ n ∧ n ≤ 2048) : peekV P B at_ (ln (fetched P B at_ n.toNat 0)) = (fetched P B at_ n.toNat 0, 0, 0, 0) := by
  obtain ⟨h1, h2, h3⟩ := fetched_all (P := P) (B := B) (at_ := at_) n.toNat 0
  have hf := fetch_fault hc at_ n hn.1 0 (.inl rfl)
  have hL := ln_nn (fetched P B at_ n.toNat 0)
  have hL2 : ln (fetched P B at_ n.toNat 0) ≤ n := by unfold ln; omega
  unfold peekV
  rw [if_neg (not_not_intro hc), if_neg (show ¬ (ln (fetched P B at_ n.toNat 0) < 0 ∨ 2048 < ln (fetched P B at_ n.toNat 0)) by omega), hf]
  by_cases h0 : ln (fetched P B at_ n.toNat 0) = 0
  · rw [if_pos (.inr h0)]
    have : fetched P B at_ n.toNat 0 = [] := List.eq_nil_of_length_eq_zero (by unfold ln at h0; omega)
    rw [this]
  · obtain ⟨f1, f2, f3⟩ := fault_in (n := ln (fetched P B at_ n.toNat 0)) hc ha (by omega) (by omega) (.inl rfl) (by rw [hf])
    rw [if_neg (show ¬ ((0 : Int) ≠ 0 ∨ ln (fetched P B at_ n.toNat 0) = 0) by simp [h0])]
    have : part B at_ (ln (fetched P B at_ n.toNat 0)) = fetched P B at_ n.toNat 0 := by
      have hp := part_ln f1 (by omega) f2
      refine eq_of_rd hp (fun j j0 j1 => ?_)
      rw [hp] at j1
      rw [rdI_part f1 f2 j0 j1]
      obtain ⟨g1, g2, g3⟩ := h2 j.toNat (by unfold ln at j1; omega)
      rw [show ((j.toNat : Nat) : Int) = j from by omega] at g3
      rw [g3, wr (by omega) (by omega)]
      congr 1; omega
    rw [this]
theorem fetch_stop {P B : List Int} (hc : checkV P B = 0) (at_ n : Int) (hn : 0 ≤ n) (hl : ln (fetched P B at_ n.toNat 0) < n) : (fault P B (IntKind.i64.wrap (at_ + ln (fetched P B at_ n.toNat 0))) 1 4).1 ≠ 0 := by
  obtain ⟨h1, h2, h3⟩ := fetched_all (P := P) (B := B) (at_ := at_) n.toNat 0
  have h3 := h3 (by unfold ln at hl; omega)
  intro h
  have h4 := fault_none (.inr (.inr (.inr rfl))) h 0 (by omega)
  obtain ⟨c1, c2, c3⟩ := check_to hc
  have hx : IntKind.i64.wrap (at_ + (0 + ((fetched P B at_ n.toNat 0).length : Int))) = IntKind.i64.wrap (at_ + ln (fetched P B at_ n.toNat 0)) := by
    congr 1; unfold ln; omega
  rw [hx] at h3
  have hw := w64_0 (at_ + ln (fetched P B at_ n.toNat 0))
  generalize IntKind.i64.wrap (at_ + ln (fetched P B at_ n.toNat 0)) = x at *
  unfold need1 at h4
  split at h4
  · rename_i hr
    rw [hw] at hr h4
    split at h4
    · rename_i h5
      have e4 : rd P (x / 64) = rdI P (x / 64) := rfl
      rw [e4] at h5
      refine h3 ⟨decide_eq_true (p := 0 ≤ x ∧ x < ln B) hr, (and_4 (c3 (x / 64) (by omega) (by unfold ln at *; omega))).1 h5⟩
    · cases h4
  · cases h4
theorem it4 {P B P2 B2 : List Int} (hB : Bytes B) (hB2 : Bytes B2) (hc : checkV P B = 0) (k : Keeps P B P2 B2) : iter (d4_b1 (ints P) (u8s B) (ints P2, u8s B2)) 0 = some (.inr ()) := by
  obtain ⟨c1, c2, c3⟩ := check_to hc
  obtain ⟨k1, k2, k3⟩ := check_to k.ok
  refine iter_fun (fun s => 0 ≤ s ∧ s ≤ ln P) (fun s => (ln P - s).toNat) (fun _ => (Sum.inr () : Bool ⊕ Unit)) (fun s hs => ?_) 0 ⟨by omega, ln_nn P⟩
  obtain ⟨h0, h1⟩ := hs
  have hl := k.len
  unfold d4_b1
  simp only [c_lss, c_eql, c_neq, lenI_ints, lenI_u8s, gI_ints, decide_eq_true_eq]
  by_cases hlt : s < ln P
  · have m1 : arReal .mul .i64 64 s = 64 * s := a_mul (by omega) (by omega)
    have m2 : arReal .add .i64 (64 * s) 64 = 64 * s + 64 := a_add (by omega) (by omega)
    have m3 : arReal .add .i64 s 1 = s + 1 := a_add (by omega) (by omega)
    rw [if_pos hlt, if_pos (show Inb s (ln P) from ⟨h0, hlt⟩), m1, m2, m3]
    refine .inl ⟨s + 1, ?_, ⟨by omega, by omega⟩, by omega, trivial⟩
    by_cases h4 : rdI P s = 4
    · obtain ⟨e1, e2⟩ := k.code s h0 hlt h4
      rw [if_pos h4, if_pos (show Inb s (ln P2) from ⟨h0, by omega⟩), if_neg (not_not_intro e1), if_pos (show Bnd (64 * s) (64 * s + 64) (ln B2) from ⟨by omega, by omega, by omega⟩), if_pos (show Bnd (64 * s) (64 * s + 64) (ln B) from ⟨by omega, by omega, by omega⟩), sub_u8s, sub_u8s]
      have e3 : (B2.take (64 * s + 64).toNat).drop (64 * s).toNat = (B.take (64 * s + 64).toNat).drop (64 * s).toNat := e2
      rw [e3]
      have e5 : ∀ t, strCmp .neq t t = false := fun t => by simp [strCmp]
      rw [e5]
      simp
    · rw [if_neg h4]
  · refine .inr ?_
    rw [if_neg hlt]
theorem bytes_stored {B : List Int} (hB : Bytes B) (at_ a : Int) (b : Bool) (v : Int) : Bytes (stored B at_ a b v) := by
  have key : ∀ n v, Bytes (leBytes n v) := by
    intro n
    induction n with
    | zero => intro v x hx; cases hx
    | succ n ih =>
      intro v x hx
      rw [leBytes_cons] at hx
      rcases List.mem_cons.1 hx with rfl | hx
      · omega
      · exact ih _ x hx
  intro x hx
  unfold stored spl at hx
  rcases List.mem_append.1 hx with h | h
  · exact hB x (List.mem_of_mem_take h)
  · rcases List.mem_append.1 h with h | h
    · exact key _ _ x h
    · exact hB x (List.mem_of_mem_drop h)
theorem y24 {P B : List Int} (hc : checkV P B = 0) (page perm : Int) {R : List V × List V × Int} (hR : R = (if checkV P B ≠ 0 then ([], [], checkV P B) else if 0 ≤ page ∧ page < ln P ∧ rdI P page ≠ 4 ∧ (perm = 0 ∨ perm = 1 ∨ perm = 3) then (ints (P.set page.toNat perm), u8s B, 0) else ([], [], 31))) :
    ∃ P2, (if cmpLit .eql R.2.2 0 = true then some (R.1, R.2.1) else some (ints P, u8s B)) = some (ints P2, u8s B) ∧ Keeps P B P2 B := by
  rw [if_neg (not_not_intro hc)] at hR
  by_cases h : 0 ≤ page ∧ page < ln P ∧ rdI P page ≠ 4 ∧ (perm = 0 ∨ perm = 1 ∨ perm = 3)
  · rw [if_pos h] at hR
    subst hR
    refine ⟨P.set page.toNat perm, rfl, set_keeps hc h.1 h.2.1 ?_ (fun h4 => absurd h4 h.2.2.1)⟩
    rcases h.2.2.2 with rfl | rfl | rfl <;> rfl
  · rw [if_neg h] at hR
    subst hR
    exact ⟨P, rfl, Keeps.refl hc⟩
theorem y30 {P B : List Int} (hc : checkV P B = 0) (page : Int) {R : List V × List V × Int} (hR : R = (if checkV P B ≠ 0 then ([], [], checkV P B) else if 0 ≤ page ∧ page < ln P then (ints (P.set page.toNat 4), u8s B, 0) else ([], [], 31))) :
    ∃ P2, (if cmpLit .eql R.2.2 0 = true then some (R.1, R.2.1) else some (ints P, u8s B)) = some (ints P2, u8s B) ∧ Keeps P B P2 B := by
  rw [if_neg (not_not_intro hc)] at hR
  by_cases h : 0 ≤ page ∧ page < ln P
  · rw [if_pos h] at hR
    subst hR
    exact ⟨P.set page.toNat 4, rfl, set_keeps hc h.1 h.2 rfl (fun _ => rfl)⟩
  · rw [if_neg h] at hR
    subst hR
    exact ⟨P, rfl, Keeps.refl hc⟩
theorem y27 {P B : List Int} (hB : Bytes B) (hc : checkV P B = 0) {at_ a : Int} (ha : -9223372036854775808 ≤ at_ ∧ at_ ≤ 9223372036854775807) (b : Bool) (v : Int) {R : List V × List V × Int × Int × Int} (hR : R = storeV P B at_ a b v) :
    ∃ B2, (if cmpLit .eql R.2.2.2.2 0 = true then (if cmpLit .eql R.2.2.1 0 = true then some (R.1, R.2.1) else some (ints P, u8s B)) else some (ints P, u8s B)) = some (ints P, u8s B2) ∧ Keeps P B P B2 ∧ Bytes B2 := by
  unfold storeV at hR
  rw [if_neg (not_not_intro hc)] at hR
  by_cases ht : tyOk a = true
  · rw [if_pos ht] at hR
    by_cases hf : (fault P B at_ a 2).1 = 0
    · rw [if_neg (not_not_intro hf)] at hR
      subst hR
      exact ⟨stored B at_ a b v, rfl, store_keeps hc ha ht hf, bytes_stored hB _ _ _ _⟩
    · rw [if_pos hf] at hR
      subst hR
      exact ⟨B, by simp [c_eql, hf], Keeps.refl hc, hB⟩
  · rw [if_neg ht] at hR
    subst hR
    exact ⟨B, rfl, Keeps.refl hc, hB⟩
theorem d4_true (P B : List Int) (hB : Bytes B) (at_ n : Int) (ha : -9223372036854775808 ≤ at_ ∧ at_ ≤ 9223372036854775807) (pg s0 s1 : Int) (hs : -9223372036854775808 ≤ s0 ∧ s0 ≤ 9223372036854775807) (s2 : Bool) (s3 : Int) : d4 (ints P) (u8s B) at_ n pg s0 s1 s2 s3 = some true := by
  unfold d4
  rw [s14, Option.bind_some, if_neg (by simp [notB']), s18, Option.bind_some]
  by_cases hc : checkV P B = 0
  · rw [if_neg (by simp [c_neq, hc]), s19, Option.bind_some, if_neg (not_not_intro hc)]
    refine bind_to (a := Sum.inl ()) ?_ ?_
    · by_cases hn : n < 0 ∨ 2048 < n
      · rw [if_pos hn]; rfl
      · rw [if_neg hn]
        have hn : 0 ≤ n ∧ n ≤ 2048 := by omega
        have h1 := fetch_fault hc at_ n hn.1 4 (.inr rfl)
        have h2 := fetch_peek hc at_ n ha hn
        have h3 := fetch_stop hc at_ n hn.1
        have h4 : ln (fetched P B at_ n.toNat 0) ≤ n := by have := (fetched_all (P := P) (B := B) (at_ := at_) n.toNat 0).1; unfold ln; omega
        have h5 := ln_nn (fetched P B at_ n.toNat 0)
        have e : ∀ t, strCmp .neq t t = false := fun t => by simp [strCmp]
        have hx : arReal .add .i64 at_ (ln (fetched P B at_ n.toNat 0)) = IntKind.i64.wrap (at_ + ln (fetched P B at_ n.toNat 0)) := rfl
        simp only [lenI_u8s, s20 P B at_ _ ha, s15, h2, Option.bind_some, hx]
        have a1 : accessV P B at_ (ln (fetched P B at_ n.toNat 0)) 4 = (0, 0, 0) := by
          unfold accessV
          rw [if_neg (not_not_intro hc), if_neg (show ¬ (ln (fetched P B at_ n.toNat 0) < 0 ∨ 2048 < ln (fetched P B at_ n.toNat 0) ∨ ¬ ((4 : Int) = 1 ∨ (4 : Int) = 2 ∨ (4 : Int) = 4)) by omega), h1]
        have a2 : accessV P B (IntKind.i64.wrap (at_ + ln (fetched P B at_ n.toNat 0))) 1 4 = ((fault P B (IntKind.i64.wrap (at_ + ln (fetched P B at_ n.toNat 0))) 1 4).1, (fault P B (IntKind.i64.wrap (at_ + ln (fetched P B at_ n.toNat 0))) 1 4).2, 0) := by
          unfold accessV
          rw [if_neg (not_not_intro hc), if_neg (by omega)]
        rw [a1, a2]
        simp only [c_eql, c_neq, c_gtr, c_lss, e]
        by_cases hl : ln (fetched P B at_ n.toNat 0) < n
        · have := h3 hl
          simp [hl, this]; omega
        · simp [hl]; omega
    · dsimp only
      rw [s21]
      refine bind_to rfl ?_
      obtain ⟨P2, e2, k2⟩ := y24 hc n pg rfl
      refine bind_to e2 ?_
      dsimp only
      rw [s17 P2 B s0 hs]
      refine bind_to rfl ?_
      obtain ⟨B2, e3, k3, hB2⟩ := y27 hB k2.ok hs (a := s1) s2 s3 rfl
      refine bind_to e3 ?_
      dsimp only
      rw [s22]
      refine bind_to rfl ?_
      obtain ⟨P3, e4, k4⟩ := y30 k3.ok pg rfl
      refine bind_to e4 ?_
      have k := (k2.trans k3).trans k4
      dsimp only
      rw [s18, k.ok, Option.bind_some, if_neg (by simp [c_neq]), lenI_ints, lenI_ints, if_neg (by simp [c_neq, k.len])]
      rw [it4 hB hB2 hc k]
      rfl
  · rw [if_pos (by simp [c_neq, hc])]
theorem bytes_wf {B : List Int} (h : ∀ x ∈ B, (Lit.int .u8 x).wf = true) : Bytes B := fun x hx => by
  have := h x hx
  simp [Lit.wf, IntKind.min, IntKind.max, IntKind.bits, IntKind.signed] at this
  omega
theorem MemCode.pure : MemCode.Claim := by
  intro x0 x1 x2 h0 h1 h2
  exact w4 (ints x0.1) (u8s x0.2) x1.1 x1.2.1 x1.2.2 x2.1 x2.2.1.1 x2.2.1.2 x2.2.2 true (d4_true x0.1 x0.2 (bytes_wf h0.2.2) x1.1 x1.2.1 (wf64 h1.1) x1.2.2 x2.1 x2.2.1.1 (wf64 h2.1) x2.2.1.2 x2.2.2)
end Go.Proofs.Ytmpdimigpaogkaa
end
section
/- MemCode: the law's call returns true for every input, and its arguments read afterwards as_ before. Conditions: none. -/
-- Told by a program of this seat's session. Not trusted: Lean checks it.

namespace Go.Proofs.Ytmpdimigpaogkaa.memCode
open Go.ChangeShapes Go.WideShapes Go.ChangeAt Go.RowKit Go.Ab Go.Proofs.Ytmpdimigpaogkaa
open Go.ChangeMaps (open_string shut_string)
theorem own : ownKnob Try.prog.godebug = none := by kernel_rfl
theorem laidOut : laidOutB Try.prog = true := by kernel_rfl
set_option maxRecDepth 100000 in
set_option maxHeartbeats 8000000 in
theorem lifted (os : Os) (started : os.Started) (H : Type) (enc : TypeId × Value → H) :
    ReturnsInHanded {} Try.checked os 4 .any (Rows.memCodeSpec.pre6 enc Try.prog Try.f4 Rows.memCodeRow.domain false) (Rows.memCodeSpec.post enc Try.prog Try.f4 false true false false) := by
  refine returnsInHanded_of_change_sized (C := Try.checked) own started (by kernel_rfl) Try.func4
    (ChangeSpec.witness6 (enc := enc) (C := Try.checked) false ⟨#[], #[.agg #[.slice none 0 0, .slice none 0 0], .agg #[.int .i64 0, .int .i64 0, .int .i64 0], .agg #[.int .i64 0, .int .i64 0, .bool false, .int .i64 0]], []⟩ 8 (by kernel_rfl) (by kernel_rfl) (by kernel_rfl) (by kernel_rfl)) ?_
  intro W base args ds gs before hval0 hW hcnd hsz0 _
  have hval : ∀ (j : Nat) t v, Try.f4.params[j]? = some t → args[j]? = some v → Value.okWide Try.prog W .any base t v := hval0
  have hW' := hW
  obtain ⟨p, q, hA0, hV, rfl, hfz, hnd⟩ := hW
  have hA : DataW.TrodAll enc Try.prog W 0 (fun _ => true) true Try.f4.params.toList args.toList ds p := hA0
  rw [Try.params4] at hA hval
  obtain ⟨v0, vs0, d0, ds0, p0, q0, hargs, rfl, rfl, h0, r0⟩ := trodAll_cons hA
  obtain ⟨v1, vs1, d1, ds1, p1, q1, rfl, rfl, rfl, h1, r1⟩ := trodAll_cons r0
  obtain ⟨v2, vs2, d2, ds2, p2, q2, rfl, rfl, rfl, h2, r2⟩ := trodAll_cons r1
  obtain ⟨rfl, rfl, rfl⟩ := trodAll_nil r2
  obtain rfl : args = #[v0, v1, v2] := by cases args; simp_all
  obtain ⟨rfl, rfl⟩ := trodVars_none hV
  have k0 := h0
  have lt0 : ∀ x ∈ p0, x.block < W.heap.size := by obtain ⟨m, hm⟩ := k0; exact DataW.trod_lt m _ _ _ hm
  obtain ⟨cs0, rfl, sz0⟩ := okWide_struct Try.underlying25 (hval 0 25 v0 rfl rfl)
  obtain ⟨x0, ra0, rb0, _, ok0⟩ := h0.elim fun fuel hf => ((OpV.struct tok (te := te25) (by kernel_rfl) rfl (by kernel_rfl) (OpAt.cons rfl (by kernel_rfl) (OpV.slice tok (fun x : Int => .i .i64 x) (te := te22) (eu := te3) (by kernel_rfl) rfl (by kernel_rfl) (by decide) (by kernel_rfl) (.inr ⟨by kernel_rfl, rfl, fun _ => rfl⟩) (OpV.int tok (e := te3) (by kernel_rfl) rfl)) (OpAt.last rfl (by kernel_rfl) (OpV.slice tok (fun x : Int => .i .u8 x) (te := te23) (eu := te5) (by kernel_rfl) rfl (by kernel_rfl) (by decide) (by kernel_rfl) (.inr ⟨by kernel_rfl, rfl, fun _ => rfl⟩) (OpV.int tok (e := te5) (by kernel_rfl) rfl))))) : OpV TT enc Try.prog W 25 _ _ _) _ _ _ hf
  have k1 := h1
  have lt1 : ∀ x ∈ p1, x.block < W.heap.size := by obtain ⟨m, hm⟩ := k1; exact DataW.trod_lt m _ _ _ hm
  obtain ⟨cs1, rfl, sz1⟩ := okWide_struct Try.underlying27 (hval 1 27 v1 rfl rfl)
  obtain ⟨x1, ra1, rb1, _, ok1⟩ := h1.elim fun fuel hf => ((OpV.struct tok (te := te27) (by kernel_rfl) rfl (by kernel_rfl) (OpAt.cons rfl (by kernel_rfl) (OpV.int tok (e := te2) (by kernel_rfl) rfl) (OpAt.cons rfl (by kernel_rfl) (OpV.int tok (e := te3) (by kernel_rfl) rfl) (OpAt.last rfl (by kernel_rfl) (OpV.int tok (e := te3) (by kernel_rfl) rfl))))) : OpV TT enc Try.prog W 27 _ _ _) _ _ _ hf
  have k2 := h2
  have lt2 : ∀ x ∈ p2, x.block < W.heap.size := by obtain ⟨m, hm⟩ := k2; exact DataW.trod_lt m _ _ _ hm
  obtain ⟨cs2, rfl, sz2⟩ := okWide_struct Try.underlying31 (hval 2 31 v2 rfl rfl)
  obtain ⟨x2, ra2, rb2, _, ok2⟩ := h2.elim fun fuel hf => ((OpV.struct tok (te := te31) (by kernel_rfl) rfl (by kernel_rfl) (OpAt.cons rfl (by kernel_rfl) (OpV.int tok (e := te2) (by kernel_rfl) rfl) (OpAt.cons rfl (by kernel_rfl) (OpV.struct tok (te := te29) (by kernel_rfl) rfl (by kernel_rfl) (OpAt.cons rfl (by kernel_rfl) (OpV.int tok (e := te3) (by kernel_rfl) rfl) (OpAt.last rfl (by kernel_rfl) (OpV.bool tok (e := te4) (by kernel_rfl) rfl)))) (OpAt.last rfl (by kernel_rfl) (OpV.int tok (e := te2) (by kernel_rfl) rfl))))) : OpV TT enc Try.prog W 31 _ _ _) _ _ _ hf
  clear hA0 hval0 hsz0
  refine (law_calls (w := W) (MemCode.pure x0 x1 x2 ok0 ok1 ok2) (args_agg ra0 rb0 (args_agg ra1 rb1 (args_agg ra2 rb2 args_nil)))).mono fun e W' ⟨he, bel⟩ => ?_
  subst he
  exact ⟨_, rfl, _, _, _, [], _, [], hW', trodAll_mk1 (shut_bool Try.underlying4 _), (trodAll_cons_mk (Below.trod laidOut (by kernel_rfl) (of_decide_eq_true (by kernel_rfl)) k0 bel lt0) (trodAll_cons_mk (Below.trod laidOut (by kernel_rfl) (of_decide_eq_true (by kernel_rfl)) k1 bel lt1) (trodAll_cons_mk (Below.trod laidOut (by kernel_rfl) (of_decide_eq_true (by kernel_rfl)) k2 bel lt2) trodAll_mk0))), rfl, bel.frame _, fun h => by cases h⟩
theorem over : Rows.memCodeRow.holds Try.pinned (OpenSpec.ofChange Rows.memCodeSpec) :=
  OpenClaim.holds_of_wide 4 Try.f4 rfl rfl rfl rfl rfl rfl rfl ⟨rfl, rfl, rfl, rfl, rfl⟩ rfl rfl rfl rfl rfl (by kernel_rfl) Try.func4 (by kernel_rfl)
    (of_decide_eq_true (by kernel_rfl)) (by unfold Func.isWrapper; first | (rw [if_pos (by decide +kernel)]; kernel_rfl) | (rw [if_neg (by decide +kernel)]; exact ⟨rfl, rfl⟩))
    (fun os started H enc _ => lifted os started H enc)
theorem proved : Rows.MemCodeSaid := over
end Go.Proofs.Ytmpdimigpaogkaa.memCode
namespace Go.Proofs.Ytmpdimigpaogkaa
theorem memCode_holds : Rows.MemCodeSaid := memCode.proved
end Go.Proofs.Ytmpdimigpaogkaa
end
