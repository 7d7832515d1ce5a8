/- The law MemChanges: its function's walk, the pure law, the row. Conditions: none. -/
import Derived.Test.YtmpdimigpaogkaaRows
import Derived.WalkKit
import Derived.ProofKit
import Derived.OpenShut
import Derived.ShutString
import Derived.ChangeOld
import Derived.Below
import Derived.SizedLaws
import Derived.Carry
import Derived.Test.YtmpdimigpaogkaaK5
set_option linter.unusedVariables false
set_option linter.unusedSimpArgs false
section
namespace Go.Proofs.Ytmpdimigpaogkaa
open Go.Ab Go.RowKit Go.Proofs.Ytmpdimigpaogkaa.G Go.Proofs.YtmpdimigpaogkaaW.PrintWords Go.Proofs.YtmpdimigpaogkaaW.PrintLast
set_option maxRecDepth 100000
set_option maxHeartbeats 4000000
noncomputable def d13_b1 (x2 : List V × Int) (x3 : List V × Int) (s65 : Int × List V × List V) : Option ((Int × List V × List V) ⊕ ((Bool) ⊕ (List V × List V))) :=
  if (cmpLit .lss s65.1 (lenI x2.1)) = true then
    if (cmpLit .leq (lenI x2.1) 200) = true then
      Option.bind (α := Bool) (
        if (Inb s65.1 (lenI x3.1)) then
          if (Inb s65.1 (lenI x2.1)) then
            if (Inb s65.1 (lenI x2.1)) then
              if (Inb s65.1 (lenI x2.1)) then
                if (notB' (andB' (cmpLit .eql (gI x3.1 s65.1 0) (gI x2.1 s65.1 0)) (andB' (cmpLit .eql (gI x3.1 s65.1 1) (gI x2.1 s65.1 2)) (cmpLit .eql (gI x3.1 s65.1 2) (gI x2.1 s65.1 1))))) = true then
                  some true
                else
                  if (Inb s65.1 (lenI x2.1)) then
                    if (Inb s65.1 (lenI x2.1)) then
                      if (cmpLit .eql (gI x2.1 s65.1 1) (gI x2.1 s65.1 2)) = true then
                        some true
                      else
                        if (cmpLit .gtr s65.1 0) = true then
                          if (Inb (arReal .sub .i64 s65.1 1) (lenI x2.1)) then
                            if (Inb s65.1 (lenI x2.1)) then
                              some (cmpLit .geq (gI x2.1 (arReal .sub .i64 s65.1 1) 0) (gI x2.1 s65.1 0))
                            else none
                          else none
                        else
                          some false
                    else none
                  else none
              else none
            else none
          else none
        else none) fun y84 =>
      if y84 = true then
        some (.inr (.inl false))
      else
        if (Inb s65.1 (lenI x2.1)) then
          if (Inb s65.1 (lenI x2.1)) then
            (d32 s65.2.1 s65.2.2 (gI x2.1 s65.1 0) [.i .u8 (gI x2.1 s65.1 2)]).bind fun x86 =>
            if (cmpLit .neq x86.2.2.2.2 0) = true then
              some (.inr (.inl false))
            else
              if (cmpLit .neq x86.2.2.1 0) = true then
                some (.inr (.inl false))
              else
                some (.inl ((arReal .add .i64 s65.1 1), x86.1, x86.2.1))
          else none
        else none
    else
      some (.inr (.inr (s65.2.1, s65.2.2)))
  else
    some (.inr (.inr (s65.2.1, s65.2.2)))
noncomputable def d13 (a0_0 : List V) (a0_1 : List V) (a1_0 : List V) (a1_1 : List V) : Option (Bool) :=
  (d14).bind fun x1 =>
  (d41 a0_0 a0_1 a1_0 a1_1).bind fun x2 =>
  if (notB' x1) = true then
    some x1
  else
    if (cmpLit .neq x2.2 0) = true then
      some x1
    else
      (d41 a1_0 a1_1 a0_0 a0_1).bind fun x3 =>
      (d41 a0_0 a0_1 a0_0 a0_1).bind fun x4 =>
      Option.bind (α := Bool) (
        if (cmpLit .neq x3.2 0) = true then
          some true
        else
          if (cmpLit .neq x4.2 0) = true then
            some true
          else
            if (cmpLit .neq (lenI x3.1) (lenI x2.1)) = true then
              some true
            else
              if (cmpLit .neq (lenI x4.1) 0) = true then
                some true
              else
                (d29 a0_0 a0_1 a1_0 a1_1).bind fun x10 =>
                some (notB' (beqB (cmpLit .eql (lenI x2.1) 0) x10))) fun y9 =>
      if y9 = true then
        some false
      else
        Option.bind (α := (List V × List V) ⊕ (Bool)) (
          (iter (d13_b1 x2 x3) (0, a0_0, a0_1)).bind fun y76 =>
          match y76 with
          | .inl p87 =>
            some (.inr p87)
          | .inr y76r0 =>
            some (.inl (y76r0.1, y76r0.2))) fun y44 =>
        match y44 with
        | .inl p89 =>
          if (cmpLit .gtr (lenI x2.1) 200) = true then
            some true
          else
            (d29 p89.1 p89.2 a1_0 a1_1).bind fun x91 =>
            some x91
        | .inr y44r0 =>
          some y44r0
noncomputable def w13_c : Code := (Try.f13.body).getD .skip
theorem w13_h : Try.f13.body = some w13_c := by kernel_rfl
theorem w13 (a0_0 : List V) (a0_1 : List V) (a1_0 : List V) (a1_1 : List V) (r : Bool) (h : d13 a0_0 a0_1 a1_0 a1_1 = some r) : Ab.Fn Try.prog TT 13 [.agg [.sl 3 a0_0, .sl 5 a0_1], .agg [.sl 3 a1_0, .sl 5 a1_1]] (.b r) [] := by
  refine fn_pure tok (fun r => match r with | 13 => [[],[],[0,1],[0,1,2],[],[],[4,5],[4,5,6],[4,5,6,7],[],[],[9,10],[9,10,11],[9,10,11,12],[],[],[14,15],[14,15,16],[14,15,16,17],[4,5,6,7,8,9,10,11,12,13,14,15,16,17,18],[0,1,2,3,4,5,6,7,8,9,10,11,12,13,14,15,16,17,18,19],[0,1,2,3,4,5,6,7,8,9,10,11,12,13,14,15,16,17,18,19,20],[0,1,2,3,4,5,6,7,8,9,10,11,12,13,14,15,16,17,18,19,20,21],[0,1,2,3,4,5,6,7,8,9,10,11,12,13,14,15,16,17,18,19,20,21],[0,1,2,3,4,5,6,7,8,9,10,11,12,13,14,15,16,17,18,19,20,21,22,23],[0,1,2,3,4,5,6,7,8,9,10,11,12,13,14,15,16,17,18,19,20,21,22,23,24],[0,1,2,3,4,5,6,7,8,9,10,11,12,13,14,15,16,17,18,19,20,21,22,23,24,25],[0,1,2,3,4,5,6,7,8,9,10,11,12,13,14,15,16,17,18,19,20,21],[0,1,2,3,4,5,6,7,8,9,10,11,12,13,14,15,16,17,18,19,20,21],[0,1,2,3,4,5,6,7,8,9,10,11,12,13,14,15,16,17,18,19,20,21,27,28],[0,1,2,3,4,5,6,7,8,9,10,11,12,13,14,15,16,17,18,19,20,21,27,28,29],[0,1,2,3,4,5,6,7,8,9,10,11,12,13,14,15,16,17,18,19,20,21,27,28,29,30],[0,1,2,3,4,5,6,7,8,9,10,11,12,13,14,15,16,17,18,19,20,21,22,23,24,25,26,27,28,29,30,31],[0,1,2,3,4,5,6,7,8,9,10,11,12,13,14,15,16,17,18,19,20,21,22,23,24,25,26,27,28,29,30,31,32],[0,1,2,3,4,5,6,7,8,9,10,11,12,13,14,15,16,17,18,19,20,21,22,23,24,25,26,27,28,29,30,31,32,33],[0,1,2,3,4,5,6,7,8,9,10,11,12,13,14,15,16,17,18,19,20,21,22,23,24,25,26,27,28,29,30,31,32,33,34],[0,1,2,3,4,5,6,7,8,9,10,11,12,13,14,15,16,17,18,19,20,21,22,23,24,25,26,27,28,29,30,31,32,33,34,35],[0,1,2,3,4,5,6,7,8,9,10,11,12,13,14,15,16,17,18,19,20,21,22,23,24,25,26,27,28,29,30,31,32,33,34,35,36],[0,1,2,3,4,5,6,7,8,9,10,11,12,13,14,15,16,17,18,19,20,21,22,23,24,25,26,27,28,29,30,31,32,33,34,35,36,37],[0,1,2,3,4,5,6,7,8,9,10,11,12,13,14,15,16,17,18,19,20,21,22,23,24,25,26,27,28,29,30,31,32,33,34,35,36,37],[0,1,2,3,4,5,6,7,8,9,10,11,12,13,14,15,16,17,18,19,20,21,22,23,24,25,26,27,28,29,30,31,32,33,34,35,36,37,39],[0,1,2,3,4,5,6,7,8,9,10,11,12,13,14,15,16,17,18,19,20,21,22,23,24,25,26,27,28,29,30,31,32,33,34,35,36,37,38,39,40],[0,1,2,3,4,5,6,7,8,9,10,11,12,13,14,15,16,17,18,19,20,21,22,23,24,25,26,27,28,29,30,31,32,33,34,35,36,37,38,39,40,41],[0,1,2,3,4,5,6,7,8,9,10,11,12,13,14,15,16,17,18,19,20,21,22,23,24,25,26,27,28,29,30,31,32,33,34,35,36,37,38,39,40,41,42],[0,1,2,3,4,5,6,7,8,9,10,11,12,13,14,15,16,17,18,19,20,21,22,23,24,25,26,27,28,29,30,31,32,33,34,35,36,37],[0,1,2,3,4,5,6,7,8,9,10,11,12,13,14,15,16,17,18,19,20,21,22,23,24,25,26,27,28,29,30,31,32,33,34,35,36,37],[0,1,2,3,4,5,6,7,8,9,10,11,12,13,14,15,16,17,18,19,20,21,22,23,24,25,26,27,28,29,30,31,32,33,34,35,36,37,44,45],[0,1,2,3,4,5,6,7,8,9,10,11,12,13,14,15,16,17,18,19,20,21,22,23,24,25,26,27,28,29,30,31,32,33,34,35,36,37,44,45,46],[0,1,2,3,4,5,6,7,8,9,10,11,12,13,14,15,16,17,18,19,20,21,22,23,24,25,26,27,28,29,30,31,32,33,34,35,36,37,44,45,46,47],[0,1,2,3,4,5,6,7,8,9,10,11,12,13,14,15,16,17,18,19,20,21,22,23,24,25,26,27,28,29,30,31,32,33,34,35,36,37,38,39,40,41,42,43,44,45,46,47,48],[0,1,2,3,4,5,6,7,8,9,10,11,12,13,14,15,16,17,18,19,20,21,22,23,24,25,26,27,28,29,30,31,32,33,34,35,36,37,38,39,40,41,42,43,44,45,46,47,48,49],[0,1,2,3,4,5,6,7,8,9,10,11,12,13,14,15,16,17,18,19,20,21,22,23,24,25,26,27,28,29,30,31,32,33,34,35,36,37,38,39,40,41,42,43,44,45,46,47,48,49,50]] | 15 => [[],[],[],[1,2],[1,2,3],[1,2,3,4],[],[],[6,7],[6,7,8],[6,7,8,9],[6,7,8,9,10],[0,1,2,3,4,5,6,7,8,9,10,11],[0,1,2,3,4,5,6,7,8,9,10,11,12],[0,1,2,3,4,5,6,7,8,9,10,11,12,13],[0,1,2,3,4,5,6,7,8,9,10,11,12,13],[0,1,2,3,4,5,6,7,8,9,10,11,12,13],[],[],[0,1,2,3,4,5,6,7,8,9,10,11,12,13,14,17,18],[0,1,2,3,4,5,6,7,8,9,10,11,12,13,14,15,17,18,19],[0,1,2,3,4,5,6,7,8,9,10,11,12,13,14,15,16,17,18,19,20]] | _ => []) Try.func13 (by kernel_rfl) w13_h (by kernel_rfl) ?_
  intro ar un cv mn mx pl mi cmp nt beq an scmp cat slen sbyte ssub ofB toB len gi gb gs gl sub put app ovl rep ne0 ge0 inb bnd room sroom need br call loop cut nl E R K hK
  have D := E.D
  clear E
  unfold d13 at h
  cbv
  refine R.callD h (fun x1 hx1 h2 => ?_)
  clear h; have h := h2; clear h2
  refine R.call' (w14 _ hx1) (by (first | rfl | simp only [D.han, D.har, D.hbeq, D.hcmp, D.hgi, D.hinb, D.hlen, D.hnt])) ?_
  clear hx1; cbv
  refine R.callD h (fun x2 hx2 h2 => ?_)
  clear h; have h := h2; clear h2
  refine R.call' (w41s _ _ _ _ _ hx2) (by (first | rfl | simp only [D.han, D.har, D.hbeq, D.hcmp, D.hgi, D.hinb, D.hlen, D.hnt])) ?_
  clear hx2; cbv
  refine R.cut' (by kernel_rfl) (by kernel_rfl) ?_
  cbv
  refine R.cut' (by kernel_rfl) (by kernel_rfl) ?_
  cbv
  refine R.brD h (by (first | rfl | simp only [D.han, D.har, D.hbeq, D.hcmp, D.hgi, D.hinb, D.hlen, D.hnt])) ?_ ?_ <;> clear h <;> intro h <;> cbv
  · have e := ret_some h; clear h
    refine hK _ _ ?_
    cbv
    try (subst e; simp only [D.han, D.har, D.hbeq, D.hcmp, D.hgi, D.hinb, D.hlen, D.hnt, and_self, and_true, true_and] <;> (repeat' apply And.intro) <;> rfl)
  · refine R.brD h (by (first | rfl | simp only [D.han, D.har, D.hbeq, D.hcmp, D.hgi, D.hinb, D.hlen, D.hnt])) ?_ ?_ <;> clear h <;> intro h <;> cbv
    · have e := ret_some h; clear h
      refine hK _ _ ?_
      cbv
      try (subst e; simp only [D.han, D.har, D.hbeq, D.hcmp, D.hgi, D.hinb, D.hlen, D.hnt, and_self, and_true, true_and] <;> (repeat' apply And.intro) <;> rfl)
    · refine R.callD h (fun x3 hx3 h2 => ?_)
      clear h; have h := h2; clear h2
      refine R.call' (w41s _ _ _ _ _ hx3) (by (first | rfl | simp only [D.han, D.har, D.hbeq, D.hcmp, D.hgi, D.hinb, D.hlen, D.hnt])) ?_
      clear hx3; cbv
      refine R.callD h (fun x4 hx4 h2 => ?_)
      clear h; have h := h2; clear h2
      refine R.call' (w41s _ _ _ _ _ hx4) (by (first | rfl | simp only [D.han, D.har, D.hbeq, D.hcmp, D.hgi, D.hinb, D.hlen, D.hnt])) ?_
      clear hx4; cbv
      refine R.cut' (by kernel_rfl) (by kernel_rfl) ?_
      cbv
      refine R.cutB (fun p => p) (fun _ _ e => e) h [] (fun p11 => [(69, .b p11)]) (fun p11 => []) (by kernel_rfl) (by kernel_rfl) (fun y9 hy hFy9 L hLy9 => ?_) (fun p11 h2 => ?_)
      · clear h; have h := hy; clear hy; cbv
        refine R.brD h (by (first | rfl | simp only [D.han, D.har, D.hbeq, D.hcmp, D.hgi, D.hinb, D.hlen, D.hnt])) ?_ ?_ <;> clear h <;> intro h <;> cbv
        · obtain ⟨s', e, hi⟩ := jn_some (fun p => p) h
          refine hLy9 s' _ _ hi ⟨rfl, ?_, ?_, rfl, rfl⟩ <;> cbv <;> (try (subst e; simp only [D.han, D.har, D.hbeq, D.hcmp, D.hgi, D.hinb, D.hlen, D.hnt, and_self, and_true, true_and] <;> (repeat' apply And.intro) <;> rfl))
        · refine R.brD h (by (first | rfl | simp only [D.han, D.har, D.hbeq, D.hcmp, D.hgi, D.hinb, D.hlen, D.hnt])) ?_ ?_ <;> clear h <;> intro h <;> cbv
          · obtain ⟨s', e, hi⟩ := jn_some (fun p => p) h
            refine hLy9 s' _ _ hi ⟨rfl, ?_, ?_, rfl, rfl⟩ <;> cbv <;> (try (subst e; simp only [D.han, D.har, D.hbeq, D.hcmp, D.hgi, D.hinb, D.hlen, D.hnt, and_self, and_true, true_and] <;> (repeat' apply And.intro) <;> rfl))
          · refine R.brD h (by (first | rfl | simp only [D.han, D.har, D.hbeq, D.hcmp, D.hgi, D.hinb, D.hlen, D.hnt])) ?_ ?_ <;> clear h <;> intro h <;> cbv
            · obtain ⟨s', e, hi⟩ := jn_some (fun p => p) h
              refine hLy9 s' _ _ hi ⟨rfl, ?_, ?_, rfl, rfl⟩ <;> cbv <;> (try (subst e; simp only [D.han, D.har, D.hbeq, D.hcmp, D.hgi, D.hinb, D.hlen, D.hnt, and_self, and_true, true_and] <;> (repeat' apply And.intro) <;> rfl))
            · refine R.brD h (by (first | rfl | simp only [D.han, D.har, D.hbeq, D.hcmp, D.hgi, D.hinb, D.hlen, D.hnt])) ?_ ?_ <;> clear h <;> intro h <;> cbv
              · obtain ⟨s', e, hi⟩ := jn_some (fun p => p) h
                refine hLy9 s' _ _ hi ⟨rfl, ?_, ?_, rfl, rfl⟩ <;> cbv <;> (try (subst e; simp only [D.han, D.har, D.hbeq, D.hcmp, D.hgi, D.hinb, D.hlen, D.hnt, and_self, and_true, true_and] <;> (repeat' apply And.intro) <;> rfl))
              · refine R.callD h (fun x10 hx10 h2 => ?_)
                clear h; have h := h2; clear h2
                refine R.call' (w29 _ _ _ _ _ hx10) (by (first | rfl | simp only [D.han, D.har, D.hbeq, D.hcmp, D.hgi, D.hinb, D.hlen, D.hnt])) ?_
                clear hx10; cbv
                obtain ⟨s', e, hi⟩ := jn_some (fun p => p) h
                refine hLy9 s' _ _ hi ⟨rfl, ?_, ?_, rfl, rfl⟩ <;> cbv <;> (try (subst e; simp only [D.han, D.har, D.hbeq, D.hcmp, D.hgi, D.hinb, D.hlen, D.hnt, and_self, and_true, true_and] <;> (repeat' apply And.intro) <;> rfl))
      · clear h; have h := h2; clear h2; try dsimp only at h
        cbv
        refine R.brD h (by (first | rfl | simp only [D.han, D.har, D.hbeq, D.hcmp, D.hgi, D.hinb, D.hlen, D.hnt])) ?_ ?_ <;> clear h <;> intro h <;> cbv
        · have e := ret_some h; clear h
          refine hK _ _ ?_
          cbv
          try (subst e; simp only [D.han, D.har, D.hbeq, D.hcmp, D.hgi, D.hinb, D.hlen, D.hnt, and_self, and_true, true_and] <;> (repeat' apply And.intro) <;> rfl)
        · refine R.cutB Sum.inl (fun _ _ e => Sum.inl.inj e) h [] (fun p89 => []) (fun p89 => [(192, .cells 25 [.sl 3 p89.1, .sl 5 p89.2])]) (by kernel_rfl) (by kernel_rfl) (fun y44 hy hFy44 L hLy44 => ?_) (fun p89 h2 => ?_)
          · clear h; have h := hy; clear hy; cbv
            refine R.loopD h (fun s0 y76 e0 hi hFs65 => ?_)
            clear h
            refine R.loopI hi [] (fun s65 => [(13, .i .i64 s65.1)]) (fun s65 => [(192, .cells 25 [.sl 3 s65.2.1, .sl 5 s65.2.2])]) ⟨rfl, ?_, ?_, rfl, rfl⟩ (by kernel_rfl) ?_
            · cbv; try (subst e0; simp only [D.han, D.har, D.hbeq, D.hcmp, D.hgi, D.hinb, D.hlen, D.hnt, and_self, and_true, true_and] <;> (repeat' apply And.intro) <;> rfl)
            · cbv; try (subst e0; simp only [D.han, D.har, D.hbeq, D.hcmp, D.hgi, D.hinb, D.hlen, D.hnt, and_self, and_true, true_and] <;> (repeat' apply And.intro) <;> rfl)
            clear hi e0
            intro s65 m y' hy hins65 houts65 L hLs65
            have h := hy; clear hy; unfold d13_b1 at h
            cbv
            refine R.cut' (by kernel_rfl) (by kernel_rfl) ?_
            cbv
            refine R.cut' (by kernel_rfl) (by kernel_rfl) ?_
            cbv
            refine R.brD h (by (first | rfl | simp only [D.han, D.har, D.hbeq, D.hcmp, D.hgi, D.hinb, D.hlen, D.hnt])) ?_ ?_ <;> clear h <;> intro h <;> cbv
            · refine R.brD h (by (first | rfl | simp only [D.han, D.har, D.hbeq, D.hcmp, D.hgi, D.hinb, D.hlen, D.hnt])) ?_ ?_ <;> clear h <;> intro h <;> cbv
              · refine R.cut' (by kernel_rfl) (by kernel_rfl) ?_
                cbv
                refine R.cut' (by kernel_rfl) (by kernel_rfl) ?_
                cbv
                refine R.cutB (fun p => p) (fun _ _ e => e) h [] (fun p85 => [(133, .b p85)]) (fun p85 => []) (by kernel_rfl) (by kernel_rfl) (fun y84 hy hFy84 L hLy84 => ?_) (fun p85 h2 => ?_)
                · clear h; have h := hy; clear hy; cbv
                  refine R.needD h (by (first | rfl | simp only [D.han, D.har, D.hbeq, D.hcmp, D.hgi, D.hinb, D.hlen, D.hnt])) ?_
                  clear h; intro h; cbv
                  refine R.needD h (by (first | rfl | simp only [D.han, D.har, D.hbeq, D.hcmp, D.hgi, D.hinb, D.hlen, D.hnt])) ?_
                  clear h; intro h; cbv
                  refine R.needD h (by (first | rfl | simp only [D.han, D.har, D.hbeq, D.hcmp, D.hgi, D.hinb, D.hlen, D.hnt])) ?_
                  clear h; intro h; cbv
                  refine R.needD h (by (first | rfl | simp only [D.han, D.har, D.hbeq, D.hcmp, D.hgi, D.hinb, D.hlen, D.hnt])) ?_
                  clear h; intro h; cbv
                  refine R.brD h (by (first | rfl | simp only [D.han, D.har, D.hbeq, D.hcmp, D.hgi, D.hinb, D.hlen, D.hnt])) ?_ ?_ <;> clear h <;> intro h <;> cbv
                  · obtain ⟨s', e, hi⟩ := jn_some (fun p => p) h
                    refine hLy84 s' _ _ hi ⟨rfl, ?_, ?_, rfl, rfl⟩ <;> cbv <;> (try (subst e; simp only [D.han, D.har, D.hbeq, D.hcmp, D.hgi, D.hinb, D.hlen, D.hnt, and_self, and_true, true_and] <;> (repeat' apply And.intro) <;> rfl))
                  · refine R.needD h (by (first | rfl | simp only [D.han, D.har, D.hbeq, D.hcmp, D.hgi, D.hinb, D.hlen, D.hnt])) ?_
                    clear h; intro h; cbv
                    refine R.needD h (by (first | rfl | simp only [D.han, D.har, D.hbeq, D.hcmp, D.hgi, D.hinb, D.hlen, D.hnt])) ?_
                    clear h; intro h; cbv
                    refine R.brD h (by (first | rfl | simp only [D.han, D.har, D.hbeq, D.hcmp, D.hgi, D.hinb, D.hlen, D.hnt])) ?_ ?_ <;> clear h <;> intro h <;> cbv
                    · obtain ⟨s', e, hi⟩ := jn_some (fun p => p) h
                      refine hLy84 s' _ _ hi ⟨rfl, ?_, ?_, rfl, rfl⟩ <;> cbv <;> (try (subst e; simp only [D.han, D.har, D.hbeq, D.hcmp, D.hgi, D.hinb, D.hlen, D.hnt, and_self, and_true, true_and] <;> (repeat' apply And.intro) <;> rfl))
                    · refine R.brD h (by (first | rfl | simp only [D.han, D.har, D.hbeq, D.hcmp, D.hgi, D.hinb, D.hlen, D.hnt])) ?_ ?_ <;> clear h <;> intro h <;> cbv
                      · refine R.needD h (by (first | rfl | simp only [D.han, D.har, D.hbeq, D.hcmp, D.hgi, D.hinb, D.hlen, D.hnt])) ?_
                        clear h; intro h; cbv
                        refine R.needD h (by (first | rfl | simp only [D.han, D.har, D.hbeq, D.hcmp, D.hgi, D.hinb, D.hlen, D.hnt])) ?_
                        clear h; intro h; cbv
                        obtain ⟨s', e, hi⟩ := jn_some (fun p => p) h
                        refine hLy84 s' _ _ hi ⟨rfl, ?_, ?_, rfl, rfl⟩ <;> cbv <;> (try (subst e; simp only [D.han, D.har, D.hbeq, D.hcmp, D.hgi, D.hinb, D.hlen, D.hnt, and_self, and_true, true_and] <;> (repeat' apply And.intro) <;> rfl))
                      · obtain ⟨s', e, hi⟩ := jn_some (fun p => p) h
                        refine hLy84 s' _ _ hi ⟨rfl, ?_, ?_, rfl, rfl⟩ <;> cbv <;> (try (subst e; simp only [D.han, D.har, D.hbeq, D.hcmp, D.hgi, D.hinb, D.hlen, D.hnt, and_self, and_true, true_and] <;> (repeat' apply And.intro) <;> rfl))
                · clear h; have h := h2; clear h2; try dsimp only at h
                  cbv
                  refine R.brD h (by (first | rfl | simp only [D.han, D.har, D.hbeq, D.hcmp, D.hgi, D.hinb, D.hlen, D.hnt])) ?_ ?_ <;> clear h <;> intro h <;> cbv
                  · have e := inr_some h houts65; clear h
                    have h := hFs65; rw [e] at h; clear e; try dsimp only at h
                    cbv
                    have e := ret_some h; clear h
                    have h := hFy44; rw [e] at h; clear e; try dsimp only at h
                    cbv
                    have e := ret_some h; clear h
                    refine hK _ _ ?_
                    cbv
                    try (subst e; simp only [D.han, D.har, D.hbeq, D.hcmp, D.hgi, D.hinb, D.hlen, D.hnt, and_self, and_true, true_and] <;> (repeat' apply And.intro) <;> rfl)
                  · refine R.needD h (by (first | rfl | simp only [D.han, D.har, D.hbeq, D.hcmp, D.hgi, D.hinb, D.hlen, D.hnt])) ?_
                    clear h; intro h; cbv
                    refine R.needD h (by (first | rfl | simp only [D.han, D.har, D.hbeq, D.hcmp, D.hgi, D.hinb, D.hlen, D.hnt])) ?_
                    clear h; intro h; cbv
                    refine R.callD h (fun x86 hx86 h2 => ?_)
                    clear h; have h := h2; clear h2
                    refine R.call' (w32s _ _ _ _ _ hx86) (by (first | rfl | simp only [D.han, D.har, D.hbeq, D.hcmp, D.hgi, D.hinb, D.hlen, D.hnt])) ?_
                    clear hx86; cbv
                    refine R.cut' (by kernel_rfl) (by kernel_rfl) ?_
                    cbv
                    refine R.cut' (by kernel_rfl) (by kernel_rfl) ?_
                    cbv
                    refine R.brD h (by (first | rfl | simp only [D.han, D.har, D.hbeq, D.hcmp, D.hgi, D.hinb, D.hlen, D.hnt])) ?_ ?_ <;> clear h <;> intro h <;> cbv
                    · have e := inr_some h houts65; clear h
                      have h := hFs65; rw [e] at h; clear e; try dsimp only at h
                      cbv
                      have e := ret_some h; clear h
                      have h := hFy44; rw [e] at h; clear e; try dsimp only at h
                      cbv
                      have e := ret_some h; clear h
                      refine hK _ _ ?_
                      cbv
                      try (subst e; simp only [D.han, D.har, D.hbeq, D.hcmp, D.hgi, D.hinb, D.hlen, D.hnt, and_self, and_true, true_and] <;> (repeat' apply And.intro) <;> rfl)
                    · refine R.brD h (by (first | rfl | simp only [D.han, D.har, D.hbeq, D.hcmp, D.hgi, D.hinb, D.hlen, D.hnt])) ?_ ?_ <;> clear h <;> intro h <;> cbv
                      · have e := inr_some h houts65; clear h
                        have h := hFs65; rw [e] at h; clear e; try dsimp only at h
                        cbv
                        have e := ret_some h; clear h
                        have h := hFy44; rw [e] at h; clear e; try dsimp only at h
                        cbv
                        have e := ret_some h; clear h
                        refine hK _ _ ?_
                        cbv
                        try (subst e; simp only [D.han, D.har, D.hbeq, D.hcmp, D.hgi, D.hinb, D.hlen, D.hnt, and_self, and_true, true_and] <;> (repeat' apply And.intro) <;> rfl)
                      · obtain ⟨s', e, hi⟩ := inl_some h hins65
                        refine hLs65 s' _ _ hi ⟨rfl, ?_, ?_, rfl, rfl⟩ <;> cbv <;> (try (subst e; simp only [D.han, D.har, D.hbeq, D.hcmp, D.hgi, D.hinb, D.hlen, D.hnt, and_self, and_true, true_and] <;> (repeat' apply And.intro) <;> rfl))
              · have e := inr_some h houts65; clear h
                have h := hFs65; rw [e] at h; clear e; try dsimp only at h
                cbv
                obtain ⟨s', e, hi⟩ := jn_some Sum.inl h
                refine hLy44 s' _ _ hi ⟨rfl, ?_, ?_, rfl, rfl⟩ <;> cbv <;> (try (subst e; simp only [D.han, D.har, D.hbeq, D.hcmp, D.hgi, D.hinb, D.hlen, D.hnt, and_self, and_true, true_and] <;> (repeat' apply And.intro) <;> rfl))
            · have e := inr_some h houts65; clear h
              have h := hFs65; rw [e] at h; clear e; try dsimp only at h
              cbv
              obtain ⟨s', e, hi⟩ := jn_some Sum.inl h
              refine hLy44 s' _ _ hi ⟨rfl, ?_, ?_, rfl, rfl⟩ <;> cbv <;> (try (subst e; simp only [D.han, D.har, D.hbeq, D.hcmp, D.hgi, D.hinb, D.hlen, D.hnt, and_self, and_true, true_and] <;> (repeat' apply And.intro) <;> rfl))
          · clear h; have h := h2; clear h2; try dsimp only at h
            cbv
            refine R.cut' (by kernel_rfl) (by kernel_rfl) ?_
            cbv
            refine R.brD h (by (first | rfl | simp only [D.han, D.har, D.hbeq, D.hcmp, D.hgi, D.hinb, D.hlen, D.hnt])) ?_ ?_ <;> clear h <;> intro h <;> cbv
            · have e := ret_some h; clear h
              refine hK _ _ ?_
              cbv
              try (subst e; simp only [D.han, D.har, D.hbeq, D.hcmp, D.hgi, D.hinb, D.hlen, D.hnt, and_self, and_true, true_and] <;> (repeat' apply And.intro) <;> rfl)
            · refine R.callD h (fun x91 hx91 h2 => ?_)
              clear h; have h := h2; clear h2
              refine R.call' (w29 _ _ _ _ _ hx91) (by (first | rfl | simp only [D.han, D.har, D.hbeq, D.hcmp, D.hgi, D.hinb, D.hlen, D.hnt])) ?_
              clear hx91; cbv
              have e := ret_some h; clear h
              refine hK _ _ ?_
              cbv
              try (subst e; simp only [D.han, D.har, D.hbeq, D.hcmp, D.hgi, D.hinb, D.hlen, D.hnt, and_self, and_true, true_and] <;> (repeat' apply And.intro) <;> rfl)

end Go.Proofs.Ytmpdimigpaogkaa

end
section
/- The one statement over its function that the law MemChanges comes to. Conditions: none. -/
-- Told by a program of this seat's session. Not trusted: Lean checks it.

namespace Go.Proofs.Ytmpdimigpaogkaa
open Go.Ab Go.RowKit
def MemChanges.Claim : Prop := ∀ (x0 : ((List Int) × (List Int))) (x1 : ((List Int) × (List Int))), (fun x : ((List Int) × (List Int)) => (fun l : List Int => l.length ≤ maxLen ∧ ∀ x ∈ l, (fun n : Int => (Lit.int .i64 n).wf = true) x) x.1 ∧ (fun l : List Int => l.length ≤ maxLen ∧ ∀ x ∈ l, (fun n : Int => (Lit.int .u8 n).wf = true) x) x.2) x0 → (fun x : ((List Int) × (List Int)) => (fun l : List Int => l.length ≤ maxLen ∧ ∀ x ∈ l, (fun n : Int => (Lit.int .i64 n).wf = true) x) x.1 ∧ (fun l : List Int => l.length ≤ maxLen ∧ ∀ x ∈ l, (fun n : Int => (Lit.int .u8 n).wf = true) x) x.2) x1 → Ab.Fn Try.prog TT 13 [.agg [.sl 3 (x0.1.map (fun x : Int => .i .i64 x)), .sl 5 (x0.2.map (fun x : Int => .i .u8 x))], .agg [.sl 3 (x1.1.map (fun x : Int => .i .i64 x)), .sl 5 (x1.2.map (fun x : Int => .i .u8 x))]] (.b true) []
end Go.Proofs.Ytmpdimigpaogkaa
end
section
/- The law MemChanges: differences lead from the one space to the other. Conditions: none. -/

namespace Go.Proofs.Ytmpdimigpaogkaa
open Go.Ab Go.RowKit Go.Proofs.Ytmpdimigpaogkaa.G Go.Proofs.YtmpdimigpaogkaaW.PrintWords Go.Proofs.YtmpdimigpaogkaaW.PrintLast
theorem bind_toH {α β : Type} {x : Option α} {F : α → Option β} {a : α} {r : Option β} (h : x = some a) (k : F a = r) : x.bind F = r := by subst h; exact k
abbrev Ch := Int × Int × Int
def rdC (l : List Ch) (i : Int) : Ch := l.getD i.toNat (0, 0, 0)
theorem g0 (l : List Ch) (i : Int) : gI (chgs l) i 0 = (rdC l i).1 := by
  simp only [rdC, gI, elAt, chgs, List.getD_eq_getElem?_getD, List.getElem?_map]
  cases h : l[i.toNat]? <;> simp [cellAt, chg, Ab.asInt]
theorem g1 (l : List Ch) (i : Int) : gI (chgs l) i 1 = (rdC l i).2.1 := by
  simp only [rdC, gI, elAt, chgs, List.getD_eq_getElem?_getD, List.getElem?_map]
  cases h : l[i.toNat]? <;> simp [cellAt, chg, Ab.asInt]
theorem g2 (l : List Ch) (i : Int) : gI (chgs l) i 2 = (rdC l i).2.2 := by
  simp only [rdC, gI, elAt, chgs, List.getD_eq_getElem?_getD, List.getElem?_map]
  cases h : l[i.toNat]? <;> simp [cellAt, chg, Ab.asInt]
theorem chgs_len (l : List Ch) : lenI (chgs l) = l.length := by simp [lenI, chgs]
def swapC (e : Ch) : Ch := (e.1, e.2.2, e.2.1)
theorem diffs_swap (B C : List Int) : ∀ m i, diffs C B m i = (diffs B C m i).map swapC
  | 0, _ => rfl
  | m + 1, i => by
    unfold diffs
    rw [diffs_swap B C m (i + 1)]
    by_cases h : rdI B i = rdI C i
    · rw [if_neg (not_not_intro h), if_neg (not_not_intro h.symm)]
    · rw [if_pos h, if_pos (fun e => h e.symm)]; rfl
theorem rdC_swap (l : List Ch) (i : Int) : rdC (l.map swapC) i = swapC (rdC l i) := by
  simp only [rdC, List.getD_eq_getElem?_getD, List.getElem?_map]
  cases h : l[i.toNat]? <;> simp [swapC]
theorem diffs_self (B : List Int) : ∀ m i, diffs B B m i = []
  | 0, _ => rfl
  | m + 1, i => by unfold diffs; rw [if_neg (by simp)]; exact diffs_self B m (i + 1)
def Okd (B C : List Int) (lo hi : Int) (l : List Ch) : Prop := (∀ e ∈ l, lo ≤ e.1 ∧ e.1 < hi ∧ e.2.1 = rdI B e.1 ∧ e.2.2 = rdI C e.1 ∧ rdI B e.1 ≠ rdI C e.1) ∧ l.Pairwise (fun a b => a.1 < b.1)
theorem diffs_ok (B C : List Int) : ∀ (m : Nat) (i : Int), Okd B C i (i + m) (diffs B C m i)
  | 0, i => ⟨fun e he => by (cases he), List.Pairwise.nil⟩
  | m + 1, i => by
    obtain ⟨h1, h2⟩ := diffs_ok B C m (i + 1)
    unfold diffs
    split
    · rename_i hne
      refine ⟨fun e he => ?_, List.Pairwise.cons (fun e he => ?_) h2⟩
      · rcases List.mem_cons.1 he with rfl | he
        · exact ⟨by simp, by simp only; omega, rfl, rfl, hne⟩
        · have := h1 e he
          exact ⟨by omega, by omega, this.2.2⟩
      · have := (h1 e he).1
        simp only; omega
    · exact ⟨fun e he => by have := h1 e he; exact ⟨by omega, by omega, this.2.2⟩, h2⟩
def patch (B : List Int) (l : List Ch) : List Int := l.foldl (fun b e => b.set e.1.toNat e.2.2) B
theorem patch_len (l : List Ch) : ∀ B, (patch B l).length = B.length := by
  induction l with
  | nil => intro B; rfl
  | cons e l ih => intro B; show (patch (B.set e.1.toNat e.2.2) l).length = _; rw [ih]; simp
theorem patch_bytes (l : List Ch) : ∀ B, Bytes B → (∀ e ∈ l, 0 ≤ e.2.2 ∧ e.2.2 < 256) → Bytes (patch B l) := by
  induction l with
  | nil => intro B h _; exact h
  | cons e l ih =>
    intro B h k
    refine ih _ (fun x hx => ?_) (fun e he => k e (List.mem_cons_of_mem _ he))
    rcases List.mem_or_eq_of_mem_set hx with hx | hx
    · exact h x hx
    · rw [hx]; exact k e List.mem_cons_self
theorem patch_all {B C : List Int} (hl : ln B = ln C) : ∀ (m : Nat) (i : Int) (D : List Int), 0 ≤ i → i + m = ln B → ln D = ln B → (∀ j, 0 ≤ j → j < i → rdI D j = rdI C j) → (∀ j, i ≤ j → rdI D j = rdI B j) → patch D (diffs B C m i) = C
  | 0, i, D, h0, h1, h2, h3, h4 => by
    show D = C
    exact eq_of_rd (by omega) (fun j j0 j1 => h3 j j0 (by omega))
  | m + 1, i, D, h0, h1, h2, h3, h4 => by
    unfold diffs
    split
    · show patch (D.set i.toNat (rdI C i)) (diffs B C m (i + 1)) = C
      refine patch_all hl m (i + 1) _ (by omega) (by omega) (by simpa [ln] using h2) (fun j j0 j1 => ?_) (fun j j0 => ?_)
      · rw [rdI_set _ h0 (by omega) j0]
        split
        · rename_i e; rw [e]
        · exact h3 j j0 (by omega)
      · rw [rdI_set _ h0 (by omega) (by omega), if_neg (by omega)]
        exact h4 j (by omega)
    · rename_i hne
      refine patch_all hl m (i + 1) D (by omega) (by omega) h2 (fun j j0 j1 => ?_) (fun j j0 => h4 j (by omega))
      by_cases e : j = i
      · subst e
        have : rdI B j = rdI C j := by
          by_cases h : rdI B j = rdI C j
          · exact h
          · exact absurd h hne
        rw [h4 j (by omega), this]
      · exact h3 j j0 (by omega)
theorem spl_set (B : List Int) (n : Nat) (v : Int) (h : n < B.length) : spl B n [v] = B.set n v := by
  unfold spl
  rw [List.set_eq_take_append_cons_drop, if_pos h]; rfl
theorem poke_one {P B : List Int} (hc : checkV P B = 0) {x v : Int} (h0 : 0 ≤ x) (h1 : x < ln B) : pokeV P B x [v] = (ints P, u8s (B.set x.toNat v), 0, 0, 0) := by
  obtain ⟨c1, c2, c3⟩ := check_to hc
  unfold pokeV
  have e1 : ln [v] = 1 := rfl
  have ef : fault P B x 1 0 = (0, 0) := by
    unfold fault
    rw [needs_of_none]
    · rfl
    · intro j hj
      have : (j : Int) = 0 := by omega
      rw [this]
      have hw : wrap64 (x + (0 + 0)) = x := by unfold wrap64; omega
      rw [hw]
      unfold need1
      rw [if_pos ⟨h0, h1⟩, if_pos]
      have hp := perm_at hc h0 h1
      have e : rd P (x / 64) = rdI P (x / 64) := rfl
      rw [e]
      rcases hp with hp | hp | hp | hp <;> rw [hp] <;> rfl
  rw [if_neg (not_not_intro hc), e1, if_neg (by omega), ef, if_neg (by simp), spl_set B _ v (by unfold ln at h1; omega)]
theorem take_rd (l : List Ch) {i : Int} (h0 : 0 ≤ i) (h1 : i < l.length) : l.take (i + 1).toNat = l.take i.toNat ++ [rdC l i] := by
  rw [show (i + 1).toNat = i.toNat + 1 from by omega, List.take_succ_eq_append_getElem (by omega)]
  simp [rdC, List.getD_eq_getElem?_getD, show i.toNat < l.length from by omega]
theorem rdC_mem (l : List Ch) {i : Int} (h0 : 0 ≤ i) (h1 : i < l.length) : rdC l i ∈ l := by
  unfold rdC
  rw [List.getD_eq_getElem?_getD, List.getElem?_eq_getElem (by omega)]
  exact List.getElem_mem _
theorem rdC_lt {l : List Ch} (hp : l.Pairwise (fun a b => a.1 < b.1)) {i j : Int} (h0 : 0 ≤ i) (hij : i < j) (h1 : j < l.length) : (rdC l i).1 < (rdC l j).1 := by
  unfold rdC
  rw [List.getD_eq_getElem?_getD, List.getD_eq_getElem?_getD, List.getElem?_eq_getElem (by omega), List.getElem?_eq_getElem (by omega)]
  exact List.pairwise_iff_getElem.1 hp i.toNat j.toNat (by omega) (by omega) (by omega)
theorem it13 {P B C : List Int} (hc : checkV P B = 0) (hC : Bytes C) (L : List Ch) (hL : Okd B C 0 (ln B) L) (h200 : (L.length : Int) ≤ 200) : iter (d13_b1 (chgs L, 0) (chgs (L.map swapC), 0)) (0, ints P, u8s B) = some (.inr (ints P, u8s (patch B L))) := by
  refine iter_fun (fun s : Int × List V × List V => 0 ≤ s.1 ∧ s.1 ≤ L.length ∧ s.2.1 = ints P ∧ s.2.2 = u8s (patch B (L.take s.1.toNat))) (fun s => ((L.length : Int) - s.1).toNat) (fun _ => (Sum.inr (ints P, u8s (patch B L)) : Bool ⊕ (List V × List V))) (fun s hs => ?_) (0, ints P, u8s B) ⟨by simp, by simp, rfl, rfl⟩
  obtain ⟨i, A, D⟩ := s
  obtain ⟨h0, h1, h2, h3⟩ := hs
  simp only at h0 h1 h2 h3
  subst h2; subst h3
  unfold d13_b1
  have el : lenI (chgs (L.map swapC)) = L.length := by rw [chgs_len]; simp
  simp only [c_lss, c_leq, c_gtr, c_eql, c_geq, c_neq, decide_eq_true_eq, chgs_len, g0, g1, g2, rdC_swap, el]
  by_cases hlt : i < L.length
  · have hi : Inb i L.length := ⟨h0, hlt⟩
    have hm := hL.1 _ (rdC_mem L h0 hlt)
    have hs : arReal .add .i64 i 1 = i + 1 := a_add (by omega) (by omega)
    have hs2 : arReal .sub .i64 i 1 = i - 1 := a_sub (by omega) (by omega)
    simp only [hs, hs2, if_pos hlt, if_pos h200, if_pos hi]
    refine .inl ⟨(i + 1, ints P, u8s (patch B (L.take (i + 1).toNat))), ?_, ⟨by simp only; omega, by simp only; omega, rfl, rfl⟩, by simp only; omega, trivial⟩
    refine bind_toH (a := false) ?_ ?_
    · rw [if_neg (by simp [notB', andB', swapC]), if_neg (by rw [hm.2.2.1, hm.2.2.2.1]; exact hm.2.2.2.2)]
      by_cases hz : 0 < i
      · rw [if_pos hz, if_pos (show Inb (i - 1) L.length from ⟨by omega, by omega⟩), decide_eq_false (by have := rdC_lt hL.2 (i := i - 1) (j := i) (by omega) (by omega) hlt; omega)]
      · rw [if_neg hz]
    · rw [if_neg (by simp)]
      have hlen : ln (patch B (L.take i.toNat)) = ln B := by unfold ln; rw [patch_len]
      have e : [V.i IntKind.u8 (rdC L i).2.2] = u8s [(rdC L i).2.2] := rfl
      obtain ⟨c1, c2, c3⟩ := check_to hc
      rw [e, s32 P _ _ (by omega), poke_one (check_len hlen hc) hm.1 (by omega), Option.bind_some, if_neg (by simp), if_neg (by simp)]
      rw [take_rd L h0 hlt]
      unfold patch
      rw [List.foldl_append]; rfl
  · rw [if_neg hlt]
    have : L.take i.toNat = L := List.take_of_length_le (by omega)
    rw [this]
    exact .inr rfl
theorem diffs_nil {B C : List Int} (hl : ln B = ln C) : (diffs B C (ln B).toNat 0 = []) ↔ B = C := by
  constructor
  · intro h
    have := patch_all hl (ln B).toNat 0 B (by omega) (by have := ln_nn B; omega) rfl (fun j j0 j1 => by omega) (fun j _ => rfl)
    rw [h] at this
    exact this
  · rintro rfl; exact diffs_self B _ _
theorem d13_true (P B Q C : List Int) (hB : Bytes B) (hC : Bytes C) (hP : ln P ≤ 9223372036854775807) : d13 (ints P) (u8s B) (ints Q) (u8s C) = some true := by
  unfold d13
  rw [s14, Option.bind_some, s41, Option.bind_some, if_neg (by simp [notB'])]
  by_cases hc : checkV P B = 0
  · by_cases hq : checkV Q C = 0
    · by_cases hpq : P = Q
      · subst hpq
        obtain ⟨c1, c2, c3⟩ := check_to hc
        obtain ⟨q1, q2, q3⟩ := check_to hq
        have hl : ln B = ln C := by omega
        have e1 : diffV P B P C = (chgs (diffs B C (ln B).toNat 0), 0) := by unfold diffV; rw [if_neg (not_not_intro hc), if_neg (not_not_intro hq), if_pos rfl]
        have e2 : diffV P C P B = (chgs ((diffs B C (ln B).toNat 0).map swapC), 0) := by unfold diffV; rw [if_neg (not_not_intro hc), if_neg (not_not_intro hq), if_pos rfl, ← hl, diffs_swap]
        have e3 : diffV P B P B = (chgs [], 0) := by unfold diffV; rw [if_neg (not_not_intro hc), if_neg (not_not_intro hc), if_pos rfl, diffs_self]
        have hnil := diffs_nil hl
        have hok := diffs_ok B C (ln B).toNat 0
        rw [show (0 : Int) + ((ln B).toNat : Int) = ln B from by have := ln_nn B; omega] at hok
        have hpa := patch_all hl (ln B).toNat 0 B (by omega) (by have := ln_nn B; omega) rfl (fun j j0 j1 => by omega) (fun j _ => rfl)
        rw [e1, if_neg (by simp [c_neq]), s41, Option.bind_some, s41, Option.bind_some, e2, e3]
        generalize diffs B C (ln B).toNat 0 = L at *
        refine bind_toH (a := false) ?_ ?_
        · rw [if_neg (by simp [c_neq]), if_neg (by simp [c_neq]), if_neg (by simp [c_neq, chgs_len]), if_neg (by simp [c_neq, chgs_len]), s29 P B P C hP (by omega), Option.bind_some]
          by_cases h : B = C
          · have : L = [] := hnil.2 h
            subst this
            simp [c_eql, h, notB', beqB, chgs_len]
          · have : L ≠ [] := fun e => h (hnil.1 e)
            simp [c_eql, h, notB', beqB, chgs_len, this]
        · rw [if_neg (by simp)]
          by_cases h200 : (L.length : Int) ≤ 200
          · rw [it13 hc hC L hok h200]
            simp only [Option.bind_some]
            rw [if_neg (by simp [c_gtr, chgs_len]; omega), hpa, s29 P C P C hP (by omega)]
            simp
          · have r1 : d13_b1 (chgs L, 0) (chgs (L.map swapC), 0) (0, ints P, u8s B) = some (.inr (.inr (ints P, u8s B))) := by
              unfold d13_b1
              simp only [c_lss, c_leq, chgs_len, decide_eq_true_eq]
              rw [if_pos (by omega), if_neg h200]
            rw [iter_inr r1]
            simp only [Option.bind_some]
            rw [if_pos (by simp [c_gtr, chgs_len]; omega)]
      · have e : diffV P B Q C = ([], 1) := by unfold diffV; rw [if_neg (not_not_intro hc), if_neg (not_not_intro hq), if_neg hpq]
        rw [e, if_pos (by simp [c_neq])]
    · have e : diffV P B Q C = ([], checkV Q C) := by unfold diffV; rw [if_neg (not_not_intro hc), if_pos hq]
      rw [e, if_pos (by simp [c_neq, hq])]
  · have e : diffV P B Q C = ([], checkV P B) := by unfold diffV; rw [if_pos hc]
    rw [e, if_pos (by simp [c_neq, hc])]
theorem MemChanges.pure : MemChanges.Claim := by
  intro x0 x1 h0 h1
  exact w13 (ints x0.1) (u8s x0.2) (ints x1.1) (u8s x1.2) true (d13_true x0.1 x0.2 x1.1 x1.2 (bytesWf h0.2.2) (bytesWf h1.2.2) (lnmax h0.1.1))
end Go.Proofs.Ytmpdimigpaogkaa
end
section
/- MemChanges: the law's call returns true for every input, and its arguments read afterwards as_ before. Conditions: none. -/
-- Told by a program of this seat's session. Not trusted: Lean checks it.

namespace Go.Proofs.Ytmpdimigpaogkaa.memChanges
open Go.ChangeShapes Go.WideShapes Go.ChangeAt Go.RowKit Go.Ab Go.Proofs.Ytmpdimigpaogkaa
open Go.ChangeMaps (open_string shut_string)
theorem own : ownKnob Try.prog.godebug = none := by kernel_rfl
theorem laidOut : laidOutB Try.prog = true := by kernel_rfl
set_option maxRecDepth 100000 in
set_option maxHeartbeats 8000000 in
theorem lifted (os : Os) (started : os.Started) (H : Type) (enc : TypeId × Value → H) :
    ReturnsInHanded {} Try.checked os 13 .any (Rows.memChangesSpec.pre6 enc Try.prog Try.f13 Rows.memChangesRow.domain false) (Rows.memChangesSpec.post enc Try.prog Try.f13 false true false false) := by
  refine returnsInHanded_of_change_sized (C := Try.checked) own started (by kernel_rfl) Try.func13
    (ChangeSpec.witness6 (enc := enc) (C := Try.checked) false ⟨#[], #[.agg #[.slice none 0 0, .slice none 0 0], .agg #[.slice none 0 0, .slice none 0 0]], []⟩ 8 (by kernel_rfl) (by kernel_rfl) (by kernel_rfl) (by kernel_rfl)) ?_
  intro W base args ds gs before hval0 hW hcnd hsz0 _
  have hval : ∀ (j : Nat) t v, Try.f13.params[j]? = some t → args[j]? = some v → Value.okWide Try.prog W .any base t v := hval0
  have hW' := hW
  obtain ⟨p, q, hA0, hV, rfl, hfz, hnd⟩ := hW
  have hA : DataW.TrodAll enc Try.prog W 0 (fun _ => true) true Try.f13.params.toList args.toList ds p := hA0
  rw [Try.params13] at hA hval
  obtain ⟨v0, vs0, d0, ds0, p0, q0, hargs, rfl, rfl, h0, r0⟩ := trodAll_cons hA
  obtain ⟨v1, vs1, d1, ds1, p1, q1, rfl, rfl, rfl, h1, r1⟩ := trodAll_cons r0
  obtain ⟨rfl, rfl, rfl⟩ := trodAll_nil r1
  obtain rfl : args = #[v0, v1] := by cases args; simp_all
  obtain ⟨rfl, rfl⟩ := trodVars_none hV
  have k0 := h0
  have lt0 : ∀ x ∈ p0, x.block < W.heap.size := by obtain ⟨m, hm⟩ := k0; exact DataW.trod_lt m _ _ _ hm
  obtain ⟨cs0, rfl, sz0⟩ := okWide_struct Try.underlying25 (hval 0 25 v0 rfl rfl)
  obtain ⟨x0, ra0, rb0, _, ok0⟩ := h0.elim fun fuel hf => ((OpV.struct tok (te := te25) (by kernel_rfl) rfl (by kernel_rfl) (OpAt.cons rfl (by kernel_rfl) (OpV.slice tok (fun x : Int => .i .i64 x) (te := te22) (eu := te3) (by kernel_rfl) rfl (by kernel_rfl) (by decide) (by kernel_rfl) (.inr ⟨by kernel_rfl, rfl, fun _ => rfl⟩) (OpV.int tok (e := te3) (by kernel_rfl) rfl)) (OpAt.last rfl (by kernel_rfl) (OpV.slice tok (fun x : Int => .i .u8 x) (te := te23) (eu := te5) (by kernel_rfl) rfl (by kernel_rfl) (by decide) (by kernel_rfl) (.inr ⟨by kernel_rfl, rfl, fun _ => rfl⟩) (OpV.int tok (e := te5) (by kernel_rfl) rfl))))) : OpV TT enc Try.prog W 25 _ _ _) _ _ _ hf
  have k1 := h1
  have lt1 : ∀ x ∈ p1, x.block < W.heap.size := by obtain ⟨m, hm⟩ := k1; exact DataW.trod_lt m _ _ _ hm
  obtain ⟨cs1, rfl, sz1⟩ := okWide_struct Try.underlying25 (hval 1 25 v1 rfl rfl)
  obtain ⟨x1, ra1, rb1, _, ok1⟩ := h1.elim fun fuel hf => ((OpV.struct tok (te := te25) (by kernel_rfl) rfl (by kernel_rfl) (OpAt.cons rfl (by kernel_rfl) (OpV.slice tok (fun x : Int => .i .i64 x) (te := te22) (eu := te3) (by kernel_rfl) rfl (by kernel_rfl) (by decide) (by kernel_rfl) (.inr ⟨by kernel_rfl, rfl, fun _ => rfl⟩) (OpV.int tok (e := te3) (by kernel_rfl) rfl)) (OpAt.last rfl (by kernel_rfl) (OpV.slice tok (fun x : Int => .i .u8 x) (te := te23) (eu := te5) (by kernel_rfl) rfl (by kernel_rfl) (by decide) (by kernel_rfl) (.inr ⟨by kernel_rfl, rfl, fun _ => rfl⟩) (OpV.int tok (e := te5) (by kernel_rfl) rfl))))) : OpV TT enc Try.prog W 25 _ _ _) _ _ _ hf
  clear hA0 hval0 hsz0
  refine (law_calls (w := W) (MemChanges.pure x0 x1 ok0 ok1) (args_agg ra0 rb0 (args_agg ra1 rb1 args_nil))).mono fun e W' ⟨he, bel⟩ => ?_
  subst he
  exact ⟨_, rfl, _, _, _, [], _, [], hW', trodAll_mk1 (shut_bool Try.underlying4 _), (trodAll_cons_mk (Below.trod laidOut (by kernel_rfl) (of_decide_eq_true (by kernel_rfl)) k0 bel lt0) (trodAll_cons_mk (Below.trod laidOut (by kernel_rfl) (of_decide_eq_true (by kernel_rfl)) k1 bel lt1) trodAll_mk0)), rfl, bel.frame _, fun h => by cases h⟩
theorem over : Rows.memChangesRow.holds Try.pinned (OpenSpec.ofChange Rows.memChangesSpec) :=
  OpenClaim.holds_of_wide 13 Try.f13 rfl rfl rfl rfl rfl rfl rfl ⟨rfl, rfl, rfl, rfl, rfl⟩ rfl rfl rfl rfl rfl (by kernel_rfl) Try.func13 (by kernel_rfl)
    (of_decide_eq_true (by kernel_rfl)) (by unfold Func.isWrapper; first | (rw [if_pos (by decide +kernel)]; kernel_rfl) | (rw [if_neg (by decide +kernel)]; exact ⟨rfl, rfl⟩))
    (fun os started H enc _ => lifted os started H enc)
theorem proved : Rows.MemChangesSaid := over
end Go.Proofs.Ytmpdimigpaogkaa.memChanges
namespace Go.Proofs.Ytmpdimigpaogkaa
theorem memChanges_holds : Rows.MemChangesSaid := memChanges.proved
end Go.Proofs.Ytmpdimigpaogkaa
end
