/- Texts of this seat, merged in build order. No statement of its own. -/
import Derived.Test.YtmpdimigpaogkaaK4
set_option linter.unusedVariables false
set_option linter.unusedSimpArgs false
section
namespace Go.Proofs.Ytmpdimigpaogkaa
open Go.Ab Go.RowKit Go.Proofs.Ytmpdimigpaogkaa.G Go.Proofs.YtmpdimigpaogkaaW.PrintWords Go.Proofs.YtmpdimigpaogkaaW.PrintLast
set_option maxRecDepth 100000
set_option maxHeartbeats 4000000
noncomputable def d28 (a0_0 : List V) (a0_1 : List V) (a1_0 : List V) (a1_1 : List V) : Option (Bool) :=
  (d57 a0_0 a0_1 a1_0 a1_1).bind fun x2 =>
  if x2 = true then
    some (strCmp .eql (toBy a0_1) (toBy a1_1))
  else
    some false
noncomputable def w28_c : Code := (Try.f28.body).getD .skip
theorem w28_h : Try.f28.body = some w28_c := by kernel_rfl
theorem w28 (a0_0 : List V) (a0_1 : List V) (a1_0 : List V) (a1_1 : List V) (r : Bool) (h : d28 a0_0 a0_1 a1_0 a1_1 = some r) : Ab.Fn Try.prog TT 28 [.agg [.sl 3 a0_0, .sl 5 a0_1], .agg [.sl 3 a1_0, .sl 5 a1_1]] (.b r) [] := by
  refine fn_pure tok W0 Try.func28 (by kernel_rfl) w28_h (by kernel_rfl) ?_
  intro ar un cv mn mx pl mi cmp nt beq an scmp cat slen sbyte ssub ofB toB len gi gb gs gl sub put app ovl rep ne0 ge0 inb bnd room sroom need br call loop cut nl E R K hK
  have D := E.D
  clear E
  unfold d28 at h
  cbv
  refine R.cut' (by kernel_rfl) (by kernel_rfl) ?_
  cbv
  refine R.callD h (fun x2 hx2 h2 => ?_)
  clear h; have h := h2; clear h2
  refine R.call' (w57 _ _ _ _ _ hx2) (by (first | rfl | simp only [D.hscmp, D.htoB])) ?_
  clear hx2; cbv
  refine R.brD h (by (first | rfl | simp only [D.hscmp, D.htoB])) ?_ ?_ <;> clear h <;> intro h <;> cbv
  · have e := ret_some h; clear h
    refine hK _ _ ?_
    cbv
    try (subst e; simp only [D.hscmp, D.htoB, and_self, and_true, true_and] <;> (repeat' apply And.intro) <;> rfl)
  · have e := ret_some h; clear h
    refine hK _ _ ?_
    cbv
    try (subst e; simp only [D.hscmp, D.htoB, and_self, and_true, true_and] <;> (repeat' apply And.intro) <;> rfl)

noncomputable def d58_b1 (a0 : List V) (a1 : List V) (s4 : Int) : Option ((Int) ⊕ ((Bool) ⊕ (Unit))) :=
  if (cmpLit .lss s4 (lenI a0)) = true then
    if (Inb s4 (lenI a0)) then
      if (Inb s4 (lenI a1)) then
        if (cmpLit .neq (gI a0 s4 0) (gI a1 s4 0)) = true then
          some (.inr (.inl false))
        else
          some (.inl (arReal .add .i64 s4 1))
      else none
    else none
  else
    some (.inr (.inr ()))
noncomputable def d58 (a0 : List V) (a1 : List V) : Option (Bool) :=
  if (cmpLit .neq (lenI a0) (lenI a1)) = true then
    some false
  else
    Option.bind (α := (Unit) ⊕ (Bool)) (
      (iter (d58_b1 a0 a1) 0).bind fun y5 =>
      match y5 with
      | .inl p6 =>
        some (.inr p6)
      | .inr y5r0 =>
        some (.inl ())) fun y3 =>
    match y3 with
    | .inl p8 =>
      some true
    | .inr y3r0 =>
      some y3r0
noncomputable def w58_c : Code := (Try.f58.body).getD .skip
theorem w58_h : Try.f58.body = some w58_c := by kernel_rfl
theorem w58 (a0 : List V) (a1 : List V) (r : Bool) (h : d58 a0 a1 = some r) : Ab.Fn Try.prog TT 58 [.sl 3 a0, .sl 3 a1] (.b r) [] := by
  refine fn_pure tok (fun r => match r with | 6 => [[],[],[0,1],[0,1,2],[],[],[4,5],[4,5,6],[0,1,2,3,4,5,6,7]] | _ => []) Try.func58 (by kernel_rfl) w58_h (by kernel_rfl) ?_
  intro ar un cv mn mx pl mi cmp nt beq an scmp cat slen sbyte ssub ofB toB len gi gb gs gl sub put app ovl rep ne0 ge0 inb bnd room sroom need br call loop cut nl E R K hK
  have D := E.D
  clear E
  unfold d58 at h
  cbv
  refine R.cut' (by kernel_rfl) (by kernel_rfl) ?_
  cbv
  refine R.brD h (by (first | rfl | simp only [D.har, D.hcmp, D.hgi, D.hinb, D.hlen])) ?_ ?_ <;> clear h <;> intro h <;> cbv
  · have e := ret_some h; clear h
    refine hK _ _ ?_
    cbv
    try (subst e; simp only [D.har, D.hcmp, D.hgi, D.hinb, D.hlen, and_self, and_true, true_and] <;> (repeat' apply And.intro) <;> rfl)
  · refine R.cutB Sum.inl (fun _ _ e => Sum.inl.inj e) h [] (fun p8 => []) (fun p8 => []) (by kernel_rfl) (by kernel_rfl) (fun y3 hy hFy3 L hLy3 => ?_) (fun p8 h2 => ?_)
    · clear h; have h := hy; clear hy; cbv
      refine R.loopD h (fun s0 y5 e0 hi hFs4 => ?_)
      clear h
      refine R.loopI hi [] (fun s4 => [(13, .i .i64 s4)]) (fun s4 => []) ⟨rfl, ?_, ?_, rfl, rfl⟩ (by kernel_rfl) ?_
      · cbv; try (subst e0; simp only [D.har, D.hcmp, D.hgi, D.hinb, D.hlen, and_self, and_true, true_and] <;> (repeat' apply And.intro) <;> rfl)
      · cbv; try (subst e0; simp only [D.har, D.hcmp, D.hgi, D.hinb, D.hlen, and_self, and_true, true_and] <;> (repeat' apply And.intro) <;> rfl)
      clear hi e0
      intro s4 m y' hy hins4 houts4 L hLs4
      have h := hy; clear hy; unfold d58_b1 at h
      cbv
      refine R.cut' (by kernel_rfl) (by kernel_rfl) ?_
      cbv
      refine R.brD h (by (first | rfl | simp only [D.har, D.hcmp, D.hgi, D.hinb, D.hlen])) ?_ ?_ <;> clear h <;> intro h <;> cbv
      · refine R.cut' (by kernel_rfl) (by kernel_rfl) ?_
        cbv
        refine R.needD h (by (first | rfl | simp only [D.har, D.hcmp, D.hgi, D.hinb, D.hlen])) ?_
        clear h; intro h; cbv
        refine R.needD h (by (first | rfl | simp only [D.har, D.hcmp, D.hgi, D.hinb, D.hlen])) ?_
        clear h; intro h; cbv
        refine R.brD h (by (first | rfl | simp only [D.har, D.hcmp, D.hgi, D.hinb, D.hlen])) ?_ ?_ <;> clear h <;> intro h <;> cbv
        · have e := inr_some h houts4; clear h
          have h := hFs4; rw [e] at h; clear e; try dsimp only at h
          cbv
          have e := ret_some h; clear h
          have h := hFy3; rw [e] at h; clear e; try dsimp only at h
          cbv
          have e := ret_some h; clear h
          refine hK _ _ ?_
          cbv
          try (subst e; simp only [D.har, D.hcmp, D.hgi, D.hinb, D.hlen, and_self, and_true, true_and] <;> (repeat' apply And.intro) <;> rfl)
        · obtain ⟨s', e, hi⟩ := inl_some h hins4
          refine hLs4 s' _ _ hi ⟨rfl, ?_, ?_, rfl, rfl⟩ <;> cbv <;> (try (subst e; simp only [D.har, D.hcmp, D.hgi, D.hinb, D.hlen, and_self, and_true, true_and] <;> (repeat' apply And.intro) <;> rfl))
      · have e := inr_some h houts4; clear h
        have h := hFs4; rw [e] at h; clear e; try dsimp only at h
        cbv
        obtain ⟨s', e, hi⟩ := jn_some Sum.inl h
        refine hLy3 s' _ _ hi ⟨rfl, ?_, ?_, rfl, rfl⟩ <;> cbv <;> (try (subst e; simp only [D.har, D.hcmp, D.hgi, D.hinb, D.hlen, and_self, and_true, true_and] <;> (repeat' apply And.intro) <;> rfl))
    · clear h; have h := h2; clear h2; try dsimp only at h
      cbv
      have e := ret_some h; clear h
      refine hK _ _ ?_
      cbv
      try (subst e; simp only [D.har, D.hcmp, D.hgi, D.hinb, D.hlen, and_self, and_true, true_and] <;> (repeat' apply And.intro) <;> rfl)

noncomputable def d59_b1 (a0 : List V) (a1 : List V) (s4 : Int) : Option ((Int) ⊕ ((Bool) ⊕ (Unit))) :=
  if (cmpLit .lss s4 (lenI a0)) = true then
    if (Inb s4 (lenI a0)) then
      if (Inb s4 (lenI a1)) then
        if (cmpLit .neq (gI a0 s4 0) (gI a1 s4 0)) = true then
          some (.inr (.inl false))
        else
          some (.inl (arReal .add .i64 s4 1))
      else none
    else none
  else
    some (.inr (.inr ()))
noncomputable def d59 (a0 : List V) (a1 : List V) : Option (Bool) :=
  if (cmpLit .neq (lenI a0) (lenI a1)) = true then
    some false
  else
    Option.bind (α := (Unit) ⊕ (Bool)) (
      (iter (d59_b1 a0 a1) 0).bind fun y5 =>
      match y5 with
      | .inl p6 =>
        some (.inr p6)
      | .inr y5r0 =>
        some (.inl ())) fun y3 =>
    match y3 with
    | .inl p8 =>
      some true
    | .inr y3r0 =>
      some y3r0
noncomputable def w59_c : Code := (Try.f59.body).getD .skip
theorem w59_h : Try.f59.body = some w59_c := by kernel_rfl
theorem w59 (a0 : List V) (a1 : List V) (r : Bool) (h : d59 a0 a1 = some r) : Ab.Fn Try.prog TT 59 [.sl 5 a0, .sl 5 a1] (.b r) [] := by
  refine fn_pure tok (fun r => match r with | 6 => [[],[],[0,1],[0,1,2],[],[],[4,5],[4,5,6],[0,1,2,3,4,5,6,7]] | _ => []) Try.func59 (by kernel_rfl) w59_h (by kernel_rfl) ?_
  intro ar un cv mn mx pl mi cmp nt beq an scmp cat slen sbyte ssub ofB toB len gi gb gs gl sub put app ovl rep ne0 ge0 inb bnd room sroom need br call loop cut nl E R K hK
  have D := E.D
  clear E
  unfold d59 at h
  cbv
  refine R.cut' (by kernel_rfl) (by kernel_rfl) ?_
  cbv
  refine R.brD h (by (first | rfl | simp only [D.har, D.hcmp, D.hgi, D.hinb, D.hlen])) ?_ ?_ <;> clear h <;> intro h <;> cbv
  · have e := ret_some h; clear h
    refine hK _ _ ?_
    cbv
    try (subst e; simp only [D.har, D.hcmp, D.hgi, D.hinb, D.hlen, and_self, and_true, true_and] <;> (repeat' apply And.intro) <;> rfl)
  · refine R.cutB Sum.inl (fun _ _ e => Sum.inl.inj e) h [] (fun p8 => []) (fun p8 => []) (by kernel_rfl) (by kernel_rfl) (fun y3 hy hFy3 L hLy3 => ?_) (fun p8 h2 => ?_)
    · clear h; have h := hy; clear hy; cbv
      refine R.loopD h (fun s0 y5 e0 hi hFs4 => ?_)
      clear h
      refine R.loopI hi [] (fun s4 => [(13, .i .i64 s4)]) (fun s4 => []) ⟨rfl, ?_, ?_, rfl, rfl⟩ (by kernel_rfl) ?_
      · cbv; try (subst e0; simp only [D.har, D.hcmp, D.hgi, D.hinb, D.hlen, and_self, and_true, true_and] <;> (repeat' apply And.intro) <;> rfl)
      · cbv; try (subst e0; simp only [D.har, D.hcmp, D.hgi, D.hinb, D.hlen, and_self, and_true, true_and] <;> (repeat' apply And.intro) <;> rfl)
      clear hi e0
      intro s4 m y' hy hins4 houts4 L hLs4
      have h := hy; clear hy; unfold d59_b1 at h
      cbv
      refine R.cut' (by kernel_rfl) (by kernel_rfl) ?_
      cbv
      refine R.brD h (by (first | rfl | simp only [D.har, D.hcmp, D.hgi, D.hinb, D.hlen])) ?_ ?_ <;> clear h <;> intro h <;> cbv
      · refine R.cut' (by kernel_rfl) (by kernel_rfl) ?_
        cbv
        refine R.needD h (by (first | rfl | simp only [D.har, D.hcmp, D.hgi, D.hinb, D.hlen])) ?_
        clear h; intro h; cbv
        refine R.needD h (by (first | rfl | simp only [D.har, D.hcmp, D.hgi, D.hinb, D.hlen])) ?_
        clear h; intro h; cbv
        refine R.brD h (by (first | rfl | simp only [D.har, D.hcmp, D.hgi, D.hinb, D.hlen])) ?_ ?_ <;> clear h <;> intro h <;> cbv
        · have e := inr_some h houts4; clear h
          have h := hFs4; rw [e] at h; clear e; try dsimp only at h
          cbv
          have e := ret_some h; clear h
          have h := hFy3; rw [e] at h; clear e; try dsimp only at h
          cbv
          have e := ret_some h; clear h
          refine hK _ _ ?_
          cbv
          try (subst e; simp only [D.har, D.hcmp, D.hgi, D.hinb, D.hlen, and_self, and_true, true_and] <;> (repeat' apply And.intro) <;> rfl)
        · obtain ⟨s', e, hi⟩ := inl_some h hins4
          refine hLs4 s' _ _ hi ⟨rfl, ?_, ?_, rfl, rfl⟩ <;> cbv <;> (try (subst e; simp only [D.har, D.hcmp, D.hgi, D.hinb, D.hlen, and_self, and_true, true_and] <;> (repeat' apply And.intro) <;> rfl))
      · have e := inr_some h houts4; clear h
        have h := hFs4; rw [e] at h; clear e; try dsimp only at h
        cbv
        obtain ⟨s', e, hi⟩ := jn_some Sum.inl h
        refine hLy3 s' _ _ hi ⟨rfl, ?_, ?_, rfl, rfl⟩ <;> cbv <;> (try (subst e; simp only [D.har, D.hcmp, D.hgi, D.hinb, D.hlen, and_self, and_true, true_and] <;> (repeat' apply And.intro) <;> rfl))
    · clear h; have h := h2; clear h2; try dsimp only at h
      cbv
      have e := ret_some h; clear h
      refine hK _ _ ?_
      cbv
      try (subst e; simp only [D.har, D.hcmp, D.hgi, D.hinb, D.hlen, and_self, and_true, true_and] <;> (repeat' apply And.intro) <;> rfl)

noncomputable def d29 (a0_0 : List V) (a0_1 : List V) (a1_0 : List V) (a1_1 : List V) : Option (Bool) :=
  (d58 a0_0 a1_0).bind fun x3 =>
  if x3 = true then
    (d59 a0_1 a1_1).bind fun x4 =>
    some x4
  else
    some false
noncomputable def w29_c : Code := (Try.f29.body).getD .skip
theorem w29_h : Try.f29.body = some w29_c := by kernel_rfl
theorem w29 (a0_0 : List V) (a0_1 : List V) (a1_0 : List V) (a1_1 : List V) (r : Bool) (h : d29 a0_0 a0_1 a1_0 a1_1 = some r) : Ab.Fn Try.prog TT 29 [.agg [.sl 3 a0_0, .sl 5 a0_1], .agg [.sl 3 a1_0, .sl 5 a1_1]] (.b r) [] := by
  refine fn_pure tok W0 Try.func29 (by kernel_rfl) w29_h (by kernel_rfl) ?_
  intro ar un cv mn mx pl mi cmp nt beq an scmp cat slen sbyte ssub ofB toB len gi gb gs gl sub put app ovl rep ne0 ge0 inb bnd room sroom need br call loop cut nl E R K hK
  have D := E.D
  clear E
  unfold d29 at h
  cbv
  refine R.cut' (by kernel_rfl) (by kernel_rfl) ?_
  cbv
  refine R.callD h (fun x3 hx3 h2 => ?_)
  clear h; have h := h2; clear h2
  refine R.call' (w58 _ _ _ hx3) (by rfl) ?_
  clear hx3; cbv
  refine R.brD h (by rfl) ?_ ?_ <;> clear h <;> intro h <;> cbv
  · refine R.callD h (fun x4 hx4 h2 => ?_)
    clear h; have h := h2; clear h2
    refine R.call' (w59 _ _ _ hx4) (by rfl) ?_
    clear hx4; cbv
    have e := ret_some h; clear h
    refine hK _ _ ?_
    cbv
    try (subst e; simp only [and_self, and_true, true_and] <;> (repeat' apply And.intro) <;> rfl)
  · have e := ret_some h; clear h
    refine hK _ _ ?_
    cbv
    try (subst e; simp only [and_self, and_true, true_and] <;> (repeat' apply And.intro) <;> rfl)

noncomputable def d30 (a0_0 : Int) (a0_1 : Bool) : Option (Int) :=
  Option.bind (α := Bool) (
    if (cmpLit .neq a0_0 1) = true then
      if (cmpLit .neq a0_0 2) = true then
        if (cmpLit .neq a0_0 4) = true then
          some (cmpLit .neq a0_0 8)
        else
          some false
      else
        some false
    else
      some false) fun y3 =>
  if y3 = true then
    some 10
  else
    some 0
noncomputable def w30_c : Code := (Try.f30.body).getD .skip
theorem w30_h : Try.f30.body = some w30_c := by kernel_rfl
theorem w30 (a0_0 : Int) (a0_1 : Bool) (r : Int) (h : d30 a0_0 a0_1 = some r) : Ab.Fn Try.prog TT 30 [.agg [.i .i64 a0_0, .b a0_1]] (.i .i64 r) [] := by
  refine fn_pure tok W0 Try.func30 (by kernel_rfl) w30_h (by kernel_rfl) ?_
  intro ar un cv mn mx pl mi cmp nt beq an scmp cat slen sbyte ssub ofB toB len gi gb gs gl sub put app ovl rep ne0 ge0 inb bnd room sroom need br call loop cut nl E R K hK
  have D := E.D
  clear E
  unfold d30 at h
  cbv
  refine R.cut' (by kernel_rfl) (by kernel_rfl) ?_
  cbv
  refine R.cutB (fun p => p) (fun _ _ e => e) h [] (fun p4 => [(20, .b p4)]) (fun p4 => []) (by kernel_rfl) (by kernel_rfl) (fun y3 hy hFy3 L hLy3 => ?_) (fun p4 h2 => ?_)
  · clear h; have h := hy; clear hy; cbv
    refine R.brD h (by (first | rfl | simp only [D.hcmp])) ?_ ?_ <;> clear h <;> intro h <;> cbv
    · refine R.brD h (by (first | rfl | simp only [D.hcmp])) ?_ ?_ <;> clear h <;> intro h <;> cbv
      · refine R.brD h (by (first | rfl | simp only [D.hcmp])) ?_ ?_ <;> clear h <;> intro h <;> cbv
        · obtain ⟨s', e, hi⟩ := jn_some (fun p => p) h
          refine hLy3 s' _ _ hi ⟨rfl, ?_, ?_, rfl, rfl⟩ <;> cbv <;> (try (subst e; simp only [D.hcmp, and_self, and_true, true_and] <;> (repeat' apply And.intro) <;> rfl))
        · obtain ⟨s', e, hi⟩ := jn_some (fun p => p) h
          refine hLy3 s' _ _ hi ⟨rfl, ?_, ?_, rfl, rfl⟩ <;> cbv <;> (try (subst e; simp only [D.hcmp, and_self, and_true, true_and] <;> (repeat' apply And.intro) <;> rfl))
      · obtain ⟨s', e, hi⟩ := jn_some (fun p => p) h
        refine hLy3 s' _ _ hi ⟨rfl, ?_, ?_, rfl, rfl⟩ <;> cbv <;> (try (subst e; simp only [D.hcmp, and_self, and_true, true_and] <;> (repeat' apply And.intro) <;> rfl))
    · obtain ⟨s', e, hi⟩ := jn_some (fun p => p) h
      refine hLy3 s' _ _ hi ⟨rfl, ?_, ?_, rfl, rfl⟩ <;> cbv <;> (try (subst e; simp only [D.hcmp, and_self, and_true, true_and] <;> (repeat' apply And.intro) <;> rfl))
  · clear h; have h := h2; clear h2; try dsimp only at h
    cbv
    refine R.brD h (by (first | rfl | simp only [D.hcmp])) ?_ ?_ <;> clear h <;> intro h <;> cbv
    · have e := ret_some h; clear h
      refine hK _ _ ?_
      cbv
      try (subst e; simp only [D.hcmp, and_self, and_true, true_and] <;> (repeat' apply And.intro) <;> rfl)
    · have e := ret_some h; clear h
      refine hK _ _ ?_
      cbv
      try (subst e; simp only [D.hcmp, and_self, and_true, true_and] <;> (repeat' apply And.intro) <;> rfl)
end Go.Proofs.Ytmpdimigpaogkaa
end
section
namespace Go.Proofs.Ytmpdimigpaogkaa
open Go.Ab Go.RowKit Go.Proofs.Ytmpdimigpaogkaa.G Go.Proofs.YtmpdimigpaogkaaW.PrintWords Go.Proofs.YtmpdimigpaogkaaW.PrintLast
theorem s55 (a : Int) : d55 a = some (permOk a) := by
  unfold d55 permOk; simp only [c_eql]
  by_cases h0 : a = 0 <;> by_cases h1 : a = 1 <;> by_cases h3 : a = 3 <;> by_cases h4 : a = 4 <;> simp [*]
theorem it27 (P : List Int) (h : ln P ≤ 32) : iter (d27_b1 (ints P)) 0 = some (if P.all permOk = true then .inr () else .inl 30) := by
  refine iter_fun (fun s => 0 ≤ s ∧ s ≤ ln P ∧ ∀ j : Nat, (j : Int) < s → permOk (rdI P j) = true) (fun s => (ln P - s).toNat) (fun _ => (if P.all permOk = true then Sum.inr () else Sum.inl 30 : Int ⊕ Unit)) (fun s hs => ?_) 0 ⟨by omega, ln_nn P, fun j hj => by omega⟩
  obtain ⟨h0, h1, h2⟩ := hs
  unfold d27_b1
  simp only [c_lss, lenI_ints, gI_ints, decide_eq_true_eq, s55, Option.bind_some]
  by_cases hlt : s < ln P
  · rw [if_pos hlt, if_pos (show Inb s (ln P) from ⟨h0, hlt⟩)]
    by_cases hp : permOk (rdI P s) = true
    · refine .inl ⟨s + 1, ?_, ⟨by omega, by omega, fun j hj => ?_⟩, by omega, trivial⟩
      · rw [a_add (by omega) (by omega), hp, if_neg (by simp [notB'])]
      · by_cases e : (j : Int) = s
        · rw [e]; exact hp
        · exact h2 j (by omega)
    · refine .inr ?_
      have hp : permOk (rdI P s) = false := by simpa using hp
      have : ¬ P.all permOk = true := fun ha => by
        have hl : s.toNat < P.length := by unfold ln at hlt; omega
        have := List.all_eq_true.1 ha (P[s.toNat]) (List.getElem_mem hl)
        rw [← rdI_lt hl, Int.toNat_of_nonneg h0, hp] at this
        cases this
      rw [if_neg this, hp, if_pos (by simp [notB'])]
  · refine .inr ?_
    rw [if_neg hlt]
    have : P.all permOk = true := List.all_eq_true.2 fun x hx => by
      obtain ⟨j, hj, rfl⟩ := List.getElem_of_mem hx
      rw [← rdI_lt hj]
      exact h2 j (by unfold ln at hlt; omega)
    rw [if_pos this]
theorem s27 (P B : List Int) : d27 (ints P) (u8s B) = some (checkV P B) := by
  unfold d27 checkV
  simp only [c_gtr, c_neq, lenI_ints, lenI_u8s, decide_eq_true_eq]
  by_cases h1 : 32 < ln P
  · rw [if_pos h1, if_neg (fun h => by unfold ln at h1; omega)]
  · rw [if_neg h1, a_mul (by have := ln_nn P; omega) (by omega)]
    by_cases h2 : ln B = ln P * 64
    · rw [if_neg (not_not_intro h2), it27 P (by omega)]
      by_cases h3 : P.all permOk = true
      · rw [if_pos h3, if_pos ⟨by unfold ln at h1; omega, by unfold ln at h2; omega, h3⟩]; rfl
      · rw [if_neg h3, if_neg (fun h => h3 h.2.2)]; rfl
    · rw [if_pos h2, if_neg (fun h => h2 (by unfold ln; omega))]
theorem s56 {P B : List Int} (h1 : ln P ≤ 17592186044416) (h2 : ln B ≤ 140737488355328) : d56 (ints P) (u8s B) = some (ints P, u8s B) := by
  unfold d56
  rw [lenI_ints, lenI_u8s, if_pos (room_8 h1), if_pos (room_1 h2)]
theorem s56c {P B : List Int} (h : checkV P B = 0) : d56 (ints P) (u8s B) = some (ints P, u8s B) := by
  obtain ⟨h1, h2, _⟩ := check_to h
  exact s56 (by omega) (by omega)
/-- Two lists held against each other, place by place. -/
theorem itEq (es fs : List V) (P Q : List Int) (he : lenI es = ln P) (hf : lenI fs = ln Q) (ge : ∀ i, gI es i 0 = rdI P i) (gf : ∀ i, gI fs i 0 = rdI Q i) (hl : ln P = ln Q) (hm : ln P ≤ 9223372036854775807) :
    iter (d58_b1 es fs) 0 = some (if P = Q then .inr () else .inl false) := by
  refine iter_fun (fun s => 0 ≤ s ∧ s ≤ ln P ∧ ∀ j, 0 ≤ j → j < s → rdI P j = rdI Q j) (fun s => (ln P - s).toNat) (fun _ => (if P = Q then Sum.inr () else Sum.inl false : Bool ⊕ Unit)) (fun s hs => ?_) 0 ⟨by omega, ln_nn P, fun j hj => by omega⟩
  obtain ⟨h0, h1, h2⟩ := hs
  unfold d58_b1
  simp only [c_lss, c_neq, he, hf, ge, gf, decide_eq_true_eq]
  by_cases hlt : s < ln P
  · rw [if_pos hlt, if_pos (show Inb s (ln P) from ⟨h0, hlt⟩), if_pos (show Inb s (ln Q) from ⟨h0, by omega⟩), a_add (by omega) (by omega)]
    by_cases hp : rdI P s = rdI Q s
    · refine .inl ⟨s + 1, by rw [if_neg (not_not_intro hp)], ⟨by omega, by omega, fun j j0 hj => ?_⟩, by omega, trivial⟩
      by_cases e : j = s
      · rw [e]; exact hp
      · exact h2 j j0 (by omega)
    · refine .inr ?_
      rw [if_pos hp, if_neg (fun e => hp (by rw [e]))]
  · refine .inr ?_
    rw [if_neg hlt, if_pos (eq_of_rd hl (fun j j0 j1 => h2 j j0 (by omega)))]
theorem sEq {es fs : List V} {P Q : List Int} (he : lenI es = ln P) (hf : lenI fs = ln Q) (ge : ∀ i, gI es i 0 = rdI P i) (gf : ∀ i, gI fs i 0 = rdI Q i) (hm : ln P ≤ 9223372036854775807) : d58 es fs = some (decide (P = Q)) := by
  unfold d58
  simp only [c_neq, he, hf, decide_eq_true_eq]
  by_cases hl : ln P = ln Q
  · rw [if_neg (not_not_intro hl), itEq es fs P Q he hf ge gf hl hm]
    by_cases h : P = Q
    · rw [if_pos h, decide_eq_true h]; rfl
    · rw [if_neg h, decide_eq_false h]; rfl
  · rw [if_pos hl, decide_eq_false (fun h => hl (by rw [h]))]
theorem s58 (P Q : List Int) (hm : ln P ≤ 9223372036854775807) : d58 (ints P) (ints Q) = some (decide (P = Q)) := sEq (lenI_ints P) (lenI_ints Q) (gI_ints P) (gI_ints Q) hm
theorem e59d : d59 = d58 := rfl
theorem s59 (P Q : List Int) (hm : ln P ≤ 9223372036854775807) : d59 (u8s P) (u8s Q) = some (decide (P = Q)) := by
  rw [e59d]; exact sEq (lenI_u8s P) (lenI_u8s Q) (gI_u8s P) (gI_u8s Q) hm
theorem s57 (P Q : List Int) (B C : List V) (hm : ln P ≤ 9223372036854775807) : d57 (ints P) B (ints Q) C = some (decide (P = Q)) := s58 P Q hm
theorem s29 (P B Q C : List Int) (hm : ln P ≤ 9223372036854775807) (hm2 : ln B ≤ 9223372036854775807) : d29 (ints P) (u8s B) (ints Q) (u8s C) = some (decide (P = Q ∧ B = C)) := by
  unfold d29
  rw [s58 P Q hm, Option.bind_some]
  by_cases h : P = Q
  · rw [decide_eq_true h, if_pos rfl, s59 B C hm2, Option.bind_some]; simp [h]
  · rw [decide_eq_false h, if_neg (by simp)]; simp [h]
theorem s28 (P B Q C : List Int) (hm : ln P ≤ 9223372036854775807) (hB : Bytes B) (hC : Bytes C) : d28 (ints P) (u8s B) (ints Q) (u8s C) = some (decide (P = Q ∧ B = C)) := by
  unfold d28
  rw [s57 P Q _ _ hm, Option.bind_some, toBy_eq hB hC]
  by_cases h : P = Q <;> simp [h]
theorem s30 (a : Int) (b : Bool) : d30 a b = some (if tyOk a = true then 0 else 10) := by
  unfold d30 tyOk; simp only [c_neq]
  by_cases h0 : a = 1 <;> by_cases h1 : a = 2 <;> by_cases h3 : a = 4 <;> by_cases h4 : a = 8 <;> simp [*]
theorem s26 (P B : List Int) (page : Int) : d26 (ints P) (u8s B) page = some (if checkV P B ≠ 0 then ([], [], 0, 0, 30) else
    if 0 ≤ page ∧ page < ln P then (ints (P.set page.toNat 4), u8s B, 0, 0, 0) else ([], [], 0, 0, 31)) := by
  unfold d26
  rw [s27, Option.bind_some]
  simp only [c_neq, c_lss, c_geq, lenI_ints, decide_eq_true_eq]
  by_cases hc : checkV P B = 0
  · rw [if_neg (not_not_intro hc), if_neg (not_not_intro hc), s56c hc]
    simp only [Option.bind_some, lenI_ints]
    have e : putL (ints P) page 0 [.i .i64 4] = ints (P.set page.toNat 4) := set_nums P page.toNat 4
    rw [e]
    by_cases h0 : 0 ≤ page
    · by_cases h1 : page < ln P
      · rw [if_pos (show Inb page (ln P) from ⟨h0, h1⟩), if_neg (by omega), if_neg (by omega), if_pos ⟨h0, h1⟩]
      · rw [if_neg (by omega), if_pos (by omega), if_neg (fun h => h1 h.2)]
    · rw [if_pos (by omega), if_neg (fun h => h0 h.1)]
  · rw [if_pos hc, if_pos hc]
theorem s25 (P B : List Int) (page perm : Int) : d25 (ints P) (u8s B) page perm = some (if checkV P B ≠ 0 then ([], [], 0, 0, 30) else
    if 0 ≤ page ∧ page < ln P ∧ rdI P page ≠ 4 ∧ (perm = 0 ∨ perm = 1 ∨ perm = 3) then (ints (P.set page.toNat perm), u8s B, 0, 0, 0) else ([], [], 0, 0, 31)) := by
  unfold d25
  rw [s27, Option.bind_some]
  simp only [c_neq, c_eql, c_lss, c_geq, lenI_ints, gI_ints, decide_eq_true_eq, s55, Option.bind_some]
  by_cases hc : checkV P B = 0
  · rw [if_neg (not_not_intro hc), if_neg (not_not_intro hc), s56c hc]
    simp only [Option.bind_some, lenI_ints]
    have e : putL (ints P) page 0 [.i .i64 perm] = ints (P.set page.toNat perm) := set_nums P page.toNat perm
    rw [e]
    by_cases h0 : 0 ≤ page
    · by_cases h1 : page < ln P
      · have hi : Inb page (ln P) := ⟨h0, h1⟩
        have hn : ¬ page < 0 := by omega
        have hm : ¬ ln P ≤ page := by omega
        rw [if_neg hn, if_neg hm, if_pos hi, if_pos hi]
        by_cases h4 : rdI P page = 4
        · simp [h4]
        · by_cases p0 : perm = 0
          · subst p0; simp [h0, h1, h4, notB', permOk]
          · by_cases p1 : perm = 1
            · subst p1; simp [h0, h1, h4, notB', permOk]
            · by_cases p3 : perm = 3
              · subst p3; simp [h0, h1, h4, notB', permOk]
              · by_cases p4 : perm = 4
                · subst p4; simp [h0, h1, h4, notB', permOk]
                · simp [h0, h1, h4, notB', permOk, p0, p1, p3, p4]
      · rw [if_neg (by omega), if_pos (by omega), Option.bind_some, if_pos rfl, if_neg (fun h => h1 h.2.1)]
    · rw [if_pos (by omega), Option.bind_some, if_pos rfl, if_neg (fun h => h0 h.1)]
  · rw [if_pos hc, if_pos hc]
theorem it24 (n : Int) (h0 : 0 ≤ n) (h : n ≤ 32) : iter (d24_b1 n) (0, [], []) = some (ints (List.replicate n.toNat 0), u8s (List.replicate (64 * n).toNat 0)) := by
  refine iter_fun (fun s => 0 ≤ s.1 ∧ s.1 ≤ n ∧ s.2.1 = ints (List.replicate s.1.toNat 0) ∧ s.2.2 = u8s (List.replicate (64 * s.1).toNat 0)) (fun s => (n - s.1).toNat) (fun _ => (ints (List.replicate n.toNat 0), u8s (List.replicate (64 * n).toNat 0))) (fun s hs => ?_) (0, [], []) ⟨by simp, h0, rfl, rfl⟩
  obtain ⟨i, A, B⟩ := s
  obtain ⟨h1, h2, h3, h4⟩ := hs
  simp only at h1 h2 h3 h4
  subst h3; subst h4
  unfold d24_b1
  simp only [c_lss, decide_eq_true_eq]
  have eA : appL (ints (List.replicate i.toNat 0)) [V.i .i64 0] = ints (List.replicate (i + 1).toNat 0) := by
    rw [show (i + 1).toNat = i.toNat + 1 from by omega, List.replicate_succ']; simp [appL, ints]
  have eB : appL (u8s (List.replicate (64 * i).toNat 0)) (repL 64 (V.i .u8 0)) = u8s (List.replicate (64 * (i + 1)).toNat 0) := by
    rw [show (64 * (i + 1)).toNat = (64 * i).toNat + 64 from by omega, ← List.replicate_append_replicate]; simp [appL, u8s, repL]
  by_cases hlt : i < n
  · rw [if_pos hlt, eA, eB, lenI_ints, lenI_u8s]
    have l1 : ln (List.replicate (i + 1).toNat (0 : Int)) = i + 1 := by simp [ln]; omega
    have l2 : ln (List.replicate (64 * (i + 1)).toNat (0 : Int)) = 64 * (i + 1) := by simp [ln]; omega
    rw [l1, l2, if_pos (room_8 (by omega)), if_pos (show Ge0 64 by unfold Ge0; omega), if_pos (room_1 (by omega)), if_pos (room_1 (by omega)), a_add (by omega) (by omega)]
    refine .inl ⟨_, rfl, ⟨?_, ?_, rfl, rfl⟩, ?_, trivial⟩
    · simp only; omega
    · simp only; omega
    · simp only; omega
  · rw [if_neg hlt]
    refine .inr ?_
    have : i = n := by omega
    subst this; rfl
theorem s24 (n : Int) : d24 n = some (if n < 0 ∨ 32 < n then ([], [], 0, 0, 1) else (ints (List.replicate n.toNat 0), u8s (List.replicate (64 * n).toNat 0), 0, 0, 0)) := by
  unfold d24
  simp only [c_lss, c_gtr, decide_eq_true_eq]
  by_cases h0 : n < 0
  · rw [if_pos h0, if_pos (.inl h0)]
  · by_cases h1 : 32 < n
    · rw [if_neg h0, if_pos h1, if_pos (.inr h1)]
    · rw [if_neg h0, if_neg h1, if_neg (show ¬ (n < 0 ∨ 32 < n) by omega), it24 n (by omega) (by omega)]; rfl
end Go.Proofs.Ytmpdimigpaogkaa
end
section
namespace Go.Proofs.Ytmpdimigpaogkaa
open Go.Ab Go.RowKit Go.Proofs.Ytmpdimigpaogkaa.G Go.Proofs.YtmpdimigpaogkaaW.PrintWords Go.Proofs.YtmpdimigpaogkaaW.PrintLast
set_option maxRecDepth 100000
set_option maxHeartbeats 4000000
noncomputable def d32 (a0_0 : List V) (a0_1 : List V) (a1 : Int) (a2 : List V) : Option (List V × List V × Int × Int × Int) :=
  (d18 a0_0 a0_1).bind fun x2 =>
  if (cmpLit .neq x2 0) = true then
    some ([], [], 0, 0, x2)
  else
    if (cmpLit .gtr (lenI a2) 2048) = true then
      some ([], [], 0, 0, 2)
    else
      (d47 a0_0 a0_1 a1 (lenI a2) 0).bind fun x4 =>
      if (cmpLit .neq x4.1 0) = true then
        some ([], [], x4.1, x4.2, 0)
      else
        (d52 a0_0 a0_1).bind fun x5 =>
        if (cmpLit .gtr (lenI a2) 0) = true then
          if (Bnd a1 (lenI x5.2) (lenI x5.2)) then
            some (x5.1, (ovlReal x5.2 a1 (subL a2 0 (mnI (lenI a2) (miI (lenI x5.2) a1)))), 0, 0, 0)
          else none
        else
          some (x5.1, x5.2, 0, 0, 0)
noncomputable def w32_c : Code := (Try.f32.body).getD .skip
theorem w32_h : Try.f32.body = some w32_c := by kernel_rfl
theorem w32 (a0_0 : List V) (a0_1 : List V) (a1 : Int) (a2 : List V) (r : List V × List V × Int × Int × Int) (h : d32 a0_0 a0_1 a1 a2 = some r) : Ab.Fn Try.prog TT 32 [.agg [.sl 3 a0_0, .sl 5 a0_1], .i .i64 a1, .sl 5 a2] (.tup [.agg [.row 0, .row 1], .agg [.i .i64 r.2.2.1, .i .i64 r.2.2.2.1], .i .i64 r.2.2.2.2]) [(0, .row 3 r.1), (1, .row 5 r.2.1)] := by
  refine fn_own tok (fun r => match r with | 8 => [[],[],[0],[0,1,2],[0,1,2,3]] | _ => []) Try.func32 (by kernel_rfl) w32_h (by kernel_rfl) ?_
  intro ar un cv mn mx pl mi cmp nt beq an scmp cat slen sbyte ssub ofB toB len gi gb gs gl sub put app ovl rep ne0 ge0 inb bnd room sroom need br call loop cut nl E R K hK
  have D := E.D
  clear E
  unfold d32 at h
  cbv
  refine R.cut' (by kernel_rfl) (by kernel_rfl) ?_
  cbv
  refine R.callD h (fun x2 hx2 h2 => ?_)
  clear h; have h := h2; clear h2
  refine R.call' (w18 _ _ _ hx2) (by (first | rfl | simp only [D.hbnd, D.hcmp, D.hlen, D.hmi, D.hmn, D.hovl, D.hsub])) ?_
  clear hx2; cbv
  refine R.brD h (by (first | rfl | simp only [D.hbnd, D.hcmp, D.hlen, D.hmi, D.hmn, D.hovl, D.hsub])) ?_ ?_ <;> clear h <;> intro h <;> cbv
  · have e := ret_some h; clear h
    refine hK _ _ ⟨rfl, ⟨?_, rfl, rfl, rfl, ?_⟩⟩ <;> cbv <;> (try (subst e; simp only [D.hbnd, D.hcmp, D.hlen, D.hmi, D.hmn, D.hovl, D.hsub, and_self, and_true, true_and] <;> (repeat' apply And.intro) <;> rfl))
  · refine R.cut' (by kernel_rfl) (by kernel_rfl) ?_
    cbv
    refine R.brD h (by (first | rfl | simp only [D.hbnd, D.hcmp, D.hlen, D.hmi, D.hmn, D.hovl, D.hsub])) ?_ ?_ <;> clear h <;> intro h <;> cbv
    · have e := ret_some h; clear h
      refine hK _ _ ⟨rfl, ⟨?_, rfl, rfl, rfl, ?_⟩⟩ <;> cbv <;> (try (subst e; simp only [D.hbnd, D.hcmp, D.hlen, D.hmi, D.hmn, D.hovl, D.hsub, and_self, and_true, true_and] <;> (repeat' apply And.intro) <;> rfl))
    · refine R.cut' (by kernel_rfl) (by kernel_rfl) ?_
      cbv
      refine R.callD h (fun x4 hx4 h2 => ?_)
      clear h; have h := h2; clear h2
      refine R.call' (w47 _ _ _ _ _ _ hx4) (by (first | rfl | simp only [D.hbnd, D.hcmp, D.hlen, D.hmi, D.hmn, D.hovl, D.hsub])) ?_
      clear hx4; cbv
      refine R.brD h (by (first | rfl | simp only [D.hbnd, D.hcmp, D.hlen, D.hmi, D.hmn, D.hovl, D.hsub])) ?_ ?_ <;> clear h <;> intro h <;> cbv
      · have e := ret_some h; clear h
        refine hK _ _ ⟨rfl, ⟨?_, rfl, rfl, rfl, ?_⟩⟩ <;> cbv <;> (try (subst e; simp only [D.hbnd, D.hcmp, D.hlen, D.hmi, D.hmn, D.hovl, D.hsub, and_self, and_true, true_and] <;> (repeat' apply And.intro) <;> rfl))
      · refine R.callD h (fun x5 hx5 h2 => ?_)
        clear h; have h := h2; clear h2
        refine R.call' (w52 _ _ _ hx5) (by (first | rfl | simp only [D.hbnd, D.hcmp, D.hlen, D.hmi, D.hmn, D.hovl, D.hsub])) ?_
        clear hx5; cbv
        refine R.cut' (by kernel_rfl) (by kernel_rfl) ?_
        cbv
        refine R.brD h (by (first | rfl | simp only [D.hbnd, D.hcmp, D.hlen, D.hmi, D.hmn, D.hovl, D.hsub])) ?_ ?_ <;> clear h <;> intro h <;> cbv
        · refine R.needD h (by (first | rfl | simp only [D.hbnd, D.hcmp, D.hlen, D.hmi, D.hmn, D.hovl, D.hsub])) ?_
          clear h; intro h; cbv
          have e := ret_some h; clear h
          refine hK _ _ ⟨rfl, ⟨?_, rfl, rfl, rfl, ?_⟩⟩ <;> cbv <;> (try (subst e; simp only [D.hbnd, D.hcmp, D.hlen, D.hmi, D.hmn, D.hovl, D.hsub, and_self, and_true, true_and] <;> (repeat' apply And.intro) <;> rfl))
        · have e := ret_some h; clear h
          refine hK _ _ ⟨rfl, ⟨?_, rfl, rfl, rfl, ?_⟩⟩ <;> cbv <;> (try (subst e; simp only [D.hbnd, D.hcmp, D.hlen, D.hmi, D.hmn, D.hovl, D.hsub, and_self, and_true, true_and] <;> (repeat' apply And.intro) <;> rfl))
theorem w32s (a0_0 : List V) (a0_1 : List V) (a1 : Int) (a2 : List V) (r : List V × List V × Int × Int × Int) (h : d32 a0_0 a0_1 a1 a2 = some r) : Ab.Fn Try.prog TT 32 [.agg [.sl 3 a0_0, .sl 5 a0_1], .i .i64 a1, .sl 5 a2] (.tup [.agg [.sl 3 r.1, .sl 5 r.2.1], .agg [.i .i64 r.2.2.1, .i .i64 r.2.2.2.1], .i .i64 r.2.2.2.2]) [] :=
  (w32 a0_0 a0_1 a1 a2 r h).pure (by simp [ple, ple1, ple1L, pleL, pleS, Ab.look])

noncomputable def d72 (a0_0 : List V) (a0_1 : List V) (a1 : Int) : Option (Bool) :=
  if (cmpLit .geq a1 0) = true then
    some (cmpLit .lss a1 (lenI a0_1))
  else
    some false
noncomputable def w72_c : Code := (Try.f72.body).getD .skip
theorem w72_h : Try.f72.body = some w72_c := by kernel_rfl
theorem w72 (a0_0 : List V) (a0_1 : List V) (a1 : Int) (r : Bool) (h : d72 a0_0 a0_1 a1 = some r) : Ab.Fn Try.prog TT 72 [.agg [.sl 3 a0_0, .sl 5 a0_1], .i .i64 a1] (.b r) [] := by
  refine fn_pure tok W0 Try.func72 (by kernel_rfl) w72_h (by kernel_rfl) ?_
  intro ar un cv mn mx pl mi cmp nt beq an scmp cat slen sbyte ssub ofB toB len gi gb gs gl sub put app ovl rep ne0 ge0 inb bnd room sroom need br call loop cut nl E R K hK
  have D := E.D
  clear E
  unfold d72 at h
  cbv
  refine R.cut' (by kernel_rfl) (by kernel_rfl) ?_
  cbv
  refine R.brD h (by (first | rfl | simp only [D.hcmp, D.hlen])) ?_ ?_ <;> clear h <;> intro h <;> cbv
  · have e := ret_some h; clear h
    refine hK _ _ ?_
    cbv
    try (subst e; simp only [D.hcmp, D.hlen, and_self, and_true, true_and] <;> (repeat' apply And.intro) <;> rfl)
  · have e := ret_some h; clear h
    refine hK _ _ ?_
    cbv
    try (subst e; simp only [D.hcmp, D.hlen, and_self, and_true, true_and] <;> (repeat' apply And.intro) <;> rfl)
end Go.Proofs.Ytmpdimigpaogkaa
end
section
namespace Go.Proofs.Ytmpdimigpaogkaa
open Go.Ab Go.RowKit Go.Proofs.Ytmpdimigpaogkaa.G Go.Proofs.YtmpdimigpaogkaaW.PrintWords Go.Proofs.YtmpdimigpaogkaaW.PrintLast
set_option maxRecDepth 100000
set_option maxHeartbeats 4000000
noncomputable def d60_b1 (a0_0 : List V) (a0_1 : List V) (a1 : Int) (a2 : Int) (a3 : Int) (s40 : Int) : Option ((Int) ⊕ ((Int × Int) ⊕ (Unit))) :=
  if (cmpLit .lss s40 a2) = true then
    (d72 a0_0 a0_1 (arReal .add .i64 a1 s40)).bind fun x61 =>
    if (notB' x61) = true then
      some (.inr (.inl (1, (arReal .add .i64 a1 s40))))
    else
      if (Ne0 64) then
        if (Inb (arReal .quo .i64 (arReal .add .i64 a1 s40) 64) (lenI a0_0)) then
          Option.bind (α := Bool) (
            if (cmpLit .eql a3 1) = true then
              some (cmpLit .eql (arReal .and .i64 (gI a0_0 (arReal .quo .i64 (arReal .add .i64 a1 s40) 64) 0) 1) 0)
            else
              some false) fun y62 =>
          if y62 = true then
            some (.inr (.inl (2, (arReal .add .i64 a1 s40))))
          else
            Option.bind (α := Bool) (
              if (cmpLit .eql a3 2) = true then
                some (cmpLit .eql (arReal .and .i64 (gI a0_0 (arReal .quo .i64 (arReal .add .i64 a1 s40) 64) 0) 2) 0)
              else
                some false) fun y64 =>
            if y64 = true then
              some (.inr (.inl (3, (arReal .add .i64 a1 s40))))
            else
              if (cmpLit .eql a3 4) = true then
                if (cmpLit .neq (gI a0_0 (arReal .quo .i64 (arReal .add .i64 a1 s40) 64) 0) 4) = true then
                  some (.inr (.inl (4, (arReal .add .i64 a1 s40))))
                else
                  some (.inl (arReal .add .i64 s40 1))
              else
                some (.inl (arReal .add .i64 s40 1))
        else none
      else none
  else
    some (.inr (.inr ()))
noncomputable def d60 (a0_0 : List V) (a0_1 : List V) (a1 : Int) (a2 : Int) (a3 : Int) : Option (Int × Int) :=
  Option.bind (α := (Unit) ⊕ (Int × Int)) (
    (iter (d60_b1 a0_0 a0_1 a1 a2 a3) 0).bind fun y53 =>
    match y53 with
    | .inl p66 =>
      some (.inr p66)
    | .inr y53r0 =>
      some (.inl ())) fun y27 =>
  match y27 with
  | .inl p68 =>
    some (0, 0)
  | .inr y27r0 =>
    some y27r0
noncomputable def w60_c : Code := (Try.f60.body).getD .skip
theorem w60_h : Try.f60.body = some w60_c := by kernel_rfl
theorem w60 (a0_0 : List V) (a0_1 : List V) (a1 : Int) (a2 : Int) (a3 : Int) (r : Int × Int) (h : d60 a0_0 a0_1 a1 a2 a3 = some r) : Ab.Fn Try.prog TT 60 [.agg [.sl 3 a0_0, .sl 5 a0_1], .i .i64 a1, .i .i64 a2, .i .i64 a3] (.agg [.i .i64 r.1, .i .i64 r.2]) [] := by
  refine fn_pure tok W0 Try.func60 (by kernel_rfl) w60_h (by kernel_rfl) ?_
  intro ar un cv mn mx pl mi cmp nt beq an scmp cat slen sbyte ssub ofB toB len gi gb gs gl sub put app ovl rep ne0 ge0 inb bnd room sroom need br call loop cut nl E R K hK
  have D := E.D
  clear E
  unfold d60 at h
  cbv
  refine R.cutB Sum.inl (fun _ _ e => Sum.inl.inj e) h [] (fun p68 => []) (fun p68 => []) (by kernel_rfl) (by kernel_rfl) (fun y27 hy hFy27 L hLy27 => ?_) (fun p68 h2 => ?_)
  · clear h; have h := hy; clear hy; cbv
    refine R.loopD h (fun s0 y53 e0 hi hFs40 => ?_)
    clear h
    refine R.loopI hi [] (fun s40 => [(9, .i .i64 s40)]) (fun s40 => []) ⟨rfl, ?_, ?_, rfl, rfl⟩ (by kernel_rfl) ?_
    · cbv; try (subst e0; simp only [D.har, D.hcmp, D.hgi, D.hinb, D.hlen, D.hne0, D.hnt, and_self, and_true, true_and] <;> (repeat' apply And.intro) <;> rfl)
    · cbv; try (subst e0; simp only [D.har, D.hcmp, D.hgi, D.hinb, D.hlen, D.hne0, D.hnt, and_self, and_true, true_and] <;> (repeat' apply And.intro) <;> rfl)
    clear hi e0
    intro s40 m y' hy hins40 houts40 L hLs40
    have h := hy; clear hy; unfold d60_b1 at h
    cbv
    refine R.cut' (by kernel_rfl) (by kernel_rfl) ?_
    cbv
    refine R.brD h (by (first | rfl | simp only [D.har, D.hcmp, D.hgi, D.hinb, D.hlen, D.hne0, D.hnt])) ?_ ?_ <;> clear h <;> intro h <;> cbv
    · refine R.cut' (by kernel_rfl) (by kernel_rfl) ?_
      cbv
      refine R.cut' (by kernel_rfl) (by kernel_rfl) ?_
      cbv
      refine R.callD h (fun x61 hx61 h2 => ?_)
      clear h; have h := h2; clear h2
      refine R.call' (w72 _ _ _ _ hx61) (by (first | rfl | simp only [D.har, D.hcmp, D.hgi, D.hinb, D.hlen, D.hne0, D.hnt])) ?_
      clear hx61; cbv
      refine R.brD h (by (first | rfl | simp only [D.har, D.hcmp, D.hgi, D.hinb, D.hlen, D.hne0, D.hnt])) ?_ ?_ <;> clear h <;> intro h <;> cbv
      · have e := inr_some h houts40; clear h
        have h := hFs40; rw [e] at h; clear e; try dsimp only at h
        cbv
        have e := ret_some h; clear h
        have h := hFy27; rw [e] at h; clear e; try dsimp only at h
        cbv
        have e := ret_some h; clear h
        refine hK _ _ ?_
        cbv
        try (subst e; simp only [D.har, D.hcmp, D.hgi, D.hinb, D.hlen, D.hne0, D.hnt, and_self, and_true, true_and] <;> (repeat' apply And.intro) <;> rfl)
      · refine R.needD h (by (first | rfl | simp only [D.har, D.hcmp, D.hgi, D.hinb, D.hlen, D.hne0, D.hnt])) ?_
        clear h; intro h; cbv
        refine R.needD h (by (first | rfl | simp only [D.har, D.hcmp, D.hgi, D.hinb, D.hlen, D.hne0, D.hnt])) ?_
        clear h; intro h; cbv
        refine R.cutB (fun p => p) (fun _ _ e => e) h [] (fun p63 => [(32, .b p63)]) (fun p63 => []) (by kernel_rfl) (by kernel_rfl) (fun y62 hy hFy62 L hLy62 => ?_) (fun p63 h2 => ?_)
        · clear h; have h := hy; clear hy; cbv
          refine R.brD h (by (first | rfl | simp only [D.har, D.hcmp, D.hgi, D.hinb, D.hlen, D.hne0, D.hnt])) ?_ ?_ <;> clear h <;> intro h <;> cbv
          · obtain ⟨s', e, hi⟩ := jn_some (fun p => p) h
            refine hLy62 s' _ _ hi ⟨rfl, ?_, ?_, rfl, rfl⟩ <;> cbv <;> (try (subst e; simp only [D.har, D.hcmp, D.hgi, D.hinb, D.hlen, D.hne0, D.hnt, and_self, and_true, true_and] <;> (repeat' apply And.intro) <;> rfl))
          · obtain ⟨s', e, hi⟩ := jn_some (fun p => p) h
            refine hLy62 s' _ _ hi ⟨rfl, ?_, ?_, rfl, rfl⟩ <;> cbv <;> (try (subst e; simp only [D.har, D.hcmp, D.hgi, D.hinb, D.hlen, D.hne0, D.hnt, and_self, and_true, true_and] <;> (repeat' apply And.intro) <;> rfl))
        · clear h; have h := h2; clear h2; try dsimp only at h
          cbv
          refine R.brD h (by (first | rfl | simp only [D.har, D.hcmp, D.hgi, D.hinb, D.hlen, D.hne0, D.hnt])) ?_ ?_ <;> clear h <;> intro h <;> cbv
          · have e := inr_some h houts40; clear h
            have h := hFs40; rw [e] at h; clear e; try dsimp only at h
            cbv
            have e := ret_some h; clear h
            have h := hFy27; rw [e] at h; clear e; try dsimp only at h
            cbv
            have e := ret_some h; clear h
            refine hK _ _ ?_
            cbv
            try (subst e; simp only [D.har, D.hcmp, D.hgi, D.hinb, D.hlen, D.hne0, D.hnt, and_self, and_true, true_and] <;> (repeat' apply And.intro) <;> rfl)
          · refine R.cutB (fun p => p) (fun _ _ e => e) h [] (fun p65 => [(42, .b p65)]) (fun p65 => []) (by kernel_rfl) (by kernel_rfl) (fun y64 hy hFy64 L hLy64 => ?_) (fun p65 h2 => ?_)
            · clear h; have h := hy; clear hy; cbv
              refine R.brD h (by (first | rfl | simp only [D.har, D.hcmp, D.hgi, D.hinb, D.hlen, D.hne0, D.hnt])) ?_ ?_ <;> clear h <;> intro h <;> cbv
              · obtain ⟨s', e, hi⟩ := jn_some (fun p => p) h
                refine hLy64 s' _ _ hi ⟨rfl, ?_, ?_, rfl, rfl⟩ <;> cbv <;> (try (subst e; simp only [D.har, D.hcmp, D.hgi, D.hinb, D.hlen, D.hne0, D.hnt, and_self, and_true, true_and] <;> (repeat' apply And.intro) <;> rfl))
              · obtain ⟨s', e, hi⟩ := jn_some (fun p => p) h
                refine hLy64 s' _ _ hi ⟨rfl, ?_, ?_, rfl, rfl⟩ <;> cbv <;> (try (subst e; simp only [D.har, D.hcmp, D.hgi, D.hinb, D.hlen, D.hne0, D.hnt, and_self, and_true, true_and] <;> (repeat' apply And.intro) <;> rfl))
            · clear h; have h := h2; clear h2; try dsimp only at h
              cbv
              refine R.brD h (by (first | rfl | simp only [D.har, D.hcmp, D.hgi, D.hinb, D.hlen, D.hne0, D.hnt])) ?_ ?_ <;> clear h <;> intro h <;> cbv
              · have e := inr_some h houts40; clear h
                have h := hFs40; rw [e] at h; clear e; try dsimp only at h
                cbv
                have e := ret_some h; clear h
                have h := hFy27; rw [e] at h; clear e; try dsimp only at h
                cbv
                have e := ret_some h; clear h
                refine hK _ _ ?_
                cbv
                try (subst e; simp only [D.har, D.hcmp, D.hgi, D.hinb, D.hlen, D.hne0, D.hnt, and_self, and_true, true_and] <;> (repeat' apply And.intro) <;> rfl)
              · refine R.cut' (by kernel_rfl) (by kernel_rfl) ?_
                cbv
                refine R.brD h (by (first | rfl | simp only [D.har, D.hcmp, D.hgi, D.hinb, D.hlen, D.hne0, D.hnt])) ?_ ?_ <;> clear h <;> intro h <;> cbv
                · refine R.brD h (by (first | rfl | simp only [D.har, D.hcmp, D.hgi, D.hinb, D.hlen, D.hne0, D.hnt])) ?_ ?_ <;> clear h <;> intro h <;> cbv
                  · have e := inr_some h houts40; clear h
                    have h := hFs40; rw [e] at h; clear e; try dsimp only at h
                    cbv
                    have e := ret_some h; clear h
                    have h := hFy27; rw [e] at h; clear e; try dsimp only at h
                    cbv
                    have e := ret_some h; clear h
                    refine hK _ _ ?_
                    cbv
                    try (subst e; simp only [D.har, D.hcmp, D.hgi, D.hinb, D.hlen, D.hne0, D.hnt, and_self, and_true, true_and] <;> (repeat' apply And.intro) <;> rfl)
                  · obtain ⟨s', e, hi⟩ := inl_some h hins40
                    refine hLs40 s' _ _ hi ⟨rfl, ?_, ?_, rfl, rfl⟩ <;> cbv <;> (try (subst e; simp only [D.har, D.hcmp, D.hgi, D.hinb, D.hlen, D.hne0, D.hnt, and_self, and_true, true_and] <;> (repeat' apply And.intro) <;> rfl))
                · obtain ⟨s', e, hi⟩ := inl_some h hins40
                  refine hLs40 s' _ _ hi ⟨rfl, ?_, ?_, rfl, rfl⟩ <;> cbv <;> (try (subst e; simp only [D.har, D.hcmp, D.hgi, D.hinb, D.hlen, D.hne0, D.hnt, and_self, and_true, true_and] <;> (repeat' apply And.intro) <;> rfl))
    · have e := inr_some h houts40; clear h
      have h := hFs40; rw [e] at h; clear e; try dsimp only at h
      cbv
      obtain ⟨s', e, hi⟩ := jn_some Sum.inl h
      refine hLy27 s' _ _ hi ⟨rfl, ?_, ?_, rfl, rfl⟩ <;> cbv <;> (try (subst e; simp only [D.har, D.hcmp, D.hgi, D.hinb, D.hlen, D.hne0, D.hnt, and_self, and_true, true_and] <;> (repeat' apply And.intro) <;> rfl))
  · clear h; have h := h2; clear h2; try dsimp only at h
    cbv
    have e := ret_some h; clear h
    refine hK _ _ ?_
    cbv
    try (subst e; simp only [D.har, D.hcmp, D.hgi, D.hinb, D.hlen, D.hne0, D.hnt, and_self, and_true, true_and] <;> (repeat' apply And.intro) <;> rfl)

noncomputable def d61_b1 (a0_1 : List V) (a1 : Int) (a2 : Int) (s4 : Int × List V) : Option ((Int × List V) ⊕ (List V)) :=
  if (cmpLit .lss s4.1 a2) = true then
    if (Inb (arReal .add .i64 a1 s4.1) (lenI a0_1)) then
      if (Room (lenI (appL s4.2 [.i .u8 (gI a0_1 (arReal .add .i64 a1 s4.1) 0)])) 1) then
        some (.inl ((arReal .add .i64 s4.1 1), (appL s4.2 [.i .u8 (gI a0_1 (arReal .add .i64 a1 s4.1) 0)])))
      else none
    else none
  else
    some (.inr s4.2)
noncomputable def d61 (a0_0 : List V) (a0_1 : List V) (a1 : Int) (a2 : Int) : Option (List V) :=
  Option.bind (α := List V) (
    (iter (d61_b1 a0_1 a1 a2) (0, [])).bind fun y5 =>
    some y5) fun y3 =>
  some y3
noncomputable def w61_c : Code := (Try.f61.body).getD .skip
theorem w61_h : Try.f61.body = some w61_c := by kernel_rfl
theorem w61 (a0_0 : List V) (a0_1 : List V) (a1 : Int) (a2 : Int) (r : List V) (h : d61 a0_0 a0_1 a1 a2 = some r) : Ab.Fn Try.prog TT 61 [.agg [.sl 3 a0_0, .sl 5 a0_1], .i .i64 a1, .i .i64 a2] (.row 0) [(0, .row 5 r)] := by
  refine fn_own tok W0 Try.func61 (by kernel_rfl) w61_h (by kernel_rfl) ?_
  intro ar un cv mn mx pl mi cmp nt beq an scmp cat slen sbyte ssub ofB toB len gi gb gs gl sub put app ovl rep ne0 ge0 inb bnd room sroom need br call loop cut nl E R K hK
  have D := E.D
  clear E
  unfold d61 at h
  cbv
  refine R.cutB (fun p => p) (fun _ _ e => e) h [] (fun p7 => [(7, .row 127)]) (fun p7 => [(127, .row 5 p7)]) (by kernel_rfl) (by kernel_rfl) (fun y3 hy hFy3 L hLy3 => ?_) (fun p7 h2 => ?_)
  · clear h; have h := hy; clear hy; cbv
    refine R.loopD h (fun s0 y5 e0 hi hFs4 => ?_)
    clear h
    refine R.born' (e := te5) 7 127 5 rfl rfl (by kernel_rfl) (by decide) ?_
    refine R.loopI hi [] (fun s4 => [(7, .row 127), (8, .i .i64 s4.1)]) (fun s4 => [(127, .row 5 s4.2)]) ⟨rfl, ?_, ?_, rfl, rfl⟩ (by kernel_rfl) ?_
    · cbv; try (subst e0; simp only [D.happ, D.har, D.hcmp, D.hgi, D.hinb, D.hlen, D.hroom, and_self, and_true, true_and] <;> (repeat' apply And.intro) <;> rfl)
    · cbv; try (subst e0; simp only [D.happ, D.har, D.hcmp, D.hgi, D.hinb, D.hlen, D.hroom, and_self, and_true, true_and] <;> (repeat' apply And.intro) <;> rfl)
    clear hi e0
    intro s4 m y' hy hins4 houts4 L hLs4
    have h := hy; clear hy; unfold d61_b1 at h
    cbv
    refine R.cut' (by kernel_rfl) (by kernel_rfl) ?_
    cbv
    refine R.brD h (by (first | rfl | simp only [D.happ, D.har, D.hcmp, D.hgi, D.hinb, D.hlen, D.hroom])) ?_ ?_ <;> clear h <;> intro h <;> cbv
    · refine R.cut' (by kernel_rfl) (by kernel_rfl) ?_
      cbv
      refine R.needD h (by (first | rfl | simp only [D.happ, D.har, D.hcmp, D.hgi, D.hinb, D.hlen, D.hroom])) ?_
      clear h; intro h; cbv
      refine R.needD h (by (first | rfl | simp only [D.happ, D.har, D.hcmp, D.hgi, D.hinb, D.hlen, D.hroom])) ?_
      clear h; intro h; cbv
      obtain ⟨s', e, hi⟩ := inl_some h hins4
      refine hLs4 s' _ _ hi ⟨rfl, ?_, ?_, rfl, rfl⟩ <;> cbv <;> (try (subst e; simp only [D.happ, D.har, D.hcmp, D.hgi, D.hinb, D.hlen, D.hroom, and_self, and_true, true_and] <;> (repeat' apply And.intro) <;> rfl))
    · have e := inr_some h houts4; clear h
      have h := hFs4; rw [e] at h; clear e; try dsimp only at h
      cbv
      obtain ⟨s', e, hi⟩ := jn_some (fun p => p) h
      refine hLy3 s' _ _ hi ⟨rfl, ?_, ?_, rfl, rfl⟩ <;> cbv <;> (try (subst e; simp only [D.happ, D.har, D.hcmp, D.hgi, D.hinb, D.hlen, D.hroom, and_self, and_true, true_and] <;> (repeat' apply And.intro) <;> rfl))
  · clear h; have h := h2; clear h2; try dsimp only at h
    cbv
    have e := ret_some h; clear h
    refine hK _ _ ⟨rfl, ⟨?_, rfl, rfl, rfl, ?_⟩⟩ <;> cbv <;> (try (subst e; simp only [D.happ, D.har, D.hcmp, D.hgi, D.hinb, D.hlen, D.hroom, and_self, and_true, true_and] <;> (repeat' apply And.intro) <;> rfl))
theorem w61s (a0_0 : List V) (a0_1 : List V) (a1 : Int) (a2 : Int) (r : List V) (h : d61 a0_0 a0_1 a1 a2 = some r) : Ab.Fn Try.prog TT 61 [.agg [.sl 3 a0_0, .sl 5 a0_1], .i .i64 a1, .i .i64 a2] (.sl 5 r) [] :=
  (w61 a0_0 a0_1 a1 a2 r h).pure (by simp [ple, ple1, ple1L, pleL, pleS, Ab.look])

noncomputable def d67 (a0_0 : Int) (a0_1 : Bool) (a1 : Int) : Option (Int) :=
  if (cmpLit .eql a0_0 1) = true then
    if a0_1 = true then
      some (wrapK .i64 (wrapK .i8 a1))
    else
      some (wrapK .i64 (wrapK .u8 a1))
  else
    if (cmpLit .eql a0_0 2) = true then
      if a0_1 = true then
        some (wrapK .i64 (wrapK .i16 a1))
      else
        some (wrapK .i64 (wrapK .u16 a1))
    else
      if (cmpLit .eql a0_0 4) = true then
        if a0_1 = true then
          some (wrapK .i64 (wrapK .i32 a1))
        else
          some (wrapK .i64 (wrapK .u32 a1))
      else
        some a1
noncomputable def w67_c : Code := (Try.f67.body).getD .skip
theorem w67_h : Try.f67.body = some w67_c := by kernel_rfl
theorem w67 (a0_0 : Int) (a0_1 : Bool) (a1 : Int) (r : Int) (h : d67 a0_0 a0_1 a1 = some r) : Ab.Fn Try.prog TT 67 [.agg [.i .i64 a0_0, .b a0_1], .i .i64 a1] (.i .i64 r) [] := by
  refine fn_pure tok W0 Try.func67 (by kernel_rfl) w67_h (by kernel_rfl) ?_
  intro ar un cv mn mx pl mi cmp nt beq an scmp cat slen sbyte ssub ofB toB len gi gb gs gl sub put app ovl rep ne0 ge0 inb bnd room sroom need br call loop cut nl E R K hK
  have D := E.D
  clear E
  unfold d67 at h
  cbv
  refine R.cut' (by kernel_rfl) (by kernel_rfl) ?_
  cbv
  refine R.brD h (by (first | rfl | simp only [D.hcmp, D.hcv])) ?_ ?_ <;> clear h <;> intro h <;> cbv
  · refine R.cut' (by kernel_rfl) (by kernel_rfl) ?_
    cbv
    refine R.brD h (by (first | rfl | simp only [D.hcmp, D.hcv])) ?_ ?_ <;> clear h <;> intro h <;> cbv
    · have e := ret_some h; clear h
      refine hK _ _ ?_
      cbv
      try (subst e; simp only [D.hcmp, D.hcv, and_self, and_true, true_and] <;> (repeat' apply And.intro) <;> rfl)
    · have e := ret_some h; clear h
      refine hK _ _ ?_
      cbv
      try (subst e; simp only [D.hcmp, D.hcv, and_self, and_true, true_and] <;> (repeat' apply And.intro) <;> rfl)
  · refine R.brD h (by (first | rfl | simp only [D.hcmp, D.hcv])) ?_ ?_ <;> clear h <;> intro h <;> cbv
    · refine R.cut' (by kernel_rfl) (by kernel_rfl) ?_
      cbv
      refine R.brD h (by (first | rfl | simp only [D.hcmp, D.hcv])) ?_ ?_ <;> clear h <;> intro h <;> cbv
      · have e := ret_some h; clear h
        refine hK _ _ ?_
        cbv
        try (subst e; simp only [D.hcmp, D.hcv, and_self, and_true, true_and] <;> (repeat' apply And.intro) <;> rfl)
      · have e := ret_some h; clear h
        refine hK _ _ ?_
        cbv
        try (subst e; simp only [D.hcmp, D.hcv, and_self, and_true, true_and] <;> (repeat' apply And.intro) <;> rfl)
    · refine R.brD h (by (first | rfl | simp only [D.hcmp, D.hcv])) ?_ ?_ <;> clear h <;> intro h <;> cbv
      · refine R.cut' (by kernel_rfl) (by kernel_rfl) ?_
        cbv
        refine R.brD h (by (first | rfl | simp only [D.hcmp, D.hcv])) ?_ ?_ <;> clear h <;> intro h <;> cbv
        · have e := ret_some h; clear h
          refine hK _ _ ?_
          cbv
          try (subst e; simp only [D.hcmp, D.hcv, and_self, and_true, true_and] <;> (repeat' apply And.intro) <;> rfl)
        · have e := ret_some h; clear h
          refine hK _ _ ?_
          cbv
          try (subst e; simp only [D.hcmp, D.hcv, and_self, and_true, true_and] <;> (repeat' apply And.intro) <;> rfl)
      · have e := ret_some h; clear h
        refine hK _ _ ?_
        cbv
        try (subst e; simp only [D.hcmp, D.hcv, and_self, and_true, true_and] <;> (repeat' apply And.intro) <;> rfl)

noncomputable def d45_b1 (a1 : List V) (s6 : Int × Int) : Option ((Int × Int) ⊕ (Int)) :=
  if (cmpLit .geq s6.2 0) = true then
    if (Inb s6.2 (lenI a1)) then
      some (.inl ((arReal .add .i64 (arReal .mul .i64 256 s6.1) (wrapK .i64 (gI a1 s6.2 0))), (arReal .sub .i64 s6.2 1)))
    else none
  else
    some (.inr s6.1)
noncomputable def d45 (a0_0 : Int) (a0_1 : Bool) (a1 : List V) : Option (Int × Int) :=
  (d30 a0_0 a0_1).bind fun x2 =>
  if (cmpLit .neq x2 0) = true then
    some (0, x2)
  else
    if (cmpLit .neq (lenI a1) a0_0) = true then
      some (0, 1)
    else
      Option.bind (α := Int) (
        (iter (d45_b1 a1) (0, (arReal .sub .i64 (lenI a1) 1))).bind fun y7 =>
        some y7) fun y5 =>
      (d67 a0_0 a0_1 y5).bind fun x10 =>
      some (x10, 0)
noncomputable def w45_c : Code := (Try.f45.body).getD .skip
theorem w45_h : Try.f45.body = some w45_c := by kernel_rfl
theorem w45 (a0_0 : Int) (a0_1 : Bool) (a1 : List V) (r : Int × Int) (h : d45 a0_0 a0_1 a1 = some r) : Ab.Fn Try.prog TT 45 [.agg [.i .i64 a0_0, .b a0_1], .sl 5 a1] (.tup [.i .i64 r.1, .i .i64 r.2]) [] := by
  refine fn_pure tok W0 Try.func45 (by kernel_rfl) w45_h (by kernel_rfl) ?_
  intro ar un cv mn mx pl mi cmp nt beq an scmp cat slen sbyte ssub ofB toB len gi gb gs gl sub put app ovl rep ne0 ge0 inb bnd room sroom need br call loop cut nl E R K hK
  have D := E.D
  clear E
  unfold d45 at h
  cbv
  refine R.cut' (by kernel_rfl) (by kernel_rfl) ?_
  cbv
  refine R.callD h (fun x2 hx2 h2 => ?_)
  clear h; have h := h2; clear h2
  refine R.call' (w30 _ _ _ hx2) (by (first | rfl | simp only [D.har, D.hcmp, D.hcv, D.hgi, D.hinb, D.hlen])) ?_
  clear hx2; cbv
  refine R.brD h (by (first | rfl | simp only [D.har, D.hcmp, D.hcv, D.hgi, D.hinb, D.hlen])) ?_ ?_ <;> clear h <;> intro h <;> cbv
  · have e := ret_some h; clear h
    refine hK _ _ ?_
    cbv
    try (subst e; simp only [D.har, D.hcmp, D.hcv, D.hgi, D.hinb, D.hlen, and_self, and_true, true_and] <;> (repeat' apply And.intro) <;> rfl)
  · refine R.cut' (by kernel_rfl) (by kernel_rfl) ?_
    cbv
    refine R.brD h (by (first | rfl | simp only [D.har, D.hcmp, D.hcv, D.hgi, D.hinb, D.hlen])) ?_ ?_ <;> clear h <;> intro h <;> cbv
    · have e := ret_some h; clear h
      refine hK _ _ ?_
      cbv
      try (subst e; simp only [D.har, D.hcmp, D.hcv, D.hgi, D.hinb, D.hlen, and_self, and_true, true_and] <;> (repeat' apply And.intro) <;> rfl)
    · refine R.cutB (fun p => p) (fun _ _ e => e) h [] (fun p9 => [(7, .i .i64 p9)]) (fun p9 => []) (by kernel_rfl) (by kernel_rfl) (fun y5 hy hFy5 L hLy5 => ?_) (fun p9 h2 => ?_)
      · clear h; have h := hy; clear hy; cbv
        refine R.loopD h (fun s0 y7 e0 hi hFs6 => ?_)
        clear h
        refine R.loopI hi [] (fun s6 => [(7, .i .i64 s6.1), (8, .i .i64 s6.2)]) (fun s6 => []) ⟨rfl, ?_, ?_, rfl, rfl⟩ (by kernel_rfl) ?_
        · cbv; try (subst e0; simp only [D.har, D.hcmp, D.hcv, D.hgi, D.hinb, D.hlen, and_self, and_true, true_and] <;> (repeat' apply And.intro) <;> rfl)
        · cbv; try (subst e0; simp only [D.har, D.hcmp, D.hcv, D.hgi, D.hinb, D.hlen, and_self, and_true, true_and] <;> (repeat' apply And.intro) <;> rfl)
        clear hi e0
        intro s6 m y' hy hins6 houts6 L hLs6
        have h := hy; clear hy; unfold d45_b1 at h
        cbv
        refine R.cut' (by kernel_rfl) (by kernel_rfl) ?_
        cbv
        refine R.brD h (by (first | rfl | simp only [D.har, D.hcmp, D.hcv, D.hgi, D.hinb, D.hlen])) ?_ ?_ <;> clear h <;> intro h <;> cbv
        · refine R.cut' (by kernel_rfl) (by kernel_rfl) ?_
          cbv
          refine R.needD h (by (first | rfl | simp only [D.har, D.hcmp, D.hcv, D.hgi, D.hinb, D.hlen])) ?_
          clear h; intro h; cbv
          obtain ⟨s', e, hi⟩ := inl_some h hins6
          refine hLs6 s' _ _ hi ⟨rfl, ?_, ?_, rfl, rfl⟩ <;> cbv <;> (try (subst e; simp only [D.har, D.hcmp, D.hcv, D.hgi, D.hinb, D.hlen, and_self, and_true, true_and] <;> (repeat' apply And.intro) <;> rfl))
        · have e := inr_some h houts6; clear h
          have h := hFs6; rw [e] at h; clear e; try dsimp only at h
          cbv
          obtain ⟨s', e, hi⟩ := jn_some (fun p => p) h
          refine hLy5 s' _ _ hi ⟨rfl, ?_, ?_, rfl, rfl⟩ <;> cbv <;> (try (subst e; simp only [D.har, D.hcmp, D.hcv, D.hgi, D.hinb, D.hlen, and_self, and_true, true_and] <;> (repeat' apply And.intro) <;> rfl))
      · clear h; have h := h2; clear h2; try dsimp only at h
        cbv
        refine R.callD h (fun x10 hx10 h2 => ?_)
        clear h; have h := h2; clear h2
        refine R.call' (w67 _ _ _ _ hx10) (by (first | rfl | simp only [D.har, D.hcmp, D.hcv, D.hgi, D.hinb, D.hlen])) ?_
        clear hx10; cbv
        have e := ret_some h; clear h
        refine hK _ _ ?_
        cbv
        try (subst e; simp only [D.har, D.hcmp, D.hcv, D.hgi, D.hinb, D.hlen, and_self, and_true, true_and] <;> (repeat' apply And.intro) <;> rfl)

noncomputable def d33 (a0_0 : List V) (a0_1 : List V) (a1 : Int) (a2_0 : Int) (a2_1 : Bool) : Option (Int × Int × Int × Int) :=
  (d27 a0_0 a0_1).bind fun x1 =>
  Option.bind (α := Int) (
    if (cmpLit .eql x1 0) = true then
      (d30 a2_0 a2_1).bind fun x4 =>
      some x4
    else
      some x1) fun y3 =>
  if (cmpLit .neq y3 0) = true then
    some (0, 0, 0, y3)
  else
    (d60 a0_0 a0_1 a1 a2_0 1).bind fun x6 =>
    if (cmpLit .neq x6.1 0) = true then
      some (0, x6.1, x6.2, 0)
    else
      (d61 a0_0 a0_1 a1 a2_0).bind fun x7 =>
      (d45 a2_0 a2_1 x7).bind fun x8 =>
      some (x8.1, 0, 0, 0)
noncomputable def w33_c : Code := (Try.f33.body).getD .skip
theorem w33_h : Try.f33.body = some w33_c := by kernel_rfl
theorem w33 (a0_0 : List V) (a0_1 : List V) (a1 : Int) (a2_0 : Int) (a2_1 : Bool) (r : Int × Int × Int × Int) (h : d33 a0_0 a0_1 a1 a2_0 a2_1 = some r) : Ab.Fn Try.prog TT 33 [.agg [.sl 3 a0_0, .sl 5 a0_1], .i .i64 a1, .agg [.i .i64 a2_0, .b a2_1]] (.agg [.i .i64 r.1, .i .i64 r.2.1, .i .i64 r.2.2.1, .i .i64 r.2.2.2]) [] := by
  refine fn_pure tok (fun r => match r with | 9 => [[],[],[],[],[3],[1,2,3,4],[0,1,2,3,4,5],[0,1,2,3,4,5,6],[0,1,2,3,4,5,6,7],[0,1,2,3,4,5,6,7],[0,1,2,3,4,5,6,7,8],[0,1,2,3,4,5,6,7,8,9,10]] | _ => []) Try.func33 (by kernel_rfl) w33_h (by kernel_rfl) ?_
  intro ar un cv mn mx pl mi cmp nt beq an scmp cat slen sbyte ssub ofB toB len gi gb gs gl sub put app ovl rep ne0 ge0 inb bnd room sroom need br call loop cut nl E R K hK
  have D := E.D
  clear E
  unfold d33 at h
  cbv
  refine R.callD h (fun x1 hx1 h2 => ?_)
  clear h; have h := h2; clear h2
  refine R.call' (w27 _ _ _ hx1) (by (first | rfl | simp only [D.hcmp])) ?_
  clear hx1; cbv
  refine R.cutB (fun p => p) (fun _ _ e => e) h [] (fun p5 => [(7, .i .i64 p5)]) (fun p5 => []) (by kernel_rfl) (by kernel_rfl) (fun y3 hy hFy3 L hLy3 => ?_) (fun p5 h2 => ?_)
  · clear h; have h := hy; clear hy; cbv
    refine R.brD h (by (first | rfl | simp only [D.hcmp])) ?_ ?_ <;> clear h <;> intro h <;> cbv
    · refine R.callD h (fun x4 hx4 h2 => ?_)
      clear h; have h := h2; clear h2
      refine R.call' (w30 _ _ _ hx4) (by (first | rfl | simp only [D.hcmp])) ?_
      clear hx4; cbv
      obtain ⟨s', e, hi⟩ := jn_some (fun p => p) h
      refine hLy3 s' _ _ hi ⟨rfl, ?_, ?_, rfl, rfl⟩ <;> cbv <;> (try (subst e; simp only [D.hcmp, and_self, and_true, true_and] <;> (repeat' apply And.intro) <;> rfl))
    · obtain ⟨s', e, hi⟩ := jn_some (fun p => p) h
      refine hLy3 s' _ _ hi ⟨rfl, ?_, ?_, rfl, rfl⟩ <;> cbv <;> (try (subst e; simp only [D.hcmp, and_self, and_true, true_and] <;> (repeat' apply And.intro) <;> rfl))
  · clear h; have h := h2; clear h2; try dsimp only at h
    cbv
    refine R.cut' (by kernel_rfl) (by kernel_rfl) ?_
    cbv
    refine R.brD h (by (first | rfl | simp only [D.hcmp])) ?_ ?_ <;> clear h <;> intro h <;> cbv
    · have e := ret_some h; clear h
      refine hK _ _ ?_
      cbv
      try (subst e; simp only [D.hcmp, and_self, and_true, true_and] <;> (repeat' apply And.intro) <;> rfl)
    · refine R.callD h (fun x6 hx6 h2 => ?_)
      clear h; have h := h2; clear h2
      refine R.call' (w60 _ _ _ _ _ _ hx6) (by (first | rfl | simp only [D.hcmp])) ?_
      clear hx6; cbv
      refine R.cut' (by kernel_rfl) (by kernel_rfl) ?_
      cbv
      refine R.brD h (by (first | rfl | simp only [D.hcmp])) ?_ ?_ <;> clear h <;> intro h <;> cbv
      · have e := ret_some h; clear h
        refine hK _ _ ?_
        cbv
        try (subst e; simp only [D.hcmp, and_self, and_true, true_and] <;> (repeat' apply And.intro) <;> rfl)
      · refine R.callD h (fun x7 hx7 h2 => ?_)
        clear h; have h := h2; clear h2
        refine R.call' (w61s _ _ _ _ _ hx7) (by (first | rfl | simp only [D.hcmp])) ?_
        clear hx7; cbv
        refine R.callD h (fun x8 hx8 h2 => ?_)
        clear h; have h := h2; clear h2
        refine R.call' (w45 _ _ _ _ hx8) (by (first | rfl | simp only [D.hcmp])) ?_
        clear hx8; cbv
        have e := ret_some h; clear h
        refine hK _ _ ?_
        cbv
        try (subst e; simp only [D.hcmp, and_self, and_true, true_and] <;> (repeat' apply And.intro) <;> rfl)
end Go.Proofs.Ytmpdimigpaogkaa
end
section
namespace Go.Proofs.Ytmpdimigpaogkaa
open Go.Ab Go.RowKit Go.Proofs.Ytmpdimigpaogkaa.G Go.Proofs.YtmpdimigpaogkaaW.PrintWords Go.Proofs.YtmpdimigpaogkaaW.PrintLast
set_option maxRecDepth 100000
set_option maxHeartbeats 4000000
noncomputable def d62_b1 (a0_0 : Int) (s6 : Int × Int × List V) : Option ((Int × Int × List V) ⊕ (List V)) :=
  if (cmpLit .lss s6.2.1 a0_0) = true then
    if (Room (lenI (appL s6.2.2 [.i .u8 (wrapK .u8 (arReal .and .i64 s6.1 255))])) 1) then
      if (Ne0 256) then
        some (.inl ((arReal .quo .i64 (arReal .sub .i64 s6.1 (arReal .and .i64 s6.1 255)) 256), (arReal .add .i64 s6.2.1 1), (appL s6.2.2 [.i .u8 (wrapK .u8 (arReal .and .i64 s6.1 255))])))
      else none
    else none
  else
    some (.inr s6.2.2)
noncomputable def d62 (a0_0 : Int) (a0_1 : Bool) (a1 : Int) : Option (List V × Int) :=
  (d30 a0_0 a0_1).bind fun x2 =>
  if (cmpLit .neq x2 0) = true then
    some ([], x2)
  else
    Option.bind (α := List V) (
      (iter (d62_b1 a0_0) (a1, 0, [])).bind fun y7 =>
      some y7) fun y5 =>
    some (y5, 0)
noncomputable def w62_c : Code := (Try.f62.body).getD .skip
theorem w62_h : Try.f62.body = some w62_c := by kernel_rfl
theorem w62 (a0_0 : Int) (a0_1 : Bool) (a1 : Int) (r : List V × Int) (h : d62 a0_0 a0_1 a1 = some r) : Ab.Fn Try.prog TT 62 [.agg [.i .i64 a0_0, .b a0_1], .i .i64 a1] (.tup [.row 0, .i .i64 r.2]) [(0, .row 5 r.1)] := by
  refine fn_own tok W0 Try.func62 (by kernel_rfl) w62_h (by kernel_rfl) ?_
  intro ar un cv mn mx pl mi cmp nt beq an scmp cat slen sbyte ssub ofB toB len gi gb gs gl sub put app ovl rep ne0 ge0 inb bnd room sroom need br call loop cut nl E R K hK
  have D := E.D
  clear E
  unfold d62 at h
  cbv
  refine R.cut' (by kernel_rfl) (by kernel_rfl) ?_
  cbv
  refine R.callD h (fun x2 hx2 h2 => ?_)
  clear h; have h := h2; clear h2
  refine R.call' (w30 _ _ _ hx2) (by (first | rfl | simp only [D.happ, D.har, D.hcmp, D.hcv, D.hlen, D.hne0, D.hroom])) ?_
  clear hx2; cbv
  refine R.brD h (by (first | rfl | simp only [D.happ, D.har, D.hcmp, D.hcv, D.hlen, D.hne0, D.hroom])) ?_ ?_ <;> clear h <;> intro h <;> cbv
  · have e := ret_some h; clear h
    refine hK _ _ ⟨rfl, ⟨?_, rfl, rfl, rfl, ?_⟩⟩ <;> cbv <;> (try (subst e; simp only [D.happ, D.har, D.hcmp, D.hcv, D.hlen, D.hne0, D.hroom, and_self, and_true, true_and] <;> (repeat' apply And.intro) <;> rfl))
  · refine R.cutB (fun p => p) (fun _ _ e => e) h [] (fun p9 => [(7, .row 127)]) (fun p9 => [(127, .row 5 p9)]) (by kernel_rfl) (by kernel_rfl) (fun y5 hy hFy5 L hLy5 => ?_) (fun p9 h2 => ?_)
    · clear h; have h := hy; clear hy; cbv
      refine R.loopD h (fun s0 y7 e0 hi hFs6 => ?_)
      clear h
      refine R.born' (e := te5) 7 127 5 rfl rfl (by kernel_rfl) (by decide) ?_
      refine R.loopI hi [] (fun s6 => [(1, .i .i64 s6.1), (7, .row 127), (8, .i .i64 s6.2.1)]) (fun s6 => [(127, .row 5 s6.2.2)]) ⟨rfl, ?_, ?_, rfl, rfl⟩ (by kernel_rfl) ?_
      · cbv; try (subst e0; simp only [D.happ, D.har, D.hcmp, D.hcv, D.hlen, D.hne0, D.hroom, and_self, and_true, true_and] <;> (repeat' apply And.intro) <;> rfl)
      · cbv; try (subst e0; simp only [D.happ, D.har, D.hcmp, D.hcv, D.hlen, D.hne0, D.hroom, and_self, and_true, true_and] <;> (repeat' apply And.intro) <;> rfl)
      clear hi e0
      intro s6 m y' hy hins6 houts6 L hLs6
      have h := hy; clear hy; unfold d62_b1 at h
      cbv
      refine R.cut' (by kernel_rfl) (by kernel_rfl) ?_
      cbv
      refine R.brD h (by (first | rfl | simp only [D.happ, D.har, D.hcmp, D.hcv, D.hlen, D.hne0, D.hroom])) ?_ ?_ <;> clear h <;> intro h <;> cbv
      · refine R.cut' (by kernel_rfl) (by kernel_rfl) ?_
        cbv
        refine R.needD h (by (first | rfl | simp only [D.happ, D.har, D.hcmp, D.hcv, D.hlen, D.hne0, D.hroom])) ?_
        clear h; intro h; cbv
        refine R.needD h (by (first | rfl | simp only [D.happ, D.har, D.hcmp, D.hcv, D.hlen, D.hne0, D.hroom])) ?_
        clear h; intro h; cbv
        obtain ⟨s', e, hi⟩ := inl_some h hins6
        refine hLs6 s' _ _ hi ⟨rfl, ?_, ?_, rfl, rfl⟩ <;> cbv <;> (try (subst e; simp only [D.happ, D.har, D.hcmp, D.hcv, D.hlen, D.hne0, D.hroom, and_self, and_true, true_and] <;> (repeat' apply And.intro) <;> rfl))
      · have e := inr_some h houts6; clear h
        have h := hFs6; rw [e] at h; clear e; try dsimp only at h
        cbv
        obtain ⟨s', e, hi⟩ := jn_some (fun p => p) h
        refine hLy5 s' _ _ hi ⟨rfl, ?_, ?_, rfl, rfl⟩ <;> cbv <;> (try (subst e; simp only [D.happ, D.har, D.hcmp, D.hcv, D.hlen, D.hne0, D.hroom, and_self, and_true, true_and] <;> (repeat' apply And.intro) <;> rfl))
    · clear h; have h := h2; clear h2; try dsimp only at h
      cbv
      have e := ret_some h; clear h
      refine hK _ _ ⟨rfl, ⟨?_, rfl, rfl, rfl, ?_⟩⟩ <;> cbv <;> (try (subst e; simp only [D.happ, D.har, D.hcmp, D.hcv, D.hlen, D.hne0, D.hroom, and_self, and_true, true_and] <;> (repeat' apply And.intro) <;> rfl))
theorem w62s (a0_0 : Int) (a0_1 : Bool) (a1 : Int) (r : List V × Int) (h : d62 a0_0 a0_1 a1 = some r) : Ab.Fn Try.prog TT 62 [.agg [.i .i64 a0_0, .b a0_1], .i .i64 a1] (.tup [.sl 5 r.1, .i .i64 r.2]) [] :=
  (w62 a0_0 a0_1 a1 r h).pure (by simp [ple, ple1, ple1L, pleL, pleS, Ab.look])

noncomputable def d63_b1 (a1 : Int) (a2 : List V) (s5 : Int × List V) : Option ((Int × List V) ⊕ (List V)) :=
  if (cmpLit .lss s5.1 (lenI a2)) = true then
    if (Inb s5.1 (lenI a2)) then
      if (Inb (arReal .add .i64 a1 s5.1) (lenI s5.2)) then
        some (.inl ((arReal .add .i64 s5.1 1), (putL s5.2 (arReal .add .i64 a1 s5.1) 0 [.i .u8 (gI a2 s5.1 0)])))
      else none
    else none
  else
    some (.inr s5.2)
noncomputable def d63 (a0_0 : List V) (a0_1 : List V) (a1 : Int) (a2 : List V) : Option (List V × List V) :=
  (d56 a0_0 a0_1).bind fun x1 =>
  Option.bind (α := List V) (
    (iter (d63_b1 a1 a2) (0, x1.2)).bind fun y6 =>
    some y6) fun y4 =>
  some (x1.1, y4)
noncomputable def w63_c : Code := (Try.f63.body).getD .skip
theorem w63_h : Try.f63.body = some w63_c := by kernel_rfl
theorem w63 (a0_0 : List V) (a0_1 : List V) (a1 : Int) (a2 : List V) (r : List V × List V) (h : d63 a0_0 a0_1 a1 a2 = some r) : Ab.Fn Try.prog TT 63 [.agg [.sl 3 a0_0, .sl 5 a0_1], .i .i64 a1, .sl 5 a2] (.agg [.row 0, .row 1]) [(0, .row 3 r.1), (1, .row 5 r.2)] := by
  refine fn_own tok (fun r => match r with | 5 => [[],[0],[],[],[2,3],[],[],[5,6],[5,6,7],[0,1,2,3,4,5,6,7,8],[0,1,2,3,4,5,6,7,8,9]] | _ => []) Try.func63 (by kernel_rfl) w63_h (by kernel_rfl) ?_
  intro ar un cv mn mx pl mi cmp nt beq an scmp cat slen sbyte ssub ofB toB len gi gb gs gl sub put app ovl rep ne0 ge0 inb bnd room sroom need br call loop cut nl E R K hK
  have D := E.D
  clear E
  unfold d63 at h
  cbv
  refine R.callD h (fun x1 hx1 h2 => ?_)
  clear h; have h := h2; clear h2
  refine R.call' (w56 _ _ _ hx1) (by (first | rfl | simp only [D.har, D.hcmp, D.hgi, D.hinb, D.hlen, D.hput])) ?_
  clear hx1; cbv
  refine R.cutB (fun p => p) (fun _ _ e => e) h [] (fun p8 => []) (fun p8 => [(161, .row 5 p8)]) (by kernel_rfl) (by kernel_rfl) (fun y4 hy hFy4 L hLy4 => ?_) (fun p8 h2 => ?_)
  · clear h; have h := hy; clear hy; cbv
    refine R.loopD h (fun s0 y6 e0 hi hFs5 => ?_)
    clear h
    refine R.loopI hi [] (fun s5 => [(8, .i .i64 s5.1)]) (fun s5 => [(161, .row 5 s5.2)]) ⟨rfl, ?_, ?_, rfl, rfl⟩ (by kernel_rfl) ?_
    · cbv; try (subst e0; simp only [D.har, D.hcmp, D.hgi, D.hinb, D.hlen, D.hput, and_self, and_true, true_and] <;> (repeat' apply And.intro) <;> rfl)
    · cbv; try (subst e0; simp only [D.har, D.hcmp, D.hgi, D.hinb, D.hlen, D.hput, and_self, and_true, true_and] <;> (repeat' apply And.intro) <;> rfl)
    clear hi e0
    intro s5 m y' hy hins5 houts5 L hLs5
    have h := hy; clear hy; unfold d63_b1 at h
    cbv
    refine R.cut' (by kernel_rfl) (by kernel_rfl) ?_
    cbv
    refine R.brD h (by (first | rfl | simp only [D.har, D.hcmp, D.hgi, D.hinb, D.hlen, D.hput])) ?_ ?_ <;> clear h <;> intro h <;> cbv
    · refine R.cut' (by kernel_rfl) (by kernel_rfl) ?_
      cbv
      refine R.needD h (by (first | rfl | simp only [D.har, D.hcmp, D.hgi, D.hinb, D.hlen, D.hput])) ?_
      clear h; intro h; cbv
      refine R.needD h (by (first | rfl | simp only [D.har, D.hcmp, D.hgi, D.hinb, D.hlen, D.hput])) ?_
      clear h; intro h; cbv
      obtain ⟨s', e, hi⟩ := inl_some h hins5
      refine hLs5 s' _ _ hi ⟨rfl, ?_, ?_, rfl, rfl⟩ <;> cbv <;> (try (subst e; simp only [D.har, D.hcmp, D.hgi, D.hinb, D.hlen, D.hput, and_self, and_true, true_and] <;> (repeat' apply And.intro) <;> rfl))
    · have e := inr_some h houts5; clear h
      have h := hFs5; rw [e] at h; clear e; try dsimp only at h
      cbv
      obtain ⟨s', e, hi⟩ := jn_some (fun p => p) h
      refine hLy4 s' _ _ hi ⟨rfl, ?_, ?_, rfl, rfl⟩ <;> cbv <;> (try (subst e; simp only [D.har, D.hcmp, D.hgi, D.hinb, D.hlen, D.hput, and_self, and_true, true_and] <;> (repeat' apply And.intro) <;> rfl))
  · clear h; have h := h2; clear h2; try dsimp only at h
    cbv
    have e := ret_some h; clear h
    refine hK _ _ ⟨rfl, ⟨?_, rfl, rfl, rfl, ?_⟩⟩ <;> cbv <;> (try (subst e; simp only [D.har, D.hcmp, D.hgi, D.hinb, D.hlen, D.hput, and_self, and_true, true_and] <;> (repeat' apply And.intro) <;> rfl))
theorem w63s (a0_0 : List V) (a0_1 : List V) (a1 : Int) (a2 : List V) (r : List V × List V) (h : d63 a0_0 a0_1 a1 a2 = some r) : Ab.Fn Try.prog TT 63 [.agg [.sl 3 a0_0, .sl 5 a0_1], .i .i64 a1, .sl 5 a2] (.agg [.sl 3 r.1, .sl 5 r.2]) [] :=
  (w63 a0_0 a0_1 a1 a2 r h).pure (by simp [ple, ple1, ple1L, pleL, pleS, Ab.look])

noncomputable def d34 (a0_0 : List V) (a0_1 : List V) (a1 : Int) (a2_0 : Int) (a2_1 : Bool) (a3 : Int) : Option (List V × List V × Int × Int × Int) :=
  (d27 a0_0 a0_1).bind fun x1 =>
  Option.bind (α := Int) (
    if (cmpLit .eql x1 0) = true then
      (d30 a2_0 a2_1).bind fun x4 =>
      some x4
    else
      some x1) fun y3 =>
  if (cmpLit .neq y3 0) = true then
    some ([], [], 0, 0, y3)
  else
    (d60 a0_0 a0_1 a1 a2_0 2).bind fun x6 =>
    if (cmpLit .neq x6.1 0) = true then
      some ([], [], x6.1, x6.2, 0)
    else
      (d62 a2_0 a2_1 a3).bind fun x7 =>
      (d63 a0_0 a0_1 a1 x7.1).bind fun x8 =>
      some (x8.1, x8.2, 0, 0, 0)
noncomputable def w34_c : Code := (Try.f34.body).getD .skip
theorem w34_h : Try.f34.body = some w34_c := by kernel_rfl
theorem w34 (a0_0 : List V) (a0_1 : List V) (a1 : Int) (a2_0 : Int) (a2_1 : Bool) (a3 : Int) (r : List V × List V × Int × Int × Int) (h : d34 a0_0 a0_1 a1 a2_0 a2_1 a3 = some r) : Ab.Fn Try.prog TT 34 [.agg [.sl 3 a0_0, .sl 5 a0_1], .i .i64 a1, .agg [.i .i64 a2_0, .b a2_1], .i .i64 a3] (.agg [.sl 3 r.1, .sl 5 r.2.1, .i .i64 r.2.2.1, .i .i64 r.2.2.2.1, .i .i64 r.2.2.2.2]) [] := by
  refine fn_pure tok W0 Try.func34 (by kernel_rfl) w34_h (by kernel_rfl) ?_
  intro ar un cv mn mx pl mi cmp nt beq an scmp cat slen sbyte ssub ofB toB len gi gb gs gl sub put app ovl rep ne0 ge0 inb bnd room sroom need br call loop cut nl E R K hK
  have D := E.D
  clear E
  unfold d34 at h
  cbv
  refine R.callD h (fun x1 hx1 h2 => ?_)
  clear h; have h := h2; clear h2
  refine R.call' (w27 _ _ _ hx1) (by (first | rfl | simp only [D.hcmp])) ?_
  clear hx1; cbv
  refine R.cutB (fun p => p) (fun _ _ e => e) h [] (fun p5 => [(9, .i .i64 p5)]) (fun p5 => []) (by kernel_rfl) (by kernel_rfl) (fun y3 hy hFy3 L hLy3 => ?_) (fun p5 h2 => ?_)
  · clear h; have h := hy; clear hy; cbv
    refine R.brD h (by (first | rfl | simp only [D.hcmp])) ?_ ?_ <;> clear h <;> intro h <;> cbv
    · refine R.callD h (fun x4 hx4 h2 => ?_)
      clear h; have h := h2; clear h2
      refine R.call' (w30 _ _ _ hx4) (by (first | rfl | simp only [D.hcmp])) ?_
      clear hx4; cbv
      obtain ⟨s', e, hi⟩ := jn_some (fun p => p) h
      refine hLy3 s' _ _ hi ⟨rfl, ?_, ?_, rfl, rfl⟩ <;> cbv <;> (try (subst e; simp only [D.hcmp, and_self, and_true, true_and] <;> (repeat' apply And.intro) <;> rfl))
    · obtain ⟨s', e, hi⟩ := jn_some (fun p => p) h
      refine hLy3 s' _ _ hi ⟨rfl, ?_, ?_, rfl, rfl⟩ <;> cbv <;> (try (subst e; simp only [D.hcmp, and_self, and_true, true_and] <;> (repeat' apply And.intro) <;> rfl))
  · clear h; have h := h2; clear h2; try dsimp only at h
    cbv
    refine R.cut' (by kernel_rfl) (by kernel_rfl) ?_
    cbv
    refine R.brD h (by (first | rfl | simp only [D.hcmp])) ?_ ?_ <;> clear h <;> intro h <;> cbv
    · have e := ret_some h; clear h
      refine hK _ _ ?_
      cbv
      try (subst e; simp only [D.hcmp, and_self, and_true, true_and] <;> (repeat' apply And.intro) <;> rfl)
    · refine R.callD h (fun x6 hx6 h2 => ?_)
      clear h; have h := h2; clear h2
      refine R.call' (w60 _ _ _ _ _ _ hx6) (by (first | rfl | simp only [D.hcmp])) ?_
      clear hx6; cbv
      refine R.cut' (by kernel_rfl) (by kernel_rfl) ?_
      cbv
      refine R.brD h (by (first | rfl | simp only [D.hcmp])) ?_ ?_ <;> clear h <;> intro h <;> cbv
      · have e := ret_some h; clear h
        refine hK _ _ ?_
        cbv
        try (subst e; simp only [D.hcmp, and_self, and_true, true_and] <;> (repeat' apply And.intro) <;> rfl)
      · refine R.callD h (fun x7 hx7 h2 => ?_)
        clear h; have h := h2; clear h2
        refine R.call' (w62s _ _ _ _ hx7) (by (first | rfl | simp only [D.hcmp])) ?_
        clear hx7; cbv
        refine R.callD h (fun x8 hx8 h2 => ?_)
        clear h; have h := h2; clear h2
        refine R.call' (w63s _ _ _ _ _ hx8) (by (first | rfl | simp only [D.hcmp])) ?_
        clear hx8; cbv
        have e := ret_some h; clear h
        refine hK _ _ ?_
        cbv
        try (subst e; simp only [D.hcmp, and_self, and_true, true_and] <;> (repeat' apply And.intro) <;> rfl)

noncomputable def d35 (a0_0 : List V) (a0_1 : List V) (a1 : Int) (a2 : List V) : Option (List V × List V × Int × Int × Int) :=
  (d27 a0_0 a0_1).bind fun x2 =>
  if (cmpLit .neq x2 0) = true then
    some ([], [], 0, 0, 30)
  else
    if (cmpLit .gtr (lenI a2) 2048) = true then
      some ([], [], 0, 0, 2)
    else
      (d60 a0_0 a0_1 a1 (lenI a2) 0).bind fun x3 =>
      if (cmpLit .neq x3.1 0) = true then
        some ([], [], x3.1, x3.2, 0)
      else
        (d63 a0_0 a0_1 a1 a2).bind fun x4 =>
        some (x4.1, x4.2, 0, 0, 0)
noncomputable def w35_c : Code := (Try.f35.body).getD .skip
theorem w35_h : Try.f35.body = some w35_c := by kernel_rfl
theorem w35 (a0_0 : List V) (a0_1 : List V) (a1 : Int) (a2 : List V) (r : List V × List V × Int × Int × Int) (h : d35 a0_0 a0_1 a1 a2 = some r) : Ab.Fn Try.prog TT 35 [.agg [.sl 3 a0_0, .sl 5 a0_1], .i .i64 a1, .sl 5 a2] (.agg [.sl 3 r.1, .sl 5 r.2.1, .i .i64 r.2.2.1, .i .i64 r.2.2.2.1, .i .i64 r.2.2.2.2]) [] := by
  refine fn_pure tok W0 Try.func35 (by kernel_rfl) w35_h (by kernel_rfl) ?_
  intro ar un cv mn mx pl mi cmp nt beq an scmp cat slen sbyte ssub ofB toB len gi gb gs gl sub put app ovl rep ne0 ge0 inb bnd room sroom need br call loop cut nl E R K hK
  have D := E.D
  clear E
  unfold d35 at h
  cbv
  refine R.cut' (by kernel_rfl) (by kernel_rfl) ?_
  cbv
  refine R.callD h (fun x2 hx2 h2 => ?_)
  clear h; have h := h2; clear h2
  refine R.call' (w27 _ _ _ hx2) (by (first | rfl | simp only [D.hcmp, D.hlen])) ?_
  clear hx2; cbv
  refine R.brD h (by (first | rfl | simp only [D.hcmp, D.hlen])) ?_ ?_ <;> clear h <;> intro h <;> cbv
  · have e := ret_some h; clear h
    refine hK _ _ ?_
    cbv
    try (subst e; simp only [D.hcmp, D.hlen, and_self, and_true, true_and] <;> (repeat' apply And.intro) <;> rfl)
  · refine R.cut' (by kernel_rfl) (by kernel_rfl) ?_
    cbv
    refine R.brD h (by (first | rfl | simp only [D.hcmp, D.hlen])) ?_ ?_ <;> clear h <;> intro h <;> cbv
    · have e := ret_some h; clear h
      refine hK _ _ ?_
      cbv
      try (subst e; simp only [D.hcmp, D.hlen, and_self, and_true, true_and] <;> (repeat' apply And.intro) <;> rfl)
    · refine R.callD h (fun x3 hx3 h2 => ?_)
      clear h; have h := h2; clear h2
      refine R.call' (w60 _ _ _ _ _ _ hx3) (by (first | rfl | simp only [D.hcmp, D.hlen])) ?_
      clear hx3; cbv
      refine R.cut' (by kernel_rfl) (by kernel_rfl) ?_
      cbv
      refine R.brD h (by (first | rfl | simp only [D.hcmp, D.hlen])) ?_ ?_ <;> clear h <;> intro h <;> cbv
      · have e := ret_some h; clear h
        refine hK _ _ ?_
        cbv
        try (subst e; simp only [D.hcmp, D.hlen, and_self, and_true, true_and] <;> (repeat' apply And.intro) <;> rfl)
      · refine R.callD h (fun x4 hx4 h2 => ?_)
        clear h; have h := h2; clear h2
        refine R.call' (w63s _ _ _ _ _ hx4) (by (first | rfl | simp only [D.hcmp, D.hlen])) ?_
        clear hx4; cbv
        have e := ret_some h; clear h
        refine hK _ _ ?_
        cbv
        try (subst e; simp only [D.hcmp, D.hlen, and_self, and_true, true_and] <;> (repeat' apply And.intro) <;> rfl)

end Go.Proofs.Ytmpdimigpaogkaa
end
section
namespace Go.Proofs.Ytmpdimigpaogkaa
open Go.Ab Go.RowKit Go.Proofs.Ytmpdimigpaogkaa.G Go.Proofs.YtmpdimigpaogkaaW.PrintWords Go.Proofs.YtmpdimigpaogkaaW.PrintLast
set_option maxRecDepth 100000
set_option maxHeartbeats 4000000
noncomputable def d41_b1 (a0_0 : List V) (a0_1 : List V) (a1_0 : List V) (a1_1 : List V) (s10 : Int) : Option ((Int) ⊕ ((List V × Int) ⊕ (Unit))) :=
  if (cmpLit .lss s10 (lenI [.agg [.sl 3 a0_0, .sl 5 a0_1], .agg [.sl 3 a1_0, .sl 5 a1_1]])) = true then
    if (Inb s10 (lenI [.agg [.sl 3 a0_0, .sl 5 a0_1], .agg [.sl 3 a1_0, .sl 5 a1_1]])) then
      (d18 (gL [.agg [.sl 3 a0_0, .sl 5 a0_1], .agg [.sl 3 a1_0, .sl 5 a1_1]] s10 0) (gL [.agg [.sl 3 a0_0, .sl 5 a0_1], .agg [.sl 3 a1_0, .sl 5 a1_1]] s10 1)).bind fun x15 =>
      if (cmpLit .neq x15 0) = true then
        some (.inr (.inl ([], x15)))
      else
        some (.inl (arReal .add .i64 s10 1))
    else none
  else
    some (.inr (.inr ()))
noncomputable def d41_b2 (a0_1 : List V) (a1_1 : List V) (s24 : Int × List V) : Option ((Int × List V) ⊕ (List V)) :=
  if (cmpLit .lss s24.1 (lenI a0_1)) = true then
    if (Inb s24.1 (lenI a0_1)) then
      if (Inb s24.1 (lenI a1_1)) then
        if (cmpLit .neq (gI a0_1 s24.1 0) (gI a1_1 s24.1 0)) = true then
          if (Inb s24.1 (lenI a1_1)) then
            if (Room (lenI (appL s24.2 [.agg [.i .i64 s24.1, .i .u8 (gI a0_1 s24.1 0), .i .u8 (gI a1_1 s24.1 0)]])) 16) then
              some (.inl ((arReal .add .i64 s24.1 1), (appL s24.2 [.agg [.i .i64 s24.1, .i .u8 (gI a0_1 s24.1 0), .i .u8 (gI a1_1 s24.1 0)]])))
            else none
          else none
        else
          some (.inl ((arReal .add .i64 s24.1 1), s24.2))
      else none
    else none
  else
    some (.inr s24.2)
noncomputable def d41 (a0_0 : List V) (a0_1 : List V) (a1_0 : List V) (a1_1 : List V) : Option (List V × Int) :=
  Option.bind (α := (Unit) ⊕ (List V × Int)) (
    (iter (d41_b1 a0_0 a0_1 a1_0 a1_1) 0).bind fun y13 =>
    match y13 with
    | .inl p16 =>
      some (.inr p16)
    | .inr y13r0 =>
      some (.inl ())) fun y7 =>
  match y7 with
  | .inl p18 =>
    (d58 a0_0 a1_0).bind fun x20 =>
    if (notB' x20) = true then
      some ([], 1)
    else
      Option.bind (α := List V) (
        (iter (d41_b2 a0_1 a1_1) (0, [])).bind fun y25 =>
        some y25) fun y23 =>
      some (y23, 0)
  | .inr y7r0 =>
    some y7r0
noncomputable def w41_c : Code := (Try.f41.body).getD .skip
theorem w41_h : Try.f41.body = some w41_c := by kernel_rfl
theorem w41 (a0_0 : List V) (a0_1 : List V) (a1_0 : List V) (a1_1 : List V) (r : List V × Int) (h : d41 a0_0 a0_1 a1_0 a1_1 = some r) : Ab.Fn Try.prog TT 41 [.agg [.sl 3 a0_0, .sl 5 a0_1], .agg [.sl 3 a1_0, .sl 5 a1_1]] (.tup [.row 0, .i .i64 r.2]) [(0, .row 94 r.1)] := by
  refine fn_own tok W0 Try.func41 (by kernel_rfl) w41_h (by kernel_rfl) ?_
  intro ar un cv mn mx pl mi cmp nt beq an scmp cat slen sbyte ssub ofB toB len gi gb gs gl sub put app ovl rep ne0 ge0 inb bnd room sroom need br call loop cut nl E R K hK
  have D := E.D
  clear E
  unfold d41 at h
  cbv
  refine R.cutB Sum.inl (fun _ _ e => Sum.inl.inj e) h [] (fun p18 => []) (fun p18 => []) (by kernel_rfl) (by kernel_rfl) (fun y7 hy hFy7 L hLy7 => ?_) (fun p18 h2 => ?_)
  · clear h; have h := hy; clear hy; cbv
    refine R.loopD h (fun s0 y13 e0 hi hFs10 => ?_)
    clear h
    refine R.loopI hi [] (fun s10 => [(16, .i .i64 s10)]) (fun s10 => []) ⟨rfl, ?_, ?_, rfl, rfl⟩ (by kernel_rfl) ?_
    · cbv; try (subst e0; simp only [D.happ, D.har, D.hcmp, D.hgi, D.hgl, D.hinb, D.hlen, D.hnt, D.hroom, and_self, and_true, true_and] <;> (repeat' apply And.intro) <;> rfl)
    · cbv; try (subst e0; simp only [D.happ, D.har, D.hcmp, D.hgi, D.hgl, D.hinb, D.hlen, D.hnt, D.hroom, and_self, and_true, true_and] <;> (repeat' apply And.intro) <;> rfl)
    clear hi e0
    intro s10 m y' hy hins10 houts10 L hLs10
    have h := hy; clear hy; unfold d41_b1 at h
    cbv
    refine R.cut' (by kernel_rfl) (by kernel_rfl) ?_
    cbv
    refine R.brD h (by (first | rfl | simp only [D.happ, D.har, D.hcmp, D.hgi, D.hgl, D.hinb, D.hlen, D.hnt, D.hroom])) ?_ ?_ <;> clear h <;> intro h <;> cbv
    · refine R.cut' (by kernel_rfl) (by kernel_rfl) ?_
      cbv
      refine R.needD h (by (first | rfl | simp only [D.happ, D.har, D.hcmp, D.hgi, D.hgl, D.hinb, D.hlen, D.hnt, D.hroom])) ?_
      clear h; intro h; cbv
      refine R.callD h (fun x15 hx15 h2 => ?_)
      clear h; have h := h2; clear h2
      refine R.call' (w18 _ _ _ hx15) (by (first | rfl | simp only [D.happ, D.har, D.hcmp, D.hgi, D.hgl, D.hinb, D.hlen, D.hnt, D.hroom])) ?_
      clear hx15; cbv
      refine R.brD h (by (first | rfl | simp only [D.happ, D.har, D.hcmp, D.hgi, D.hgl, D.hinb, D.hlen, D.hnt, D.hroom])) ?_ ?_ <;> clear h <;> intro h <;> cbv
      · have e := inr_some h houts10; clear h
        have h := hFs10; rw [e] at h; clear e; try dsimp only at h
        cbv
        have e := ret_some h; clear h
        have h := hFy7; rw [e] at h; clear e; try dsimp only at h
        cbv
        have e := ret_some h; clear h
        refine hK _ _ ⟨rfl, ⟨?_, rfl, rfl, rfl, ?_⟩⟩ <;> cbv <;> (try (subst e; simp only [D.happ, D.har, D.hcmp, D.hgi, D.hgl, D.hinb, D.hlen, D.hnt, D.hroom, and_self, and_true, true_and] <;> (repeat' apply And.intro) <;> rfl))
      · obtain ⟨s', e, hi⟩ := inl_some h hins10
        refine hLs10 s' _ _ hi ⟨rfl, ?_, ?_, rfl, rfl⟩ <;> cbv <;> (try (subst e; simp only [D.happ, D.har, D.hcmp, D.hgi, D.hgl, D.hinb, D.hlen, D.hnt, D.hroom, and_self, and_true, true_and] <;> (repeat' apply And.intro) <;> rfl))
    · have e := inr_some h houts10; clear h
      have h := hFs10; rw [e] at h; clear e; try dsimp only at h
      cbv
      obtain ⟨s', e, hi⟩ := jn_some Sum.inl h
      refine hLy7 s' _ _ hi ⟨rfl, ?_, ?_, rfl, rfl⟩ <;> cbv <;> (try (subst e; simp only [D.happ, D.har, D.hcmp, D.hgi, D.hgl, D.hinb, D.hlen, D.hnt, D.hroom, and_self, and_true, true_and] <;> (repeat' apply And.intro) <;> rfl))
  · clear h; have h := h2; clear h2; try dsimp only at h
    cbv
    refine R.cut' (by kernel_rfl) (by kernel_rfl) ?_
    cbv
    refine R.callD h (fun x20 hx20 h2 => ?_)
    clear h; have h := h2; clear h2
    refine R.call' (w58 _ _ _ hx20) (by (first | rfl | simp only [D.happ, D.har, D.hcmp, D.hgi, D.hgl, D.hinb, D.hlen, D.hnt, D.hroom])) ?_
    clear hx20; cbv
    refine R.brD h (by (first | rfl | simp only [D.happ, D.har, D.hcmp, D.hgi, D.hgl, D.hinb, D.hlen, D.hnt, D.hroom])) ?_ ?_ <;> clear h <;> intro h <;> cbv
    · have e := ret_some h; clear h
      refine hK _ _ ⟨rfl, ⟨?_, rfl, rfl, rfl, ?_⟩⟩ <;> cbv <;> (try (subst e; simp only [D.happ, D.har, D.hcmp, D.hgi, D.hgl, D.hinb, D.hlen, D.hnt, D.hroom, and_self, and_true, true_and] <;> (repeat' apply And.intro) <;> rfl))
    · refine R.cutB (fun p => p) (fun _ _ e => e) h [] (fun p27 => [(9, .row 159)]) (fun p27 => [(159, .row 94 p27)]) (by kernel_rfl) (by kernel_rfl) (fun y23 hy hFy23 L hLy23 => ?_) (fun p27 h2 => ?_)
      · clear h; have h := hy; clear hy; cbv
        refine R.loopD h (fun s0 y25 e0 hi hFs24 => ?_)
        clear h
        refine R.born' (e := te94) 9 159 94 rfl rfl (by kernel_rfl) (by decide) ?_
        refine R.loopI hi [] (fun s24 => [(9, .row 159), (35, .i .i64 s24.1)]) (fun s24 => [(159, .row 94 s24.2)]) ⟨rfl, ?_, ?_, rfl, rfl⟩ (by kernel_rfl) ?_
        · cbv; try (subst e0; simp only [D.happ, D.har, D.hcmp, D.hgi, D.hgl, D.hinb, D.hlen, D.hnt, D.hroom, and_self, and_true, true_and] <;> (repeat' apply And.intro) <;> rfl)
        · cbv; try (subst e0; simp only [D.happ, D.har, D.hcmp, D.hgi, D.hgl, D.hinb, D.hlen, D.hnt, D.hroom, and_self, and_true, true_and] <;> (repeat' apply And.intro) <;> rfl)
        clear hi e0
        intro s24 m y' hy hins24 houts24 L hLs24
        have h := hy; clear hy; unfold d41_b2 at h
        cbv
        refine R.cut' (by kernel_rfl) (by kernel_rfl) ?_
        cbv
        refine R.brD h (by (first | rfl | simp only [D.happ, D.har, D.hcmp, D.hgi, D.hgl, D.hinb, D.hlen, D.hnt, D.hroom])) ?_ ?_ <;> clear h <;> intro h <;> cbv
        · refine R.cut' (by kernel_rfl) (by kernel_rfl) ?_
          cbv
          refine R.needD h (by (first | rfl | simp only [D.happ, D.har, D.hcmp, D.hgi, D.hgl, D.hinb, D.hlen, D.hnt, D.hroom])) ?_
          clear h; intro h; cbv
          refine R.needD h (by (first | rfl | simp only [D.happ, D.har, D.hcmp, D.hgi, D.hgl, D.hinb, D.hlen, D.hnt, D.hroom])) ?_
          clear h; intro h; cbv
          refine R.brD h (by (first | rfl | simp only [D.happ, D.har, D.hcmp, D.hgi, D.hgl, D.hinb, D.hlen, D.hnt, D.hroom])) ?_ ?_ <;> clear h <;> intro h <;> cbv
          · refine R.needD h (by (first | rfl | simp only [D.happ, D.har, D.hcmp, D.hgi, D.hgl, D.hinb, D.hlen, D.hnt, D.hroom])) ?_
            clear h; intro h; cbv
            refine R.needD h (by (first | rfl | simp only [D.happ, D.har, D.hcmp, D.hgi, D.hgl, D.hinb, D.hlen, D.hnt, D.hroom])) ?_
            clear h; intro h; cbv
            obtain ⟨s', e, hi⟩ := inl_some h hins24
            refine hLs24 s' _ _ hi ⟨rfl, ?_, ?_, rfl, rfl⟩ <;> cbv <;> (try (subst e; simp only [D.happ, D.har, D.hcmp, D.hgi, D.hgl, D.hinb, D.hlen, D.hnt, D.hroom, and_self, and_true, true_and] <;> (repeat' apply And.intro) <;> rfl))
          · obtain ⟨s', e, hi⟩ := inl_some h hins24
            refine hLs24 s' _ _ hi ⟨rfl, ?_, ?_, rfl, rfl⟩ <;> cbv <;> (try (subst e; simp only [D.happ, D.har, D.hcmp, D.hgi, D.hgl, D.hinb, D.hlen, D.hnt, D.hroom, and_self, and_true, true_and] <;> (repeat' apply And.intro) <;> rfl))
        · have e := inr_some h houts24; clear h
          have h := hFs24; rw [e] at h; clear e; try dsimp only at h
          cbv
          obtain ⟨s', e, hi⟩ := jn_some (fun p => p) h
          refine hLy23 s' _ _ hi ⟨rfl, ?_, ?_, rfl, rfl⟩ <;> cbv <;> (try (subst e; simp only [D.happ, D.har, D.hcmp, D.hgi, D.hgl, D.hinb, D.hlen, D.hnt, D.hroom, and_self, and_true, true_and] <;> (repeat' apply And.intro) <;> rfl))
      · clear h; have h := h2; clear h2; try dsimp only at h
        cbv
        have e := ret_some h; clear h
        refine hK _ _ ⟨rfl, ⟨?_, rfl, rfl, rfl, ?_⟩⟩ <;> cbv <;> (try (subst e; simp only [D.happ, D.har, D.hcmp, D.hgi, D.hgl, D.hinb, D.hlen, D.hnt, D.hroom, and_self, and_true, true_and] <;> (repeat' apply And.intro) <;> rfl))
theorem w41s (a0_0 : List V) (a0_1 : List V) (a1_0 : List V) (a1_1 : List V) (r : List V × Int) (h : d41 a0_0 a0_1 a1_0 a1_1 = some r) : Ab.Fn Try.prog TT 41 [.agg [.sl 3 a0_0, .sl 5 a0_1], .agg [.sl 3 a1_0, .sl 5 a1_1]] (.tup [.sl 94 r.1, .i .i64 r.2]) [] :=
  (w41 a0_0 a0_1 a1_0 a1_1 r h).pure (by simp [ple, ple1, ple1L, pleL, pleS, Ab.look])

noncomputable def d44 (a0_0 : Int) (a0_1 : Bool) (a1 : Int) : Option (Int × Int) :=
  (d30 a0_0 a0_1).bind fun x2 =>
  if (cmpLit .neq x2 0) = true then
    some (0, x2)
  else
    (d67 a0_0 a0_1 a1).bind fun x3 =>
    some (x3, 0)
noncomputable def w44_c : Code := (Try.f44.body).getD .skip
theorem w44_h : Try.f44.body = some w44_c := by kernel_rfl
theorem w44 (a0_0 : Int) (a0_1 : Bool) (a1 : Int) (r : Int × Int) (h : d44 a0_0 a0_1 a1 = some r) : Ab.Fn Try.prog TT 44 [.agg [.i .i64 a0_0, .b a0_1], .i .i64 a1] (.tup [.i .i64 r.1, .i .i64 r.2]) [] := by
  refine fn_pure tok W0 Try.func44 (by kernel_rfl) w44_h (by kernel_rfl) ?_
  intro ar un cv mn mx pl mi cmp nt beq an scmp cat slen sbyte ssub ofB toB len gi gb gs gl sub put app ovl rep ne0 ge0 inb bnd room sroom need br call loop cut nl E R K hK
  have D := E.D
  clear E
  unfold d44 at h
  cbv
  refine R.cut' (by kernel_rfl) (by kernel_rfl) ?_
  cbv
  refine R.callD h (fun x2 hx2 h2 => ?_)
  clear h; have h := h2; clear h2
  refine R.call' (w30 _ _ _ hx2) (by (first | rfl | simp only [D.hcmp])) ?_
  clear hx2; cbv
  refine R.brD h (by (first | rfl | simp only [D.hcmp])) ?_ ?_ <;> clear h <;> intro h <;> cbv
  · have e := ret_some h; clear h
    refine hK _ _ ?_
    cbv
    try (subst e; simp only [D.hcmp, and_self, and_true, true_and] <;> (repeat' apply And.intro) <;> rfl)
  · refine R.callD h (fun x3 hx3 h2 => ?_)
    clear h; have h := h2; clear h2
    refine R.call' (w67 _ _ _ _ hx3) (by (first | rfl | simp only [D.hcmp])) ?_
    clear hx3; cbv
    have e := ret_some h; clear h
    refine hK _ _ ?_
    cbv
    try (subst e; simp only [D.hcmp, and_self, and_true, true_and] <;> (repeat' apply And.intro) <;> rfl)
end Go.Proofs.Ytmpdimigpaogkaa
end
section
namespace Go.Proofs.Ytmpdimigpaogkaa
open Go.Ab Go.RowKit Go.Proofs.Ytmpdimigpaogkaa.G Go.Proofs.YtmpdimigpaogkaaW.PrintWords Go.Proofs.YtmpdimigpaogkaaW.PrintLast
theorem s72 (P B : List Int) (x : Int) : d72 (ints P) (u8s B) x = some (hasB B x) := by
  unfold d72 hasB
  simp only [c_geq, c_lss, lenI_u8s, decide_eq_true_eq]
  by_cases h : 0 ≤ x <;> simp [h]
theorem a_quo {x : Int} (h0 : 0 ≤ x) (h1 : x ≤ 9223372036854775807) : arReal .quo .i64 x 64 = x / 64 := by
  show IntKind.i64.wrap (x.tdiv 64) = _
  rw [Int.tdiv_eq_ediv_of_nonneg h0]
  exact wr (by omega) (by omega)
theorem hasB_iff {B : List Int} {x : Int} : hasB B x = true ↔ 0 ≤ x ∧ x < ln B := by unfold hasB; exact decide_eq_true_iff
theorem it60 {P B : List Int} (hc : checkV P B = 0) (a n p : Int) (hp : p = 0 ∨ p = 1 ∨ p = 2 ∨ p = 4) (hn : n ≤ 9223372036854775807) :
    iter (d60_b1 (ints P) (u8s B) a n p) 0 = some (if (faultR P B a p n.toNat 0).1 = 0 then .inr () else .inl (faultR P B a p n.toNat 0)) := by
  obtain ⟨v1, v2, v3⟩ := check_to hc
  refine iter_fun (fun s => 0 ≤ s ∧ faultR P B a p (n - s).toNat s = faultR P B a p n.toNat 0) (fun s => (n - s).toNat) (fun _ => (if (faultR P B a p n.toNat 0).1 = 0 then Sum.inr () else Sum.inl (faultR P B a p n.toNat 0) : (Int × Int) ⊕ Unit)) (fun s hs => ?_) 0 ⟨by omega, by simp⟩
  obtain ⟨h0, h1⟩ := hs
  unfold d60_b1
  simp only [c_lss, decide_eq_true_eq]
  by_cases hlt : s < n
  · rw [if_pos hlt, s72, Option.bind_some]
    rw [show (n - s).toNat = (n - (s + 1)).toNat + 1 from by omega] at h1
    simp only [faultR] at h1
    have hx : arReal .add .i64 a s = IntKind.i64.wrap (a + s) := rfl
    have hs1 : arReal .add .i64 s 1 = s + 1 := a_add (by omega) (by omega)
    rw [hx, hs1]
    generalize IntKind.i64.wrap (a + s) = x at *
    by_cases hh : hasB B x = true
    · obtain ⟨x0, x1⟩ := hasB_iff.1 hh
      have hq := perm_at hc x0 x1
      rw [if_neg (by simp [notB', hh]), if_pos (show Ne0 64 by unfold Ne0; omega), a_quo x0 (by omega), lenI_ints, if_pos (show Inb (x / 64) (ln P) from ⟨by omega, by omega⟩)]
      simp only [gI_ints, c_eql, c_neq]
      have key : ∀ r : Option (Int ⊕ ((Int × Int) ⊕ Unit)), r = (if (fault1 P B x p).1 ≠ 0 then some (.inr (.inl (fault1 P B x p))) else some (.inl (s + 1))) → (∃ s', r = some (.inl s') ∧ (0 ≤ s' ∧ faultR P B a p (n - s').toNat s' = faultR P B a p n.toNat 0) ∧ (n - s').toNat < (n - s).toNat ∧ True) ∨ r = some (.inr (if (faultR P B a p n.toNat 0).1 = 0 then Sum.inr () else Sum.inl (faultR P B a p n.toNat 0))) := by
        intro r hr
        by_cases hf : (fault1 P B x p).1 ≠ 0
        · rw [if_pos hf] at h1 hr
          refine .inr ?_
          rw [hr, ← h1, if_neg hf]
        · rw [if_neg hf] at h1 hr
          exact .inl ⟨s + 1, hr, ⟨by omega, h1⟩, by omega, trivial⟩
      apply key
      unfold fault1
      rw [if_pos hh]
      generalize rdI P (x / 64) = q at hq
      rcases hq with rfl | rfl | rfl | rfl <;> rcases hp with rfl | rfl | rfl | rfl <;> simp [show arReal .and .i64 0 1 = 0 from by decide, show arReal .and .i64 0 2 = 0 from by decide, show arReal .and .i64 1 1 = 1 from by decide, show arReal .and .i64 1 2 = 0 from by decide, show arReal .and .i64 3 1 = 1 from by decide, show arReal .and .i64 3 2 = 2 from by decide, show arReal .and .i64 4 1 = 0 from by decide, show arReal .and .i64 4 2 = 0 from by decide]
    · have hh : hasB B x = false := by simpa using hh
      rw [if_pos (by simp [notB', hh])]
      refine .inr ?_
      have e : fault1 P B x p = (1, x) := by unfold fault1; rw [if_neg (by simp [hh])]
      rw [e, if_pos (by simp)] at h1
      rw [← h1, if_neg (by simp)]
  · rw [if_neg hlt]
    refine .inr ?_
    rw [show (n - s).toNat = 0 from by omega] at h1
    simp only [faultR] at h1
    rw [← h1, if_pos rfl]
theorem s60 {P B : List Int} (hc : checkV P B = 0) (a n p : Int) (hp : p = 0 ∨ p = 1 ∨ p = 2 ∨ p = 4) (hn : n ≤ 9223372036854775807) : d60 (ints P) (u8s B) a n p = some (fault P B a n p) := by
  have e : faultR P B a p n.toNat 0 = fault P B a n p := faultR_fault hc hp a n.toNat 0
  unfold d60
  rw [it60 hc a n p hp hn, e]
  by_cases h : (fault P B a n p).1 = 0
  · have := fault_0 hp h
    rw [if_pos h]
    unfold fault; rw [this]; rfl
  · rw [if_neg h]; rfl
theorem app_u8 (l : List Int) (v : Int) : appL (u8s l) [.i .u8 v] = u8s (l ++ [v]) := by simp [appL, u8s]
theorem it61 (P B : List Int) (a n : Int) (h0 : 0 ≤ a) (hn : 0 ≤ n) (h1 : a + n ≤ ln B) (h2 : ln B ≤ 2048) : iter (d61_b1 (u8s B) a n) (0, []) = some (u8s (part B a n)) := by
  refine iter_fun (fun s => 0 ≤ s.1 ∧ s.1 ≤ n ∧ s.2 = u8s (part B a s.1)) (fun s => (n - s.1).toNat) (fun _ => u8s (part B a n)) (fun s hs => ?_) (0, []) ⟨by simp, hn, by rw [part_zero B a h0]; rfl⟩
  obtain ⟨i, l⟩ := s
  obtain ⟨i0, i1, i2⟩ := hs
  simp only at i0 i1 i2
  subst i2
  unfold d61_b1
  simp only [c_lss, decide_eq_true_eq]
  by_cases hlt : i < n
  · rw [if_pos hlt, a_add (a := a) (b := i) (by omega) (by omega), lenI_u8s, if_pos (show Inb (a + i) (ln B) from ⟨by omega, by omega⟩), gI_u8s, app_u8, part_step h0 i0 (by omega), lenI_u8s, part_ln h0 (by omega) (by omega), if_pos (room_1 (by omega)), a_add (by omega) (by omega)]
    exact .inl ⟨_, rfl, ⟨by simp only; omega, by simp only; omega, rfl⟩, by simp only; omega, trivial⟩
  · rw [if_neg hlt]
    have : i = n := by omega
    subst this
    exact .inr rfl
theorem s61 (P : List V) (B : List Int) (a n : Int) (h0 : 0 ≤ a) (hn : 0 ≤ n) (h1 : a + n ≤ ln B) (h2 : ln B ≤ 2048) : d61 P (u8s B) a n = some (u8s (part B a n)) := by
  unfold d61; rw [it61 [] B a n h0 hn h1 h2]; rfl
theorem s61_zero (P B : List V) (a : Int) : d61 P B a 0 = some [] := by
  unfold d61
  rw [iter_inr (r := ([] : List V)) (by unfold d61_b1; rfl)]; rfl
theorem and255 (x : Int) : arReal .and .i64 x 255 = x % 256 := by
  show IntKind.i64.wrap ((BitVec.ofInt 64 x &&& BitVec.ofInt 64 255).toNat : Int) = _
  rw [BitVec.toNat_and, BitVec.toNat_ofInt, show (BitVec.ofInt 64 255).toNat = 2 ^ 8 - 1 from by decide, Nat.and_two_pow_sub_one_eq_mod]
  rw [wr (by omega) (by omega)]
  omega
theorem it62 (a v : Int) (h : 0 ≤ a ∧ a ≤ 8) (hv : -9223372036854775808 ≤ v ∧ v ≤ 9223372036854775807) : iter (d62_b1 a) (v, 0, []) = some (u8s (leBytes a.toNat v)) := by
  have := iter_fun (f := d62_b1 a) (fun s => 0 ≤ s.2.1 ∧ s.2.1 ≤ a ∧ lenI s.2.2 = s.2.1 ∧ -9223372036854775808 ≤ s.1 ∧ s.1 ≤ 9223372036854775807) (fun s => (a - s.2.1).toNat) (fun s => s.2.2 ++ u8s (leBytes (a - s.2.1).toNat s.1)) (fun s hs => ?_) (v, 0, []) ⟨by simp, h.1, rfl, hv⟩
  · simpa using this
  · obtain ⟨x, i, l⟩ := s
    obtain ⟨h0, h1, h2, h3, h4⟩ := hs
    unfold d62_b1
    simp only [c_lss, decide_eq_true_eq] at *
    by_cases hlt : i < a
    · have e0 : arReal .sub .i64 x (x % 256) = x - x % 256 := a_sub (by omega) (by omega)
      have e1 : arReal .quo .i64 (x - x % 256) 256 = x / 256 := by
        show IntKind.i64.wrap ((x - x % 256).tdiv 256) = _
        have : (x - x % 256).tdiv 256 = x / 256 := by
          rw [show x - x % 256 = x / 256 * 256 from by omega]
          exact Int.mul_tdiv_cancel _ (by decide)
        rw [this]
        exact wr (by omega) (by omega)
      rw [if_pos hlt, and255, e0, e1]
      have hl : lenI (appL l [V.i .u8 (wrapK .u8 (x % 256))]) = i + 1 := by rw [← h2]; simp [lenI, appL]
      rw [hl, if_pos (room_1 (by omega)), if_pos (show Ne0 256 by unfold Ne0; omega), a_add (by omega) (by omega)]
      refine .inl ⟨_, rfl, ⟨?_, ?_, ?_, ?_, ?_⟩, ?_, ?_⟩
      · simp only; omega
      · simp only; omega
      · exact hl
      · simp only; omega
      · simp only; omega
      · simp only; omega
      · simp only
        rw [show (a - i).toNat = (a - (i + 1)).toNat + 1 from by omega, leBytes_cons]
        have : wrapK .u8 (x % 256) = x % 256 := by unfold wrapK; rw [u8_wrap]; omega
        rw [this]
        simp [appL, u8s]
    · rw [if_neg hlt]
      refine .inr ?_
      rw [show (a - i).toNat = 0 from by omega]
      simp [leBytes, u8s]
theorem s62 (a : Int) (b : Bool) (v : Int) (hv : -9223372036854775808 ≤ v ∧ v ≤ 9223372036854775807) : d62 a b v = some (if tyOk a = true then (u8s (leBytes a.toNat v), 0) else ([], 10)) := by
  unfold d62
  rw [s30, Option.bind_some]
  by_cases h : tyOk a = true
  · have := ty_pos h
    rw [if_pos h, if_pos h, it62 a v ⟨by omega, by omega⟩ hv]; rfl
  · rw [if_neg h, if_neg h]; rfl
theorem set_u8 (C : List Int) (j v : Int) : putL (u8s C) j 0 [.i .u8 v] = u8s (C.set j.toNat v) := set_nums C j.toNat v
theorem spl_step {B b : List Int} {a i : Nat} (hi : i < b.length) (h : a + b.length ≤ B.length) : (spl B a (b.take i)).set (a + i) (b.getD i 0) = spl B a (b.take (i + 1)) := by
  unfold spl
  have e1 : (B.take a).length = a := by simp; omega
  have e2 : (b.take i).length = i := by simp; omega
  have e3 : (b.take (i + 1)).length = i + 1 := by simp; omega
  rw [e2, e3, List.set_append_right _ _ (by rw [e1]; omega), e1, List.set_append_right _ _ (by rw [e2]; omega), e2, show a + i - a - i = 0 from by omega]
  rw [List.drop_eq_getElem_cons (show a + i < B.length by omega), List.set_cons_zero, List.take_succ_eq_append_getElem hi, List.append_assoc]
  simp [hi]; rfl
theorem it63 (B b : List Int) (a : Int) (h0 : 0 ≤ a) (h1 : a + ln b ≤ ln B) (h2 : ln B ≤ 2048) : iter (d63_b1 a (u8s b)) (0, u8s B) = some (u8s (spl B a.toNat b)) := by
  unfold ln at h1 h2
  refine iter_fun (fun s => 0 ≤ s.1 ∧ s.1 ≤ ln b ∧ s.2 = u8s (spl B a.toNat (b.take s.1.toNat))) (fun s => (ln b - s.1).toNat) (fun _ => u8s (spl B a.toNat b)) (fun s hs => ?_) (0, u8s B) ⟨by simp, ln_nn b, by simp [spl]⟩
  obtain ⟨i, l⟩ := s
  obtain ⟨i0, i1, i2⟩ := hs
  simp only at i0 i1 i2
  subst i2
  unfold d63_b1
  simp only [c_lss, decide_eq_true_eq, lenI_u8s]
  by_cases hlt : i < ln b
  · unfold ln at hlt
    have e : ln (spl B a.toNat (b.take i.toNat)) = ln B := ln_spl h0 (by unfold ln; simp; omega)
    rw [if_pos (show i < ln b from hlt), if_pos (show Inb i (ln b) from ⟨i0, hlt⟩), a_add (a := a) (b := i) (by omega) (by omega), e, if_pos (show Inb (a + i) (ln B) from ⟨by omega, by unfold ln; omega⟩), a_add (by omega) (by omega), gI_u8s, set_u8]
    refine .inl ⟨_, rfl, ⟨by simp only; omega, by simp only; unfold ln; omega, ?_⟩, by simp only; unfold ln; omega, trivial⟩
    simp only
    rw [show (a + i).toNat = a.toNat + i.toNat from by omega, show (i + 1).toNat = i.toNat + 1 from by omega, ← spl_step (by omega) (by omega)]
    rfl
  · rw [if_neg hlt]
    unfold ln at hlt i1
    have : b.take i.toNat = b := List.take_of_length_le (by omega)
    rw [this]
    exact .inr rfl
theorem s63 {P B : List Int} (hc : checkV P B = 0) (b : List Int) (a : Int) (h0 : 0 ≤ a) (h1 : a + ln b ≤ ln B) : d63 (ints P) (u8s B) a (u8s b) = some (ints P, u8s (spl B a.toNat b)) := by
  obtain ⟨c1, c2, _⟩ := check_to hc
  unfold d63
  rw [s56c hc, Option.bind_some]
  simp only []
  rw [it63 B b a h0 h1 (by omega)]; rfl
theorem s63_nil {P B : List Int} (hc : checkV P B = 0) (a : Int) : d63 (ints P) (u8s B) a (u8s []) = some (ints P, u8s B) := by
  unfold d63
  rw [s56c hc, Option.bind_some]
  simp only []
  rw [iter_inr (r := u8s B) (by unfold d63_b1; rfl)]; rfl
theorem wr64 (x : Int) : IntKind.i64.wrap x = (x + 9223372036854775808) % 18446744073709551616 - 9223372036854775808 := by
  unfold IntKind.wrap
  simp [IntKind.bits, IntKind.signed]
  split <;> omega
theorem le_cons (x : Int) (l : List Int) : le (x :: l) = x + 256 * le l := rfl
theorem it45 (l : List Int) (hb : Bytes l) (h8 : ln l ≤ 8) : iter (d45_b1 (u8s l)) (0, ln l - 1) = some (IntKind.i64.wrap (le l)) := by
  unfold ln at h8
  refine iter_fun (fun s => -1 ≤ s.2 ∧ s.2 < ln l ∧ s.1 = IntKind.i64.wrap (le (l.drop (s.2 + 1).toNat))) (fun s => (s.2 + 1).toNat) (fun _ => IntKind.i64.wrap (le l)) (fun s hs => ?_) (0, ln l - 1) ⟨by simp only; have := ln_nn l; omega, by simp only; omega, by simp [ln, le]; rfl⟩
  obtain ⟨x, i⟩ := s
  obtain ⟨h0, h1, h2⟩ := hs
  simp only at h0 h1 h2
  unfold d45_b1
  simp only [c_geq, decide_eq_true_eq, lenI_u8s, gI_u8s]
  by_cases hlt : 0 ≤ i
  · unfold ln at h1
    rw [if_pos hlt, if_pos (show Inb i (ln l) from ⟨hlt, h1⟩), a_sub (by omega) (by omega)]
    refine .inl ⟨_, rfl, ⟨by simp only; omega, by simp only; unfold ln; omega, ?_⟩, by simp only; omega, trivial⟩
    simp only
    have hl : i.toNat < l.length := by omega
    rw [show (i - 1 + 1).toNat = i.toNat from by omega, List.drop_eq_getElem_cons hl, le_cons, h2, show (i + 1).toNat = i.toNat + 1 from by omega]
    have e : rdI l i = l[i.toNat] := by rw [← rdI_lt hl, Int.toNat_of_nonneg hlt]
    have hr := hb _ (List.getElem_mem hl)
    rw [e]
    generalize le (l.drop (i.toNat + 1)) = y
    generalize l[i.toNat] = z at *
    show IntKind.i64.wrap (IntKind.i64.wrap (256 * IntKind.i64.wrap y) + IntKind.i64.wrap z) = _
    simp only [wr64]
    omega
  · rw [if_neg hlt]
    have : i = -1 := by omega
    subst this
    refine .inr ?_
    rw [h2]; rfl
theorem s67 (a : Int) (b : Bool) (v : Int) (h : tyOk a = true) (hv : -9223372036854775808 ≤ v ∧ v ≤ 9223372036854775807) : d67 a b v = some (wrapT a b v) := by
  unfold d67 wrapT
  simp only [c_eql, decide_eq_true_eq]
  rcases ty_iff.1 h with rfl | rfl | rfl | rfl <;> cases b <;> simp [wrapK, IntKind.wrap, IntKind.bits, IntKind.signed, wrap32, wrap64] <;> (try split) <;> omega
theorem i64_r (x : Int) : -9223372036854775808 ≤ IntKind.i64.wrap x ∧ IntKind.i64.wrap x ≤ 9223372036854775807 := by rw [wr64]; omega
theorem s45 (a : Int) (b : Bool) (l : List Int) (hb : Bytes l) (hl : ln l ≤ 9223372036854775807) : d45 a b (u8s l) = some (if tyOk a = true then (if ln l = a then (wrapT a b (IntKind.i64.wrap (le l)), 0) else (0, 1)) else (0, 10)) := by
  unfold d45
  rw [s30, Option.bind_some]
  simp only [c_neq, decide_eq_true_eq, lenI_u8s]
  by_cases h : tyOk a = true
  · have ht := ty_pos h
    rw [if_pos h, if_pos h, if_neg (by simp)]
    by_cases hla : ln l = a
    · rw [if_neg (not_not_intro hla), if_pos hla, a_sub (by have := ln_nn l; omega) (by omega), it45 l hb (by omega), Option.bind_some, Option.bind_some, s67 _ _ _ h (i64_r _)]; rfl
    · rw [if_pos hla, if_neg hla]
  · rw [if_neg h, if_neg h]; rfl
theorem s44 (a : Int) (b : Bool) (v : Int) (hv : -9223372036854775808 ≤ v ∧ v ≤ 9223372036854775807) : d44 a b v = some (if tyOk a = true then (wrapT a b v, 0) else (0, 10)) := by
  unfold d44
  rw [s30, Option.bind_some]
  by_cases h : tyOk a = true
  · rw [if_pos h, if_pos h, s67 a b v h hv]; rfl
  · rw [if_neg h, if_neg h]; rfl
end Go.Proofs.Ytmpdimigpaogkaa
end
section
namespace Go.Proofs.Ytmpdimigpaogkaa
open Go.Ab Go.RowKit Go.Proofs.Ytmpdimigpaogkaa.G Go.Proofs.YtmpdimigpaogkaaW.PrintWords Go.Proofs.YtmpdimigpaogkaaW.PrintLast
set_option maxRecDepth 100000
set_option maxHeartbeats 4000000
noncomputable def d37 (a0_0 : List V) (a0_1 : List V) (a1 : Int) (a2 : Int) (a3 : Int) : Option (Int × Int × Int) :=
  (d27 a0_0 a0_1).bind fun x2 =>
  if (cmpLit .neq x2 0) = true then
    some (0, 0, 30)
  else
    Option.bind (α := Bool) (
      if (cmpLit .lss a2 0) = true then
        some true
      else
        if (cmpLit .gtr a2 2048) = true then
          some true
        else
          if (cmpLit .neq a3 1) = true then
            if (cmpLit .neq a3 2) = true then
              some (cmpLit .neq a3 4)
            else
              some false
          else
            some false) fun y5 =>
    if y5 = true then
      some (0, 0, 1)
    else
      (d60 a0_0 a0_1 a1 a2 a3).bind fun x7 =>
      some (x7.1, x7.2, 0)
noncomputable def w37_c : Code := (Try.f37.body).getD .skip
theorem w37_h : Try.f37.body = some w37_c := by kernel_rfl
theorem w37 (a0_0 : List V) (a0_1 : List V) (a1 : Int) (a2 : Int) (a3 : Int) (r : Int × Int × Int) (h : d37 a0_0 a0_1 a1 a2 a3 = some r) : Ab.Fn Try.prog TT 37 [.agg [.sl 3 a0_0, .sl 5 a0_1], .i .i64 a1, .i .i64 a2, .i .i64 a3] (.agg [.i .i64 r.1, .i .i64 r.2.1, .i .i64 r.2.2]) [] := by
  refine fn_pure tok W0 Try.func37 (by kernel_rfl) w37_h (by kernel_rfl) ?_
  intro ar un cv mn mx pl mi cmp nt beq an scmp cat slen sbyte ssub ofB toB len gi gb gs gl sub put app ovl rep ne0 ge0 inb bnd room sroom need br call loop cut nl E R K hK
  have D := E.D
  clear E
  unfold d37 at h
  cbv
  refine R.cut' (by kernel_rfl) (by kernel_rfl) ?_
  cbv
  refine R.callD h (fun x2 hx2 h2 => ?_)
  clear h; have h := h2; clear h2
  refine R.call' (w27 _ _ _ hx2) (by (first | rfl | simp only [D.hcmp])) ?_
  clear hx2; cbv
  refine R.brD h (by (first | rfl | simp only [D.hcmp])) ?_ ?_ <;> clear h <;> intro h <;> cbv
  · have e := ret_some h; clear h
    refine hK _ _ ?_
    cbv
    try (subst e; simp only [D.hcmp, and_self, and_true, true_and] <;> (repeat' apply And.intro) <;> rfl)
  · refine R.cut' (by kernel_rfl) (by kernel_rfl) ?_
    cbv
    refine R.cutB (fun p => p) (fun _ _ e => e) h [] (fun p6 => [(30, .b p6)]) (fun p6 => []) (by kernel_rfl) (by kernel_rfl) (fun y5 hy hFy5 L hLy5 => ?_) (fun p6 h2 => ?_)
    · clear h; have h := hy; clear hy; cbv
      refine R.brD h (by (first | rfl | simp only [D.hcmp])) ?_ ?_ <;> clear h <;> intro h <;> cbv
      · obtain ⟨s', e, hi⟩ := jn_some (fun p => p) h
        refine hLy5 s' _ _ hi ⟨rfl, ?_, ?_, rfl, rfl⟩ <;> cbv <;> (try (subst e; simp only [D.hcmp, and_self, and_true, true_and] <;> (repeat' apply And.intro) <;> rfl))
      · refine R.brD h (by (first | rfl | simp only [D.hcmp])) ?_ ?_ <;> clear h <;> intro h <;> cbv
        · obtain ⟨s', e, hi⟩ := jn_some (fun p => p) h
          refine hLy5 s' _ _ hi ⟨rfl, ?_, ?_, rfl, rfl⟩ <;> cbv <;> (try (subst e; simp only [D.hcmp, and_self, and_true, true_and] <;> (repeat' apply And.intro) <;> rfl))
        · refine R.brD h (by (first | rfl | simp only [D.hcmp])) ?_ ?_ <;> clear h <;> intro h <;> cbv
          · refine R.brD h (by (first | rfl | simp only [D.hcmp])) ?_ ?_ <;> clear h <;> intro h <;> cbv
            · obtain ⟨s', e, hi⟩ := jn_some (fun p => p) h
              refine hLy5 s' _ _ hi ⟨rfl, ?_, ?_, rfl, rfl⟩ <;> cbv <;> (try (subst e; simp only [D.hcmp, and_self, and_true, true_and] <;> (repeat' apply And.intro) <;> rfl))
            · obtain ⟨s', e, hi⟩ := jn_some (fun p => p) h
              refine hLy5 s' _ _ hi ⟨rfl, ?_, ?_, rfl, rfl⟩ <;> cbv <;> (try (subst e; simp only [D.hcmp, and_self, and_true, true_and] <;> (repeat' apply And.intro) <;> rfl))
          · obtain ⟨s', e, hi⟩ := jn_some (fun p => p) h
            refine hLy5 s' _ _ hi ⟨rfl, ?_, ?_, rfl, rfl⟩ <;> cbv <;> (try (subst e; simp only [D.hcmp, and_self, and_true, true_and] <;> (repeat' apply And.intro) <;> rfl))
    · clear h; have h := h2; clear h2; try dsimp only at h
      cbv
      refine R.brD h (by (first | rfl | simp only [D.hcmp])) ?_ ?_ <;> clear h <;> intro h <;> cbv
      · have e := ret_some h; clear h
        refine hK _ _ ?_
        cbv
        try (subst e; simp only [D.hcmp, and_self, and_true, true_and] <;> (repeat' apply And.intro) <;> rfl)
      · refine R.callD h (fun x7 hx7 h2 => ?_)
        clear h; have h := h2; clear h2
        refine R.call' (w60 _ _ _ _ _ _ hx7) (by (first | rfl | simp only [D.hcmp])) ?_
        clear hx7; cbv
        have e := ret_some h; clear h
        refine hK _ _ ?_
        cbv
        try (subst e; simp only [D.hcmp, and_self, and_true, true_and] <;> (repeat' apply And.intro) <;> rfl)

noncomputable def d66_b1 (a0_0 : List V) (a0_1 : List V) (a1 : Int) (a2 : Int) (s44 : Int × List V) : Option ((Int × List V) ⊕ (List V)) :=
  if (cmpLit .lss s44.1 a2) = true then
    (d72 a0_0 a0_1 (arReal .add .i64 a1 s44.1)).bind fun x61 =>
    if (notB' x61) = true then
      some (.inr s44.2)
    else
      if (Ne0 64) then
        if (Inb (arReal .quo .i64 (arReal .add .i64 a1 s44.1) 64) (lenI a0_0)) then
          if (cmpLit .neq (gI a0_0 (arReal .quo .i64 (arReal .add .i64 a1 s44.1) 64) 0) 4) = true then
            some (.inr s44.2)
          else
            if (Inb (arReal .add .i64 a1 s44.1) (lenI a0_1)) then
              if (Room (lenI (appL s44.2 [.i .u8 (gI a0_1 (arReal .add .i64 a1 s44.1) 0)])) 1) then
                some (.inl ((arReal .add .i64 s44.1 1), (appL s44.2 [.i .u8 (gI a0_1 (arReal .add .i64 a1 s44.1) 0)])))
              else none
            else none
        else none
      else none
  else
    some (.inr s44.2)
noncomputable def d66 (a0_0 : List V) (a0_1 : List V) (a1 : Int) (a2 : Int) : Option (List V) :=
  Option.bind (α := List V) (
    (iter (d66_b1 a0_0 a0_1 a1 a2) (0, [])).bind fun y53 =>
    some y53) fun y27 =>
  some y27
noncomputable def w66_c : Code := (Try.f66.body).getD .skip
theorem w66_h : Try.f66.body = some w66_c := by kernel_rfl
theorem w66 (a0_0 : List V) (a0_1 : List V) (a1 : Int) (a2 : Int) (r : List V) (h : d66 a0_0 a0_1 a1 a2 = some r) : Ab.Fn Try.prog TT 66 [.agg [.sl 3 a0_0, .sl 5 a0_1], .i .i64 a1, .i .i64 a2] (.row 0) [(0, .row 5 r)] := by
  refine fn_own tok W0 Try.func66 (by kernel_rfl) w66_h (by kernel_rfl) ?_
  intro ar un cv mn mx pl mi cmp nt beq an scmp cat slen sbyte ssub ofB toB len gi gb gs gl sub put app ovl rep ne0 ge0 inb bnd room sroom need br call loop cut nl E R K hK
  have D := E.D
  clear E
  unfold d66 at h
  cbv
  refine R.cutB (fun p => p) (fun _ _ e => e) h [] (fun p63 => [(7, .row 127)]) (fun p63 => [(127, .row 5 p63)]) (by kernel_rfl) (by kernel_rfl) (fun y27 hy hFy27 L hLy27 => ?_) (fun p63 h2 => ?_)
  · clear h; have h := hy; clear hy; cbv
    refine R.loopD h (fun s0 y53 e0 hi hFs44 => ?_)
    clear h
    refine R.born' (e := te5) 7 127 5 rfl rfl (by kernel_rfl) (by decide) ?_
    refine R.loopI hi [] (fun s44 => [(7, .row 127), (8, .i .i64 s44.1)]) (fun s44 => [(127, .row 5 s44.2)]) ⟨rfl, ?_, ?_, rfl, rfl⟩ (by kernel_rfl) ?_
    · cbv; try (subst e0; simp only [D.happ, D.har, D.hcmp, D.hgi, D.hinb, D.hlen, D.hne0, D.hnt, D.hroom, and_self, and_true, true_and] <;> (repeat' apply And.intro) <;> rfl)
    · cbv; try (subst e0; simp only [D.happ, D.har, D.hcmp, D.hgi, D.hinb, D.hlen, D.hne0, D.hnt, D.hroom, and_self, and_true, true_and] <;> (repeat' apply And.intro) <;> rfl)
    clear hi e0
    intro s44 m y' hy hins44 houts44 L hLs44
    have h := hy; clear hy; unfold d66_b1 at h
    cbv
    refine R.cut' (by kernel_rfl) (by kernel_rfl) ?_
    cbv
    refine R.brD h (by (first | rfl | simp only [D.happ, D.har, D.hcmp, D.hgi, D.hinb, D.hlen, D.hne0, D.hnt, D.hroom])) ?_ ?_ <;> clear h <;> intro h <;> cbv
    · refine R.cut' (by kernel_rfl) (by kernel_rfl) ?_
      cbv
      refine R.cut' (by kernel_rfl) (by kernel_rfl) ?_
      cbv
      refine R.cut' (by kernel_rfl) (by kernel_rfl) ?_
      cbv
      refine R.callD h (fun x61 hx61 h2 => ?_)
      clear h; have h := h2; clear h2
      refine R.call' (w72 _ _ _ _ hx61) (by (first | rfl | simp only [D.happ, D.har, D.hcmp, D.hgi, D.hinb, D.hlen, D.hne0, D.hnt, D.hroom])) ?_
      clear hx61; cbv
      refine R.brD h (by (first | rfl | simp only [D.happ, D.har, D.hcmp, D.hgi, D.hinb, D.hlen, D.hne0, D.hnt, D.hroom])) ?_ ?_ <;> clear h <;> intro h <;> cbv
      · have e := inr_some h houts44; clear h
        have h := hFs44; rw [e] at h; clear e; try dsimp only at h
        cbv
        obtain ⟨s', e, hi⟩ := jn_some (fun p => p) h
        refine hLy27 s' _ _ hi ⟨rfl, ?_, ?_, rfl, rfl⟩ <;> cbv <;> (try (subst e; simp only [D.happ, D.har, D.hcmp, D.hgi, D.hinb, D.hlen, D.hne0, D.hnt, D.hroom, and_self, and_true, true_and] <;> (repeat' apply And.intro) <;> rfl))
      · refine R.needD h (by (first | rfl | simp only [D.happ, D.har, D.hcmp, D.hgi, D.hinb, D.hlen, D.hne0, D.hnt, D.hroom])) ?_
        clear h; intro h; cbv
        refine R.needD h (by (first | rfl | simp only [D.happ, D.har, D.hcmp, D.hgi, D.hinb, D.hlen, D.hne0, D.hnt, D.hroom])) ?_
        clear h; intro h; cbv
        refine R.brD h (by (first | rfl | simp only [D.happ, D.har, D.hcmp, D.hgi, D.hinb, D.hlen, D.hne0, D.hnt, D.hroom])) ?_ ?_ <;> clear h <;> intro h <;> cbv
        · have e := inr_some h houts44; clear h
          have h := hFs44; rw [e] at h; clear e; try dsimp only at h
          cbv
          obtain ⟨s', e, hi⟩ := jn_some (fun p => p) h
          refine hLy27 s' _ _ hi ⟨rfl, ?_, ?_, rfl, rfl⟩ <;> cbv <;> (try (subst e; simp only [D.happ, D.har, D.hcmp, D.hgi, D.hinb, D.hlen, D.hne0, D.hnt, D.hroom, and_self, and_true, true_and] <;> (repeat' apply And.intro) <;> rfl))
        · refine R.needD h (by (first | rfl | simp only [D.happ, D.har, D.hcmp, D.hgi, D.hinb, D.hlen, D.hne0, D.hnt, D.hroom])) ?_
          clear h; intro h; cbv
          refine R.needD h (by (first | rfl | simp only [D.happ, D.har, D.hcmp, D.hgi, D.hinb, D.hlen, D.hne0, D.hnt, D.hroom])) ?_
          clear h; intro h; cbv
          obtain ⟨s', e, hi⟩ := inl_some h hins44
          refine hLs44 s' _ _ hi ⟨rfl, ?_, ?_, rfl, rfl⟩ <;> cbv <;> (try (subst e; simp only [D.happ, D.har, D.hcmp, D.hgi, D.hinb, D.hlen, D.hne0, D.hnt, D.hroom, and_self, and_true, true_and] <;> (repeat' apply And.intro) <;> rfl))
    · have e := inr_some h houts44; clear h
      have h := hFs44; rw [e] at h; clear e; try dsimp only at h
      cbv
      obtain ⟨s', e, hi⟩ := jn_some (fun p => p) h
      refine hLy27 s' _ _ hi ⟨rfl, ?_, ?_, rfl, rfl⟩ <;> cbv <;> (try (subst e; simp only [D.happ, D.har, D.hcmp, D.hgi, D.hinb, D.hlen, D.hne0, D.hnt, D.hroom, and_self, and_true, true_and] <;> (repeat' apply And.intro) <;> rfl))
  · clear h; have h := h2; clear h2; try dsimp only at h
    cbv
    have e := ret_some h; clear h
    refine hK _ _ ⟨rfl, ⟨?_, rfl, rfl, rfl, ?_⟩⟩ <;> cbv <;> (try (subst e; simp only [D.happ, D.har, D.hcmp, D.hgi, D.hinb, D.hlen, D.hne0, D.hnt, D.hroom, and_self, and_true, true_and] <;> (repeat' apply And.intro) <;> rfl))
theorem w66s (a0_0 : List V) (a0_1 : List V) (a1 : Int) (a2 : Int) (r : List V) (h : d66 a0_0 a0_1 a1 a2 = some r) : Ab.Fn Try.prog TT 66 [.agg [.sl 3 a0_0, .sl 5 a0_1], .i .i64 a1, .i .i64 a2] (.sl 5 r) [] :=
  (w66 a0_0 a0_1 a1 a2 r h).pure (by simp [ple, ple1, ple1L, pleL, pleS, Ab.look])
end Go.Proofs.Ytmpdimigpaogkaa
end
section
namespace Go.Proofs.Ytmpdimigpaogkaa
open Go.Ab Go.RowKit Go.Proofs.Ytmpdimigpaogkaa.G Go.Proofs.YtmpdimigpaogkaaW.PrintWords Go.Proofs.YtmpdimigpaogkaaW.PrintLast
set_option maxRecDepth 100000
set_option maxHeartbeats 4000000
noncomputable def d38 (a0_0 : List V) (a0_1 : List V) (a1 : Int) (a2 : Int) : Option (List V × Int × Int × Int) :=
  (d27 a0_0 a0_1).bind fun x2 =>
  if (cmpLit .neq x2 0) = true then
    some ([], 0, 0, 30)
  else
    if (cmpLit .lss a2 0) = true then
      some ([], 0, 0, 1)
    else
      if (cmpLit .gtr a2 2048) = true then
        some ([], 0, 0, 1)
      else
        (d66 a0_0 a0_1 a1 a2).bind fun x3 =>
        some (x3, 0, 0, 0)
noncomputable def w38_c : Code := (Try.f38.body).getD .skip
theorem w38_h : Try.f38.body = some w38_c := by kernel_rfl
theorem w38 (a0_0 : List V) (a0_1 : List V) (a1 : Int) (a2 : Int) (r : List V × Int × Int × Int) (h : d38 a0_0 a0_1 a1 a2 = some r) : Ab.Fn Try.prog TT 38 [.agg [.sl 3 a0_0, .sl 5 a0_1], .i .i64 a1, .i .i64 a2] (.agg [.sl 5 r.1, .i .i64 r.2.1, .i .i64 r.2.2.1, .i .i64 r.2.2.2]) [] := by
  refine fn_pure tok W0 Try.func38 (by kernel_rfl) w38_h (by kernel_rfl) ?_
  intro ar un cv mn mx pl mi cmp nt beq an scmp cat slen sbyte ssub ofB toB len gi gb gs gl sub put app ovl rep ne0 ge0 inb bnd room sroom need br call loop cut nl E R K hK
  have D := E.D
  clear E
  unfold d38 at h
  cbv
  refine R.cut' (by kernel_rfl) (by kernel_rfl) ?_
  cbv
  refine R.callD h (fun x2 hx2 h2 => ?_)
  clear h; have h := h2; clear h2
  refine R.call' (w27 _ _ _ hx2) (by (first | rfl | simp only [D.hcmp])) ?_
  clear hx2; cbv
  refine R.brD h (by (first | rfl | simp only [D.hcmp])) ?_ ?_ <;> clear h <;> intro h <;> cbv
  · have e := ret_some h; clear h
    refine hK _ _ ?_
    cbv
    try (subst e; simp only [D.hcmp, and_self, and_true, true_and] <;> (repeat' apply And.intro) <;> rfl)
  · refine R.cut' (by kernel_rfl) (by kernel_rfl) ?_
    cbv
    refine R.cut' (by kernel_rfl) (by kernel_rfl) ?_
    cbv
    refine R.brD h (by (first | rfl | simp only [D.hcmp])) ?_ ?_ <;> clear h <;> intro h <;> cbv
    · have e := ret_some h; clear h
      refine hK _ _ ?_
      cbv
      try (subst e; simp only [D.hcmp, and_self, and_true, true_and] <;> (repeat' apply And.intro) <;> rfl)
    · refine R.brD h (by (first | rfl | simp only [D.hcmp])) ?_ ?_ <;> clear h <;> intro h <;> cbv
      · have e := ret_some h; clear h
        refine hK _ _ ?_
        cbv
        try (subst e; simp only [D.hcmp, and_self, and_true, true_and] <;> (repeat' apply And.intro) <;> rfl)
      · refine R.callD h (fun x3 hx3 h2 => ?_)
        clear h; have h := h2; clear h2
        refine R.call' (w66s _ _ _ _ _ hx3) (by (first | rfl | simp only [D.hcmp])) ?_
        clear hx3; cbv
        have e := ret_some h; clear h
        refine hK _ _ ?_
        cbv
        try (subst e; simp only [D.hcmp, and_self, and_true, true_and] <;> (repeat' apply And.intro) <;> rfl)

noncomputable def d39 (a0_0 : List V) (a0_1 : List V) (a1 : Int) (a2 : Int) : Option (List V × Int × Int × Int) :=
  (d27 a0_0 a0_1).bind fun x2 =>
  if (cmpLit .neq x2 0) = true then
    some ([], 0, 0, 30)
  else
    if (cmpLit .lss a2 0) = true then
      some ([], 0, 0, 1)
    else
      if (cmpLit .gtr a2 2048) = true then
        some ([], 0, 0, 1)
      else
        (d60 a0_0 a0_1 a1 a2 0).bind fun x3 =>
        if (cmpLit .neq x3.1 0) = true then
          some ([], x3.1, x3.2, 0)
        else
          (d61 a0_0 a0_1 a1 a2).bind fun x4 =>
          some (x4, 0, 0, 0)
noncomputable def w39_c : Code := (Try.f39.body).getD .skip
theorem w39_h : Try.f39.body = some w39_c := by kernel_rfl
theorem w39 (a0_0 : List V) (a0_1 : List V) (a1 : Int) (a2 : Int) (r : List V × Int × Int × Int) (h : d39 a0_0 a0_1 a1 a2 = some r) : Ab.Fn Try.prog TT 39 [.agg [.sl 3 a0_0, .sl 5 a0_1], .i .i64 a1, .i .i64 a2] (.agg [.sl 5 r.1, .i .i64 r.2.1, .i .i64 r.2.2.1, .i .i64 r.2.2.2]) [] := by
  refine fn_pure tok W0 Try.func39 (by kernel_rfl) w39_h (by kernel_rfl) ?_
  intro ar un cv mn mx pl mi cmp nt beq an scmp cat slen sbyte ssub ofB toB len gi gb gs gl sub put app ovl rep ne0 ge0 inb bnd room sroom need br call loop cut nl E R K hK
  have D := E.D
  clear E
  unfold d39 at h
  cbv
  refine R.cut' (by kernel_rfl) (by kernel_rfl) ?_
  cbv
  refine R.callD h (fun x2 hx2 h2 => ?_)
  clear h; have h := h2; clear h2
  refine R.call' (w27 _ _ _ hx2) (by (first | rfl | simp only [D.hcmp])) ?_
  clear hx2; cbv
  refine R.brD h (by (first | rfl | simp only [D.hcmp])) ?_ ?_ <;> clear h <;> intro h <;> cbv
  · have e := ret_some h; clear h
    refine hK _ _ ?_
    cbv
    try (subst e; simp only [D.hcmp, and_self, and_true, true_and] <;> (repeat' apply And.intro) <;> rfl)
  · refine R.cut' (by kernel_rfl) (by kernel_rfl) ?_
    cbv
    refine R.cut' (by kernel_rfl) (by kernel_rfl) ?_
    cbv
    refine R.brD h (by (first | rfl | simp only [D.hcmp])) ?_ ?_ <;> clear h <;> intro h <;> cbv
    · have e := ret_some h; clear h
      refine hK _ _ ?_
      cbv
      try (subst e; simp only [D.hcmp, and_self, and_true, true_and] <;> (repeat' apply And.intro) <;> rfl)
    · refine R.brD h (by (first | rfl | simp only [D.hcmp])) ?_ ?_ <;> clear h <;> intro h <;> cbv
      · have e := ret_some h; clear h
        refine hK _ _ ?_
        cbv
        try (subst e; simp only [D.hcmp, and_self, and_true, true_and] <;> (repeat' apply And.intro) <;> rfl)
      · refine R.callD h (fun x3 hx3 h2 => ?_)
        clear h; have h := h2; clear h2
        refine R.call' (w60 _ _ _ _ _ _ hx3) (by (first | rfl | simp only [D.hcmp])) ?_
        clear hx3; cbv
        refine R.cut' (by kernel_rfl) (by kernel_rfl) ?_
        cbv
        refine R.brD h (by (first | rfl | simp only [D.hcmp])) ?_ ?_ <;> clear h <;> intro h <;> cbv
        · have e := ret_some h; clear h
          refine hK _ _ ?_
          cbv
          try (subst e; simp only [D.hcmp, and_self, and_true, true_and] <;> (repeat' apply And.intro) <;> rfl)
        · refine R.callD h (fun x4 hx4 h2 => ?_)
          clear h; have h := h2; clear h2
          refine R.call' (w61s _ _ _ _ _ hx4) (by (first | rfl | simp only [D.hcmp])) ?_
          clear hx4; cbv
          have e := ret_some h; clear h
          refine hK _ _ ?_
          cbv
          try (subst e; simp only [D.hcmp, and_self, and_true, true_and] <;> (repeat' apply And.intro) <;> rfl)

noncomputable def d40_b1 (a0_0 : List V) (a0_1 : List V) (a1 : Int) (a2 : Int) (s12 : ByteArray × Int) : Option ((ByteArray × Int) ⊕ ((ByteArray × Int × Int × Int) ⊕ (ByteArray))) :=
  if (cmpLit .lss s12.2 a2) = true then
    (d60 a0_0 a0_1 (arReal .add .i64 a1 s12.2) 1 1).bind fun x17 =>
    if (cmpLit .neq x17.1 0) = true then
      some (.inr (.inl (ByteArray.empty, x17.1, x17.2, 0)))
    else
      if (Inb (arReal .add .i64 a1 s12.2) (lenI a0_1)) then
        if (cmpLit .eql (gI a0_1 (arReal .add .i64 a1 s12.2) 0) 0) = true then
          some (.inr (.inr s12.1))
        else
          if (Bnd (arReal .add .i64 a1 s12.2) (arReal .add .i64 (arReal .add .i64 a1 s12.2) 1) (lenI a0_1)) then
            if (Sroom s12.1 (toBy (subL a0_1 (arReal .add .i64 a1 s12.2) (arReal .add .i64 (arReal .add .i64 a1 s12.2) 1)))) then
              some (.inl ((catS s12.1 (toBy (subL a0_1 (arReal .add .i64 a1 s12.2) (arReal .add .i64 (arReal .add .i64 a1 s12.2) 1)))), (arReal .add .i64 s12.2 1)))
            else none
          else none
      else none
  else
    some (.inr (.inr s12.1))
noncomputable def d40 (a0_0 : List V) (a0_1 : List V) (a1 : Int) (a2 : Int) : Option (ByteArray × Int × Int × Int) :=
  (d27 a0_0 a0_1).bind fun x2 =>
  if (cmpLit .neq x2 0) = true then
    some (ByteArray.empty, 0, 0, 30)
  else
    if (cmpLit .lss a2 0) = true then
      some (ByteArray.empty, 0, 0, 1)
    else
      if (cmpLit .gtr a2 64) = true then
        some (ByteArray.empty, 0, 0, 1)
      else
        Option.bind (α := (ByteArray) ⊕ (ByteArray × Int × Int × Int)) (
          (iter (d40_b1 a0_0 a0_1 a1 a2) (ByteArray.empty, 0)).bind fun y15 =>
          match y15 with
          | .inl p18 =>
            some (.inr p18)
          | .inr y15r0 =>
            some (.inl y15r0)) fun y9 =>
        match y9 with
        | .inl p20 =>
          some (p20, 0, 0, 0)
        | .inr y9r0 =>
          some y9r0
noncomputable def w40_c : Code := (Try.f40.body).getD .skip
theorem w40_h : Try.f40.body = some w40_c := by kernel_rfl
theorem w40 (a0_0 : List V) (a0_1 : List V) (a1 : Int) (a2 : Int) (r : ByteArray × Int × Int × Int) (h : d40 a0_0 a0_1 a1 a2 = some r) : Ab.Fn Try.prog TT 40 [.agg [.sl 3 a0_0, .sl 5 a0_1], .i .i64 a1, .i .i64 a2] (.agg [.str r.1, .i .i64 r.2.1, .i .i64 r.2.2.1, .i .i64 r.2.2.2]) [] := by
  refine fn_pure tok W0 Try.func40 (by kernel_rfl) w40_h (by kernel_rfl) ?_
  intro ar un cv mn mx pl mi cmp nt beq an scmp cat slen sbyte ssub ofB toB len gi gb gs gl sub put app ovl rep ne0 ge0 inb bnd room sroom need br call loop cut nl E R K hK
  have D := E.D
  clear E
  unfold d40 at h
  cbv
  refine R.cut' (by kernel_rfl) (by kernel_rfl) ?_
  cbv
  refine R.callD h (fun x2 hx2 h2 => ?_)
  clear h; have h := h2; clear h2
  refine R.call' (w27 _ _ _ hx2) (by (first | rfl | simp only [D.har, D.hbnd, D.hcat, D.hcmp, D.hgi, D.hinb, D.hlen, D.hsroom, D.hsub, D.htoB])) ?_
  clear hx2; cbv
  refine R.brD h (by (first | rfl | simp only [D.har, D.hbnd, D.hcat, D.hcmp, D.hgi, D.hinb, D.hlen, D.hsroom, D.hsub, D.htoB])) ?_ ?_ <;> clear h <;> intro h <;> cbv
  · have e := ret_some h; clear h
    refine hK _ _ ?_
    cbv
    try (subst e; simp only [D.har, D.hbnd, D.hcat, D.hcmp, D.hgi, D.hinb, D.hlen, D.hsroom, D.hsub, D.htoB, and_self, and_true, true_and] <;> (repeat' apply And.intro) <;> rfl)
  · refine R.cut' (by kernel_rfl) (by kernel_rfl) ?_
    cbv
    refine R.cut' (by kernel_rfl) (by kernel_rfl) ?_
    cbv
    refine R.brD h (by (first | rfl | simp only [D.har, D.hbnd, D.hcat, D.hcmp, D.hgi, D.hinb, D.hlen, D.hsroom, D.hsub, D.htoB])) ?_ ?_ <;> clear h <;> intro h <;> cbv
    · have e := ret_some h; clear h
      refine hK _ _ ?_
      cbv
      try (subst e; simp only [D.har, D.hbnd, D.hcat, D.hcmp, D.hgi, D.hinb, D.hlen, D.hsroom, D.hsub, D.htoB, and_self, and_true, true_and] <;> (repeat' apply And.intro) <;> rfl)
    · refine R.brD h (by (first | rfl | simp only [D.har, D.hbnd, D.hcat, D.hcmp, D.hgi, D.hinb, D.hlen, D.hsroom, D.hsub, D.htoB])) ?_ ?_ <;> clear h <;> intro h <;> cbv
      · have e := ret_some h; clear h
        refine hK _ _ ?_
        cbv
        try (subst e; simp only [D.har, D.hbnd, D.hcat, D.hcmp, D.hgi, D.hinb, D.hlen, D.hsroom, D.hsub, D.htoB, and_self, and_true, true_and] <;> (repeat' apply And.intro) <;> rfl)
      · refine R.cutB Sum.inl (fun _ _ e => Sum.inl.inj e) h [] (fun p20 => [(7, .str p20)]) (fun p20 => []) (by kernel_rfl) (by kernel_rfl) (fun y9 hy hFy9 L hLy9 => ?_) (fun p20 h2 => ?_)
        · clear h; have h := hy; clear hy; cbv
          refine R.loopD h (fun s0 y15 e0 hi hFs12 => ?_)
          clear h
          refine R.loopI hi [] (fun s12 => [(7, .str s12.1), (8, .i .i64 s12.2)]) (fun s12 => []) ⟨rfl, ?_, ?_, rfl, rfl⟩ (by kernel_rfl) ?_
          · cbv; try (subst e0; simp only [D.har, D.hbnd, D.hcat, D.hcmp, D.hgi, D.hinb, D.hlen, D.hsroom, D.hsub, D.htoB, and_self, and_true, true_and] <;> (repeat' apply And.intro) <;> rfl)
          · cbv; try (subst e0; simp only [D.har, D.hbnd, D.hcat, D.hcmp, D.hgi, D.hinb, D.hlen, D.hsroom, D.hsub, D.htoB, and_self, and_true, true_and] <;> (repeat' apply And.intro) <;> rfl)
          clear hi e0
          intro s12 m y' hy hins12 houts12 L hLs12
          have h := hy; clear hy; unfold d40_b1 at h
          cbv
          refine R.cut' (by kernel_rfl) (by kernel_rfl) ?_
          cbv
          refine R.brD h (by (first | rfl | simp only [D.har, D.hbnd, D.hcat, D.hcmp, D.hgi, D.hinb, D.hlen, D.hsroom, D.hsub, D.htoB])) ?_ ?_ <;> clear h <;> intro h <;> cbv
          · refine R.cut' (by kernel_rfl) (by kernel_rfl) ?_
            cbv
            refine R.callD h (fun x17 hx17 h2 => ?_)
            clear h; have h := h2; clear h2
            refine R.call' (w60 _ _ _ _ _ _ hx17) (by (first | rfl | simp only [D.har, D.hbnd, D.hcat, D.hcmp, D.hgi, D.hinb, D.hlen, D.hsroom, D.hsub, D.htoB])) ?_
            clear hx17; cbv
            refine R.cut' (by kernel_rfl) (by kernel_rfl) ?_
            cbv
            refine R.brD h (by (first | rfl | simp only [D.har, D.hbnd, D.hcat, D.hcmp, D.hgi, D.hinb, D.hlen, D.hsroom, D.hsub, D.htoB])) ?_ ?_ <;> clear h <;> intro h <;> cbv
            · have e := inr_some h houts12; clear h
              have h := hFs12; rw [e] at h; clear e; try dsimp only at h
              cbv
              have e := ret_some h; clear h
              have h := hFy9; rw [e] at h; clear e; try dsimp only at h
              cbv
              have e := ret_some h; clear h
              refine hK _ _ ?_
              cbv
              try (subst e; simp only [D.har, D.hbnd, D.hcat, D.hcmp, D.hgi, D.hinb, D.hlen, D.hsroom, D.hsub, D.htoB, and_self, and_true, true_and] <;> (repeat' apply And.intro) <;> rfl)
            · refine R.cut' (by kernel_rfl) (by kernel_rfl) ?_
              cbv
              refine R.needD h (by (first | rfl | simp only [D.har, D.hbnd, D.hcat, D.hcmp, D.hgi, D.hinb, D.hlen, D.hsroom, D.hsub, D.htoB])) ?_
              clear h; intro h; cbv
              refine R.brD h (by (first | rfl | simp only [D.har, D.hbnd, D.hcat, D.hcmp, D.hgi, D.hinb, D.hlen, D.hsroom, D.hsub, D.htoB])) ?_ ?_ <;> clear h <;> intro h <;> cbv
              · have e := inr_some h houts12; clear h
                have h := hFs12; rw [e] at h; clear e; try dsimp only at h
                cbv
                obtain ⟨s', e, hi⟩ := jn_some Sum.inl h
                refine hLy9 s' _ _ hi ⟨rfl, ?_, ?_, rfl, rfl⟩ <;> cbv <;> (try (subst e; simp only [D.har, D.hbnd, D.hcat, D.hcmp, D.hgi, D.hinb, D.hlen, D.hsroom, D.hsub, D.htoB, and_self, and_true, true_and] <;> (repeat' apply And.intro) <;> rfl))
              · refine R.needD h (by (first | rfl | simp only [D.har, D.hbnd, D.hcat, D.hcmp, D.hgi, D.hinb, D.hlen, D.hsroom, D.hsub, D.htoB])) ?_
                clear h; intro h; cbv
                refine R.needD h (by (first | rfl | simp only [D.har, D.hbnd, D.hcat, D.hcmp, D.hgi, D.hinb, D.hlen, D.hsroom, D.hsub, D.htoB])) ?_
                clear h; intro h; cbv
                obtain ⟨s', e, hi⟩ := inl_some h hins12
                refine hLs12 s' _ _ hi ⟨rfl, ?_, ?_, rfl, rfl⟩ <;> cbv <;> (try (subst e; simp only [D.har, D.hbnd, D.hcat, D.hcmp, D.hgi, D.hinb, D.hlen, D.hsroom, D.hsub, D.htoB, and_self, and_true, true_and] <;> (repeat' apply And.intro) <;> rfl))
          · have e := inr_some h houts12; clear h
            have h := hFs12; rw [e] at h; clear e; try dsimp only at h
            cbv
            obtain ⟨s', e, hi⟩ := jn_some Sum.inl h
            refine hLy9 s' _ _ hi ⟨rfl, ?_, ?_, rfl, rfl⟩ <;> cbv <;> (try (subst e; simp only [D.har, D.hbnd, D.hcat, D.hcmp, D.hgi, D.hinb, D.hlen, D.hsroom, D.hsub, D.htoB, and_self, and_true, true_and] <;> (repeat' apply And.intro) <;> rfl))
        · clear h; have h := h2; clear h2; try dsimp only at h
          cbv
          have e := ret_some h; clear h
          refine hK _ _ ?_
          cbv
          try (subst e; simp only [D.har, D.hbnd, D.hcat, D.hcmp, D.hgi, D.hinb, D.hlen, D.hsroom, D.hsub, D.htoB, and_self, and_true, true_and] <;> (repeat' apply And.intro) <;> rfl)

end Go.Proofs.Ytmpdimigpaogkaa
end
section
namespace Go.Proofs.Ytmpdimigpaogkaa
open Go.Ab Go.RowKit Go.Proofs.Ytmpdimigpaogkaa.G Go.Proofs.YtmpdimigpaogkaaW.PrintWords Go.Proofs.YtmpdimigpaogkaaW.PrintLast
theorem s33 (P B : List Int) (hB : Bytes B) (at_ : Int) (ha : -9223372036854775808 ≤ at_ ∧ at_ ≤ 9223372036854775807) (a : Int) (b : Bool) : d33 (ints P) (u8s B) at_ a b = some (loadV P B at_ a b) := by
  unfold d33 loadV
  rw [s27, Option.bind_some]
  by_cases hc : checkV P B = 0
  · rw [if_pos (by simp [c_eql, hc]), s30, Option.bind_some, Option.bind_some, if_neg (not_not_intro hc)]
    by_cases ht : tyOk a = true
    · have := ty_pos ht
      rw [if_pos ht, if_neg (by simp [c_neq]), if_pos ht, s60 hc at_ a 1 (.inr (.inl rfl)) (by omega), Option.bind_some]
      by_cases hf : (fault P B at_ a 1).1 = 0
      · obtain ⟨f1, f2, f3⟩ := fault_in hc ha (by omega) (by omega) (.inr (.inl rfl)) hf
        have hp := part_ln f1 (by omega) f2
        rw [if_neg (by simp [c_neq, hf]), if_neg (not_not_intro hf), s61 _ B at_ a f1 (by omega) f2 f3, Option.bind_some, s45 a b _ (part_bytes hB) (by omega), if_pos ht, if_pos hp]
        rfl
      · rw [if_pos (by simp [c_neq, hf]), if_pos hf]
    · rw [if_neg ht, if_pos (by simp [c_neq]), if_neg ht]
  · rw [if_neg (by simp [c_eql, hc]), Option.bind_some, if_pos (by simp [c_neq, hc]), if_pos hc]
theorem leBytes_add : ∀ (n : Nat) (v k : Int), leBytes n (v + k * 256 ^ n) = leBytes n v
  | 0, _, _ => rfl
  | n + 1, v, k => by
    rw [leBytes_cons, leBytes_cons, Int.pow_succ, ← Int.mul_assoc, Int.add_mul_emod_self_right, Int.add_mul_ediv_right _ _ (by decide), leBytes_add n]
theorem leBytes_wrapT (a : Int) (b : Bool) (v : Int) (h : tyOk a = true) : leBytes a.toNat (wrapT a b v) = leBytes a.toNat v := by
  have key : ∃ k, wrapT a b v = v + k * 256 ^ a.toNat := by
    rcases ty_iff.1 h with rfl | rfl | rfl | rfl <;> cases b
    · exact ⟨-(v / 256), by simp [wrapT]; omega⟩
    · exact ⟨-((v + 128) / 256), by simp [wrapT]; omega⟩
    · exact ⟨-(v / 65536), by simp [wrapT]; omega⟩
    · exact ⟨-((v + 32768) / 65536), by simp [wrapT]; omega⟩
    · exact ⟨-(v / 4294967296), by simp [wrapT]; omega⟩
    · exact ⟨-((v + 2147483648) / 4294967296), by simp [wrapT, wrap32]; omega⟩
    · exact ⟨-((v + 9223372036854775808) / 18446744073709551616), by simp [wrapT, wrap64]; omega⟩
    · exact ⟨0, by simp [wrapT]⟩
  obtain ⟨k, hk⟩ := key
  rw [hk, leBytes_add]
theorem s34 (P B : List Int) (at_ : Int) (ha : -9223372036854775808 ≤ at_ ∧ at_ ≤ 9223372036854775807) (a : Int) (b : Bool) (v : Int) (hv : -9223372036854775808 ≤ v ∧ v ≤ 9223372036854775807) : d34 (ints P) (u8s B) at_ a b v = some (storeV P B at_ a b v) := by
  unfold d34 storeV
  rw [s27, Option.bind_some]
  by_cases hc : checkV P B = 0
  · rw [if_pos (by simp [c_eql, hc]), s30, Option.bind_some, Option.bind_some, if_neg (not_not_intro hc)]
    by_cases ht : tyOk a = true
    · have := ty_pos ht
      rw [if_pos ht, if_neg (by simp [c_neq]), if_pos ht, s60 hc at_ a 2 (.inr (.inr (.inl rfl))) (by omega), Option.bind_some]
      by_cases hf : (fault P B at_ a 2).1 = 0
      · obtain ⟨f1, f2, f3⟩ := fault_in hc ha (by omega) (by omega) (.inr (.inr (.inl rfl))) hf
        have hl : ln (leBytes a.toNat v) = a := by unfold ln; rw [leBytes_length]; omega
        rw [if_neg (by simp [c_neq, hf]), if_neg (not_not_intro hf), s62 a b v hv, if_pos ht, Option.bind_some]
        simp only []
        rw [s63 hc _ at_ f1 (by omega)]
        unfold stored
        rw [leBytes_wrapT a b v ht]
        rfl
      · rw [if_pos (by simp [c_neq, hf]), if_pos hf]
    · rw [if_neg ht, if_pos (by simp [c_neq]), if_neg ht]
  · rw [if_neg (by simp [c_eql, hc]), Option.bind_some, if_pos (by simp [c_neq, hc]), if_pos hc]
def pokeV (P B : List Int) (at_ : Int) (b : List Int) : List V × List V × Int × Int × Int := if checkV P B ≠ 0 then ([], [], 0, 0, checkV P B) else if 2048 < ln b then ([], [], 0, 0, 2) else if (fault P B at_ (ln b) 0).1 ≠ 0 then ([], [], (fault P B at_ (ln b) 0).1, (fault P B at_ (ln b) 0).2, 0) else (ints P, u8s (spl B at_.toNat b), 0, 0, 0)
theorem spl_nil (B : List Int) (n : Nat) : spl B n [] = B := by simp [spl]
theorem s35 (P B : List Int) (at_ : Int) (ha : -9223372036854775808 ≤ at_ ∧ at_ ≤ 9223372036854775807) (b : List Int) : d35 (ints P) (u8s B) at_ (u8s b) = some (pokeV P B at_ b) := by
  unfold d35 pokeV
  rw [s27, Option.bind_some, lenI_u8s]
  have := ln_nn b
  by_cases hc : checkV P B = 0
  · rw [if_neg (by simp [c_neq, hc]), if_neg (not_not_intro hc)]
    by_cases hb : 2048 < ln b
    · rw [if_pos (by simp [c_gtr, hb]), if_pos hb]
    · rw [if_neg (by simp [c_gtr]; omega), if_neg hb, s60 hc at_ (ln b) 0 (.inl rfl) (by omega), Option.bind_some]
      by_cases hf : (fault P B at_ (ln b) 0).1 = 0
      · rw [if_neg (by simp [c_neq, hf]), if_neg (not_not_intro hf)]
        by_cases h0 : ln b = 0
        · have : b = [] := List.eq_nil_of_length_eq_zero (by unfold ln at h0; omega)
          subst this
          rw [s63_nil hc, spl_nil]; rfl
        · obtain ⟨f1, f2, f3⟩ := fault_in hc ha (by omega) (by omega) (.inl rfl) hf
          rw [s63 hc b at_ f1 f2]; rfl
      · rw [if_pos (by simp [c_neq, hf]), if_pos hf]
  · rw [if_pos (by simp [c_neq, hc]), if_pos hc, check_30 hc]
theorem s32 (P B : List Int) (at_ : Int) (ha : -9223372036854775808 ≤ at_ ∧ at_ ≤ 9223372036854775807) (b : List Int) : d32 (ints P) (u8s B) at_ (u8s b) = some (pokeV P B at_ b) := by
  unfold d32 pokeV
  rw [s18, Option.bind_some, lenI_u8s]
  have := ln_nn b
  by_cases hc : checkV P B = 0
  · rw [if_neg (by simp [c_neq, hc]), if_neg (not_not_intro hc)]
    by_cases hb : 2048 < ln b
    · rw [if_pos (by simp [c_gtr, hb]), if_pos hb]
    · rw [if_neg (by simp [c_gtr]; omega), if_neg hb, s47 hc at_ (ln b) 0 (by omega), Option.bind_some]
      by_cases hf : (fault P B at_ (ln b) 0).1 = 0
      · rw [if_neg (by simp [c_neq, hf]), if_neg (not_not_intro hf), s52 hc, Option.bind_some]
        simp only [lenI_u8s]
        by_cases h0 : ln b = 0
        · have : b = [] := List.eq_nil_of_length_eq_zero (by unfold ln at h0; omega)
          subst this
          rw [if_neg (by simp [c_gtr, ln]), spl_nil]
        · obtain ⟨f1, f2, f3⟩ := fault_in hc ha (by omega) (by omega) (.inl rfl) hf
          rw [if_pos (by simp [c_gtr]; omega), if_pos (show Bnd at_ (ln B) (ln B) from ⟨f1, by omega, by omega⟩)]
          have e : ovlReal (u8s B) at_ (subL (u8s b) 0 (mnI (ln b) (miI (ln B) at_))) = u8s (spl B at_.toNat b) := ovl_u8 f1 f2 (by unfold mnI miI; split <;> omega)
          rw [e]
      · rw [if_pos (by simp [c_neq, hf]), if_pos hf]
  · rw [if_pos (by simp [c_neq, hc]), if_pos hc]
theorem s37 (P B : List Int) (a n p : Int) : d37 (ints P) (u8s B) a n p = some (accessV P B a n p) := by
  unfold d37 accessV
  rw [s27, Option.bind_some]
  by_cases hc : checkV P B = 0
  · rw [if_neg (by simp [c_neq, hc]), if_neg (not_not_intro hc)]
    simp only [c_lss, c_gtr, c_neq, decide_eq_true_eq]
    by_cases h : n < 0 ∨ 2048 < n ∨ ¬ (p = 1 ∨ p = 2 ∨ p = 4)
    · rw [if_pos h]
      by_cases h0 : n < 0
      · rw [if_pos h0, Option.bind_some, if_pos rfl]
      · rw [if_neg h0]
        by_cases h1 : 2048 < n
        · rw [if_pos h1, Option.bind_some, if_pos rfl]
        · rw [if_neg h1, if_pos (by omega), if_pos (by omega), Option.bind_some, if_pos (by simp; omega)]
    · rw [if_neg h]
      have hp : p = 1 ∨ p = 2 ∨ p = 4 := by omega
      rw [if_neg (by omega), if_neg (by omega)]
      have : (if p ≠ 1 then (if p ≠ 2 then some (decide (p ≠ 4)) else some false) else some false) = some false := by rcases hp with rfl | rfl | rfl <;> simp
      rw [this, Option.bind_some, if_neg (by simp), s60 hc a n p (by omega) (by omega), Option.bind_some]
  · rw [if_pos (by simp [c_neq, hc]), if_pos hc, check_30 hc]
theorem it66 (P B : List Int) (hc : checkV P B = 0) (at_ n : Int) (hn : 0 ≤ n ∧ n ≤ 2048) : iter (d66_b1 (ints P) (u8s B) at_ n) (0, []) = some (u8s (fetched P B at_ n.toNat 0)) := by
  obtain ⟨c1, c2, c3⟩ := check_to hc
  refine iter_fun (fun s => 0 ≤ s.1 ∧ s.1 ≤ n ∧ ∃ L, s.2 = u8s L ∧ ln L = s.1 ∧ L ++ fetched P B at_ (n - s.1).toNat s.1 = fetched P B at_ n.toNat 0) (fun s => (n - s.1).toNat) (fun _ => u8s (fetched P B at_ n.toNat 0)) (fun s hs => ?_) (0, []) ⟨by simp, hn.1, [], rfl, rfl, by simp⟩
  obtain ⟨i, l⟩ := s
  obtain ⟨h0, h1, L, h2, h3, h4⟩ := hs
  simp only at h0 h1 h2 h3 h4
  subst h2
  generalize fetched P B at_ n.toNat 0 = R at *
  unfold d66_b1
  simp only [c_lss, c_neq, decide_eq_true_eq, lenI_u8s, lenI_ints, gI_ints, gI_u8s, s72, Option.bind_some]
  by_cases hlt : i < n
  · have hx : arReal .add .i64 at_ i = IntKind.i64.wrap (at_ + i) := rfl
    have hs1 : arReal .add .i64 i 1 = i + 1 := a_add (by omega) (by omega)
    rw [if_pos hlt, hx, hs1]
    rw [show (n - i).toNat = (n - (i + 1)).toNat + 1 from by omega] at h4
    unfold fetched at h4
    generalize IntKind.i64.wrap (at_ + i) = x at *
    by_cases hh : hasB B x = true
    · obtain ⟨x0, x1⟩ := hasB_iff.1 hh
      rw [if_neg (by simp [notB', hh]), if_pos (show Ne0 64 by unfold Ne0; omega), a_quo x0 (by omega), if_pos (show Inb (x / 64) (ln P) from ⟨by omega, by omega⟩)]
      by_cases h5 : rdI P (x / 64) = 4
      · rw [if_neg (not_not_intro h5), if_pos (show Inb x (ln B) from ⟨x0, x1⟩), app_u8, lenI_u8s]
        rw [if_pos ⟨hh, h5⟩] at h4
        have e : ln (L ++ [rdI B x]) = i + 1 := by unfold ln at *; simp; omega
        rw [e, if_pos (room_1 (by omega))]
        exact .inl ⟨_, rfl, ⟨by simp only; omega, by simp only; omega, _, rfl, e, by simp only; rw [← h4]; simp⟩, by simp only; omega, trivial⟩
      · rw [if_pos h5]
        rw [if_neg (fun h => h5 h.2)] at h4
        refine .inr ?_
        rw [← h4]; simp
    · have hh' : hasB B x = false := by simpa using hh
      rw [if_pos (by simp [notB', hh'])]
      rw [if_neg (fun h => hh h.1)] at h4
      refine .inr ?_
      rw [← h4]; simp
  · rw [if_neg hlt]
    refine .inr ?_
    rw [show (n - i).toNat = 0 from by omega] at h4
    simp only [fetched, List.append_nil] at h4
    rw [h4]
theorem s38 (P B : List Int) (at_ n : Int) : d38 (ints P) (u8s B) at_ n = some (if checkV P B ≠ 0 then ([], 0, 0, checkV P B) else if n < 0 ∨ 2048 < n then ([], 0, 0, 1) else (u8s (fetched P B at_ n.toNat 0), 0, 0, 0)) := by
  unfold d38
  rw [s27, Option.bind_some]
  by_cases hc : checkV P B = 0
  · rw [if_neg (by simp [c_neq, hc]), if_neg (not_not_intro hc)]
    simp only [c_lss, c_gtr, decide_eq_true_eq]
    by_cases h0 : n < 0
    · rw [if_pos h0, if_pos (.inl h0)]
    · by_cases h1 : 2048 < n
      · rw [if_neg h0, if_pos h1, if_pos (.inr h1)]
      · rw [if_neg h0, if_neg h1, if_neg (by omega)]
        unfold d66
        rw [it66 P B hc at_ n ⟨by omega, by omega⟩]; rfl
  · rw [if_pos (by simp [c_neq, hc]), if_pos hc, check_30 hc]
theorem s39 (P B : List Int) (a n : Int) (ha : -9223372036854775808 ≤ a ∧ a ≤ 9223372036854775807) : d39 (ints P) (u8s B) a n = some (u8s (peekV P B a n).1, (peekV P B a n).2) := by
  unfold d39 peekV
  rw [s27, Option.bind_some]
  by_cases hc : checkV P B = 0
  · rw [if_neg (by simp [c_neq, hc]), if_neg (not_not_intro hc)]
    simp only [c_lss, c_gtr, c_neq, decide_eq_true_eq]
    by_cases h0 : n < 0
    · rw [if_pos h0, if_pos (.inl h0)]; rfl
    · by_cases h1 : 2048 < n
      · rw [if_neg h0, if_pos h1, if_pos (.inr h1)]; rfl
      · rw [if_neg h0, if_neg h1, if_neg (show ¬ (n < 0 ∨ 2048 < n) by omega), s60 hc a n 0 (.inl rfl) (by omega), Option.bind_some]
        by_cases hf : (fault P B a n 0).1 = 0
        · rw [if_neg (not_not_intro hf)]
          by_cases hz : n = 0
          · subst hz
            rw [s61_zero, if_pos (.inr rfl)]
            have : fault P B a 0 0 = (0, 0) := rfl
            rw [this]; rfl
          · obtain ⟨f1, f2, f3⟩ := fault_in hc ha (by omega) (by omega) (.inl rfl) hf
            rw [s61 _ B a n f1 (by omega) f2 f3, if_neg (by omega)]; rfl
        · rw [if_pos hf, if_pos (.inl hf)]; rfl
  · rw [if_pos (by simp [c_neq, hc]), if_pos hc, check_30 hc]; rfl
theorem s36 (P B : List Int) (a n : Int) : d36 (ints P) (u8s B) a n = mem_String.f P B a n := by
  unfold d36
  rw [unI_ints, unI_u8s, if_pos ⟨rfl, rfl⟩]
theorem cat_str (acc : List Int) (v : Int) : catS (strOfNums acc) (toBy (u8s [v])) = strOfNums (acc ++ [v]) := by
  apply ByteArray.ext
  show (strOfNums acc ++ toBy (u8s [v])).data = _
  rw [ByteArray.data_append]
  simp [strOfNums, toBy, u8s, Ab.asInt]
theorem sub_one {B : List Int} {x : Int} (h0 : 0 ≤ x) (h1 : x < ln B) : subL (u8s B) x (x + 1) = u8s [rdI B x] := by
  rw [sub_u8s]
  have := part_step (i := 0) h0 (by omega) (by omega : x + 0 < ln B)
  rw [part_zero B x h0] at this
  unfold part at this
  rw [show x + (0 + 1) = x + 1 from by omega] at this
  rw [← this, Int.add_zero]; rfl
theorem fault_one (P B : List Int) (x : Int) (k : Int) (hx : x = IntKind.i64.wrap k) : fault P B x 1 1 = (need1 P B.length x 1).getD (0, 0) := by
  unfold fault
  have hw : wrap64 (x + 0) = x := by subst hx; rw [wr64]; unfold wrap64; omega
  have : needs P B.length x 1 (1 : Int).toNat 0 = need1 P B.length x 1 := by
    show needs P B.length x 1 1 0 = _
    simp only [needs, hw]
    split
    · rename_i h; exact h.symm
    · rename_i h; exact h.symm
  rw [this]
def strR (P B : List Int) (a n : Int) : List Int × Option (Int × Int) := strFrom P B a n.toNat 0 []
theorem it40 (P B : List Int) (hc : checkV P B = 0) (a n : Int) (hn : 0 ≤ n ∧ n ≤ 64) : iter (d40_b1 (ints P) (u8s B) a n) (ByteArray.empty, 0) = some (match (strR P B a n).2 with | some f => .inl (ByteArray.empty, f.1, f.2, 0) | none => .inr (strOfNums (strR P B a n).1)) := by
  obtain ⟨c1, c2, c3⟩ := check_to hc
  refine iter_fun (fun s : ByteArray × Int => 0 ≤ s.2 ∧ s.2 ≤ n ∧ ∃ acc, s.1 = strOfNums acc ∧ ln acc = s.2 ∧ strFrom P B a (n - s.2).toNat s.2 acc = strR P B a n) (fun s : ByteArray × Int => (n - s.2).toNat) (fun _ => (match (strR P B a n).2 with | some f => .inl (ByteArray.empty, f.1, f.2, 0) | none => .inr (strOfNums (strR P B a n).1) : (ByteArray × Int × Int × Int) ⊕ ByteArray)) (fun s hs => ?_) (ByteArray.empty, 0) ⟨by simp, hn.1, [], rfl, rfl, by simp [strR]⟩
  obtain ⟨t, i⟩ := s
  obtain ⟨h0, h1, acc, h2, h3, h4⟩ := hs
  simp only at h0 h1 h2 h3 h4
  subst h2
  unfold d40_b1
  simp only [c_lss, c_neq, c_eql, decide_eq_true_eq, lenI_u8s, gI_u8s]
  by_cases hlt : i < n
  · have hx : arReal .add .i64 a i = IntKind.i64.wrap (a + i) := rfl
    have hs1 : arReal .add .i64 i 1 = i + 1 := a_add (by omega) (by omega)
    rw [if_pos hlt, hx, hs1, s60 hc _ 1 1 (.inr (.inl rfl)) (by omega), Option.bind_some, fault_one P B _ _ rfl]
    rw [show (n - i).toNat = (n - (i + 1)).toNat + 1 from by omega] at h4
    unfold strFrom at h4
    have hw : wrap64 (a + i) = IntKind.i64.wrap (a + i) := by rw [wr64]; unfold wrap64; omega
    rw [hw] at h4
    generalize IntKind.i64.wrap (a + i) = x at *
    cases hf : need1 P B.length x 1 with
    | some f =>
      rw [hf] at h4
      simp only at h4
      have hk := need1_kind (.inr (.inl rfl)) hf
      simp only [Option.getD_some]
      rw [if_pos hk]
      refine .inr ?_
      rw [← h4]
    | none =>
      rw [hf] at h4
      simp only at h4
      obtain ⟨x0, x1⟩ := need1_none hf
      have x1' : x < ln B := x1
      simp only [Option.getD_none]
      rw [if_neg (by simp), if_pos (show Inb x (ln B) from ⟨x0, x1'⟩)]
      have er : rd B x = rdI B x := rfl
      rw [er] at h4
      by_cases hz : rdI B x = 0
      · rw [if_pos hz] at h4
        rw [if_pos hz]
        refine .inr ?_
        rw [← h4]
      · rw [if_neg hz] at h4
        rw [if_neg hz, a_add (a := x) (b := 1) (by omega) (by omega), if_pos (show Bnd x (x + 1) (ln B) from ⟨x0, by omega, by omega⟩), sub_one x0 x1', cat_str]
        rw [if_pos (show Sroom (strOfNums acc) (toBy (u8s [rdI B x])) by
          unfold Sroom
          rw [strOfNums_size]
          have : (toBy (u8s [rdI B x])).size = 1 := rfl
          unfold ln at h3
          omega)]
        refine .inl ⟨_, rfl, ⟨by simp only; omega, by simp only; omega, _, rfl, by simp only; unfold ln at *; simp; omega, ?_⟩, by simp only; omega, trivial⟩
        exact h4
  · rw [if_neg hlt]
    refine .inr ?_
    rw [show (n - i).toNat = 0 from by omega] at h4
    simp only [strFrom] at h4
    rw [← h4]
theorem s40 (P B : List Int) (a n : Int) : d40 (ints P) (u8s B) a n = mem_String.f P B a n := by
  unfold d40 mem_String.f
  rw [s27, Option.bind_some]
  by_cases hc : checkV P B = 0
  · rw [if_neg (by simp [c_neq, hc]), if_pos hc]
    simp only [c_lss, c_gtr, decide_eq_true_eq]
    by_cases h0 : n < 0
    · rw [if_pos h0, if_pos (.inl h0)]; rfl
    · by_cases h1 : 64 < n
      · rw [if_neg h0, if_pos h1, if_pos (.inr h1)]; rfl
      · rw [if_neg h0, if_neg h1, if_neg (show ¬ (n < 0 ∨ 64 < n) by omega), it40 P B hc a n ⟨by omega, by omega⟩]
        show _ = some (strOfNums (strR P B a n).1, ((strR P B a n).2.getD (0, 0)).1, ((strR P B a n).2.getD (0, 0)).2, 0)
        cases hs : (strR P B a n).2 with
        | some f =>
          have : (strR P B a n).1 = [] := by
            have key : ∀ m i acc g, (strFrom P B a m i acc).2 = some g → (strFrom P B a m i acc).1 = [] := by
              intro m
              induction m with
              | zero => intro i acc g h; cases h
              | succ m ih =>
                intro i acc g h
                unfold strFrom at h ⊢
                split
                · rfl
                · rename_i hn
                  rw [hn] at h
                  simp only at h
                  split
                  · rename_i hz; rw [if_pos hz] at h; cases h
                  · rename_i hz; rw [if_neg hz] at h; exact ih _ _ _ h
            exact key _ _ _ _ hs
          rw [this]; rfl
        | none => rfl
  · rw [if_pos (by simp [c_neq, hc]), if_neg hc]; rfl
end Go.Proofs.Ytmpdimigpaogkaa
end
section
namespace Go.Proofs.Ytmpdimigpaogkaa
open Go.Ab Go.RowKit Go.Proofs.Ytmpdimigpaogkaa.G Go.Proofs.YtmpdimigpaogkaaW.PrintWords Go.Proofs.YtmpdimigpaogkaaW.PrintLast
set_option maxRecDepth 100000
set_option maxHeartbeats 4000000
noncomputable def d31 (a0_0 : Int) (a0_1 : Int) (a0_2 : Bool) (a0_3 : Int) (a1_0 : Int) (a1_1 : Int) (a1_2 : Bool) (a1_3 : Int) : Option (Bool) :=
  if (cmpLit .geq a0_0 0) = true then
    if (cmpLit .geq a1_0 0) = true then
      if (cmpLit .lss a0_0 1099511627776) = true then
        if (cmpLit .lss a1_0 1099511627776) = true then
          if (cmpLit .leq (arReal .add .i64 a0_0 a0_1) a1_0) = true then
            some true
          else
            some (cmpLit .leq (arReal .add .i64 a1_0 a1_1) a0_0)
        else
          some false
      else
        some false
    else
      some false
  else
    some false
noncomputable def w31_c : Code := (Try.f31.body).getD .skip
theorem w31_h : Try.f31.body = some w31_c := by kernel_rfl
theorem w31 (a0_0 : Int) (a0_1 : Int) (a0_2 : Bool) (a0_3 : Int) (a1_0 : Int) (a1_1 : Int) (a1_2 : Bool) (a1_3 : Int) (r : Bool) (h : d31 a0_0 a0_1 a0_2 a0_3 a1_0 a1_1 a1_2 a1_3 = some r) : Ab.Fn Try.prog TT 31 [.agg [.i .i64 a0_0, .i .i64 a0_1, .b a0_2, .i .i64 a0_3], .agg [.i .i64 a1_0, .i .i64 a1_1, .b a1_2, .i .i64 a1_3]] (.b r) [] := by
  refine fn_pure tok W0 Try.func31 (by kernel_rfl) w31_h (by kernel_rfl) ?_
  intro ar un cv mn mx pl mi cmp nt beq an scmp cat slen sbyte ssub ofB toB len gi gb gs gl sub put app ovl rep ne0 ge0 inb bnd room sroom need br call loop cut nl E R K hK
  have D := E.D
  clear E
  unfold d31 at h
  cbv
  refine R.cut' (by kernel_rfl) (by kernel_rfl) ?_
  cbv
  refine R.brD h (by (first | rfl | simp only [D.har, D.hcmp])) ?_ ?_ <;> clear h <;> intro h <;> cbv
  · refine R.brD h (by (first | rfl | simp only [D.har, D.hcmp])) ?_ ?_ <;> clear h <;> intro h <;> cbv
    · refine R.brD h (by (first | rfl | simp only [D.har, D.hcmp])) ?_ ?_ <;> clear h <;> intro h <;> cbv
      · refine R.brD h (by (first | rfl | simp only [D.har, D.hcmp])) ?_ ?_ <;> clear h <;> intro h <;> cbv
        · refine R.brD h (by (first | rfl | simp only [D.har, D.hcmp])) ?_ ?_ <;> clear h <;> intro h <;> cbv
          · have e := ret_some h; clear h
            refine hK _ _ ?_
            cbv
            try (subst e; simp only [D.har, D.hcmp, and_self, and_true, true_and] <;> (repeat' apply And.intro) <;> rfl)
          · have e := ret_some h; clear h
            refine hK _ _ ?_
            cbv
            try (subst e; simp only [D.har, D.hcmp, and_self, and_true, true_and] <;> (repeat' apply And.intro) <;> rfl)
        · have e := ret_some h; clear h
          refine hK _ _ ?_
          cbv
          try (subst e; simp only [D.har, D.hcmp, and_self, and_true, true_and] <;> (repeat' apply And.intro) <;> rfl)
      · have e := ret_some h; clear h
        refine hK _ _ ?_
        cbv
        try (subst e; simp only [D.har, D.hcmp, and_self, and_true, true_and] <;> (repeat' apply And.intro) <;> rfl)
    · have e := ret_some h; clear h
      refine hK _ _ ?_
      cbv
      try (subst e; simp only [D.har, D.hcmp, and_self, and_true, true_and] <;> (repeat' apply And.intro) <;> rfl)
  · have e := ret_some h; clear h
    refine hK _ _ ?_
    cbv
    try (subst e; simp only [D.har, D.hcmp, and_self, and_true, true_and] <;> (repeat' apply And.intro) <;> rfl)

end Go.Proofs.Ytmpdimigpaogkaa
end
section
namespace Go.Proofs.Ytmpdimigpaogkaa
open Go.Ab Go.RowKit Go.Proofs.Ytmpdimigpaogkaa.G Go.Proofs.YtmpdimigpaogkaaW.PrintWords Go.Proofs.YtmpdimigpaogkaaW.PrintLast
theorem bytesWf {B : List Int} (h : ∀ x ∈ B, (Lit.int .u8 x).wf = true) : Bytes B := fun x hx => by
  have := h x hx
  simp [Lit.wf, IntKind.min, IntKind.max, IntKind.bits, IntKind.signed] at this
  omega
theorem lnmax {l : List Int} (h : l.length ≤ maxLen) : ln l ≤ 9223372036854775807 := by
  have e : maxLen = 9223372036854775807 := by decide
  unfold ln; omega
theorem leB_bytes : ∀ n v, Bytes (leBytes n v)
  | 0, v => fun x hx => by cases hx
  | n + 1, v => fun x hx => by
    rw [leBytes_cons] at hx
    rcases List.mem_cons.1 hx with rfl | hx
    · omega
    · exact leB_bytes n _ x hx
theorem bytes_spl {B b : List Int} (hB : Bytes B) (hb : Bytes b) (n : Nat) : Bytes (spl B n b) := fun x hx => by
  unfold spl at hx
  rcases List.mem_append.1 hx with h | h
  · exact hB x (List.mem_of_mem_take h)
  · rcases List.mem_append.1 h with h | h
    · exact hb x h
    · exact hB x (List.mem_of_mem_drop h)
theorem bytesStored {B : List Int} (hB : Bytes B) (at_ a : Int) (b : Bool) (v : Int) : Bytes (stored B at_ a b v) := bytes_spl hB (leB_bytes _ _) _
theorem storeV_form {P B : List Int} (hB : Bytes B) (hP : ln P ≤ 9223372036854775807) (at_ a : Int) (b : Bool) (v : Int) : ∃ P' B', (storeV P B at_ a b v).1 = ints P' ∧ (storeV P B at_ a b v).2.1 = u8s B' ∧ Bytes B' ∧ ln P' ≤ 9223372036854775807 := by
  unfold storeV
  split
  · exact ⟨[], [], rfl, rfl, fun x hx => by (cases hx), by simp [ln]⟩
  · split
    · split
      · exact ⟨[], [], rfl, rfl, fun x hx => by (cases hx), by simp [ln]⟩
      · exact ⟨P, _, rfl, rfl, bytesStored hB _ _ _ _, hP⟩
    · exact ⟨[], [], rfl, rfl, fun x hx => by (cases hx), by simp [ln]⟩
theorem pokeV_form {P B b : List Int} (hB : Bytes B) (hb : Bytes b) (hP : ln P ≤ 9223372036854775807) (at_ : Int) : ∃ P' B', (pokeV P B at_ b).1 = ints P' ∧ (pokeV P B at_ b).2.1 = u8s B' ∧ Bytes B' ∧ ln P' ≤ 9223372036854775807 := by
  unfold pokeV
  split
  · exact ⟨[], [], rfl, rfl, fun x hx => by (cases hx), by simp [ln]⟩
  · split
    · exact ⟨[], [], rfl, rfl, fun x hx => by (cases hx), by simp [ln]⟩
    · split
      · exact ⟨[], [], rfl, rfl, fun x hx => by (cases hx), by simp [ln]⟩
      · exact ⟨P, _, rfl, rfl, bytes_spl hB hb _, hP⟩
theorem same_true {P B : List Int} (hB : Bytes B) (hP : ln P ≤ 9223372036854775807) : d28 (ints P) (u8s B) (ints P) (u8s B) = some true := by
  rw [s28 P B P B hP hB hB]; simp
def fetchV (P B : List Int) (a n : Int) : List V × Int := if checkV P B ≠ 0 then ([], checkV P B) else if n < 0 ∨ 2048 < n then ([], 1) else (u8s (fetched P B a n.toNat 0), 0)
theorem s19f (P B : List Int) (a n : Int) : d19 (ints P) (u8s B) a n = some (fetchV P B a n) := s19 P B a n
theorem s38f (P B : List Int) (a n : Int) : d38 (ints P) (u8s B) a n = some ((fetchV P B a n).1, 0, 0, (fetchV P B a n).2) := by
  rw [s38]; unfold fetchV
  split
  · rfl
  · split <;> rfl
theorem cmp_refl (t : ByteArray) : strCmp .neq t t = false := by simp [strCmp]
theorem cmp_refl' (t : ByteArray) : strCmp .eql t t = true := by simp [strCmp]
theorem str_some (P B : List Int) (a n : Int) : ∃ r, mem_String.f P B a n = some r := by
  unfold mem_String.f
  split
  · split <;> exact ⟨_, rfl⟩
  · exact ⟨_, rfl⟩
theorem needs_add {P : List Int} {len a p : Int} : ∀ (m k : Nat) (i : Int), needs P len a p (m + k) i = (match needs P len a p m i with | some f => some f | none => needs P len a p k (i + m))
  | 0, k, i => by simp [needs]
  | m + 1, k, i => by
    rw [show m + 1 + k = (m + k) + 1 from by omega]
    have e1 : ∀ m, needs P len a p (m + 1) i = (match need1 P len (wrap64 (a + i)) p with | some f => some f | none => needs P len a p m (i + 1)) := fun _ => rfl
    rw [e1, e1]
    cases h : need1 P len (wrap64 (a + i)) p with
    | some f => simp
    | none =>
      simp only
      rw [needs_add m k (i + 1), show i + 1 + (m : Int) = i + ((m + 1 : Nat) : Int) from by omega]
theorem needs_shift {P : List Int} {len a p c : Int} : ∀ (m : Nat) (i : Int), needs P len (IntKind.i64.wrap (a + c)) p m i = needs P len a p m (c + i)
  | 0, _ => rfl
  | m + 1, i => by
    unfold needs
    have e : wrap64 (IntKind.i64.wrap (a + c) + i) = wrap64 (a + (c + i)) := by rw [wr64]; unfold wrap64; omega
    rw [e, needs_shift m (i + 1), show c + (i + 1) = c + i + 1 from by omega]
theorem fault_len {P B C : List Int} (h : B.length = C.length) (a n p : Int) : fault P B a n p = fault P C a n p := by unfold fault; rw [h]
/-- A part has no fault just if its two parts have none. -/
theorem fault_two {P B : List Int} {a k : Int} (hk : 0 ≤ k) {p : Int} (hp : p = 0 ∨ p = 1 ∨ p = 2 ∨ p = 4) : (fault P B a (k + k) p).1 = 0 ↔ (fault P B a k p).1 = 0 ∧ (fault P B (IntKind.i64.wrap (a + k)) k p).1 = 0 := by
  have h0 : ∀ {x n}, (fault P B x n p).1 = 0 ↔ needs P B.length x p n.toNat 0 = none := fun {x n} => ⟨fault_0 hp, fun h => by unfold fault; rw [h]; rfl⟩
  rw [h0, h0, h0, show (k + k).toNat = k.toNat + k.toNat from by omega, needs_add, needs_shift, show (0 : Int) + (k.toNat : Int) = k + 0 from by omega]
  cases needs P B.length a p k.toNat 0 <;> simp
theorem rdI_spl_in {B b : List Int} {lo y : Int} (h0 : 0 ≤ lo) (h1 : lo + ln b ≤ ln B) (hy : lo ≤ y) (hy2 : y < lo + ln b) : rdI (spl B lo.toNat b) y = rdI b (y - lo) := by
  unfold spl rdI ln at *
  rw [List.getD_eq_getElem?_getD, List.getD_eq_getElem?_getD]
  rw [List.getElem?_append_right (by simp; omega), List.getElem?_append_left (by simp; omega)]
  congr 2
  simp
  omega
theorem spl_spl {B x y : List Int} {n : Nat} (h : n + x.length + y.length ≤ B.length) : spl (spl B n x) (n + x.length) y = spl B n (x ++ y) := by
  have e1 : (B.take n).length = n := by rw [List.length_take]; omega
  have t : ((B.take n) ++ (x ++ B.drop (n + x.length))).take (n + x.length) = B.take n ++ x := by
    rw [← List.append_assoc]
    exact List.take_left' (by rw [List.length_append, e1])
  have d : ((B.take n) ++ (x ++ B.drop (n + x.length))).drop (n + x.length + y.length) = B.drop (n + (x ++ y).length) := by
    rw [← List.append_assoc, List.drop_append, List.drop_eq_nil_of_le (by rw [List.length_append, e1]; omega), List.nil_append, List.drop_drop, List.length_append, e1, List.length_append]
    congr 1
    omega
  unfold spl
  rw [t, d]
  simp
theorem spl_comm {B x y : List Int} {a b : Int} (ha : 0 ≤ a) (hb : 0 ≤ b) (h1 : a + ln x ≤ ln B) (h2 : b + ln y ≤ ln B) (hd : a + ln x ≤ b ∨ b + ln y ≤ a) : spl (spl B a.toNat x) b.toNat y = spl (spl B b.toNat y) a.toNat x := by
  have l1 := ln_spl ha h1
  have l2 := ln_spl hb h2
  have l3 := ln_spl (B := spl B a.toNat x) (b := y) hb (by rw [l1]; exact h2)
  have l4 := ln_spl (B := spl B b.toNat y) (b := x) ha (by rw [l2]; exact h1)
  have := ln_nn x
  have := ln_nn y
  refine eq_of_rd (by omega) (fun i i0 i1 => ?_)
  by_cases hx : a ≤ i ∧ i < a + ln x
  · rw [rdI_spl hb (by rw [l1]; exact h2) i0 (by omega), rdI_spl_in ha h1 hx.1 hx.2, rdI_spl_in ha (by rw [l2]; exact h1) hx.1 hx.2]
  · by_cases hy : b ≤ i ∧ i < b + ln y
    · rw [rdI_spl_in hb (by rw [l1]; exact h2) hy.1 hy.2, rdI_spl ha (by rw [l2]; exact h1) i0 (by omega), rdI_spl_in hb h2 hy.1 hy.2]
    · rw [rdI_spl hb (by rw [l1]; exact h2) i0 (by omega), rdI_spl ha h1 i0 (by omega), rdI_spl ha (by rw [l2]; exact h1) i0 (by omega), rdI_spl hb h2 i0 (by omega)]
theorem part_spl {B b : List Int} {lo : Int} (h0 : 0 ≤ lo) (h1 : lo + ln b ≤ ln B) : part (spl B lo.toNat b) lo (ln b) = b := by
  have l1 := ln_spl h0 h1
  have hp := part_ln (B := spl B lo.toNat b) h0 (ln_nn b) (by rw [l1]; exact h1)
  refine eq_of_rd hp (fun i i0 i1 => ?_)
  rw [hp] at i1
  rw [rdI_part h0 (by rw [l1]; exact h1) i0 i1, rdI_spl_in h0 h1 (by omega) (by omega), show lo + i - lo = i from by omega]
theorem part_out {B b : List Int} {lo a n : Int} (h0 : 0 ≤ lo) (h1 : lo + ln b ≤ ln B) (ha : 0 ≤ a) (hn : 0 ≤ n) (h2 : a + n ≤ ln B) (hd : a + n ≤ lo ∨ lo + ln b ≤ a) : part (spl B lo.toNat b) a n = part B a n := by
  have l1 := ln_spl h0 h1
  have hp := part_ln (B := spl B lo.toNat b) ha hn (by rw [l1]; exact h2)
  have hq := part_ln (B := B) ha hn h2
  refine eq_of_rd (by omega) (fun i i0 i1 => ?_)
  rw [hp] at i1
  rw [rdI_part ha (by rw [l1]; exact h2) i0 i1, rdI_part ha h2 i0 i1, rdI_spl h0 h1 (by omega) (by omega)]
theorem leBytes_app : ∀ (m n : Nat) (v : Int), leBytes (m + n) v = leBytes m v ++ leBytes n (v / 256 ^ m)
  | 0, n, v => by simp [leBytes]
  | m + 1, n, v => by
    rw [show m + 1 + n = (m + n) + 1 from by omega, leBytes_cons, leBytes_cons, leBytes_app m n, List.cons_append, Int.ediv_ediv_of_nonneg (by decide), Int.pow_succ, Int.mul_comm (256 ^ m)]
theorem le_leBytes : ∀ (n : Nat) (v : Int), le (leBytes n v) = v % 256 ^ n
  | 0, v => by simp [leBytes, le]
  | n + 1, v => by
    rw [leBytes_cons, le_cons, le_leBytes n, Int.pow_succ, Int.mul_comm (256 ^ n)]
    have h1 := Int.emod_add_mul_ediv v 256
    have h2 := Int.emod_add_mul_ediv v (256 * 256 ^ n)
    have h3 := Int.emod_add_mul_ediv (v / 256) (256 ^ n)
    have h4 : v / (256 * 256 ^ n) = v / 256 / 256 ^ n := by rw [Int.ediv_ediv_of_nonneg (by decide)]
    rw [h4] at h2
    have h5 : (256 * 256 ^ n) * (v / 256 / 256 ^ n) = 256 * (256 ^ n * (v / 256 / 256 ^ n)) := by rw [Int.mul_assoc]
    omega
theorem stored_ln {B : List Int} {at_ a : Int} {b : Bool} {v : Int} (ha : 0 ≤ a) (h0 : 0 ≤ at_) (h1 : at_ + a ≤ ln B) : ln (stored B at_ a b v) = ln B := by
  have hl : ln (leBytes a.toNat (wrapT a b v)) = a := by unfold ln; rw [leBytes_length]; omega
  exact ln_spl h0 (by rw [hl]; exact h1)
theorem check_len {P B C : List Int} (h : ln C = ln B) (hc : checkV P B = 0) : checkV P C = 0 := by
  obtain ⟨c1, c2, c3⟩ := check_to hc
  exact check_of c1 (by omega) c3
theorem s31 (x n : Int) (b1 : Bool) (v1 y m : Int) (b2 : Bool) (v2 : Int) : d31 x n b1 v1 y m b2 v2 = some (apartB x n y m) := by
  unfold d31 apartB
  have e1 : arReal .add .i64 x n = IntKind.i64.wrap (x + n) := rfl
  have e2 : arReal .add .i64 y m = IntKind.i64.wrap (y + m) := rfl
  rw [e1, e2]
  simp only [c_geq, c_lss, c_leq, decide_eq_true_eq]
  by_cases h1 : 0 ≤ x
  · by_cases h2 : 0 ≤ y
    · by_cases h3 : x < 1099511627776
      · by_cases h4 : y < 1099511627776
        · by_cases h5 : IntKind.i64.wrap (x + n) ≤ y <;> simp [h1, h2, h3, h4, h5]
        · simp [h1, h2, h3, h4]
      · simp [h1, h2, h3]
    · simp [h1, h2]
  · simp [h1]
def diffs (B C : List Int) : Nat → Int → List (Int × Int × Int)
  | 0, _ => []
  | m + 1, i => if rdI B i ≠ rdI C i then (i, rdI B i, rdI C i) :: diffs B C m (i + 1) else diffs B C m (i + 1)
def chg (x : Int × Int × Int) : V := .agg [.i .i64 x.1, .i .u8 x.2.1, .i .u8 x.2.2]
def chgs (l : List (Int × Int × Int)) : List V := l.map chg
theorem diffs_len (B C : List Int) : ∀ m i, (diffs B C m i).length ≤ m
  | 0, _ => Nat.le_refl _
  | m + 1, i => by
    unfold diffs
    have := diffs_len B C m (i + 1)
    split
    · simp; omega
    · omega
theorem it41b (B C : List Int) (hl : ln B = ln C) (hm : ln B ≤ 2048) : iter (d41_b2 (u8s B) (u8s C)) (0, []) = some (chgs (diffs B C (ln B).toNat 0)) := by
  refine iter_fun (fun s => 0 ≤ s.1 ∧ s.1 ≤ ln B ∧ lenI s.2 ≤ s.1 ∧ s.2 ++ chgs (diffs B C (ln B - s.1).toNat s.1) = chgs (diffs B C (ln B).toNat 0)) (fun s => (ln B - s.1).toNat) (fun _ => chgs (diffs B C (ln B).toNat 0)) (fun s hs => ?_) (0, []) ⟨by simp, ln_nn B, by simp [lenI], by simp⟩
  obtain ⟨i, l⟩ := s
  obtain ⟨h0, h1, h2, h3⟩ := hs
  simp only at h0 h1 h2 h3
  generalize chgs (diffs B C (ln B).toNat 0) = R at *
  unfold d41_b2
  simp only [c_lss, c_neq, decide_eq_true_eq, lenI_u8s, gI_u8s]
  by_cases hlt : i < ln B
  · rw [if_pos hlt, if_pos (show Inb i (ln B) from ⟨h0, hlt⟩), if_pos (show Inb i (ln C) from ⟨h0, by omega⟩), if_pos (show Inb i (ln C) from ⟨h0, by omega⟩), a_add (by omega) (by omega)]
    rw [show (ln B - i).toNat = (ln B - (i + 1)).toNat + 1 from by omega] at h3
    unfold diffs at h3
    by_cases hd : rdI B i ≠ rdI C i
    · rw [if_pos hd] at h3 ⊢
      have e : lenI (appL l [.agg [.i .i64 i, .i .u8 (rdI B i), .i .u8 (rdI C i)]]) = lenI l + 1 := by simp [lenI, appL]
      rw [e, if_pos (show Room (lenI l + 1) 16 from ⟨by omega, by omega⟩)]
      refine .inl ⟨_, rfl, ⟨by simp only; omega, by simp only; omega, by simp only; rw [e]; omega, ?_⟩, by simp only; omega, trivial⟩
      simp only
      rw [← h3]
      simp [appL, chgs, chg]
    · rw [if_neg hd] at h3 ⊢
      exact .inl ⟨_, rfl, ⟨by simp only; omega, by simp only; omega, by simp only; omega, h3⟩, by simp only; omega, trivial⟩
  · rw [if_neg hlt]
    refine .inr ?_
    rw [show (ln B - i).toNat = 0 from by omega] at h3
    simp only [diffs, chgs, List.map_nil, List.append_nil] at h3
    rw [h3]
def diffV (P B Q C : List Int) : List V × Int := if checkV P B ≠ 0 then ([], checkV P B) else if checkV Q C ≠ 0 then ([], checkV Q C) else if P = Q then (chgs (diffs B C (ln B).toNat 0), 0) else ([], 1)
theorem len2 (u v : V) : lenI [u, v] = 2 := rfl
theorem s41 (P B Q C : List Int) : d41 (ints P) (u8s B) (ints Q) (u8s C) = some (diffV P B Q C) := by
  unfold d41 diffV
  by_cases hc : checkV P B = 0
  · have r1 : d41_b1 (ints P) (u8s B) (ints Q) (u8s C) 0 = some (.inl 1) := by
      unfold d41_b1
      rw [len2, if_pos (show cmpLit .lss 0 2 = true from rfl), if_pos (show Inb 0 2 from ⟨by decide, by decide⟩)]
      show (d18 (ints P) (u8s B)).bind _ = _
      rw [s18, hc, Option.bind_some, if_neg (by simp [c_neq])]; rfl
    by_cases hq : checkV Q C = 0
    · have r2 : d41_b1 (ints P) (u8s B) (ints Q) (u8s C) 1 = some (.inl 2) := by
        unfold d41_b1
        rw [len2, if_pos (show cmpLit .lss 1 2 = true from rfl), if_pos (show Inb 1 2 from ⟨by decide, by decide⟩)]
        show (d18 (ints Q) (u8s C)).bind _ = _
        rw [s18, hq, Option.bind_some, if_neg (by simp [c_neq])]; rfl
      have r3 : d41_b1 (ints P) (u8s B) (ints Q) (u8s C) 2 = some (.inr (.inr ())) := by
        unfold d41_b1
        rw [len2, if_neg (by decide)]
      rw [iter_inl r1, iter_inl r2, iter_inr r3, if_neg (not_not_intro hc), if_neg (not_not_intro hq)]
      obtain ⟨c1, c2, _⟩ := check_to hc
      obtain ⟨q1, q2, _⟩ := check_to hq
      simp only [Option.bind_some]
      rw [s58 P Q (by omega), Option.bind_some]
      by_cases h : P = Q
      · rw [if_neg (by simp [h, notB']), if_pos h]
        have hl : ln B = ln C := by rw [c2, q2, h]
        rw [it41b B C hl (by omega)]; rfl
      · rw [if_pos (by simp [h, notB']), if_neg h]
    · have r2 : d41_b1 (ints P) (u8s B) (ints Q) (u8s C) 1 = some (.inr (.inl ([], checkV Q C))) := by
        unfold d41_b1
        rw [len2, if_pos (show cmpLit .lss 1 2 = true from rfl), if_pos (show Inb 1 2 from ⟨by decide, by decide⟩)]
        show (d18 (ints Q) (u8s C)).bind _ = _
        rw [s18, Option.bind_some, if_pos (by simp [c_neq, hq])]
      rw [iter_inl r1, iter_inr r2, if_neg (not_not_intro hc), if_pos hq]; rfl
  · have r1 : d41_b1 (ints P) (u8s B) (ints Q) (u8s C) 0 = some (.inr (.inl ([], checkV P B))) := by
      unfold d41_b1
      rw [len2, if_pos (show cmpLit .lss 0 2 = true from rfl), if_pos (show Inb 0 2 from ⟨by decide, by decide⟩)]
      show (d18 (ints P) (u8s B)).bind _ = _
      rw [s18, Option.bind_some, if_pos (by simp [c_neq, hc])]
    rw [iter_inr r1, if_pos hc]; rfl
end Go.Proofs.Ytmpdimigpaogkaa
end
section
/- What a reading of an array of two or three brings. No statement of its own. -/

namespace Go.Ab
open Go.RowKit Go.ChangeShapes Go.WideShapes Go.ChangeAt Go.Deep
section
variable {H : Type} {enc : TypeId × Value → H} {P : Program} {T : Tr} {w : World}
theorem OpV.arr2 (htok : TyOk P T) {α : Type} {t e : Nat} {te : TE} {mk : α → List V} {ok : α → Prop} (ht : T.look t = some te) (hd : te.desc = .array 2 e) (hct : P.cellsOf t = 2) (hce : P.cellsOf e = 1) (ho : OpV T enc P w e [e] mk ok) :
    OpV T enc P w t [e, e] (fun x : α × α => mk x.1 ++ mk x.2) (fun x => ok x.1 ∧ ok x.2) := by
  intro fuel cs x h
  have hu := htok.und _ _ ht
  rw [hd] at hu
  cases fuel with
  | zero => simp [DataW.trod] at h
  | succ n =>
    unfold DataW.trod at h
    rw [hu] at h
    have r2 : List.range 2 = [0, 1] := rfl
    simp [r2, hce, hct] at h
    obtain ⟨hl, h⟩ := h
    match cs, hl with
    | [c0, c1], _ =>
      simp at h
      cases h0 : DataW.trod enc P w 0 (fun _ => true) true n e [c0] with
      | none => simp [h0] at h
      | some y0 =>
        cases h1 : DataW.trod enc P w 0 (fun _ => true) true n e [c1] with
        | none => simp [h0, h1] at h
        | some y1 =>
          obtain ⟨a, a1, a2, a3, a4⟩ := ho _ _ _ h0
          obtain ⟨b, b1, b2, b3, b4⟩ := ho _ _ _ h1
          refine ⟨(a, b), relL_app a1 b1, fun u hu => ?_, wtC_append a3 b3, a4, b4⟩
          rcases List.mem_cons.1 hu with rfl | hu
          · exact a2 _ (by simp)
          · exact b2 _ hu
theorem OpV.arr3 (htok : TyOk P T) {α : Type} {t e : Nat} {te : TE} {mk : α → List V} {ok : α → Prop} (ht : T.look t = some te) (hd : te.desc = .array 3 e) (hct : P.cellsOf t = 3) (hce : P.cellsOf e = 1) (ho : OpV T enc P w e [e] mk ok) :
    OpV T enc P w t [e, e, e] (fun x : α × (α × α) => mk x.1 ++ (mk x.2.1 ++ mk x.2.2)) (fun x => ok x.1 ∧ (ok x.2.1 ∧ ok x.2.2)) := by
  intro fuel cs x h
  have hu := htok.und _ _ ht
  rw [hd] at hu
  cases fuel with
  | zero => simp [DataW.trod] at h
  | succ n =>
    unfold DataW.trod at h
    rw [hu] at h
    have r3 : List.range 3 = [0, 1, 2] := rfl
    simp [r3, hce, hct] at h
    obtain ⟨hl, h⟩ := h
    match cs, hl with
    | [c0, c1, c2], _ =>
      simp at h
      cases h0 : DataW.trod enc P w 0 (fun _ => true) true n e [c0] with
      | none => simp [h0] at h
      | some y0 =>
        cases h1 : DataW.trod enc P w 0 (fun _ => true) true n e [c1] with
        | none => simp [h0, h1] at h
        | some y1 =>
          cases h2 : DataW.trod enc P w 0 (fun _ => true) true n e [c2] with
          | none => simp [h0, h1, h2] at h
          | some y2 =>
            obtain ⟨a, a1, a2, a3, a4⟩ := ho _ _ _ h0
            obtain ⟨b, b1, b2, b3, b4⟩ := ho _ _ _ h1
            obtain ⟨c, c1', c2', c3, c4⟩ := ho _ _ _ h2
            refine ⟨(a, b, c), relL_app a1 (relL_app b1 c1'), fun u hu => ?_, wtC_append a3 (wtC_append b3 c3), a4, b4, c4⟩
            rcases List.mem_cons.1 hu with rfl | hu
            · exact a2 _ (by simp)
            · rcases List.mem_cons.1 hu with rfl | hu
              · exact b2 _ (by simp)
              · exact c2' _ hu
theorem okWide_arr {n e : Nat} {t : TypeId} {v : Value} {r : Reach} {base : Nat} (ht : P.underlying t = some (.array n e)) (h : Value.okWide P w r base t v) : ∃ cs, v = .agg cs ∧ cs.size = P.cellsOf t := by
  simp only [Value.okWide, ht] at h
  obtain ⟨cs, h1, h2, _⟩ := h
  exact ⟨cs, h1, h2⟩
end
end Go.Ab
end
section
namespace Go.Proofs.Ytmpdimigpaogkaa
open Go.Ab Go.RowKit Go.Proofs.Ytmpdimigpaogkaa.G Go.Proofs.YtmpdimigpaogkaaW.PrintWords Go.Proofs.YtmpdimigpaogkaaW.PrintLast
set_option maxRecDepth 100000
set_option maxHeartbeats 4000000
end Go.Proofs.Ytmpdimigpaogkaa
end
section
namespace Go.Proofs.Ytmpdimigpaogkaa
open Go.Ab Go.RowKit Go.Proofs.Ytmpdimigpaogkaa.G Go.Proofs.YtmpdimigpaogkaaW.PrintWords Go.Proofs.YtmpdimigpaogkaaW.PrintLast
set_option maxRecDepth 100000
set_option maxHeartbeats 4000000
end Go.Proofs.Ytmpdimigpaogkaa
end
