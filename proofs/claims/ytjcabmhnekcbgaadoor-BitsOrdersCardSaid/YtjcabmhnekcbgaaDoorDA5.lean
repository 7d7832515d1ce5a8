/- Texts of this seat, merged in build order. No statement of its own. -/
import Derived.Test.YtjcabmhnekcbgaaDoorDA4
set_option linter.unusedVariables false
set_option linter.unusedSimpArgs false
section
namespace Go.Proofs.YtjcabmhnekcbgaaDoor
open Go.Ab Go.RowKit 
set_option maxRecDepth 100000
set_option maxHeartbeats 40000000
noncomputable def d44 (a0 : Bool) : Option (Int × Bool × Int × Int) :=
  if a0 = true then
    (d10).bind fun x2 =>
    some (x2.1, x2.2, 1, 0)
  else
    (d10).bind fun x3 =>
    some (x3.1, x3.2, 0, 0)
noncomputable def w44_c : Code := (Tryd.f44.body).getD .skip
theorem w44_h : Tryd.f44.body = some w44_c := by kernel_rfl
theorem w44 (a0 : Bool) (r : Int × Bool × Int × Int) (h : d44 a0 = some r) : Ab.Fn Tryd.prog TT 44 [.b a0] (.agg [.i .i64 r.1, .b r.2.1, .i .i64 r.2.2.1, .i .i64 r.2.2.2]) [] := by
  refine fn_pure tok W0 Tryd.func44 (by kernel_rfl) w44_h (by kernel_rfl) ?_
  intro ar un cv mn mx pl mi cmp nt beq an scmp cat slen sbyte ssub ofB toB len gi gb gs gl sub put app ovl rep ne0 ge0 inb bnd room sroom need br call callb loop cut nl E R K hK
  have D := E.D
  clear E
  unfold d44 at h
  cbv
  refine R.cut' (by kernel_rfl) (by kernel_rfl) ?_
  cbv
  refine R.brD h (by rfl) ?_ ?_ <;> clear h <;> intro h <;> cbv
  · refine R.callD h (fun x2 hx2 h2 => ?_)
    clear h; have h := h2; clear h2
    refine R.call' (w10 _ hx2) (by rfl) ?_
    clear hx2; cbv
    have e := ret_some h; clear h
    refine hK _ _ ?_
    cbv
    try (subst e; simp only [and_self, and_true, true_and] <;> (repeat' apply And.intro) <;> rfl)
  · refine R.callD h (fun x3 hx3 h2 => ?_)
    clear h; have h := h2; clear h2
    refine R.call' (w10 _ hx3) (by rfl) ?_
    clear hx3; cbv
    have e := ret_some h; clear h
    refine hK _ _ ?_
    cbv
    try (subst e; simp only [and_self, and_true, true_and] <;> (repeat' apply And.intro) <;> rfl)

noncomputable def d13 (a0 : Int) (a1_0 : Int) (a1_1 : Bool) (a2 : Int) : Option (Int × Bool × Int × Int) :=
  (d27 a1_0 a1_1).bind fun x2 =>
  if (cmpLit .neq x2 0) = true then
    some (0, false, 0, x2)
  else
    (d42 a1_0 a1_1 a2).bind fun x3 =>
    (d43 a1_0 a1_1).bind fun x4 =>
    if (cmpLit .eql a0 1) = true then
      (d42 x4.1 x4.2 (unReal .neg .i64 x3)).bind fun x8 =>
      some (x4.1, x4.2, x8, 0)
    else
      if (cmpLit .eql a0 2) = true then
        (d42 x4.1 x4.2 (arReal .sub .i64 (unReal .neg .i64 x3) 1)).bind fun x9 =>
        some (x4.1, x4.2, x9, 0)
      else
        if (cmpLit .eql a0 3) = true then
          (d44 (cmpLit .eql x3 0)).bind fun x10 =>
          some (x10.1, x10.2.1, x10.2.2.1, x10.2.2.2)
        else
          some (0, false, 0, 11)
noncomputable def w13_c : Code := (Tryd.f13.body).getD .skip
theorem w13_h : Tryd.f13.body = some w13_c := by kernel_rfl
theorem w13 (a0 : Int) (a1_0 : Int) (a1_1 : Bool) (a2 : Int) (r : Int × Bool × Int × Int) (h : d13 a0 a1_0 a1_1 a2 = some r) : Ab.Fn Tryd.prog TT 13 [.i .i64 a0, .agg [.i .i64 a1_0, .b a1_1], .i .i64 a2] (.agg [.i .i64 r.1, .b r.2.1, .i .i64 r.2.2.1, .i .i64 r.2.2.2]) [] := by
  refine fn_pure tok (fun r => match r with | 8 => [[],[],[],[2],[1,2,3],[0,1,2,3,4],[0,1,2,3,4,5]] | 10 => [[],[],[],[2],[2,3],[1,2,3,4],[0,1,2,3,4,5],[0,1,2,3,4,5,6]] | _ => []) Tryd.func13 (by kernel_rfl) w13_h (by kernel_rfl) ?_
  intro ar un cv mn mx pl mi cmp nt beq an scmp cat slen sbyte ssub ofB toB len gi gb gs gl sub put app ovl rep ne0 ge0 inb bnd room sroom need br call callb loop cut nl E R K hK
  have D := E.D
  clear E
  unfold d13 at h
  cbv
  refine R.cut' (by kernel_rfl) (by kernel_rfl) ?_
  cbv
  refine R.callD h (fun x2 hx2 h2 => ?_)
  clear h; have h := h2; clear h2
  refine R.call' (w27 _ _ _ hx2) (by (first | (simp only [D.har, D.hcmp, D.hun]; done) | rfl | (simp only [D.har, D.hcmp, D.hun]; rfl))) ?_
  clear hx2; cbv
  refine R.brD h (by (first | (simp only [D.har, D.hcmp, D.hun]; done) | rfl | (simp only [D.har, D.hcmp, D.hun]; rfl))) ?_ ?_ <;> clear h <;> intro h <;> cbv
  · have e := ret_some h; clear h
    refine hK _ _ ?_
    cbv
    try (subst e; simp only [D.har, D.hcmp, D.hun, and_self, and_true, true_and] <;> (repeat' apply And.intro) <;> rfl)
  · refine R.callD h (fun x3 hx3 h2 => ?_)
    clear h; have h := h2; clear h2
    refine R.call' (w42 _ _ _ _ hx3) (by (first | (simp only [D.har, D.hcmp, D.hun]; done) | rfl | (simp only [D.har, D.hcmp, D.hun]; rfl))) ?_
    clear hx3; cbv
    refine R.callD h (fun x4 hx4 h2 => ?_)
    clear h; have h := h2; clear h2
    refine R.call' (w43 _ _ _ hx4) (by (first | (simp only [D.har, D.hcmp, D.hun]; done) | rfl | (simp only [D.har, D.hcmp, D.hun]; rfl))) ?_
    clear hx4; cbv
    refine R.cut' (by kernel_rfl) (by kernel_rfl) ?_
    cbv
    refine R.brD h (by (first | (simp only [D.har, D.hcmp, D.hun]; done) | rfl | (simp only [D.har, D.hcmp, D.hun]; rfl))) ?_ ?_ <;> clear h <;> intro h <;> cbv
    · refine R.callD h (fun x8 hx8 h2 => ?_)
      clear h; have h := h2; clear h2
      refine R.call' (w42 _ _ _ _ hx8) (by (first | (simp only [D.har, D.hcmp, D.hun]; done) | rfl | (simp only [D.har, D.hcmp, D.hun]; rfl))) ?_
      clear hx8; cbv
      have e := ret_some h; clear h
      refine hK _ _ ?_
      cbv
      try (subst e; simp only [D.har, D.hcmp, D.hun, and_self, and_true, true_and] <;> (repeat' apply And.intro) <;> rfl)
    · refine R.brD h (by (first | (simp only [D.har, D.hcmp, D.hun]; done) | rfl | (simp only [D.har, D.hcmp, D.hun]; rfl))) ?_ ?_ <;> clear h <;> intro h <;> cbv
      · refine R.callD h (fun x9 hx9 h2 => ?_)
        clear h; have h := h2; clear h2
        refine R.call' (w42 _ _ _ _ hx9) (by (first | (simp only [D.har, D.hcmp, D.hun]; done) | rfl | (simp only [D.har, D.hcmp, D.hun]; rfl))) ?_
        clear hx9; cbv
        have e := ret_some h; clear h
        refine hK _ _ ?_
        cbv
        try (subst e; simp only [D.har, D.hcmp, D.hun, and_self, and_true, true_and] <;> (repeat' apply And.intro) <;> rfl)
      · refine R.brD h (by (first | (simp only [D.har, D.hcmp, D.hun]; done) | rfl | (simp only [D.har, D.hcmp, D.hun]; rfl))) ?_ ?_ <;> clear h <;> intro h <;> cbv
        · refine R.callD h (fun x10 hx10 h2 => ?_)
          clear h; have h := h2; clear h2
          refine R.call' (w44 _ _ hx10) (by (first | (simp only [D.har, D.hcmp, D.hun]; done) | rfl | (simp only [D.har, D.hcmp, D.hun]; rfl))) ?_
          clear hx10; cbv
          have e := ret_some h; clear h
          refine hK _ _ ?_
          cbv
          try (subst e; simp only [D.har, D.hcmp, D.hun, and_self, and_true, true_and] <;> (repeat' apply And.intro) <;> rfl)
        · have e := ret_some h; clear h
          refine hK _ _ ?_
          cbv
          try (subst e; simp only [D.har, D.hcmp, D.hun, and_self, and_true, true_and] <;> (repeat' apply And.intro) <;> rfl)

noncomputable def d45 (a0_0 : Int) (a0_1 : Bool) (a1_0 : Int) (a1_1 : Bool) : Option (Int) :=
  (d27 a0_0 a0_1).bind fun x7 =>
  if (cmpLit .neq x7 0) = true then
    some 10
  else
    (d27 a1_0 a1_1).bind fun x8 =>
    if (cmpLit .neq x8 0) = true then
      some 10
    else
      some 0
noncomputable def w45_c : Code := (Tryd.f45.body).getD .skip
theorem w45_h : Tryd.f45.body = some w45_c := by kernel_rfl
theorem w45 (a0_0 : Int) (a0_1 : Bool) (a1_0 : Int) (a1_1 : Bool) (r : Int) (h : d45 a0_0 a0_1 a1_0 a1_1 = some r) : Ab.Fn Tryd.prog TT 45 [.agg [.i .i64 a0_0, .b a0_1], .agg [.i .i64 a1_0, .b a1_1]] (.i .i64 r) [] := by
  refine fn_pure tok W0 Tryd.func45 (by kernel_rfl) w45_h (by kernel_rfl) ?_
  intro ar un cv mn mx pl mi cmp nt beq an scmp cat slen sbyte ssub ofB toB len gi gb gs gl sub put app ovl rep ne0 ge0 inb bnd room sroom need br call callb loop cut nl E R K hK
  have D := E.D
  clear E
  unfold d45 at h
  cbv
  refine R.cut' (by kernel_rfl) (by kernel_rfl) ?_
  cbv
  refine R.cut' (by kernel_rfl) (by kernel_rfl) ?_
  cbv
  refine R.callD h (fun x7 hx7 h2 => ?_)
  clear h; have h := h2; clear h2
  refine R.call' (w27 _ _ _ hx7) (by (first | (simp only [D.hcmp]; done) | rfl | (simp only [D.hcmp]; rfl))) ?_
  clear hx7; cbv
  refine R.brD h (by (first | (simp only [D.hcmp]; done) | rfl | (simp only [D.hcmp]; rfl))) ?_ ?_ <;> clear h <;> intro h <;> cbv
  · have e := ret_some h; clear h
    refine hK _ _ ?_
    cbv
    try (subst e; simp only [D.hcmp, and_self, and_true, true_and] <;> (repeat' apply And.intro) <;> rfl)
  · refine R.callD h (fun x8 hx8 h2 => ?_)
    clear h; have h := h2; clear h2
    refine R.call' (w27 _ _ _ hx8) (by (first | (simp only [D.hcmp]; done) | rfl | (simp only [D.hcmp]; rfl))) ?_
    clear hx8; cbv
    refine R.brD h (by (first | (simp only [D.hcmp]; done) | rfl | (simp only [D.hcmp]; rfl))) ?_ ?_ <;> clear h <;> intro h <;> cbv
    · have e := ret_some h; clear h
      refine hK _ _ ?_
      cbv
      try (subst e; simp only [D.hcmp, and_self, and_true, true_and] <;> (repeat' apply And.intro) <;> rfl)
    · have e := ret_some h; clear h
      refine hK _ _ ?_
      cbv
      try (subst e; simp only [D.hcmp, and_self, and_true, true_and] <;> (repeat' apply And.intro) <;> rfl)

noncomputable def d46_b1 (a0 : Int) (a1_0 : Int) (a1_1 : Bool) (p2 : Int) (s12 : Int × Int) : Option ((Int × Int) ⊕ (Int)) :=
  if (cmpLit .lss s12.2 p2) = true then
    if (cmpLit .eql a0 9) = true then
      (d42 a1_0 a1_1 (arReal .add .i64 s12.1 s12.1)).bind fun x17 =>
      some (.inl (x17, (arReal .add .i64 s12.2 1)))
    else
      if a1_1 = true then
        if (Ne0 2) then
          some (.inl ((arReal .quo .i64 (arReal .sub .i64 s12.1 (arReal .and .i64 s12.1 1)) 2), (arReal .add .i64 s12.2 1)))
        else none
      else
        if (Ne0 2) then
          some (.inl ((wrapK .i64 (arReal .quo .u64 (wrapK .u64 s12.1) 2)), (arReal .add .i64 s12.2 1)))
        else none
  else
    some (.inr s12.1)
noncomputable def d46 (a0 : Int) (a1_0 : Int) (a1_1 : Bool) (a2 : Int) (a3 : Int) : Option (Int) :=
  if (Ne0 (arReal .mul .i64 8 a1_0)) then
    Option.bind (α := Int) (
      if (cmpLit .lss (arReal .rem .i64 a3 (arReal .mul .i64 8 a1_0)) 0) = true then
        some (arReal .add .i64 (arReal .rem .i64 a3 (arReal .mul .i64 8 a1_0)) (arReal .mul .i64 8 a1_0))
      else
        some (arReal .rem .i64 a3 (arReal .mul .i64 8 a1_0))) fun y1 =>
    Option.bind (α := Int) (
      (iter (d46_b1 a0 a1_0 a1_1 y1) (a2, 0)).bind fun y15 =>
      some y15) fun y9 =>
    some y9
  else none
noncomputable def w46_c : Code := (Tryd.f46.body).getD .skip
theorem w46_h : Tryd.f46.body = some w46_c := by kernel_rfl
theorem w46 (a0 : Int) (a1_0 : Int) (a1_1 : Bool) (a2 : Int) (a3 : Int) (r : Int) (h : d46 a0 a1_0 a1_1 a2 a3 = some r) : Ab.Fn Tryd.prog TT 46 [.i .i64 a0, .agg [.i .i64 a1_0, .b a1_1], .i .i64 a2, .i .i64 a3] (.i .i64 r) [] := by
  refine fn_pure tok W0 Tryd.func46 (by kernel_rfl) w46_h (by kernel_rfl) ?_
  intro ar un cv mn mx pl mi cmp nt beq an scmp cat slen sbyte ssub ofB toB len gi gb gs gl sub put app ovl rep ne0 ge0 inb bnd room sroom need br call callb loop cut nl E R K hK
  have D := E.D
  clear E
  unfold d46 at h
  cbv
  refine R.needD h (by (first | (simp only [D.har, D.hcmp, D.hcv, D.hne0]; done) | rfl | (simp only [D.har, D.hcmp, D.hcv, D.hne0]; rfl))) ?_
  clear h; intro h; cbv
  refine R.cutB (fun p => p) (fun _ _ e => e) h [] (fun p2 => [(9, .i .i64 p2)]) (fun p2 => []) (by kernel_rfl) (by kernel_rfl) (fun y1 hy hFy1 L hLy1 => ?_) (fun p2 h2 => ?_)
  · clear h; have h := hy; clear hy; cbv
    refine R.brD h (by (first | (simp only [D.har, D.hcmp, D.hcv, D.hne0]; done) | rfl | (simp only [D.har, D.hcmp, D.hcv, D.hne0]; rfl))) ?_ ?_ <;> clear h <;> intro h <;> cbv
    · obtain ⟨s', e, hi⟩ := jn_some (fun p => p) h
      refine hLy1 s' _ _ hi ⟨by kernel_rfl, ?_, ?_, by kernel_rfl, by kernel_rfl⟩ <;> cbv <;> (try (subst e; simp only [D.har, D.hcmp, D.hcv, D.hne0, and_self, and_true, true_and] <;> (repeat' apply And.intro) <;> rfl))
    · obtain ⟨s', e, hi⟩ := jn_some (fun p => p) h
      refine hLy1 s' _ _ hi ⟨by kernel_rfl, ?_, ?_, by kernel_rfl, by kernel_rfl⟩ <;> cbv <;> (try (subst e; simp only [D.har, D.hcmp, D.hcv, D.hne0, and_self, and_true, true_and] <;> (repeat' apply And.intro) <;> rfl))
  · clear h; have h := h2; clear h2; try dsimp only at h
    cbv
    refine R.cutB (fun p => p) (fun _ _ e => e) h [] (fun p19 => [(2, .i .i64 p19)]) (fun p19 => []) (by kernel_rfl) (by kernel_rfl) (fun y9 hy hFy9 L hLy9 => ?_) (fun p19 h2 => ?_)
    · clear h; have h := hy; clear hy; cbv
      refine R.loopD h (fun s0 y15 e0 hi hFs12 => ?_)
      clear h
      refine R.loopI hi [] (fun s12 => [(2, .i .i64 s12.1), (10, .i .i64 s12.2)]) (fun s12 => []) ⟨by kernel_rfl, ?_, ?_, by kernel_rfl, by kernel_rfl⟩ (by kernel_rfl) ?_
      · cbv; try (subst e0; simp only [D.har, D.hcmp, D.hcv, D.hne0, and_self, and_true, true_and] <;> (repeat' apply And.intro) <;> rfl)
      · cbv; try (subst e0; simp only [D.har, D.hcmp, D.hcv, D.hne0, and_self, and_true, true_and] <;> (repeat' apply And.intro) <;> rfl)
      clear hi e0
      intro s12 m y' hy hins12 houts12 L hLs12
      have h := hy; clear hy; unfold d46_b1 at h
      cbv
      refine R.cut' (by kernel_rfl) (by kernel_rfl) ?_
      cbv
      refine R.brD h (by (first | (simp only [D.har, D.hcmp, D.hcv, D.hne0]; done) | rfl | (simp only [D.har, D.hcmp, D.hcv, D.hne0]; rfl))) ?_ ?_ <;> clear h <;> intro h <;> cbv
      · refine R.cut' (by kernel_rfl) (by kernel_rfl) ?_
        cbv
        refine R.brD h (by (first | (simp only [D.har, D.hcmp, D.hcv, D.hne0]; done) | rfl | (simp only [D.har, D.hcmp, D.hcv, D.hne0]; rfl))) ?_ ?_ <;> clear h <;> intro h <;> cbv
        · refine R.callD h (fun x17 hx17 h2 => ?_)
          clear h; have h := h2; clear h2
          refine R.call' (w42 _ _ _ _ hx17) (by (first | (simp only [D.har, D.hcmp, D.hcv, D.hne0]; done) | rfl | (simp only [D.har, D.hcmp, D.hcv, D.hne0]; rfl))) ?_
          clear hx17; cbv
          obtain ⟨s', e, hi⟩ := inl_some h hins12
          refine hLs12 s' _ _ hi ⟨by kernel_rfl, ?_, ?_, by kernel_rfl, by kernel_rfl⟩ <;> cbv <;> (try (subst e; simp only [D.har, D.hcmp, D.hcv, D.hne0, and_self, and_true, true_and] <;> (repeat' apply And.intro) <;> rfl))
        · refine R.brD h (by (first | (simp only [D.har, D.hcmp, D.hcv, D.hne0]; done) | rfl | (simp only [D.har, D.hcmp, D.hcv, D.hne0]; rfl))) ?_ ?_ <;> clear h <;> intro h <;> cbv
          · refine R.needD h (by (first | (simp only [D.har, D.hcmp, D.hcv, D.hne0]; done) | rfl | (simp only [D.har, D.hcmp, D.hcv, D.hne0]; rfl))) ?_
            clear h; intro h; cbv
            obtain ⟨s', e, hi⟩ := inl_some h hins12
            refine hLs12 s' _ _ hi ⟨by kernel_rfl, ?_, ?_, by kernel_rfl, by kernel_rfl⟩ <;> cbv <;> (try (subst e; simp only [D.har, D.hcmp, D.hcv, D.hne0, and_self, and_true, true_and] <;> (repeat' apply And.intro) <;> rfl))
          · refine R.needD h (by (first | (simp only [D.har, D.hcmp, D.hcv, D.hne0]; done) | rfl | (simp only [D.har, D.hcmp, D.hcv, D.hne0]; rfl))) ?_
            clear h; intro h; cbv
            obtain ⟨s', e, hi⟩ := inl_some h hins12
            refine hLs12 s' _ _ hi ⟨by kernel_rfl, ?_, ?_, by kernel_rfl, by kernel_rfl⟩ <;> cbv <;> (try (subst e; simp only [D.har, D.hcmp, D.hcv, D.hne0, and_self, and_true, true_and] <;> (repeat' apply And.intro) <;> rfl))
      · have e := inr_some h houts12; clear h
        have h := hFs12; rw [e] at h; clear e; try dsimp only at h
        cbv
        obtain ⟨s', e, hi⟩ := jn_some (fun p => p) h
        refine hLy9 s' _ _ hi ⟨by kernel_rfl, ?_, ?_, by kernel_rfl, by kernel_rfl⟩ <;> cbv <;> (try (subst e; simp only [D.har, D.hcmp, D.hcv, D.hne0, and_self, and_true, true_and] <;> (repeat' apply And.intro) <;> rfl))
    · clear h; have h := h2; clear h2; try dsimp only at h
      cbv
      have e := ret_some h; clear h
      refine hK _ _ ?_
      cbv
      try (subst e; simp only [D.har, D.hcmp, D.hcv, D.hne0, and_self, and_true, true_and] <;> (repeat' apply And.intro) <;> rfl)

noncomputable def d75_b1 (a0_0 : Int) (a0_1 : Bool) (s4 : Int) : Option ((Int) ⊕ ((Int) ⊕ (Unit))) :=
  if (cmpLit .lss s4 4) = true then
    if (Inb s4 (Int.ofNat 4)) then
      if (cmpLit .eql s4 (Int.ofNat 0)) = true then
        if (andB' (cmpLit .eql 4 a0_0) (beqB true a0_1)) = true then
          some (.inr (.inl s4))
        else
          some (.inl (arReal .add .i64 s4 1))
      else
        if (cmpLit .eql s4 (Int.ofNat 1)) = true then
          if (andB' (cmpLit .eql 4 a0_0) (beqB false a0_1)) = true then
            some (.inr (.inl s4))
          else
            some (.inl (arReal .add .i64 s4 1))
        else
          if (cmpLit .eql s4 (Int.ofNat 2)) = true then
            if (andB' (cmpLit .eql 8 a0_0) (beqB true a0_1)) = true then
              some (.inr (.inl s4))
            else
              some (.inl (arReal .add .i64 s4 1))
          else
            if (andB' (cmpLit .eql 8 a0_0) (beqB false a0_1)) = true then
              some (.inr (.inl s4))
            else
              some (.inl (arReal .add .i64 s4 1))
    else none
  else
    some (.inr (.inr ()))
noncomputable def d75 (a0_0 : Int) (a0_1 : Bool) : Option (Int) :=
  Option.bind (α := (Unit) ⊕ (Int)) (
    (iter (d75_b1 a0_0 a0_1) 0).bind fun y5 =>
    match y5 with
    | .inl p6 =>
      some (.inr p6)
    | .inr y5r0 =>
      some (.inl ())) fun y3 =>
  match y3 with
  | .inl p8 =>
    some 0
  | .inr y3r0 =>
    some y3r0
noncomputable def w75_c : Code := (Tryd.f75.body).getD .skip
theorem w75_h : Tryd.f75.body = some w75_c := by kernel_rfl
theorem w75 (a0_0 : Int) (a0_1 : Bool) (r : Int) (h : d75 a0_0 a0_1 = some r) : Ab.Fn Tryd.prog TT 75 [.agg [.i .i64 a0_0, .b a0_1]] (.i .i64 r) [] := by
  refine fn_pure tok (fun r => match r with | 4 => [[],[0],[0,1],[],[0,1,2,3]] | _ => []) Tryd.func75 (by kernel_rfl) w75_h (by kernel_rfl) ?_
  intro ar un cv mn mx pl mi cmp nt beq an scmp cat slen sbyte ssub ofB toB len gi gb gs gl sub put app ovl rep ne0 ge0 inb bnd room sroom need br call callb loop cut nl E R K hK
  have D := E.D
  clear E
  unfold d75 at h
  cbv
  refine R.cutB Sum.inl (fun _ _ e => Sum.inl.inj e) h [] (fun p8 => []) (fun p8 => []) (by kernel_rfl) (by kernel_rfl) (fun y3 hy hFy3 L hLy3 => ?_) (fun p8 h2 => ?_)
  · as_aux_lemma =>
    clear h; have h := hy; clear hy; cbv
    refine R.loopD h (fun s0 y5 e0 hi hFs4 => ?_)
    clear h
    refine R.loopI hi [] (fun s4 => [(3, .i .i64 s4)]) (fun s4 => []) ⟨by kernel_rfl, ?_, ?_, by kernel_rfl, by kernel_rfl⟩ (by kernel_rfl) ?_
    · cbv; try (subst e0; simp only [D.han, D.har, D.hbeq, D.hcmp, D.hinb, and_self, and_true, true_and] <;> (repeat' apply And.intro) <;> rfl)
    · cbv; try (subst e0; simp only [D.han, D.har, D.hbeq, D.hcmp, D.hinb, and_self, and_true, true_and] <;> (repeat' apply And.intro) <;> rfl)
    clear hi e0
    intro s4 m y' hy hins4 houts4 L hLs4
    have h := hy; clear hy; unfold d75_b1 at h
    cbv
    refine R.cut' (by kernel_rfl) (by kernel_rfl) ?_
    cbv
    refine R.brD h (by (first | (simp only [D.han, D.har, D.hbeq, D.hcmp, D.hinb]; done) | rfl | (simp only [D.han, D.har, D.hbeq, D.hcmp, D.hinb]; rfl))) ?_ ?_ <;> clear h <;> intro h <;> cbv
    · refine R.cut' (by kernel_rfl) (by kernel_rfl) ?_
      cbv
      refine R.needD h (by (first | (simp only [D.han, D.har, D.hbeq, D.hcmp, D.hinb]; done) | rfl | (simp only [D.han, D.har, D.hbeq, D.hcmp, D.hinb]; rfl))) ?_
      clear h; intro h; cbv
      refine R.brD h (by (first | (simp only [D.han, D.har, D.hbeq, D.hcmp, D.hinb]; done) | rfl | (simp only [D.han, D.har, D.hbeq, D.hcmp, D.hinb]; rfl))) ?_ ?_ <;> clear h <;> intro h <;> cbv
      · refine R.brD h (by (first | (simp only [D.han, D.har, D.hbeq, D.hcmp, D.hinb]; done) | rfl | (simp only [D.han, D.har, D.hbeq, D.hcmp, D.hinb]; rfl))) ?_ ?_ <;> clear h <;> intro h <;> cbv
        · have e := inr_some h houts4; clear h
          have h := hFs4; rw [e] at h; clear e; try dsimp only at h
          cbv
          have e := ret_some h; clear h
          have h := hFy3; rw [e] at h; clear e; try dsimp only at h
          cbv
          have e := ret_some h; clear h
          refine hK _ _ ?_
          cbv
          try (subst e; simp only [D.han, D.har, D.hbeq, D.hcmp, D.hinb, and_self, and_true, true_and] <;> (repeat' apply And.intro) <;> rfl)
        · obtain ⟨s', e, hi⟩ := inl_some h hins4
          refine hLs4 s' _ _ hi ⟨by kernel_rfl, ?_, ?_, by kernel_rfl, by kernel_rfl⟩ <;> cbv <;> (try (subst e; simp only [D.han, D.har, D.hbeq, D.hcmp, D.hinb, and_self, and_true, true_and] <;> (repeat' apply And.intro) <;> rfl))
      · refine R.brD h (by (first | (simp only [D.han, D.har, D.hbeq, D.hcmp, D.hinb]; done) | rfl | (simp only [D.han, D.har, D.hbeq, D.hcmp, D.hinb]; rfl))) ?_ ?_ <;> clear h <;> intro h <;> cbv
        · refine R.brD h (by (first | (simp only [D.han, D.har, D.hbeq, D.hcmp, D.hinb]; done) | rfl | (simp only [D.han, D.har, D.hbeq, D.hcmp, D.hinb]; rfl))) ?_ ?_ <;> clear h <;> intro h <;> cbv
          · have e := inr_some h houts4; clear h
            have h := hFs4; rw [e] at h; clear e; try dsimp only at h
            cbv
            have e := ret_some h; clear h
            have h := hFy3; rw [e] at h; clear e; try dsimp only at h
            cbv
            have e := ret_some h; clear h
            refine hK _ _ ?_
            cbv
            try (subst e; simp only [D.han, D.har, D.hbeq, D.hcmp, D.hinb, and_self, and_true, true_and] <;> (repeat' apply And.intro) <;> rfl)
          · obtain ⟨s', e, hi⟩ := inl_some h hins4
            refine hLs4 s' _ _ hi ⟨by kernel_rfl, ?_, ?_, by kernel_rfl, by kernel_rfl⟩ <;> cbv <;> (try (subst e; simp only [D.han, D.har, D.hbeq, D.hcmp, D.hinb, and_self, and_true, true_and] <;> (repeat' apply And.intro) <;> rfl))
        · refine R.brD h (by (first | (simp only [D.han, D.har, D.hbeq, D.hcmp, D.hinb]; done) | rfl | (simp only [D.han, D.har, D.hbeq, D.hcmp, D.hinb]; rfl))) ?_ ?_ <;> clear h <;> intro h <;> cbv
          · refine R.brD h (by (first | (simp only [D.han, D.har, D.hbeq, D.hcmp, D.hinb]; done) | rfl | (simp only [D.han, D.har, D.hbeq, D.hcmp, D.hinb]; rfl))) ?_ ?_ <;> clear h <;> intro h <;> cbv
            · have e := inr_some h houts4; clear h
              have h := hFs4; rw [e] at h; clear e; try dsimp only at h
              cbv
              have e := ret_some h; clear h
              have h := hFy3; rw [e] at h; clear e; try dsimp only at h
              cbv
              have e := ret_some h; clear h
              refine hK _ _ ?_
              cbv
              try (subst e; simp only [D.han, D.har, D.hbeq, D.hcmp, D.hinb, and_self, and_true, true_and] <;> (repeat' apply And.intro) <;> rfl)
            · obtain ⟨s', e, hi⟩ := inl_some h hins4
              refine hLs4 s' _ _ hi ⟨by kernel_rfl, ?_, ?_, by kernel_rfl, by kernel_rfl⟩ <;> cbv <;> (try (subst e; simp only [D.han, D.har, D.hbeq, D.hcmp, D.hinb, and_self, and_true, true_and] <;> (repeat' apply And.intro) <;> rfl))
          · refine R.brD h (by (first | (simp only [D.han, D.har, D.hbeq, D.hcmp, D.hinb]; done) | rfl | (simp only [D.han, D.har, D.hbeq, D.hcmp, D.hinb]; rfl))) ?_ ?_ <;> clear h <;> intro h <;> cbv
            · have e := inr_some h houts4; clear h
              have h := hFs4; rw [e] at h; clear e; try dsimp only at h
              cbv
              have e := ret_some h; clear h
              have h := hFy3; rw [e] at h; clear e; try dsimp only at h
              cbv
              have e := ret_some h; clear h
              refine hK _ _ ?_
              cbv
              try (subst e; simp only [D.han, D.har, D.hbeq, D.hcmp, D.hinb, and_self, and_true, true_and] <;> (repeat' apply And.intro) <;> rfl)
            · obtain ⟨s', e, hi⟩ := inl_some h hins4
              refine hLs4 s' _ _ hi ⟨by kernel_rfl, ?_, ?_, by kernel_rfl, by kernel_rfl⟩ <;> cbv <;> (try (subst e; simp only [D.han, D.har, D.hbeq, D.hcmp, D.hinb, and_self, and_true, true_and] <;> (repeat' apply And.intro) <;> rfl))
    · have e := inr_some h houts4; clear h
      have h := hFs4; rw [e] at h; clear e; try dsimp only at h
      cbv
      obtain ⟨s', e, hi⟩ := jn_some Sum.inl h
      refine hLy3 s' _ _ hi ⟨by kernel_rfl, ?_, ?_, by kernel_rfl, by kernel_rfl⟩ <;> cbv <;> (try (subst e; simp only [D.han, D.har, D.hbeq, D.hcmp, D.hinb, and_self, and_true, true_and] <;> (repeat' apply And.intro) <;> rfl))
  · clear h; have h := h2; clear h2; try dsimp only at h
    cbv
    have e := ret_some h; clear h
    refine hK _ _ ?_
    cbv
    try (subst e; simp only [D.han, D.har, D.hbeq, D.hcmp, D.hinb, and_self, and_true, true_and] <;> (repeat' apply And.intro) <;> rfl)

noncomputable def d47 (a0_0 : Int) (a0_1 : Bool) (a1_0 : Int) (a1_1 : Bool) : Option (Int × Bool) :=
  (d43 a0_0 a0_1).bind fun x1 =>
  (d75 x1.1 x1.2).bind fun x2 =>
  (d43 a1_0 a1_1).bind fun x3 =>
  (d75 x3.1 x3.2).bind fun x4 =>
  if (Inb (mxI x2 x4) (Int.ofNat 4)) then
    if (cmpLit .eql (mxI x2 x4) (Int.ofNat 0)) = true then
      some (4, true)
    else
      if (cmpLit .eql (mxI x2 x4) (Int.ofNat 1)) = true then
        some (4, false)
      else
        if (cmpLit .eql (mxI x2 x4) (Int.ofNat 2)) = true then
          some (8, true)
        else
          some (8, false)
  else none
noncomputable def w47_c : Code := (Tryd.f47.body).getD .skip
theorem w47_h : Tryd.f47.body = some w47_c := by kernel_rfl
theorem w47 (a0_0 : Int) (a0_1 : Bool) (a1_0 : Int) (a1_1 : Bool) (r : Int × Bool) (h : d47 a0_0 a0_1 a1_0 a1_1 = some r) : Ab.Fn Tryd.prog TT 47 [.agg [.i .i64 a0_0, .b a0_1], .agg [.i .i64 a1_0, .b a1_1]] (.agg [.i .i64 r.1, .b r.2]) [] := by
  refine fn_pure tok (fun r => match r with | 1 => [[],[0],[0,1],[],[0,1,2,3],[0,1,2,3,4],[0,1,2,3,4,5],[0,1,2,3,4,5,6],[0,1,2,3,4,5,6,7],[0,1,2,3,4,5,6,7,8]] | _ => []) Tryd.func47 (by kernel_rfl) w47_h (by kernel_rfl) ?_
  intro ar un cv mn mx pl mi cmp nt beq an scmp cat slen sbyte ssub ofB toB len gi gb gs gl sub put app ovl rep ne0 ge0 inb bnd room sroom need br call callb loop cut nl E R K hK
  have D := E.D
  clear E
  unfold d47 at h
  cbv
  refine R.callD h (fun x1 hx1 h2 => ?_)
  clear h; have h := h2; clear h2
  refine R.call' (w43 _ _ _ hx1) (by (first | (simp only [D.hcmp, D.hinb, D.hmx]; done) | rfl | (simp only [D.hcmp, D.hinb, D.hmx]; rfl))) ?_
  clear hx1; cbv
  refine R.callD h (fun x2 hx2 h2 => ?_)
  clear h; have h := h2; clear h2
  refine R.call' (w75 _ _ _ hx2) (by (first | (simp only [D.hcmp, D.hinb, D.hmx]; done) | rfl | (simp only [D.hcmp, D.hinb, D.hmx]; rfl))) ?_
  clear hx2; cbv
  refine R.callD h (fun x3 hx3 h2 => ?_)
  clear h; have h := h2; clear h2
  refine R.call' (w43 _ _ _ hx3) (by (first | (simp only [D.hcmp, D.hinb, D.hmx]; done) | rfl | (simp only [D.hcmp, D.hinb, D.hmx]; rfl))) ?_
  clear hx3; cbv
  refine R.callD h (fun x4 hx4 h2 => ?_)
  clear h; have h := h2; clear h2
  refine R.call' (w75 _ _ _ hx4) (by (first | (simp only [D.hcmp, D.hinb, D.hmx]; done) | rfl | (simp only [D.hcmp, D.hinb, D.hmx]; rfl))) ?_
  clear hx4; cbv
  refine R.needD h (by (first | (simp only [D.hcmp, D.hinb, D.hmx]; done) | rfl | (simp only [D.hcmp, D.hinb, D.hmx]; rfl))) ?_
  clear h; intro h; cbv
  refine R.brD h (by (first | (simp only [D.hcmp, D.hinb, D.hmx]; done) | rfl | (simp only [D.hcmp, D.hinb, D.hmx]; rfl))) ?_ ?_ <;> clear h <;> intro h <;> cbv
  · have e := ret_some h; clear h
    refine hK _ _ ?_
    cbv
    try (subst e; simp only [D.hcmp, D.hinb, D.hmx, and_self, and_true, true_and] <;> (repeat' apply And.intro) <;> rfl)
  · refine R.brD h (by (first | (simp only [D.hcmp, D.hinb, D.hmx]; done) | rfl | (simp only [D.hcmp, D.hinb, D.hmx]; rfl))) ?_ ?_ <;> clear h <;> intro h <;> cbv
    · have e := ret_some h; clear h
      refine hK _ _ ?_
      cbv
      try (subst e; simp only [D.hcmp, D.hinb, D.hmx, and_self, and_true, true_and] <;> (repeat' apply And.intro) <;> rfl)
    · refine R.brD h (by (first | (simp only [D.hcmp, D.hinb, D.hmx]; done) | rfl | (simp only [D.hcmp, D.hinb, D.hmx]; rfl))) ?_ ?_ <;> clear h <;> intro h <;> cbv
      · have e := ret_some h; clear h
        refine hK _ _ ?_
        cbv
        try (subst e; simp only [D.hcmp, D.hinb, D.hmx, and_self, and_true, true_and] <;> (repeat' apply And.intro) <;> rfl)
      · have e := ret_some h; clear h
        refine hK _ _ ?_
        cbv
        try (subst e; simp only [D.hcmp, D.hinb, D.hmx, and_self, and_true, true_and] <;> (repeat' apply And.intro) <;> rfl)
end Go.Proofs.YtjcabmhnekcbgaaDoor
end
section
namespace Go.Proofs.YtjcabmhnekcbgaaDoor
open Go.Ab Go.RowKit 
set_option maxRecDepth 100000
set_option maxHeartbeats 40000000
noncomputable def d48 (a0_0 : Int) (a0_1 : Bool) (a1 : Int) (a2 : Int) : Option (Int) :=
  Option.bind (α := Int × Int) (
    if (notB' a0_1) = true then
      if (notB' (beqB (cmpLit .lss a1 0) (cmpLit .lss a2 0))) = true then
        some (a2, a1)
      else
        some (a1, a2)
    else
      some (a1, a2)) fun y1 =>
  if (cmpLit .lss y1.1 y1.2) = true then
    some (-1)
  else
    if (cmpLit .gtr y1.1 y1.2) = true then
      some 1
    else
      some 0
noncomputable def w48_c : Code := (Tryd.f48.body).getD .skip
theorem w48_h : Tryd.f48.body = some w48_c := by kernel_rfl
theorem w48 (a0_0 : Int) (a0_1 : Bool) (a1 : Int) (a2 : Int) (r : Int) (h : d48 a0_0 a0_1 a1 a2 = some r) : Ab.Fn Tryd.prog TT 48 [.agg [.i .i64 a0_0, .b a0_1], .i .i64 a1, .i .i64 a2] (.i .i64 r) [] := by
  refine fn_pure tok W0 Tryd.func48 (by kernel_rfl) w48_h (by kernel_rfl) ?_
  intro ar un cv mn mx pl mi cmp nt beq an scmp cat slen sbyte ssub ofB toB len gi gb gs gl sub put app ovl rep ne0 ge0 inb bnd room sroom need br call callb loop cut nl E R K hK
  have D := E.D
  clear E
  unfold d48 at h
  cbv
  refine R.cutB (fun p => p) (fun _ _ e => e) h [] (fun p2 => [(1, .i .i64 p2.1), (2, .i .i64 p2.2)]) (fun p2 => []) (by kernel_rfl) (by kernel_rfl) (fun y1 hy hFy1 L hLy1 => ?_) (fun p2 h2 => ?_)
  · clear h; have h := hy; clear hy; cbv
    refine R.cut' (by kernel_rfl) (by kernel_rfl) ?_
    cbv
    refine R.brD h (by (first | (simp only [D.hbeq, D.hcmp, D.hnt]; done) | rfl | (simp only [D.hbeq, D.hcmp, D.hnt]; rfl))) ?_ ?_ <;> clear h <;> intro h <;> cbv
    · refine R.brD h (by (first | (simp only [D.hbeq, D.hcmp, D.hnt]; done) | rfl | (simp only [D.hbeq, D.hcmp, D.hnt]; rfl))) ?_ ?_ <;> clear h <;> intro h <;> cbv
      · obtain ⟨s', e, hi⟩ := jn_some (fun p => p) h
        refine hLy1 s' _ _ hi ⟨by kernel_rfl, ?_, ?_, by kernel_rfl, by kernel_rfl⟩ <;> cbv <;> (try (subst e; simp only [D.hbeq, D.hcmp, D.hnt, and_self, and_true, true_and] <;> (repeat' apply And.intro) <;> rfl))
      · obtain ⟨s', e, hi⟩ := jn_some (fun p => p) h
        refine hLy1 s' _ _ hi ⟨by kernel_rfl, ?_, ?_, by kernel_rfl, by kernel_rfl⟩ <;> cbv <;> (try (subst e; simp only [D.hbeq, D.hcmp, D.hnt, and_self, and_true, true_and] <;> (repeat' apply And.intro) <;> rfl))
    · obtain ⟨s', e, hi⟩ := jn_some (fun p => p) h
      refine hLy1 s' _ _ hi ⟨by kernel_rfl, ?_, ?_, by kernel_rfl, by kernel_rfl⟩ <;> cbv <;> (try (subst e; simp only [D.hbeq, D.hcmp, D.hnt, and_self, and_true, true_and] <;> (repeat' apply And.intro) <;> rfl))
  · clear h; have h := h2; clear h2; try dsimp only at h
    cbv
    refine R.cut' (by kernel_rfl) (by kernel_rfl) ?_
    cbv
    refine R.brD h (by (first | (simp only [D.hbeq, D.hcmp, D.hnt]; done) | rfl | (simp only [D.hbeq, D.hcmp, D.hnt]; rfl))) ?_ ?_ <;> clear h <;> intro h <;> cbv
    · have e := ret_some h; clear h
      refine hK _ _ ?_
      cbv
      try (subst e; simp only [D.hbeq, D.hcmp, D.hnt, and_self, and_true, true_and] <;> (repeat' apply And.intro) <;> rfl)
    · refine R.cut' (by kernel_rfl) (by kernel_rfl) ?_
      cbv
      refine R.brD h (by (first | (simp only [D.hbeq, D.hcmp, D.hnt]; done) | rfl | (simp only [D.hbeq, D.hcmp, D.hnt]; rfl))) ?_ ?_ <;> clear h <;> intro h <;> cbv
      · have e := ret_some h; clear h
        refine hK _ _ ?_
        cbv
        try (subst e; simp only [D.hbeq, D.hcmp, D.hnt, and_self, and_true, true_and] <;> (repeat' apply And.intro) <;> rfl)
      · have e := ret_some h; clear h
        refine hK _ _ ?_
        cbv
        try (subst e; simp only [D.hbeq, D.hcmp, D.hnt, and_self, and_true, true_and] <;> (repeat' apply And.intro) <;> rfl)

noncomputable def d76 (a0_0 : Int) (a0_1 : Bool) (a1 : Int) (a2 : Int) : Option (Int × Int) :=
  if a0_1 = true then
    if (cmpLit .eql a2 (-1)) = true then
      some ((unReal .neg .i64 a1), 0)
    else
      if (Ne0 a2) then
        if (Ne0 a2) then
          some ((arReal .quo .i64 a1 a2), (arReal .rem .i64 a1 a2))
        else none
      else none
  else
    if (Ne0 (wrapK .u64 a2)) then
      if (Ne0 (wrapK .u64 a2)) then
        some ((wrapK .i64 (arReal .quo .u64 (wrapK .u64 a1) (wrapK .u64 a2))), (wrapK .i64 (arReal .rem .u64 (wrapK .u64 a1) (wrapK .u64 a2))))
      else none
    else none
noncomputable def w76_c : Code := (Tryd.f76.body).getD .skip
theorem w76_h : Tryd.f76.body = some w76_c := by kernel_rfl
theorem w76 (a0_0 : Int) (a0_1 : Bool) (a1 : Int) (a2 : Int) (r : Int × Int) (h : d76 a0_0 a0_1 a1 a2 = some r) : Ab.Fn Tryd.prog TT 76 [.agg [.i .i64 a0_0, .b a0_1], .i .i64 a1, .i .i64 a2] (.tup [.i .i64 r.1, .i .i64 r.2]) [] := by
  refine fn_pure tok (fun r => match r with | 4 => [[],[],[0,1],[],[],[3,4],[0,1,2],[0,1,2,3,4,5,6]] | 5 => [[],[0],[],[2],[0,1,2,3],[0,1,2,3,4],[],[6],[],[8],[6,7,8,9],[6,7,8,9,10],[0,1,2,3,4,5],[0,1,2,3,4,5,6,7,8,9,10,11,12]] | _ => []) Tryd.func76 (by kernel_rfl) w76_h (by kernel_rfl) ?_
  intro ar un cv mn mx pl mi cmp nt beq an scmp cat slen sbyte ssub ofB toB len gi gb gs gl sub put app ovl rep ne0 ge0 inb bnd room sroom need br call callb loop cut nl E R K hK
  have D := E.D
  clear E
  unfold d76 at h
  cbv
  refine R.cut' (by kernel_rfl) (by kernel_rfl) ?_
  cbv
  refine R.brD h (by (first | (simp only [D.har, D.hcmp, D.hcv, D.hne0, D.hun]; done) | rfl | (simp only [D.har, D.hcmp, D.hcv, D.hne0, D.hun]; rfl))) ?_ ?_ <;> clear h <;> intro h <;> cbv
  · refine R.cut' (by kernel_rfl) (by kernel_rfl) ?_
    cbv
    refine R.brD h (by (first | (simp only [D.har, D.hcmp, D.hcv, D.hne0, D.hun]; done) | rfl | (simp only [D.har, D.hcmp, D.hcv, D.hne0, D.hun]; rfl))) ?_ ?_ <;> clear h <;> intro h <;> cbv
    · have e := ret_some h; clear h
      refine hK _ _ ?_
      cbv
      try (subst e; simp only [D.har, D.hcmp, D.hcv, D.hne0, D.hun, and_self, and_true, true_and] <;> (repeat' apply And.intro) <;> rfl)
    · refine R.needD h (by (first | (simp only [D.har, D.hcmp, D.hcv, D.hne0, D.hun]; done) | rfl | (simp only [D.har, D.hcmp, D.hcv, D.hne0, D.hun]; rfl))) ?_
      clear h; intro h; cbv
      refine R.needD h (by (first | (simp only [D.har, D.hcmp, D.hcv, D.hne0, D.hun]; done) | rfl | (simp only [D.har, D.hcmp, D.hcv, D.hne0, D.hun]; rfl))) ?_
      clear h; intro h; cbv
      have e := ret_some h; clear h
      refine hK _ _ ?_
      cbv
      try (subst e; simp only [D.har, D.hcmp, D.hcv, D.hne0, D.hun, and_self, and_true, true_and] <;> (repeat' apply And.intro) <;> rfl)
  · refine R.needD h (by (first | (simp only [D.har, D.hcmp, D.hcv, D.hne0, D.hun]; done) | rfl | (simp only [D.har, D.hcmp, D.hcv, D.hne0, D.hun]; rfl))) ?_
    clear h; intro h; cbv
    refine R.needD h (by (first | (simp only [D.har, D.hcmp, D.hcv, D.hne0, D.hun]; done) | rfl | (simp only [D.har, D.hcmp, D.hcv, D.hne0, D.hun]; rfl))) ?_
    clear h; intro h; cbv
    have e := ret_some h; clear h
    refine hK _ _ ?_
    cbv
    try (subst e; simp only [D.har, D.hcmp, D.hcv, D.hne0, D.hun, and_self, and_true, true_and] <;> (repeat' apply And.intro) <;> rfl)

noncomputable def d49 (a0 : Int) (a1_0 : Int) (a1_1 : Bool) (a2 : Int) (a3 : Int) : Option (Int × Bool × Int × Int) :=
  Option.bind (α := (Int) ⊕ (Int × Bool × Int × Int)) (
    if (cmpLit .eql a0 1) = true then
      some (.inl (arReal .add .i64 a2 a3))
    else
      if (cmpLit .eql a0 2) = true then
        some (.inl (arReal .sub .i64 a2 a3))
      else
        if (cmpLit .eql a0 3) = true then
          some (.inl (arReal .mul .i64 a2 a3))
        else
          if (cmpLit .eql a0 6) = true then
            some (.inl (arReal .and .i64 a2 a3))
          else
            if (cmpLit .eql a0 7) = true then
              some (.inl (arReal .or .i64 a2 a3))
            else
              if (cmpLit .eql a0 8) = true then
                some (.inl (arReal .xor .i64 a2 a3))
              else
                if (cmpLit .eql a3 0) = true then
                  some (.inr (0, false, 0, 12))
                else
                  (d76 a1_0 a1_1 a2 a3).bind fun x3 =>
                  if (cmpLit .eql a0 5) = true then
                    some (.inl x3.2)
                  else
                    some (.inl x3.1)) fun y2 =>
  match y2 with
  | .inl p4 =>
    (d42 a1_0 a1_1 p4).bind fun x5 =>
    some (a1_0, a1_1, x5, 0)
  | .inr y2r0 =>
    some y2r0
noncomputable def w49_c : Code := (Tryd.f49.body).getD .skip
theorem w49_h : Tryd.f49.body = some w49_c := by kernel_rfl
theorem w49 (a0 : Int) (a1_0 : Int) (a1_1 : Bool) (a2 : Int) (a3 : Int) (r : Int × Bool × Int × Int) (h : d49 a0 a1_0 a1_1 a2 a3 = some r) : Ab.Fn Tryd.prog TT 49 [.i .i64 a0, .agg [.i .i64 a1_0, .b a1_1], .i .i64 a2, .i .i64 a3] (.agg [.i .i64 r.1, .b r.2.1, .i .i64 r.2.2.1, .i .i64 r.2.2.2]) [] := by
  refine fn_pure tok (fun r => match r with | 21 => [[],[],[],[1,2],[0,1,2,3],[0,1,2,3,4]] | _ => []) Tryd.func49 (by kernel_rfl) w49_h (by kernel_rfl) ?_
  intro ar un cv mn mx pl mi cmp nt beq an scmp cat slen sbyte ssub ofB toB len gi gb gs gl sub put app ovl rep ne0 ge0 inb bnd room sroom need br call callb loop cut nl E R K hK
  have D := E.D
  clear E
  unfold d49 at h
  cbv
  refine R.cutB Sum.inl (fun _ _ e => Sum.inl.inj e) h [] (fun p4 => [(9, .i .i64 p4)]) (fun p4 => []) (by kernel_rfl) (by kernel_rfl) (fun y2 hy hFy2 L hLy2 => ?_) (fun p4 h2 => ?_)
  · clear h; have h := hy; clear hy; cbv
    refine R.brD h (by (first | (simp only [D.har, D.hcmp]; done) | rfl | (simp only [D.har, D.hcmp]; rfl))) ?_ ?_ <;> clear h <;> intro h <;> cbv
    · obtain ⟨s', e, hi⟩ := jn_some Sum.inl h
      refine hLy2 s' _ _ hi ⟨by kernel_rfl, ?_, ?_, by kernel_rfl, by kernel_rfl⟩ <;> cbv <;> (try (subst e; simp only [D.har, D.hcmp, and_self, and_true, true_and] <;> (repeat' apply And.intro) <;> rfl))
    · refine R.brD h (by (first | (simp only [D.har, D.hcmp]; done) | rfl | (simp only [D.har, D.hcmp]; rfl))) ?_ ?_ <;> clear h <;> intro h <;> cbv
      · obtain ⟨s', e, hi⟩ := jn_some Sum.inl h
        refine hLy2 s' _ _ hi ⟨by kernel_rfl, ?_, ?_, by kernel_rfl, by kernel_rfl⟩ <;> cbv <;> (try (subst e; simp only [D.har, D.hcmp, and_self, and_true, true_and] <;> (repeat' apply And.intro) <;> rfl))
      · refine R.brD h (by (first | (simp only [D.har, D.hcmp]; done) | rfl | (simp only [D.har, D.hcmp]; rfl))) ?_ ?_ <;> clear h <;> intro h <;> cbv
        · obtain ⟨s', e, hi⟩ := jn_some Sum.inl h
          refine hLy2 s' _ _ hi ⟨by kernel_rfl, ?_, ?_, by kernel_rfl, by kernel_rfl⟩ <;> cbv <;> (try (subst e; simp only [D.har, D.hcmp, and_self, and_true, true_and] <;> (repeat' apply And.intro) <;> rfl))
        · refine R.brD h (by (first | (simp only [D.har, D.hcmp]; done) | rfl | (simp only [D.har, D.hcmp]; rfl))) ?_ ?_ <;> clear h <;> intro h <;> cbv
          · obtain ⟨s', e, hi⟩ := jn_some Sum.inl h
            refine hLy2 s' _ _ hi ⟨by kernel_rfl, ?_, ?_, by kernel_rfl, by kernel_rfl⟩ <;> cbv <;> (try (subst e; simp only [D.har, D.hcmp, and_self, and_true, true_and] <;> (repeat' apply And.intro) <;> rfl))
          · refine R.brD h (by (first | (simp only [D.har, D.hcmp]; done) | rfl | (simp only [D.har, D.hcmp]; rfl))) ?_ ?_ <;> clear h <;> intro h <;> cbv
            · obtain ⟨s', e, hi⟩ := jn_some Sum.inl h
              refine hLy2 s' _ _ hi ⟨by kernel_rfl, ?_, ?_, by kernel_rfl, by kernel_rfl⟩ <;> cbv <;> (try (subst e; simp only [D.har, D.hcmp, and_self, and_true, true_and] <;> (repeat' apply And.intro) <;> rfl))
            · refine R.brD h (by (first | (simp only [D.har, D.hcmp]; done) | rfl | (simp only [D.har, D.hcmp]; rfl))) ?_ ?_ <;> clear h <;> intro h <;> cbv
              · obtain ⟨s', e, hi⟩ := jn_some Sum.inl h
                refine hLy2 s' _ _ hi ⟨by kernel_rfl, ?_, ?_, by kernel_rfl, by kernel_rfl⟩ <;> cbv <;> (try (subst e; simp only [D.har, D.hcmp, and_self, and_true, true_and] <;> (repeat' apply And.intro) <;> rfl))
              · refine R.cut' (by kernel_rfl) (by kernel_rfl) ?_
                cbv
                refine R.brD h (by (first | (simp only [D.har, D.hcmp]; done) | rfl | (simp only [D.har, D.hcmp]; rfl))) ?_ ?_ <;> clear h <;> intro h <;> cbv
                · have e := ret_some h; clear h
                  have h := hFy2; rw [e] at h; clear e; try dsimp only at h
                  cbv
                  have e := ret_some h; clear h
                  refine hK _ _ ?_
                  cbv
                  try (subst e; simp only [D.har, D.hcmp, and_self, and_true, true_and] <;> (repeat' apply And.intro) <;> rfl)
                · refine R.callD h (fun x3 hx3 h2 => ?_)
                  clear h; have h := h2; clear h2
                  refine R.call' (w76 _ _ _ _ _ hx3) (by (first | (simp only [D.har, D.hcmp]; done) | rfl | (simp only [D.har, D.hcmp]; rfl))) ?_
                  clear hx3; cbv
                  refine R.brD h (by (first | (simp only [D.har, D.hcmp]; done) | rfl | (simp only [D.har, D.hcmp]; rfl))) ?_ ?_ <;> clear h <;> intro h <;> cbv
                  · obtain ⟨s', e, hi⟩ := jn_some Sum.inl h
                    refine hLy2 s' _ _ hi ⟨by kernel_rfl, ?_, ?_, by kernel_rfl, by kernel_rfl⟩ <;> cbv <;> (try (subst e; simp only [D.har, D.hcmp, and_self, and_true, true_and] <;> (repeat' apply And.intro) <;> rfl))
                  · obtain ⟨s', e, hi⟩ := jn_some Sum.inl h
                    refine hLy2 s' _ _ hi ⟨by kernel_rfl, ?_, ?_, by kernel_rfl, by kernel_rfl⟩ <;> cbv <;> (try (subst e; simp only [D.har, D.hcmp, and_self, and_true, true_and] <;> (repeat' apply And.intro) <;> rfl))
  · clear h; have h := h2; clear h2; try dsimp only at h
    cbv
    refine R.callD h (fun x5 hx5 h2 => ?_)
    clear h; have h := h2; clear h2
    refine R.call' (w42 _ _ _ _ hx5) (by (first | (simp only [D.har, D.hcmp]; done) | rfl | (simp only [D.har, D.hcmp]; rfl))) ?_
    clear hx5; cbv
    have e := ret_some h; clear h
    refine hK _ _ ?_
    cbv
    try (subst e; simp only [D.har, D.hcmp, and_self, and_true, true_and] <;> (repeat' apply And.intro) <;> rfl)

noncomputable def d14 (a0 : Int) (a1_0 : Int) (a1_1 : Bool) (a2 : Int) (a3_0 : Int) (a3_1 : Bool) (a4 : Int) : Option (Int × Bool × Int × Int) :=
  (d45 a1_0 a1_1 a3_0 a3_1).bind fun x2 =>
  if (cmpLit .neq x2 0) = true then
    some (0, false, 0, x2)
  else
    if (cmpLit .lss a0 1) = true then
      some (0, false, 0, 11)
    else
      if (cmpLit .gtr a0 16) = true then
        some (0, false, 0, 11)
      else
        (d42 a1_0 a1_1 a2).bind fun x3 =>
        (d42 a3_0 a3_1 a4).bind fun x4 =>
        Option.bind (α := Bool) (
          if (cmpLit .eql a0 9) = true then
            some true
          else
            some (cmpLit .eql a0 10)) fun y9 =>
        if y9 = true then
          (d43 a1_0 a1_1).bind fun x11 =>
          (d46 a0 x11.1 x11.2 x3 x4).bind fun x12 =>
          some (x11.1, x11.2, x12, 0)
        else
          (d47 a1_0 a1_1 a3_0 a3_1).bind fun x13 =>
          (d42 x13.1 x13.2 x3).bind fun x14 =>
          (d42 x13.1 x13.2 x4).bind fun x15 =>
          (d48 x13.1 x13.2 x14 x15).bind fun x16 =>
          if (cmpLit .eql a0 11) = true then
            (d44 (cmpLit .lss x16 0)).bind fun x23 =>
            some (x23.1, x23.2.1, x23.2.2.1, x23.2.2.2)
          else
            if (cmpLit .eql a0 12) = true then
              (d44 (cmpLit .leq x16 0)).bind fun x24 =>
              some (x24.1, x24.2.1, x24.2.2.1, x24.2.2.2)
            else
              if (cmpLit .eql a0 13) = true then
                (d44 (cmpLit .gtr x16 0)).bind fun x25 =>
                some (x25.1, x25.2.1, x25.2.2.1, x25.2.2.2)
              else
                if (cmpLit .eql a0 14) = true then
                  (d44 (cmpLit .geq x16 0)).bind fun x26 =>
                  some (x26.1, x26.2.1, x26.2.2.1, x26.2.2.2)
                else
                  if (cmpLit .eql a0 15) = true then
                    (d44 (cmpLit .eql x16 0)).bind fun x27 =>
                    some (x27.1, x27.2.1, x27.2.2.1, x27.2.2.2)
                  else
                    if (cmpLit .eql a0 16) = true then
                      (d44 (cmpLit .neq x16 0)).bind fun x28 =>
                      some (x28.1, x28.2.1, x28.2.2.1, x28.2.2.2)
                    else
                      (d49 a0 x13.1 x13.2 x14 x15).bind fun x29 =>
                      some (x29.1, x29.2.1, x29.2.2.1, x29.2.2.2)
noncomputable def w14_c : Code := (Tryd.f14.body).getD .skip
theorem w14_h : Tryd.f14.body = some w14_c := by kernel_rfl
theorem w14 (a0 : Int) (a1_0 : Int) (a1_1 : Bool) (a2 : Int) (a3_0 : Int) (a3_1 : Bool) (a4 : Int) (r : Int × Bool × Int × Int) (h : d14 a0 a1_0 a1_1 a2 a3_0 a3_1 a4 = some r) : Ab.Fn Tryd.prog TT 14 [.i .i64 a0, .agg [.i .i64 a1_0, .b a1_1], .i .i64 a2, .agg [.i .i64 a3_0, .b a3_1], .i .i64 a4] (.agg [.i .i64 r.1, .b r.2.1, .i .i64 r.2.2.1, .i .i64 r.2.2.2]) [] := by
  refine fn_pure tok (fun r => match r with | 10 => [[],[],[],[],[],[1,2,3,4],[0,1,2,3,4,5],[0,1,2,3,4,5,6]] | _ => []) Tryd.func14 (by kernel_rfl) w14_h (by kernel_rfl) ?_
  intro ar un cv mn mx pl mi cmp nt beq an scmp cat slen sbyte ssub ofB toB len gi gb gs gl sub put app ovl rep ne0 ge0 inb bnd room sroom need br call callb loop cut nl E R K hK
  have D := E.D
  clear E
  unfold d14 at h
  cbv
  refine R.cut' (by kernel_rfl) (by kernel_rfl) ?_
  cbv
  refine R.callD h (fun x2 hx2 h2 => ?_)
  clear h; have h := h2; clear h2
  refine R.call' (w45 _ _ _ _ _ hx2) (by (first | (simp only [D.hcmp]; done) | rfl | (simp only [D.hcmp]; rfl))) ?_
  clear hx2; cbv
  refine R.brD h (by (first | (simp only [D.hcmp]; done) | rfl | (simp only [D.hcmp]; rfl))) ?_ ?_ <;> clear h <;> intro h <;> cbv
  · have e := ret_some h; clear h
    refine hK _ _ ?_
    cbv
    try (subst e; simp only [D.hcmp, and_self, and_true, true_and] <;> (repeat' apply And.intro) <;> rfl)
  · as_aux_lemma =>
    refine R.cut' (by kernel_rfl) (by kernel_rfl) ?_
    cbv
    refine R.cut' (by kernel_rfl) (by kernel_rfl) ?_
    cbv
    refine R.brD h (by (first | (simp only [D.hcmp]; done) | rfl | (simp only [D.hcmp]; rfl))) ?_ ?_ <;> clear h <;> intro h <;> cbv
    · have e := ret_some h; clear h
      refine hK _ _ ?_
      cbv
      try (subst e; simp only [D.hcmp, and_self, and_true, true_and] <;> (repeat' apply And.intro) <;> rfl)
    · as_aux_lemma =>
      refine R.brD h (by (first | (simp only [D.hcmp]; done) | rfl | (simp only [D.hcmp]; rfl))) ?_ ?_ <;> clear h <;> intro h <;> cbv
      · have e := ret_some h; clear h
        refine hK _ _ ?_
        cbv
        try (subst e; simp only [D.hcmp, and_self, and_true, true_and] <;> (repeat' apply And.intro) <;> rfl)
      · as_aux_lemma =>
        refine R.callD h (fun x3 hx3 h2 => ?_)
        clear h; have h := h2; clear h2
        refine R.call' (w42 _ _ _ _ hx3) (by (first | (simp only [D.hcmp]; done) | rfl | (simp only [D.hcmp]; rfl))) ?_
        clear hx3; cbv
        refine R.callD h (fun x4 hx4 h2 => ?_)
        clear h; have h := h2; clear h2
        refine R.call' (w42 _ _ _ _ hx4) (by (first | (simp only [D.hcmp]; done) | rfl | (simp only [D.hcmp]; rfl))) ?_
        clear hx4; cbv
        refine R.cut' (by kernel_rfl) (by kernel_rfl) ?_
        cbv
        refine R.cutB (fun p => p) (fun _ _ e => e) h [] (fun p10 => [(40, .b p10)]) (fun p10 => []) (by kernel_rfl) (by kernel_rfl) (fun y9 hy hFy9 L hLy9 => ?_) (fun p10 h2 => ?_)
        · clear h; have h := hy; clear hy; cbv
          refine R.brD h (by (first | (simp only [D.hcmp]; done) | rfl | (simp only [D.hcmp]; rfl))) ?_ ?_ <;> clear h <;> intro h <;> cbv
          · obtain ⟨s', e, hi⟩ := jn_some (fun p => p) h
            refine hLy9 s' _ _ hi ⟨by kernel_rfl, ?_, ?_, by kernel_rfl, by kernel_rfl⟩ <;> cbv <;> (try (subst e; simp only [D.hcmp, and_self, and_true, true_and] <;> (repeat' apply And.intro) <;> rfl))
          · obtain ⟨s', e, hi⟩ := jn_some (fun p => p) h
            refine hLy9 s' _ _ hi ⟨by kernel_rfl, ?_, ?_, by kernel_rfl, by kernel_rfl⟩ <;> cbv <;> (try (subst e; simp only [D.hcmp, and_self, and_true, true_and] <;> (repeat' apply And.intro) <;> rfl))
        · as_aux_lemma =>
          clear h; have h := h2; clear h2; try dsimp only at h
          cbv
          refine R.brD h (by (first | (simp only [D.hcmp]; done) | rfl | (simp only [D.hcmp]; rfl))) ?_ ?_ <;> clear h <;> intro h <;> cbv
          · refine R.callD h (fun x11 hx11 h2 => ?_)
            clear h; have h := h2; clear h2
            refine R.call' (w43 _ _ _ hx11) (by (first | (simp only [D.hcmp]; done) | rfl | (simp only [D.hcmp]; rfl))) ?_
            clear hx11; cbv
            refine R.callD h (fun x12 hx12 h2 => ?_)
            clear h; have h := h2; clear h2
            refine R.call' (w46 _ _ _ _ _ _ hx12) (by (first | (simp only [D.hcmp]; done) | rfl | (simp only [D.hcmp]; rfl))) ?_
            clear hx12; cbv
            have e := ret_some h; clear h
            refine hK _ _ ?_
            cbv
            try (subst e; simp only [D.hcmp, and_self, and_true, true_and] <;> (repeat' apply And.intro) <;> rfl)
          · as_aux_lemma =>
            refine R.callD h (fun x13 hx13 h2 => ?_)
            clear h; have h := h2; clear h2
            refine R.call' (w47 _ _ _ _ _ hx13) (by (first | (simp only [D.hcmp]; done) | rfl | (simp only [D.hcmp]; rfl))) ?_
            clear hx13; cbv
            refine R.callD h (fun x14 hx14 h2 => ?_)
            clear h; have h := h2; clear h2
            refine R.call' (w42 _ _ _ _ hx14) (by (first | (simp only [D.hcmp]; done) | rfl | (simp only [D.hcmp]; rfl))) ?_
            clear hx14; cbv
            refine R.callD h (fun x15 hx15 h2 => ?_)
            clear h; have h := h2; clear h2
            refine R.call' (w42 _ _ _ _ hx15) (by (first | (simp only [D.hcmp]; done) | rfl | (simp only [D.hcmp]; rfl))) ?_
            clear hx15; cbv
            refine R.callD h (fun x16 hx16 h2 => ?_)
            clear h; have h := h2; clear h2
            refine R.call' (w48 _ _ _ _ _ hx16) (by (first | (simp only [D.hcmp]; done) | rfl | (simp only [D.hcmp]; rfl))) ?_
            clear hx16; cbv
            refine R.cut' (by kernel_rfl) (by kernel_rfl) ?_
            cbv
            refine R.brD h (by (first | (simp only [D.hcmp]; done) | rfl | (simp only [D.hcmp]; rfl))) ?_ ?_ <;> clear h <;> intro h <;> cbv
            · refine R.callD h (fun x23 hx23 h2 => ?_)
              clear h; have h := h2; clear h2
              refine R.call' (w44 _ _ hx23) (by (first | (simp only [D.hcmp]; done) | rfl | (simp only [D.hcmp]; rfl))) ?_
              clear hx23; cbv
              have e := ret_some h; clear h
              refine hK _ _ ?_
              cbv
              try (subst e; simp only [D.hcmp, and_self, and_true, true_and] <;> (repeat' apply And.intro) <;> rfl)
            · refine R.brD h (by (first | (simp only [D.hcmp]; done) | rfl | (simp only [D.hcmp]; rfl))) ?_ ?_ <;> clear h <;> intro h <;> cbv
              · refine R.callD h (fun x24 hx24 h2 => ?_)
                clear h; have h := h2; clear h2
                refine R.call' (w44 _ _ hx24) (by (first | (simp only [D.hcmp]; done) | rfl | (simp only [D.hcmp]; rfl))) ?_
                clear hx24; cbv
                have e := ret_some h; clear h
                refine hK _ _ ?_
                cbv
                try (subst e; simp only [D.hcmp, and_self, and_true, true_and] <;> (repeat' apply And.intro) <;> rfl)
              · refine R.brD h (by (first | (simp only [D.hcmp]; done) | rfl | (simp only [D.hcmp]; rfl))) ?_ ?_ <;> clear h <;> intro h <;> cbv
                · refine R.callD h (fun x25 hx25 h2 => ?_)
                  clear h; have h := h2; clear h2
                  refine R.call' (w44 _ _ hx25) (by (first | (simp only [D.hcmp]; done) | rfl | (simp only [D.hcmp]; rfl))) ?_
                  clear hx25; cbv
                  have e := ret_some h; clear h
                  refine hK _ _ ?_
                  cbv
                  try (subst e; simp only [D.hcmp, and_self, and_true, true_and] <;> (repeat' apply And.intro) <;> rfl)
                · refine R.brD h (by (first | (simp only [D.hcmp]; done) | rfl | (simp only [D.hcmp]; rfl))) ?_ ?_ <;> clear h <;> intro h <;> cbv
                  · refine R.callD h (fun x26 hx26 h2 => ?_)
                    clear h; have h := h2; clear h2
                    refine R.call' (w44 _ _ hx26) (by (first | (simp only [D.hcmp]; done) | rfl | (simp only [D.hcmp]; rfl))) ?_
                    clear hx26; cbv
                    have e := ret_some h; clear h
                    refine hK _ _ ?_
                    cbv
                    try (subst e; simp only [D.hcmp, and_self, and_true, true_and] <;> (repeat' apply And.intro) <;> rfl)
                  · refine R.brD h (by (first | (simp only [D.hcmp]; done) | rfl | (simp only [D.hcmp]; rfl))) ?_ ?_ <;> clear h <;> intro h <;> cbv
                    · refine R.callD h (fun x27 hx27 h2 => ?_)
                      clear h; have h := h2; clear h2
                      refine R.call' (w44 _ _ hx27) (by (first | (simp only [D.hcmp]; done) | rfl | (simp only [D.hcmp]; rfl))) ?_
                      clear hx27; cbv
                      have e := ret_some h; clear h
                      refine hK _ _ ?_
                      cbv
                      try (subst e; simp only [D.hcmp, and_self, and_true, true_and] <;> (repeat' apply And.intro) <;> rfl)
                    · refine R.brD h (by (first | (simp only [D.hcmp]; done) | rfl | (simp only [D.hcmp]; rfl))) ?_ ?_ <;> clear h <;> intro h <;> cbv
                      · refine R.callD h (fun x28 hx28 h2 => ?_)
                        clear h; have h := h2; clear h2
                        refine R.call' (w44 _ _ hx28) (by (first | (simp only [D.hcmp]; done) | rfl | (simp only [D.hcmp]; rfl))) ?_
                        clear hx28; cbv
                        have e := ret_some h; clear h
                        refine hK _ _ ?_
                        cbv
                        try (subst e; simp only [D.hcmp, and_self, and_true, true_and] <;> (repeat' apply And.intro) <;> rfl)
                      · refine R.callD h (fun x29 hx29 h2 => ?_)
                        clear h; have h := h2; clear h2
                        refine R.call' (w49 _ _ _ _ _ _ hx29) (by (first | (simp only [D.hcmp]; done) | rfl | (simp only [D.hcmp]; rfl))) ?_
                        clear hx29; cbv
                        have e := ret_some h; clear h
                        refine hK _ _ ?_
                        cbv
                        try (subst e; simp only [D.hcmp, and_self, and_true, true_and] <;> (repeat' apply And.intro) <;> rfl)

noncomputable def d16 (a0_0 : Int) (a0_1 : Bool) (a1 : Int) (a2 : Int) : Option (Int × Int) :=
  (d15 a0_0 a0_1).bind fun x2 =>
  if (cmpLit .neq x2 0) = true then
    some (0, x2)
  else
    (d33 a0_0 a0_1 a1).bind fun x3 =>
    (d33 a0_0 a0_1 a2).bind fun x4 =>
    (d39 a0_0 a0_1 x3 x4).bind fun x5 =>
    some (x5, 0)
noncomputable def w16_c : Code := (Tryd.f16.body).getD .skip
theorem w16_h : Tryd.f16.body = some w16_c := by kernel_rfl
theorem w16 (a0_0 : Int) (a0_1 : Bool) (a1 : Int) (a2 : Int) (r : Int × Int) (h : d16 a0_0 a0_1 a1 a2 = some r) : Ab.Fn Tryd.prog TT 16 [.agg [.i .i64 a0_0, .b a0_1], .i .i64 a1, .i .i64 a2] (.tup [.i .i64 r.1, .i .i64 r.2]) [] := by
  refine fn_pure tok (fun r => match r with | 4 => [[],[],[],[1,2],[],[],[1,2,3,4,5],[0,1,2,3,4,5,6],[0,1,2,3,4,5,6,7],[0,1,2,3,4,5,6,7,8]] | _ => []) Tryd.func16 (by kernel_rfl) w16_h (by kernel_rfl) ?_
  intro ar un cv mn mx pl mi cmp nt beq an scmp cat slen sbyte ssub ofB toB len gi gb gs gl sub put app ovl rep ne0 ge0 inb bnd room sroom need br call callb loop cut nl E R K hK
  have D := E.D
  clear E
  unfold d16 at h
  cbv
  refine R.cut' (by kernel_rfl) (by kernel_rfl) ?_
  cbv
  refine R.callD h (fun x2 hx2 h2 => ?_)
  clear h; have h := h2; clear h2
  refine R.call' (w15 _ _ _ hx2) (by (first | (simp only [D.hcmp]; done) | rfl | (simp only [D.hcmp]; rfl))) ?_
  clear hx2; cbv
  refine R.brD h (by (first | (simp only [D.hcmp]; done) | rfl | (simp only [D.hcmp]; rfl))) ?_ ?_ <;> clear h <;> intro h <;> cbv
  · have e := ret_some h; clear h
    refine hK _ _ ?_
    cbv
    try (subst e; simp only [D.hcmp, and_self, and_true, true_and] <;> (repeat' apply And.intro) <;> rfl)
  · refine R.callD h (fun x3 hx3 h2 => ?_)
    clear h; have h := h2; clear h2
    refine R.call' (w33 _ _ _ _ hx3) (by (first | (simp only [D.hcmp]; done) | rfl | (simp only [D.hcmp]; rfl))) ?_
    clear hx3; cbv
    refine R.callD h (fun x4 hx4 h2 => ?_)
    clear h; have h := h2; clear h2
    refine R.call' (w33 _ _ _ _ hx4) (by (first | (simp only [D.hcmp]; done) | rfl | (simp only [D.hcmp]; rfl))) ?_
    clear hx4; cbv
    refine R.callD h (fun x5 hx5 h2 => ?_)
    clear h; have h := h2; clear h2
    refine R.call' (w39 _ _ _ _ _ hx5) (by (first | (simp only [D.hcmp]; done) | rfl | (simp only [D.hcmp]; rfl))) ?_
    clear hx5; cbv
    have e := ret_some h; clear h
    refine hK _ _ ?_
    cbv
    try (subst e; simp only [D.hcmp, and_self, and_true, true_and] <;> (repeat' apply And.intro) <;> rfl)

noncomputable def d17 (a0 : Int) (a1_0 : Int) (a1_1 : Bool) (a2 : Int) (a3 : Int) : Option (Int × Bool × Int) :=
  (d9 a0 a1_0 a1_1 a2 a1_0 a1_1 a3).bind fun x1 =>
  some (x1.1, x1.2.1, x1.2.2.1)
noncomputable def w17_c : Code := (Tryd.f17.body).getD .skip
theorem w17_h : Tryd.f17.body = some w17_c := by kernel_rfl
theorem w17 (a0 : Int) (a1_0 : Int) (a1_1 : Bool) (a2 : Int) (a3 : Int) (r : Int × Bool × Int) (h : d17 a0 a1_0 a1_1 a2 a3 = some r) : Ab.Fn Tryd.prog TT 17 [.i .i64 a0, .agg [.i .i64 a1_0, .b a1_1], .i .i64 a2, .i .i64 a3] (.tup [.agg [.i .i64 r.1, .b r.2.1], .i .i64 r.2.2]) [] := by
  refine fn_pure tok W0 Tryd.func17 (by kernel_rfl) w17_h (by kernel_rfl) ?_
  intro ar un cv mn mx pl mi cmp nt beq an scmp cat slen sbyte ssub ofB toB len gi gb gs gl sub put app ovl rep ne0 ge0 inb bnd room sroom need br call callb loop cut nl E R K hK
  have D := E.D
  clear E
  unfold d17 at h
  cbv
  refine R.callD h (fun x1 hx1 h2 => ?_)
  clear h; have h := h2; clear h2
  refine R.call' (w9 _ _ _ _ _ _ _ _ hx1) (by rfl) ?_
  clear hx1; cbv
  have e := ret_some h; clear h
  refine hK _ _ ?_
  cbv
  try (subst e; simp only [and_self, and_true, true_and] <;> (repeat' apply And.intro) <;> rfl)
end Go.Proofs.YtjcabmhnekcbgaaDoor
end
section
namespace Go.Proofs.YtjcabmhnekcbgaaDoor
open Go.Ab Go.RowKit 
set_option maxRecDepth 100000
set_option maxHeartbeats 40000000
noncomputable def d18 (a0_0 : Int) (a0_1 : Bool) : Option (Int × Int × Int) :=
  (d15 a0_0 a0_1).bind fun x2 =>
  if (cmpLit .neq x2 0) = true then
    some (0, 0, x2)
  else
    if (notB' a0_1) = true then
      (d33 a0_0 a0_1 (-1)).bind fun x4 =>
      some (0, x4, 0)
    else
      (d41 a0_0 a0_1).bind fun x5 =>
      if (Ge0 (arReal .sub .i64 x5 1)) then
        some ((arReal .shl .i64 (-1) (arReal .sub .i64 x5 1)), (unReal .xor .i64 (arReal .shl .i64 (-1) (arReal .sub .i64 x5 1))), 0)
      else none
noncomputable def w18_c : Code := (Tryd.f18.body).getD .skip
theorem w18_h : Tryd.f18.body = some w18_c := by kernel_rfl
theorem w18 (a0_0 : Int) (a0_1 : Bool) (r : Int × Int × Int) (h : d18 a0_0 a0_1 = some r) : Ab.Fn Tryd.prog TT 18 [.agg [.i .i64 a0_0, .b a0_1]] (.tup [.i .i64 r.1, .i .i64 r.2.1, .i .i64 r.2.2]) [] := by
  refine fn_pure tok W0 Tryd.func18 (by kernel_rfl) w18_h (by kernel_rfl) ?_
  intro ar un cv mn mx pl mi cmp nt beq an scmp cat slen sbyte ssub ofB toB len gi gb gs gl sub put app ovl rep ne0 ge0 inb bnd room sroom need br call callb loop cut nl E R K hK
  have D := E.D
  clear E
  unfold d18 at h
  cbv
  refine R.cut' (by kernel_rfl) (by kernel_rfl) ?_
  cbv
  refine R.callD h (fun x2 hx2 h2 => ?_)
  clear h; have h := h2; clear h2
  refine R.call' (w15 _ _ _ hx2) (by (first | (simp only [D.har, D.hcmp, D.hge0, D.hnt, D.hun]; done) | rfl | (simp only [D.har, D.hcmp, D.hge0, D.hnt, D.hun]; rfl))) ?_
  clear hx2; cbv
  refine R.brD h (by (first | (simp only [D.har, D.hcmp, D.hge0, D.hnt, D.hun]; done) | rfl | (simp only [D.har, D.hcmp, D.hge0, D.hnt, D.hun]; rfl))) ?_ ?_ <;> clear h <;> intro h <;> cbv
  · have e := ret_some h; clear h
    refine hK _ _ ?_
    cbv
    try (subst e; simp only [D.har, D.hcmp, D.hge0, D.hnt, D.hun, and_self, and_true, true_and] <;> (repeat' apply And.intro) <;> rfl)
  · refine R.cut' (by kernel_rfl) (by kernel_rfl) ?_
    cbv
    refine R.brD h (by (first | (simp only [D.har, D.hcmp, D.hge0, D.hnt, D.hun]; done) | rfl | (simp only [D.har, D.hcmp, D.hge0, D.hnt, D.hun]; rfl))) ?_ ?_ <;> clear h <;> intro h <;> cbv
    · refine R.callD h (fun x4 hx4 h2 => ?_)
      clear h; have h := h2; clear h2
      refine R.call' (w33 _ _ _ _ hx4) (by (first | (simp only [D.har, D.hcmp, D.hge0, D.hnt, D.hun]; done) | rfl | (simp only [D.har, D.hcmp, D.hge0, D.hnt, D.hun]; rfl))) ?_
      clear hx4; cbv
      have e := ret_some h; clear h
      refine hK _ _ ?_
      cbv
      try (subst e; simp only [D.har, D.hcmp, D.hge0, D.hnt, D.hun, and_self, and_true, true_and] <;> (repeat' apply And.intro) <;> rfl)
    · refine R.callD h (fun x5 hx5 h2 => ?_)
      clear h; have h := h2; clear h2
      refine R.call' (w41 _ _ _ hx5) (by (first | (simp only [D.har, D.hcmp, D.hge0, D.hnt, D.hun]; done) | rfl | (simp only [D.har, D.hcmp, D.hge0, D.hnt, D.hun]; rfl))) ?_
      clear hx5; cbv
      refine R.needD h (by (first | (simp only [D.har, D.hcmp, D.hge0, D.hnt, D.hun]; done) | rfl | (simp only [D.har, D.hcmp, D.hge0, D.hnt, D.hun]; rfl))) ?_
      clear h; intro h; cbv
      have e := ret_some h; clear h
      refine hK _ _ ?_
      cbv
      try (subst e; simp only [D.har, D.hcmp, D.hge0, D.hnt, D.hun, and_self, and_true, true_and] <;> (repeat' apply And.intro) <;> rfl)

noncomputable def d19_b1 (a0_0 : Int) (s8 : Int × Int) : Option ((Int × Int) ⊕ (Int)) :=
  if (cmpLit .lss s8.2 (arReal .sub .i64 (arReal .mul .i64 8 a0_0) 1)) = true then
    some (.inl ((arReal .mul .i64 s8.1 2), (arReal .add .i64 s8.2 1)))
  else
    some (.inr s8.1)
noncomputable def d19 (a0_0 : Int) (a0_1 : Bool) : Option (Int × Int × Int) :=
  (d27 a0_0 a0_1).bind fun x2 =>
  if (cmpLit .neq x2 0) = true then
    some (0, 0, x2)
  else
    if (notB' a0_1) = true then
      (d42 a0_0 a0_1 (-1)).bind fun x4 =>
      some (0, x4, 0)
    else
      Option.bind (α := Int) (
        (iter (d19_b1 a0_0) ((-1), 0)).bind fun y9 =>
        some y9) fun y7 =>
      some (y7, (unReal .neg .i64 (arReal .add .i64 y7 1)), 0)
noncomputable def w19_c : Code := (Tryd.f19.body).getD .skip
theorem w19_h : Tryd.f19.body = some w19_c := by kernel_rfl
theorem w19 (a0_0 : Int) (a0_1 : Bool) (r : Int × Int × Int) (h : d19 a0_0 a0_1 = some r) : Ab.Fn Tryd.prog TT 19 [.agg [.i .i64 a0_0, .b a0_1]] (.tup [.i .i64 r.1, .i .i64 r.2.1, .i .i64 r.2.2]) [] := by
  refine fn_pure tok W0 Tryd.func19 (by kernel_rfl) w19_h (by kernel_rfl) ?_
  intro ar un cv mn mx pl mi cmp nt beq an scmp cat slen sbyte ssub ofB toB len gi gb gs gl sub put app ovl rep ne0 ge0 inb bnd room sroom need br call callb loop cut nl E R K hK
  have D := E.D
  clear E
  unfold d19 at h
  cbv
  refine R.cut' (by kernel_rfl) (by kernel_rfl) ?_
  cbv
  refine R.callD h (fun x2 hx2 h2 => ?_)
  clear h; have h := h2; clear h2
  refine R.call' (w27 _ _ _ hx2) (by (first | (simp only [D.har, D.hcmp, D.hnt, D.hun]; done) | rfl | (simp only [D.har, D.hcmp, D.hnt, D.hun]; rfl))) ?_
  clear hx2; cbv
  refine R.brD h (by (first | (simp only [D.har, D.hcmp, D.hnt, D.hun]; done) | rfl | (simp only [D.har, D.hcmp, D.hnt, D.hun]; rfl))) ?_ ?_ <;> clear h <;> intro h <;> cbv
  · have e := ret_some h; clear h
    refine hK _ _ ?_
    cbv
    try (subst e; simp only [D.har, D.hcmp, D.hnt, D.hun, and_self, and_true, true_and] <;> (repeat' apply And.intro) <;> rfl)
  · refine R.cut' (by kernel_rfl) (by kernel_rfl) ?_
    cbv
    refine R.brD h (by (first | (simp only [D.har, D.hcmp, D.hnt, D.hun]; done) | rfl | (simp only [D.har, D.hcmp, D.hnt, D.hun]; rfl))) ?_ ?_ <;> clear h <;> intro h <;> cbv
    · refine R.callD h (fun x4 hx4 h2 => ?_)
      clear h; have h := h2; clear h2
      refine R.call' (w42 _ _ _ _ hx4) (by (first | (simp only [D.har, D.hcmp, D.hnt, D.hun]; done) | rfl | (simp only [D.har, D.hcmp, D.hnt, D.hun]; rfl))) ?_
      clear hx4; cbv
      have e := ret_some h; clear h
      refine hK _ _ ?_
      cbv
      try (subst e; simp only [D.har, D.hcmp, D.hnt, D.hun, and_self, and_true, true_and] <;> (repeat' apply And.intro) <;> rfl)
    · refine R.cutB (fun p => p) (fun _ _ e => e) h [] (fun p11 => [(6, .i .i64 p11)]) (fun p11 => []) (by kernel_rfl) (by kernel_rfl) (fun y7 hy hFy7 L hLy7 => ?_) (fun p11 h2 => ?_)
      · clear h; have h := hy; clear hy; cbv
        refine R.loopD h (fun s0 y9 e0 hi hFs8 => ?_)
        clear h
        refine R.loopI hi [] (fun s8 => [(6, .i .i64 s8.1), (7, .i .i64 s8.2)]) (fun s8 => []) ⟨by kernel_rfl, ?_, ?_, by kernel_rfl, by kernel_rfl⟩ (by kernel_rfl) ?_
        · cbv; try (subst e0; simp only [D.har, D.hcmp, D.hnt, D.hun, and_self, and_true, true_and] <;> (repeat' apply And.intro) <;> rfl)
        · cbv; try (subst e0; simp only [D.har, D.hcmp, D.hnt, D.hun, and_self, and_true, true_and] <;> (repeat' apply And.intro) <;> rfl)
        clear hi e0
        intro s8 m y' hy hins8 houts8 L hLs8
        have h := hy; clear hy; unfold d19_b1 at h
        cbv
        refine R.cut' (by kernel_rfl) (by kernel_rfl) ?_
        cbv
        refine R.brD h (by (first | (simp only [D.har, D.hcmp, D.hnt, D.hun]; done) | rfl | (simp only [D.har, D.hcmp, D.hnt, D.hun]; rfl))) ?_ ?_ <;> clear h <;> intro h <;> cbv
        · refine R.cut' (by kernel_rfl) (by kernel_rfl) ?_
          cbv
          obtain ⟨s', e, hi⟩ := inl_some h hins8
          refine hLs8 s' _ _ hi ⟨by kernel_rfl, ?_, ?_, by kernel_rfl, by kernel_rfl⟩ <;> cbv <;> (try (subst e; simp only [D.har, D.hcmp, D.hnt, D.hun, and_self, and_true, true_and] <;> (repeat' apply And.intro) <;> rfl))
        · have e := inr_some h houts8; clear h
          have h := hFs8; rw [e] at h; clear e; try dsimp only at h
          cbv
          obtain ⟨s', e, hi⟩ := jn_some (fun p => p) h
          refine hLy7 s' _ _ hi ⟨by kernel_rfl, ?_, ?_, by kernel_rfl, by kernel_rfl⟩ <;> cbv <;> (try (subst e; simp only [D.har, D.hcmp, D.hnt, D.hun, and_self, and_true, true_and] <;> (repeat' apply And.intro) <;> rfl))
      · clear h; have h := h2; clear h2; try dsimp only at h
        cbv
        have e := ret_some h; clear h
        refine hK _ _ ?_
        cbv
        try (subst e; simp only [D.har, D.hcmp, D.hnt, D.hun, and_self, and_true, true_and] <;> (repeat' apply And.intro) <;> rfl)

noncomputable def d20 (a0_0 : Int) (a0_1 : Bool) : Option (Int × Bool × Int) :=
  (d27 a0_0 a0_1).bind fun x2 =>
  if (cmpLit .neq x2 0) = true then
    some (0, false, x2)
  else
    (d43 a0_0 a0_1).bind fun x3 =>
    some (x3.1, x3.2, 0)
noncomputable def w20_c : Code := (Tryd.f20.body).getD .skip
theorem w20_h : Tryd.f20.body = some w20_c := by kernel_rfl
theorem w20 (a0_0 : Int) (a0_1 : Bool) (r : Int × Bool × Int) (h : d20 a0_0 a0_1 = some r) : Ab.Fn Tryd.prog TT 20 [.agg [.i .i64 a0_0, .b a0_1]] (.tup [.agg [.i .i64 r.1, .b r.2.1], .i .i64 r.2.2]) [] := by
  refine fn_pure tok W0 Tryd.func20 (by kernel_rfl) w20_h (by kernel_rfl) ?_
  intro ar un cv mn mx pl mi cmp nt beq an scmp cat slen sbyte ssub ofB toB len gi gb gs gl sub put app ovl rep ne0 ge0 inb bnd room sroom need br call callb loop cut nl E R K hK
  have D := E.D
  clear E
  unfold d20 at h
  cbv
  refine R.cut' (by kernel_rfl) (by kernel_rfl) ?_
  cbv
  refine R.callD h (fun x2 hx2 h2 => ?_)
  clear h; have h := h2; clear h2
  refine R.call' (w27 _ _ _ hx2) (by (first | (simp only [D.hcmp]; done) | rfl | (simp only [D.hcmp]; rfl))) ?_
  clear hx2; cbv
  refine R.brD h (by (first | (simp only [D.hcmp]; done) | rfl | (simp only [D.hcmp]; rfl))) ?_ ?_ <;> clear h <;> intro h <;> cbv
  · have e := ret_some h; clear h
    refine hK _ _ ?_
    cbv
    try (subst e; simp only [D.hcmp, and_self, and_true, true_and] <;> (repeat' apply And.intro) <;> rfl)
  · refine R.callD h (fun x3 hx3 h2 => ?_)
    clear h; have h := h2; clear h2
    refine R.call' (w43 _ _ _ hx3) (by (first | (simp only [D.hcmp]; done) | rfl | (simp only [D.hcmp]; rfl))) ?_
    clear hx3; cbv
    have e := ret_some h; clear h
    refine hK _ _ ?_
    cbv
    try (subst e; simp only [D.hcmp, and_self, and_true, true_and] <;> (repeat' apply And.intro) <;> rfl)

noncomputable def d22 (a0_0 : Int) (a0_1 : Bool) (a1_0 : Int) (a1_1 : Bool) : Option (Int × Bool × Int) :=
  (d45 a0_0 a0_1 a1_0 a1_1).bind fun x2 =>
  if (cmpLit .neq x2 0) = true then
    some (0, false, x2)
  else
    (d47 a0_0 a0_1 a1_0 a1_1).bind fun x3 =>
    some (x3.1, x3.2, 0)
noncomputable def w22_c : Code := (Tryd.f22.body).getD .skip
theorem w22_h : Tryd.f22.body = some w22_c := by kernel_rfl
theorem w22 (a0_0 : Int) (a0_1 : Bool) (a1_0 : Int) (a1_1 : Bool) (r : Int × Bool × Int) (h : d22 a0_0 a0_1 a1_0 a1_1 = some r) : Ab.Fn Tryd.prog TT 22 [.agg [.i .i64 a0_0, .b a0_1], .agg [.i .i64 a1_0, .b a1_1]] (.tup [.agg [.i .i64 r.1, .b r.2.1], .i .i64 r.2.2]) [] := by
  refine fn_pure tok W0 Tryd.func22 (by kernel_rfl) w22_h (by kernel_rfl) ?_
  intro ar un cv mn mx pl mi cmp nt beq an scmp cat slen sbyte ssub ofB toB len gi gb gs gl sub put app ovl rep ne0 ge0 inb bnd room sroom need br call callb loop cut nl E R K hK
  have D := E.D
  clear E
  unfold d22 at h
  cbv
  refine R.cut' (by kernel_rfl) (by kernel_rfl) ?_
  cbv
  refine R.callD h (fun x2 hx2 h2 => ?_)
  clear h; have h := h2; clear h2
  refine R.call' (w45 _ _ _ _ _ hx2) (by (first | (simp only [D.hcmp]; done) | rfl | (simp only [D.hcmp]; rfl))) ?_
  clear hx2; cbv
  refine R.brD h (by (first | (simp only [D.hcmp]; done) | rfl | (simp only [D.hcmp]; rfl))) ?_ ?_ <;> clear h <;> intro h <;> cbv
  · have e := ret_some h; clear h
    refine hK _ _ ?_
    cbv
    try (subst e; simp only [D.hcmp, and_self, and_true, true_and] <;> (repeat' apply And.intro) <;> rfl)
  · refine R.callD h (fun x3 hx3 h2 => ?_)
    clear h; have h := h2; clear h2
    refine R.call' (w47 _ _ _ _ _ hx3) (by (first | (simp only [D.hcmp]; done) | rfl | (simp only [D.hcmp]; rfl))) ?_
    clear hx3; cbv
    have e := ret_some h; clear h
    refine hK _ _ ?_
    cbv
    try (subst e; simp only [D.hcmp, and_self, and_true, true_and] <;> (repeat' apply And.intro) <;> rfl)

noncomputable def d24 (a0_0 : Int) (a0_1 : Bool) (a1 : Int) : Option (Int × Int) :=
  (d27 a0_0 a0_1).bind fun x2 =>
  if (cmpLit .neq x2 0) = true then
    some (0, x2)
  else
    (d42 a0_0 a0_1 a1).bind fun x3 =>
    some (x3, 0)
noncomputable def w24_c : Code := (Tryd.f24.body).getD .skip
theorem w24_h : Tryd.f24.body = some w24_c := by kernel_rfl
theorem w24 (a0_0 : Int) (a0_1 : Bool) (a1 : Int) (r : Int × Int) (h : d24 a0_0 a0_1 a1 = some r) : Ab.Fn Tryd.prog TT 24 [.agg [.i .i64 a0_0, .b a0_1], .i .i64 a1] (.tup [.i .i64 r.1, .i .i64 r.2]) [] := by
  refine fn_pure tok W0 Tryd.func24 (by kernel_rfl) w24_h (by kernel_rfl) ?_
  intro ar un cv mn mx pl mi cmp nt beq an scmp cat slen sbyte ssub ofB toB len gi gb gs gl sub put app ovl rep ne0 ge0 inb bnd room sroom need br call callb loop cut nl E R K hK
  have D := E.D
  clear E
  unfold d24 at h
  cbv
  refine R.cut' (by kernel_rfl) (by kernel_rfl) ?_
  cbv
  refine R.callD h (fun x2 hx2 h2 => ?_)
  clear h; have h := h2; clear h2
  refine R.call' (w27 _ _ _ hx2) (by (first | (simp only [D.hcmp]; done) | rfl | (simp only [D.hcmp]; rfl))) ?_
  clear hx2; cbv
  refine R.brD h (by (first | (simp only [D.hcmp]; done) | rfl | (simp only [D.hcmp]; rfl))) ?_ ?_ <;> clear h <;> intro h <;> cbv
  · have e := ret_some h; clear h
    refine hK _ _ ?_
    cbv
    try (subst e; simp only [D.hcmp, and_self, and_true, true_and] <;> (repeat' apply And.intro) <;> rfl)
  · refine R.callD h (fun x3 hx3 h2 => ?_)
    clear h; have h := h2; clear h2
    refine R.call' (w42 _ _ _ _ hx3) (by (first | (simp only [D.hcmp]; done) | rfl | (simp only [D.hcmp]; rfl))) ?_
    clear hx3; cbv
    have e := ret_some h; clear h
    refine hK _ _ ?_
    cbv
    try (subst e; simp only [D.hcmp, and_self, and_true, true_and] <;> (repeat' apply And.intro) <;> rfl)

noncomputable def d25 (a0_0 : Int) (a0_1 : Bool) (a1_0 : Int) (a1_1 : Bool) (a2 : Int) : Option (Int × Int) :=
  (d32 a0_0 a0_1 a1_0 a1_1).bind fun x2 =>
  if (cmpLit .neq x2 0) = true then
    some (0, x2)
  else
    (d33 a0_0 a0_1 a2).bind fun x3 =>
    (d33 a1_0 a1_1 x3).bind fun x4 =>
    some (x4, 0)
noncomputable def w25_c : Code := (Tryd.f25.body).getD .skip
theorem w25_h : Tryd.f25.body = some w25_c := by kernel_rfl
theorem w25 (a0_0 : Int) (a0_1 : Bool) (a1_0 : Int) (a1_1 : Bool) (a2 : Int) (r : Int × Int) (h : d25 a0_0 a0_1 a1_0 a1_1 a2 = some r) : Ab.Fn Tryd.prog TT 25 [.agg [.i .i64 a0_0, .b a0_1], .agg [.i .i64 a1_0, .b a1_1], .i .i64 a2] (.tup [.i .i64 r.1, .i .i64 r.2]) [] := by
  refine fn_pure tok (fun r => match r with | 4 => [[],[],[],[1,2],[0,1,2,3],[0,1,2,3,4],[0,1,2,3,4,5]] | _ => []) Tryd.func25 (by kernel_rfl) w25_h (by kernel_rfl) ?_
  intro ar un cv mn mx pl mi cmp nt beq an scmp cat slen sbyte ssub ofB toB len gi gb gs gl sub put app ovl rep ne0 ge0 inb bnd room sroom need br call callb loop cut nl E R K hK
  have D := E.D
  clear E
  unfold d25 at h
  cbv
  refine R.cut' (by kernel_rfl) (by kernel_rfl) ?_
  cbv
  refine R.callD h (fun x2 hx2 h2 => ?_)
  clear h; have h := h2; clear h2
  refine R.call' (w32 _ _ _ _ _ hx2) (by (first | (simp only [D.hcmp]; done) | rfl | (simp only [D.hcmp]; rfl))) ?_
  clear hx2; cbv
  refine R.brD h (by (first | (simp only [D.hcmp]; done) | rfl | (simp only [D.hcmp]; rfl))) ?_ ?_ <;> clear h <;> intro h <;> cbv
  · have e := ret_some h; clear h
    refine hK _ _ ?_
    cbv
    try (subst e; simp only [D.hcmp, and_self, and_true, true_and] <;> (repeat' apply And.intro) <;> rfl)
  · refine R.callD h (fun x3 hx3 h2 => ?_)
    clear h; have h := h2; clear h2
    refine R.call' (w33 _ _ _ _ hx3) (by (first | (simp only [D.hcmp]; done) | rfl | (simp only [D.hcmp]; rfl))) ?_
    clear hx3; cbv
    refine R.callD h (fun x4 hx4 h2 => ?_)
    clear h; have h := h2; clear h2
    refine R.call' (w33 _ _ _ _ hx4) (by (first | (simp only [D.hcmp]; done) | rfl | (simp only [D.hcmp]; rfl))) ?_
    clear hx4; cbv
    have e := ret_some h; clear h
    refine hK _ _ ?_
    cbv
    try (subst e; simp only [D.hcmp, and_self, and_true, true_and] <;> (repeat' apply And.intro) <;> rfl)

noncomputable def d26 (a0_0 : Int) (a0_1 : Bool) (a1_0 : Int) (a1_1 : Bool) (a2 : Int) : Option (Int × Int) :=
  (d45 a0_0 a0_1 a1_0 a1_1).bind fun x2 =>
  if (cmpLit .neq x2 0) = true then
    some (0, x2)
  else
    (d42 a0_0 a0_1 a2).bind fun x3 =>
    (d42 a1_0 a1_1 x3).bind fun x4 =>
    some (x4, 0)
noncomputable def w26_c : Code := (Tryd.f26.body).getD .skip
theorem w26_h : Tryd.f26.body = some w26_c := by kernel_rfl
theorem w26 (a0_0 : Int) (a0_1 : Bool) (a1_0 : Int) (a1_1 : Bool) (a2 : Int) (r : Int × Int) (h : d26 a0_0 a0_1 a1_0 a1_1 a2 = some r) : Ab.Fn Tryd.prog TT 26 [.agg [.i .i64 a0_0, .b a0_1], .agg [.i .i64 a1_0, .b a1_1], .i .i64 a2] (.tup [.i .i64 r.1, .i .i64 r.2]) [] := by
  refine fn_pure tok (fun r => match r with | 4 => [[],[],[],[1,2],[0,1,2,3],[0,1,2,3,4],[0,1,2,3,4,5]] | _ => []) Tryd.func26 (by kernel_rfl) w26_h (by kernel_rfl) ?_
  intro ar un cv mn mx pl mi cmp nt beq an scmp cat slen sbyte ssub ofB toB len gi gb gs gl sub put app ovl rep ne0 ge0 inb bnd room sroom need br call callb loop cut nl E R K hK
  have D := E.D
  clear E
  unfold d26 at h
  cbv
  refine R.cut' (by kernel_rfl) (by kernel_rfl) ?_
  cbv
  refine R.callD h (fun x2 hx2 h2 => ?_)
  clear h; have h := h2; clear h2
  refine R.call' (w45 _ _ _ _ _ hx2) (by (first | (simp only [D.hcmp]; done) | rfl | (simp only [D.hcmp]; rfl))) ?_
  clear hx2; cbv
  refine R.brD h (by (first | (simp only [D.hcmp]; done) | rfl | (simp only [D.hcmp]; rfl))) ?_ ?_ <;> clear h <;> intro h <;> cbv
  · have e := ret_some h; clear h
    refine hK _ _ ?_
    cbv
    try (subst e; simp only [D.hcmp, and_self, and_true, true_and] <;> (repeat' apply And.intro) <;> rfl)
  · refine R.callD h (fun x3 hx3 h2 => ?_)
    clear h; have h := h2; clear h2
    refine R.call' (w42 _ _ _ _ hx3) (by (first | (simp only [D.hcmp]; done) | rfl | (simp only [D.hcmp]; rfl))) ?_
    clear hx3; cbv
    refine R.callD h (fun x4 hx4 h2 => ?_)
    clear h; have h := h2; clear h2
    refine R.call' (w42 _ _ _ _ hx4) (by (first | (simp only [D.hcmp]; done) | rfl | (simp only [D.hcmp]; rfl))) ?_
    clear hx4; cbv
    have e := ret_some h; clear h
    refine hK _ _ ?_
    cbv
    try (subst e; simp only [D.hcmp, and_self, and_true, true_and] <;> (repeat' apply And.intro) <;> rfl)
end Go.Proofs.YtjcabmhnekcbgaaDoor
end
section
namespace Go.Proofs.YtjcabmhnekcbgaaDoor
open Go.Ab Go.RowKit
set_option maxRecDepth 100000
noncomputable def d7 : Option (Bool) :=
  (d28 1 true).bind fun x1 =>
  (d28 1 false).bind fun x2 =>
  (d28 4 true).bind fun x3 =>
  (d28 4 false).bind fun x4 =>
  (d28 8 false).bind fun x5 =>
  (d23 x1.1 x1.2 200).bind fun x6 =>
  (d28 8 true).bind fun x7 =>
  (d21 x4.1 x4.2 x7.1 x7.2).bind fun x8 =>
  (d9 11 x3.1 x3.2 (-1) x4.1 x4.2 1).bind fun x9 =>
  (d9 1 x2.1 x2.2 255 x2.1 x2.2 1).bind fun x10 =>
  (d9 4 x3.1 x3.2 (-7) x3.1 x3.2 2).bind fun x11 =>
  (d9 10 x3.1 x3.2 (-5) x3.1 x3.2 1).bind fun x12 =>
  (d29 x5.1 x5.2 (-1)).bind fun x13 =>
  (d30 x5.1 x5.2 (ByteArray.mk #[48, 120, 102, 102, 102, 102, 102, 102, 102, 102, 102, 102, 102, 102, 102, 102, 102, 102])).bind fun x14 =>
  (d30 x1.1 x1.2 (ByteArray.mk #[49, 50, 56])).bind fun x15 =>
  Option.bind (α := Bool) (
    if (cmpLit .neq x6.2 0) = true then
      some true
    else
      if (cmpLit .neq x8.2.2 0) = true then
        some true
      else
        if (cmpLit .neq x9.2.2.2 0) = true then
          some true
        else
          if (cmpLit .neq x10.2.2.2 0) = true then
            some true
          else
            if (cmpLit .neq x11.2.2.2 0) = true then
              some true
            else
              if (cmpLit .neq x12.2.2.2 0) = true then
                some true
              else
                if (cmpLit .neq x13.2 0) = true then
                  some true
                else
                  some (cmpLit .neq x14.2 0)) fun y18 =>
  if y18 = true then
    some false
  else
    if (cmpLit .eql x6.1 (-56)) = true then
      (d28 8 true).bind fun x21 =>
      if (andB' (cmpLit .eql x8.1 x21.1) (beqB x8.2.1 x21.2)) = true then
        if (andB' (cmpLit .eql x9.1 x3.1) (beqB x9.2.1 x3.2)) = true then
          if (cmpLit .eql x9.2.2.1 0) = true then
            if (cmpLit .eql x10.2.2.1 256) = true then
              if (cmpLit .eql x11.2.2.1 (-3)) = true then
                if (cmpLit .eql x12.2.2.1 (-3)) = true then
                  if (strCmp .eql x13.1 (ByteArray.mk #[49, 56, 52, 52, 54, 55, 52, 52, 48, 55, 51, 55, 48, 57, 53, 53, 49, 54, 49, 53])) = true then
                    if (cmpLit .eql x14.1 (-1)) = true then
                      some (cmpLit .eql x15.2 13)
                    else
                      some false
                  else
                    some false
                else
                  some false
              else
                some false
            else
              some false
          else
            some false
        else
          some false
      else
        some false
    else
      some false
noncomputable def d3 (a0_0 : Int) (a0_1 : Bool) (a1 : Int) (a2_0 : Int) (a2_1 : Int) : Option (Bool) :=
  (d7).bind fun x1 =>
  (d8 a0_0 a0_1).bind fun x2 =>
  Option.bind (α := Bool) (
    if (notB' x1) = true then
      some true
    else
      if (cmpLit .neq x2.2.2 0) = true then
        some true
      else
        if (cmpLit .lss a2_0 0) = true then
          some true
        else
          if (cmpLit .lss a2_1 0) = true then
            some true
          else
            if (cmpLit .geq a2_0 (arReal .mul .i64 8 x2.1)) = true then
              some true
            else
              some (cmpLit .geq a2_1 (arReal .mul .i64 8 x2.1))) fun y5 =>
  if y5 = true then
    some x1
  else
    if (Ge0 a2_0) then
      (d10).bind fun x7 =>
      (d9 9 a0_0 a0_1 a1 x7.1 x7.2 a2_0).bind fun x8 =>
      (d10).bind fun x9 =>
      (d9 10 a0_0 a0_1 a1 x9.1 x9.2 a2_0).bind fun x10 =>
      (d11 a0_0 a0_1 a1).bind fun x11 =>
      (d9 3 x2.1 x2.2.1 x11 x2.1 x2.2.1 (arReal .shl .i64 1 a2_0)).bind fun x12 =>
      Option.bind (α := Bool) (
        if (cmpLit .neq x8.2.2.2 0) = true then
          some true
        else
          if (cmpLit .neq x10.2.2.2 0) = true then
            some true
          else
            if (cmpLit .neq x12.2.2.2 0) = true then
              some true
            else
              if (notB' (andB' (cmpLit .eql x8.1 x2.1) (beqB x8.2.1 x2.2.1))) = true then
                some true
              else
                some (cmpLit .neq x8.2.2.1 x12.2.2.1)) fun y15 =>
      if y15 = true then
        some false
      else
        Option.bind (α := (Unit) ⊕ (Bool)) (
          Option.bind (α := Bool) (
            if (cmpLit .geq x11 0) = true then
              if (cmpLit .lss a2_0 (arReal .sub .i64 (arReal .mul .i64 8 x2.1) 1)) = true then
                some true
              else
                some (notB' x2.2.1)
            else
              if (notB' x2.2.1) = true then
                if (cmpLit .lss a2_0 (arReal .sub .i64 (arReal .mul .i64 8 x2.1) 1)) = true then
                  some true
                else
                  some (notB' x2.2.1)
              else
                some false) fun y21 =>
          if y21 = true then
            (d9 4 x2.1 x2.2.1 x11 x2.1 x2.2.1 (arReal .shl .i64 1 a2_0)).bind fun x23 =>
            if (cmpLit .neq x23.2.2.2 0) = true then
              some (.inr false)
            else
              if (cmpLit .neq x23.2.2.1 x10.2.2.1) = true then
                some (.inr false)
              else
                some (.inl ())
          else
            some (.inl ())) fun y20 =>
        match y20 with
        | .inl p24 =>
          if (cmpLit .geq (arReal .add .i64 a2_0 a2_1) (arReal .mul .i64 8 x2.1)) = true then
            some true
          else
            (d10).bind fun x25 =>
            (d9 9 x2.1 x2.2.1 x8.2.2.1 x25.1 x25.2 a2_1).bind fun x26 =>
            (d10).bind fun x27 =>
            (d9 10 x2.1 x2.2.1 x10.2.2.1 x27.1 x27.2 a2_1).bind fun x28 =>
            (d10).bind fun x29 =>
            (d9 9 a0_0 a0_1 a1 x29.1 x29.2 (arReal .add .i64 a2_0 a2_1)).bind fun x30 =>
            (d10).bind fun x31 =>
            (d9 10 a0_0 a0_1 a1 x31.1 x31.2 (arReal .add .i64 a2_0 a2_1)).bind fun x32 =>
            if (cmpLit .eql x26.2.2.2 0) = true then
              if (cmpLit .eql x28.2.2.2 0) = true then
                if (cmpLit .eql x30.2.2.2 0) = true then
                  if (cmpLit .eql x32.2.2.2 0) = true then
                    if (cmpLit .eql x26.2.2.1 x30.2.2.1) = true then
                      some (cmpLit .eql x28.2.2.1 x32.2.2.1)
                    else
                      some false
                  else
                    some false
                else
                  some false
              else
                some false
            else
              some false
        | .inr y20r0 =>
          some y20r0
    else none
noncomputable def d4 (a0 : Int) (a1_0 : Int) (a1_1 : Bool) (a1_2 : Int) (a1_3 : Bool) (a2_0 : Int) (a2_1 : Int) : Option (Bool) :=
  (d7).bind fun x1 =>
  (d12 a0 a1_0 a1_1 a2_0).bind fun x2 =>
  (d13 a0 a1_0 a1_1 a2_0).bind fun x3 =>
  (d9 a0 a1_0 a1_1 a2_0 a1_2 a1_3 a2_1).bind fun x4 =>
  (d14 a0 a1_0 a1_1 a2_0 a1_2 a1_3 a2_1).bind fun x5 =>
  if x1 = true then
    if (andB' (cmpLit .eql x2.1 x3.1) (beqB x2.2.1 x3.2.1)) = true then
      if (cmpLit .eql x2.2.2.1 x3.2.2.1) = true then
        if (cmpLit .eql x2.2.2.2 x3.2.2.2) = true then
          if (andB' (cmpLit .eql x4.1 x5.1) (beqB x4.2.1 x5.2.1)) = true then
            if (cmpLit .eql x4.2.2.1 x5.2.2.1) = true then
              some (cmpLit .eql x4.2.2.2 x5.2.2.2)
            else
              some false
          else
            some false
        else
          some false
      else
        some false
    else
      some false
  else
    some false
noncomputable def d5_b1 (a0_0 : Int) (a0_1 : Bool) (a1_0 : Int) (a1_1 : Int) (x6 : Int × Int) (s47 : Int) : Option ((Int) ⊕ ((Bool) ⊕ (Unit))) :=
  if (cmpLit .lss s47 6) = true then
    (d17 (arReal .add .i64 11 s47) a0_0 a0_1 a1_0 a1_1).bind fun x61 =>
    Option.bind (α := Bool) (
      (d10).bind fun x64 =>
      if (notB' (andB' (cmpLit .eql x61.1 x64.1) (beqB x61.2.1 x64.2))) = true then
        some true
      else
        if (Inb s47 (Int.ofNat 6)) then
          if (cmpLit .eql s47 (Int.ofNat 0)) = true then
            if (notB' (beqB (cmpLit .eql x61.2.2 1) (cmpLit .lss x6.1 0))) = true then
              some true
            else
              if (cmpLit .neq x61.2.2 0) = true then
                some (cmpLit .neq x61.2.2 1)
              else
                some false
          else
            if (cmpLit .eql s47 (Int.ofNat 1)) = true then
              if (notB' (beqB (cmpLit .eql x61.2.2 1) (cmpLit .leq x6.1 0))) = true then
                some true
              else
                if (cmpLit .neq x61.2.2 0) = true then
                  some (cmpLit .neq x61.2.2 1)
                else
                  some false
            else
              if (cmpLit .eql s47 (Int.ofNat 2)) = true then
                if (notB' (beqB (cmpLit .eql x61.2.2 1) (cmpLit .gtr x6.1 0))) = true then
                  some true
                else
                  if (cmpLit .neq x61.2.2 0) = true then
                    some (cmpLit .neq x61.2.2 1)
                  else
                    some false
              else
                if (cmpLit .eql s47 (Int.ofNat 3)) = true then
                  if (notB' (beqB (cmpLit .eql x61.2.2 1) (cmpLit .geq x6.1 0))) = true then
                    some true
                  else
                    if (cmpLit .neq x61.2.2 0) = true then
                      some (cmpLit .neq x61.2.2 1)
                    else
                      some false
                else
                  if (cmpLit .eql s47 (Int.ofNat 4)) = true then
                    if (notB' (beqB (cmpLit .eql x61.2.2 1) (cmpLit .eql x6.1 0))) = true then
                      some true
                    else
                      if (cmpLit .neq x61.2.2 0) = true then
                        some (cmpLit .neq x61.2.2 1)
                      else
                        some false
                  else
                    if (notB' (beqB (cmpLit .eql x61.2.2 1) (cmpLit .neq x6.1 0))) = true then
                      some true
                    else
                      if (cmpLit .neq x61.2.2 0) = true then
                        some (cmpLit .neq x61.2.2 1)
                      else
                        some false
        else none) fun y63 =>
    if y63 = true then
      some (.inr (.inl false))
    else
      some (.inl (arReal .add .i64 s47 1))
  else
    some (.inr (.inr ()))
noncomputable def d5 (a0_0 : Int) (a0_1 : Bool) (a1_0 : Int) (a1_1 : Int) (a1_2 : Int) : Option (Bool) :=
  (d7).bind fun x1 =>
  if (notB' x1) = true then
    some x1
  else
    (d15 a0_0 a0_1).bind fun x5 =>
    if (cmpLit .neq x5 0) = true then
      some x1
    else
      (d16 a0_0 a0_1 a1_0 a1_1).bind fun x6 =>
      (d16 a0_0 a0_1 a1_1 a1_2).bind fun x7 =>
      (d16 a0_0 a0_1 a1_0 a1_2).bind fun x8 =>
      (d16 a0_0 a0_1 a1_1 a1_0).bind fun x9 =>
      Option.bind (α := Bool) (
        if (cmpLit .lss x6.1 (-1)) = true then
          some true
        else
          if (cmpLit .gtr x6.1 1) = true then
            some true
          else
            if (cmpLit .neq x9.1 (unReal .neg .i64 x6.1)) = true then
              some true
            else
              (d11 a0_0 a0_1 a1_0).bind fun x17 =>
              (d11 a0_0 a0_1 a1_1).bind fun x18 =>
              if (notB' (beqB (cmpLit .eql x6.1 0) (cmpLit .eql x17 x18))) = true then
                some true
              else
                if (cmpLit .leq x6.1 0) = true then
                  if (cmpLit .leq x7.1 0) = true then
                    if (cmpLit .gtr x8.1 0) = true then
                      some true
                    else
                      if (cmpLit .lss x6.1 0) = true then
                        if (cmpLit .leq x7.1 0) = true then
                          some (cmpLit .geq x8.1 0)
                        else
                          some false
                      else
                        some false
                  else
                    if (cmpLit .lss x6.1 0) = true then
                      if (cmpLit .leq x7.1 0) = true then
                        some (cmpLit .geq x8.1 0)
                      else
                        some false
                    else
                      some false
                else
                  if (cmpLit .lss x6.1 0) = true then
                    if (cmpLit .leq x7.1 0) = true then
                      some (cmpLit .geq x8.1 0)
                    else
                      some false
                  else
                    some false) fun y16 =>
      if y16 = true then
        some false
      else
        Option.bind (α := (Unit) ⊕ (Bool)) (
          (iter (d5_b1 a0_0 a0_1 a1_0 a1_1 x6) 0).bind fun y56 =>
          match y56 with
          | .inl p66 =>
            some (.inr p66)
          | .inr y56r0 =>
            some (.inl ())) fun y38 =>
        match y38 with
        | .inl p68 =>
          (d18 a0_0 a0_1).bind fun x69 =>
          (d16 a0_0 a0_1 x69.1 a1_0).bind fun x70 =>
          (d16 a0_0 a0_1 a1_0 x69.2.1).bind fun x71 =>
          if (cmpLit .eql x69.2.2 0) = true then
            if (cmpLit .leq x70.1 0) = true then
              if (cmpLit .leq x71.1 0) = true then
                (d11 a0_0 a0_1 x69.1).bind fun x74 =>
                if (cmpLit .eql x74 x69.1) = true then
                  (d11 a0_0 a0_1 x69.2.1).bind fun x75 =>
                  some (cmpLit .eql x75 x69.2.1)
                else
                  some false
              else
                some false
            else
              some false
          else
            some false
        | .inr y38r0 =>
          some y38r0
noncomputable def d6 (a0_0 : Int) (a0_1 : Bool) (a1_0 : Int) (a1_1 : Bool) (a2 : Int) : Option (Bool) :=
  (d7).bind fun x1 =>
  (d18 a0_0 a0_1).bind fun x2 =>
  (d19 a0_0 a0_1).bind fun x3 =>
  (d8 a0_0 a0_1).bind fun x4 =>
  (d20 a0_0 a0_1).bind fun x5 =>
  (d21 a0_0 a0_1 a1_0 a1_1).bind fun x6 =>
  (d22 a0_0 a0_1 a1_0 a1_1).bind fun x7 =>
  (d23 a0_0 a0_1 a2).bind fun x8 =>
  (d24 a0_0 a0_1 a2).bind fun x9 =>
  (d25 a0_0 a0_1 a1_0 a1_1 a2).bind fun x10 =>
  (d26 a0_0 a0_1 a1_0 a1_1 a2).bind fun x11 =>
  if x1 = true then
    (d15 a0_0 a0_1).bind fun x14 =>
    (d27 a0_0 a0_1).bind fun x15 =>
    if (cmpLit .eql x14 x15) = true then
      if (cmpLit .eql x2.1 x3.1) = true then
        if (cmpLit .eql x2.2.1 x3.2.1) = true then
          if (cmpLit .eql x2.2.2 x3.2.2) = true then
            if (andB' (cmpLit .eql x4.1 x5.1) (beqB x4.2.1 x5.2.1)) = true then
              if (cmpLit .eql x4.2.2 x5.2.2) = true then
                if (andB' (cmpLit .eql x6.1 x7.1) (beqB x6.2.1 x7.2.1)) = true then
                  if (cmpLit .eql x6.2.2 x7.2.2) = true then
                    if (cmpLit .eql x8.1 x9.1) = true then
                      if (cmpLit .eql x8.2 x9.2) = true then
                        if (cmpLit .eql x10.1 x11.1) = true then
                          some (cmpLit .eql x10.2 x11.2)
                        else
                          some false
                      else
                        some false
                    else
                      some false
                  else
                    some false
                else
                  some false
              else
                some false
            else
              some false
          else
            some false
        else
          some false
      else
        some false
    else
      some false
  else
    some false
end Go.Proofs.YtjcabmhnekcbgaaDoor
end
section
namespace Go.Proofs.YtjcabmhnekcbgaaDoor
open Go.Ab Go.RowKit
theorem c_eql (a b : Int) : cmpLit .eql a b = decide (a = b) := by simp [cmpLit, Bool.beq_eq_decide_eq]
theorem c_neq (a b : Int) : cmpLit .neq a b = decide (a ≠ b) := by simp [cmpLit, bne, Bool.beq_eq_decide_eq]
theorem c_lss (a b : Int) : cmpLit .lss a b = decide (a < b) := rfl
theorem c_leq (a b : Int) : cmpLit .leq a b = decide (a ≤ b) := rfl
theorem c_gtr (a b : Int) : cmpLit .gtr a b = decide (b < a) := rfl
theorem c_geq (a b : Int) : cmpLit .geq a b = decide (b ≤ a) := rfl
/-- A number of Go's int64. -/
def I64 (v : Int) : Prop := -9223372036854775808 ≤ v ∧ v < 9223372036854775808
def OkZ (z : Int) : Prop := z = 1 ∨ z = 2 ∨ z = 4 ∨ z = 8
instance (z : Int) : Decidable (OkZ z) := by unfold OkZ; infer_instance
def wT (z : Int) (b : Bool) (v : Int) : Int :=
  if z = 1 then (if b = true then (v + 128) % 256 - 128 else v % 256)
  else if z = 2 then (if b = true then (v + 32768) % 65536 - 32768 else v % 65536)
  else if z = 4 then (if b = true then (v + 2147483648) % 4294967296 - 2147483648 else v % 4294967296)
  else (v + 9223372036854775808) % 18446744073709551616 - 9223372036854775808
def md (z : Int) : Int := if z = 1 then 256 else if z = 2 then 65536 else if z = 4 then 4294967296 else 18446744073709551616
theorem wk_i64 (a : Int) : wrapK .i64 a = (a + 9223372036854775808) % 18446744073709551616 - 9223372036854775808 := by
  simp [wrapK, IntKind.wrap, IntKind.bits, IntKind.signed]; omega
theorem wk_i32 (a : Int) : wrapK .i32 a = (a + 2147483648) % 4294967296 - 2147483648 := by
  simp [wrapK, IntKind.wrap, IntKind.bits, IntKind.signed]; omega
theorem wk_i16 (a : Int) : wrapK .i16 a = (a + 32768) % 65536 - 32768 := by
  simp [wrapK, IntKind.wrap, IntKind.bits, IntKind.signed]; omega
theorem wk_i8 (a : Int) : wrapK .i8 a = (a + 128) % 256 - 128 := by
  simp [wrapK, IntKind.wrap, IntKind.bits, IntKind.signed]; omega
theorem wk_u64 (a : Int) : wrapK .u64 a = a % 18446744073709551616 := by simp [wrapK, IntKind.wrap, IntKind.bits, IntKind.signed]
theorem wk_u32 (a : Int) : wrapK .u32 a = a % 4294967296 := by simp [wrapK, IntKind.wrap, IntKind.bits, IntKind.signed]
theorem wk_u16 (a : Int) : wrapK .u16 a = a % 65536 := by simp [wrapK, IntKind.wrap, IntKind.bits, IntKind.signed]
theorem wk_u8 (a : Int) : wrapK .u8 a = a % 256 := by simp [wrapK, IntKind.wrap, IntKind.bits, IntKind.signed]
theorem wT_i64 {z : Int} (b : Bool) (v : Int) : I64 (wT z b v) := by
  unfold I64 wT; repeat' split
  all_goals omega
theorem wT_mod {z : Int} (h : OkZ z) (b : Bool) (v : Int) : wT z b v % md z = v % md z := by
  rcases h with rfl | rfl | rfl | rfl <;> cases b <;> simp [wT, md] <;> omega
theorem wT_congr {z : Int} (h : OkZ z) (b : Bool) {v v' : Int} (e : v % md z = v' % md z) : wT z b v = wT z b v' := by
  rcases h with rfl | rfl | rfl | rfl <;> cases b <;> simp [wT, md] at e ⊢ <;> omega
theorem md_dvd {z y : Int} (h : OkZ z) (k : OkZ y) (l : z ≤ y) : md z ∣ md y := by
  rcases h with rfl | rfl | rfl | rfl <;> rcases k with rfl | rfl | rfl | rfl <;> simp [md] at l ⊢ <;> decide
theorem mod_le {z y : Int} (h : OkZ z) (k : OkZ y) (l : z ≤ y) {a b : Int} (e : a % md y = b % md y) : a % md z = b % md z := by
  have := md_dvd h k l
  rw [← Int.emod_emod_of_dvd a this, e, Int.emod_emod_of_dvd b this]
theorem mod_64 {z : Int} (h : OkZ z) {a b : Int} (e : a % 18446744073709551616 = b % 18446744073709551616) : a % md z = b % md z :=
  mod_le (y := 8) h (.inr (.inr (.inr rfl))) (by rcases h with rfl | rfl | rfl | rfl <;> decide) e
theorem wk_in (x : Int) : I64 (wrapK .i64 x) := by rw [wk_i64]; unfold I64; omega
theorem wk_mod (x : Int) : wrapK .i64 x % 18446744073709551616 = x % 18446744073709551616 := by rw [wk_i64]; omega
theorem bv_nat (a : Int) : (BitVec.ofInt 64 a).toNat = (a % 18446744073709551616).toNat := by simp [BitVec.toNat_ofInt]
end Go.Proofs.YtjcabmhnekcbgaaDoor
end
section
namespace Go.Proofs.YtjcabmhnekcbgaaDoor
open Go.Ab Go.RowKit
theorem s52 (v : Int) : d77 v = some (wT 1 true v) := by simp only [d77, wk_i64, wk_i8, wT]; congr 1; simp; omega
theorem s53 (v : Int) : d78 v = some (wT 1 false v) := by simp only [d78, wk_i64, wk_u8, wT]; congr 1; simp; omega
theorem s54 (v : Int) : d79 v = some (wT 2 true v) := by simp only [d79, wk_i64, wk_i16, wT]; congr 1; simp; omega
theorem s55 (v : Int) : d80 v = some (wT 2 false v) := by simp only [d80, wk_i64, wk_u16, wT]; congr 1; simp; omega
theorem s56 (v : Int) : d81 v = some (wT 4 true v) := by simp only [d81, wk_i64, wk_i32, wT]; congr 1; simp; omega
theorem s57 (v : Int) : d82 v = some (wT 4 false v) := by simp only [d82, wk_i64, wk_u32, wT]; congr 1; simp; omega
theorem s58 (v : Int) (h : I64 v) : d83 v = some (wT 8 true v) := by unfold I64 at h; simp only [d83, wT]; congr 1; simp; omega
theorem s59 (v : Int) : d84 v = some (wT 8 false v) := by simp only [d84, wk_i64, wk_u64, wT]; congr 1; simp
theorem s10 (z : Int) (b : Bool) : d15 z b = some (if OkZ z then 0 else 10) := by
  simp only [d15, d50, Option.bind_some, c_eql, andB', beqB, OkZ]
  by_cases h1 : z = 1 <;> by_cases h2 : z = 2 <;> by_cases h4 : z = 4 <;> by_cases h8 : z = 8 <;> cases b <;> simp [h1, h2, h4, h8]
theorem s32 {z : Int} (b : Bool) {v : Int} (h : OkZ z) (hv : I64 v) : d33 z b v = some (wT z b v) := by
  simp only [d33, d50, Option.bind_some, c_eql, andB', beqB, s52, s53, s54, s55, s56, s57, s58 v hv, s59]
  rcases h with rfl | rfl | rfl | rfl <;> cases b <;> simp
theorem s28 (z : Int) (b : Bool) {v : Int} (hv : I64 v) : d23 z b v = some (if OkZ z then (wT z b v, 0) else (0, 10)) := by
  by_cases h : OkZ z
  · simp [d23, s10, h, s32 b h hv, c_neq]
  · simp [d23, s10, h, c_neq]
theorem s60 (x y : Int) : d57 [.i .i64 x, .i .i64 y] = some (if x ≠ 0 then x else y) := by
  have l : lenI [V.i .i64 x, V.i .i64 y] = 2 := rfl
  have e0 : gI [V.i .i64 x, V.i .i64 y] 0 0 = x := rfl
  have e1 : gI [V.i .i64 x, V.i .i64 y] 1 0 = y := rfl
  have a0 : arReal .add .i64 0 1 = 1 := by decide
  have a1 : arReal .add .i64 1 1 = 2 := by decide
  have i0 : Inb 0 2 := by decide
  have i1 : Inb 1 2 := by decide
  have r0 : d57_b1 [V.i .i64 x, V.i .i64 y] 0 = if x ≠ 0 then some (.inr (.inl x)) else some (.inl 1) := by
    simp only [d57_b1, l, c_lss, c_neq, e0, a0, if_pos i0, decide_eq_true_eq, ne_eq]; simp
  have r1 : d57_b1 [V.i .i64 x, V.i .i64 y] 1 = if y ≠ 0 then some (.inr (.inl y)) else some (.inl 2) := by
    simp only [d57_b1, l, c_lss, c_neq, e1, a1, if_pos i1, decide_eq_true_eq, ne_eq]; simp
  have r2 : d57_b1 [V.i .i64 x, V.i .i64 y] 2 = some (.inr (.inr ())) := by
    simp only [d57_b1, l, c_lss]; simp
  unfold d57
  by_cases hx : x = 0
  · rw [iter_inl (s' := 1) (by rw [r0]; simp [hx])]
    by_cases hy : y = 0
    · rw [iter_inl (s' := 2) (by rw [r1]; simp [hy]), iter_inr r2]; simp [hx, hy]
    · rw [iter_inr (r := .inl y) (by rw [r1]; simp [hy])]; simp [hx]
  · rw [iter_inr (r := .inl x) (by rw [r0]; simp [hx])]; simp [hx]
theorem s31 (z : Int) (b : Bool) (y : Int) (c : Bool) : d32 z b y c = some (if OkZ z ∧ OkZ y then 0 else 10) := by
  simp only [d32, s10, Option.bind_some, s60]
  by_cases h : OkZ z <;> by_cases k : OkZ y <;> simp [h, k]
/-- The promoted type. -/
def pz (z : Int) : Int := if z < 4 then 4 else z
def pb (z : Int) (b : Bool) : Bool := if z < 4 then true else b
theorem pz_ok {z : Int} (h : OkZ z) : OkZ (pz z) := by rcases h with rfl | rfl | rfl | rfl <;> decide
theorem pz_ge {z : Int} (h : OkZ z) : z ≤ pz z := by rcases h with rfl | rfl | rfl | rfl <;> decide
theorem pz_pz (z : Int) : pz (pz z) = pz z := by unfold pz; repeat' split <;> omega
theorem pb_pb (z : Int) (b : Bool) : pb (pz z) (pb z b) = pb z b := by
  unfold pz pb; by_cases h : z < 4 <;> simp [h]
theorem s30 (z : Int) (b : Bool) : d31 z b = some (pz z, pb z b) := by
  simp only [d31, d37, Option.bind_some, c_lss, decide_eq_true_eq, pz, pb]; split <;> rfl
theorem s13 (z : Int) (b : Bool) : d8 z b = some (if OkZ z then (pz z, pb z b, 0) else (0, false, 10)) := by
  by_cases h : OkZ z <;> simp [d8, s10, h, s30, c_neq]
/-- The common type. -/
def uz (z y : Int) : Int := if pz z < pz y then pz y else pz z
def ub (z : Int) (b : Bool) (y : Int) (c : Bool) : Bool := if pz z < pz y then pb y c else if pz y < pz z then pb z b else pb z b && pb y c
theorem uz_ok {z y : Int} (h : OkZ z) (k : OkZ y) : OkZ (uz z y) := by
  unfold uz; split
  · exact pz_ok k
  · exact pz_ok h
theorem s33 (z : Int) (b : Bool) (y : Int) (c : Bool) : d34 z b y c = some (uz z y, ub z b y c) := by
  simp only [d34, s30, Option.bind_some, c_neq, c_gtr, decide_eq_true_eq, mxI, uz, ub]
  rcases Int.lt_trichotomy (pz z) (pz y) with h | h | h
  · have h1 : ¬ pz y < pz z := by omega
    have h2 : pz z ≠ pz y := by omega
    simp [h, h1, h2]
  · have h1 : ¬ pz y < pz z := by omega
    have h2 : ¬ pz z < pz y := by omega
    simp [h]; cases pb z b <;> simp
  · have h1 : ¬ pz z < pz y := by omega
    have h2 : pz z ≠ pz y := by omega
    simp [h, h1, h2]; cases pb z b <;> simp
theorem s15 (z : Int) (b : Bool) (y : Int) (c : Bool) : d21 z b y c = some (if OkZ z ∧ OkZ y then (uz z y, ub z b y c, 0) else (0, false, 10)) := by
  simp only [d21, s31, Option.bind_some, s33, c_neq]
  by_cases h : OkZ z ∧ OkZ y <;> simp [h]
theorem s16 (z : Int) (b : Bool) (y : Int) (c : Bool) {v : Int} (hv : I64 v) : d25 z b y c v = some (if OkZ z ∧ OkZ y then (wT y c (wT z b v), 0) else (0, 10)) := by
  simp only [d25, s31, Option.bind_some, c_neq]
  by_cases h : OkZ z ∧ OkZ y
  · simp [h, s32 b h.1 hv, s32 c h.2 (wT_i64 b v)]
  · simp [h]
theorem s12 (z : Int) (b : Bool) {v : Int} (hv : I64 v) : d11 z b v = some (if OkZ z then wT z b v else 0) := by
  simp only [d11, s28 z b hv, Option.bind_some]; split <;> rfl
/-- The operations of a ring. -/
def fop (o a b : Int) : Int := if o = 1 then arReal .add .i64 a b else if o = 2 then arReal .sub .i64 a b else if o = 3 then arReal .mul .i64 a b else if o = 6 then arReal .and .i64 a b else if o = 7 then arReal .or .i64 a b else arReal .xor .i64 a b
def Rop (o : Int) : Prop := o = 1 ∨ o = 2 ∨ o = 3 ∨ o = 6 ∨ o = 7 ∨ o = 8
theorem fop_i64 (o a b : Int) : I64 (fop o a b) := by
  unfold fop; repeat' split
  all_goals exact wk_in _
theorem s14 {o : Int} (ho : Rop o) {z : Int} (b : Bool) {y : Int} (c : Bool) {v u : Int} (hz : OkZ z) (hy : OkZ y) (hv : I64 v) (hu : I64 u) :
    d9 o z b v y c u = some (uz z y, ub z b y c, wT (uz z y) (ub z b y c) (fop o (wT (uz z y) (ub z b y c) (wT z b v)) (wT (uz z y) (ub z b y c) (wT y c u))), 0) := by
  have hq := uz_ok hz hy
  have e1 := s32 b hz hv
  have e2 := s32 c hy hu
  have e3 := s32 (ub z b y c) hq (wT_i64 b (z := z) v)
  have e4 := s32 (ub z b y c) hq (wT_i64 c (z := y) u)
  have e5 := fun x y' => s32 (ub z b y c) hq (fop_i64 o x y')
  have e6 : d32 z b y c = some 0 := by rw [s31, if_pos ⟨hz, hy⟩]
  unfold d9
  simp only [e6, Option.bind_some, c_neq, e1, e2, s33, d35, c_eql, e3, e4]
  rcases ho with rfl | rfl | rfl | rfl | rfl | rfl <;> simp [fop, d58, d59, d60, d61, d62, d63] at e5 ⊢ <;> simp [e5]
theorem s14_no {o z : Int} (b : Bool) {y : Int} (c : Bool) {v u : Int} (h : ¬ (OkZ z ∧ OkZ y)) : d9 o z b v y c u = some (0, false, 0, 10) := by
  unfold d9
  simp [s31, h, c_neq]
theorem wT_id {z : Int} (h : OkZ z) (b : Bool) (v : Int) : wT z b (wT z b v) = wT z b v := wT_congr h b (wT_mod h b v)
theorem md_pow {z : Int} (h : OkZ z) : ∃ k, k ≤ 64 ∧ md z = ((2 ^ k : Nat) : Int) := by
  rcases h with rfl | rfl | rfl | rfl
  · exact ⟨8, by decide, rfl⟩
  · exact ⟨16, by decide, rfl⟩
  · exact ⟨32, by decide, rfl⟩
  · exact ⟨64, by decide, rfl⟩
theorem bv_mod {k : Nat} (hk : k ≤ 64) {a a' : Int} (e : a % ((2 ^ k : Nat) : Int) = a' % ((2 ^ k : Nat) : Int)) : (BitVec.ofInt 64 a).toNat % 2 ^ k = (BitVec.ofInt 64 a').toNat % 2 ^ k := by
  have hd : ((2 ^ k : Nat) : Int) ∣ 18446744073709551616 := by
    have h1 : (2 ^ k : Nat) ∣ 2 ^ 64 := Nat.pow_dvd_pow 2 hk
    have h2 : (2 ^ 64 : Nat) = 18446744073709551616 := by decide
    rw [h2] at h1
    exact Int.natCast_dvd_natCast.2 h1
  have key : ∀ x : Int, (((BitVec.ofInt 64 x).toNat % 2 ^ k : Nat) : Int) = x % ((2 ^ k : Nat) : Int) := by
    intro x
    rw [bv_nat, Int.natCast_emod, Int.toNat_of_nonneg (Int.emod_nonneg _ (by decide)), Int.emod_emod_of_dvd x hd]
  have := (key a).trans (e.trans (key a').symm)
  exact_mod_cast this
theorem f1 (a b : Int) : fop 1 a b = wrapK .i64 (a + b) := rfl
theorem f2 (a b : Int) : fop 2 a b = wrapK .i64 (a - b) := rfl
theorem f3 (a b : Int) : fop 3 a b = wrapK .i64 (a * b) := rfl
theorem f6 (a b : Int) : fop 6 a b = wrapK .i64 ((BitVec.ofInt 64 a &&& BitVec.ofInt 64 b).toNat : Nat) := rfl
theorem f7 (a b : Int) : fop 7 a b = wrapK .i64 ((BitVec.ofInt 64 a ||| BitVec.ofInt 64 b).toNat : Nat) := rfl
theorem f8 (a b : Int) : fop 8 a b = wrapK .i64 ((BitVec.ofInt 64 a ^^^ BitVec.ofInt 64 b).toNat : Nat) := rfl
/-- The operations, by their remainders. -/
theorem fop_congr {o : Int} (ho : Rop o) {z : Int} (h : OkZ z) {a a' b b' : Int} (e : a % md z = a' % md z) (f : b % md z = b' % md z) : fop o a b % md z = fop o a' b' % md z := by
  have w : ∀ x y : Int, x % md z = y % md z → wrapK .i64 x % md z = wrapK .i64 y % md z := fun x y e => by
    rw [mod_64 h (wk_mod x), mod_64 h (wk_mod y), e]
  obtain ⟨k, hk, hm⟩ := md_pow h
  have na := bv_mod hk (hm ▸ e)
  have nb := bv_mod hk (hm ▸ f)
  rcases ho with rfl | rfl | rfl | rfl | rfl | rfl
  · rw [f1, f1]; refine w _ _ ?_; rw [Int.add_emod, e, f, ← Int.add_emod]
  · rw [f2, f2]; refine w _ _ ?_; rw [Int.sub_emod, e, f, ← Int.sub_emod]
  · rw [f3, f3]; refine w _ _ ?_; rw [Int.mul_emod, e, f, ← Int.mul_emod]
  · rw [f6, f6]; refine w _ _ ?_; rw [hm, ← Int.natCast_emod, ← Int.natCast_emod, BitVec.toNat_and, BitVec.toNat_and, Nat.and_mod_two_pow, Nat.and_mod_two_pow, na, nb]
  · rw [f7, f7]; refine w _ _ ?_; rw [hm, ← Int.natCast_emod, ← Int.natCast_emod, BitVec.toNat_or, BitVec.toNat_or, Nat.or_mod_two_pow, Nat.or_mod_two_pow, na, nb]
  · rw [f8, f8]; refine w _ _ ?_; rw [hm, ← Int.natCast_emod, ← Int.natCast_emod, BitVec.toNat_xor, BitVec.toNat_xor, Nat.xor_mod_two_pow, Nat.xor_mod_two_pow, na, nb]
theorem bv_wk (n : Nat) (x : BitVec 64) (h : n = x.toNat) : BitVec.ofInt 64 (wrapK .i64 (n : Int)) = x := by
  apply BitVec.eq_of_toNat_eq
  rw [bv_nat, wk_mod, ← h]
  have := x.isLt
  omega
theorem fop_comm {o : Int} (ho : Rop o) (h2 : o ≠ 2) (a b : Int) : fop o a b = fop o b a := by
  rcases ho with rfl | rfl | rfl | rfl | rfl | rfl
  · rw [f1, f1, Int.add_comm]
  · exact absurd rfl h2
  · rw [f3, f3, Int.mul_comm]
  · rw [f6, f6, BitVec.and_comm]
  · rw [f7, f7, BitVec.or_comm]
  · rw [f8, f8, BitVec.xor_comm]
theorem fop_assoc {o : Int} (ho : Rop o) (h2 : o ≠ 2) (a b c : Int) : fop o (fop o a b) c % 18446744073709551616 = fop o a (fop o b c) % 18446744073709551616 := by
  rcases ho with rfl | rfl | rfl | rfl | rfl | rfl
  · simp only [f1, wk_mod]; have := wk_mod (a + b); have := wk_mod (b + c); omega
  · exact absurd rfl h2
  · simp only [f3, wk_mod]; rw [Int.mul_emod, wk_mod, ← Int.mul_emod, Int.mul_assoc, Int.mul_emod a (wrapK _ _), wk_mod, ← Int.mul_emod]
  · simp only [f6]; rw [bv_wk _ _ rfl, bv_wk _ _ rfl, BitVec.and_assoc]
  · simp only [f7]; rw [bv_wk _ _ rfl, bv_wk _ _ rfl, BitVec.or_assoc]
  · simp only [f8]; rw [bv_wk _ _ rfl, bv_wk _ _ rfl, BitVec.xor_assoc]
end Go.Proofs.YtjcabmhnekcbgaaDoor
end
section
namespace Go.Proofs.YtjcabmhnekcbgaaDoor
open Go.Ab Go.RowKit Go.Proofs.YtjcabmhnekcbgaaDoor.G
/-- A string's bytes, as_ numbers. -/
def nb (s : ByteArray) : List Int := s.data.toList.map fun b => (b.toNat : Int)
theorem nb_len (s : ByteArray) : (nb s).length = s.size := by unfold nb; rw [List.length_map]; rfl
theorem str_ext {s t : ByteArray} (h : s.data.toList = t.data.toList) : s = t := ByteArray.ext (Array.toList_inj.1 h)
theorem nb_inj {s t : ByteArray} (h : nb s = nb t) : s = t := by
  refine str_ext ((List.map_inj_right (fun a b e => ?_)).1 h)
  exact UInt8.toNat_inj.1 (by exact_mod_cast e)
theorem strOf_nb (s : ByteArray) : strOfNums (nb s) = s := by
  refine str_ext ?_
  simp [strOfNums, nb, Function.comp_def]
def Bs (l : List Int) : Prop := ∀ x ∈ l, 0 ≤ x ∧ x < 256
theorem nb_strOf {l : List Int} (h : Bs l) : nb (strOfNums l) = l := by
  simp only [nb, strOfNums, List.map_map]
  refine (List.map_congr_left fun x hx => ?_).trans (List.map_id l)
  have := h x hx
  simp only [Function.comp_def, id]
  rw [UInt8.toNat_ofNat']
  omega
theorem nb_bs (s : ByteArray) : Bs (nb s) := by
  intro x hx
  obtain ⟨b, _, rfl⟩ := List.mem_map.1 hx
  have := b.toNat_lt
  omega
theorem slen_nb (s : ByteArray) : slenI s = (nb s).length := by rw [nb_len]; rfl
theorem sbyte_nb (s : ByteArray) (i : Nat) (h : i < (nb s).length) : sbyteI s i = (nb s)[i] := by
  have hs : i < s.size := by rwa [nb_len] at h
  unfold sbyteI
  simp [hs, nb]
  rfl
theorem sub_nb (s : ByteArray) (a b : Int) : nb (subS s a b) = ((nb s).take b.toNat).drop a.toNat := by
  unfold nb subS
  rw [ByteArray.data_extract, Array.toList_extract, List.drop_take, ← List.map_drop, ← List.map_take]
theorem scmp_eql (s t : ByteArray) : strCmp .eql s t = decide (s = t) := by
  simp only [strCmp, ByteArray.toList_eq, Bool.beq_eq_decide_eq, decide_eq_decide]
  exact ⟨fun h => str_ext h, fun h => by rw [h]⟩
theorem scmp_neq (s t : ByteArray) : strCmp .neq s t = decide (s ≠ t) := by
  have := scmp_eql s t
  simp only [strCmp] at this ⊢
  rw [this]; simp
theorem cat_strOf (l m : List Int) : catS (strOfNums l) (strOfNums m) = strOfNums (l ++ m) := by
  refine str_ext ?_
  simp [catS, strOfNums, ByteArray.data_append]
theorem decN_bs : ∀ (k n : Nat), n ≤ k → Bs (decN n) := by
  intro k
  induction k with
  | zero => intro n h x hx; unfold decN at hx; rw [if_pos (by omega)] at hx; simp at hx; omega
  | succ k ih =>
    intro n h x hx
    unfold decN at hx
    split at hx
    · simp at hx; omega
    · rcases List.mem_append.1 hx with hx | hx
      · exact ih (n / 10) (by omega) x hx
      · simp at hx; omega
theorem dec_bs (u : Int) : Bs (dec u) := decN_bs _ _ (Nat.le_refl _)
/-- A number's text. -/
def textN (n : Int) : List Int := if n < 0 then 45 :: dec (-n) else dec n
def numT (z : Int) (b : Bool) (v : Int) : Int := if v < 0 ∧ z = 8 ∧ b = false then v + 18446744073709551616 else v
theorem textN_bs (n : Int) : Bs (textN n) := by
  unfold textN
  split
  · intro x hx
    rcases List.mem_cons.1 hx with rfl | hx
    · omega
    · exact dec_bs _ x hx
  · exact dec_bs _
theorem s44 (z : Int) (b : Bool) : d54 z b = some (decide (z = 8 ∧ b = false)) := by
  simp only [d54, c_eql, notB', decide_eq_true_eq]
  by_cases h : z = 8 <;> cases b <;> simp [h]
theorem s78 {u : Int} (h0 : 0 ≤ u) (h1 : u < 18446744073709551616) : d85 u = some (strOfNums (dec u)) := by unfold d85; rw [if_pos ⟨h0, h1⟩]
theorem un_neg64 (a : Int) : unReal .neg .u64 a = wrapK .u64 (0 - a) := rfl
theorem un_negi (a : Int) : unReal .neg .i64 a = wrapK .i64 (0 - a) := rfl
theorem s41 (z : Int) (b : Bool) {v : Int} (hv : I64 v) : d51 z b v = some (strOfNums (textN (numT z b v))) := by
  obtain ⟨l, u⟩ := hv
  have e1 : strOfNums [45] = ByteArray.mk #[45] := rfl
  unfold d51
  simp only [c_lss, s44, Option.bind_some, notB', un_neg64, wk_u64, decide_eq_true_eq, numT]
  by_cases h : v < 0
  · by_cases k : z = 8 ∧ b = false
    · rw [if_pos h, if_neg (by simp [k]), if_pos ⟨h, k⟩]
      have e : v % 18446744073709551616 = v + 18446744073709551616 := by omega
      rw [e, s78 (by omega) (by omega), textN, if_neg (by omega)]; rfl
    · rw [if_pos h, if_pos (by simp only [k]; rfl), if_neg (fun q => k q.2)]
      have e : (0 - v % 18446744073709551616) % 18446744073709551616 = -v := by omega
      rw [e, s78 (by omega) (by omega)]
      simp only [Option.bind_some]
      rw [if_pos, ← e1, cat_strOf, textN, if_pos h]
      · rfl
      · show _ ≤ _
        have := dec_len (-v) (by omega)
        have e2 : (strOfNums (dec (-v))).size = (dec (-v)).length := strOfNums_size _
        have e3 : (ByteArray.mk #[45]).size = 1 := rfl
        omega
  · rw [if_neg h, if_neg (fun q => h q.1)]
    have e : v % 18446744073709551616 = v := by omega
    rw [e, s78 (by omega) (by omega), textN, if_neg h]; rfl
/-- The value of a digit; 16: none. -/
def digV (c : Int) : Int := if 48 ≤ c ∧ c ≤ 57 then c - 48 else if 97 ≤ c ∧ c ≤ 102 then c - 87 else if 65 ≤ c ∧ c ≤ 70 then c - 55 else 16
theorem digV_rng (c : Int) : 0 ≤ digV c ∧ digV c ≤ 16 := by unfold digV; repeat' split <;> omega
def numF (base : Int) : List Int → Int → Option Int
  | [], n => some n
  | c :: r, n => if base ≤ digV c ∨ 18446744073709551616 ≤ n * base + digV c then none else numF base r (n * base + digV c)
theorem s80 {c : Int} (h0 : 0 ≤ c) (h1 : c < 256) : d87 c = some (digV c) := by
  have a1 : ∀ x y : Int, arReal .sub .u8 x y = wrapK .u8 (x - y) := fun _ _ => rfl
  have a2 : ∀ x y : Int, arReal .add .u64 x y = wrapK .u64 (x + y) := fun _ _ => rfl
  simp only [d87, c_geq, c_leq, a1, a2, wk_u8, wk_u64, digV]
  by_cases h48 : 48 ≤ c <;> by_cases h57 : c ≤ 57 <;> by_cases h97 : 97 ≤ c <;> by_cases h102 : c ≤ 102 <;> by_cases h65 : 65 ≤ c <;> by_cases h70 : c ≤ 70 <;> simp [h48, h57, h97, h102, h65, h70] <;> omega
theorem and_mask {a : Int} (h0 : 0 ≤ a) (h1 : a < 18446744073709551616) : arReal .and .u64 a 4294967295 = a % 4294967296 := by
  show wrapK .u64 ((BitVec.ofInt 64 a &&& BitVec.ofInt 64 4294967295).toNat : Nat) = _
  rw [wk_u64, BitVec.toNat_and, bv_nat, bv_nat]
  have e : ((4294967295 : Int) % 18446744073709551616).toNat = 2 ^ 32 - 1 := by decide
  rw [e, Nat.and_two_pow_sub_one_eq_mod]
  omega
theorem shr_32 {a : Int} : arReal .shr .u64 a 32 = a / 4294967296 := by
  show a.fdiv (2 ^ (min (32 : Int).toNat 64)) = _
  rw [Int.fdiv_eq_ediv_of_nonneg]
  · rfl
  · decide
theorem s81 {a b : Int} (h0 : 0 ≤ a) (h1 : a < 18446744073709551616) (hb : b = 10 ∨ b = 16) : d88 a b = some (a * b / 18446744073709551616, a * b % 18446744073709551616) := by
  have g : Ge0 32 := by decide
  have a2 : ∀ x y : Int, arReal .add .u64 x y = wrapK .u64 (x + y) := fun _ _ => rfl
  have a3 : ∀ x y : Int, arReal .mul .u64 x y = wrapK .u64 (x * y) := fun _ _ => rfl
  have e1 := and_mask h0 h1
  have e4 : arReal .shr .u64 a 32 = a / 4294967296 := shr_32
  have hx : 0 ≤ a / 4294967296 ∧ a / 4294967296 < 4294967296 := by omega
  have hy : 0 ≤ a % 4294967296 ∧ a % 4294967296 < 4294967296 := by omega
  have ha : a = 4294967296 * (a / 4294967296) + a % 4294967296 := by omega
  have e3 : arReal .shr .u64 b 32 = 0 := by rw [shr_32]; rcases hb with rfl | rfl <;> rfl
  have e2 : arReal .and .u64 b 4294967295 = b := by rcases hb with rfl | rfl <;> (rw [and_mask (by decide) (by decide)]; rfl)
  unfold d88
  simp only [if_pos g, e1, e2, e3, e4]
  generalize a / 4294967296 = x at *
  generalize a % 4294967296 = y at *
  subst ha
  simp only [shr_32, a2, a3, wk_u64, Int.mul_zero]
  rcases hb with rfl | rfl
  · have q1 : x * 10 % 18446744073709551616 = x * 10 := by omega
    have q2 : y * 10 % 18446744073709551616 = y * 10 := by omega
    have q3 : (x * 10 + y * 10 / 4294967296) % 18446744073709551616 = x * 10 + y * 10 / 4294967296 := by omega
    rw [q1, q2, q3, and_mask (by omega) (by omega)]
    have q5 : (4294967296 * x + y) * 10 / 18446744073709551616 = (x * 10 + y * 10 / 4294967296) / 4294967296 := by omega
    have q6 : x * 10 + y * 10 / 4294967296 < 18446744073709551616 := by omega
    have q7 : 0 ≤ x * 10 + y * 10 / 4294967296 := by omega
    rw [q5]
    generalize x * 10 + y * 10 / 4294967296 = t at *
    congr 1; apply Prod.ext <;> simp only [] <;> omega
  · have q1 : x * 16 % 18446744073709551616 = x * 16 := by omega
    have q2 : y * 16 % 18446744073709551616 = y * 16 := by omega
    have q3 : (x * 16 + y * 16 / 4294967296) % 18446744073709551616 = x * 16 + y * 16 / 4294967296 := by omega
    rw [q1, q2, q3, and_mask (by omega) (by omega)]
    have q5 : (4294967296 * x + y) * 16 / 18446744073709551616 = (x * 16 + y * 16 / 4294967296) / 4294967296 := by omega
    have q6 : x * 16 + y * 16 / 4294967296 < 18446744073709551616 := by omega
    have q7 : 0 ≤ x * 16 + y * 16 / 4294967296 := by omega
    rw [q5]
    generalize x * 16 + y * 16 / 4294967296 = t at *
    congr 1; apply Prod.ext <;> simp only [] <;> omega
theorem s43_b (s : ByteArray) (hs : s.size ≤ 9223372036854775807) (b : Int) (hb : b = 10 ∨ b = 16) : iter (d53_b1 s b) (0, 0) = some (match numF b (nb s) 0 with | some n => .inr n | none => .inl (0, false)) := by
  refine iter_fun (fun p : Int × Int => 0 ≤ p.1 ∧ p.1 < 18446744073709551616 ∧ 0 ≤ p.2 ∧ p.2 ≤ (nb s).length) (fun p => (((nb s).length : Int) - p.2).toNat) (fun p => (match numF b ((nb s).drop p.2.toNat) p.1 with | some n => .inr n | none => .inl (0, false) : (Int × Bool) ⊕ Int)) (fun p hp => ?_) (0, 0) ⟨by decide, by decide, by decide, by simp⟩
  obtain ⟨n, i⟩ := p
  obtain ⟨h0, h1, h2, h3⟩ := hp
  simp only at h0 h1 h2 h3 ⊢
  obtain ⟨j, rfl⟩ := Int.eq_ofNat_of_zero_le h2
  have hl : (nb s).length = s.size := nb_len s
  unfold d53_b1
  simp only [c_lss, slen_nb, decide_eq_true_eq, Int.toNat_natCast]
  by_cases hlt : j < (nb s).length
  · have hi : Inb (j : Int) ((nb s).length : Int) := ⟨by omega, by omega⟩
    rw [if_pos (by omega), if_pos hi, sbyte_nb s j hlt]
    have hc := nb_bs s (nb s)[j] (List.getElem_mem hlt)
    have hd := digV_rng (nb s)[j]
    have hdr : (nb s).drop j = (nb s)[j] :: (nb s).drop (j + 1) := (List.drop_eq_getElem_cons hlt)
    rw [hdr]
    generalize (nb s)[j] = c at hc hd ⊢
    rw [s80 hc.1 hc.2, Option.bind_some, s81 h0 h1 hb, Option.bind_some]
    have hm : 0 ≤ n * b % 18446744073709551616 := Int.emod_nonneg _ (by decide)
    simp only [d89]
    rw [if_pos ⟨hm, hd.1, by omega, by omega⟩]
    simp only [Option.bind_some, c_geq, c_neq, decide_eq_true_eq, numF]
    by_cases hq : b ≤ digV c
    · have hR : ∀ X : Option Int, (if b ≤ digV c ∨ 18446744073709551616 ≤ n * b + digV c then none else X) = none := fun X => if_pos (.inl hq)
      rw [if_pos hq, hR]; exact .inr rfl
    · rw [if_neg hq]
      by_cases hk : 18446744073709551616 ≤ n * b + digV c
      · have hR : ∀ X : Option Int, (if b ≤ digV c ∨ 18446744073709551616 ≤ n * b + digV c then none else X) = none := fun X => if_pos (.inr hk)
        rw [hR]
        refine .inr ?_
        by_cases hh : n * b / 18446744073709551616 = 0
        · rw [if_neg (by simp [hh]), if_pos]
          omega
        · rw [if_pos hh]
      · have hR : ∀ X : Option Int, (if b ≤ digV c ∨ 18446744073709551616 ≤ n * b + digV c then none else X) = X := fun X => if_neg (by omega)
        rw [hR]
        have hnb : 0 ≤ n * b := Int.mul_nonneg h0 (by omega)
        have hh : n * b / 18446744073709551616 = 0 := by omega
        have hh2 : n * b % 18446744073709551616 = n * b := by omega
        rw [if_neg (by simp [hh]), hh2, if_neg (by simp; omega)]
        have ea : arReal .add .i64 (j : Int) 1 = ((j + 1 : Nat) : Int) := by
          show wrapK .i64 _ = _
          rw [wk_i64]; omega
        refine .inl ⟨_, rfl, ⟨by simp only []; omega, by simp only []; omega, by simp only []; omega, by simp only []; omega⟩, by simp only []; omega, ?_⟩
        simp only [ea, Int.toNat_natCast]
        have : (n * b + digV c + 0) % 18446744073709551616 = n * b + digV c := by omega
        rw [this]
  · rw [if_neg (by omega)]
    have : (nb s).drop j = [] := List.drop_eq_nil_of_le (by omega)
    rw [this]
    exact .inr rfl
theorem s43 (s : ByteArray) (hs : s.size ≤ 9223372036854775807) (b : Int) (hb : b = 10 ∨ b = 16) : d53 s b = some (match numF b (nb s) 0 with | some n => (n, decide (nb s ≠ [])) | none => (0, false)) := by
  unfold d53
  rw [s43_b s hs b hb]
  cases numF b (nb s) 0 with
  | none => rfl
  | some n =>
    simp only [Option.bind_some, scmp_neq]
    congr 2
    simp only [decide_eq_decide, ne_eq]
    exact not_congr ⟨fun h => by rw [h]; rfl, fun h => nb_inj h⟩
def sgn (l : List Int) : Bool := decide (l.take 1 = [45])
def absL (l : List Int) : List Int := if sgn l = true then l.drop 1 else l
theorem s84 (s : ByteArray) {p : List Int} (hp : Bs p) : d91 s (strOfNums p) = some (decide ((nb s).take p.length = p)) := by
  have e : slenI (strOfNums p) = p.length := by rw [slen_nb, nb_strOf hp]
  unfold d91
  simp only [c_geq, e, slen_nb, decide_eq_true_eq]
  by_cases h : p.length ≤ (nb s).length
  · rw [if_pos (by omega), if_pos ⟨by omega, by omega, by omega⟩, scmp_eql]
    congr 1
    rw [decide_eq_decide]
    constructor
    · intro q
      have := congrArg nb q
      rw [sub_nb, nb_strOf hp] at this
      simpa using this
    · intro q
      apply nb_inj
      rw [sub_nb, nb_strOf hp]
      simpa using q
  · rw [if_neg (by omega)]
    congr 1
    symm
    rw [decide_eq_false_iff_not]
    intro q
    have := congrArg List.length q
    simp at this
    omega
theorem s79 (s : ByteArray) {p : List Int} (hp : Bs p) : d86 s (strOfNums p) = some (if (nb s).take p.length = p then (strOfNums ((nb s).drop p.length), true) else (s, false)) := by
  have e : slenI (strOfNums p) = p.length := by rw [slen_nb, nb_strOf hp]
  unfold d86
  rw [s84 s hp]
  simp only [Option.bind_some, notB', e, slen_nb]
  by_cases h : (nb s).take p.length = p
  · have hl : p.length ≤ (nb s).length := by have := congrArg List.length h; simp at this; omega
    rw [if_neg (by simp [h]), if_pos ⟨by omega, by omega, by omega⟩, if_pos h]
    congr 2
    apply nb_inj
    rw [sub_nb, nb_strOf (fun x hx => nb_bs s x (List.mem_of_mem_drop hx))]
    simp
  · rw [if_pos (by simp [h]), if_neg h]
theorem s83 (s : ByteArray) {p : List Int} (hp : Bs p) : d90 s (strOfNums p) = some (if (nb s).take p.length = p then strOfNums ((nb s).drop p.length) else s) := by
  have e : slenI (strOfNums p) = p.length := by rw [slen_nb, nb_strOf hp]
  unfold d90
  rw [s84 s hp]
  simp only [Option.bind_some, e, slen_nb]
  by_cases h : (nb s).take p.length = p
  · have hl : p.length ≤ (nb s).length := by have := congrArg List.length h; simp at this; omega
    rw [if_pos (by simp [h]), if_pos ⟨by omega, by omega, by omega⟩, if_pos h]
    congr 1
    apply nb_inj
    rw [sub_nb, nb_strOf (fun x hx => nb_bs s x (List.mem_of_mem_drop hx))]
    simp
  · rw [if_neg (by simp [h]), if_neg h]
end Go.Proofs.YtjcabmhnekcbgaaDoor
end
section
namespace Go.Proofs.YtjcabmhnekcbgaaDoor
open Go.Ab Go.RowKit Go.Proofs.YtjcabmhnekcbgaaDoor.G
def uns (z : Int) (b : Bool) : Prop := z = 8 ∧ b = false
instance (z : Int) (b : Bool) : Decidable (uns z b) := by unfold uns; infer_instance
/-- The value that a decimal string comes to. -/
def valD (l : List Int) : Option Int := match numF 10 (absL l) 0 with
  | none => none
  | some n => if absL l = [] then none else some (if sgn l = true then wrapK .i64 (0 - wrapK .i64 n) else wrapK .i64 n)
def valX (z : Int) (b : Bool) (l : List Int) : Option Int := match numF 16 l 0 with
  | none => none
  | some n => if l = [] ∨ 16 < l.length ∨ wT z b (wrapK .i64 n) ≠ wrapK .i64 n ∨ (wrapK .i64 n < 0 ∧ ¬ uns z b) then none else some (wrapK .i64 n)
def parseV (z : Int) (b : Bool) (l : List Int) : Option Int :=
  if l.take 2 = [48, 120] then valX z b (l.drop 2)
  else match valD l with
    | none => none
    | some v => if textN (numT z b (wT z b v)) = l then some v else none
def errV (o : Option Int) : Int × Int := match o with | some v => (v, 0) | none => (0, 13)
theorem s18_x (z : Int) (b : Bool) (s : ByteArray) (h : OkZ z) (hs : s.size ≤ 9223372036854775807) (hx : (nb s).take 2 = [48, 120]) : d30 z b s = some (errV (valX z b ((nb s).drop 2))) := by
  have hp : Bs [48, 120] := by intro x hx; simp at hx; omega
  have e2 : ByteArray.mk #[48, 120] = strOfNums [48, 120] := rfl
  have hb2 : Bs ((nb s).drop 2) := fun x hx => nb_bs s x (List.mem_of_mem_drop hx)
  have e3 : nb (strOfNums ((nb s).drop 2)) = (nb s).drop 2 := nb_strOf hb2
  have hsz : (strOfNums ((nb s).drop 2)).size ≤ 9223372036854775807 := by
    rw [strOfNums_size, List.length_drop, nb_len]; omega
  have e79 : d86 s (strOfNums [48, 120]) = some (strOfNums ((nb s).drop 2), true) := by
    rw [s79 s hp]; exact congrArg some (if_pos hx)
  unfold d30 d52
  rw [e2, e79, s10, if_pos h]
  simp only [Option.bind_some, c_neq]
  rw [s43 _ hsz 16 (.inr rfl), e3]
  unfold valX errV
  generalize (nb s).drop 2 = L at *
  cases hn : numF 16 L 0 with
  | none => simp [notB']
  | some n =>
    have hi := wk_in n
    simp only [Option.bind_some, c_gtr, slen_nb, e3, s32 b h hi, s44, c_neq, c_lss, notB', decide_eq_true_eq]
    generalize wrapK .i64 n = v at *
    by_cases k1 : L = []
    · simp [k1]
    · by_cases k2 : (16 : Int) < (L.length : Int)
      · have : 16 < L.length := by omega
        rw [if_pos k2]
        simp [k1, this]
      · have k2' : ¬ 16 < L.length := by omega
        rw [if_neg k2]
        by_cases k3 : wT z b v = v
        · by_cases k4 : v < 0
          · by_cases k5 : uns z b
            · have k5' : z = 8 ∧ b = false := k5
              obtain ⟨rfl, rfl⟩ := k5'
              simp [k1, k2', k3, k4, k5]
            · have k5' : ¬ (z = 8 ∧ b = false) := k5
              simp [k1, k2', k3, k4, k5, k5']
          · simp [k1, k2', k3, k4]
        · simp [k1, k2', k3]
theorem s18_d (z : Int) (b : Bool) (s : ByteArray) (h : OkZ z) (hs : s.size ≤ 9223372036854775807) (hx : ¬ (nb s).take 2 = [48, 120]) : d30 z b s = some (errV (match valD (nb s) with
    | none => none
    | some v => if textN (numT z b (wT z b v)) = nb s then some v else none)) := by
  have hp : Bs [48, 120] := by intro x hx; simp at hx; omega
  have hq : Bs [45] := by intro x hx; simp at hx; omega
  have e2 : ByteArray.mk #[48, 120] = strOfNums [48, 120] := rfl
  have e1 : ByteArray.mk #[45] = strOfNums [45] := rfl
  have hb2 : Bs ((nb s).drop 1) := fun x hx => nb_bs s x (List.mem_of_mem_drop hx)
  have ha : nb (if (nb s).take 1 = [45] then strOfNums ((nb s).drop 1) else s) = absL (nb s) := by
    unfold absL sgn
    by_cases k : (nb s).take 1 = [45]
    · simp only [k, if_true, decide_true]; exact nb_strOf hb2
    · simp [k]
  have hsz : (if (nb s).take 1 = [45] then strOfNums ((nb s).drop 1) else s).size ≤ 9223372036854775807 := by
    split
    · rw [strOfNums_size, List.length_drop, nb_len]; omega
    · exact hs
  have e79 : d86 s (strOfNums [48, 120]) = some (s, false) := by
    rw [s79 s hp]; exact congrArg some (if_neg hx)
  have e83 : d90 s (strOfNums [45]) = some (if (nb s).take 1 = [45] then strOfNums ((nb s).drop 1) else s) := s83 s hq
  have e84 : d91 s (strOfNums [45]) = some (decide ((nb s).take 1 = [45])) := s84 s hq
  unfold d30 d52 d55 d56
  rw [e2, e1, e79, s10, if_pos h, e83, e84]
  simp only [Option.bind_some, c_neq]
  rw [s43 _ hsz 10 (.inl rfl), ha]
  unfold valD errV
  cases hn : numF 10 (absL (nb s)) 0 with
  | none => by_cases k : (nb s).take 1 = [45] <;> simp [notB', k]
  | some n =>
    have hi := wk_in n
    by_cases k1 : absL (nb s) = []
    · by_cases k : (nb s).take 1 = [45] <;> simp [notB', k, k1]
    · have hq2 : ∀ v : Int, I64 v → ((d33 z b v).bind fun x37 => (d51 z b x37).bind fun x38 => if strCmp .neq x38 s = true then some ((0 : Int), (13 : Int)) else some (v, 0)) = some (match (if textN (numT z b (wT z b v)) = nb s then some v else none : Option Int) with | some v => (v, 0) | none => (0, 13)) := by
        intro v hv
        rw [s32 b h hv, Option.bind_some, s41 z b (wT_i64 b v), Option.bind_some, scmp_neq]
        have : strOfNums (textN (numT z b (wT z b v))) = s ↔ textN (numT z b (wT z b v)) = nb s :=
          ⟨fun e => by rw [← e, nb_strOf (textN_bs _)], fun e => by rw [e, strOf_nb]⟩
        by_cases k : textN (numT z b (wT z b v)) = nb s
        · have k2 := this.2 k
          rw [if_pos k, if_neg (by rw [k2]; simp)]
        · have k2 : strOfNums (textN (numT z b (wT z b v))) ≠ s := fun e => k (this.1 e)
          rw [if_neg k, if_pos (decide_eq_true k2)]
      have hk1 : decide (absL (nb s) ≠ []) = true := by simp [k1]
      simp only [Option.bind_some, hk1, notB', un_negi, sgn, decide_eq_true_eq, if_neg k1]
      by_cases k : (nb s).take 1 = [45]
      · simp only [k, if_true, decide_true, Option.bind_some]
        exact hq2 _ (wk_in _)
      · simp only [k, if_false, decide_false, Option.bind_some]
        exact hq2 _ (wk_in _)
theorem s18 (z : Int) (b : Bool) (s : ByteArray) (h : OkZ z) (hs : s.size ≤ 9223372036854775807) : d30 z b s = some (errV (parseV z b (nb s))) := by
  unfold parseV
  by_cases hx : (nb s).take 2 = [48, 120]
  · rw [s18_x z b s h hs hx, if_pos hx]
  · rw [s18_d z b s h hs hx, if_neg hx]
end Go.Proofs.YtjcabmhnekcbgaaDoor
end
section
namespace Go.Proofs.YtjcabmhnekcbgaaDoor
open Go.Ab Go.RowKit Go.Proofs.YtjcabmhnekcbgaaDoor.G
def cmpV (a b : Int) : Int := if a < b then -1 else if b < a then 1 else 0
theorem s76 (a b : Int) : d73 a b = some (cmpV a b) := by
  simp only [d73, d93, Option.bind_some, c_neq, c_lss, c_gtr, decide_eq_true_eq, ne_eq, not_true_eq_false, if_false, cmpV]
  split
  · rfl
  · split <;> rfl
theorem s77 (a b : Int) : d74 a b = some (cmpV a b) := by
  simp only [d74, d94, Option.bind_some, c_neq, c_lss, c_gtr, decide_eq_true_eq, ne_eq, not_true_eq_false, if_false, cmpV]
  split
  · rfl
  · split <;> rfl
theorem numT8 (v : Int) : numT 8 false v = if v < 0 then v + 18446744073709551616 else v := by simp [numT]
theorem num_u64 {v : Int} (hv : I64 v) : wrapK .u64 v = numT 8 false v := by
  unfold I64 at hv; rw [wk_u64, numT8]; split <;> omega
theorem numT_s {z : Int} {b : Bool} (h : ¬ (z = 8 ∧ b = false)) (v : Int) : numT z b v = v := by unfold numT; rw [if_neg (fun q => h q.2)]
theorem s38 (z : Int) (b : Bool) {v u : Int} (hv : I64 v) (hu : I64 u) : d39 z b v u = some (cmpV (numT z b v) (numT z b u)) := by
  unfold d39
  rw [s44, Option.bind_some]
  by_cases h : z = 8 ∧ b = false
  · rw [if_pos (by simp only [h]; rfl), s76, num_u64 hv, num_u64 hu, h.1, h.2]; rfl
  · rw [if_neg (by simp only [h]; decide), s77, numT_s h, numT_s h]; rfl
def relH (o k : Int) : Bool := if o = 11 then decide (k < 0) else if o = 12 then decide (k ≤ 0) else if o = 13 then decide (0 < k) else if o = 14 then decide (0 ≤ k) else if o = 15 then decide (k = 0) else decide (k ≠ 0)
def Rel (o : Int) : Prop := o = 11 ∨ o = 12 ∨ o = 13 ∨ o = 14 ∨ o = 15 ∨ o = 16
def b01 (c : Bool) : Int := if c = true then 1 else 0
theorem s37 (c : Bool) : d38 c = some (b01 c) := by unfold d38 b01; split <;> rfl
theorem s14r {o : Int} (ho : Rel o) {z : Int} (b : Bool) {y : Int} (c : Bool) {v u : Int} (hz : OkZ z) (hy : OkZ y) (hv : I64 v) (hu : I64 u) :
    d9 o z b v y c u = some (4, true, b01 (relH o (cmpV (numT (uz z y) (ub z b y c) (wT (uz z y) (ub z b y c) (wT z b v))) (numT (uz z y) (ub z b y c) (wT (uz z y) (ub z b y c) (wT y c u))))), 0) := by
  have hq := uz_ok hz hy
  have e1 := s32 b hz hv
  have e2 := s32 c hy hu
  have e3 := s32 (ub z b y c) hq (wT_i64 b (z := z) v)
  have e4 := s32 (ub z b y c) hq (wT_i64 c (z := y) u)
  have e5 := s38 (uz z y) (ub z b y c) (wT_i64 (ub z b y c) (z := uz z y) (wT z b v)) (wT_i64 (ub z b y c) (z := uz z y) (wT y c u))
  have e6 : d32 z b y c = some 0 := by rw [s31, if_pos ⟨hz, hy⟩]
  unfold d9
  simp only [e6, Option.bind_some, c_neq, e1, e2, s33, d35, d36, d37, c_eql, e3, e4, e5, s37, d67, d68, d69, d70, d71, d72, c_lss, c_leq, c_gtr, c_geq]
  rcases ho with rfl | rfl | rfl | rfl | rfl | rfl <;> simp [relH]
/-- Quotient and remainder of two values of a type. -/
def divQ (z : Int) (b : Bool) (x w : Int) : Int := if z = 8 ∧ b = false then wrapK .i64 (numT z b x / numT z b w) else if w = -1 then wrapK .i64 (0 - x) else wrapK .i64 (x.tdiv w)
def divR (z : Int) (b : Bool) (x w : Int) : Int := if z = 8 ∧ b = false then wrapK .i64 (numT z b x % numT z b w) else if w = -1 then 0 else x.tmod w
theorem num_nn {v : Int} (hv : I64 v) : 0 ≤ numT 8 false v ∧ numT 8 false v < 18446744073709551616 := by
  unfold I64 at hv; rw [numT8]; split <;> omega
theorem num_ne {v : Int} (hv : I64 v) (h : v ≠ 0) : numT 8 false v ≠ 0 := by
  unfold I64 at hv; rw [numT8]; split <;> omega
theorem s68 (z : Int) (b : Bool) {x w : Int} (hx : I64 x) (hw : I64 w) (h0 : w ≠ 0) : d65 z b x w = some (divQ z b x w, divR z b x w) := by
  unfold d65 divQ divR
  rw [s44, Option.bind_some]
  by_cases h : z = 8 ∧ b = false
  · obtain ⟨rfl, rfl⟩ := h
    have hn := num_ne hw h0
    have hp := num_nn hw
    have hq := num_nn hx
    have e : d92 0 (numT 8 false x) (numT 8 false w) = some (numT 8 false x / numT 8 false w, numT 8 false x % numT 8 false w) := by
      generalize numT 8 false x = p at *
      generalize numT 8 false w = q at *
      unfold d92
      have a1 : arReal .quo .u64 p q = p / q := by
        show wrapK .u64 (p.tdiv q) = _
        rw [wk_u64, Int.tdiv_eq_ediv_of_nonneg hq.1]
        have h1 : 0 ≤ p / q := Int.ediv_nonneg hq.1 hp.1
        have h2 : p / q ≤ p := Int.ediv_le_self q hq.1
        omega
      have a2 : arReal .rem .u64 p q = p % q := Int.tmod_eq_emod_of_nonneg hq.1
      have hle : ¬ q ≤ 0 := by omega
      have hN : Ne0 q := hn
      simp only [c_eql, c_leq, decide_eq_true_eq]
      rw [if_neg hn, if_neg hle, if_pos trivial, if_pos hN, if_pos hN, a1, a2]
    rw [if_pos (by decide), num_u64 hx, num_u64 hw, e]
    rfl
  · rw [if_neg (by simp only [h]; decide), if_neg h, if_neg h]
    simp only [c_eql, decide_eq_true_eq]
    by_cases h1 : w = -1
    · rw [if_pos h1, if_pos h1, if_pos h1]; rfl
    · have hN : Ne0 w := h0
      rw [if_neg h1, if_neg h1, if_neg h1, if_pos hN, if_pos hN]; rfl
theorem divQ_i64 (z : Int) (b : Bool) (x w : Int) : I64 (divQ z b x w) := by unfold divQ; repeat' split
                                                                             all_goals exact wk_in _
theorem divR_i64 (z : Int) (b : Bool) {x w : Int} (hx : I64 x) (hw : I64 w) (h0 : w ≠ 0) : I64 (divR z b x w) := by
  unfold divR
  split
  · exact wk_in _
  · split
    · unfold I64; omega
    · unfold I64 at *
      have h1 : (x.tmod w).natAbs ≤ x.natAbs := by rw [Int.natAbs_tmod]; exact Nat.mod_le _ _
      rcases Int.lt_or_le x 0 with h | h
      · have : x.tmod w ≤ 0 := by
          have := Int.tmod_nonneg w (a := -x) (by omega)
          rw [Int.neg_tmod] at this; omega
        omega
      · have := Int.tmod_nonneg w h
        omega
theorem s14d {o : Int} (ho : o = 4 ∨ o = 5) {z : Int} (b : Bool) {y : Int} (c : Bool) {v u : Int} (hz : OkZ z) (hy : OkZ y) (hv : I64 v) (hu : I64 u) :
    d9 o z b v y c u = some (if wT (uz z y) (ub z b y c) (wT y c u) = 0 then (0, false, 0, 12) else
      (uz z y, ub z b y c, wT (uz z y) (ub z b y c) ((if o = 4 then divQ else divR) (uz z y) (ub z b y c) (wT (uz z y) (ub z b y c) (wT z b v)) (wT (uz z y) (ub z b y c) (wT y c u))), 0)) := by
  have hq := uz_ok hz hy
  have e1 := s32 b hz hv
  have e2 := s32 c hy hu
  have e3 := s32 (ub z b y c) hq (wT_i64 b (z := z) v)
  have e4 := s32 (ub z b y c) hq (wT_i64 c (z := y) u)
  have e6 : d32 z b y c = some 0 := by rw [s31, if_pos ⟨hz, hy⟩]
  have hx := wT_i64 (ub z b y c) (z := uz z y) (wT z b v)
  have hw := wT_i64 (ub z b y c) (z := uz z y) (wT y c u)
  unfold d9
  simp only [e6, Option.bind_some, c_neq, e1, e2, s33, d35, c_eql, e3, e4]
  generalize wT (uz z y) (ub z b y c) (wT z b v) = X at *
  generalize wT (uz z y) (ub z b y c) (wT y c u) = W at *
  by_cases h0 : W = 0
  · rcases ho with rfl | rfl <;> simp [h0]
  · have e7 := s68 (uz z y) (ub z b y c) hx hw h0
    rcases ho with rfl | rfl
    · have e8 := s32 (ub z b y c) hq (divQ_i64 (uz z y) (ub z b y c) X W)
      simp [h0, d64, e7, e8]
    · have e8 := s32 (ub z b y c) hq (divR_i64 (uz z y) (ub z b y c) hx hw h0)
      simp [h0, d66, e7, e8]
end Go.Proofs.YtjcabmhnekcbgaaDoor
end
section
namespace Go.Proofs.YtjcabmhnekcbgaaDoor
open Go.Ab Go.RowKit Go.Proofs.YtjcabmhnekcbgaaDoor.G
/-- The text of a value. -/
def txt (z : Int) (b : Bool) (v : Int) : List Int := textN (numT z b (wT z b v))
theorem s17 {z : Int} (b : Bool) {v : Int} (h : OkZ z) (hv : I64 v) : d29 z b v = some (strOfNums (txt z b v), 0) := by
  unfold d29
  rw [s10, if_pos h]
  simp only [Option.bind_some, c_neq, s32 b h hv]
  rw [s41 z b (wT_i64 b v)]
  rfl
theorem s19 {z : Int} (b : Bool) {v u : Int} (h : OkZ z) (hv : I64 v) (hu : I64 u) : d16 z b v u = some (cmpV (numT z b (wT z b v)) (numT z b (wT z b u)), 0) := by
  unfold d16
  rw [s10, if_pos h]
  simp only [Option.bind_some, c_neq, s32 b h hv, s32 b h hu]
  rw [s38 z b (wT_i64 b v) (wT_i64 b u)]
  rfl
theorem i_lit {v : Int} (h : decide (-9223372036854775808 ≤ v ∧ v < 9223372036854775808) = true) : I64 v := by
  have := of_decide_eq_true h
  exact this
theorem z1 : OkZ 1 := .inl rfl
theorem z4 : OkZ 4 := .inr (.inr (.inl rfl))
theorem z8 : OkZ 8 := .inr (.inr (.inr rfl))
theorem h6 : d23 1 true 200 = some (-56, 0) := by rw [s28 1 true (i_lit rfl), if_pos z1]; rfl
theorem h8 : d21 4 false 8 true = some (8, true, 0) := by rw [s15, if_pos ⟨z4, z8⟩]; rfl
theorem h9 : d9 11 4 true (-1) 4 false 1 = some (4, true, 0, 0) := by rw [s14r (.inl rfl) true false z4 z4 (i_lit rfl) (i_lit rfl)]; rfl
theorem h10 : d9 1 1 false 255 1 false 1 = some (4, true, 256, 0) := by rw [s14 (.inl rfl) false false z1 z1 (i_lit rfl) (i_lit rfl)]; rfl
theorem h11 : d9 4 4 true (-7) 4 true 2 = some (4, true, -3, 0) := by rw [s14d (.inl rfl) true true z4 z4 (i_lit rfl) (i_lit rfl)]; rfl
theorem h12 : d9 10 4 true (-5) 4 true 1 = some (4, true, -3, 0) := by
  have e1 : d33 4 true (-5) = some (-5) := s32 true z4 (i_lit rfl)
  have e2 : d33 4 true 1 = some 1 := s32 true z4 (i_lit rfl)
  have e3 : d32 4 true 4 true = some 0 := by rw [s31, if_pos ⟨z4, z4⟩]
  have e4 : d31 4 true = some (4, true) := s30 4 true
  have e5 : d54 4 true = some false := s44 4 true
  have e6 : arReal .rem .u64 (wrapK .u64 1) (wrapK .u64 (arReal .mul .i64 8 4)) = 1 := by decide
  have e7 : arReal .shr .i64 (-5) 1 = -3 := by decide
  have e8 : Ne0 (wrapK .u64 (arReal .mul .i64 8 4)) := by decide
  have e9 : Ge0 1 := by decide
  unfold d9
  simp only [e1, e2, e3, e4, s33, d35, d36, Option.bind_some, c_neq, c_eql, d40, d41, e5, e6, e7, if_pos e8, if_pos e9]
  decide
theorem decN_step {n q r : Nat} (h : n = 10 * q + r) (hr : r < 10) (hq : 0 < q) : decN n = decN q ++ [48 + (r : Int)] := by
  have e1 : n / 10 = q := by omega
  have e2 : n % 10 = r := by omega
  rw [decN, if_neg (by omega), e1, e2]
theorem decN_1 : decN 1 = [49] := by rw [decN, if_pos (by decide)]; rfl
theorem decN_2 : decN 18 = [49, 56] := by
  rw [decN_step (n := 18) (q := 1) (r := 8) (by decide) (by decide) (by decide), decN_1]; rfl
theorem decN_3 : decN 184 = [49, 56, 52] := by
  rw [decN_step (n := 184) (q := 18) (r := 4) (by decide) (by decide) (by decide), decN_2]; rfl
theorem decN_4 : decN 1844 = [49, 56, 52, 52] := by
  rw [decN_step (n := 1844) (q := 184) (r := 4) (by decide) (by decide) (by decide), decN_3]; rfl
theorem decN_5 : decN 18446 = [49, 56, 52, 52, 54] := by
  rw [decN_step (n := 18446) (q := 1844) (r := 6) (by decide) (by decide) (by decide), decN_4]; rfl
theorem decN_6 : decN 184467 = [49, 56, 52, 52, 54, 55] := by
  rw [decN_step (n := 184467) (q := 18446) (r := 7) (by decide) (by decide) (by decide), decN_5]; rfl
theorem decN_7 : decN 1844674 = [49, 56, 52, 52, 54, 55, 52] := by
  rw [decN_step (n := 1844674) (q := 184467) (r := 4) (by decide) (by decide) (by decide), decN_6]; rfl
theorem decN_8 : decN 18446744 = [49, 56, 52, 52, 54, 55, 52, 52] := by
  rw [decN_step (n := 18446744) (q := 1844674) (r := 4) (by decide) (by decide) (by decide), decN_7]; rfl
theorem decN_9 : decN 184467440 = [49, 56, 52, 52, 54, 55, 52, 52, 48] := by
  rw [decN_step (n := 184467440) (q := 18446744) (r := 0) (by decide) (by decide) (by decide), decN_8]; rfl
theorem decN_10 : decN 1844674407 = [49, 56, 52, 52, 54, 55, 52, 52, 48, 55] := by
  rw [decN_step (n := 1844674407) (q := 184467440) (r := 7) (by decide) (by decide) (by decide), decN_9]; rfl
theorem decN_11 : decN 18446744073 = [49, 56, 52, 52, 54, 55, 52, 52, 48, 55, 51] := by
  rw [decN_step (n := 18446744073) (q := 1844674407) (r := 3) (by decide) (by decide) (by decide), decN_10]; rfl
theorem decN_12 : decN 184467440737 = [49, 56, 52, 52, 54, 55, 52, 52, 48, 55, 51, 55] := by
  rw [decN_step (n := 184467440737) (q := 18446744073) (r := 7) (by decide) (by decide) (by decide), decN_11]; rfl
theorem decN_13 : decN 1844674407370 = [49, 56, 52, 52, 54, 55, 52, 52, 48, 55, 51, 55, 48] := by
  rw [decN_step (n := 1844674407370) (q := 184467440737) (r := 0) (by decide) (by decide) (by decide), decN_12]; rfl
theorem decN_14 : decN 18446744073709 = [49, 56, 52, 52, 54, 55, 52, 52, 48, 55, 51, 55, 48, 57] := by
  rw [decN_step (n := 18446744073709) (q := 1844674407370) (r := 9) (by decide) (by decide) (by decide), decN_13]; rfl
theorem decN_15 : decN 184467440737095 = [49, 56, 52, 52, 54, 55, 52, 52, 48, 55, 51, 55, 48, 57, 53] := by
  rw [decN_step (n := 184467440737095) (q := 18446744073709) (r := 5) (by decide) (by decide) (by decide), decN_14]; rfl
theorem decN_16 : decN 1844674407370955 = [49, 56, 52, 52, 54, 55, 52, 52, 48, 55, 51, 55, 48, 57, 53, 53] := by
  rw [decN_step (n := 1844674407370955) (q := 184467440737095) (r := 5) (by decide) (by decide) (by decide), decN_15]; rfl
theorem decN_17 : decN 18446744073709551 = [49, 56, 52, 52, 54, 55, 52, 52, 48, 55, 51, 55, 48, 57, 53, 53, 49] := by
  rw [decN_step (n := 18446744073709551) (q := 1844674407370955) (r := 1) (by decide) (by decide) (by decide), decN_16]; rfl
theorem decN_18 : decN 184467440737095516 = [49, 56, 52, 52, 54, 55, 52, 52, 48, 55, 51, 55, 48, 57, 53, 53, 49, 54] := by
  rw [decN_step (n := 184467440737095516) (q := 18446744073709551) (r := 6) (by decide) (by decide) (by decide), decN_17]; rfl
theorem decN_19 : decN 1844674407370955161 = [49, 56, 52, 52, 54, 55, 52, 52, 48, 55, 51, 55, 48, 57, 53, 53, 49, 54, 49] := by
  rw [decN_step (n := 1844674407370955161) (q := 184467440737095516) (r := 1) (by decide) (by decide) (by decide), decN_18]; rfl
theorem decN_20 : decN 18446744073709551615 = [49, 56, 52, 52, 54, 55, 52, 52, 48, 55, 51, 55, 48, 57, 53, 53, 49, 54, 49, 53] := by
  rw [decN_step (n := 18446744073709551615) (q := 1844674407370955161) (r := 5) (by decide) (by decide) (by decide), decN_19]; rfl
theorem dec_max : dec 18446744073709551615 = [49, 56, 52, 52, 54, 55, 52, 52, 48, 55, 51, 55, 48, 57, 53, 53, 49, 54, 49, 53] := decN_20
theorem h13 : d29 8 false (-1) = some (ByteArray.mk #[49, 56, 52, 52, 54, 55, 52, 52, 48, 55, 51, 55, 48, 57, 53, 53, 49, 54, 49, 53], 0) := by
  rw [s17 false z8 (i_lit rfl)]
  have e1 : numT 8 false (wT 8 false (-1)) = 18446744073709551615 := by decide
  have e : txt 8 false (-1) = dec 18446744073709551615 := by unfold txt; rw [e1]; unfold textN; rw [if_neg (by decide)]
  rw [e, dec_max]; rfl
theorem h14 : d30 8 false (ByteArray.mk #[48, 120, 102, 102, 102, 102, 102, 102, 102, 102, 102, 102, 102, 102, 102, 102, 102, 102]) = some (-1, 0) := by
  rw [s18 8 false _ z8 (by decide)]
  rfl
theorem h15 : d30 1 true (ByteArray.mk #[49, 50, 56]) = some (0, 13) := by
  rw [s18 1 true _ z1 (by decide)]
  have e1 : nb (ByteArray.mk #[49, 50, 56]) = [49, 50, 56] := rfl
  have e2 : valD [49, 50, 56] = some 128 := rfl
  have e3 : numT 1 true (wT 1 true 128) = -128 := rfl
  have e4 : textN (-128) ≠ [49, 50, 56] := by unfold textN; rw [if_pos (by decide)]; simp
  rw [e1, parseV, if_neg (by decide), e2]
  simp only [e3, if_neg e4]
  rfl
theorem s9 : d7 = some true := by
  unfold d7
  simp only [d28, Option.bind_some, h6, h8, h9, h10, h11, h12, h13, h14, h15, c_neq, c_eql, scmp_eql, andB', beqB]
  decide
end Go.Proofs.YtjcabmhnekcbgaaDoor
end
section
namespace Go.Proofs.YtjcabmhnekcbgaaDoor
open Go.Ab Go.RowKit
theorem pz_48 {z : Int} (h : OkZ z) : pz z = 4 ∨ pz z = 8 := by rcases h with rfl | rfl | rfl | rfl <;> decide
theorem pz_id {z : Int} (h : 4 ≤ z) : pz z = z := by unfold pz; rw [if_neg (by omega)]
theorem pb_id {z : Int} (h : 4 ≤ z) (b : Bool) : pb z b = b := by unfold pb; rw [if_neg (by omega)]
theorem us_self (z : Int) (b : Bool) : uz z z = pz z ∧ ub z b z b = pb z b := by
  unfold uz ub; simp
end Go.Proofs.YtjcabmhnekcbgaaDoor
end
section
namespace Go.Proofs.YtjcabmhnekcbgaaDoor
open Go.Ab Go.RowKit
/-- The value of an operation on two operands of one type. -/
def opv (o z : Int) (b : Bool) (v u : Int) : Int := wT (pz z) (pb z b) (fop o (wT (pz z) (pb z b) (wT z b v)) (wT (pz z) (pb z b) (wT z b u)))
/-- A value of an operation, by its remainder. -/
theorem opv_mod {o : Int} (ho : Rop o) {z t : Int} (b : Bool) (v u : Int) (hz : OkZ z) (ht : OkZ t) (hl : t ≤ z) : opv o z b v u % md t = fop o v u % md t := by
  have hp := pz_ok hz
  have h1 := pz_ge hz
  have e : ∀ x, wT (pz z) (pb z b) (wT z b x) % md t = x % md t := fun x => by
    rw [mod_le ht hp (by omega) (wT_mod hp _ _), mod_le ht hz hl (wT_mod hz _ _)]
  unfold opv
  rw [mod_le ht hp (by omega) (wT_mod hp _ _)]
  exact fop_congr ho ht (e v) (e u)
theorem k1 {o : Int} (ho : Rop o) {z t : Int} (b c : Bool) (v u : Int) (hz : OkZ z) (ht : OkZ t) (hl : t ≤ z) : wT t c (opv o z b v u) = wT t c (opv o t c (wT t c v) (wT t c u)) := by
  refine wT_congr ht c ?_
  rw [opv_mod ho b v u hz ht hl, opv_mod ho c _ _ ht ht (Int.le_refl _)]
  exact fop_congr ho ht (wT_mod ht c v).symm (wT_mod ht c u).symm
theorem k2 {o : Int} (ho : Rop o) (h2 : o ≠ 2) (z : Int) (b : Bool) (v u : Int) : opv o z b v u = opv o z b u v := by
  unfold opv; rw [fop_comm ho h2]
theorem k3 {o : Int} (ho : Rop o) (h2 : o ≠ 2) {z : Int} (b : Bool) (v u x : Int) (hz : OkZ z) (h4 : 4 ≤ z) : opv o z b (opv o z b v u) x = opv o z b v (opv o z b u x) := by
  have e1 := pz_id h4
  have e : ∀ y, wT z b (wT z b y) % md z = y % md z := fun y => by rw [wT_mod hz, wT_mod hz]
  have key : fop o (opv o z b v u) x % md z = fop o v (opv o z b u x) % md z := by
    rw [fop_congr ho hz (opv_mod ho b v u hz hz (Int.le_refl _)) (rfl : x % md z = x % md z), mod_64 hz (fop_assoc ho h2 v u x)]
    exact fop_congr ho hz rfl (opv_mod ho b u x hz hz (Int.le_refl _)).symm
  rw [show opv o z b (opv o z b v u) x = wT (pz z) (pb z b) (fop o (wT (pz z) (pb z b) (wT z b (opv o z b v u))) (wT (pz z) (pb z b) (wT z b x))) from rfl,
    show opv o z b v (opv o z b u x) = wT (pz z) (pb z b) (fop o (wT (pz z) (pb z b) (wT z b v)) (wT (pz z) (pb z b) (wT z b (opv o z b u x)))) from rfl, e1, pb_id h4]
  refine wT_congr hz b ?_
  rw [fop_congr ho hz (e _) (e _), fop_congr ho hz (e v) (e (opv o z b u x)), key]
end Go.Proofs.YtjcabmhnekcbgaaDoor
end
section
namespace Go.Proofs.YtjcabmhnekcbgaaDoor
open Go.Ab Go.RowKit Go.Proofs.YtjcabmhnekcbgaaDoor.G
theorem i64_wf' {n : Int} (h : (Lit.int .i64 n).wf = true) : I64 n := by
  simp [Lit.wf, IntKind.min, IntKind.max, IntKind.bits, IntKind.signed] at h
  unfold I64
  omega
end Go.Proofs.YtjcabmhnekcbgaaDoor
end
section
namespace Go.Proofs.YtjcabmhnekcbgaaDoor
open Go.Ab Go.RowKit Go.Proofs.YtjcabmhnekcbgaaDoor.G
theorem s47 (z : Int) (b : Bool) : d27 z b = some (if OkZ z then 0 else 10) := by
  simp only [d27, c_neq, OkZ]
  by_cases h1 : z = 1 <;> by_cases h2 : z = 2 <;> by_cases h4 : z = 4 <;> by_cases h8 : z = 8 <;> simp [h1, h2, h4, h8]
theorem s49 {z : Int} (b : Bool) {v : Int} (h : OkZ z) (hv : I64 v) : d42 z b v = some (wT z b v) := by
  unfold I64 at hv
  simp only [d42, c_eql, wk_i64, wk_i8, wk_u8, wk_i16, wk_u16, wk_i32, wk_u32, wT]
  rcases h with rfl | rfl | rfl | rfl <;> cases b <;> simp <;> omega
theorem s48 {z : Int} (b : Bool) (v u : Int) (h : OkZ z) : d48 z b (wT z b v) (wT z b u) = some (cmpV (numT z b (wT z b v)) (numT z b (wT z b u))) := by
  have e : ∀ x y : Int, (if cmpLit .lss x y = true then some (-1) else if cmpLit .gtr x y = true then some 1 else some (0 : Int)) = some (cmpV x y) := by
    intro x y
    simp only [c_lss, c_gtr, decide_eq_true_eq, cmpV]
    split
    · rfl
    · split <;> rfl
  have hx := wT_i64 (z := z) b v
  have hy := wT_i64 (z := z) b u
  have hu : b = false → z ≠ 8 → 0 ≤ wT z b v ∧ 0 ≤ wT z b u := by
    intro h1 h2
    subst h1
    rcases h with rfl | rfl | rfl | rfl
    · simp [wT]; omega
    · simp [wT]; omega
    · simp [wT]; omega
    · exact absurd rfl h2
  generalize wT z b v = x at *
  generalize wT z b u = y at *
  unfold d48
  cases b with
  | true =>
    simp only [notB', Bool.not_true, Bool.false_eq_true, if_false, Option.bind_some]
    rw [e, numT_s (by simp), numT_s (by simp)]
  | false =>
    simp only [notB', Bool.not_false, if_true, beqB, c_lss]
    by_cases h8 : z = 8
    · subst h8
      rw [numT8, numT8]
      unfold I64 at hx hy
      by_cases a1 : x < 0 <;> by_cases a2 : y < 0 <;> simp [a1, a2, e, cmpV, c_lss, c_gtr]
      · split
        · rfl
        · split <;> rfl
      · have q1 : y < x + 18446744073709551616 := by omega
        have q2 : ¬ x + 18446744073709551616 < y := by omega
        have q3 : ¬ y < x := by omega
        have q4 : x < y := by omega
        simp [q1, q2, q3, q4]
      · have q1 : x < y + 18446744073709551616 := by omega
        have q3 : y < x := by omega
        simp [q1, q3]
      · split
        · rfl
        · split <;> rfl
    · obtain ⟨k1, k2⟩ := hu rfl h8
      have n1 : ¬ x < 0 := by omega
      have n2 : ¬ y < 0 := by omega
      rw [numT_s (by simp [h8]), numT_s (by simp [h8])]
      simp [n1, n2, c_gtr, cmpV]
      split
      · rfl
      · split <;> rfl
end Go.Proofs.YtjcabmhnekcbgaaDoor
end
section
namespace Go.Proofs.YtjcabmhnekcbgaaDoor
open Go.Ab Go.RowKit Go.Proofs.YtjcabmhnekcbgaaDoor.G
theorem wT_nn {z : Int} (h : OkZ z) (h8 : z ≠ 8) (v : Int) : 0 ≤ wT z false v := by
  rcases h with rfl | rfl | rfl | rfl
  · simp [wT]; omega
  · simp [wT]; omega
  · simp [wT]; omega
  · exact absurd rfl h8
end Go.Proofs.YtjcabmhnekcbgaaDoor
end
section
namespace Go.Proofs.YtjcabmhnekcbgaaDoor
open Go.Ab Go.RowKit

theorem bd {α β : Type} {x : Option α} {a : α} {f : α → Option β} {r : Option β} (h : x = some a) (h2 : f a = r) : x.bind f = r := by
  rw [h]; exact h2
theorem dT {p : Prop} {i : Decidable p} (h : p) : @decide p i = true := decide_eq_true h
theorem dF {p : Prop} {i : Decidable p} (h : ¬ p) : @decide p i = false := decide_eq_false h
theorem dC {p q : Prop} {i : Decidable p} {j : Decidable q} (h : p ↔ q) : @decide p i = @decide q j := decide_eq_decide.2 h
theorem notB_t {c : Bool} : (notB' c = true) = (c = false) := by cases c <;> simp [notB']
theorem ar_add (a b : Int) : arReal .add .i64 a b = wrapK .i64 (a + b) := rfl
theorem ar_sub (a b : Int) : arReal .sub .i64 a b = wrapK .i64 (a - b) := rfl
theorem ar_mul (a b : Int) : arReal .mul .i64 a b = wrapK .i64 (a * b) := rfl
theorem wk_n {x : Int} (h : -9223372036854775808 ≤ x) (h2 : x < 9223372036854775808) : wrapK .i64 x = x := by rw [wk_i64]; omega
theorem wT_wk {z : Int} (h : OkZ z) (b : Bool) (x : Int) : wT z b (wrapK .i64 x) = wT z b x := wT_congr h b (mod_64 h (wk_mod x))
theorem div_pow (a : Int) (n : Nat) : a / 2 ^ n / 2 = a / 2 ^ (n + 1) := by
  rw [Int.pow_succ]
  exact Int.ediv_ediv_of_nonneg (Int.pow_nonneg (by decide))
theorem shr_i {a n : Int} (h0 : 0 ≤ n) (h1 : n < 64) : arReal .shr .i64 a n = a / 2 ^ n.toNat := by
  show a.fdiv (2 ^ (min n.toNat 64)) = _
  rw [Nat.min_eq_left (by omega)]
  exact Int.fdiv_eq_ediv_of_nonneg _ (Int.pow_nonneg (by decide))
theorem shr_u {a n : Int} (h0 : 0 ≤ n) (h1 : n < 64) : arReal .shr .u64 a n = a / 2 ^ n.toNat := by
  show a.fdiv (2 ^ (min n.toNat 64)) = _
  rw [Nat.min_eq_left (by omega)]
  exact Int.fdiv_eq_ediv_of_nonneg _ (Int.pow_nonneg (by decide))
theorem shl_i {a n : Int} (h0 : 0 ≤ n) (h1 : n < 64) : arReal .shl .i64 a n = wrapK .i64 (a * 2 ^ n.toNat) := by
  show wrapK .i64 (a * 2 ^ (min n.toNat 64)) = _
  rw [Nat.min_eq_left (by omega)]
/-- A shift by a count below the width. -/
def shV (o p : Int) (q : Bool) (a n : Int) : Int := if o = 9 then wT p q (a * 2 ^ n.toNat) else if p = 8 ∧ q = false then wrapK .i64 (numT 8 false a / 2 ^ n.toNat) else a / 2 ^ n.toNat
theorem u40 (o : Int) {p : Int} (q : Bool) {a n : Int} (hp : OkZ p) (ha : I64 a) (h0 : 0 ≤ n) (h1 : n < 64) : d40 o p q a n = some (shV o p q a n) := by
  unfold d40 shV
  rw [c_eql]
  by_cases ho : o = 9
  · rw [if_pos (dT ho), if_pos (show Ge0 n from h0), if_pos ho, shl_i h0 h1, s32 q hp (wk_in _), wT_wk hp]
    rfl
  · rw [if_neg (by rw [dF ho]; decide), if_neg ho, s44]
    simp only [Option.bind_some, decide_eq_true_eq]
    by_cases hu : p = 8 ∧ q = false
    · rw [if_pos hu, if_pos (show Ge0 n from h0), if_pos hu, shr_u h0 h1, num_u64 ha]
    · rw [if_neg hu, if_pos (show Ge0 n from h0), if_neg hu, shr_i h0 h1]
/-- A value of a type is one of the promoted type. -/
theorem wT_prom {z : Int} (h : OkZ z) (b : Bool) (v : Int) : wT (pz z) (pb z b) (wT z b v) = wT z b v := by
  rcases h with rfl | rfl | rfl | rfl
  · cases b <;> simp [pz, pb, wT] <;> omega
  · cases b <;> simp [pz, pb, wT] <;> omega
  · rw [pz_id (by decide), pb_id (by decide)]
    exact wT_id z4 b v
  · rw [pz_id (by decide), pb_id (by decide)]
    exact wT_id z8 b v
theorem rem_u {m : Int} (hm : m = 32 ∨ m = 64) (x : Int) : arReal .rem .u64 (wrapK .u64 x) (wrapK .u64 m) = x % m := by
  show (wrapK .u64 x).tmod (wrapK .u64 m) = _
  rw [wk_u64, wk_u64]
  rcases hm with rfl | rfl
  · rw [Int.tmod_eq_emod_of_nonneg (Int.emod_nonneg _ (by decide)), show (32 : Int) % 18446744073709551616 = 32 by decide]; omega
  · rw [Int.tmod_eq_emod_of_nonneg (Int.emod_nonneg _ (by decide)), show (64 : Int) % 18446744073709551616 = 64 by decide]; omega
theorem wid {z : Int} (h : OkZ z) : arReal .mul .i64 8 (pz z) = 8 * pz z ∧ (8 * pz z = 32 ∨ 8 * pz z = 64) := by
  rcases pz_48 h with h | h <;> rw [h] <;> exact ⟨by decide, by decide⟩
/-- Shifts, of the program. -/
theorem u9s {o : Int} (ho : o = 9 ∨ o = 10) {z : Int} (b : Bool) {y : Int} (c : Bool) {v u : Int} (hz : OkZ z) (hy : OkZ y) (hv : I64 v) (hu : I64 u) :
    d9 o z b v y c u = some (pz z, pb z b, shV o (pz z) (pb z b) (wT z b v) (wT y c u % (8 * pz z)), 0) := by
  have e1 := s32 b hz hv
  have e2 := s32 c hy hu
  have e6 : d32 z b y c = some 0 := by rw [s31, if_pos ⟨hz, hy⟩]
  obtain ⟨w1, w2⟩ := wid hz
  have e7 := rem_u w2 (wT y c u)
  have e8 : Ne0 (wrapK .u64 (8 * pz z)) := by
    unfold Ne0
    rw [wk_u64]; omega
  have e9 := u40 o (pb z b) (pz_ok hz) (wT_i64 (z := z) b v) (show 0 ≤ wT y c u % (8 * pz z) by rcases w2 with h | h <;> rw [h] <;> omega) (show wT y c u % (8 * pz z) < 64 by rcases w2 with h | h <;> rw [h] <;> omega)
  have e10 : d41 (pz z) (pb z b) = some (8 * pz z) := by unfold d41; rw [w1]
  unfold d9
  rcases ho with rfl | rfl <;> simp [e6, e1, e2, s33, d35, d36, c_eql, c_neq, s30, e10, e8, e7, e9]
/-- No operator. -/
theorem u9x {o : Int} (ho : o < 1 ∨ 16 < o) {z : Int} (b : Bool) {y : Int} (c : Bool) {v u : Int} (hz : OkZ z) (hy : OkZ y) (hv : I64 v) (hu : I64 u) :
    d9 o z b v y c u = some (0, false, 0, 11) := by
  have e1 := s32 b hz hv
  have e2 := s32 c hy hu
  have e6 : d32 z b y c = some 0 := by rw [s31, if_pos ⟨hz, hy⟩]
  have n : ∀ k : Int, 1 ≤ k → k ≤ 16 → ¬ o = k := fun k h1 h2 => by omega
  unfold d9
  simp [e6, e1, e2, s33, d35, d36, c_eql, c_neq, n]
theorem xor_not {x : Int} (h : I64 x) : unReal .xor .i64 x = -x - 1 := by
  show wrapK .i64 ((BitVec.ofInt 64 (-1) ^^^ BitVec.ofInt 64 x).toNat : Int) = _
  have e : BitVec.ofInt 64 (-1) = BitVec.allOnes 64 := by decide
  rw [e, BitVec.allOnes_xor, BitVec.toNat_not, bv_nat]
  unfold I64 at h
  rw [wk_i64]
  omega
theorem neg_i (x : Int) : unReal .neg .i64 x = wrapK .i64 (-x) := by
  show wrapK .i64 (0 - x) = _
  rw [Int.zero_sub]
/-- Unary operations. -/
def unV (o z : Int) (b : Bool) (v : Int) : Int × Bool × Int × Int := if ¬ OkZ z then (0, false, 0, 10) else if o = 1 then (pz z, pb z b, wT (pz z) (pb z b) (-wT z b v), 0) else if o = 2 then (pz z, pb z b, wT (pz z) (pb z b) (-wT z b v - 1), 0) else if o = 3 then (4, true, b01 (decide (wT z b v = 0)), 0) else (0, false, 0, 11)
theorem u12 (o z : Int) (b : Bool) {v : Int} (hv : I64 v) : d12 o z b v = some (unV o z b v) := by
  unfold d12 unV
  rw [s10]
  by_cases h : OkZ z
  · have e1 := s32 b h hv
    have e2 := s32 (pb z b) (pz_ok h) (wk_in (-wT z b v))
    have hx := wT_i64 (z := z) b v
    have e3 : d33 (pz z) (pb z b) (-wT z b v - 1) = some (wT (pz z) (pb z b) (-wT z b v - 1)) := s32 (pb z b) (pz_ok h) (by unfold I64 at *; omega)
    rw [if_pos h, if_neg (fun hh => hh h)]
    simp only [Option.bind_some, c_neq, c_eql, e1, s30, neg_i, e2, xor_not hx, e3, s37, d37, wT_wk (pz_ok h)]
    rw [if_neg (by decide)]
    by_cases o1 : o = 1
    · simp [o1]
    · by_cases o2 : o = 2
      · simp [o2]
      · by_cases o3 : o = 3 <;> simp [o1, o2, o3]
  · rw [if_neg h, if_pos h]
    simp [c_neq]
/-- The range of a type. -/
def loV (z : Int) (b : Bool) : Int := if b = true then -(2 ^ (8 * z - 1).toNat) else 0
def hiV (z : Int) (b : Bool) : Int := if b = true then 2 ^ (8 * z - 1).toNat - 1 else wT z false (-1)
theorem u18 (z : Int) (b : Bool) : d18 z b = some (if OkZ z then (loV z b, hiV z b, 0) else (0, 0, 10)) := by
  unfold d18
  rw [s10]
  by_cases h : OkZ z
  · rw [if_pos h, if_pos h]
    simp only [Option.bind_some, c_neq]
    rw [if_neg (by decide)]
    cases b with
    | false =>
      rw [if_pos (by decide), s32 false h (by unfold I64; omega)]
      rfl
    | true =>
      rw [if_neg (by decide)]
      rcases h with rfl | rfl | rfl | rfl <;> simp [d41] <;> decide
  · rw [if_neg h, if_neg h]
    simp [c_neq]
end Go.Proofs.YtjcabmhnekcbgaaDoor
end
section
namespace Go.Proofs.YtjcabmhnekcbgaaDoor
open Go.Ab Go.RowKit

theorem r43 (z : Int) (b : Bool) : d43 z b = some (pz z, pb z b) := by
  unfold d43 d10 pz pb
  rw [c_lss]
  by_cases h : z < 4
  · rw [if_pos (dT h), if_pos h, if_pos h]; rfl
  · rw [if_neg (by rw [dF h]; decide), if_neg h, if_neg h]
theorem r45 (z : Int) (b : Bool) (y : Int) (c : Bool) : d45 z b y c = some (if OkZ z ∧ OkZ y then 0 else 10) := by
  unfold d45
  rw [s47, s47]
  by_cases h : OkZ z <;> by_cases k : OkZ y <;> simp [h, k, c_neq]
theorem r20 (z : Int) (b : Bool) : d20 z b = d8 z b := by
  rw [s13]
  unfold d20
  rw [s47, r43]
  by_cases h : OkZ z <;> simp [h, c_neq]
theorem r24 (z : Int) (b : Bool) {v : Int} (hv : I64 v) : d24 z b v = d23 z b v := by
  rw [s28 z b hv]
  unfold d24
  rw [s47]
  by_cases h : OkZ z
  · simp [h, c_neq, s49 b h hv]
  · simp [h, c_neq]
theorem r26 (z : Int) (b : Bool) (y : Int) (c : Bool) {v : Int} (hv : I64 v) : d26 z b y c v = d25 z b y c v := by
  rw [s16 z b y c hv]
  unfold d26
  rw [r45]
  by_cases h : OkZ z ∧ OkZ y
  · simp [h, c_neq, s49 b h.1 hv, s49 c h.2 (wT_i64 (z := z) b v)]
  · simp [h, c_neq]
theorem prom_cases {z : Int} (h : OkZ z) (b : Bool) : (pz z = 4 ∧ pb z b = true) ∨ (pz z = 4 ∧ pb z b = false) ∨ (pz z = 8 ∧ pb z b = true) ∨ (pz z = 8 ∧ pb z b = false) := by
  rcases pz_48 h with h | h <;> rw [h] <;> cases pb z b <;> simp
def rkV (p : Int) (q : Bool) : Int := if p = 4 then (if q = true then 0 else 1) else (if q = true then 2 else 3)
theorem r75 {p : Int} (hp : p = 4 ∨ p = 8) (q : Bool) : d75 p q = some (rkV p q) := by
  have key : ∀ r : Int, iter (d75_b1 p q) 0 = some (.inl r) → rkV p q = r → d75 p q = some (rkV p q) := by
    intro r h1 h2
    unfold d75
    rw [h1, h2]
    rfl
  rcases hp with rfl | rfl
  · cases q
    · exact key 1 (by rw [iter_inl (s' := 1) (by kernel_rfl), iter_inr (by kernel_rfl)]) rfl
    · exact key 0 (by rw [iter_inr (by kernel_rfl)]) rfl
  · cases q
    · exact key 3 (by rw [iter_inl (s' := 1) (by kernel_rfl), iter_inl (s' := 2) (by kernel_rfl), iter_inl (s' := 3) (by kernel_rfl), iter_inr (by kernel_rfl)]) rfl
    · exact key 2 (by rw [iter_inl (s' := 1) (by kernel_rfl), iter_inl (s' := 2) (by kernel_rfl), iter_inr (by kernel_rfl)]) rfl
theorem r47 {z : Int} (b : Bool) {y : Int} (c : Bool) (hz : OkZ z) (hy : OkZ y) : d47 z b y c = some (uz z y, ub z b y c) := by
  unfold d47
  rw [r43, r43]
  simp only [Option.bind_some]
  rw [r75 (pz_48 hz), r75 (pz_48 hy)]
  simp only [Option.bind_some]
  unfold uz ub
  rcases prom_cases hz b with ⟨h1, h2⟩ | ⟨h1, h2⟩ | ⟨h1, h2⟩ | ⟨h1, h2⟩ <;> rcases prom_cases hy c with ⟨h3, h4⟩ | ⟨h3, h4⟩ | ⟨h3, h4⟩ | ⟨h3, h4⟩ <;> rw [h1, h2, h3, h4] <;> kernel_rfl
theorem r22 (z : Int) (b : Bool) (y : Int) (c : Bool) : d22 z b y c = d21 z b y c := by
  rw [s15]
  unfold d22
  rw [r45]
  by_cases h : OkZ z ∧ OkZ y
  · simp [h, c_neq, r47 b c h.1 h.2]
  · simp [h, c_neq]
theorem pow_le63 {i : Nat} (h : i ≤ 63) : (2 : Int) ^ i ≤ 9223372036854775808 := by
  have h1 : (2 : Nat) ^ i ≤ 2 ^ 63 := Nat.pow_le_pow_right (by decide) h
  have h2 : (2 : Nat) ^ 63 = 9223372036854775808 := by decide
  rw [h2] at h1
  have h3 : ((2 ^ i : Nat) : Int) = (2 : Int) ^ i := by push_cast; rfl
  omega
theorem pow_pos2 (i : Nat) : (1 : Int) ≤ 2 ^ i := by
  have h1 : (1 : Nat) ≤ 2 ^ i := Nat.one_le_two_pow
  have h3 : ((2 ^ i : Nat) : Int) = (2 : Int) ^ i := by push_cast; rfl
  omega
theorem r19 (z : Int) (b : Bool) : d19 z b = d18 z b := by
  rw [u18]
  unfold d19
  rw [s47]
  by_cases h : OkZ z
  · rw [if_pos h, if_pos h]
    simp only [Option.bind_some, c_neq]
    rw [if_neg (by decide)]
    cases b with
    | false =>
      rw [if_pos (by decide), s49 false h (by unfold I64; omega)]
      rfl
    | true =>
      rw [if_neg (by decide)]
      have e1 : arReal .sub .i64 (arReal .mul .i64 8 z) 1 = 8 * z - 1 := by rcases h with rfl | rfl | rfl | rfl <;> decide
      have hz : 1 ≤ z ∧ z ≤ 8 := by rcases h with rfl | rfl | rfl | rfl <;> decide
      have hI : iter (d19_b1 z) ((-1 : Int), (0 : Int)) = some (-(2 ^ (8 * z - 1).toNat)) := by
        refine iter_fun (fun st => ∃ i : Nat, (i : Int) ≤ 8 * z - 1 ∧ st = (-(2 ^ i), (i : Int))) (fun st => (8 * z - 1 - st.2).toNat) (fun _ => _) ?_ _ ⟨0, by omega, by simp⟩
        rintro st ⟨i, hi, rfl⟩
        by_cases hlt : (i : Int) < 8 * z - 1
        · left
          have hp := pow_le63 (i := i + 1) (by omega)
          have hp0 := pow_pos2 i
          have hs : (2 : Int) ^ (i + 1) = 2 ^ i * 2 := Int.pow_succ 2 i
          refine ⟨(-(2 ^ (i + 1)), ((i + 1 : Nat) : Int)), ?_, ⟨i + 1, by omega, rfl⟩, by simp; omega, rfl⟩
          unfold d19_b1
          dsimp only
          rw [e1, c_lss, if_pos (dT hlt), ar_mul, ar_add, wk_n (by omega) (by omega), wk_n (by omega) (by omega), hs]
          congr 3
          omega
        · right
          have : (8 * z - 1).toNat = i := by omega
          unfold d19_b1
          dsimp only
          rw [e1, c_lss, if_neg (by rw [dF hlt]; decide), this]
      rw [hI]
      have hp := pow_le63 (i := (8 * z - 1).toNat) (by omega)
      have hp0 := pow_pos2 (8 * z - 1).toNat
      simp only [Option.bind_some]
      unfold loV hiV
      rw [if_pos rfl, if_pos rfl, ar_add, neg_i, wk_n (x := -(2 ^ (8 * z - 1).toNat) + 1) (by omega) (by omega), wk_n (by omega) (by omega)]
      congr 3
      omega
  · rw [if_neg h, if_neg h]
    simp [c_neq]
theorem and_1 (x : Int) : arReal .and .i64 x 1 = x % 2 := by
  show wrapK .i64 ((BitVec.ofInt 64 x &&& BitVec.ofInt 64 1).toNat : Int) = _
  have e : BitVec.ofInt 64 1 = BitVec.ofNat 64 1 := by decide
  rw [e, BitVec.toNat_and, bv_nat, BitVec.toNat_ofNat, Nat.mod_eq_of_lt (by decide), Nat.and_one_is_mod, wk_i64]
  omega
theorem half (x : Int) : (x - x % 2).tdiv 2 = x / 2 := by
  have : x - x % 2 = x / 2 * 2 := by omega
  rw [this, Int.mul_tdiv_cancel _ (by decide)]
theorem rem_pos {m : Int} (hm : m = 32 ∨ m = 64) {x : Int} (hx : I64 x) : (if x.tmod m < 0 then wrapK .i64 (x.tmod m + m) else x.tmod m) = x % m := by
  by_cases h : 0 ≤ x
  · rw [Int.tmod_eq_emod_of_nonneg h, if_neg (by rcases hm with rfl | rfl <;> omega)]
  · have e : x.tmod m = -((-x) % m) := by
      rw [← Int.tmod_eq_emod_of_nonneg (by omega), Int.neg_tmod, Int.neg_neg]
    rw [e]
    rcases hm with rfl | rfl
    · split
      · rw [wk_n (by omega) (by omega)]; omega
      · omega
    · split
      · rw [wk_n (by omega) (by omega)]; omega
      · omega
theorem tquo_u {x : Int} (h : 0 ≤ x) (h2 : x < 18446744073709551616) : arReal .quo .u64 x 2 = x / 2 := by
  show wrapK .u64 (x.tdiv 2) = _
  rw [Int.tdiv_eq_ediv_of_nonneg h, wk_u64]; omega
/-- Shifts, of the reference. -/
theorem r46 {o : Int} (ho : o = 9 ∨ o = 10) {p : Int} (q : Bool) (hp : p = 4 ∨ p = 8) {a u : Int} (ha : I64 a) (ha2 : wT p q a = a) (hu : I64 u) : d46 o p q a u = some (shV o p q a (u % (8 * p))) := by
  have hok : OkZ p := by rcases hp with rfl | rfl <;> decide
  have w1 : arReal .mul .i64 8 p = 8 * p := by rcases hp with rfl | rfl <;> decide
  have w2 : 8 * p = 32 ∨ 8 * p = 64 := by omega
  have e1 : arReal .rem .i64 u (8 * p) = u.tmod (8 * p) := rfl
  unfold d46
  rw [w1, if_pos (by unfold Ne0; omega), e1, c_lss]
  refine bd (a := u % (8 * p)) ?_ ?_
  · have := rem_pos w2 hu
    by_cases h : u.tmod (8 * p) < 0
    · rw [if_pos h] at this
      rw [if_pos (dT h), ar_add, this]
    · rw [if_neg h] at this
      rw [if_neg (by rw [dF h]; decide), this]
  have hn0 : 0 ≤ u % (8 * p) := by rcases w2 with h | h <;> rw [h] <;> omega
  have hn1 : u % (8 * p) < 64 := by rcases w2 with h | h <;> rw [h] <;> omega
  generalize u % (8 * p) = n at hn0 hn1
  obtain ⟨N, rfl⟩ : ∃ N : Nat, n = N := ⟨n.toNat, by omega⟩
  have hN : (N : Int).toNat = N := Int.toNat_natCast N
  -- what the rounds come to
  have st : ∃ w : Nat → Int, w 0 = a ∧ (∀ i, I64 (w i)) ∧ (∀ i : Nat, i < 64 → d46_b1 o p q (N : Int) (w i, (i : Int)) = if (i : Int) < N then some (.inl (w (i + 1), ((i + 1 : Nat) : Int))) else some (.inr (w i))) ∧ w N = shV o p q a (N : Int) := by
    by_cases h9 : o = 9
    · refine ⟨fun i => wT p q (a * 2 ^ i), by simp [ha2], fun i => wT_i64 q _, fun i hi => ?_, by unfold shV; rw [if_pos h9, hN]⟩
      unfold d46_b1
      dsimp only
      rw [c_lss]
      by_cases hlt : (i : Int) < N
      · have e2 : wT p q (wrapK .i64 (wT p q (a * 2 ^ i) + wT p q (a * 2 ^ i))) = wT p q (a * 2 ^ (i + 1)) := by
          rw [wT_wk hok]
          refine wT_congr hok q ?_
          have h1 := wT_mod hok q (a * 2 ^ i)
          have h2 : a * 2 ^ (i + 1) = a * 2 ^ i + a * 2 ^ i := by rw [Int.pow_succ, ← Int.mul_assoc]; omega
          rw [h2, Int.add_emod, h1, ← Int.add_emod]
        rw [if_pos (dT hlt), c_eql, if_pos (dT h9), ar_add, s49 q hok (wk_in _), e2, if_pos hlt, ar_add, wk_n (by omega) (by omega)]
        rfl
      · rw [if_neg (by rw [dF hlt]; decide), if_neg hlt]
    · cases hq : q with
      | true =>
        refine ⟨fun i => a / 2 ^ i, by simp, fun i => ?_, fun i hi => ?_, by unfold shV; rw [if_neg h9, if_neg (by simp), hN]⟩
        · have h1 := pow_pos2 i
          unfold I64 at *
          constructor
          · rw [Int.le_ediv_iff_mul_le (by omega)]
            have : -9223372036854775808 * 2 ^ i ≤ -9223372036854775808 * 1 := Int.mul_le_mul_of_nonpos_left (a := -9223372036854775808) (by decide) h1
            omega
          · rw [Int.ediv_lt_iff_lt_mul (by omega)]
            have : (9223372036854775808 : Int) * 1 ≤ 9223372036854775808 * 2 ^ i := Int.mul_le_mul_of_nonneg_left (c := 9223372036854775808) h1 (by decide)
            omega
        · have hw : I64 (a / 2 ^ i) := by
            have h1 := pow_pos2 i
            unfold I64 at *
            constructor
            · rw [Int.le_ediv_iff_mul_le (by omega)]
              have : -9223372036854775808 * 2 ^ i ≤ -9223372036854775808 * 1 := Int.mul_le_mul_of_nonpos_left (a := -9223372036854775808) (by decide) h1
              omega
            · rw [Int.ediv_lt_iff_lt_mul (by omega)]
              have : (9223372036854775808 : Int) * 1 ≤ 9223372036854775808 * 2 ^ i := Int.mul_le_mul_of_nonneg_left (c := 9223372036854775808) h1 (by decide)
              omega
          unfold d46_b1
          dsimp only
          rw [c_lss]
          by_cases hlt : (i : Int) < N
          · have e2 : arReal .quo .i64 (arReal .sub .i64 (a / 2 ^ i) (arReal .and .i64 (a / 2 ^ i) 1)) 2 = a / 2 ^ (i + 1) := by
              rw [← div_pow, and_1, ar_sub]
              unfold I64 at hw
              generalize a / 2 ^ i = x at *
              rw [wk_n (by omega) (by omega)]
              show wrapK .i64 ((x - x % 2).tdiv 2) = _
              rw [half, wk_n (by omega) (by omega)]
            rw [if_pos (dT hlt), c_eql, if_neg (by rw [dF h9]; decide), if_pos rfl, if_pos (by unfold Ne0; decide), e2, if_pos hlt, ar_add, wk_n (by omega) (by omega)]
            rfl
          · rw [if_neg (by rw [dF hlt]; decide), if_neg hlt]
      | false =>
        have hU : 0 ≤ a % 18446744073709551616 ∧ a % 18446744073709551616 < 18446744073709551616 := by omega
        have hdiv : ∀ i : Nat, 0 ≤ a % 18446744073709551616 / 2 ^ i ∧ a % 18446744073709551616 / 2 ^ i < 18446744073709551616 := by
          intro i
          have h1 := pow_pos2 i
          constructor
          · exact Int.ediv_nonneg hU.1 (by omega)
          · exact Int.lt_of_le_of_lt (Int.ediv_le_self _ hU.1) hU.2
        refine ⟨fun i => wrapK .i64 (a % 18446744073709551616 / 2 ^ i), ?_, fun i => wk_in _, fun i hi => ?_, ?_⟩
        · show wrapK .i64 (a % 18446744073709551616 / 2 ^ 0) = a
          unfold I64 at ha
          rw [Int.pow_zero, Int.ediv_one, wk_i64]; omega
        · unfold d46_b1
          dsimp only
          rw [c_lss]
          by_cases hlt : (i : Int) < N
          · have e2 : wrapK .i64 (arReal .quo .u64 (wrapK .u64 (wrapK .i64 (a % 18446744073709551616 / 2 ^ i))) 2) = wrapK .i64 (a % 18446744073709551616 / 2 ^ (i + 1)) := by
              have hd := hdiv i
              rw [← div_pow]
              generalize a % 18446744073709551616 / 2 ^ i = x at *
              have : wrapK .u64 (wrapK .i64 x) = x := by rw [wk_u64, wk_mod]; omega
              rw [this, tquo_u hd.1 hd.2]
            rw [if_pos (dT hlt), c_eql, if_neg (by rw [dF h9]; decide), if_neg Bool.false_ne_true, if_pos (by unfold Ne0; decide), e2, if_pos hlt, ar_add, wk_n (x := (i : Int) + 1) (by omega) (by omega)]
            rfl
          · rw [if_neg (by rw [dF hlt]; decide), if_neg hlt]
        · show wrapK .i64 (a % 18446744073709551616 / 2 ^ N) = _
          unfold shV
          rw [if_neg h9, hN]
          by_cases h8 : p = 8
          · rw [if_pos ⟨h8, rfl⟩, ← num_u64 ha, wk_u64]
          · rw [if_neg (fun h => h8 h.1)]
            have hnn : 0 ≤ a := by rw [← ha2, hq]; exact wT_nn hok h8 a
            have : a % 18446744073709551616 = a := by unfold I64 at ha; omega
            rw [this]
            have h1 := pow_pos2 N
            have h2 := Int.ediv_le_self (2 ^ N) hnn
            have h3 := Int.ediv_nonneg hnn (show (0 : Int) ≤ 2 ^ N by omega)
            unfold I64 at ha
            rw [wk_n (by omega) (by omega)]
  obtain ⟨w, hw0, hwi, hst, hend⟩ := st
  have hI : iter (d46_b1 o p q (N : Int)) (a, (0 : Int)) = some (w N) := by
    refine iter_fun (fun s => ∃ i : Nat, i ≤ N ∧ s = (w i, (i : Int))) (fun s => (N - s.2).toNat) (fun _ => _) ?_ _ ⟨0, by omega, by rw [hw0]; rfl⟩
    rintro s ⟨i, hi, rfl⟩
    have hs := hst i (by omega)
    by_cases hlt : (i : Int) < N
    · rw [if_pos hlt] at hs
      exact .inl ⟨_, hs, ⟨i + 1, by omega, rfl⟩, by simp; omega, rfl⟩
    · rw [if_neg hlt] at hs
      obtain rfl : i = N := by omega
      exact .inr hs
  rw [hI, hend]
  rfl
end Go.Proofs.YtjcabmhnekcbgaaDoor
end
section
namespace Go.Proofs.YtjcabmhnekcbgaaDoor
open Go.Ab Go.RowKit

theorem r76 {p : Int} (hp : p = 4 ∨ p = 8) (q : Bool) {x w : Int} (hx : I64 x) (hw : I64 w) (hx2 : wT p q x = x) (hw2 : wT p q w = w) (h0 : w ≠ 0) : d76 p q x w = some (divQ p q x w, divR p q x w) := by
  have hok : OkZ p := by rcases hp with rfl | rfl <;> decide
  unfold d76 divQ divR
  cases q with
  | true =>
    have nt : ¬ (p = 8 ∧ true = false) := by simp
    rw [if_pos rfl, c_eql, if_neg nt, if_neg nt]
    by_cases h1 : w = -1
    · rw [if_pos (dT h1), if_pos h1, if_pos h1, neg_i, Int.zero_sub]
    · rw [if_neg (by rw [dF h1]; decide), if_pos (show Ne0 w from h0), if_pos (show Ne0 w from h0), if_neg h1, if_neg h1]
      rfl
  | false =>
    have n1 := num_nn hx
    have n2 := num_nn hw
    have n3 := num_ne hw h0
    have u1 : wrapK .u64 x = numT 8 false x := num_u64 hx
    have u2 : wrapK .u64 w = numT 8 false w := num_u64 hw
    have hq1 : arReal .quo .u64 (numT 8 false x) (numT 8 false w) = numT 8 false x / numT 8 false w := by
      show wrapK .u64 ((numT 8 false x).tdiv (numT 8 false w)) = _
      rw [Int.tdiv_eq_ediv_of_nonneg n1.1, wk_u64]
      have h1 := Int.ediv_nonneg n1.1 n2.1
      have h2 := Int.ediv_le_self (numT 8 false w) n1.1
      omega
    have hq2 : arReal .rem .u64 (numT 8 false x) (numT 8 false w) = numT 8 false x % numT 8 false w := by
      show (numT 8 false x).tmod (numT 8 false w) = _
      rw [Int.tmod_eq_emod_of_nonneg n1.1]
    rw [if_neg Bool.false_ne_true, u1, u2, if_pos (show Ne0 (numT 8 false w) from n3), if_pos (show Ne0 (numT 8 false w) from n3), hq1, hq2]
    by_cases h8 : p = 8
    · subst h8
      rw [if_pos ⟨rfl, rfl⟩, if_pos ⟨rfl, rfl⟩]
    · have hxn : 0 ≤ x := by rw [← hx2]; exact wT_nn hok h8 x
      have hwn : 0 ≤ w := by rw [← hw2]; exact wT_nn hok h8 w
      have m1 : numT 8 false x = x := by rw [numT8, if_neg (by omega)]
      have m2 : numT 8 false w = w := by rw [numT8, if_neg (by omega)]
      have nt : ¬ (p = 8 ∧ false = false) := fun h => h8 h.1
      have nw : ¬ w = -1 := by omega
      rw [if_neg nt, if_neg nt, if_neg nw, if_neg nw, m1, m2, Int.tdiv_eq_ediv_of_nonneg hxn, Int.tmod_eq_emod_of_nonneg hxn]
      have h1 := Int.emod_nonneg x (show w ≠ 0 from h0)
      have h2 := Int.emod_lt_of_pos x (show 0 < w by omega)
      unfold I64 at hw
      rw [wk_n (x := x % w) (by omega) (by omega)]
theorem r49 {o : Int} (ho : Rop o) {p : Int} (q : Bool) (x w : Int) (hp : OkZ p) : d49 o p q x w = some (p, q, wT p q (fop o x w), 0) := by
  have e := s49 q hp (fop_i64 o x w)
  unfold d49
  rcases ho with rfl | rfl | rfl | rfl | rfl | rfl <;> simp [c_eql, fop] at e ⊢ <;> simp [e]
theorem r49d {o : Int} (ho : o = 4 ∨ o = 5) {p : Int} (hp : p = 4 ∨ p = 8) (q : Bool) {x w : Int} (hx : I64 x) (hw : I64 w) (hx2 : wT p q x = x) (hw2 : wT p q w = w) : d49 o p q x w = some (if w = 0 then (0, false, 0, 12) else (p, q, wT p q ((if o = 4 then divQ else divR) p q x w), 0)) := by
  have hok : OkZ p := by rcases hp with rfl | rfl <;> decide
  unfold d49
  by_cases h0 : w = 0
  · rcases ho with rfl | rfl <;> simp [c_eql, h0]
  · have e := r76 hp q hx hw hx2 hw2 h0
    rcases ho with rfl | rfl
    · have e8 := s49 q hok (divQ_i64 p q x w)
      simp [c_eql, h0, e, e8]
    · have e8 := s49 q hok (divR_i64 p q hx hw h0)
      simp [c_eql, h0, e, e8]
theorem r44 (c : Bool) : d44 c = some (4, true, b01 c, 0) := by cases c <;> rfl
theorem r13 (o z : Int) (b : Bool) {v : Int} (hv : I64 v) : d13 o z b v = some (unV o z b v) := by
  unfold d13 unV
  rw [s47]
  by_cases h : OkZ z
  · have e1 := s49 b h hv
    have e2 := s49 (pb z b) (pz_ok h) (wk_in (-wT z b v))
    have e3 := s49 (pb z b) (pz_ok h) (wk_in (wrapK .i64 (-wT z b v) - 1))
    have e4 : wT (pz z) (pb z b) (wrapK .i64 (-wT z b v) - 1) = wT (pz z) (pb z b) (-wT z b v - 1) := by
      refine wT_congr (pz_ok h) _ (mod_64 (pz_ok h) ?_)
      have := wk_mod (-wT z b v)
      omega
    rw [if_pos h, if_neg (fun hh => hh h)]
    simp only [Option.bind_some, c_neq, c_eql, e1, r43, neg_i, e2, ar_sub, e3, r44, wT_wk (pz_ok h), e4]
    rw [if_neg (by decide)]
    by_cases o1 : o = 1
    · simp [o1]
    · by_cases o2 : o = 2
      · simp [o2]
      · by_cases o3 : o = 3 <;> simp [o1, o2, o3]
  · rw [if_neg h, if_pos h]
    simp [c_neq]
theorem uz_48 {z y : Int} (h : OkZ z) (k : OkZ y) : uz z y = 4 ∨ uz z y = 8 := by
  unfold uz
  split
  · exact pz_48 k
  · exact pz_48 h
theorem r14 (o z : Int) (b : Bool) (y : Int) (c : Bool) {v u : Int} (hv : I64 v) (hu : I64 u) : d14 o z b v y c u = d9 o z b v y c u := by
  by_cases h : OkZ z ∧ OkZ y
  rotate_left
  · rw [s14_no b c h]
    unfold d14
    rw [r45, if_neg h]
    simp [c_neq]
  obtain ⟨hz, hy⟩ := h
  by_cases hx : o < 1 ∨ 16 < o
  · rw [u9x hx b c hz hy hv hu]
    unfold d14
    rw [r45, if_pos ⟨hz, hy⟩]
    simp only [Option.bind_some, c_neq, c_lss, c_gtr]
    rw [if_neg (by decide)]
    by_cases h1 : o < 1
    · rw [if_pos (dT h1)]
    · rw [if_neg (by rw [dF h1]; decide), if_pos (dT (by omega))]
  have n1 : ¬ o < 1 := by omega
  have n2 : ¬ 16 < o := by omega
  have e1 := s49 b hz hv
  have e2 := s49 c hy hu
  have hq := uz_ok hz hy
  have e3 := s49 (ub z b y c) hq (wT_i64 b (z := z) v)
  have e4 := s49 (ub z b y c) hq (wT_i64 c (z := y) u)
  have e5 := s48 (ub z b y c) (wT z b v) (wT y c u) hq
  have e6 := r47 b c hz hy
  unfold d14
  rw [r45, if_pos ⟨hz, hy⟩]
  simp only [Option.bind_some, c_neq, c_lss, c_gtr]
  rw [if_neg (by decide), if_neg (by rw [dF n1]; decide), if_neg (by rw [dF n2]; decide), e1, e2]
  simp only [Option.bind_some]
  by_cases hs : o = 9 ∨ o = 10
  · rw [u9s hs b c hz hy hv hu]
    refine bd (a := true) ?_ ?_
    · rw [c_eql, c_eql]
      rcases hs with rfl | rfl <;> rfl
    · rw [if_pos rfl, r43]
      simp only [Option.bind_some]
      rw [r46 hs (pb z b) (pz_48 hz) (wT_i64 b (z := z) v) (wT_prom hz b v) (wT_i64 c (z := y) u)]
      rfl
  refine bd (a := false) ?_ ?_
  · rw [c_eql, c_eql, if_neg (by rw [dF (by omega)]; decide), dF (by omega)]
  rw [if_neg (by decide), e6]
  simp only [Option.bind_some]
  rw [e3]
  simp only [Option.bind_some]
  rw [e4]
  simp only [Option.bind_some]
  rw [e5]
  simp only [Option.bind_some, r44, c_eql, c_lss, c_leq, c_gtr, c_geq, c_neq]
  by_cases hr : Rel o
  · rw [s14r hr b c hz hy hv hu]
    rcases hr with rfl | rfl | rfl | rfl | rfl | rfl <;> simp [relH]
  have m : ¬ o = 11 ∧ ¬ o = 12 ∧ ¬ o = 13 ∧ ¬ o = 14 ∧ ¬ o = 15 ∧ ¬ o = 16 := ⟨fun h => hr (.inl h), fun h => hr (.inr (.inl h)), fun h => hr (.inr (.inr (.inl h))), fun h => hr (.inr (.inr (.inr (.inl h)))), fun h => hr (.inr (.inr (.inr (.inr (.inl h))))), fun h => hr (.inr (.inr (.inr (.inr (.inr h)))))⟩
  obtain ⟨m1, m2, m3, m4, m5, m6⟩ := m
  simp only [m1, m2, m3, m4, m5, m6, decide_false, Bool.false_eq_true, if_false]
  by_cases hd : o = 4 ∨ o = 5
  · rw [s14d hd b c hz hy hv hu, r49d hd (uz_48 hz hy) (ub z b y c) (wT_i64 _ (z := uz z y) _) (wT_i64 _ (z := uz z y) _) (wT_id hq _ _) (wT_id hq _ _)]
    rfl
  · have ho : Rop o := by unfold Rop; omega
    rw [s14 ho b c hz hy hv hu, r49 ho _ _ _ hq]
    rfl
theorem d9_some (o z : Int) (b : Bool) (y : Int) (c : Bool) {v u : Int} (hv : I64 v) (hu : I64 u) : ∃ r, d9 o z b v y c u = some r := by
  by_cases h : OkZ z ∧ OkZ y
  · obtain ⟨hz, hy⟩ := h
    by_cases hx : o < 1 ∨ 16 < o
    · exact ⟨_, u9x hx b c hz hy hv hu⟩
    · by_cases hs : o = 9 ∨ o = 10
      · exact ⟨_, u9s hs b c hz hy hv hu⟩
      · by_cases hr : Rel o
        · exact ⟨_, s14r hr b c hz hy hv hu⟩
        · by_cases hd : o = 4 ∨ o = 5
          · exact ⟨_, s14d hd b c hz hy hv hu⟩
          · have ho : Rop o := by unfold Rop; unfold Rel at hr; omega
            exact ⟨_, s14 ho b c hz hy hv hu⟩
  · exact ⟨_, s14_no b c h⟩
theorem eqq (a : Int) : cmpLit .eql a a = true := by rw [c_eql]; exact dT rfl
theorem bq (b : Bool) : beqB b b = true := by cases b <;> rfl
theorem an_t (b : Bool) : andB' true b = b := rfl
theorem ty_eq (a : Int) (b : Bool) : andB' (cmpLit .eql a a) (beqB b b) = true := by rw [eqq]; cases b <;> rfl
theorem pd4 (o z : Int) (b : Bool) (y : Int) (c : Bool) {v u : Int} (hv : I64 v) (hu : I64 u) : d4 o z b y c v u = some true := by
  obtain ⟨r, hr⟩ := d9_some o z b y c hv hu
  unfold d4
  rw [s9, u12 o z b hv, r13 o z b hv, r14 o z b y c hv hu, hr]
  simp only [Option.bind_some, bq, an_t, eqq, if_true]
theorem pd6 (z : Int) (b : Bool) (y : Int) (c : Bool) {v : Int} (hv : I64 v) : d6 z b y c v = some true := by
  unfold d6
  rw [s9, r19, u18, r20, s13, r22, s15, r24 z b hv, s28 z b hv, r26 z b y c hv, s16 z b y c hv, s10, s47]
  simp only [Option.bind_some, bq, an_t, eqq, if_true]
end Go.Proofs.YtjcabmhnekcbgaaDoor
end
section
namespace Go.Proofs.YtjcabmhnekcbgaaDoor
open Go.Ab Go.RowKit

theorem numT_prom {z : Int} (h : OkZ z) (b : Bool) (v : Int) : numT (pz z) (pb z b) v = numT z b v := by
  rcases h with rfl | rfl | rfl | rfl <;> cases b <;> simp [numT, pz, pb]
theorem numT_inj (z : Int) (b : Bool) {v u : Int} (hv : I64 v) (hu : I64 u) : numT z b v = numT z b u ↔ v = u := by
  unfold I64 at hv hu
  unfold numT
  by_cases hz : z = 8 ∧ b = false
  · simp only [hz, and_self, and_true]
    split <;> split <;> omega
  · simp only [hz, and_false, if_false]
theorem cmpV_lt {a b : Int} (h : a < b) : cmpV a b = -1 := if_pos h
theorem cmpV_gt {a b : Int} (h : b < a) : cmpV a b = 1 := by unfold cmpV; rw [if_neg (by omega), if_pos h]
theorem cmpV_eq (a : Int) : cmpV a a = 0 := by unfold cmpV; rw [if_neg (by omega), if_neg (by omega)]
theorem cmpV_neg (a b : Int) : unReal .neg .i64 (cmpV a b) = cmpV b a := by
  rcases Int.lt_trichotomy a b with h | h | h
  · rw [cmpV_lt h, cmpV_gt h]; decide
  · rw [h, cmpV_eq]; decide
  · rw [cmpV_gt h, cmpV_lt h]; decide
theorem q_le (a b : Int) : cmpLit .leq (cmpV a b) 0 = decide (a ≤ b) := by
  rw [c_leq]
  rcases Int.lt_trichotomy a b with h | h | h
  · rw [cmpV_lt h]; exact dC (by omega)
  · rw [h, cmpV_eq]; exact dC (by omega)
  · rw [cmpV_gt h]; exact dC (by omega)
theorem q_lt (a b : Int) : cmpLit .lss (cmpV a b) 0 = decide (a < b) := by
  rw [c_lss]
  rcases Int.lt_trichotomy a b with h | h | h
  · rw [cmpV_lt h]; exact dC (by omega)
  · rw [h, cmpV_eq]; exact dC (by omega)
  · rw [cmpV_gt h]; exact dC (by omega)
theorem q_gt (a b : Int) : cmpLit .gtr (cmpV a b) 0 = decide (b < a) := by
  rw [c_gtr]
  rcases Int.lt_trichotomy a b with h | h | h
  · rw [cmpV_lt h]; exact dC (by omega)
  · rw [h, cmpV_eq]; exact dC (by omega)
  · rw [cmpV_gt h]; exact dC (by omega)
theorem q_ge (a b : Int) : cmpLit .geq (cmpV a b) 0 = decide (b ≤ a) := by
  rw [c_geq]
  rcases Int.lt_trichotomy a b with h | h | h
  · rw [cmpV_lt h]; exact dC (by omega)
  · rw [h, cmpV_eq]; exact dC (by omega)
  · rw [cmpV_gt h]; exact dC (by omega)
theorem q_eq (a b : Int) : cmpLit .eql (cmpV a b) 0 = decide (a = b) := by
  rw [c_eql]
  rcases Int.lt_trichotomy a b with h | h | h
  · rw [cmpV_lt h]; exact dC (by omega)
  · rw [h, cmpV_eq]; exact dC (by omega)
  · rw [cmpV_gt h]; exact dC (by omega)
theorem q_rng (a b : Int) : -1 ≤ cmpV a b ∧ cmpV a b ≤ 1 := by
  rcases Int.lt_trichotomy a b with h | h | h
  · rw [cmpV_lt h]; omega
  · rw [h, cmpV_eq]; omega
  · rw [cmpV_gt h]; omega
theorem rng (z : Int) (b : Bool) (h : OkZ z) : I64 (loV z b) ∧ I64 (hiV z b) ∧ wT z b (loV z b) = loV z b ∧ wT z b (hiV z b) = hiV z b ∧ ∀ v, I64 v → numT z b (loV z b) ≤ numT z b (wT z b v) ∧ numT z b (wT z b v) ≤ numT z b (hiV z b) := by
  rcases h with rfl | rfl | rfl | rfl
  · cases b
    · refine ⟨by unfold I64; decide, by unfold I64; decide, by decide, by decide, fun v hv => ?_⟩
      have : wT 1 false v = v % 256 := by simp [wT]
      have h2 : hiV 1 false = 255 := by decide
      have h3 : loV 1 false = 0 := by decide
      rw [numT_s (by simp), numT_s (by simp), numT_s (by simp), this, h2, h3]; omega
    · refine ⟨by unfold I64; decide, by unfold I64; decide, by decide, by decide, fun v hv => ?_⟩
      have h2 : hiV 1 true = 127 := by decide
      have h3 : loV 1 true = -128 := by decide
      rw [numT_s (by simp), numT_s (by simp), numT_s (by simp), h2, h3]
      simp [wT]; omega
  · cases b
    · refine ⟨by unfold I64; decide, by unfold I64; decide, by decide, by decide, fun v hv => ?_⟩
      have h2 : hiV 2 false = 65535 := by decide
      have h3 : loV 2 false = 0 := by decide
      rw [numT_s (by simp), numT_s (by simp), numT_s (by simp), h2, h3]
      simp [wT]; omega
    · refine ⟨by unfold I64; decide, by unfold I64; decide, by decide, by decide, fun v hv => ?_⟩
      have h2 : hiV 2 true = 32767 := by decide
      have h3 : loV 2 true = -32768 := by decide
      rw [numT_s (by simp), numT_s (by simp), numT_s (by simp), h2, h3]
      simp [wT]; omega
  · cases b
    · refine ⟨by unfold I64; decide, by unfold I64; decide, by decide, by decide, fun v hv => ?_⟩
      have h2 : hiV 4 false = 4294967295 := by decide
      have h3 : loV 4 false = 0 := by decide
      rw [numT_s (by simp), numT_s (by simp), numT_s (by simp), h2, h3]
      simp [wT]; omega
    · refine ⟨by unfold I64; decide, by unfold I64; decide, by decide, by decide, fun v hv => ?_⟩
      have h2 : hiV 4 true = 2147483647 := by decide
      have h3 : loV 4 true = -2147483648 := by decide
      rw [numT_s (by simp), numT_s (by simp), numT_s (by simp), h2, h3]
      simp [wT]; omega
  · cases b
    · refine ⟨by unfold I64; decide, by unfold I64; decide, by decide, by decide, fun v hv => ?_⟩
      have h2 : hiV 8 false = -1 := by decide
      have h3 : loV 8 false = 0 := by decide
      have h4 := num_nn (wT_i64 (z := 8) false v)
      have h5 : numT 8 false (-1) = 18446744073709551615 := by decide
      have h6 : numT 8 false 0 = 0 := by decide
      rw [h2, h3, h5, h6]; omega
    · refine ⟨by unfold I64; decide, by unfold I64; decide, by decide, by decide, fun v hv => ?_⟩
      have h2 : hiV 8 true = 9223372036854775807 := by decide
      have h3 : loV 8 true = -9223372036854775808 := by decide
      have h4 := wT_i64 (z := 8) true v
      unfold I64 at h4
      rw [numT_s (by simp), numT_s (by simp), numT_s (by simp), h2, h3]; omega
theorem u17 {o : Int} (ho : Rel o) {z : Int} (b : Bool) {v u : Int} (hz : OkZ z) (hv : I64 v) (hu : I64 u) : d17 o z b v u = some (4, true, b01 (relH o (cmpV (numT z b (wT z b v)) (numT z b (wT z b u))))) := by
  unfold d17
  rw [s14r ho b b hz hz hv hu]
  obtain ⟨e1, e2⟩ := us_self z b
  rw [e1, e2, wT_prom hz, wT_prom hz, numT_prom hz, numT_prom hz]
  rfl
theorem b01_1 (c : Bool) : cmpLit .eql (b01 c) 1 = c := by cases c <;> rfl
theorem pd5l {z : Int} (b : Bool) (hz : OkZ z) {v u : Int} (hv : I64 v) (hu : I64 u) : iter (d5_b1 z b v u (cmpV (numT z b (wT z b v)) (numT z b (wT z b u)), 0)) 0 = some (.inr () : Bool ⊕ Unit) := by
  have n6 : ∀ k : Int, Int.ofNat 6 = 6 := fun _ => rfl
  generalize hx : cmpV (numT z b (wT z b v)) (numT z b (wT z b u)) = x
  have step : ∀ i : Nat, i < 6 → d5_b1 z b v u (x, 0) (i : Int) = some (.inl ((i + 1 : Nat) : Int)) := by
    intro i hi
    have t1 : arReal .add .i64 11 (i : Int) = 11 + (i : Int) := by rw [ar_add, wk_n (by omega) (by omega)]
    have t2 : arReal .add .i64 (i : Int) 1 = ((i + 1 : Nat) : Int) := by rw [ar_add, wk_n (by omega) (by omega)]; push_cast; rfl
    have hr : Rel (11 + (i : Int)) := by unfold Rel; omega
    have e := u17 hr b hz hv hu
    rw [hx] at e
    unfold d5_b1
    rw [c_lss, if_pos (dT (by omega)), t1, e, t2]
    simp only [Option.bind_some]
    refine bd (a := false) ?_ (by rw [if_neg (by decide)])
    unfold d10
    simp only [Option.bind_some]
    rw [if_neg (by simp [c_eql, andB', beqB, notB']), if_pos (by unfold Inb; show 0 ≤ (i : Int) ∧ (i : Int) < 6; omega), b01_1]
    have fin : ∀ c d : Bool, c = d → (if notB' (beqB c d) = true then some true else if cmpLit .neq (b01 c) 0 = true then some (cmpLit .neq (b01 c) 1) else some false) = some false := by
      intro c d h
      subst h
      cases c <;> rfl
    match i, hi with
    | 0, _ => exact fin _ _ (by show relH 11 x = _; simp [relH, c_lss])
    | 1, _ => exact fin _ _ (by show relH 12 x = _; simp [relH, c_leq])
    | 2, _ => exact fin _ _ (by show relH 13 x = _; simp [relH, c_gtr])
    | 3, _ => exact fin _ _ (by show relH 14 x = _; simp [relH, c_geq])
    | 4, _ => exact fin _ _ (by show relH 15 x = _; simp [relH, c_eql])
    | 5, _ => exact fin _ _ (by show relH 16 x = _; simp [relH, c_neq])
  have last : d5_b1 z b v u (x, 0) 6 = some (.inr (.inr ())) := by
    unfold d5_b1
    rw [c_lss, if_neg (by decide)]
  have s0 := step 0 (by omega); have s1 := step 1 (by omega); have s2 := step 2 (by omega); have s3 := step 3 (by omega); have s4 := step 4 (by omega); have s5 := step 5 (by omega)
  have fin : iter (d5_b1 z b v u (x, 0)) ((0 : Nat) : Int) = some (.inr () : Bool ⊕ Unit) := by
    rw [iter_inl s0, iter_inl s1, iter_inl s2, iter_inl s3, iter_inl s4, iter_inl s5]
    exact iter_inr last
  exact fin
theorem pd5 (z : Int) (b : Bool) {v u t : Int} (hv : I64 v) (hu : I64 u) (ht : I64 t) : d5 z b v u t = some true := by
  unfold d5
  rw [s9, s10]
  simp only [Option.bind_some]
  rw [if_neg (by decide), c_neq]
  by_cases hz : OkZ z
  · obtain ⟨r1, r2, r3, r4, r5⟩ := rng z b hz
    have e1 := s19 b hz hv hu
    have e2 := s19 b hz hu ht
    have e3 := s19 b hz hv ht
    have e4 := s19 b hz hu hv
    have i1 := numT_inj z b (wT_i64 (z := z) b v) (wT_i64 (z := z) b u)
    have i2 := s12 z b hv
    have i3 := s12 z b hu
    rw [if_pos hz] at i2 i3
    rw [if_pos hz, if_neg (by decide), e1]
    simp only [Option.bind_some]
    rw [e2]
    simp only [Option.bind_some]
    rw [e3]
    simp only [Option.bind_some]
    rw [e4]
    simp only [Option.bind_some]
    refine bd (a := false) ?_ ?_
    · rw [cmpV_neg, i2, i3]
      simp only [Option.bind_some]
      generalize numT z b (wT z b v) = A at *
      generalize numT z b (wT z b u) = B at *
      generalize numT z b (wT z b t) = C at *
      obtain ⟨x1, x2⟩ := q_rng A B
      have hq : beqB (decide (A = B)) (cmpLit .eql (wT z b v) (wT z b u)) = true := by
        rw [c_eql]
        have : decide (A = B) = decide (wT z b v = wT z b u) := dC i1
        rw [this, bq]
      rw [c_lss, if_neg (by rw [dF (by omega)]; decide), c_gtr, if_neg (by rw [dF (by omega)]; decide), c_neq, if_neg (by rw [dF (by simp)]; decide), q_eq, hq, if_neg (by decide), q_le, q_le, q_gt, q_lt, q_ge]
      by_cases h1 : A ≤ B
      · rw [if_pos (dT h1)]
        by_cases h2 : B ≤ C
        · rw [if_pos (dT h2), if_neg (by rw [dF (by omega)]; decide)]
          by_cases h3 : A < B
          · rw [if_pos (dT h3), if_pos (dT h2), dF (by omega)]
          · rw [if_neg (by rw [dF h3]; decide)]
        · rw [if_neg (by rw [dF h2]; decide)]
          by_cases h3 : A < B
          · rw [if_pos (dT h3), if_neg (by rw [dF h2]; decide)]
          · rw [if_neg (by rw [dF h3]; decide)]
      · rw [if_neg (by rw [dF h1]; decide), if_neg (by rw [dF (by omega)]; decide)]
    rw [if_neg (by decide)]
    refine bd (bd (pd5l b hz hv hu) rfl) ?_
    dsimp only
    have f1 := s19 b hz r1 hv
    have f2 := s19 b hz hv r2
    have f3 := s12 z b r1
    have f4 := s12 z b r2
    rw [if_pos hz] at f3 f4
    obtain ⟨g1, g2⟩ := r5 v hv
    rw [r3] at f1 f3
    rw [r4] at f2 f4
    rw [u18, if_pos hz]
    simp only [Option.bind_some]
    rw [f1]
    simp only [Option.bind_some]
    rw [f2]
    simp only [Option.bind_some]
    have l1 : cmpV (numT z b (loV z b)) (numT z b (wT z b v)) ≤ 0 := by unfold cmpV; split <;> (try split) <;> omega
    have l2 : cmpV (numT z b (wT z b v)) (numT z b (hiV z b)) ≤ 0 := by unfold cmpV; split <;> (try split) <;> omega
    rw [eqq, if_pos rfl, c_leq, c_leq, if_pos (dT l1), if_pos (dT l2), f3]
    simp only [Option.bind_some]
    rw [eqq, if_pos rfl, f4]
    simp only [Option.bind_some, eqq]
  · rw [if_neg hz, if_pos (by decide)]
end Go.Proofs.YtjcabmhnekcbgaaDoor
end
section
namespace Go.Proofs.YtjcabmhnekcbgaaDoor
open Go.Ab Go.RowKit

theorem div_pows (a : Int) (m n : Nat) : a / 2 ^ m / 2 ^ n = a / 2 ^ (m + n) := by
  rw [Int.pow_add]
  exact Int.ediv_ediv_of_nonneg (Int.pow_nonneg (by decide))
theorem div_in (a : Int) (n : Nat) : (0 ≤ a → 0 ≤ a / 2 ^ n ∧ a / 2 ^ n ≤ a) ∧ (a < 0 → a ≤ a / 2 ^ n ∧ a / 2 ^ n < 0) := by
  have hp := pow_pos2 n
  constructor
  · intro h
    exact ⟨Int.ediv_nonneg h (by omega), Int.ediv_le_self _ h⟩
  · intro h
    constructor
    · rw [Int.le_ediv_iff_mul_le (by omega)]
      have : a * 2 ^ n ≤ a * 1 := Int.mul_le_mul_of_nonpos_left (by omega) hp
      omega
    · rw [Int.ediv_lt_iff_lt_mul (by omega)]
      omega
/-- A value between 0 (or -1) and a value of a promoted type is one of the type. -/
theorem wT_btw {p : Int} (hp : p = 4 ∨ p = 8) (q : Bool) {w x : Int} (hw : wT p q w = w) (hu : ¬ (p = 8 ∧ q = false)) (h0 : 0 ≤ w → 0 ≤ x ∧ x ≤ w) (h1 : w < 0 → w ≤ x ∧ x < 0) : wT p q x = x := by
  rcases hp with rfl | rfl
  · cases q
    · simp [wT] at hw ⊢; omega
    · simp [wT] at hw ⊢; omega
  · cases q
    · exact absurd ⟨rfl, rfl⟩ hu
    · simp [wT] at hw ⊢; omega
theorem cnt {m n : Int} (hm : m = 32 ∨ m = 64) (h0 : 0 ≤ n) (h1 : n < m) : wT 4 true n % m = n := by
  have : wT 4 true n = n := by simp [wT]; omega
  rw [this]
  rcases hm with rfl | rfl <;> omega
theorem shV_10 (p : Int) (q : Bool) (a n : Int) : shV 10 p q a n = if p = 8 ∧ q = false then wrapK .i64 (numT 8 false a / 2 ^ n.toNat) else a / 2 ^ n.toNat := by
  unfold shV
  rw [if_neg (show ¬ (10 : Int) = 9 by decide)]
theorem shV_9 (p : Int) (q : Bool) (a n : Int) : shV 9 p q a n = wT p q (a * 2 ^ n.toNat) := by
  unfold shV
  rw [if_pos rfl]
theorem shV_in {p : Int} (hp : p = 4 ∨ p = 8) (q : Bool) {w : Int} (hw : wT p q w = w) (hi : I64 w) (n : Int) : wT p q (shV 10 p q w n) = shV 10 p q w n := by
  have hok : OkZ p := by rcases hp with rfl | rfl <;> decide
  rw [shV_10]
  by_cases hu : p = 8 ∧ q = false
  · rw [if_pos hu]
    obtain ⟨rfl, rfl⟩ := hu
    rw [wT_wk z8]
    have : ∀ x, wT 8 false x = wrapK .i64 x := fun x => by rw [wk_i64]; simp [wT]
    exact this _
  · rw [if_neg hu]
    obtain ⟨d1, d2⟩ := div_in w n.toNat
    exact wT_btw hp q hw hu d1 d2
theorem shV_add {p : Int} (hp : p = 4 ∨ p = 8) (q : Bool) {w : Int} (hi : I64 w) {m n : Int} (hm : 0 ≤ m) (hn : 0 ≤ n) : shV 10 p q (shV 10 p q w m) n = shV 10 p q w (m + n) := by
  have e : (m + n).toNat = m.toNat + n.toNat := by omega
  rw [shV_10, shV_10, shV_10, e]
  by_cases hu : p = 8 ∧ q = false
  · rw [if_pos hu, if_pos hu, if_pos hu, ← div_pows]
    have h1 := num_nn hi
    have h2 := (div_in (numT 8 false w) m.toNat).1 h1.1
    have h3 : numT 8 false (wrapK .i64 (numT 8 false w / 2 ^ m.toNat)) = numT 8 false w / 2 ^ m.toNat := by
      rw [← num_u64 (wk_in _), wk_u64, wk_mod]; omega
    rw [h3]
  · rw [if_neg hu, if_neg hu, if_neg hu, div_pows]
theorem shl_add {p : Int} (hp : OkZ p) (q : Bool) (w : Int) (m n : Nat) : wT p q (wT p q (w * 2 ^ m) * 2 ^ n) = wT p q (w * 2 ^ (m + n)) := by
  refine wT_congr hp q ?_
  rw [Int.mul_emod, wT_mod hp, ← Int.mul_emod, Int.mul_assoc, ← Int.pow_add]
theorem pd3 (z : Int) (b : Bool) {v m n : Int} (hv : I64 v) (hm : I64 m) (hn : I64 n) : d3 z b v m n = some true := by
  unfold d3
  rw [s9, s13]
  simp only [Option.bind_some]
  by_cases hz : OkZ z
  rotate_left
  · refine bd (a := true) ?_ (by rw [if_pos rfl])
    rw [if_neg hz, if_neg (by decide), if_pos (show cmpLit .neq 10 0 = true by decide)]
  have hp := pz_48 hz
  have hok := pz_ok hz
  obtain ⟨w1, w2⟩ := wid hz
  by_cases hc : m < 0 ∨ n < 0 ∨ 8 * pz z ≤ m ∨ 8 * pz z ≤ n
  · refine bd (a := true) ?_ (by rw [if_pos rfl])
    rw [if_pos hz, if_neg (by decide), if_neg (show ¬ cmpLit .neq 0 0 = true by decide)]
    dsimp only
    rw [w1, c_lss, c_lss, c_geq, c_geq]
    simp only [decide_eq_true_eq]
    repeat' split
    all_goals first | rfl | exact congrArg some (dT (by omega))
  have hm0 : 0 ≤ m := by omega
  have hn0 : 0 ≤ n := by omega
  have hm1 : m < 8 * pz z := by omega
  have hn1 : n < 8 * pz z := by omega
  have hm64 : m < 64 := by omega
  refine bd (a := false) ?_ ?_
  · rw [if_pos hz, if_neg (by decide), if_neg (show ¬ cmpLit .neq 0 0 = true by decide)]
    dsimp only
    rw [w1, c_lss, c_lss, c_geq, c_geq, if_neg (by rw [dF (by omega)]; decide), if_neg (by rw [dF (by omega)]; decide), if_neg (by rw [dF (by omega)]; decide), dF (by omega)]
  rw [if_neg (by decide), if_pos (show Ge0 m from hm0), if_pos hz]
  unfold d10
  simp only [Option.bind_some]
  have hw := wT_prom hz b v
  have hwi := wT_i64 (z := z) b v
  have pp : pz (pz z) = pz z := pz_pz z
  have pq : pb (pz z) (pb z b) = pb z b := pb_pb z b
  have a1 := u9s (o := 9) (.inl rfl) b true hz z4 hv hm
  have a2 := u9s (o := 10) (.inr rfl) b true hz z4 hv hm
  rw [cnt w2 hm0 hm1] at a1 a2
  have a3 := s12 z b hv
  rw [if_pos hz] at a3
  have hpw : arReal .shl .i64 1 m = wrapK .i64 (2 ^ m.toNat) := by rw [shl_i hm0 hm64, Int.one_mul]
  have hPi : I64 (wrapK .i64 (2 ^ m.toNat)) := wk_in _
  have a4 := s14 (o := 3) (.inr (.inr (.inl rfl))) (pb z b) (pb z b) hok hok hwi hPi
  have a5 := s14d (o := 4) (.inl rfl) (pb z b) (pb z b) hok hok hwi hPi
  obtain ⟨us1, us2⟩ := us_self (pz z) (pb z b)
  rw [us1, us2, pp, pq, hw, hw] at a4 a5
  rw [wT_id hok] at a4 a5
  rw [f3] at a4
  have left_eq : wT (pz z) (pb z b) (wrapK .i64 (wT z b v * wT (pz z) (pb z b) (wrapK .i64 (2 ^ m.toNat)))) = shV 9 (pz z) (pb z b) (wT z b v) m := by
    rw [shV_9, wT_wk hok]
    refine wT_congr hok _ ?_
    rw [Int.mul_emod, wT_wk hok, wT_mod hok, ← Int.mul_emod]
  rw [left_eq] at a4
  refine bd a1 ?_
  refine bd a2 ?_
  refine bd a3 ?_
  dsimp only
  rw [hpw]
  refine bd a4 ?_
  dsimp only
  refine bd (a := false) ?_ ?_
  · rw [if_neg (by decide), if_neg (by decide), if_neg (by decide), ty_eq, if_neg (by decide), c_neq, dF (by simp)]
  rw [if_neg (by decide)]
  refine bd (a := (.inl () : Unit ⊕ Bool)) ?_ ?_
  · -- the division
    have hy : ∃ y, (if cmpLit .geq (wT z b v) 0 = true then if cmpLit .lss m (arReal .sub .i64 (arReal .mul .i64 8 (pz z)) 1) = true then some true else some (notB' (pb z b)) else if notB' (pb z b) = true then if cmpLit .lss m (arReal .sub .i64 (arReal .mul .i64 8 (pz z)) 1) = true then some true else some (notB' (pb z b)) else some false) = some y ∧ (y = true → (0 ≤ wT z b v ∨ pb z b = false) ∧ (m < 8 * pz z - 1 ∨ pb z b = false)) := by
      have t1 : arReal .sub .i64 (arReal .mul .i64 8 (pz z)) 1 = 8 * pz z - 1 := by rw [w1, ar_sub, wk_n (by omega) (by omega)]
      rw [t1, c_geq, c_lss]
      by_cases g1 : 0 ≤ wT z b v
      · rw [if_pos (dT g1)]
        by_cases g2 : m < 8 * pz z - 1
        · rw [if_pos (dT g2)]; exact ⟨_, rfl, fun _ => ⟨.inl g1, .inl g2⟩⟩
        · rw [if_neg (by rw [dF g2]; decide)]
          exact ⟨_, rfl, fun h => ⟨.inl g1, .inr (by rw [notB_t] at h; exact h)⟩⟩
      · rw [if_neg (by rw [dF g1]; decide)]
        cases hq : pb z b with
        | false =>
          rw [if_pos (by decide)]
          by_cases g2 : m < 8 * pz z - 1
          · rw [if_pos (dT g2)]; exact ⟨_, rfl, fun _ => ⟨.inr rfl, .inr rfl⟩⟩
          · rw [if_neg (by rw [dF g2]; decide)]; exact ⟨_, rfl, fun _ => ⟨.inr rfl, .inr rfl⟩⟩
        | true =>
          rw [if_neg (by decide)]
          exact ⟨_, rfl, fun h => by cases h⟩
    obtain ⟨y, hy, hyc⟩ := hy
    refine bd hy ?_
    cases y with
    | false => rw [if_neg (by decide)]
    | true =>
      obtain ⟨g1, g2⟩ := hyc rfl
      rw [if_pos rfl, a5]
      have hpp := pow_pos2 m.toNat
      -- the power as_ a value of the type
      have hP0 : wT (pz z) (pb z b) (wrapK .i64 (2 ^ m.toNat)) ≠ 0 := by
        rw [wT_wk hok]
        have hle : (2 : Int) ^ m.toNat ≤ 9223372036854775808 := pow_le63 (by omega)
        rcases hp with hp4 | hp8
        · have hle2 : (2 : Int) ^ m.toNat ≤ 2147483648 := by
            have h1 : (2 : Nat) ^ m.toNat ≤ 2 ^ 31 := Nat.pow_le_pow_right (by decide) (by omega)
            have h3 : ((2 ^ m.toNat : Nat) : Int) = (2 : Int) ^ m.toNat := by push_cast; rfl
            omega
          rw [hp4]
          cases pb z b <;> simp [wT] <;> omega
        · rw [hp8]
          cases pb z b <;> simp [wT] <;> omega
      rw [if_neg hP0]
      simp only [Option.bind_some, if_true]
      rw [if_neg (by decide)]
      have hval : wT (pz z) (pb z b) (divQ (pz z) (pb z b) (wT z b v) (wT (pz z) (pb z b) (wrapK .i64 (2 ^ m.toNat)))) = shV 10 (pz z) (pb z b) (wT z b v) m := by
        have hin := shV_in hp (pb z b) hw hwi m
        have hdq : divQ (pz z) (pb z b) (wT z b v) (wT (pz z) (pb z b) (wrapK .i64 (2 ^ m.toNat))) = shV 10 (pz z) (pb z b) (wT z b v) m := by
          have hle : (2 : Int) ^ m.toNat ≤ 9223372036854775808 := pow_le63 (by omega)
          rw [wT_wk hok]
          rw [shV_10]
          unfold divQ
          by_cases hu : pz z = 8 ∧ pb z b = false
          · rw [if_pos hu, if_pos hu]
            obtain ⟨h8, hq⟩ := hu
            rw [h8, hq]
            have : numT 8 false (wT 8 false (2 ^ m.toNat)) = 2 ^ m.toNat := by
              have e : wT 8 false (2 ^ m.toNat) = wrapK .i64 (2 ^ m.toNat) := by rw [wk_i64]; simp [wT]
              rw [e, ← num_u64 (wk_in _), wk_u64, wk_mod]; omega
            rw [this]
          · rw [if_neg hu, if_neg hu]
            have hPv : wT (pz z) (pb z b) (2 ^ m.toNat) = 2 ^ m.toNat := by
              rcases hp with hp4 | hp8
              · have hle2 : (2 : Int) ^ m.toNat ≤ 2147483648 := by
                  have h1 : (2 : Nat) ^ m.toNat ≤ 2 ^ 31 := Nat.pow_le_pow_right (by decide) (by omega)
                  have h3 : ((2 ^ m.toNat : Nat) : Int) = (2 : Int) ^ m.toNat := by push_cast; rfl
                  omega
                cases hq : pb z b with
                | false => rw [hp4]; simp [wT]; omega
                | true =>
                  have hm30 : m < 31 := by
                    rcases g2 with g2 | g2
                    · omega
                    · rw [hq] at g2; cases g2
                  have hle3 : (2 : Int) ^ m.toNat ≤ 1073741824 := by
                    have h1 : (2 : Nat) ^ m.toNat ≤ 2 ^ 30 := Nat.pow_le_pow_right (by decide) (by omega)
                    have h3 : ((2 ^ m.toNat : Nat) : Int) = (2 : Int) ^ m.toNat := by push_cast; rfl
                    omega
                  rw [hp4]; simp [wT]; omega
              · have hq : pb z b = true := by
                  cases hq : pb z b with
                  | true => rfl
                  | false => exact absurd ⟨hp8, hq⟩ hu
                have hm62 : m < 63 := by
                  rcases g2 with g2 | g2
                  · omega
                  · rw [hq] at g2; cases g2
                have hle3 : (2 : Int) ^ m.toNat ≤ 4611686018427387904 := by
                  have h1 : (2 : Nat) ^ m.toNat ≤ 2 ^ 62 := Nat.pow_le_pow_right (by decide) (by omega)
                  have h3 : ((2 ^ m.toNat : Nat) : Int) = (2 : Int) ^ m.toNat := by push_cast; rfl
                  omega
                rw [hp8, hq]; simp [wT]; omega
            have hw0 : 0 ≤ wT z b v := by
              rcases g1 with g1 | g1
              · exact g1
              · have h8 : pz z ≠ 8 := fun h => hu ⟨h, g1⟩
                rw [← hw, g1]
                exact wT_nn hok h8 _
            obtain ⟨d1, _⟩ := div_in (wT z b v) m.toNat
            have d1 := d1 hw0
            unfold I64 at hwi
            rw [hPv, if_neg (by omega), Int.tdiv_eq_ediv_of_nonneg hw0, wk_n (by omega) (by omega)]
        rw [hdq, hin]
      rw [hval, c_neq, if_neg (by rw [dF (by simp)]; decide)]
  dsimp only
  have t2 : arReal .add .i64 m n = m + n := by rw [ar_add, wk_n (by omega) (by omega)]
  rw [w1, t2, c_geq]
  by_cases hs : 8 * pz z ≤ m + n
  · rw [if_pos (dT hs)]
  rw [if_neg (by rw [dF hs]; decide)]
  have hli : I64 (shV 9 (pz z) (pb z b) (wT z b v) m) := by rw [shV_9]; exact wT_i64 _ _
  have hri : I64 (shV 10 (pz z) (pb z b) (wT z b v) m) := by
    rw [← shV_in hp (pb z b) hw hwi m]; exact wT_i64 _ _
  have b1 := u9s (o := 9) (.inl rfl) (pb z b) true hok z4 hli hn
  have b2 := u9s (o := 10) (.inr rfl) (pb z b) true hok z4 hri hn
  have hmn : I64 (m + n) := by unfold I64; omega
  have b3 := u9s (o := 9) (.inl rfl) b true hz z4 hv hmn
  have b4 := u9s (o := 10) (.inr rfl) b true hz z4 hv hmn
  rw [pp, pq, cnt w2 hn0 hn1] at b1 b2
  rw [cnt w2 (by omega) (by omega)] at b3 b4
  rw [shV_in hp (pb z b) hw hwi m] at b2
  rw [b1, b2, b3, b4]
  simp only [Option.bind_some]
  have c1 : shV 9 (pz z) (pb z b) (wT (pz z) (pb z b) (shV 9 (pz z) (pb z b) (wT z b v) m)) n = shV 9 (pz z) (pb z b) (wT z b v) (m + n) := by
    rw [shV_9, shV_9, shV_9, wT_id hok, shl_add hok, show (m + n).toNat = m.toNat + n.toNat by omega]
  rw [c1, shV_add hp (pb z b) hwi hm0 hn0]
  simp only [eqq, if_true]
end Go.Proofs.YtjcabmhnekcbgaaDoor
end
section
namespace Go.Proofs.YtjcabmhnekcbgaaDoor
open Go.Ab Go.RowKit 
set_option maxRecDepth 100000
set_option maxHeartbeats 40000000
noncomputable def w7_c : Code := (Tryd.f7.body).getD .skip
theorem w7_h : Tryd.f7.body = some w7_c := by kernel_rfl
theorem w7 (r : Bool) (h : d7 = some r) : Ab.Fn Tryd.prog TT 7 [] (.b r) [] := by
  refine fn_pure tok (fun r => match r with | 7 => [[],[],[0,1],[0,1,2],[0,1,2,3],[0,1,2,3],[],[0,1,2,3,4,6],[0,1,2,3,4,5,6,7]] | 17 => [[],[0],[0,1],[0,1,2],[0,1,2],[0,1,2,3,4],[0,1,2,3,4,5],[0,1,2,3,4,5,6],[0,1,2,3,4,5,6,7],[0,1,2,3,4,5,6,7],[0,1,2,3,4,5,6,7,8,9],[0,1,2,3,4,5,6,7,8,9,10],[0,1,2,3,4,5,6,7,8,9,10,11],[0,1,2,3,4,5,6,7,8,9,10,11,12],[0,1,2,3,4,5,6,7,8,9,10,11,12,13],[0,1,2,3,4,5,6,7,8,9,10,11,12,13,14],[0,1,2,3,4,5,6,7,8,9,10,11,12,13,14,15],[0,1,2,3,4,5,6,7,8,9,10,11,12,13,14,15,16],[0,1,2,3,4,5,6,7,8,9,10,11,12,13,14,15,16,17],[0,1,2,3,4,5,6,7,8,9,10,11,12,13,14,15,16,17,18],[0,1,2,3,4,5,6,7,8,9,10,11,12,13,14,15,16,17,18,19],[0,1,2,3,4,5,6,7,8,9,10,11,12,13,14,15,16,17,18,19,20],[0,1,2,3,4,5,6,7,8,9,10,11,12,13,14,15,16,17,18,19,20,21],[0,1,2,3,4,5,6,7,8,9,10,11,12,13,14,15,16,17,18,19,20,21,22],[0,1,2,3,4,5,6,7,8,9,10,11,12,13,14,15,16,17,18,19,20,21,22,23],[0,1,2,3,4,5,6,7,8,9,10,11,12,13,14,15,16,17,18,19,20,21,22,23,24],[0,1,2,3,4,5,6,7,8,9,10,11,12,13,14,15,16,17,18,19,20,21,22,23,24,25],[0,1,2,3,4,5,6,7,8,9,10,11,12,13,14,15,16,17,18,19,20,21,22,23,24,25,26],[0,1,2,3,4,5,6,7,8,9,10,11,12,13,14,15,16,17,18,19,20,21,22,23,24,25,26,27],[0,1,2,3,4,5,6,7,8,9,10,11,12,13,14,15,16,17,18,19,20,21,22,23,24,25,26,27,28],[0,1,2,3,4,5,6,7,8,9,10,11,12,13,14,15,16,17,18,19,20,21,22,23,24,25,26,27,28,29],[0,1,2,3,4,5,6,7,8,9,10,11,12,13,14,15,16,17,18,19,20,21,22,23,24,25,26,27,28,29,30],[0,1,2,3,4,5,6,7,8,9,10,11,12,13,14,15,16,17,18,19,20,21,22,23,24,25,26,27,28,29,30,31],[0,1,2,3,4,5,6,7,8,9,10,11,12,13,14,15,16,17,18,19,20,21,22,23,24,25,26,27,28,29,30,31,32],[0,1,2,3,4,5,6,7,8,9,10,11,12,13,14,15,16,17,18,19,20,21,22,23,24,25,26,27,28,29,30,31,32,33],[0,1,2,3,4,5,6,7,8,9,10,11,12,13,14,15,16,17,18,19,20,21,22,23,24,25,26,27,28,29,30,31,32,33,34],[0,1,2,3,4,5,6,7,8,9,10,11,12,13,14,15,16,17,18,19,20,21,22,23,24,25,26,27,28,29,30,31,32,33,34,35],[0,1,2,3,4,5,6,7,8,9,10,11,12,13,14,15,16,17,18,19,20,21,22,23,24,25,26,27,28,29,30,31,32,33,34,35,36],[0,1,2,3,4,5,6,7,8,9,10,11,12,13,14,15,16,17,18,19,20,21,22,23,24,25,26,27,28,29,30,31,32,33,34,35,36,37],[0,1,2,3,4,5,6,7,8,9,10,11,12,13,14,15,16,17,18,19,20,21,22,23,24,25,26,27,28,29,30,31,32,33,34,35,36,37,38],[0,1,2,3,4,5,6,7,8,9,10,11,12,13,14,15,16,17,18,19,20,21,22,23,24,25,26,27,28,29,30,31,32,33,34,35,36,37,38,39]] | _ => []) Tryd.func7 (by kernel_rfl) w7_h (by kernel_rfl) ?_
  intro ar un cv mn mx pl mi cmp nt beq an scmp cat slen sbyte ssub ofB toB len gi gb gs gl sub put app ovl rep ne0 ge0 inb bnd room sroom need br call callb loop cut nl E R K hK
  have D := E.D
  clear E
  unfold d7 at h
  cbv
  refine R.callD h (fun x1 hx1 h2 => ?_)
  clear h; have h := h2; clear h2
  refine R.call' (w28 _ _ _ hx1) (by (first | (simp only [D.han, D.hbeq, D.hcmp, D.hscmp]; done) | rfl | (simp only [D.han, D.hbeq, D.hcmp, D.hscmp]; rfl))) ?_
  clear hx1; cbv
  refine R.callD h (fun x2 hx2 h2 => ?_)
  clear h; have h := h2; clear h2
  refine R.call' (w28 _ _ _ hx2) (by (first | (simp only [D.han, D.hbeq, D.hcmp, D.hscmp]; done) | rfl | (simp only [D.han, D.hbeq, D.hcmp, D.hscmp]; rfl))) ?_
  clear hx2; cbv
  refine R.callD h (fun x3 hx3 h2 => ?_)
  clear h; have h := h2; clear h2
  refine R.call' (w28 _ _ _ hx3) (by (first | (simp only [D.han, D.hbeq, D.hcmp, D.hscmp]; done) | rfl | (simp only [D.han, D.hbeq, D.hcmp, D.hscmp]; rfl))) ?_
  clear hx3; cbv
  refine R.callD h (fun x4 hx4 h2 => ?_)
  clear h; have h := h2; clear h2
  refine R.call' (w28 _ _ _ hx4) (by (first | (simp only [D.han, D.hbeq, D.hcmp, D.hscmp]; done) | rfl | (simp only [D.han, D.hbeq, D.hcmp, D.hscmp]; rfl))) ?_
  clear hx4; cbv
  refine R.callD h (fun x5 hx5 h2 => ?_)
  clear h; have h := h2; clear h2
  refine R.call' (w28 _ _ _ hx5) (by (first | (simp only [D.han, D.hbeq, D.hcmp, D.hscmp]; done) | rfl | (simp only [D.han, D.hbeq, D.hcmp, D.hscmp]; rfl))) ?_
  clear hx5; cbv
  refine R.callD h (fun x6 hx6 h2 => ?_)
  clear h; have h := h2; clear h2
  refine R.call' (w23 _ _ _ _ hx6) (by (first | (simp only [D.han, D.hbeq, D.hcmp, D.hscmp]; done) | rfl | (simp only [D.han, D.hbeq, D.hcmp, D.hscmp]; rfl))) ?_
  clear hx6; cbv
  refine R.callD h (fun x7 hx7 h2 => ?_)
  clear h; have h := h2; clear h2
  refine R.call' (w28 _ _ _ hx7) (by (first | (simp only [D.han, D.hbeq, D.hcmp, D.hscmp]; done) | rfl | (simp only [D.han, D.hbeq, D.hcmp, D.hscmp]; rfl))) ?_
  clear hx7; cbv
  refine R.callD h (fun x8 hx8 h2 => ?_)
  clear h; have h := h2; clear h2
  refine R.call' (w21 _ _ _ _ _ hx8) (by (first | (simp only [D.han, D.hbeq, D.hcmp, D.hscmp]; done) | rfl | (simp only [D.han, D.hbeq, D.hcmp, D.hscmp]; rfl))) ?_
  clear hx8; cbv
  refine R.callD h (fun x9 hx9 h2 => ?_)
  clear h; have h := h2; clear h2
  refine R.call' (w9 _ _ _ _ _ _ _ _ hx9) (by (first | (simp only [D.han, D.hbeq, D.hcmp, D.hscmp]; done) | rfl | (simp only [D.han, D.hbeq, D.hcmp, D.hscmp]; rfl))) ?_
  clear hx9; cbv
  refine R.callD h (fun x10 hx10 h2 => ?_)
  clear h; have h := h2; clear h2
  refine R.call' (w9 _ _ _ _ _ _ _ _ hx10) (by (first | (simp only [D.han, D.hbeq, D.hcmp, D.hscmp]; done) | rfl | (simp only [D.han, D.hbeq, D.hcmp, D.hscmp]; rfl))) ?_
  clear hx10; cbv
  refine R.callD h (fun x11 hx11 h2 => ?_)
  clear h; have h := h2; clear h2
  refine R.call' (w9 _ _ _ _ _ _ _ _ hx11) (by (first | (simp only [D.han, D.hbeq, D.hcmp, D.hscmp]; done) | rfl | (simp only [D.han, D.hbeq, D.hcmp, D.hscmp]; rfl))) ?_
  clear hx11; cbv
  refine R.callD h (fun x12 hx12 h2 => ?_)
  clear h; have h := h2; clear h2
  refine R.call' (w9 _ _ _ _ _ _ _ _ hx12) (by (first | (simp only [D.han, D.hbeq, D.hcmp, D.hscmp]; done) | rfl | (simp only [D.han, D.hbeq, D.hcmp, D.hscmp]; rfl))) ?_
  clear hx12; cbv
  refine R.callD h (fun x13 hx13 h2 => ?_)
  clear h; have h := h2; clear h2
  refine R.call' (w29 _ _ _ _ hx13) (by (first | (simp only [D.han, D.hbeq, D.hcmp, D.hscmp]; done) | rfl | (simp only [D.han, D.hbeq, D.hcmp, D.hscmp]; rfl))) ?_
  clear hx13; cbv
  refine R.callD h (fun x14 hx14 h2 => ?_)
  clear h; have h := h2; clear h2
  refine R.call' (w30 _ _ _ _ hx14) (by (first | (simp only [D.han, D.hbeq, D.hcmp, D.hscmp]; done) | rfl | (simp only [D.han, D.hbeq, D.hcmp, D.hscmp]; rfl))) ?_
  clear hx14; cbv
  refine R.callD h (fun x15 hx15 h2 => ?_)
  clear h; have h := h2; clear h2
  refine R.call' (w30 _ _ _ _ hx15) (by (first | (simp only [D.han, D.hbeq, D.hcmp, D.hscmp]; done) | rfl | (simp only [D.han, D.hbeq, D.hcmp, D.hscmp]; rfl))) ?_
  clear hx15; cbv
  refine R.cut' (by kernel_rfl) (by kernel_rfl) ?_
  cbv
  refine R.cutB (fun p => p) (fun _ _ e => e) h [] (fun p19 => [(116, .b p19)]) (fun p19 => []) (by kernel_rfl) (by kernel_rfl) (fun y18 hy hFy18 L hLy18 => ?_) (fun p19 h2 => ?_)
  · clear h; have h := hy; clear hy; cbv
    refine R.brD h (by (first | (simp only [D.han, D.hbeq, D.hcmp, D.hscmp]; done) | rfl | (simp only [D.han, D.hbeq, D.hcmp, D.hscmp]; rfl))) ?_ ?_ <;> clear h <;> intro h <;> cbv
    · obtain ⟨s', e, hi⟩ := jn_some (fun p => p) h
      refine hLy18 s' _ _ hi ⟨by kernel_rfl, ?_, ?_, by kernel_rfl, by kernel_rfl⟩ <;> cbv <;> (try (subst e; simp only [D.han, D.hbeq, D.hcmp, D.hscmp, and_self, and_true, true_and] <;> (repeat' apply And.intro) <;> rfl))
    · refine R.brD h (by (first | (simp only [D.han, D.hbeq, D.hcmp, D.hscmp]; done) | rfl | (simp only [D.han, D.hbeq, D.hcmp, D.hscmp]; rfl))) ?_ ?_ <;> clear h <;> intro h <;> cbv
      · obtain ⟨s', e, hi⟩ := jn_some (fun p => p) h
        refine hLy18 s' _ _ hi ⟨by kernel_rfl, ?_, ?_, by kernel_rfl, by kernel_rfl⟩ <;> cbv <;> (try (subst e; simp only [D.han, D.hbeq, D.hcmp, D.hscmp, and_self, and_true, true_and] <;> (repeat' apply And.intro) <;> rfl))
      · refine R.brD h (by (first | (simp only [D.han, D.hbeq, D.hcmp, D.hscmp]; done) | rfl | (simp only [D.han, D.hbeq, D.hcmp, D.hscmp]; rfl))) ?_ ?_ <;> clear h <;> intro h <;> cbv
        · obtain ⟨s', e, hi⟩ := jn_some (fun p => p) h
          refine hLy18 s' _ _ hi ⟨by kernel_rfl, ?_, ?_, by kernel_rfl, by kernel_rfl⟩ <;> cbv <;> (try (subst e; simp only [D.han, D.hbeq, D.hcmp, D.hscmp, and_self, and_true, true_and] <;> (repeat' apply And.intro) <;> rfl))
        · refine R.brD h (by (first | (simp only [D.han, D.hbeq, D.hcmp, D.hscmp]; done) | rfl | (simp only [D.han, D.hbeq, D.hcmp, D.hscmp]; rfl))) ?_ ?_ <;> clear h <;> intro h <;> cbv
          · obtain ⟨s', e, hi⟩ := jn_some (fun p => p) h
            refine hLy18 s' _ _ hi ⟨by kernel_rfl, ?_, ?_, by kernel_rfl, by kernel_rfl⟩ <;> cbv <;> (try (subst e; simp only [D.han, D.hbeq, D.hcmp, D.hscmp, and_self, and_true, true_and] <;> (repeat' apply And.intro) <;> rfl))
          · refine R.brD h (by (first | (simp only [D.han, D.hbeq, D.hcmp, D.hscmp]; done) | rfl | (simp only [D.han, D.hbeq, D.hcmp, D.hscmp]; rfl))) ?_ ?_ <;> clear h <;> intro h <;> cbv
            · obtain ⟨s', e, hi⟩ := jn_some (fun p => p) h
              refine hLy18 s' _ _ hi ⟨by kernel_rfl, ?_, ?_, by kernel_rfl, by kernel_rfl⟩ <;> cbv <;> (try (subst e; simp only [D.han, D.hbeq, D.hcmp, D.hscmp, and_self, and_true, true_and] <;> (repeat' apply And.intro) <;> rfl))
            · refine R.brD h (by (first | (simp only [D.han, D.hbeq, D.hcmp, D.hscmp]; done) | rfl | (simp only [D.han, D.hbeq, D.hcmp, D.hscmp]; rfl))) ?_ ?_ <;> clear h <;> intro h <;> cbv
              · obtain ⟨s', e, hi⟩ := jn_some (fun p => p) h
                refine hLy18 s' _ _ hi ⟨by kernel_rfl, ?_, ?_, by kernel_rfl, by kernel_rfl⟩ <;> cbv <;> (try (subst e; simp only [D.han, D.hbeq, D.hcmp, D.hscmp, and_self, and_true, true_and] <;> (repeat' apply And.intro) <;> rfl))
              · refine R.brD h (by (first | (simp only [D.han, D.hbeq, D.hcmp, D.hscmp]; done) | rfl | (simp only [D.han, D.hbeq, D.hcmp, D.hscmp]; rfl))) ?_ ?_ <;> clear h <;> intro h <;> cbv
                · obtain ⟨s', e, hi⟩ := jn_some (fun p => p) h
                  refine hLy18 s' _ _ hi ⟨by kernel_rfl, ?_, ?_, by kernel_rfl, by kernel_rfl⟩ <;> cbv <;> (try (subst e; simp only [D.han, D.hbeq, D.hcmp, D.hscmp, and_self, and_true, true_and] <;> (repeat' apply And.intro) <;> rfl))
                · obtain ⟨s', e, hi⟩ := jn_some (fun p => p) h
                  refine hLy18 s' _ _ hi ⟨by kernel_rfl, ?_, ?_, by kernel_rfl, by kernel_rfl⟩ <;> cbv <;> (try (subst e; simp only [D.han, D.hbeq, D.hcmp, D.hscmp, and_self, and_true, true_and] <;> (repeat' apply And.intro) <;> rfl))
  · clear h; have h := h2; clear h2; try dsimp only at h
    cbv
    refine R.brD h (by (first | (simp only [D.han, D.hbeq, D.hcmp, D.hscmp]; done) | rfl | (simp only [D.han, D.hbeq, D.hcmp, D.hscmp]; rfl))) ?_ ?_ <;> clear h <;> intro h <;> cbv
    · have e := ret_some h; clear h
      refine hK _ _ ?_
      cbv
      try (subst e; simp only [D.han, D.hbeq, D.hcmp, D.hscmp, and_self, and_true, true_and] <;> (repeat' apply And.intro) <;> rfl)
    · refine R.cut' (by kernel_rfl) (by kernel_rfl) ?_
      cbv
      refine R.brD h (by (first | (simp only [D.han, D.hbeq, D.hcmp, D.hscmp]; done) | rfl | (simp only [D.han, D.hbeq, D.hcmp, D.hscmp]; rfl))) ?_ ?_ <;> clear h <;> intro h <;> cbv
      · refine R.callD h (fun x21 hx21 h2 => ?_)
        clear h; have h := h2; clear h2
        refine R.call' (w28 _ _ _ hx21) (by (first | (simp only [D.han, D.hbeq, D.hcmp, D.hscmp]; done) | rfl | (simp only [D.han, D.hbeq, D.hcmp, D.hscmp]; rfl))) ?_
        clear hx21; cbv
        refine R.brD h (by (first | (simp only [D.han, D.hbeq, D.hcmp, D.hscmp]; done) | rfl | (simp only [D.han, D.hbeq, D.hcmp, D.hscmp]; rfl))) ?_ ?_ <;> clear h <;> intro h <;> cbv
        · refine R.brD h (by (first | (simp only [D.han, D.hbeq, D.hcmp, D.hscmp]; done) | rfl | (simp only [D.han, D.hbeq, D.hcmp, D.hscmp]; rfl))) ?_ ?_ <;> clear h <;> intro h <;> cbv
          · refine R.brD h (by (first | (simp only [D.han, D.hbeq, D.hcmp, D.hscmp]; done) | rfl | (simp only [D.han, D.hbeq, D.hcmp, D.hscmp]; rfl))) ?_ ?_ <;> clear h <;> intro h <;> cbv
            · refine R.brD h (by (first | (simp only [D.han, D.hbeq, D.hcmp, D.hscmp]; done) | rfl | (simp only [D.han, D.hbeq, D.hcmp, D.hscmp]; rfl))) ?_ ?_ <;> clear h <;> intro h <;> cbv
              · refine R.brD h (by (first | (simp only [D.han, D.hbeq, D.hcmp, D.hscmp]; done) | rfl | (simp only [D.han, D.hbeq, D.hcmp, D.hscmp]; rfl))) ?_ ?_ <;> clear h <;> intro h <;> cbv
                · refine R.brD h (by (first | (simp only [D.han, D.hbeq, D.hcmp, D.hscmp]; done) | rfl | (simp only [D.han, D.hbeq, D.hcmp, D.hscmp]; rfl))) ?_ ?_ <;> clear h <;> intro h <;> cbv
                  · refine R.brD h (by (first | (simp only [D.han, D.hbeq, D.hcmp, D.hscmp]; done) | rfl | (simp only [D.han, D.hbeq, D.hcmp, D.hscmp]; rfl))) ?_ ?_ <;> clear h <;> intro h <;> cbv
                    · refine R.brD h (by (first | (simp only [D.han, D.hbeq, D.hcmp, D.hscmp]; done) | rfl | (simp only [D.han, D.hbeq, D.hcmp, D.hscmp]; rfl))) ?_ ?_ <;> clear h <;> intro h <;> cbv
                      · have e := ret_some h; clear h
                        refine hK _ _ ?_
                        cbv
                        try (subst e; simp only [D.han, D.hbeq, D.hcmp, D.hscmp, and_self, and_true, true_and] <;> (repeat' apply And.intro) <;> rfl)
                      · have e := ret_some h; clear h
                        refine hK _ _ ?_
                        cbv
                        try (subst e; simp only [D.han, D.hbeq, D.hcmp, D.hscmp, and_self, and_true, true_and] <;> (repeat' apply And.intro) <;> rfl)
                    · have e := ret_some h; clear h
                      refine hK _ _ ?_
                      cbv
                      try (subst e; simp only [D.han, D.hbeq, D.hcmp, D.hscmp, and_self, and_true, true_and] <;> (repeat' apply And.intro) <;> rfl)
                  · have e := ret_some h; clear h
                    refine hK _ _ ?_
                    cbv
                    try (subst e; simp only [D.han, D.hbeq, D.hcmp, D.hscmp, and_self, and_true, true_and] <;> (repeat' apply And.intro) <;> rfl)
                · have e := ret_some h; clear h
                  refine hK _ _ ?_
                  cbv
                  try (subst e; simp only [D.han, D.hbeq, D.hcmp, D.hscmp, and_self, and_true, true_and] <;> (repeat' apply And.intro) <;> rfl)
              · have e := ret_some h; clear h
                refine hK _ _ ?_
                cbv
                try (subst e; simp only [D.han, D.hbeq, D.hcmp, D.hscmp, and_self, and_true, true_and] <;> (repeat' apply And.intro) <;> rfl)
            · have e := ret_some h; clear h
              refine hK _ _ ?_
              cbv
              try (subst e; simp only [D.han, D.hbeq, D.hcmp, D.hscmp, and_self, and_true, true_and] <;> (repeat' apply And.intro) <;> rfl)
          · have e := ret_some h; clear h
            refine hK _ _ ?_
            cbv
            try (subst e; simp only [D.han, D.hbeq, D.hcmp, D.hscmp, and_self, and_true, true_and] <;> (repeat' apply And.intro) <;> rfl)
        · have e := ret_some h; clear h
          refine hK _ _ ?_
          cbv
          try (subst e; simp only [D.han, D.hbeq, D.hcmp, D.hscmp, and_self, and_true, true_and] <;> (repeat' apply And.intro) <;> rfl)
      · have e := ret_some h; clear h
        refine hK _ _ ?_
        cbv
        try (subst e; simp only [D.han, D.hbeq, D.hcmp, D.hscmp, and_self, and_true, true_and] <;> (repeat' apply And.intro) <;> rfl)
end Go.Proofs.YtjcabmhnekcbgaaDoor
end
section
namespace Go.Proofs.YtjcabmhnekcbgaaDoor
open Go.Ab Go.RowKit 
set_option maxRecDepth 100000
set_option maxHeartbeats 40000000
end Go.Proofs.YtjcabmhnekcbgaaDoor
end
section
namespace Go.Proofs.YtjcabmhnekcbgaaDoor
open Go.Ab Go.RowKit 
set_option maxRecDepth 100000
set_option maxHeartbeats 40000000
end Go.Proofs.YtjcabmhnekcbgaaDoor
end
section
namespace Go.Proofs.YtjcabmhnekcbgaaDoor
open Go.Ab Go.RowKit 
set_option maxRecDepth 100000
set_option maxHeartbeats 40000000
end Go.Proofs.YtjcabmhnekcbgaaDoor
end
section
namespace Go.Proofs.YtjcabmhnekcbgaaDoor
open Go.Ab Go.RowKit 
set_option maxRecDepth 100000
set_option maxHeartbeats 40000000
end Go.Proofs.YtjcabmhnekcbgaaDoor
end
