/- Texts of this seat, merged in build order. No statement of its own. -/
import Derived.Test.YtdejapkfijdadaaBB4
set_option linter.unusedVariables false
set_option linter.unusedSimpArgs false
section
namespace Go.Proofs.Ytdejapkfijdadaa
open Go.Ab Go.RowKit 
set_option maxRecDepth 100000
set_option maxHeartbeats 40000000
noncomputable def d22 (a0 : Int) (a1 : Int) : Option (Int × List V × Int × Int × Int × Int × List V × Int × Bool × Bool × List V × Int × Int) :=
  Option.bind (α := Bool) (
    if (cmpLit .lss a0 1) = true then
      some true
    else
      if (cmpLit .gtr a0 3) = true then
        some true
      else
        if (cmpLit .lss a1 64) = true then
          some true
        else
          some (cmpLit .gtr a1 4096)) fun y3 =>
  if y3 = true then
    some (0, [], 0, 0, 0, 0, [], 0, false, false, [], 0, 1)
  else
    if (Ge0 a1) then
      if (Room a1 1) then
        some (a0, (repL a1 (.i .u8 0)), 0, 0, 0, 0, [], 0, false, false, [], 0, 0)
      else none
    else none
noncomputable def w22_c : Code := (Try.f22.body).getD .skip
theorem w22_h : Try.f22.body = some w22_c := by kernel_rfl
theorem w22 (a0 : Int) (a1 : Int) (r : Int × List V × Int × Int × Int × Int × List V × Int × Bool × Bool × List V × Int × Int) (h : d22 a0 a1 = some r) : Ab.Fn Try.prog TT 22 [.i .i64 a0, .i .i64 a1] (.agg [.i .i64 r.1, .row 0, .i .i64 r.2.2.1, .i .i64 r.2.2.2.1, .i .i64 r.2.2.2.2.1, .i .i64 r.2.2.2.2.2.1, .sl 5 r.2.2.2.2.2.2.1, .i .i64 r.2.2.2.2.2.2.2.1, .b r.2.2.2.2.2.2.2.2.1, .b r.2.2.2.2.2.2.2.2.2.1, .sl 33 r.2.2.2.2.2.2.2.2.2.2.1, .i .i64 r.2.2.2.2.2.2.2.2.2.2.2.1, .i .i64 r.2.2.2.2.2.2.2.2.2.2.2.2]) [(0, .row 5 r.2.1)] := by
  refine fn_own tok W0 Try.func22 (by kernel_rfl) w22_h (by kernel_rfl) ?_
  intro ar un cv mn mx pl mi cmp nt beq an scmp cat slen sbyte ssub ofB toB len gi gb gs gl sub put app ovl rep ne0 ge0 inb bnd room sroom need br call callb loop cut nl E R K hK
  have D := E.D
  clear E
  unfold d22 at h
  cbv
  refine R.cut' (by kernel_rfl) (by kernel_rfl) ?_
  cbv
  refine R.cutB (fun p => p) (fun _ _ e => e) h [] (fun p4 => [(18, .b p4)]) (fun p4 => []) (by kernel_rfl) (by kernel_rfl) (fun y3 hy hFy3 L hLy3 => ?_) (fun p4 h2 => ?_)
  · clear h; have h := hy; clear hy; cbv
    refine R.brD h (by (first | rfl | (simp only [D.hcmp, D.hge0, D.hrep, D.hroom]; done) | (simp only [D.hcmp, D.hge0, D.hrep, D.hroom]; rfl))) ?_ ?_ <;> clear h <;> intro h <;> cbv
    · obtain ⟨s', e, hi⟩ := jn_some (fun p => p) h
      refine hLy3 s' _ _ hi ⟨rfl, ?_, ?_, rfl, rfl⟩ <;> cbv <;> (try (subst e; simp only [D.hcmp, D.hge0, D.hrep, D.hroom, and_self, and_true, true_and] <;> (repeat' apply And.intro) <;> rfl))
    · refine R.brD h (by (first | rfl | (simp only [D.hcmp, D.hge0, D.hrep, D.hroom]; done) | (simp only [D.hcmp, D.hge0, D.hrep, D.hroom]; rfl))) ?_ ?_ <;> clear h <;> intro h <;> cbv
      · obtain ⟨s', e, hi⟩ := jn_some (fun p => p) h
        refine hLy3 s' _ _ hi ⟨rfl, ?_, ?_, rfl, rfl⟩ <;> cbv <;> (try (subst e; simp only [D.hcmp, D.hge0, D.hrep, D.hroom, and_self, and_true, true_and] <;> (repeat' apply And.intro) <;> rfl))
      · refine R.brD h (by (first | rfl | (simp only [D.hcmp, D.hge0, D.hrep, D.hroom]; done) | (simp only [D.hcmp, D.hge0, D.hrep, D.hroom]; rfl))) ?_ ?_ <;> clear h <;> intro h <;> cbv
        · obtain ⟨s', e, hi⟩ := jn_some (fun p => p) h
          refine hLy3 s' _ _ hi ⟨rfl, ?_, ?_, rfl, rfl⟩ <;> cbv <;> (try (subst e; simp only [D.hcmp, D.hge0, D.hrep, D.hroom, and_self, and_true, true_and] <;> (repeat' apply And.intro) <;> rfl))
        · obtain ⟨s', e, hi⟩ := jn_some (fun p => p) h
          refine hLy3 s' _ _ hi ⟨rfl, ?_, ?_, rfl, rfl⟩ <;> cbv <;> (try (subst e; simp only [D.hcmp, D.hge0, D.hrep, D.hroom, and_self, and_true, true_and] <;> (repeat' apply And.intro) <;> rfl))
  · clear h; have h := h2; clear h2; try dsimp only at h
    cbv
    refine R.brD h (by (first | rfl | (simp only [D.hcmp, D.hge0, D.hrep, D.hroom]; done) | (simp only [D.hcmp, D.hge0, D.hrep, D.hroom]; rfl))) ?_ ?_ <;> clear h <;> intro h <;> cbv
    · have e := ret_some h; clear h
      refine hK _ _ ⟨rfl, ⟨?_, rfl, rfl, rfl, ?_⟩⟩ <;> cbv <;> (try (subst e; simp only [D.hcmp, D.hge0, D.hrep, D.hroom, and_self, and_true, true_and] <;> (repeat' apply And.intro) <;> rfl))
    · refine R.needD h (by (first | rfl | (simp only [D.hcmp, D.hge0, D.hrep, D.hroom]; done) | (simp only [D.hcmp, D.hge0, D.hrep, D.hroom]; rfl))) ?_
      clear h; intro h; cbv
      refine R.needD h (by (first | rfl | (simp only [D.hcmp, D.hge0, D.hrep, D.hroom]; done) | (simp only [D.hcmp, D.hge0, D.hrep, D.hroom]; rfl))) ?_
      clear h; intro h; cbv
      have e := ret_some h; clear h
      refine hK _ _ ⟨rfl, ⟨?_, rfl, rfl, rfl, ?_⟩⟩ <;> cbv <;> (try (subst e; simp only [D.hcmp, D.hge0, D.hrep, D.hroom, and_self, and_true, true_and] <;> (repeat' apply And.intro) <;> rfl))
theorem w22s (a0 : Int) (a1 : Int) (r : Int × List V × Int × Int × Int × Int × List V × Int × Bool × Bool × List V × Int × Int) (h : d22 a0 a1 = some r) : Ab.Fn Try.prog TT 22 [.i .i64 a0, .i .i64 a1] (.agg [.i .i64 r.1, .sl 5 r.2.1, .i .i64 r.2.2.1, .i .i64 r.2.2.2.1, .i .i64 r.2.2.2.2.1, .i .i64 r.2.2.2.2.2.1, .sl 5 r.2.2.2.2.2.2.1, .i .i64 r.2.2.2.2.2.2.2.1, .b r.2.2.2.2.2.2.2.2.1, .b r.2.2.2.2.2.2.2.2.2.1, .sl 33 r.2.2.2.2.2.2.2.2.2.2.1, .i .i64 r.2.2.2.2.2.2.2.2.2.2.2.1, .i .i64 r.2.2.2.2.2.2.2.2.2.2.2.2]) [] :=
  (w22 a0 a1 r h).pure (by simp [ple, ple1, ple1L, pleL, pleS, Ab.look])

noncomputable def d23 (a0_0 : Int) (a0_1 : List V) (a0_2 : Int) (a0_3 : Int) (a0_4 : Int) (a0_5 : Int) (a0_6 : List V) (a0_7 : Int) (a0_8 : Bool) (a1_0 : Int) (a1_1 : List V) (a1_2 : Int) (a1_3 : Int) (a1_4 : Int) (a1_5 : Int) (a1_6 : List V) (a1_7 : Int) (a1_8 : Bool) : Option (Bool) :=
  if (cmpLit .eql a0_0 a1_0) = true then
    if (strCmp .eql (toBy a0_1) (toBy a1_1)) = true then
      if (cmpLit .eql a0_2 a1_2) = true then
        if (cmpLit .eql a0_3 a1_3) = true then
          if (cmpLit .eql a0_4 a1_4) = true then
            if (cmpLit .eql a0_5 a1_5) = true then
              if (strCmp .eql (toBy a0_6) (toBy a1_6)) = true then
                if (cmpLit .eql a0_7 a1_7) = true then
                  some (beqB a0_8 a1_8)
                else
                  some false
              else
                some false
            else
              some false
          else
            some false
        else
          some false
      else
        some false
    else
      some false
  else
    some false
noncomputable def w23_c : Code := (Try.f23.body).getD .skip
theorem w23_h : Try.f23.body = some w23_c := by kernel_rfl
theorem w23 (a0_0 : Int) (a0_1 : List V) (a0_2 : Int) (a0_3 : Int) (a0_4 : Int) (a0_5 : Int) (a0_6 : List V) (a0_7 : Int) (a0_8 : Bool) (a1_0 : Int) (a1_1 : List V) (a1_2 : Int) (a1_3 : Int) (a1_4 : Int) (a1_5 : Int) (a1_6 : List V) (a1_7 : Int) (a1_8 : Bool) (r : Bool) (h : d23 a0_0 a0_1 a0_2 a0_3 a0_4 a0_5 a0_6 a0_7 a0_8 a1_0 a1_1 a1_2 a1_3 a1_4 a1_5 a1_6 a1_7 a1_8 = some r) : Ab.Fn Try.prog TT 23 [.agg [.i .i64 a0_0, .sl 5 a0_1, .i .i64 a0_2, .i .i64 a0_3, .i .i64 a0_4, .i .i64 a0_5, .sl 5 a0_6, .i .i64 a0_7, .b a0_8], .agg [.i .i64 a1_0, .sl 5 a1_1, .i .i64 a1_2, .i .i64 a1_3, .i .i64 a1_4, .i .i64 a1_5, .sl 5 a1_6, .i .i64 a1_7, .b a1_8]] (.b r) [] := by
  refine fn_pure tok W0 Try.func23 (by kernel_rfl) w23_h (by kernel_rfl) ?_
  intro ar un cv mn mx pl mi cmp nt beq an scmp cat slen sbyte ssub ofB toB len gi gb gs gl sub put app ovl rep ne0 ge0 inb bnd room sroom need br call callb loop cut nl E R K hK
  have D := E.D
  clear E
  unfold d23 at h
  cbv
  refine R.cut' (by kernel_rfl) (by kernel_rfl) ?_
  cbv
  refine R.brD h (by (first | rfl | (simp only [D.hbeq, D.hcmp, D.hscmp, D.htoB]; done) | (simp only [D.hbeq, D.hcmp, D.hscmp, D.htoB]; rfl))) ?_ ?_ <;> clear h <;> intro h <;> cbv
  · refine R.brD h (by (first | rfl | (simp only [D.hbeq, D.hcmp, D.hscmp, D.htoB]; done) | (simp only [D.hbeq, D.hcmp, D.hscmp, D.htoB]; rfl))) ?_ ?_ <;> clear h <;> intro h <;> cbv
    · refine R.brD h (by (first | rfl | (simp only [D.hbeq, D.hcmp, D.hscmp, D.htoB]; done) | (simp only [D.hbeq, D.hcmp, D.hscmp, D.htoB]; rfl))) ?_ ?_ <;> clear h <;> intro h <;> cbv
      · refine R.brD h (by (first | rfl | (simp only [D.hbeq, D.hcmp, D.hscmp, D.htoB]; done) | (simp only [D.hbeq, D.hcmp, D.hscmp, D.htoB]; rfl))) ?_ ?_ <;> clear h <;> intro h <;> cbv
        · refine R.brD h (by (first | rfl | (simp only [D.hbeq, D.hcmp, D.hscmp, D.htoB]; done) | (simp only [D.hbeq, D.hcmp, D.hscmp, D.htoB]; rfl))) ?_ ?_ <;> clear h <;> intro h <;> cbv
          · refine R.brD h (by (first | rfl | (simp only [D.hbeq, D.hcmp, D.hscmp, D.htoB]; done) | (simp only [D.hbeq, D.hcmp, D.hscmp, D.htoB]; rfl))) ?_ ?_ <;> clear h <;> intro h <;> cbv
            · refine R.brD h (by (first | rfl | (simp only [D.hbeq, D.hcmp, D.hscmp, D.htoB]; done) | (simp only [D.hbeq, D.hcmp, D.hscmp, D.htoB]; rfl))) ?_ ?_ <;> clear h <;> intro h <;> cbv
              · refine R.brD h (by (first | rfl | (simp only [D.hbeq, D.hcmp, D.hscmp, D.htoB]; done) | (simp only [D.hbeq, D.hcmp, D.hscmp, D.htoB]; rfl))) ?_ ?_ <;> clear h <;> intro h <;> cbv
                · have e := ret_some h; clear h
                  refine hK _ _ ?_
                  cbv
                  try (subst e; simp only [D.hbeq, D.hcmp, D.hscmp, D.htoB, and_self, and_true, true_and] <;> (repeat' apply And.intro) <;> rfl)
                · have e := ret_some h; clear h
                  refine hK _ _ ?_
                  cbv
                  try (subst e; simp only [D.hbeq, D.hcmp, D.hscmp, D.htoB, and_self, and_true, true_and] <;> (repeat' apply And.intro) <;> rfl)
              · have e := ret_some h; clear h
                refine hK _ _ ?_
                cbv
                try (subst e; simp only [D.hbeq, D.hcmp, D.hscmp, D.htoB, and_self, and_true, true_and] <;> (repeat' apply And.intro) <;> rfl)
            · have e := ret_some h; clear h
              refine hK _ _ ?_
              cbv
              try (subst e; simp only [D.hbeq, D.hcmp, D.hscmp, D.htoB, and_self, and_true, true_and] <;> (repeat' apply And.intro) <;> rfl)
          · have e := ret_some h; clear h
            refine hK _ _ ?_
            cbv
            try (subst e; simp only [D.hbeq, D.hcmp, D.hscmp, D.htoB, and_self, and_true, true_and] <;> (repeat' apply And.intro) <;> rfl)
        · have e := ret_some h; clear h
          refine hK _ _ ?_
          cbv
          try (subst e; simp only [D.hbeq, D.hcmp, D.hscmp, D.htoB, and_self, and_true, true_and] <;> (repeat' apply And.intro) <;> rfl)
      · have e := ret_some h; clear h
        refine hK _ _ ?_
        cbv
        try (subst e; simp only [D.hbeq, D.hcmp, D.hscmp, D.htoB, and_self, and_true, true_and] <;> (repeat' apply And.intro) <;> rfl)
    · have e := ret_some h; clear h
      refine hK _ _ ?_
      cbv
      try (subst e; simp only [D.hbeq, D.hcmp, D.hscmp, D.htoB, and_self, and_true, true_and] <;> (repeat' apply And.intro) <;> rfl)
  · have e := ret_some h; clear h
    refine hK _ _ ?_
    cbv
    try (subst e; simp only [D.hbeq, D.hcmp, D.hscmp, D.htoB, and_self, and_true, true_and] <;> (repeat' apply And.intro) <;> rfl)

noncomputable def d27 (a0_0 : Int) (a0_1 : List V) (a0_2 : Int) (a0_3 : Int) (a0_4 : Int) (a0_5 : Int) (a0_6 : List V) (a0_7 : Int) (a0_8 : Bool) : Option (List V × Int × Int) :=
  (d29 a0_0 a0_1 a0_2 a0_3 a0_4 a0_5 a0_6 a0_7 a0_8).bind fun x2 =>
  if (cmpLit .neq x2 0) = true then
    some ([], 0, x2)
  else
    (d51 a0_6).bind fun x3 =>
    some (x3.1, a0_7, 0)
noncomputable def w27_c : Code := (Try.f27.body).getD .skip
theorem w27_h : Try.f27.body = some w27_c := by kernel_rfl
theorem w27 (a0_0 : Int) (a0_1 : List V) (a0_2 : Int) (a0_3 : Int) (a0_4 : Int) (a0_5 : Int) (a0_6 : List V) (a0_7 : Int) (a0_8 : Bool) (r : List V × Int × Int) (h : d27 a0_0 a0_1 a0_2 a0_3 a0_4 a0_5 a0_6 a0_7 a0_8 = some r) : Ab.Fn Try.prog TT 27 [.agg [.i .i64 a0_0, .sl 5 a0_1, .i .i64 a0_2, .i .i64 a0_3, .i .i64 a0_4, .i .i64 a0_5, .sl 5 a0_6, .i .i64 a0_7, .b a0_8]] (.tup [.row 0, .i .i64 r.2.1, .i .i64 r.2.2]) [(0, .row 33 r.1)] := by
  refine fn_own tok (fun r => match r with | 5 => [[],[],[1],[0],[0,1,2,3],[0,1,2,3,4]] | _ => []) Try.func27 (by kernel_rfl) w27_h (by kernel_rfl) ?_
  intro ar un cv mn mx pl mi cmp nt beq an scmp cat slen sbyte ssub ofB toB len gi gb gs gl sub put app ovl rep ne0 ge0 inb bnd room sroom need br call callb loop cut nl E R K hK
  have D := E.D
  clear E
  unfold d27 at h
  cbv
  refine R.cut' (by kernel_rfl) (by kernel_rfl) ?_
  cbv
  refine R.callD h (fun x2 hx2 h2 => ?_)
  clear h; have h := h2; clear h2
  refine R.call' (w29 _ _ _ _ _ _ _ _ _ _ hx2) (by (first | rfl | (simp only [D.hcmp]; done) | (simp only [D.hcmp]; rfl))) ?_
  clear hx2; cbv
  refine R.brD h (by (first | rfl | (simp only [D.hcmp]; done) | (simp only [D.hcmp]; rfl))) ?_ ?_ <;> clear h <;> intro h <;> cbv
  · have e := ret_some h; clear h
    refine hK _ _ ⟨rfl, ⟨?_, rfl, rfl, rfl, ?_⟩⟩ <;> cbv <;> (try (subst e; simp only [D.hcmp, and_self, and_true, true_and] <;> (repeat' apply And.intro) <;> rfl))
  · refine R.callBD h (fun x3 hx3 h2 => ?_)
    clear h; have h := h2; clear h2
    refine R.callB [(0, 256)] (w51 a0_6 _ hx3) ?_ ?_ rfl ?_
    · cbv <;> (try simp only [D.hcmp, and_self, and_true, true_and] <;> (repeat' apply And.intro) <;> rfl)
    · cbv <;> (try simp only [D.hcmp, and_self, and_true, true_and] <;> (repeat' apply And.intro) <;> rfl)
    clear hx3; cbv
    have e := ret_some h; clear h
    refine hK _ _ ⟨rfl, ⟨?_, rfl, rfl, rfl, ?_⟩⟩ <;> cbv <;> (try (subst e; simp only [D.hcmp, and_self, and_true, true_and] <;> (repeat' apply And.intro) <;> rfl))
theorem w27s (a0_0 : Int) (a0_1 : List V) (a0_2 : Int) (a0_3 : Int) (a0_4 : Int) (a0_5 : Int) (a0_6 : List V) (a0_7 : Int) (a0_8 : Bool) (r : List V × Int × Int) (h : d27 a0_0 a0_1 a0_2 a0_3 a0_4 a0_5 a0_6 a0_7 a0_8 = some r) : Ab.Fn Try.prog TT 27 [.agg [.i .i64 a0_0, .sl 5 a0_1, .i .i64 a0_2, .i .i64 a0_3, .i .i64 a0_4, .i .i64 a0_5, .sl 5 a0_6, .i .i64 a0_7, .b a0_8]] (.tup [.sl 33 r.1, .i .i64 r.2.1, .i .i64 r.2.2]) [] :=
  (w27 a0_0 a0_1 a0_2 a0_3 a0_4 a0_5 a0_6 a0_7 a0_8 r h).pure (by simp [ple, ple1, ple1L, pleL, pleS, Ab.look])

noncomputable def d28 (a0_0 : Int) (a0_1 : List V) (a0_2 : Int) (a0_3 : Int) (a0_4 : Int) (a0_5 : Int) (a0_6 : List V) (a0_7 : Int) (a0_8 : Bool) : Option (Int × List V × Int × Int × Int × Int × List V × Int × Bool × List V × Int × Int) :=
  (d29 a0_0 a0_1 a0_2 a0_3 a0_4 a0_5 a0_6 a0_7 a0_8).bind fun x2 =>
  if (cmpLit .neq x2 0) = true then
    some (0, [], 0, 0, 0, 0, [], 0, false, [], 0, x2)
  else
    (d48 a0_0 a0_1 a0_2 a0_3 a0_4 a0_5 a0_6 a0_7 a0_8).bind fun x3 =>
    (d56v1 x3.1 x3.2.2.1 x3.2.2.2.1 x3.2.2.2.2.1 x3.2.2.2.2.2.1 x3.2.2.2.2.2.2.2.1 x3.2.2.2.2.2.2.2.2 x3.2.1 x3.2.2.2.2.2.2.1).bind fun x4 =>
    (d50v2 a0_0 a0_1 a0_2 a0_3 a0_4 a0_5 a0_6 a0_7 a0_8).bind fun x5 =>
    some (x3.1, x4, 0, 0, 0, 0, x3.2.2.2.2.2.2.1, x3.2.2.2.2.2.2.2.1, x3.2.2.2.2.2.2.2.2, x5, a0_5, 0)
noncomputable def w28_c : Code := (Try.f28.body).getD .skip
theorem w28_h : Try.f28.body = some w28_c := by kernel_rfl
theorem w28 (a0_0 : Int) (a0_1 : List V) (a0_2 : Int) (a0_3 : Int) (a0_4 : Int) (a0_5 : Int) (a0_6 : List V) (a0_7 : Int) (a0_8 : Bool) (r : Int × List V × Int × Int × Int × Int × List V × Int × Bool × List V × Int × Int) (h : d28 a0_0 a0_1 a0_2 a0_3 a0_4 a0_5 a0_6 a0_7 a0_8 = some r) : Ab.Fn Try.prog TT 28 [.agg [.i .i64 a0_0, .sl 5 a0_1, .i .i64 a0_2, .i .i64 a0_3, .i .i64 a0_4, .i .i64 a0_5, .sl 5 a0_6, .i .i64 a0_7, .b a0_8]] (.tup [.agg [.i .i64 r.1, .row 0, .i .i64 r.2.2.1, .i .i64 r.2.2.2.1, .i .i64 r.2.2.2.2.1, .i .i64 r.2.2.2.2.2.1, .row 1, .i .i64 r.2.2.2.2.2.2.2.1, .b r.2.2.2.2.2.2.2.2.1], .row 2, .i .i64 r.2.2.2.2.2.2.2.2.2.2.1, .i .i64 r.2.2.2.2.2.2.2.2.2.2.2]) [(0, .row 5 r.2.1), (1, .row 5 r.2.2.2.2.2.2.1), (2, .row 33 r.2.2.2.2.2.2.2.2.2.1)] := by
  refine fn_own tok (fun r => match r with | 6 => [[],[],[1],[],[3],[0,1,2],[0,1,2,5],[0,1,2,3,4,5,6],[0,1,2,3,4,5,6,7]] | _ => []) Try.func28 (by kernel_rfl) w28_h (by kernel_rfl) ?_
  intro ar un cv mn mx pl mi cmp nt beq an scmp cat slen sbyte ssub ofB toB len gi gb gs gl sub put app ovl rep ne0 ge0 inb bnd room sroom need br call callb loop cut nl E R K hK
  have D := E.D
  clear E
  unfold d28 at h
  cbv
  refine R.cut' (by kernel_rfl) (by kernel_rfl) ?_
  cbv
  refine R.callD h (fun x2 hx2 h2 => ?_)
  clear h; have h := h2; clear h2
  refine R.call' (w29 _ _ _ _ _ _ _ _ _ _ hx2) (by (first | rfl | (simp only [D.hcmp]; done) | (simp only [D.hcmp]; rfl))) ?_
  clear hx2; cbv
  refine R.brD h (by (first | rfl | (simp only [D.hcmp]; done) | (simp only [D.hcmp]; rfl))) ?_ ?_ <;> clear h <;> intro h <;> cbv
  · have e := ret_some h; clear h
    refine hK _ _ ⟨rfl, ⟨?_, rfl, rfl, rfl, ?_⟩⟩ <;> cbv <;> (try (subst e; simp only [D.hcmp, and_self, and_true, true_and] <;> (repeat' apply And.intro) <;> rfl))
  · refine R.callD h (fun x3 hx3 h2 => ?_)
    clear h; have h := h2; clear h2
    refine R.call' (w48 _ _ _ _ _ _ _ _ _ _ hx3) (by (first | rfl | (simp only [D.hcmp]; done) | (simp only [D.hcmp]; rfl))) ?_
    clear hx3; cbv
    refine R.callBD h (fun x4 hx4 h2 => ?_)
    clear h; have h := h2; clear h2
    refine R.callB [(900000, 112), (900100, 240), (900200, 241)] (w56v1 x3.1 x3.2.2.1 x3.2.2.2.1 x3.2.2.2.2.1 x3.2.2.2.2.2.1 x3.2.2.2.2.2.2.2.1 x3.2.2.2.2.2.2.2.2 x3.2.1 x3.2.2.2.2.2.2.1 _ hx4) ?_ ?_ rfl ?_
    · cbv <;> (try simp only [D.hcmp, and_self, and_true, true_and] <;> (repeat' apply And.intro) <;> rfl)
    · cbv <;> (try simp only [D.hcmp, and_self, and_true, true_and] <;> (repeat' apply And.intro) <;> rfl)
    clear hx4; cbv
    refine R.callBD h (fun x5 hx5 h2 => ?_)
    clear h; have h := h2; clear h2
    refine R.callB [(0, 304)] (w50v2 a0_0 a0_1 a0_2 a0_3 a0_4 a0_5 a0_6 a0_7 a0_8 _ hx5) ?_ ?_ rfl ?_
    · cbv <;> (try simp only [D.hcmp, and_self, and_true, true_and] <;> (repeat' apply And.intro) <;> rfl)
    · cbv <;> (try simp only [D.hcmp, and_self, and_true, true_and] <;> (repeat' apply And.intro) <;> rfl)
    clear hx5; cbv
    have e := ret_some h; clear h
    refine hK _ _ ⟨rfl, ⟨?_, rfl, rfl, rfl, ?_⟩⟩ <;> cbv <;> (try (subst e; simp only [D.hcmp, and_self, and_true, true_and] <;> (repeat' apply And.intro) <;> rfl))
theorem w28s (a0_0 : Int) (a0_1 : List V) (a0_2 : Int) (a0_3 : Int) (a0_4 : Int) (a0_5 : Int) (a0_6 : List V) (a0_7 : Int) (a0_8 : Bool) (r : Int × List V × Int × Int × Int × Int × List V × Int × Bool × List V × Int × Int) (h : d28 a0_0 a0_1 a0_2 a0_3 a0_4 a0_5 a0_6 a0_7 a0_8 = some r) : Ab.Fn Try.prog TT 28 [.agg [.i .i64 a0_0, .sl 5 a0_1, .i .i64 a0_2, .i .i64 a0_3, .i .i64 a0_4, .i .i64 a0_5, .sl 5 a0_6, .i .i64 a0_7, .b a0_8]] (.tup [.agg [.i .i64 r.1, .sl 5 r.2.1, .i .i64 r.2.2.1, .i .i64 r.2.2.2.1, .i .i64 r.2.2.2.2.1, .i .i64 r.2.2.2.2.2.1, .sl 5 r.2.2.2.2.2.2.1, .i .i64 r.2.2.2.2.2.2.2.1, .b r.2.2.2.2.2.2.2.2.1], .sl 33 r.2.2.2.2.2.2.2.2.2.1, .i .i64 r.2.2.2.2.2.2.2.2.2.2.1, .i .i64 r.2.2.2.2.2.2.2.2.2.2.2]) [] :=
  (w28 a0_0 a0_1 a0_2 a0_3 a0_4 a0_5 a0_6 a0_7 a0_8 r h).pure (by simp [ple, ple1, ple1L, pleL, pleS, Ab.look])

noncomputable def d30 (a0_0 : Int) (a0_1 : List V) (a0_2 : Int) (a0_3 : Int) (a0_4 : Int) (a0_5 : Int) (a0_6 : List V) (a0_7 : Int) (a0_8 : Bool) : Option (Int × Int) :=
  (d29 a0_0 a0_1 a0_2 a0_3 a0_4 a0_5 a0_6 a0_7 a0_8).bind fun x2 =>
  if (cmpLit .neq x2 0) = true then
    some (0, x2)
  else
    Option.bind (α := Bool) (
      if (cmpLit .neq a0_0 3) = true then
        some (cmpLit .neq a0_5 0)
      else
        some false) fun y5 =>
    if y5 = true then
      some (0, 0)
    else
      if (cmpLit .neq a0_4 0) = true then
        some ((arReal .sub .i64 a0_2 a0_3), 0)
      else
        if (cmpLit .eql a0_0 3) = true then
          some ((mxI (arReal .sub .i64 (lenI a0_1) a0_3) a0_2), 0)
        else
          some ((arReal .sub .i64 (lenI a0_1) a0_3), 0)
noncomputable def w30_c : Code := (Try.f30.body).getD .skip
theorem w30_h : Try.f30.body = some w30_c := by kernel_rfl
theorem w30 (a0_0 : Int) (a0_1 : List V) (a0_2 : Int) (a0_3 : Int) (a0_4 : Int) (a0_5 : Int) (a0_6 : List V) (a0_7 : Int) (a0_8 : Bool) (r : Int × Int) (h : d30 a0_0 a0_1 a0_2 a0_3 a0_4 a0_5 a0_6 a0_7 a0_8 = some r) : Ab.Fn Try.prog TT 30 [.agg [.i .i64 a0_0, .sl 5 a0_1, .i .i64 a0_2, .i .i64 a0_3, .i .i64 a0_4, .i .i64 a0_5, .sl 5 a0_6, .i .i64 a0_7, .b a0_8]] (.tup [.i .i64 r.1, .i .i64 r.2]) [] := by
  refine fn_pure tok W0 Try.func30 (by kernel_rfl) w30_h (by kernel_rfl) ?_
  intro ar un cv mn mx pl mi cmp nt beq an scmp cat slen sbyte ssub ofB toB len gi gb gs gl sub put app ovl rep ne0 ge0 inb bnd room sroom need br call callb loop cut nl E R K hK
  have D := E.D
  clear E
  unfold d30 at h
  cbv
  refine R.cut' (by kernel_rfl) (by kernel_rfl) ?_
  cbv
  refine R.callD h (fun x2 hx2 h2 => ?_)
  clear h; have h := h2; clear h2
  refine R.call' (w29 _ _ _ _ _ _ _ _ _ _ hx2) (by (first | rfl | (simp only [D.har, D.hcmp, D.hlen, D.hmx]; done) | (simp only [D.har, D.hcmp, D.hlen, D.hmx]; rfl))) ?_
  clear hx2; cbv
  refine R.brD h (by (first | rfl | (simp only [D.har, D.hcmp, D.hlen, D.hmx]; done) | (simp only [D.har, D.hcmp, D.hlen, D.hmx]; rfl))) ?_ ?_ <;> clear h <;> intro h <;> cbv
  · have e := ret_some h; clear h
    refine hK _ _ ?_
    cbv
    try (subst e; simp only [D.har, D.hcmp, D.hlen, D.hmx, and_self, and_true, true_and] <;> (repeat' apply And.intro) <;> rfl)
  · refine R.cut' (by kernel_rfl) (by kernel_rfl) ?_
    cbv
    refine R.cutB (fun p => p) (fun _ _ e => e) h [] (fun p6 => [(10, .b p6)]) (fun p6 => []) (by kernel_rfl) (by kernel_rfl) (fun y5 hy hFy5 L hLy5 => ?_) (fun p6 h2 => ?_)
    · clear h; have h := hy; clear hy; cbv
      refine R.brD h (by (first | rfl | (simp only [D.har, D.hcmp, D.hlen, D.hmx]; done) | (simp only [D.har, D.hcmp, D.hlen, D.hmx]; rfl))) ?_ ?_ <;> clear h <;> intro h <;> cbv
      · obtain ⟨s', e, hi⟩ := jn_some (fun p => p) h
        refine hLy5 s' _ _ hi ⟨rfl, ?_, ?_, rfl, rfl⟩ <;> cbv <;> (try (subst e; simp only [D.har, D.hcmp, D.hlen, D.hmx, and_self, and_true, true_and] <;> (repeat' apply And.intro) <;> rfl))
      · obtain ⟨s', e, hi⟩ := jn_some (fun p => p) h
        refine hLy5 s' _ _ hi ⟨rfl, ?_, ?_, rfl, rfl⟩ <;> cbv <;> (try (subst e; simp only [D.har, D.hcmp, D.hlen, D.hmx, and_self, and_true, true_and] <;> (repeat' apply And.intro) <;> rfl))
    · clear h; have h := h2; clear h2; try dsimp only at h
      cbv
      refine R.brD h (by (first | rfl | (simp only [D.har, D.hcmp, D.hlen, D.hmx]; done) | (simp only [D.har, D.hcmp, D.hlen, D.hmx]; rfl))) ?_ ?_ <;> clear h <;> intro h <;> cbv
      · have e := ret_some h; clear h
        refine hK _ _ ?_
        cbv
        try (subst e; simp only [D.har, D.hcmp, D.hlen, D.hmx, and_self, and_true, true_and] <;> (repeat' apply And.intro) <;> rfl)
      · refine R.brD h (by (first | rfl | (simp only [D.har, D.hcmp, D.hlen, D.hmx]; done) | (simp only [D.har, D.hcmp, D.hlen, D.hmx]; rfl))) ?_ ?_ <;> clear h <;> intro h <;> cbv
        · have e := ret_some h; clear h
          refine hK _ _ ?_
          cbv
          try (subst e; simp only [D.har, D.hcmp, D.hlen, D.hmx, and_self, and_true, true_and] <;> (repeat' apply And.intro) <;> rfl)
        · refine R.brD h (by (first | rfl | (simp only [D.har, D.hcmp, D.hlen, D.hmx]; done) | (simp only [D.har, D.hcmp, D.hlen, D.hmx]; rfl))) ?_ ?_ <;> clear h <;> intro h <;> cbv
          · have e := ret_some h; clear h
            refine hK _ _ ?_
            cbv
            try (subst e; simp only [D.har, D.hcmp, D.hlen, D.hmx, and_self, and_true, true_and] <;> (repeat' apply And.intro) <;> rfl)
          · have e := ret_some h; clear h
            refine hK _ _ ?_
            cbv
            try (subst e; simp only [D.har, D.hcmp, D.hlen, D.hmx, and_self, and_true, true_and] <;> (repeat' apply And.intro) <;> rfl)

noncomputable def d77 (a0 : Int) (a1 : Int) : Option (Bool) :=
  if (cmpLit .geq a0 0) = true then
    some (cmpLit .leq a0 a1)
  else
    some false
noncomputable def w77_c : Code := (Try.f77.body).getD .skip
theorem w77_h : Try.f77.body = some w77_c := by kernel_rfl
theorem w77 (a0 : Int) (a1 : Int) (r : Bool) (h : d77 a0 a1 = some r) : Ab.Fn Try.prog TT 77 [.i .i64 a0, .i .i64 a1] (.b r) [] := by
  refine fn_pure tok W0 Try.func77 (by kernel_rfl) w77_h (by kernel_rfl) ?_
  intro ar un cv mn mx pl mi cmp nt beq an scmp cat slen sbyte ssub ofB toB len gi gb gs gl sub put app ovl rep ne0 ge0 inb bnd room sroom need br call callb loop cut nl E R K hK
  have D := E.D
  clear E
  unfold d77 at h
  cbv
  refine R.cut' (by kernel_rfl) (by kernel_rfl) ?_
  cbv
  refine R.brD h (by (first | rfl | (simp only [D.hcmp]; done) | (simp only [D.hcmp]; rfl))) ?_ ?_ <;> clear h <;> intro h <;> cbv
  · have e := ret_some h; clear h
    refine hK _ _ ?_
    cbv
    try (subst e; simp only [D.hcmp, and_self, and_true, true_and] <;> (repeat' apply And.intro) <;> rfl)
  · have e := ret_some h; clear h
    refine hK _ _ ?_
    cbv
    try (subst e; simp only [D.hcmp, and_self, and_true, true_and] <;> (repeat' apply And.intro) <;> rfl)
end Go.Proofs.Ytdejapkfijdadaa
end
section
namespace Go.Proofs.Ytdejapkfijdadaa
open Go.Ab Go.RowKit 
set_option maxRecDepth 100000
set_option maxHeartbeats 40000000
noncomputable def d65 (a0_0 : Int) (a0_1 : List V) (a0_2 : Int) (a0_3 : Int) (a0_4 : Int) (a0_5 : Int) (a0_6 : List V) (a0_7 : Int) (a0_8 : Bool) : Option (Bool) :=
  Option.bind (α := Bool) (
    if (cmpLit .lss a0_0 1) = true then
      some true
    else
      if (cmpLit .gtr a0_0 3) = true then
        some true
      else
        if (cmpLit .lss (lenI a0_1) 64) = true then
          some true
        else
          if (cmpLit .gtr (lenI a0_1) 4096) = true then
            some true
          else
            (d77 a0_2 (lenI a0_1)).bind fun x14 =>
            if (notB' x14) = true then
              some true
            else
              (d77 a0_3 (lenI a0_1)).bind fun x15 =>
              if (notB' x15) = true then
                some true
              else
                (d77 a0_4 (lenI a0_1)).bind fun x16 =>
                if (notB' x16) = true then
                  some true
                else
                  (d77 a0_5 1099511627776).bind fun x17 =>
                  if (notB' x17) = true then
                    some true
                  else
                    (d77 a0_7 1099511627776).bind fun x18 =>
                    some (notB' x18)) fun y13 =>
  if y13 = true then
    some false
  else
    Option.bind (α := Bool) (
      if (cmpLit .eql a0_4 0) = true then
        if (cmpLit .gtr a0_2 a0_3) = true then
          some true
        else
          if (cmpLit .eql a0_2 a0_3) = true then
            some (cmpLit .neq a0_2 0)
          else
            some false
      else
        some false) fun y22 =>
    if y22 = true then
      some false
    else
      Option.bind (α := Bool) (
        if (cmpLit .neq a0_4 0) = true then
          if (cmpLit .neq a0_0 3) = true then
            some true
          else
            if (cmpLit .geq a0_2 a0_4) = true then
              some true
            else
              some (cmpLit .gtr a0_3 a0_2)
        else
          some false) fun y26 =>
      if y26 = true then
        some false
      else
        if (cmpLit .eql a0_0 3) = true then
          some true
        else
          some (cmpLit .eql a0_2 0)
noncomputable def w65_c : Code := (Try.f65.body).getD .skip
theorem w65_h : Try.f65.body = some w65_c := by kernel_rfl
theorem w65 (a0_0 : Int) (a0_1 : List V) (a0_2 : Int) (a0_3 : Int) (a0_4 : Int) (a0_5 : Int) (a0_6 : List V) (a0_7 : Int) (a0_8 : Bool) (r : Bool) (h : d65 a0_0 a0_1 a0_2 a0_3 a0_4 a0_5 a0_6 a0_7 a0_8 = some r) : Ab.Fn Try.prog TT 65 [.agg [.i .i64 a0_0, .sl 5 a0_1, .i .i64 a0_2, .i .i64 a0_3, .i .i64 a0_4, .i .i64 a0_5, .sl 5 a0_6, .i .i64 a0_7, .b a0_8]] (.b r) [] := by
  refine fn_pure tok W0 Try.func65 (by kernel_rfl) w65_h (by kernel_rfl) ?_
  intro ar un cv mn mx pl mi cmp nt beq an scmp cat slen sbyte ssub ofB toB len gi gb gs gl sub put app ovl rep ne0 ge0 inb bnd room sroom need br call callb loop cut nl E R K hK
  have D := E.D
  clear E
  unfold d65 at h
  cbv
  refine R.cut' (by kernel_rfl) (by kernel_rfl) ?_
  cbv
  refine R.cutB (fun p => p) (fun _ _ e => e) h [] (fun p19 => [(55, .b p19)]) (fun p19 => []) (by kernel_rfl) (by kernel_rfl) (fun y13 hy hFy13 L hLy13 => ?_) (fun p19 h2 => ?_)
  · clear h; have h := hy; clear hy; cbv
    refine R.brD h (by (first | rfl | (simp only [D.hcmp, D.hlen, D.hnt]; done) | (simp only [D.hcmp, D.hlen, D.hnt]; rfl))) ?_ ?_ <;> clear h <;> intro h <;> cbv
    · obtain ⟨s', e, hi⟩ := jn_some (fun p => p) h
      refine hLy13 s' _ _ hi ⟨rfl, ?_, ?_, rfl, rfl⟩ <;> cbv <;> (try (subst e; simp only [D.hcmp, D.hlen, D.hnt, and_self, and_true, true_and] <;> (repeat' apply And.intro) <;> rfl))
    · refine R.brD h (by (first | rfl | (simp only [D.hcmp, D.hlen, D.hnt]; done) | (simp only [D.hcmp, D.hlen, D.hnt]; rfl))) ?_ ?_ <;> clear h <;> intro h <;> cbv
      · obtain ⟨s', e, hi⟩ := jn_some (fun p => p) h
        refine hLy13 s' _ _ hi ⟨rfl, ?_, ?_, rfl, rfl⟩ <;> cbv <;> (try (subst e; simp only [D.hcmp, D.hlen, D.hnt, and_self, and_true, true_and] <;> (repeat' apply And.intro) <;> rfl))
      · refine R.brD h (by (first | rfl | (simp only [D.hcmp, D.hlen, D.hnt]; done) | (simp only [D.hcmp, D.hlen, D.hnt]; rfl))) ?_ ?_ <;> clear h <;> intro h <;> cbv
        · obtain ⟨s', e, hi⟩ := jn_some (fun p => p) h
          refine hLy13 s' _ _ hi ⟨rfl, ?_, ?_, rfl, rfl⟩ <;> cbv <;> (try (subst e; simp only [D.hcmp, D.hlen, D.hnt, and_self, and_true, true_and] <;> (repeat' apply And.intro) <;> rfl))
        · refine R.brD h (by (first | rfl | (simp only [D.hcmp, D.hlen, D.hnt]; done) | (simp only [D.hcmp, D.hlen, D.hnt]; rfl))) ?_ ?_ <;> clear h <;> intro h <;> cbv
          · obtain ⟨s', e, hi⟩ := jn_some (fun p => p) h
            refine hLy13 s' _ _ hi ⟨rfl, ?_, ?_, rfl, rfl⟩ <;> cbv <;> (try (subst e; simp only [D.hcmp, D.hlen, D.hnt, and_self, and_true, true_and] <;> (repeat' apply And.intro) <;> rfl))
          · refine R.callD h (fun x14 hx14 h2 => ?_)
            clear h; have h := h2; clear h2
            refine R.call' (w77 _ _ _ hx14) (by (first | rfl | (simp only [D.hcmp, D.hlen, D.hnt]; done) | (simp only [D.hcmp, D.hlen, D.hnt]; rfl))) ?_
            clear hx14; cbv
            refine R.brD h (by (first | rfl | (simp only [D.hcmp, D.hlen, D.hnt]; done) | (simp only [D.hcmp, D.hlen, D.hnt]; rfl))) ?_ ?_ <;> clear h <;> intro h <;> cbv
            · obtain ⟨s', e, hi⟩ := jn_some (fun p => p) h
              refine hLy13 s' _ _ hi ⟨rfl, ?_, ?_, rfl, rfl⟩ <;> cbv <;> (try (subst e; simp only [D.hcmp, D.hlen, D.hnt, and_self, and_true, true_and] <;> (repeat' apply And.intro) <;> rfl))
            · refine R.callD h (fun x15 hx15 h2 => ?_)
              clear h; have h := h2; clear h2
              refine R.call' (w77 _ _ _ hx15) (by (first | rfl | (simp only [D.hcmp, D.hlen, D.hnt]; done) | (simp only [D.hcmp, D.hlen, D.hnt]; rfl))) ?_
              clear hx15; cbv
              refine R.brD h (by (first | rfl | (simp only [D.hcmp, D.hlen, D.hnt]; done) | (simp only [D.hcmp, D.hlen, D.hnt]; rfl))) ?_ ?_ <;> clear h <;> intro h <;> cbv
              · obtain ⟨s', e, hi⟩ := jn_some (fun p => p) h
                refine hLy13 s' _ _ hi ⟨rfl, ?_, ?_, rfl, rfl⟩ <;> cbv <;> (try (subst e; simp only [D.hcmp, D.hlen, D.hnt, and_self, and_true, true_and] <;> (repeat' apply And.intro) <;> rfl))
              · refine R.callD h (fun x16 hx16 h2 => ?_)
                clear h; have h := h2; clear h2
                refine R.call' (w77 _ _ _ hx16) (by (first | rfl | (simp only [D.hcmp, D.hlen, D.hnt]; done) | (simp only [D.hcmp, D.hlen, D.hnt]; rfl))) ?_
                clear hx16; cbv
                refine R.brD h (by (first | rfl | (simp only [D.hcmp, D.hlen, D.hnt]; done) | (simp only [D.hcmp, D.hlen, D.hnt]; rfl))) ?_ ?_ <;> clear h <;> intro h <;> cbv
                · obtain ⟨s', e, hi⟩ := jn_some (fun p => p) h
                  refine hLy13 s' _ _ hi ⟨rfl, ?_, ?_, rfl, rfl⟩ <;> cbv <;> (try (subst e; simp only [D.hcmp, D.hlen, D.hnt, and_self, and_true, true_and] <;> (repeat' apply And.intro) <;> rfl))
                · refine R.callD h (fun x17 hx17 h2 => ?_)
                  clear h; have h := h2; clear h2
                  refine R.call' (w77 _ _ _ hx17) (by (first | rfl | (simp only [D.hcmp, D.hlen, D.hnt]; done) | (simp only [D.hcmp, D.hlen, D.hnt]; rfl))) ?_
                  clear hx17; cbv
                  refine R.brD h (by (first | rfl | (simp only [D.hcmp, D.hlen, D.hnt]; done) | (simp only [D.hcmp, D.hlen, D.hnt]; rfl))) ?_ ?_ <;> clear h <;> intro h <;> cbv
                  · obtain ⟨s', e, hi⟩ := jn_some (fun p => p) h
                    refine hLy13 s' _ _ hi ⟨rfl, ?_, ?_, rfl, rfl⟩ <;> cbv <;> (try (subst e; simp only [D.hcmp, D.hlen, D.hnt, and_self, and_true, true_and] <;> (repeat' apply And.intro) <;> rfl))
                  · refine R.callD h (fun x18 hx18 h2 => ?_)
                    clear h; have h := h2; clear h2
                    refine R.call' (w77 _ _ _ hx18) (by (first | rfl | (simp only [D.hcmp, D.hlen, D.hnt]; done) | (simp only [D.hcmp, D.hlen, D.hnt]; rfl))) ?_
                    clear hx18; cbv
                    obtain ⟨s', e, hi⟩ := jn_some (fun p => p) h
                    refine hLy13 s' _ _ hi ⟨rfl, ?_, ?_, rfl, rfl⟩ <;> cbv <;> (try (subst e; simp only [D.hcmp, D.hlen, D.hnt, and_self, and_true, true_and] <;> (repeat' apply And.intro) <;> rfl))
  · as_aux_lemma =>
    clear h; have h := h2; clear h2; try dsimp only at h
    cbv
    refine R.brD h (by (first | rfl | (simp only [D.hcmp, D.hlen, D.hnt]; done) | (simp only [D.hcmp, D.hlen, D.hnt]; rfl))) ?_ ?_ <;> clear h <;> intro h <;> cbv
    · have e := ret_some h; clear h
      refine hK _ _ ?_
      cbv
      try (subst e; simp only [D.hcmp, D.hlen, D.hnt, and_self, and_true, true_and] <;> (repeat' apply And.intro) <;> rfl)
    · as_aux_lemma =>
      refine R.cut' (by kernel_rfl) (by kernel_rfl) ?_
      cbv
      refine R.cutB (fun p => p) (fun _ _ e => e) h [] (fun p23 => [(77, .b p23)]) (fun p23 => []) (by kernel_rfl) (by kernel_rfl) (fun y22 hy hFy22 L hLy22 => ?_) (fun p23 h2 => ?_)
      · clear h; have h := hy; clear hy; cbv
        refine R.brD h (by (first | rfl | (simp only [D.hcmp, D.hlen, D.hnt]; done) | (simp only [D.hcmp, D.hlen, D.hnt]; rfl))) ?_ ?_ <;> clear h <;> intro h <;> cbv
        · refine R.brD h (by (first | rfl | (simp only [D.hcmp, D.hlen, D.hnt]; done) | (simp only [D.hcmp, D.hlen, D.hnt]; rfl))) ?_ ?_ <;> clear h <;> intro h <;> cbv
          · obtain ⟨s', e, hi⟩ := jn_some (fun p => p) h
            refine hLy22 s' _ _ hi ⟨rfl, ?_, ?_, rfl, rfl⟩ <;> cbv <;> (try (subst e; simp only [D.hcmp, D.hlen, D.hnt, and_self, and_true, true_and] <;> (repeat' apply And.intro) <;> rfl))
          · refine R.brD h (by (first | rfl | (simp only [D.hcmp, D.hlen, D.hnt]; done) | (simp only [D.hcmp, D.hlen, D.hnt]; rfl))) ?_ ?_ <;> clear h <;> intro h <;> cbv
            · obtain ⟨s', e, hi⟩ := jn_some (fun p => p) h
              refine hLy22 s' _ _ hi ⟨rfl, ?_, ?_, rfl, rfl⟩ <;> cbv <;> (try (subst e; simp only [D.hcmp, D.hlen, D.hnt, and_self, and_true, true_and] <;> (repeat' apply And.intro) <;> rfl))
            · obtain ⟨s', e, hi⟩ := jn_some (fun p => p) h
              refine hLy22 s' _ _ hi ⟨rfl, ?_, ?_, rfl, rfl⟩ <;> cbv <;> (try (subst e; simp only [D.hcmp, D.hlen, D.hnt, and_self, and_true, true_and] <;> (repeat' apply And.intro) <;> rfl))
        · obtain ⟨s', e, hi⟩ := jn_some (fun p => p) h
          refine hLy22 s' _ _ hi ⟨rfl, ?_, ?_, rfl, rfl⟩ <;> cbv <;> (try (subst e; simp only [D.hcmp, D.hlen, D.hnt, and_self, and_true, true_and] <;> (repeat' apply And.intro) <;> rfl))
      · clear h; have h := h2; clear h2; try dsimp only at h
        cbv
        refine R.brD h (by (first | rfl | (simp only [D.hcmp, D.hlen, D.hnt]; done) | (simp only [D.hcmp, D.hlen, D.hnt]; rfl))) ?_ ?_ <;> clear h <;> intro h <;> cbv
        · have e := ret_some h; clear h
          refine hK _ _ ?_
          cbv
          try (subst e; simp only [D.hcmp, D.hlen, D.hnt, and_self, and_true, true_and] <;> (repeat' apply And.intro) <;> rfl)
        · refine R.cut' (by kernel_rfl) (by kernel_rfl) ?_
          cbv
          refine R.cutB (fun p => p) (fun _ _ e => e) h [] (fun p27 => [(99, .b p27)]) (fun p27 => []) (by kernel_rfl) (by kernel_rfl) (fun y26 hy hFy26 L hLy26 => ?_) (fun p27 h2 => ?_)
          · clear h; have h := hy; clear hy; cbv
            refine R.brD h (by (first | rfl | (simp only [D.hcmp, D.hlen, D.hnt]; done) | (simp only [D.hcmp, D.hlen, D.hnt]; rfl))) ?_ ?_ <;> clear h <;> intro h <;> cbv
            · refine R.brD h (by (first | rfl | (simp only [D.hcmp, D.hlen, D.hnt]; done) | (simp only [D.hcmp, D.hlen, D.hnt]; rfl))) ?_ ?_ <;> clear h <;> intro h <;> cbv
              · obtain ⟨s', e, hi⟩ := jn_some (fun p => p) h
                refine hLy26 s' _ _ hi ⟨rfl, ?_, ?_, rfl, rfl⟩ <;> cbv <;> (try (subst e; simp only [D.hcmp, D.hlen, D.hnt, and_self, and_true, true_and] <;> (repeat' apply And.intro) <;> rfl))
              · refine R.brD h (by (first | rfl | (simp only [D.hcmp, D.hlen, D.hnt]; done) | (simp only [D.hcmp, D.hlen, D.hnt]; rfl))) ?_ ?_ <;> clear h <;> intro h <;> cbv
                · obtain ⟨s', e, hi⟩ := jn_some (fun p => p) h
                  refine hLy26 s' _ _ hi ⟨rfl, ?_, ?_, rfl, rfl⟩ <;> cbv <;> (try (subst e; simp only [D.hcmp, D.hlen, D.hnt, and_self, and_true, true_and] <;> (repeat' apply And.intro) <;> rfl))
                · obtain ⟨s', e, hi⟩ := jn_some (fun p => p) h
                  refine hLy26 s' _ _ hi ⟨rfl, ?_, ?_, rfl, rfl⟩ <;> cbv <;> (try (subst e; simp only [D.hcmp, D.hlen, D.hnt, and_self, and_true, true_and] <;> (repeat' apply And.intro) <;> rfl))
            · obtain ⟨s', e, hi⟩ := jn_some (fun p => p) h
              refine hLy26 s' _ _ hi ⟨rfl, ?_, ?_, rfl, rfl⟩ <;> cbv <;> (try (subst e; simp only [D.hcmp, D.hlen, D.hnt, and_self, and_true, true_and] <;> (repeat' apply And.intro) <;> rfl))
          · clear h; have h := h2; clear h2; try dsimp only at h
            cbv
            refine R.brD h (by (first | rfl | (simp only [D.hcmp, D.hlen, D.hnt]; done) | (simp only [D.hcmp, D.hlen, D.hnt]; rfl))) ?_ ?_ <;> clear h <;> intro h <;> cbv
            · have e := ret_some h; clear h
              refine hK _ _ ?_
              cbv
              try (subst e; simp only [D.hcmp, D.hlen, D.hnt, and_self, and_true, true_and] <;> (repeat' apply And.intro) <;> rfl)
            · refine R.cut' (by kernel_rfl) (by kernel_rfl) ?_
              cbv
              refine R.brD h (by (first | rfl | (simp only [D.hcmp, D.hlen, D.hnt]; done) | (simp only [D.hcmp, D.hlen, D.hnt]; rfl))) ?_ ?_ <;> clear h <;> intro h <;> cbv
              · have e := ret_some h; clear h
                refine hK _ _ ?_
                cbv
                try (subst e; simp only [D.hcmp, D.hlen, D.hnt, and_self, and_true, true_and] <;> (repeat' apply And.intro) <;> rfl)
              · have e := ret_some h; clear h
                refine hK _ _ ?_
                cbv
                try (subst e; simp only [D.hcmp, D.hlen, D.hnt, and_self, and_true, true_and] <;> (repeat' apply And.intro) <;> rfl)
end Go.Proofs.Ytdejapkfijdadaa
end
section
namespace Go.Proofs.Ytdejapkfijdadaa
open Go.Ab Go.RowKit 
set_option maxRecDepth 100000
set_option maxHeartbeats 40000000
noncomputable def d36_b1 (a0_1 : List V) (a0_2 : Int) (a0_3 : Int) (a0_4 : Int) (p14 : Int) (s32 : Int) : Option ((Int) ⊕ ((Int) ⊕ (Unit))) :=
  if (cmpLit .lss s32 (lenI a0_1)) = true then
    Option.bind (α := Bool) (
      if (cmpLit .geq s32 a0_2) = true then
        if (cmpLit .lss s32 p14) = true then
          some true
        else
          if (cmpLit .neq a0_4 0) = true then
            some (cmpLit .lss s32 a0_3)
          else
            some false
      else
        if (cmpLit .neq a0_4 0) = true then
          some (cmpLit .lss s32 a0_3)
        else
          some false) fun y40 =>
    if (notB' y40) = true then
      if (Inb s32 (lenI a0_1)) then
        if (cmpLit .neq (gI a0_1 s32 0) 0) = true then
          some (.inr (.inl 220))
        else
          some (.inl (arReal .add .i64 s32 1))
      else none
    else
      some (.inl (arReal .add .i64 s32 1))
  else
    some (.inr (.inr ()))
noncomputable def d36 (a0_0 : Int) (a0_1 : List V) (a0_2 : Int) (a0_3 : Int) (a0_4 : Int) (a0_5 : Int) (a0_6 : List V) (a0_7 : Int) (a0_8 : Bool) : Option (Int) :=
  Option.bind (α := Bool) (
    (d65 a0_0 a0_1 a0_2 a0_3 a0_4 a0_5 a0_6 a0_7 a0_8).bind fun x8 =>
    if (notB' x8) = true then
      some true
    else
      if (cmpLit .gtr (lenI a0_6) (lenI a0_1)) = true then
        some true
      else
        (d21 a0_6).bind fun x9 =>
        if (cmpLit .neq x9.2.2 0) = true then
          some true
        else
          if (notB' a0_8) = true then
            if (cmpLit .gtr (lenI a0_6) 0) = true then
              some true
            else
              if (cmpLit .neq a0_7 0) = true then
                some true
              else
                if a0_8 = true then
                  some (cmpLit .neq a0_0 2)
                else
                  some false
          else
            if a0_8 = true then
              some (cmpLit .neq a0_0 2)
            else
              some false) fun y7 =>
  if y7 = true then
    some 220
  else
    Option.bind (α := (Int) ⊕ (Int)) (
      if (cmpLit .neq a0_4 0) = true then
        if (Bnd 0 a0_3 (lenI a0_1)) then
          (d21 (subL a0_1 0 a0_3)).bind fun x13 =>
          if (cmpLit .neq x13.2.2 0) = true then
            some (.inr 220)
          else
            some (.inl a0_4)
        else none
      else
        some (.inl a0_3)) fun y12 =>
    match y12 with
    | .inl p14 =>
      if (Bnd a0_2 p14 (lenI a0_1)) then
        (d21 (subL a0_1 a0_2 p14)).bind fun x16 =>
        if (cmpLit .neq x16.2.2 0) = true then
          some 220
        else
          Option.bind (α := (Unit) ⊕ (Int)) (
            (iter (d36_b1 a0_1 a0_2 a0_3 a0_4 p14) 0).bind fun y37 =>
            match y37 with
            | .inl p42 =>
              some (.inr p42)
            | .inr y37r0 =>
              some (.inl ())) fun y27 =>
          match y27 with
          | .inl p44 =>
            some 0
          | .inr y27r0 =>
            some y27r0
      else none
    | .inr y12r0 =>
      some y12r0
noncomputable def w36_c : Code := (Try.f36.body).getD .skip
theorem w36_h : Try.f36.body = some w36_c := by kernel_rfl
theorem w36 (a0_0 : Int) (a0_1 : List V) (a0_2 : Int) (a0_3 : Int) (a0_4 : Int) (a0_5 : Int) (a0_6 : List V) (a0_7 : Int) (a0_8 : Bool) (r : Int) (h : d36 a0_0 a0_1 a0_2 a0_3 a0_4 a0_5 a0_6 a0_7 a0_8 = some r) : Ab.Fn Try.prog TT 36 [.agg [.i .i64 a0_0, .sl 5 a0_1, .i .i64 a0_2, .i .i64 a0_3, .i .i64 a0_4, .i .i64 a0_5, .sl 5 a0_6, .i .i64 a0_7, .b a0_8]] (.i .i64 r) [] := by
  refine fn_pure tok W0 Try.func36 (by kernel_rfl) w36_h (by kernel_rfl) ?_
  intro ar un cv mn mx pl mi cmp nt beq an scmp cat slen sbyte ssub ofB toB len gi gb gs gl sub put app ovl rep ne0 ge0 inb bnd room sroom need br call callb loop cut nl E R K hK
  have D := E.D
  clear E
  unfold d36 at h
  cbv
  refine R.cut' (by kernel_rfl) (by kernel_rfl) ?_
  cbv
  refine R.cutB (fun p => p) (fun _ _ e => e) h [] (fun p10 => [(49, .b p10)]) (fun p10 => []) (by kernel_rfl) (by kernel_rfl) (fun y7 hy hFy7 L hLy7 => ?_) (fun p10 h2 => ?_)
  · clear h; have h := hy; clear hy; cbv
    refine R.callD h (fun x8 hx8 h2 => ?_)
    clear h; have h := h2; clear h2
    refine R.call' (w65 _ _ _ _ _ _ _ _ _ _ hx8) (by (first | rfl | (simp only [D.har, D.hbnd, D.hcmp, D.hgi, D.hinb, D.hlen, D.hnt, D.hsub]; done) | (simp only [D.har, D.hbnd, D.hcmp, D.hgi, D.hinb, D.hlen, D.hnt, D.hsub]; rfl))) ?_
    clear hx8; cbv
    refine R.brD h (by (first | rfl | (simp only [D.har, D.hbnd, D.hcmp, D.hgi, D.hinb, D.hlen, D.hnt, D.hsub]; done) | (simp only [D.har, D.hbnd, D.hcmp, D.hgi, D.hinb, D.hlen, D.hnt, D.hsub]; rfl))) ?_ ?_ <;> clear h <;> intro h <;> cbv
    · obtain ⟨s', e, hi⟩ := jn_some (fun p => p) h
      refine hLy7 s' _ _ hi ⟨rfl, ?_, ?_, rfl, rfl⟩ <;> cbv <;> (try (subst e; simp only [D.har, D.hbnd, D.hcmp, D.hgi, D.hinb, D.hlen, D.hnt, D.hsub, and_self, and_true, true_and] <;> (repeat' apply And.intro) <;> rfl))
    · refine R.brD h (by (first | rfl | (simp only [D.har, D.hbnd, D.hcmp, D.hgi, D.hinb, D.hlen, D.hnt, D.hsub]; done) | (simp only [D.har, D.hbnd, D.hcmp, D.hgi, D.hinb, D.hlen, D.hnt, D.hsub]; rfl))) ?_ ?_ <;> clear h <;> intro h <;> cbv
      · obtain ⟨s', e, hi⟩ := jn_some (fun p => p) h
        refine hLy7 s' _ _ hi ⟨rfl, ?_, ?_, rfl, rfl⟩ <;> cbv <;> (try (subst e; simp only [D.har, D.hbnd, D.hcmp, D.hgi, D.hinb, D.hlen, D.hnt, D.hsub, and_self, and_true, true_and] <;> (repeat' apply And.intro) <;> rfl))
      · refine R.callD h (fun x9 hx9 h2 => ?_)
        clear h; have h := h2; clear h2
        refine R.call' (w21s _ _ hx9) (by (first | rfl | (simp only [D.har, D.hbnd, D.hcmp, D.hgi, D.hinb, D.hlen, D.hnt, D.hsub]; done) | (simp only [D.har, D.hbnd, D.hcmp, D.hgi, D.hinb, D.hlen, D.hnt, D.hsub]; rfl))) ?_
        clear hx9; cbv
        refine R.brD h (by (first | rfl | (simp only [D.har, D.hbnd, D.hcmp, D.hgi, D.hinb, D.hlen, D.hnt, D.hsub]; done) | (simp only [D.har, D.hbnd, D.hcmp, D.hgi, D.hinb, D.hlen, D.hnt, D.hsub]; rfl))) ?_ ?_ <;> clear h <;> intro h <;> cbv
        · obtain ⟨s', e, hi⟩ := jn_some (fun p => p) h
          refine hLy7 s' _ _ hi ⟨rfl, ?_, ?_, rfl, rfl⟩ <;> cbv <;> (try (subst e; simp only [D.har, D.hbnd, D.hcmp, D.hgi, D.hinb, D.hlen, D.hnt, D.hsub, and_self, and_true, true_and] <;> (repeat' apply And.intro) <;> rfl))
        · refine R.brD h (by (first | rfl | (simp only [D.har, D.hbnd, D.hcmp, D.hgi, D.hinb, D.hlen, D.hnt, D.hsub]; done) | (simp only [D.har, D.hbnd, D.hcmp, D.hgi, D.hinb, D.hlen, D.hnt, D.hsub]; rfl))) ?_ ?_ <;> clear h <;> intro h <;> cbv
          · refine R.brD h (by (first | rfl | (simp only [D.har, D.hbnd, D.hcmp, D.hgi, D.hinb, D.hlen, D.hnt, D.hsub]; done) | (simp only [D.har, D.hbnd, D.hcmp, D.hgi, D.hinb, D.hlen, D.hnt, D.hsub]; rfl))) ?_ ?_ <;> clear h <;> intro h <;> cbv
            · obtain ⟨s', e, hi⟩ := jn_some (fun p => p) h
              refine hLy7 s' _ _ hi ⟨rfl, ?_, ?_, rfl, rfl⟩ <;> cbv <;> (try (subst e; simp only [D.har, D.hbnd, D.hcmp, D.hgi, D.hinb, D.hlen, D.hnt, D.hsub, and_self, and_true, true_and] <;> (repeat' apply And.intro) <;> rfl))
            · refine R.brD h (by (first | rfl | (simp only [D.har, D.hbnd, D.hcmp, D.hgi, D.hinb, D.hlen, D.hnt, D.hsub]; done) | (simp only [D.har, D.hbnd, D.hcmp, D.hgi, D.hinb, D.hlen, D.hnt, D.hsub]; rfl))) ?_ ?_ <;> clear h <;> intro h <;> cbv
              · obtain ⟨s', e, hi⟩ := jn_some (fun p => p) h
                refine hLy7 s' _ _ hi ⟨rfl, ?_, ?_, rfl, rfl⟩ <;> cbv <;> (try (subst e; simp only [D.har, D.hbnd, D.hcmp, D.hgi, D.hinb, D.hlen, D.hnt, D.hsub, and_self, and_true, true_and] <;> (repeat' apply And.intro) <;> rfl))
              · refine R.brD h (by (first | rfl | (simp only [D.har, D.hbnd, D.hcmp, D.hgi, D.hinb, D.hlen, D.hnt, D.hsub]; done) | (simp only [D.har, D.hbnd, D.hcmp, D.hgi, D.hinb, D.hlen, D.hnt, D.hsub]; rfl))) ?_ ?_ <;> clear h <;> intro h <;> cbv
                · obtain ⟨s', e, hi⟩ := jn_some (fun p => p) h
                  refine hLy7 s' _ _ hi ⟨rfl, ?_, ?_, rfl, rfl⟩ <;> cbv <;> (try (subst e; simp only [D.har, D.hbnd, D.hcmp, D.hgi, D.hinb, D.hlen, D.hnt, D.hsub, and_self, and_true, true_and] <;> (repeat' apply And.intro) <;> rfl))
                · obtain ⟨s', e, hi⟩ := jn_some (fun p => p) h
                  refine hLy7 s' _ _ hi ⟨rfl, ?_, ?_, rfl, rfl⟩ <;> cbv <;> (try (subst e; simp only [D.har, D.hbnd, D.hcmp, D.hgi, D.hinb, D.hlen, D.hnt, D.hsub, and_self, and_true, true_and] <;> (repeat' apply And.intro) <;> rfl))
          · refine R.brD h (by (first | rfl | (simp only [D.har, D.hbnd, D.hcmp, D.hgi, D.hinb, D.hlen, D.hnt, D.hsub]; done) | (simp only [D.har, D.hbnd, D.hcmp, D.hgi, D.hinb, D.hlen, D.hnt, D.hsub]; rfl))) ?_ ?_ <;> clear h <;> intro h <;> cbv
            · obtain ⟨s', e, hi⟩ := jn_some (fun p => p) h
              refine hLy7 s' _ _ hi ⟨rfl, ?_, ?_, rfl, rfl⟩ <;> cbv <;> (try (subst e; simp only [D.har, D.hbnd, D.hcmp, D.hgi, D.hinb, D.hlen, D.hnt, D.hsub, and_self, and_true, true_and] <;> (repeat' apply And.intro) <;> rfl))
            · obtain ⟨s', e, hi⟩ := jn_some (fun p => p) h
              refine hLy7 s' _ _ hi ⟨rfl, ?_, ?_, rfl, rfl⟩ <;> cbv <;> (try (subst e; simp only [D.har, D.hbnd, D.hcmp, D.hgi, D.hinb, D.hlen, D.hnt, D.hsub, and_self, and_true, true_and] <;> (repeat' apply And.intro) <;> rfl))
  · as_aux_lemma =>
    clear h; have h := h2; clear h2; try dsimp only at h
    cbv
    refine R.brD h (by (first | rfl | (simp only [D.har, D.hbnd, D.hcmp, D.hgi, D.hinb, D.hlen, D.hnt, D.hsub]; done) | (simp only [D.har, D.hbnd, D.hcmp, D.hgi, D.hinb, D.hlen, D.hnt, D.hsub]; rfl))) ?_ ?_ <;> clear h <;> intro h <;> cbv
    · have e := ret_some h; clear h
      refine hK _ _ ?_
      cbv
      try (subst e; simp only [D.har, D.hbnd, D.hcmp, D.hgi, D.hinb, D.hlen, D.hnt, D.hsub, and_self, and_true, true_and] <;> (repeat' apply And.intro) <;> rfl)
    · as_aux_lemma =>
      refine R.cutB Sum.inl (fun _ _ e => Sum.inl.inj e) h [] (fun p14 => [(3, .i .i64 p14)]) (fun p14 => []) (by kernel_rfl) (by kernel_rfl) (fun y12 hy hFy12 L hLy12 => ?_) (fun p14 h2 => ?_)
      · clear h; have h := hy; clear hy; cbv
        refine R.brD h (by (first | rfl | (simp only [D.har, D.hbnd, D.hcmp, D.hgi, D.hinb, D.hlen, D.hnt, D.hsub]; done) | (simp only [D.har, D.hbnd, D.hcmp, D.hgi, D.hinb, D.hlen, D.hnt, D.hsub]; rfl))) ?_ ?_ <;> clear h <;> intro h <;> cbv
        · refine R.needD h (by (first | rfl | (simp only [D.har, D.hbnd, D.hcmp, D.hgi, D.hinb, D.hlen, D.hnt, D.hsub]; done) | (simp only [D.har, D.hbnd, D.hcmp, D.hgi, D.hinb, D.hlen, D.hnt, D.hsub]; rfl))) ?_
          clear h; intro h; cbv
          refine R.callD h (fun x13 hx13 h2 => ?_)
          clear h; have h := h2; clear h2
          refine R.call' (w21s _ _ hx13) (by (first | rfl | (simp only [D.har, D.hbnd, D.hcmp, D.hgi, D.hinb, D.hlen, D.hnt, D.hsub]; done) | (simp only [D.har, D.hbnd, D.hcmp, D.hgi, D.hinb, D.hlen, D.hnt, D.hsub]; rfl))) ?_
          clear hx13; cbv
          refine R.brD h (by (first | rfl | (simp only [D.har, D.hbnd, D.hcmp, D.hgi, D.hinb, D.hlen, D.hnt, D.hsub]; done) | (simp only [D.har, D.hbnd, D.hcmp, D.hgi, D.hinb, D.hlen, D.hnt, D.hsub]; rfl))) ?_ ?_ <;> clear h <;> intro h <;> cbv
          · have e := ret_some h; clear h
            have h := hFy12; rw [e] at h; clear e; try dsimp only at h
            cbv
            have e := ret_some h; clear h
            refine hK _ _ ?_
            cbv
            try (subst e; simp only [D.har, D.hbnd, D.hcmp, D.hgi, D.hinb, D.hlen, D.hnt, D.hsub, and_self, and_true, true_and] <;> (repeat' apply And.intro) <;> rfl)
          · obtain ⟨s', e, hi⟩ := jn_some Sum.inl h
            refine hLy12 s' _ _ hi ⟨rfl, ?_, ?_, rfl, rfl⟩ <;> cbv <;> (try (subst e; simp only [D.har, D.hbnd, D.hcmp, D.hgi, D.hinb, D.hlen, D.hnt, D.hsub, and_self, and_true, true_and] <;> (repeat' apply And.intro) <;> rfl))
        · obtain ⟨s', e, hi⟩ := jn_some Sum.inl h
          refine hLy12 s' _ _ hi ⟨rfl, ?_, ?_, rfl, rfl⟩ <;> cbv <;> (try (subst e; simp only [D.har, D.hbnd, D.hcmp, D.hgi, D.hinb, D.hlen, D.hnt, D.hsub, and_self, and_true, true_and] <;> (repeat' apply And.intro) <;> rfl))
      · as_aux_lemma =>
        clear h; have h := h2; clear h2; try dsimp only at h
        cbv
        refine R.cut' (by kernel_rfl) (by kernel_rfl) ?_
        cbv
        refine R.needD h (by (first | rfl | (simp only [D.har, D.hbnd, D.hcmp, D.hgi, D.hinb, D.hlen, D.hnt, D.hsub]; done) | (simp only [D.har, D.hbnd, D.hcmp, D.hgi, D.hinb, D.hlen, D.hnt, D.hsub]; rfl))) ?_
        clear h; intro h; cbv
        refine R.callD h (fun x16 hx16 h2 => ?_)
        clear h; have h := h2; clear h2
        refine R.call' (w21s _ _ hx16) (by (first | rfl | (simp only [D.har, D.hbnd, D.hcmp, D.hgi, D.hinb, D.hlen, D.hnt, D.hsub]; done) | (simp only [D.har, D.hbnd, D.hcmp, D.hgi, D.hinb, D.hlen, D.hnt, D.hsub]; rfl))) ?_
        clear hx16; cbv
        refine R.brD h (by (first | rfl | (simp only [D.har, D.hbnd, D.hcmp, D.hgi, D.hinb, D.hlen, D.hnt, D.hsub]; done) | (simp only [D.har, D.hbnd, D.hcmp, D.hgi, D.hinb, D.hlen, D.hnt, D.hsub]; rfl))) ?_ ?_ <;> clear h <;> intro h <;> cbv
        · have e := ret_some h; clear h
          refine hK _ _ ?_
          cbv
          try (subst e; simp only [D.har, D.hbnd, D.hcmp, D.hgi, D.hinb, D.hlen, D.hnt, D.hsub, and_self, and_true, true_and] <;> (repeat' apply And.intro) <;> rfl)
        · as_aux_lemma =>
          refine R.cutB Sum.inl (fun _ _ e => Sum.inl.inj e) h [] (fun p44 => []) (fun p44 => []) (by kernel_rfl) (by kernel_rfl) (fun y27 hy hFy27 L hLy27 => ?_) (fun p44 h2 => ?_)
          · as_aux_lemma =>
            clear h; have h := hy; clear hy; cbv
            refine R.loopD h (fun s0 y37 e0 hi hFs32 => ?_)
            clear h
            refine R.loopI hi [] (fun s32 => [(4, .i .i64 s32)]) (fun s32 => []) ⟨rfl, ?_, ?_, rfl, rfl⟩ (by kernel_rfl) ?_
            · cbv; try (subst e0; simp only [D.har, D.hbnd, D.hcmp, D.hgi, D.hinb, D.hlen, D.hnt, D.hsub, and_self, and_true, true_and] <;> (repeat' apply And.intro) <;> rfl)
            · cbv; try (subst e0; simp only [D.har, D.hbnd, D.hcmp, D.hgi, D.hinb, D.hlen, D.hnt, D.hsub, and_self, and_true, true_and] <;> (repeat' apply And.intro) <;> rfl)
            clear hi e0
            intro s32 m y' hy hins32 houts32 L hLs32
            have h := hy; clear hy; unfold d36_b1 at h
            cbv
            refine R.cut' (by kernel_rfl) (by kernel_rfl) ?_
            cbv
            refine R.brD h (by (first | rfl | (simp only [D.har, D.hbnd, D.hcmp, D.hgi, D.hinb, D.hlen, D.hnt, D.hsub]; done) | (simp only [D.har, D.hbnd, D.hcmp, D.hgi, D.hinb, D.hlen, D.hnt, D.hsub]; rfl))) ?_ ?_ <;> clear h <;> intro h <;> cbv
            · refine R.cut' (by kernel_rfl) (by kernel_rfl) ?_
              cbv
              refine R.cutB (fun p => p) (fun _ _ e => e) h [] (fun p41 => [(5, .b p41)]) (fun p41 => []) (by kernel_rfl) (by kernel_rfl) (fun y40 hy hFy40 L hLy40 => ?_) (fun p41 h2 => ?_)
              · clear h; have h := hy; clear hy; cbv
                refine R.brD h (by (first | rfl | (simp only [D.har, D.hbnd, D.hcmp, D.hgi, D.hinb, D.hlen, D.hnt, D.hsub]; done) | (simp only [D.har, D.hbnd, D.hcmp, D.hgi, D.hinb, D.hlen, D.hnt, D.hsub]; rfl))) ?_ ?_ <;> clear h <;> intro h <;> cbv
                · refine R.brD h (by (first | rfl | (simp only [D.har, D.hbnd, D.hcmp, D.hgi, D.hinb, D.hlen, D.hnt, D.hsub]; done) | (simp only [D.har, D.hbnd, D.hcmp, D.hgi, D.hinb, D.hlen, D.hnt, D.hsub]; rfl))) ?_ ?_ <;> clear h <;> intro h <;> cbv
                  · obtain ⟨s', e, hi⟩ := jn_some (fun p => p) h
                    refine hLy40 s' _ _ hi ⟨rfl, ?_, ?_, rfl, rfl⟩ <;> cbv <;> (try (subst e; simp only [D.har, D.hbnd, D.hcmp, D.hgi, D.hinb, D.hlen, D.hnt, D.hsub, and_self, and_true, true_and] <;> (repeat' apply And.intro) <;> rfl))
                  · refine R.brD h (by (first | rfl | (simp only [D.har, D.hbnd, D.hcmp, D.hgi, D.hinb, D.hlen, D.hnt, D.hsub]; done) | (simp only [D.har, D.hbnd, D.hcmp, D.hgi, D.hinb, D.hlen, D.hnt, D.hsub]; rfl))) ?_ ?_ <;> clear h <;> intro h <;> cbv
                    · obtain ⟨s', e, hi⟩ := jn_some (fun p => p) h
                      refine hLy40 s' _ _ hi ⟨rfl, ?_, ?_, rfl, rfl⟩ <;> cbv <;> (try (subst e; simp only [D.har, D.hbnd, D.hcmp, D.hgi, D.hinb, D.hlen, D.hnt, D.hsub, and_self, and_true, true_and] <;> (repeat' apply And.intro) <;> rfl))
                    · obtain ⟨s', e, hi⟩ := jn_some (fun p => p) h
                      refine hLy40 s' _ _ hi ⟨rfl, ?_, ?_, rfl, rfl⟩ <;> cbv <;> (try (subst e; simp only [D.har, D.hbnd, D.hcmp, D.hgi, D.hinb, D.hlen, D.hnt, D.hsub, and_self, and_true, true_and] <;> (repeat' apply And.intro) <;> rfl))
                · refine R.brD h (by (first | rfl | (simp only [D.har, D.hbnd, D.hcmp, D.hgi, D.hinb, D.hlen, D.hnt, D.hsub]; done) | (simp only [D.har, D.hbnd, D.hcmp, D.hgi, D.hinb, D.hlen, D.hnt, D.hsub]; rfl))) ?_ ?_ <;> clear h <;> intro h <;> cbv
                  · obtain ⟨s', e, hi⟩ := jn_some (fun p => p) h
                    refine hLy40 s' _ _ hi ⟨rfl, ?_, ?_, rfl, rfl⟩ <;> cbv <;> (try (subst e; simp only [D.har, D.hbnd, D.hcmp, D.hgi, D.hinb, D.hlen, D.hnt, D.hsub, and_self, and_true, true_and] <;> (repeat' apply And.intro) <;> rfl))
                  · obtain ⟨s', e, hi⟩ := jn_some (fun p => p) h
                    refine hLy40 s' _ _ hi ⟨rfl, ?_, ?_, rfl, rfl⟩ <;> cbv <;> (try (subst e; simp only [D.har, D.hbnd, D.hcmp, D.hgi, D.hinb, D.hlen, D.hnt, D.hsub, and_self, and_true, true_and] <;> (repeat' apply And.intro) <;> rfl))
              · clear h; have h := h2; clear h2; try dsimp only at h
                cbv
                refine R.cut' (by kernel_rfl) (by kernel_rfl) ?_
                cbv
                refine R.brD h (by (first | rfl | (simp only [D.har, D.hbnd, D.hcmp, D.hgi, D.hinb, D.hlen, D.hnt, D.hsub]; done) | (simp only [D.har, D.hbnd, D.hcmp, D.hgi, D.hinb, D.hlen, D.hnt, D.hsub]; rfl))) ?_ ?_ <;> clear h <;> intro h <;> cbv
                · refine R.needD h (by (first | rfl | (simp only [D.har, D.hbnd, D.hcmp, D.hgi, D.hinb, D.hlen, D.hnt, D.hsub]; done) | (simp only [D.har, D.hbnd, D.hcmp, D.hgi, D.hinb, D.hlen, D.hnt, D.hsub]; rfl))) ?_
                  clear h; intro h; cbv
                  refine R.brD h (by (first | rfl | (simp only [D.har, D.hbnd, D.hcmp, D.hgi, D.hinb, D.hlen, D.hnt, D.hsub]; done) | (simp only [D.har, D.hbnd, D.hcmp, D.hgi, D.hinb, D.hlen, D.hnt, D.hsub]; rfl))) ?_ ?_ <;> clear h <;> intro h <;> cbv
                  · have e := inr_some h houts32; clear h
                    have h := hFs32; rw [e] at h; clear e; try dsimp only at h
                    cbv
                    have e := ret_some h; clear h
                    have h := hFy27; rw [e] at h; clear e; try dsimp only at h
                    cbv
                    have e := ret_some h; clear h
                    refine hK _ _ ?_
                    cbv
                    try (subst e; simp only [D.har, D.hbnd, D.hcmp, D.hgi, D.hinb, D.hlen, D.hnt, D.hsub, and_self, and_true, true_and] <;> (repeat' apply And.intro) <;> rfl)
                  · obtain ⟨s', e, hi⟩ := inl_some h hins32
                    refine hLs32 s' _ _ hi ⟨rfl, ?_, ?_, rfl, rfl⟩ <;> cbv <;> (try (subst e; simp only [D.har, D.hbnd, D.hcmp, D.hgi, D.hinb, D.hlen, D.hnt, D.hsub, and_self, and_true, true_and] <;> (repeat' apply And.intro) <;> rfl))
                · obtain ⟨s', e, hi⟩ := inl_some h hins32
                  refine hLs32 s' _ _ hi ⟨rfl, ?_, ?_, rfl, rfl⟩ <;> cbv <;> (try (subst e; simp only [D.har, D.hbnd, D.hcmp, D.hgi, D.hinb, D.hlen, D.hnt, D.hsub, and_self, and_true, true_and] <;> (repeat' apply And.intro) <;> rfl))
            · have e := inr_some h houts32; clear h
              have h := hFs32; rw [e] at h; clear e; try dsimp only at h
              cbv
              obtain ⟨s', e, hi⟩ := jn_some Sum.inl h
              refine hLy27 s' _ _ hi ⟨rfl, ?_, ?_, rfl, rfl⟩ <;> cbv <;> (try (subst e; simp only [D.har, D.hbnd, D.hcmp, D.hgi, D.hinb, D.hlen, D.hnt, D.hsub, and_self, and_true, true_and] <;> (repeat' apply And.intro) <;> rfl))
          · clear h; have h := h2; clear h2; try dsimp only at h
            cbv
            have e := ret_some h; clear h
            refine hK _ _ ?_
            cbv
            try (subst e; simp only [D.har, D.hbnd, D.hcmp, D.hgi, D.hinb, D.hlen, D.hnt, D.hsub, and_self, and_true, true_and] <;> (repeat' apply And.intro) <;> rfl)

noncomputable def d75v1_b1 (a1 : Int) (s8 : Int × Int × List V) : Option ((Int × Int × List V) ⊕ (List V)) :=
  if (cmpLit .lss s8.2.1 a1) = true then
    if (Room (lenI (appL s8.2.2 [.i .u8 (wrapK .u8 (arReal .and .i64 s8.1 255))])) 1) then
      if (Ge0 8) then
        some (.inl ((arReal .shr .i64 s8.1 8), (arReal .add .i64 s8.2.1 1), (appL s8.2.2 [.i .u8 (wrapK .u8 (arReal .and .i64 s8.1 255))])))
      else none
    else none
  else
    some (.inr s8.2.2)
noncomputable def d75v1 (a0 : Int) (a1 : Int) : Option (List V) :=
  Option.bind (α := List V) (
    (iter (d75v1_b1 a1) (a0, 0, [])).bind fun y9 =>
    some y9) fun y7 =>
  some y7
noncomputable def w75v1_c : Code := (Try.f75.body).getD .skip
theorem w75v1_h : Try.f75.body = some w75v1_c := by kernel_rfl
theorem w75v1 (a0 : Int) (a1 : Int) (r : List V) (h : d75v1 a0 a1 = some r) : Ab.FnB Try.prog TT 75 [.nil, .i .i64 a0, .i .i64 a1] [] [] (.row 0) [(0, .row 5 r)] := by
  refine fnb_rules tok W0 [] [.row 0] [(0, .row 5 r)] [] Try.func75 (by kernel_rfl) w75v1_h (by kernel_rfl) (by rfl) ?_
  intro ar un cv mn mx pl mi cmp nt beq an scmp cat slen sbyte ssub ofB toB len gi gb gs gl sub put app ovl rep ne0 ge0 inb bnd room sroom need br call callb loop cut nl E R K hK
  have D := E.D
  clear E
  unfold d75v1 at h
  cbv
  refine R.cutB (fun p => p) (fun _ _ e => e) h [] (fun p11 => [(0, .row 15)]) (fun p11 => [(15, .row 5 p11)]) (by kernel_rfl) (by kernel_rfl) (fun y7 hy hFy7 L hLy7 => ?_) (fun p11 h2 => ?_)
  · clear h; have h := hy; clear hy; cbv
    refine R.loopD h (fun s0 y9 e0 hi hFs8 => ?_)
    clear h
    refine R.born' (e := te5) 0 15 5 rfl rfl (by kernel_rfl) (by decide) ?_
    refine R.loopI hi [] (fun s8 => [(0, .row 15), (1, .i .i64 s8.1), (7, .i .i64 s8.2.1)]) (fun s8 => [(15, .row 5 s8.2.2)]) ⟨rfl, ?_, ?_, rfl, rfl⟩ (by kernel_rfl) ?_
    · cbv; try (subst e0; simp only [D.happ, D.har, D.hcmp, D.hcv, D.hge0, D.hlen, D.hroom, and_self, and_true, true_and] <;> (repeat' apply And.intro) <;> rfl)
    · cbv; try (subst e0; simp only [D.happ, D.har, D.hcmp, D.hcv, D.hge0, D.hlen, D.hroom, and_self, and_true, true_and] <;> (repeat' apply And.intro) <;> rfl)
    clear hi e0
    intro s8 m y' hy hins8 houts8 L hLs8
    have h := hy; clear hy; unfold d75v1_b1 at h
    cbv
    refine R.cut' (by kernel_rfl) (by kernel_rfl) ?_
    cbv
    refine R.brD h (by (first | rfl | (simp only [D.happ, D.har, D.hcmp, D.hcv, D.hge0, D.hlen, D.hroom]; done) | (simp only [D.happ, D.har, D.hcmp, D.hcv, D.hge0, D.hlen, D.hroom]; rfl))) ?_ ?_ <;> clear h <;> intro h <;> cbv
    · refine R.cut' (by kernel_rfl) (by kernel_rfl) ?_
      cbv
      refine R.needD h (by (first | rfl | (simp only [D.happ, D.har, D.hcmp, D.hcv, D.hge0, D.hlen, D.hroom]; done) | (simp only [D.happ, D.har, D.hcmp, D.hcv, D.hge0, D.hlen, D.hroom]; rfl))) ?_
      clear h; intro h; cbv
      refine R.needD h (by (first | rfl | (simp only [D.happ, D.har, D.hcmp, D.hcv, D.hge0, D.hlen, D.hroom]; done) | (simp only [D.happ, D.har, D.hcmp, D.hcv, D.hge0, D.hlen, D.hroom]; rfl))) ?_
      clear h; intro h; cbv
      obtain ⟨s', e, hi⟩ := inl_some h hins8
      refine hLs8 s' _ _ hi ⟨rfl, ?_, ?_, rfl, rfl⟩ <;> cbv <;> (try (subst e; simp only [D.happ, D.har, D.hcmp, D.hcv, D.hge0, D.hlen, D.hroom, and_self, and_true, true_and] <;> (repeat' apply And.intro) <;> rfl))
    · have e := inr_some h houts8; clear h
      have h := hFs8; rw [e] at h; clear e; try dsimp only at h
      cbv
      obtain ⟨s', e, hi⟩ := jn_some (fun p => p) h
      refine hLy7 s' _ _ hi ⟨rfl, ?_, ?_, rfl, rfl⟩ <;> cbv <;> (try (subst e; simp only [D.happ, D.har, D.hcmp, D.hcv, D.hge0, D.hlen, D.hroom, and_self, and_true, true_and] <;> (repeat' apply And.intro) <;> rfl))
  · clear h; have h := h2; clear h2; try dsimp only at h
    cbv
    have e := ret_some h; clear h
    refine hK _ _ ⟨rfl, ?_, ?_, rfl, rfl⟩ <;> cbv <;> (try (subst e; simp only [D.happ, D.har, D.hcmp, D.hcv, D.hge0, D.hlen, D.hroom, and_self, and_true, true_and] <;> (repeat' apply And.intro) <;> rfl))

noncomputable def d75v2_b1 (a1 : Int) (s8 : Int × Int × List V) : Option ((Int × Int × List V) ⊕ (List V)) :=
  if (cmpLit .lss s8.2.1 a1) = true then
    if (Room (lenI (appL s8.2.2 [.i .u8 (wrapK .u8 (arReal .and .i64 s8.1 255))])) 1) then
      if (Ge0 8) then
        some (.inl ((arReal .shr .i64 s8.1 8), (arReal .add .i64 s8.2.1 1), (appL s8.2.2 [.i .u8 (wrapK .u8 (arReal .and .i64 s8.1 255))])))
      else none
    else none
  else
    some (.inr s8.2.2)
noncomputable def d75v2 (a0 : Int) (a1 : Int) (a2 : List V) : Option (List V) :=
  Option.bind (α := List V) (
    (iter (d75v2_b1 a1) (a0, 0, a2)).bind fun y9 =>
    some y9) fun y7 =>
  some y7
noncomputable def w75v2_c : Code := (Try.f75.body).getD .skip
theorem w75v2_h : Try.f75.body = some w75v2_c := by kernel_rfl
theorem w75v2 (a0 : Int) (a1 : Int) (a2 : List V) (r : List V) (h : d75v2 a0 a1 a2 = some r) : Ab.FnB Try.prog TT 75 [.row 900000, .i .i64 a0, .i .i64 a1] [(900000, .row 5 a2)] [] (.row 0) [(0, .row 5 r), (900000, .gone)] := by
  refine fnb_rules tok W0 [] [.row 0] [(0, .row 5 r)] [900000] Try.func75 (by kernel_rfl) w75v2_h (by kernel_rfl) (by rfl) ?_
  intro ar un cv mn mx pl mi cmp nt beq an scmp cat slen sbyte ssub ofB toB len gi gb gs gl sub put app ovl rep ne0 ge0 inb bnd room sroom need br call callb loop cut nl E R K hK
  have D := E.D
  clear E
  unfold d75v2 at h
  cbv
  refine R.cutB (fun p => p) (fun _ _ e => e) h [] (fun p11 => [(0, .row 900000)]) (fun p11 => [(900000, .row 5 p11)]) (by kernel_rfl) (by kernel_rfl) (fun y7 hy hFy7 L hLy7 => ?_) (fun p11 h2 => ?_)
  · clear h; have h := hy; clear hy; cbv
    refine R.loopD h (fun s0 y9 e0 hi hFs8 => ?_)
    clear h
    refine R.loopI hi [] (fun s8 => [(0, .row 900000), (1, .i .i64 s8.1), (7, .i .i64 s8.2.1)]) (fun s8 => [(900000, .row 5 s8.2.2)]) ⟨rfl, ?_, ?_, rfl, rfl⟩ (by kernel_rfl) ?_
    · cbv; try (subst e0; simp only [D.happ, D.har, D.hcmp, D.hcv, D.hge0, D.hlen, D.hroom, and_self, and_true, true_and] <;> (repeat' apply And.intro) <;> rfl)
    · cbv; try (subst e0; simp only [D.happ, D.har, D.hcmp, D.hcv, D.hge0, D.hlen, D.hroom, and_self, and_true, true_and] <;> (repeat' apply And.intro) <;> rfl)
    clear hi e0
    intro s8 m y' hy hins8 houts8 L hLs8
    have h := hy; clear hy; unfold d75v2_b1 at h
    cbv
    refine R.cut' (by kernel_rfl) (by kernel_rfl) ?_
    cbv
    refine R.brD h (by (first | rfl | (simp only [D.happ, D.har, D.hcmp, D.hcv, D.hge0, D.hlen, D.hroom]; done) | (simp only [D.happ, D.har, D.hcmp, D.hcv, D.hge0, D.hlen, D.hroom]; rfl))) ?_ ?_ <;> clear h <;> intro h <;> cbv
    · refine R.cut' (by kernel_rfl) (by kernel_rfl) ?_
      cbv
      refine R.needD h (by (first | rfl | (simp only [D.happ, D.har, D.hcmp, D.hcv, D.hge0, D.hlen, D.hroom]; done) | (simp only [D.happ, D.har, D.hcmp, D.hcv, D.hge0, D.hlen, D.hroom]; rfl))) ?_
      clear h; intro h; cbv
      refine R.needD h (by (first | rfl | (simp only [D.happ, D.har, D.hcmp, D.hcv, D.hge0, D.hlen, D.hroom]; done) | (simp only [D.happ, D.har, D.hcmp, D.hcv, D.hge0, D.hlen, D.hroom]; rfl))) ?_
      clear h; intro h; cbv
      obtain ⟨s', e, hi⟩ := inl_some h hins8
      refine hLs8 s' _ _ hi ⟨rfl, ?_, ?_, rfl, rfl⟩ <;> cbv <;> (try (subst e; simp only [D.happ, D.har, D.hcmp, D.hcv, D.hge0, D.hlen, D.hroom, and_self, and_true, true_and] <;> (repeat' apply And.intro) <;> rfl))
    · have e := inr_some h houts8; clear h
      have h := hFs8; rw [e] at h; clear e; try dsimp only at h
      cbv
      obtain ⟨s', e, hi⟩ := jn_some (fun p => p) h
      refine hLy7 s' _ _ hi ⟨rfl, ?_, ?_, rfl, rfl⟩ <;> cbv <;> (try (subst e; simp only [D.happ, D.har, D.hcmp, D.hcv, D.hge0, D.hlen, D.hroom, and_self, and_true, true_and] <;> (repeat' apply And.intro) <;> rfl))
  · clear h; have h := h2; clear h2; try dsimp only at h
    cbv
    have e := ret_some h; clear h
    refine hK _ _ ⟨rfl, ?_, ?_, rfl, rfl⟩ <;> cbv <;> (try (subst e; simp only [D.happ, D.har, D.hcmp, D.hcv, D.hge0, D.hlen, D.hroom, and_self, and_true, true_and] <;> (repeat' apply And.intro) <;> rfl))
end Go.Proofs.Ytdejapkfijdadaa
end
section
namespace Go.Proofs.Ytdejapkfijdadaa
open Go.Ab Go.RowKit 
set_option maxRecDepth 100000
set_option maxHeartbeats 40000000
noncomputable def d59 (a0_0 : Int) (a0_1 : Int) (a0_2 : List V) : Option (List V) :=
  (d75v1 a0_0 4).bind fun x1 =>
  (d75v2 a0_1 8 x1).bind fun x2 =>
  (d75v2 (lenI a0_2) 2 x2).bind fun x3 =>
  if (Room (lenI (appL x3 a0_2)) 1) then
    some (appL x3 a0_2)
  else none
noncomputable def w59_c : Code := (Try.f59.body).getD .skip
theorem w59_h : Try.f59.body = some w59_c := by kernel_rfl
theorem w59 (a0_0 : Int) (a0_1 : Int) (a0_2 : List V) (r : List V) (h : d59 a0_0 a0_1 a0_2 = some r) : Ab.Fn Try.prog TT 59 [.agg [.i .i64 a0_0, .i .i64 a0_1, .sl 5 a0_2]] (.row 0) [(0, .row 5 r)] := by
  refine fn_own tok W0 Try.func59 (by kernel_rfl) w59_h (by kernel_rfl) ?_
  intro ar un cv mn mx pl mi cmp nt beq an scmp cat slen sbyte ssub ofB toB len gi gb gs gl sub put app ovl rep ne0 ge0 inb bnd room sroom need br call callb loop cut nl E R K hK
  have D := E.D
  clear E
  unfold d59 at h
  cbv
  refine R.callBD h (fun x1 hx1 h2 => ?_)
  clear h; have h := h2; clear h2
  refine R.callB [(0, 96)] (w75v1 a0_0 4 _ hx1) ?_ ?_ rfl ?_
  · cbv <;> (try simp only [D.happ, D.hlen, D.hroom, and_self, and_true, true_and] <;> (repeat' apply And.intro) <;> rfl)
  · cbv <;> (try simp only [D.happ, D.hlen, D.hroom, and_self, and_true, true_and] <;> (repeat' apply And.intro) <;> rfl)
  clear hx1; cbv
  refine R.callBD h (fun x2 hx2 h2 => ?_)
  clear h; have h := h2; clear h2
  refine R.callB [(0, 160), (900000, 96)] (w75v2 a0_1 8 x1 _ hx2) ?_ ?_ rfl ?_
  · cbv <;> (try simp only [D.happ, D.hlen, D.hroom, and_self, and_true, true_and] <;> (repeat' apply And.intro) <;> rfl)
  · cbv <;> (try simp only [D.happ, D.hlen, D.hroom, and_self, and_true, true_and] <;> (repeat' apply And.intro) <;> rfl)
  clear hx2; cbv
  refine R.callBD h (fun x3 hx3 h2 => ?_)
  clear h; have h := h2; clear h2
  obtain ⟨bx3_0, ex3_0, hbx3⟩ : ∃ bx3_0, bx3_0 = (lenI a0_2) ∧ d75v2 bx3_0 2 x2 = some x3 := ⟨_, rfl, hx3⟩
  clear hx3; have hx3 := hbx3; clear hbx3
  refine R.callB [(0, 240), (900000, 160)] (w75v2 bx3_0 2 x2 _ hx3) ?_ ?_ rfl ?_
  · cbv <;> (try simp only [D.happ, D.hlen, D.hroom, ex3_0, and_self, and_true, true_and] <;> (repeat' apply And.intro) <;> rfl)
  · cbv <;> (try simp only [D.happ, D.hlen, D.hroom, ex3_0, and_self, and_true, true_and] <;> (repeat' apply And.intro) <;> rfl)
  clear hx3; cbv
  refine R.needD h (by (first | rfl | (simp only [D.happ, D.hlen, D.hroom, ex3_0]; done) | (simp only [D.happ, D.hlen, D.hroom, ex3_0]; rfl))) ?_
  clear h; intro h; cbv
  have e := ret_some h; clear h
  refine hK _ _ ⟨rfl, ⟨?_, rfl, rfl, rfl, ?_⟩⟩ <;> cbv <;> (try (subst e; simp only [D.happ, D.hlen, D.hroom, ex3_0, and_self, and_true, true_and] <;> (repeat' apply And.intro) <;> rfl))
theorem w59s (a0_0 : Int) (a0_1 : Int) (a0_2 : List V) (r : List V) (h : d59 a0_0 a0_1 a0_2 = some r) : Ab.Fn Try.prog TT 59 [.agg [.i .i64 a0_0, .i .i64 a0_1, .sl 5 a0_2]] (.sl 5 r) [] :=
  (w59 a0_0 a0_1 a0_2 r h).pure (by simp [ple, ple1, ple1L, pleL, pleS, Ab.look])

noncomputable def d60 (a0_0 : Int) (a0_1 : List V) (a0_2 : Int) (a0_3 : Int) (a0_4 : Int) (a0_5 : Int) (a0_6 : List V) (a0_7 : Int) (a0_8 : Bool) (a1 : List V) : Option (Int × List V × Int × Int × Int × Int × List V × Int × Bool) :=
  if (Bnd 0 a0_3 (lenI a0_1)) then
    if (Room (lenI (subL a0_1 0 a0_3)) 1) then
      if (Room (lenI (appL (subL a0_1 0 a0_3) a1)) 1) then
        if (Bnd (arReal .add .i64 a0_3 (lenI a1)) (lenI a0_1) (lenI a0_1)) then
          if (Room (lenI (appL (appL (subL a0_1 0 a0_3) a1) (subL a0_1 (arReal .add .i64 a0_3 (lenI a1)) (lenI a0_1)))) 1) then
            some (a0_0, (appL (appL (subL a0_1 0 a0_3) a1) (subL a0_1 (arReal .add .i64 a0_3 (lenI a1)) (lenI a0_1))), a0_2, (arReal .add .i64 a0_3 (lenI a1)), a0_4, a0_5, a0_6, a0_7, a0_8)
          else none
        else none
      else none
    else none
  else none
noncomputable def w60_c : Code := (Try.f60.body).getD .skip
theorem w60_h : Try.f60.body = some w60_c := by kernel_rfl
theorem w60 (a0_0 : Int) (a0_1 : List V) (a0_2 : Int) (a0_3 : Int) (a0_4 : Int) (a0_5 : Int) (a0_6 : List V) (a0_7 : Int) (a0_8 : Bool) (a1 : List V) (r : Int × List V × Int × Int × Int × Int × List V × Int × Bool) (h : d60 a0_0 a0_1 a0_2 a0_3 a0_4 a0_5 a0_6 a0_7 a0_8 a1 = some r) : Ab.Fn Try.prog TT 60 [.agg [.i .i64 a0_0, .sl 5 a0_1, .i .i64 a0_2, .i .i64 a0_3, .i .i64 a0_4, .i .i64 a0_5, .sl 5 a0_6, .i .i64 a0_7, .b a0_8], .sl 5 a1] (.agg [.i .i64 r.1, .row 0, .i .i64 r.2.2.1, .i .i64 r.2.2.2.1, .i .i64 r.2.2.2.2.1, .i .i64 r.2.2.2.2.2.1, .sl 5 r.2.2.2.2.2.2.1, .i .i64 r.2.2.2.2.2.2.2.1, .b r.2.2.2.2.2.2.2.2]) [(0, .row 5 r.2.1)] := by
  refine fn_own tok W0 Try.func60 (by kernel_rfl) w60_h (by kernel_rfl) ?_
  intro ar un cv mn mx pl mi cmp nt beq an scmp cat slen sbyte ssub ofB toB len gi gb gs gl sub put app ovl rep ne0 ge0 inb bnd room sroom need br call callb loop cut nl E R K hK
  have D := E.D
  clear E
  unfold d60 at h
  cbv
  refine R.needD h (by (first | rfl | (simp only [D.happ, D.har, D.hbnd, D.hlen, D.hroom, D.hsub]; done) | (simp only [D.happ, D.har, D.hbnd, D.hlen, D.hroom, D.hsub]; rfl))) ?_
  clear h; intro h; cbv
  refine R.needD h (by (first | rfl | (simp only [D.happ, D.har, D.hbnd, D.hlen, D.hroom, D.hsub]; done) | (simp only [D.happ, D.har, D.hbnd, D.hlen, D.hroom, D.hsub]; rfl))) ?_
  clear h; intro h; cbv
  refine R.needD h (by (first | rfl | (simp only [D.happ, D.har, D.hbnd, D.hlen, D.hroom, D.hsub]; done) | (simp only [D.happ, D.har, D.hbnd, D.hlen, D.hroom, D.hsub]; rfl))) ?_
  clear h; intro h; cbv
  refine R.needD h (by (first | rfl | (simp only [D.happ, D.har, D.hbnd, D.hlen, D.hroom, D.hsub]; done) | (simp only [D.happ, D.har, D.hbnd, D.hlen, D.hroom, D.hsub]; rfl))) ?_
  clear h; intro h; cbv
  refine R.needD h (by (first | rfl | (simp only [D.happ, D.har, D.hbnd, D.hlen, D.hroom, D.hsub]; done) | (simp only [D.happ, D.har, D.hbnd, D.hlen, D.hroom, D.hsub]; rfl))) ?_
  clear h; intro h; cbv
  have e := ret_some h; clear h
  refine hK _ _ ⟨rfl, ⟨?_, rfl, rfl, rfl, ?_⟩⟩ <;> cbv <;> (try (subst e; simp only [D.happ, D.har, D.hbnd, D.hlen, D.hroom, D.hsub, and_self, and_true, true_and] <;> (repeat' apply And.intro) <;> rfl))
theorem w60s (a0_0 : Int) (a0_1 : List V) (a0_2 : Int) (a0_3 : Int) (a0_4 : Int) (a0_5 : Int) (a0_6 : List V) (a0_7 : Int) (a0_8 : Bool) (a1 : List V) (r : Int × List V × Int × Int × Int × Int × List V × Int × Bool) (h : d60 a0_0 a0_1 a0_2 a0_3 a0_4 a0_5 a0_6 a0_7 a0_8 a1 = some r) : Ab.Fn Try.prog TT 60 [.agg [.i .i64 a0_0, .sl 5 a0_1, .i .i64 a0_2, .i .i64 a0_3, .i .i64 a0_4, .i .i64 a0_5, .sl 5 a0_6, .i .i64 a0_7, .b a0_8], .sl 5 a1] (.agg [.i .i64 r.1, .sl 5 r.2.1, .i .i64 r.2.2.1, .i .i64 r.2.2.2.1, .i .i64 r.2.2.2.2.1, .i .i64 r.2.2.2.2.2.1, .sl 5 r.2.2.2.2.2.2.1, .i .i64 r.2.2.2.2.2.2.2.1, .b r.2.2.2.2.2.2.2.2]) [] :=
  (w60 a0_0 a0_1 a0_2 a0_3 a0_4 a0_5 a0_6 a0_7 a0_8 a1 r h).pure (by simp [ple, ple1, ple1L, pleL, pleS, Ab.look])

noncomputable def d61 (a0_0 : Int) (a0_1 : List V) (a0_2 : Int) (a0_3 : Int) (a0_4 : Int) (a0_5 : Int) (a0_6 : List V) (a0_7 : Int) (a0_8 : Bool) (a1 : Int) : Option (Int × List V × Int × Int × Int × Int × List V × Int × Bool) :=
  some (a0_0, a0_1, a0_2, a0_3, a0_4, (mnI (arReal .add .i64 a0_5 a1) 1099511627776), a0_6, a0_7, a0_8)
noncomputable def w61_c : Code := (Try.f61.body).getD .skip
theorem w61_h : Try.f61.body = some w61_c := by kernel_rfl
theorem w61 (a0_0 : Int) (a0_1 : List V) (a0_2 : Int) (a0_3 : Int) (a0_4 : Int) (a0_5 : Int) (a0_6 : List V) (a0_7 : Int) (a0_8 : Bool) (a1 : Int) (r : Int × List V × Int × Int × Int × Int × List V × Int × Bool) (h : d61 a0_0 a0_1 a0_2 a0_3 a0_4 a0_5 a0_6 a0_7 a0_8 a1 = some r) : Ab.Fn Try.prog TT 61 [.agg [.i .i64 a0_0, .sl 5 a0_1, .i .i64 a0_2, .i .i64 a0_3, .i .i64 a0_4, .i .i64 a0_5, .sl 5 a0_6, .i .i64 a0_7, .b a0_8], .i .i64 a1] (.agg [.i .i64 r.1, .sl 5 r.2.1, .i .i64 r.2.2.1, .i .i64 r.2.2.2.1, .i .i64 r.2.2.2.2.1, .i .i64 r.2.2.2.2.2.1, .sl 5 r.2.2.2.2.2.2.1, .i .i64 r.2.2.2.2.2.2.2.1, .b r.2.2.2.2.2.2.2.2]) [] := by
  refine fn_pure tok W0 Try.func61 (by kernel_rfl) w61_h (by kernel_rfl) ?_
  intro ar un cv mn mx pl mi cmp nt beq an scmp cat slen sbyte ssub ofB toB len gi gb gs gl sub put app ovl rep ne0 ge0 inb bnd room sroom need br call callb loop cut nl E R K hK
  have D := E.D
  clear E
  unfold d61 at h
  cbv
  have e := ret_some h; clear h
  refine hK _ _ ?_
  cbv
  try (subst e; simp only [D.har, D.hmn, and_self, and_true, true_and] <;> (repeat' apply And.intro) <;> rfl)

noncomputable def d62 (a0_0 : Int) (a0_1 : List V) (a0_2 : Int) (a0_3 : Int) (a0_4 : Int) (a0_5 : Int) (a0_6 : List V) (a0_7 : Int) (a0_8 : Bool) : Option (List V) :=
  if (cmpLit .eql a0_4 0) = true then
    if (Bnd a0_2 a0_3 (lenI a0_1)) then
      if (Room (lenI (subL a0_1 a0_2 a0_3)) 1) then
        some (subL a0_1 a0_2 a0_3)
      else none
    else none
  else
    if (Bnd a0_2 a0_4 (lenI a0_1)) then
      if (Room (lenI (subL a0_1 a0_2 a0_4)) 1) then
        if (Bnd 0 a0_3 (lenI a0_1)) then
          if (Room (lenI (appL (subL a0_1 a0_2 a0_4) (subL a0_1 0 a0_3))) 1) then
            some (appL (subL a0_1 a0_2 a0_4) (subL a0_1 0 a0_3))
          else none
        else none
      else none
    else none
noncomputable def w62_c : Code := (Try.f62.body).getD .skip
theorem w62_h : Try.f62.body = some w62_c := by kernel_rfl
theorem w62 (a0_0 : Int) (a0_1 : List V) (a0_2 : Int) (a0_3 : Int) (a0_4 : Int) (a0_5 : Int) (a0_6 : List V) (a0_7 : Int) (a0_8 : Bool) (r : List V) (h : d62 a0_0 a0_1 a0_2 a0_3 a0_4 a0_5 a0_6 a0_7 a0_8 = some r) : Ab.Fn Try.prog TT 62 [.agg [.i .i64 a0_0, .sl 5 a0_1, .i .i64 a0_2, .i .i64 a0_3, .i .i64 a0_4, .i .i64 a0_5, .sl 5 a0_6, .i .i64 a0_7, .b a0_8]] (.row 0) [(0, .row 5 r)] := by
  refine fn_own tok W0 Try.func62 (by kernel_rfl) w62_h (by kernel_rfl) ?_
  intro ar un cv mn mx pl mi cmp nt beq an scmp cat slen sbyte ssub ofB toB len gi gb gs gl sub put app ovl rep ne0 ge0 inb bnd room sroom need br call callb loop cut nl E R K hK
  have D := E.D
  clear E
  unfold d62 at h
  cbv
  refine R.cut' (by kernel_rfl) (by kernel_rfl) ?_
  cbv
  refine R.brD h (by (first | rfl | (simp only [D.happ, D.hbnd, D.hcmp, D.hlen, D.hroom, D.hsub]; done) | (simp only [D.happ, D.hbnd, D.hcmp, D.hlen, D.hroom, D.hsub]; rfl))) ?_ ?_ <;> clear h <;> intro h <;> cbv
  · refine R.needD h (by (first | rfl | (simp only [D.happ, D.hbnd, D.hcmp, D.hlen, D.hroom, D.hsub]; done) | (simp only [D.happ, D.hbnd, D.hcmp, D.hlen, D.hroom, D.hsub]; rfl))) ?_
    clear h; intro h; cbv
    refine R.needD h (by (first | rfl | (simp only [D.happ, D.hbnd, D.hcmp, D.hlen, D.hroom, D.hsub]; done) | (simp only [D.happ, D.hbnd, D.hcmp, D.hlen, D.hroom, D.hsub]; rfl))) ?_
    clear h; intro h; cbv
    have e := ret_some h; clear h
    refine hK _ _ ⟨rfl, ⟨?_, rfl, rfl, rfl, ?_⟩⟩ <;> cbv <;> (try (subst e; simp only [D.happ, D.hbnd, D.hcmp, D.hlen, D.hroom, D.hsub, and_self, and_true, true_and] <;> (repeat' apply And.intro) <;> rfl))
  · refine R.needD h (by (first | rfl | (simp only [D.happ, D.hbnd, D.hcmp, D.hlen, D.hroom, D.hsub]; done) | (simp only [D.happ, D.hbnd, D.hcmp, D.hlen, D.hroom, D.hsub]; rfl))) ?_
    clear h; intro h; cbv
    refine R.needD h (by (first | rfl | (simp only [D.happ, D.hbnd, D.hcmp, D.hlen, D.hroom, D.hsub]; done) | (simp only [D.happ, D.hbnd, D.hcmp, D.hlen, D.hroom, D.hsub]; rfl))) ?_
    clear h; intro h; cbv
    refine R.needD h (by (first | rfl | (simp only [D.happ, D.hbnd, D.hcmp, D.hlen, D.hroom, D.hsub]; done) | (simp only [D.happ, D.hbnd, D.hcmp, D.hlen, D.hroom, D.hsub]; rfl))) ?_
    clear h; intro h; cbv
    refine R.needD h (by (first | rfl | (simp only [D.happ, D.hbnd, D.hcmp, D.hlen, D.hroom, D.hsub]; done) | (simp only [D.happ, D.hbnd, D.hcmp, D.hlen, D.hroom, D.hsub]; rfl))) ?_
    clear h; intro h; cbv
    have e := ret_some h; clear h
    refine hK _ _ ⟨rfl, ⟨?_, rfl, rfl, rfl, ?_⟩⟩ <;> cbv <;> (try (subst e; simp only [D.happ, D.hbnd, D.hcmp, D.hlen, D.hroom, D.hsub, and_self, and_true, true_and] <;> (repeat' apply And.intro) <;> rfl))
theorem w62s (a0_0 : Int) (a0_1 : List V) (a0_2 : Int) (a0_3 : Int) (a0_4 : Int) (a0_5 : Int) (a0_6 : List V) (a0_7 : Int) (a0_8 : Bool) (r : List V) (h : d62 a0_0 a0_1 a0_2 a0_3 a0_4 a0_5 a0_6 a0_7 a0_8 = some r) : Ab.Fn Try.prog TT 62 [.agg [.i .i64 a0_0, .sl 5 a0_1, .i .i64 a0_2, .i .i64 a0_3, .i .i64 a0_4, .i .i64 a0_5, .sl 5 a0_6, .i .i64 a0_7, .b a0_8]] (.sl 5 r) [] :=
  (w62 a0_0 a0_1 a0_2 a0_3 a0_4 a0_5 a0_6 a0_7 a0_8 r h).pure (by simp [ple, ple1, ple1L, pleL, pleS, Ab.look])

noncomputable def d63 (a0_0 : Int) (a0_1 : List V) (a0_2 : Int) (a0_3 : Int) (a0_4 : Int) (a0_5 : Int) (a0_6 : List V) (a0_7 : Int) (a0_8 : Bool) : Option (Int × List V × Int × Int × Int × Int × List V × Int × Bool) :=
  if (Ge0 (lenI a0_1)) then
    if (Room (lenI a0_1) 1) then
      some (a0_0, (repL (lenI a0_1) (.i .u8 0)), 0, 0, 0, 0, a0_6, a0_7, a0_8)
    else none
  else none
noncomputable def w63_c : Code := (Try.f63.body).getD .skip
theorem w63_h : Try.f63.body = some w63_c := by kernel_rfl
theorem w63 (a0_0 : Int) (a0_1 : List V) (a0_2 : Int) (a0_3 : Int) (a0_4 : Int) (a0_5 : Int) (a0_6 : List V) (a0_7 : Int) (a0_8 : Bool) (r : Int × List V × Int × Int × Int × Int × List V × Int × Bool) (h : d63 a0_0 a0_1 a0_2 a0_3 a0_4 a0_5 a0_6 a0_7 a0_8 = some r) : Ab.Fn Try.prog TT 63 [.agg [.i .i64 a0_0, .sl 5 a0_1, .i .i64 a0_2, .i .i64 a0_3, .i .i64 a0_4, .i .i64 a0_5, .sl 5 a0_6, .i .i64 a0_7, .b a0_8]] (.agg [.i .i64 r.1, .row 0, .i .i64 r.2.2.1, .i .i64 r.2.2.2.1, .i .i64 r.2.2.2.2.1, .i .i64 r.2.2.2.2.2.1, .sl 5 r.2.2.2.2.2.2.1, .i .i64 r.2.2.2.2.2.2.2.1, .b r.2.2.2.2.2.2.2.2]) [(0, .row 5 r.2.1)] := by
  refine fn_own tok W0 Try.func63 (by kernel_rfl) w63_h (by kernel_rfl) ?_
  intro ar un cv mn mx pl mi cmp nt beq an scmp cat slen sbyte ssub ofB toB len gi gb gs gl sub put app ovl rep ne0 ge0 inb bnd room sroom need br call callb loop cut nl E R K hK
  have D := E.D
  clear E
  unfold d63 at h
  cbv
  refine R.needD h (by (first | rfl | (simp only [D.hge0, D.hlen, D.hrep, D.hroom]; done) | (simp only [D.hge0, D.hlen, D.hrep, D.hroom]; rfl))) ?_
  clear h; intro h; cbv
  refine R.needD h (by (first | rfl | (simp only [D.hge0, D.hlen, D.hrep, D.hroom]; done) | (simp only [D.hge0, D.hlen, D.hrep, D.hroom]; rfl))) ?_
  clear h; intro h; cbv
  have e := ret_some h; clear h
  refine hK _ _ ⟨rfl, ⟨?_, rfl, rfl, rfl, ?_⟩⟩ <;> cbv <;> (try (subst e; simp only [D.hge0, D.hlen, D.hrep, D.hroom, and_self, and_true, true_and] <;> (repeat' apply And.intro) <;> rfl))
theorem w63s (a0_0 : Int) (a0_1 : List V) (a0_2 : Int) (a0_3 : Int) (a0_4 : Int) (a0_5 : Int) (a0_6 : List V) (a0_7 : Int) (a0_8 : Bool) (r : Int × List V × Int × Int × Int × Int × List V × Int × Bool) (h : d63 a0_0 a0_1 a0_2 a0_3 a0_4 a0_5 a0_6 a0_7 a0_8 = some r) : Ab.Fn Try.prog TT 63 [.agg [.i .i64 a0_0, .sl 5 a0_1, .i .i64 a0_2, .i .i64 a0_3, .i .i64 a0_4, .i .i64 a0_5, .sl 5 a0_6, .i .i64 a0_7, .b a0_8]] (.agg [.i .i64 r.1, .sl 5 r.2.1, .i .i64 r.2.2.1, .i .i64 r.2.2.2.1, .i .i64 r.2.2.2.2.1, .i .i64 r.2.2.2.2.2.1, .sl 5 r.2.2.2.2.2.2.1, .i .i64 r.2.2.2.2.2.2.2.1, .b r.2.2.2.2.2.2.2.2]) [] :=
  (w63 a0_0 a0_1 a0_2 a0_3 a0_4 a0_5 a0_6 a0_7 a0_8 r h).pure (by simp [ple, ple1, ple1L, pleL, pleS, Ab.look])

noncomputable def d76_b1 (a0_2 : Int) (x1 : Int) (s5 : Int × List V) : Option ((Int × List V) ⊕ (List V)) :=
  if (cmpLit .lss s5.1 (arReal .add .i64 14 x1)) = true then
    if (Inb (arReal .add .i64 a0_2 s5.1) (lenI s5.2)) then
      some (.inl ((arReal .add .i64 s5.1 1), (putL s5.2 (arReal .add .i64 a0_2 s5.1) 0 [.i .u8 0])))
    else none
  else
    some (.inr s5.2)
noncomputable def d76 (a0_0 : Int) (a0_1 : List V) (a0_2 : Int) (a0_3 : Int) (a0_4 : Int) (a0_5 : Int) (a0_6 : List V) (a0_7 : Int) (a0_8 : Bool) : Option (Int × List V × Int × Int × Int × Int × List V × Int × Bool) :=
  if (Bnd (arReal .add .i64 a0_2 12) (arReal .add .i64 a0_2 14) (lenI a0_1)) then
    (d52 (subL a0_1 (arReal .add .i64 a0_2 12) (arReal .add .i64 a0_2 14))).bind fun x1 =>
    if (Room (lenI a0_1) 1) then
      Option.bind (α := List V) (
        (iter (d76_b1 a0_2 x1) (0, a0_1)).bind fun y6 =>
        some y6) fun y4 =>
      if (cmpLit .eql (arReal .add .i64 a0_2 (arReal .add .i64 14 x1)) a0_4) = true then
        (d61 a0_0 y4 0 a0_3 0 a0_5 a0_6 a0_7 a0_8 1).bind fun x9 =>
        some (x9.1, x9.2.1, x9.2.2.1, x9.2.2.2.1, x9.2.2.2.2.1, x9.2.2.2.2.2.1, x9.2.2.2.2.2.2.1, x9.2.2.2.2.2.2.2.1, x9.2.2.2.2.2.2.2.2)
      else
        (d61 a0_0 y4 (arReal .add .i64 a0_2 (arReal .add .i64 14 x1)) a0_3 a0_4 a0_5 a0_6 a0_7 a0_8 1).bind fun x10 =>
        some (x10.1, x10.2.1, x10.2.2.1, x10.2.2.2.1, x10.2.2.2.2.1, x10.2.2.2.2.2.1, x10.2.2.2.2.2.2.1, x10.2.2.2.2.2.2.2.1, x10.2.2.2.2.2.2.2.2)
    else none
  else none
noncomputable def w76_c : Code := (Try.f76.body).getD .skip
theorem w76_h : Try.f76.body = some w76_c := by kernel_rfl
theorem w76 (a0_0 : Int) (a0_1 : List V) (a0_2 : Int) (a0_3 : Int) (a0_4 : Int) (a0_5 : Int) (a0_6 : List V) (a0_7 : Int) (a0_8 : Bool) (r : Int × List V × Int × Int × Int × Int × List V × Int × Bool) (h : d76 a0_0 a0_1 a0_2 a0_3 a0_4 a0_5 a0_6 a0_7 a0_8 = some r) : Ab.Fn Try.prog TT 76 [.agg [.i .i64 a0_0, .sl 5 a0_1, .i .i64 a0_2, .i .i64 a0_3, .i .i64 a0_4, .i .i64 a0_5, .sl 5 a0_6, .i .i64 a0_7, .b a0_8]] (.agg [.i .i64 r.1, .sl 5 r.2.1, .i .i64 r.2.2.1, .i .i64 r.2.2.2.1, .i .i64 r.2.2.2.2.1, .i .i64 r.2.2.2.2.2.1, .sl 5 r.2.2.2.2.2.2.1, .i .i64 r.2.2.2.2.2.2.2.1, .b r.2.2.2.2.2.2.2.2]) [] := by
  refine fn_pure tok W0 Try.func76 (by kernel_rfl) w76_h (by kernel_rfl) ?_
  intro ar un cv mn mx pl mi cmp nt beq an scmp cat slen sbyte ssub ofB toB len gi gb gs gl sub put app ovl rep ne0 ge0 inb bnd room sroom need br call callb loop cut nl E R K hK
  have D := E.D
  clear E
  unfold d76 at h
  cbv
  refine R.needD h (by (first | rfl | (simp only [D.har, D.hbnd, D.hcmp, D.hinb, D.hlen, D.hput, D.hroom, D.hsub]; done) | (simp only [D.har, D.hbnd, D.hcmp, D.hinb, D.hlen, D.hput, D.hroom, D.hsub]; rfl))) ?_
  clear h; intro h; cbv
  refine R.callD h (fun x1 hx1 h2 => ?_)
  clear h; have h := h2; clear h2
  refine R.call' (w52 _ _ hx1) (by (first | rfl | (simp only [D.har, D.hbnd, D.hcmp, D.hinb, D.hlen, D.hput, D.hroom, D.hsub]; done) | (simp only [D.har, D.hbnd, D.hcmp, D.hinb, D.hlen, D.hput, D.hroom, D.hsub]; rfl))) ?_
  clear hx1; cbv
  refine R.needD h (by (first | rfl | (simp only [D.har, D.hbnd, D.hcmp, D.hinb, D.hlen, D.hput, D.hroom, D.hsub]; done) | (simp only [D.har, D.hbnd, D.hcmp, D.hinb, D.hlen, D.hput, D.hroom, D.hsub]; rfl))) ?_
  clear h; intro h; cbv
  refine R.cutB (fun p => p) (fun _ _ e => e) h [] (fun p8 => []) (fun p8 => [(320, .row 5 p8)]) (by kernel_rfl) (by kernel_rfl) (fun y4 hy hFy4 L hLy4 => ?_) (fun p8 h2 => ?_)
  · clear h; have h := hy; clear hy; cbv
    refine R.loopD h (fun s0 y6 e0 hi hFs5 => ?_)
    clear h
    refine R.loopI hi [] (fun s5 => [(5, .i .i64 s5.1)]) (fun s5 => [(320, .row 5 s5.2)]) ⟨rfl, ?_, ?_, rfl, rfl⟩ (by kernel_rfl) ?_
    · cbv; try (subst e0; simp only [D.har, D.hbnd, D.hcmp, D.hinb, D.hlen, D.hput, D.hroom, D.hsub, and_self, and_true, true_and] <;> (repeat' apply And.intro) <;> rfl)
    · cbv; try (subst e0; simp only [D.har, D.hbnd, D.hcmp, D.hinb, D.hlen, D.hput, D.hroom, D.hsub, and_self, and_true, true_and] <;> (repeat' apply And.intro) <;> rfl)
    clear hi e0
    intro s5 m y' hy hins5 houts5 L hLs5
    have h := hy; clear hy; unfold d76_b1 at h
    cbv
    refine R.cut' (by kernel_rfl) (by kernel_rfl) ?_
    cbv
    refine R.brD h (by (first | rfl | (simp only [D.har, D.hbnd, D.hcmp, D.hinb, D.hlen, D.hput, D.hroom, D.hsub]; done) | (simp only [D.har, D.hbnd, D.hcmp, D.hinb, D.hlen, D.hput, D.hroom, D.hsub]; rfl))) ?_ ?_ <;> clear h <;> intro h <;> cbv
    · refine R.cut' (by kernel_rfl) (by kernel_rfl) ?_
      cbv
      refine R.needD h (by (first | rfl | (simp only [D.har, D.hbnd, D.hcmp, D.hinb, D.hlen, D.hput, D.hroom, D.hsub]; done) | (simp only [D.har, D.hbnd, D.hcmp, D.hinb, D.hlen, D.hput, D.hroom, D.hsub]; rfl))) ?_
      clear h; intro h; cbv
      obtain ⟨s', e, hi⟩ := inl_some h hins5
      refine hLs5 s' _ _ hi ⟨rfl, ?_, ?_, rfl, rfl⟩ <;> cbv <;> (try (subst e; simp only [D.har, D.hbnd, D.hcmp, D.hinb, D.hlen, D.hput, D.hroom, D.hsub, and_self, and_true, true_and] <;> (repeat' apply And.intro) <;> rfl))
    · have e := inr_some h houts5; clear h
      have h := hFs5; rw [e] at h; clear e; try dsimp only at h
      cbv
      obtain ⟨s', e, hi⟩ := jn_some (fun p => p) h
      refine hLy4 s' _ _ hi ⟨rfl, ?_, ?_, rfl, rfl⟩ <;> cbv <;> (try (subst e; simp only [D.har, D.hbnd, D.hcmp, D.hinb, D.hlen, D.hput, D.hroom, D.hsub, and_self, and_true, true_and] <;> (repeat' apply And.intro) <;> rfl))
  · clear h; have h := h2; clear h2; try dsimp only at h
    cbv
    refine R.cut' (by kernel_rfl) (by kernel_rfl) ?_
    cbv
    refine R.brD h (by (first | rfl | (simp only [D.har, D.hbnd, D.hcmp, D.hinb, D.hlen, D.hput, D.hroom, D.hsub]; done) | (simp only [D.har, D.hbnd, D.hcmp, D.hinb, D.hlen, D.hput, D.hroom, D.hsub]; rfl))) ?_ ?_ <;> clear h <;> intro h <;> cbv
    · refine R.callD h (fun x9 hx9 h2 => ?_)
      clear h; have h := h2; clear h2
      refine R.call' (w61 _ _ _ _ _ _ _ _ _ _ _ hx9) (by (first | rfl | (simp only [D.har, D.hbnd, D.hcmp, D.hinb, D.hlen, D.hput, D.hroom, D.hsub]; done) | (simp only [D.har, D.hbnd, D.hcmp, D.hinb, D.hlen, D.hput, D.hroom, D.hsub]; rfl))) ?_
      clear hx9; cbv
      have e := ret_some h; clear h
      refine hK _ _ ?_
      cbv
      try (subst e; simp only [D.har, D.hbnd, D.hcmp, D.hinb, D.hlen, D.hput, D.hroom, D.hsub, and_self, and_true, true_and] <;> (repeat' apply And.intro) <;> rfl)
    · refine R.callD h (fun x10 hx10 h2 => ?_)
      clear h; have h := h2; clear h2
      refine R.call' (w61 _ _ _ _ _ _ _ _ _ _ _ hx10) (by (first | rfl | (simp only [D.har, D.hbnd, D.hcmp, D.hinb, D.hlen, D.hput, D.hroom, D.hsub]; done) | (simp only [D.har, D.hbnd, D.hcmp, D.hinb, D.hlen, D.hput, D.hroom, D.hsub]; rfl))) ?_
      clear hx10; cbv
      have e := ret_some h; clear h
      refine hK _ _ ?_
      cbv
      try (subst e; simp only [D.har, D.hbnd, D.hcmp, D.hinb, D.hlen, D.hput, D.hroom, D.hsub, and_self, and_true, true_and] <;> (repeat' apply And.intro) <;> rfl)
end Go.Proofs.Ytdejapkfijdadaa
end
section
namespace Go.Proofs.Ytdejapkfijdadaa
open Go.Ab Go.RowKit 
set_option maxRecDepth 100000
set_option maxHeartbeats 40000000
noncomputable def d64_b1 (a1 : List V) (s15 : Int × List V × Int × Int × Int × Int × List V × Int × Bool) : Option ((Int × List V × Int × Int × Int × Int × List V × Int × Bool) ⊕ (Int × List V × Int × Int × Int × Int × List V × Int × Bool)) :=
  Option.bind (α := Bool) (
    if (cmpLit .eql s15.2.2.2.2.1 0) = true then
      if (cmpLit .leq (arReal .add .i64 s15.2.2.2.1 (lenI a1)) (lenI s15.2.1)) = true then
        some true
      else
        if (cmpLit .neq s15.2.2.2.2.1 0) = true then
          some (cmpLit .leq (arReal .add .i64 s15.2.2.2.1 (lenI a1)) s15.2.2.1)
        else
          some false
    else
      if (cmpLit .neq s15.2.2.2.2.1 0) = true then
        some (cmpLit .leq (arReal .add .i64 s15.2.2.2.1 (lenI a1)) s15.2.2.1)
      else
        some false) fun y27 =>
  if y27 = true then
    (d60 s15.1 s15.2.1 s15.2.2.1 s15.2.2.2.1 s15.2.2.2.2.1 s15.2.2.2.2.2.1 s15.2.2.2.2.2.2.1 s15.2.2.2.2.2.2.2.1 s15.2.2.2.2.2.2.2.2 a1).bind fun x29 =>
    some (.inr (x29.1, x29.2.1, x29.2.2.1, x29.2.2.2.1, x29.2.2.2.2.1, x29.2.2.2.2.2.1, x29.2.2.2.2.2.2.1, x29.2.2.2.2.2.2.2.1, x29.2.2.2.2.2.2.2.2))
  else
    if (cmpLit .eql s15.2.2.2.2.1 0) = true then
      some (.inl (s15.1, s15.2.1, s15.2.2.1, 0, s15.2.2.2.1, s15.2.2.2.2.2.1, s15.2.2.2.2.2.2.1, s15.2.2.2.2.2.2.2.1, s15.2.2.2.2.2.2.2.2))
    else
      (d76 s15.1 s15.2.1 s15.2.2.1 s15.2.2.2.1 s15.2.2.2.2.1 s15.2.2.2.2.2.1 s15.2.2.2.2.2.2.1 s15.2.2.2.2.2.2.2.1 s15.2.2.2.2.2.2.2.2).bind fun x30 =>
      some (.inl (x30.1, x30.2.1, x30.2.2.1, x30.2.2.2.1, x30.2.2.2.2.1, x30.2.2.2.2.2.1, x30.2.2.2.2.2.2.1, x30.2.2.2.2.2.2.2.1, x30.2.2.2.2.2.2.2.2))
noncomputable def d64 (a0_0 : Int) (a0_1 : List V) (a0_2 : Int) (a0_3 : Int) (a0_4 : Int) (a0_5 : Int) (a0_6 : List V) (a0_7 : Int) (a0_8 : Bool) (a1 : List V) : Option (Int × List V × Int × Int × Int × Int × List V × Int × Bool) :=
  (iter (d64_b1 a1) (a0_0, a0_1, a0_2, a0_3, a0_4, a0_5, a0_6, a0_7, a0_8)).bind fun y23 =>
  some y23
noncomputable def w64_c : Code := (Try.f64.body).getD .skip
theorem w64_h : Try.f64.body = some w64_c := by kernel_rfl
theorem w64q (a0_0 : Int) (a0_1 : List V) (a0_2 : Int) (a0_3 : Int) (a0_4 : Int) (a0_5 : Int) (a0_6 : List V) (a0_7 : Int) (a0_8 : Bool) (a1 : List V) (r : Int × List V × Int × Int × Int × Int × List V × Int × Bool) (h : d64 a0_0 a0_1 a0_2 a0_3 a0_4 a0_5 a0_6 a0_7 a0_8 a1 = some r) : Ab.Fn Try.prog TT 64 [.agg [.i .i64 a0_0, .sl 5 a0_1, .i .i64 a0_2, .i .i64 a0_3, .i .i64 a0_4, .i .i64 a0_5, .sl 5 a0_6, .i .i64 a0_7, .b a0_8], .sl 5 a1] (.agg [.i .i64 r.1, .sl 5 r.2.1, .i .i64 r.2.2.1, .i .i64 r.2.2.2.1, .i .i64 r.2.2.2.2.1, .i .i64 r.2.2.2.2.2.1, .sl 5 r.2.2.2.2.2.2.1, .i .i64 r.2.2.2.2.2.2.2.1, .b r.2.2.2.2.2.2.2.2]) [] := by
  refine fn_pure tok W0 Try.func64 (by kernel_rfl) w64_h (by kernel_rfl) ?_
  intro ar un cv mn mx pl mi cmp nt beq an scmp cat slen sbyte ssub ofB toB len gi gb gs gl sub put app ovl rep ne0 ge0 inb bnd room sroom need br call callb loop cut nl E R K hK
  have D := E.D
  clear E
  unfold d64 at h
  cbv
  refine R.loopD h (fun s0 y23 e0 hi hFs15 => ?_)
  clear h
  refine R.loopI hi [] (fun s15 => []) (fun s15 => [(32, .cells 26 [.i .i64 s15.1, .sl 5 s15.2.1, .i .i64 s15.2.2.1, .i .i64 s15.2.2.2.1, .i .i64 s15.2.2.2.2.1, .i .i64 s15.2.2.2.2.2.1, .sl 5 s15.2.2.2.2.2.2.1, .i .i64 s15.2.2.2.2.2.2.2.1, .b s15.2.2.2.2.2.2.2.2])]) ⟨rfl, ?_, ?_, rfl, rfl⟩ (by kernel_rfl) ?_
  · cbv; try (subst e0; simp only [D.har, D.hcmp, D.hlen, and_self, and_true, true_and] <;> (repeat' apply And.intro) <;> rfl)
  · cbv; try (subst e0; simp only [D.har, D.hcmp, D.hlen, and_self, and_true, true_and] <;> (repeat' apply And.intro) <;> rfl)
  clear hi e0
  intro s15 m y' hy hins15 houts15 L hLs15
  have h := hy; clear hy; unfold d64_b1 at h
  cbv
  refine R.cut' (by kernel_rfl) (by kernel_rfl) ?_
  cbv
  refine R.cutB (fun p => p) (fun _ _ e => e) h [] (fun p28 => [(34, .b p28)]) (fun p28 => []) (by kernel_rfl) (by kernel_rfl) (fun y27 hy hFy27 L hLy27 => ?_) (fun p28 h2 => ?_)
  · clear h; have h := hy; clear hy; cbv
    refine R.brD h (by (first | rfl | (simp only [D.har, D.hcmp, D.hlen]; done) | (simp only [D.har, D.hcmp, D.hlen]; rfl))) ?_ ?_ <;> clear h <;> intro h <;> cbv
    · refine R.brD h (by (first | rfl | (simp only [D.har, D.hcmp, D.hlen]; done) | (simp only [D.har, D.hcmp, D.hlen]; rfl))) ?_ ?_ <;> clear h <;> intro h <;> cbv
      · obtain ⟨s', e, hi⟩ := jn_some (fun p => p) h
        refine hLy27 s' _ _ hi ⟨rfl, ?_, ?_, rfl, rfl⟩ <;> cbv <;> (try (subst e; simp only [D.har, D.hcmp, D.hlen, and_self, and_true, true_and] <;> (repeat' apply And.intro) <;> rfl))
      · refine R.brD h (by (first | rfl | (simp only [D.har, D.hcmp, D.hlen]; done) | (simp only [D.har, D.hcmp, D.hlen]; rfl))) ?_ ?_ <;> clear h <;> intro h <;> cbv
        · obtain ⟨s', e, hi⟩ := jn_some (fun p => p) h
          refine hLy27 s' _ _ hi ⟨rfl, ?_, ?_, rfl, rfl⟩ <;> cbv <;> (try (subst e; simp only [D.har, D.hcmp, D.hlen, and_self, and_true, true_and] <;> (repeat' apply And.intro) <;> rfl))
        · obtain ⟨s', e, hi⟩ := jn_some (fun p => p) h
          refine hLy27 s' _ _ hi ⟨rfl, ?_, ?_, rfl, rfl⟩ <;> cbv <;> (try (subst e; simp only [D.har, D.hcmp, D.hlen, and_self, and_true, true_and] <;> (repeat' apply And.intro) <;> rfl))
    · refine R.brD h (by (first | rfl | (simp only [D.har, D.hcmp, D.hlen]; done) | (simp only [D.har, D.hcmp, D.hlen]; rfl))) ?_ ?_ <;> clear h <;> intro h <;> cbv
      · obtain ⟨s', e, hi⟩ := jn_some (fun p => p) h
        refine hLy27 s' _ _ hi ⟨rfl, ?_, ?_, rfl, rfl⟩ <;> cbv <;> (try (subst e; simp only [D.har, D.hcmp, D.hlen, and_self, and_true, true_and] <;> (repeat' apply And.intro) <;> rfl))
      · obtain ⟨s', e, hi⟩ := jn_some (fun p => p) h
        refine hLy27 s' _ _ hi ⟨rfl, ?_, ?_, rfl, rfl⟩ <;> cbv <;> (try (subst e; simp only [D.har, D.hcmp, D.hlen, and_self, and_true, true_and] <;> (repeat' apply And.intro) <;> rfl))
  · clear h; have h := h2; clear h2; try dsimp only at h
    cbv
    refine R.brD h (by (first | rfl | (simp only [D.har, D.hcmp, D.hlen]; done) | (simp only [D.har, D.hcmp, D.hlen]; rfl))) ?_ ?_ <;> clear h <;> intro h <;> cbv
    · refine R.callD h (fun x29 hx29 h2 => ?_)
      clear h; have h := h2; clear h2
      refine R.call' (w60s _ _ _ _ _ _ _ _ _ _ _ hx29) (by (first | rfl | (simp only [D.har, D.hcmp, D.hlen]; done) | (simp only [D.har, D.hcmp, D.hlen]; rfl))) ?_
      clear hx29; cbv
      have e := inr_some h houts15; clear h
      have h := hFs15; rw [e] at h; clear e; try dsimp only at h
      cbv
      have e := ret_some h; clear h
      refine hK _ _ ?_
      cbv
      try (subst e; simp only [D.har, D.hcmp, D.hlen, and_self, and_true, true_and] <;> (repeat' apply And.intro) <;> rfl)
    · refine R.brD h (by (first | rfl | (simp only [D.har, D.hcmp, D.hlen]; done) | (simp only [D.har, D.hcmp, D.hlen]; rfl))) ?_ ?_ <;> clear h <;> intro h <;> cbv
      · obtain ⟨s', e, hi⟩ := inl_some h hins15
        refine hLs15 s' _ _ hi ⟨rfl, ?_, ?_, rfl, rfl⟩ <;> cbv <;> (try (subst e; simp only [D.har, D.hcmp, D.hlen, and_self, and_true, true_and] <;> (repeat' apply And.intro) <;> rfl))
      · refine R.callD h (fun x30 hx30 h2 => ?_)
        clear h; have h := h2; clear h2
        refine R.call' (w76 _ _ _ _ _ _ _ _ _ _ hx30) (by (first | rfl | (simp only [D.har, D.hcmp, D.hlen]; done) | (simp only [D.har, D.hcmp, D.hlen]; rfl))) ?_
        clear hx30; cbv
        obtain ⟨s', e, hi⟩ := inl_some h hins15
        refine hLs15 s' _ _ hi ⟨rfl, ?_, ?_, rfl, rfl⟩ <;> cbv <;> (try (subst e; simp only [D.har, D.hcmp, D.hlen, and_self, and_true, true_and] <;> (repeat' apply And.intro) <;> rfl))

noncomputable def d32 (a0_0 : Int) (a0_1 : List V) (a0_2 : Int) (a0_3 : Int) (a0_4 : Int) (a0_5 : Int) (a0_6 : List V) (a0_7 : Int) (a0_8 : Bool) (a1_0 : Int) (a1_1 : Int) (a1_2 : List V) : Option (Int × List V × Int × Int × Int × Int × List V × Int × Bool × Bool × List V × Int × Int) :=
  (d36 a0_0 a0_1 a0_2 a0_3 a0_4 a0_5 a0_6 a0_7 a0_8).bind fun x2 =>
  if (cmpLit .neq x2 0) = true then
    some (0, [], 0, 0, 0, 0, [], 0, false, false, [], 0, x2)
  else
    (d53 a1_0 a1_1 a1_2).bind fun x4 =>
    if (notB' x4) = true then
      some (0, [], 0, 0, 0, 0, [], 0, false, false, [], 0, 221)
    else
      (d59 a1_0 a1_1 a1_2).bind fun x5 =>
      if (cmpLit .neq a0_0 3) = true then
        if (cmpLit .eql a0_5 0) = true then
          if (cmpLit .leq (arReal .add .i64 a0_3 (lenI x5)) (lenI a0_1)) = true then
            (d60 a0_0 a0_1 a0_2 a0_3 a0_4 a0_5 a0_6 a0_7 a0_8 x5).bind fun x11 =>
            some (x11.1, x11.2.1, x11.2.2.1, x11.2.2.2.1, x11.2.2.2.2.1, x11.2.2.2.2.2.1, x11.2.2.2.2.2.2.1, x11.2.2.2.2.2.2.2.1, x11.2.2.2.2.2.2.2.2, true, [], 0, 0)
          else
            (d61 a0_0 a0_1 a0_2 a0_3 a0_4 a0_5 a0_6 a0_7 a0_8 1).bind fun x12 =>
            some (x12.1, x12.2.1, x12.2.2.1, x12.2.2.2.1, x12.2.2.2.2.1, x12.2.2.2.2.2.1, x12.2.2.2.2.2.2.1, x12.2.2.2.2.2.2.2.1, x12.2.2.2.2.2.2.2.2, false, [], 0, 0)
        else
          (d61 a0_0 a0_1 a0_2 a0_3 a0_4 a0_5 a0_6 a0_7 a0_8 1).bind fun x13 =>
          some (x13.1, x13.2.1, x13.2.2.1, x13.2.2.2.1, x13.2.2.2.2.1, x13.2.2.2.2.2.1, x13.2.2.2.2.2.2.1, x13.2.2.2.2.2.2.2.1, x13.2.2.2.2.2.2.2.2, false, [], 0, 0)
      else
        if (cmpLit .gtr (lenI x5) (lenI a0_1)) = true then
          (d62 a0_0 a0_1 a0_2 a0_3 a0_4 a0_5 a0_6 a0_7 a0_8).bind fun x18 =>
          (d21 x18).bind fun x19 =>
          (d63 a0_0 a0_1 a0_2 a0_3 a0_4 a0_5 a0_6 a0_7 a0_8).bind fun x20 =>
          (d61 x20.1 x20.2.1 x20.2.2.1 x20.2.2.2.1 x20.2.2.2.2.1 a0_5 x20.2.2.2.2.2.2.1 x20.2.2.2.2.2.2.2.1 x20.2.2.2.2.2.2.2.2 (arReal .add .i64 (lenI x19.1) 1)).bind fun x21 =>
          some (x21.1, x21.2.1, x21.2.2.1, x21.2.2.2.1, x21.2.2.2.2.1, x21.2.2.2.2.2.1, x21.2.2.2.2.2.2.1, x21.2.2.2.2.2.2.2.1, x21.2.2.2.2.2.2.2.2, false, [], 0, 0)
        else
          (d64 a0_0 a0_1 a0_2 a0_3 a0_4 a0_5 a0_6 a0_7 a0_8 x5).bind fun x22 =>
          some (x22.1, x22.2.1, x22.2.2.1, x22.2.2.2.1, x22.2.2.2.2.1, x22.2.2.2.2.2.1, x22.2.2.2.2.2.2.1, x22.2.2.2.2.2.2.2.1, x22.2.2.2.2.2.2.2.2, true, [], 0, 0)
noncomputable def w32_c : Code := (Try.f32.body).getD .skip
theorem w32_h : Try.f32.body = some w32_c := by kernel_rfl
theorem w32 (a0_0 : Int) (a0_1 : List V) (a0_2 : Int) (a0_3 : Int) (a0_4 : Int) (a0_5 : Int) (a0_6 : List V) (a0_7 : Int) (a0_8 : Bool) (a1_0 : Int) (a1_1 : Int) (a1_2 : List V) (r : Int × List V × Int × Int × Int × Int × List V × Int × Bool × Bool × List V × Int × Int) (h : d32 a0_0 a0_1 a0_2 a0_3 a0_4 a0_5 a0_6 a0_7 a0_8 a1_0 a1_1 a1_2 = some r) : Ab.Fn Try.prog TT 32 [.agg [.i .i64 a0_0, .sl 5 a0_1, .i .i64 a0_2, .i .i64 a0_3, .i .i64 a0_4, .i .i64 a0_5, .sl 5 a0_6, .i .i64 a0_7, .b a0_8], .agg [.i .i64 a1_0, .i .i64 a1_1, .sl 5 a1_2]] (.agg [.i .i64 r.1, .sl 5 r.2.1, .i .i64 r.2.2.1, .i .i64 r.2.2.2.1, .i .i64 r.2.2.2.2.1, .i .i64 r.2.2.2.2.2.1, .sl 5 r.2.2.2.2.2.2.1, .i .i64 r.2.2.2.2.2.2.2.1, .b r.2.2.2.2.2.2.2.2.1, .b r.2.2.2.2.2.2.2.2.2.1, .sl 33 r.2.2.2.2.2.2.2.2.2.2.1, .i .i64 r.2.2.2.2.2.2.2.2.2.2.2.1, .i .i64 r.2.2.2.2.2.2.2.2.2.2.2.2]) [] := by
  refine fn_pure tok W0 Try.func32 (by kernel_rfl) w32_h (by kernel_rfl) ?_
  intro ar un cv mn mx pl mi cmp nt beq an scmp cat slen sbyte ssub ofB toB len gi gb gs gl sub put app ovl rep ne0 ge0 inb bnd room sroom need br call callb loop cut nl E R K hK
  have D := E.D
  clear E
  unfold d32 at h
  cbv
  refine R.cut' (by kernel_rfl) (by kernel_rfl) ?_
  cbv
  refine R.callD h (fun x2 hx2 h2 => ?_)
  clear h; have h := h2; clear h2
  refine R.call' (w36 _ _ _ _ _ _ _ _ _ _ hx2) (by (first | rfl | (simp only [D.har, D.hcmp, D.hlen, D.hnt]; done) | (simp only [D.har, D.hcmp, D.hlen, D.hnt]; rfl))) ?_
  clear hx2; cbv
  refine R.brD h (by (first | rfl | (simp only [D.har, D.hcmp, D.hlen, D.hnt]; done) | (simp only [D.har, D.hcmp, D.hlen, D.hnt]; rfl))) ?_ ?_ <;> clear h <;> intro h <;> cbv
  · have e := ret_some h; clear h
    refine hK _ _ ?_
    cbv
    try (subst e; simp only [D.har, D.hcmp, D.hlen, D.hnt, and_self, and_true, true_and] <;> (repeat' apply And.intro) <;> rfl)
  · as_aux_lemma =>
    refine R.cut' (by kernel_rfl) (by kernel_rfl) ?_
    cbv
    refine R.callD h (fun x4 hx4 h2 => ?_)
    clear h; have h := h2; clear h2
    refine R.call' (w53 _ _ _ _ hx4) (by (first | rfl | (simp only [D.har, D.hcmp, D.hlen, D.hnt]; done) | (simp only [D.har, D.hcmp, D.hlen, D.hnt]; rfl))) ?_
    clear hx4; cbv
    refine R.brD h (by (first | rfl | (simp only [D.har, D.hcmp, D.hlen, D.hnt]; done) | (simp only [D.har, D.hcmp, D.hlen, D.hnt]; rfl))) ?_ ?_ <;> clear h <;> intro h <;> cbv
    · have e := ret_some h; clear h
      refine hK _ _ ?_
      cbv
      try (subst e; simp only [D.har, D.hcmp, D.hlen, D.hnt, and_self, and_true, true_and] <;> (repeat' apply And.intro) <;> rfl)
    · refine R.callD h (fun x5 hx5 h2 => ?_)
      clear h; have h := h2; clear h2
      refine R.call' (w59s _ _ _ _ hx5) (by (first | rfl | (simp only [D.har, D.hcmp, D.hlen, D.hnt]; done) | (simp only [D.har, D.hcmp, D.hlen, D.hnt]; rfl))) ?_
      clear hx5; cbv
      refine R.cut' (by kernel_rfl) (by kernel_rfl) ?_
      cbv
      refine R.brD h (by (first | rfl | (simp only [D.har, D.hcmp, D.hlen, D.hnt]; done) | (simp only [D.har, D.hcmp, D.hlen, D.hnt]; rfl))) ?_ ?_ <;> clear h <;> intro h <;> cbv
      · refine R.cut' (by kernel_rfl) (by kernel_rfl) ?_
        cbv
        refine R.cut' (by kernel_rfl) (by kernel_rfl) ?_
        cbv
        refine R.brD h (by (first | rfl | (simp only [D.har, D.hcmp, D.hlen, D.hnt]; done) | (simp only [D.har, D.hcmp, D.hlen, D.hnt]; rfl))) ?_ ?_ <;> clear h <;> intro h <;> cbv
        · refine R.brD h (by (first | rfl | (simp only [D.har, D.hcmp, D.hlen, D.hnt]; done) | (simp only [D.har, D.hcmp, D.hlen, D.hnt]; rfl))) ?_ ?_ <;> clear h <;> intro h <;> cbv
          · refine R.callD h (fun x11 hx11 h2 => ?_)
            clear h; have h := h2; clear h2
            refine R.call' (w60s _ _ _ _ _ _ _ _ _ _ _ hx11) (by (first | rfl | (simp only [D.har, D.hcmp, D.hlen, D.hnt]; done) | (simp only [D.har, D.hcmp, D.hlen, D.hnt]; rfl))) ?_
            clear hx11; cbv
            have e := ret_some h; clear h
            refine hK _ _ ?_
            cbv
            try (subst e; simp only [D.har, D.hcmp, D.hlen, D.hnt, and_self, and_true, true_and] <;> (repeat' apply And.intro) <;> rfl)
          · refine R.callD h (fun x12 hx12 h2 => ?_)
            clear h; have h := h2; clear h2
            refine R.call' (w61 _ _ _ _ _ _ _ _ _ _ _ hx12) (by (first | rfl | (simp only [D.har, D.hcmp, D.hlen, D.hnt]; done) | (simp only [D.har, D.hcmp, D.hlen, D.hnt]; rfl))) ?_
            clear hx12; cbv
            have e := ret_some h; clear h
            refine hK _ _ ?_
            cbv
            try (subst e; simp only [D.har, D.hcmp, D.hlen, D.hnt, and_self, and_true, true_and] <;> (repeat' apply And.intro) <;> rfl)
        · refine R.callD h (fun x13 hx13 h2 => ?_)
          clear h; have h := h2; clear h2
          refine R.call' (w61 _ _ _ _ _ _ _ _ _ _ _ hx13) (by (first | rfl | (simp only [D.har, D.hcmp, D.hlen, D.hnt]; done) | (simp only [D.har, D.hcmp, D.hlen, D.hnt]; rfl))) ?_
          clear hx13; cbv
          have e := ret_some h; clear h
          refine hK _ _ ?_
          cbv
          try (subst e; simp only [D.har, D.hcmp, D.hlen, D.hnt, and_self, and_true, true_and] <;> (repeat' apply And.intro) <;> rfl)
      · refine R.cut' (by kernel_rfl) (by kernel_rfl) ?_
        cbv
        refine R.brD h (by (first | rfl | (simp only [D.har, D.hcmp, D.hlen, D.hnt]; done) | (simp only [D.har, D.hcmp, D.hlen, D.hnt]; rfl))) ?_ ?_ <;> clear h <;> intro h <;> cbv
        · refine R.callD h (fun x18 hx18 h2 => ?_)
          clear h; have h := h2; clear h2
          refine R.call' (w62s _ _ _ _ _ _ _ _ _ _ hx18) (by (first | rfl | (simp only [D.har, D.hcmp, D.hlen, D.hnt]; done) | (simp only [D.har, D.hcmp, D.hlen, D.hnt]; rfl))) ?_
          clear hx18; cbv
          refine R.callD h (fun x19 hx19 h2 => ?_)
          clear h; have h := h2; clear h2
          refine R.call' (w21s _ _ hx19) (by (first | rfl | (simp only [D.har, D.hcmp, D.hlen, D.hnt]; done) | (simp only [D.har, D.hcmp, D.hlen, D.hnt]; rfl))) ?_
          clear hx19; cbv
          refine R.callD h (fun x20 hx20 h2 => ?_)
          clear h; have h := h2; clear h2
          refine R.call' (w63s _ _ _ _ _ _ _ _ _ _ hx20) (by (first | rfl | (simp only [D.har, D.hcmp, D.hlen, D.hnt]; done) | (simp only [D.har, D.hcmp, D.hlen, D.hnt]; rfl))) ?_
          clear hx20; cbv
          refine R.callD h (fun x21 hx21 h2 => ?_)
          clear h; have h := h2; clear h2
          refine R.call' (w61 _ _ _ _ _ _ _ _ _ _ _ hx21) (by (first | rfl | (simp only [D.har, D.hcmp, D.hlen, D.hnt]; done) | (simp only [D.har, D.hcmp, D.hlen, D.hnt]; rfl))) ?_
          clear hx21; cbv
          have e := ret_some h; clear h
          refine hK _ _ ?_
          cbv
          try (subst e; simp only [D.har, D.hcmp, D.hlen, D.hnt, and_self, and_true, true_and] <;> (repeat' apply And.intro) <;> rfl)
        · refine R.callD h (fun x22 hx22 h2 => ?_)
          clear h; have h := h2; clear h2
          refine R.call' (w64q _ _ _ _ _ _ _ _ _ _ _ hx22) (by (first | rfl | (simp only [D.har, D.hcmp, D.hlen, D.hnt]; done) | (simp only [D.har, D.hcmp, D.hlen, D.hnt]; rfl))) ?_
          clear hx22; cbv
          have e := ret_some h; clear h
          refine hK _ _ ?_
          cbv
          try (subst e; simp only [D.har, D.hcmp, D.hlen, D.hnt, and_self, and_true, true_and] <;> (repeat' apply And.intro) <;> rfl)

noncomputable def d33 (a0_0 : Int) (a0_1 : List V) (a0_2 : Int) (a0_3 : Int) (a0_4 : Int) (a0_5 : Int) (a0_6 : List V) (a0_7 : Int) (a0_8 : Bool) : Option (Int × Int) :=
  (d36 a0_0 a0_1 a0_2 a0_3 a0_4 a0_5 a0_6 a0_7 a0_8).bind fun x2 =>
  if (cmpLit .neq x2 0) = true then
    some (0, x2)
  else
    if (cmpLit .neq a0_0 3) = true then
      if (cmpLit .neq a0_5 0) = true then
        some (0, 0)
      else
        some ((arReal .sub .i64 (lenI a0_1) a0_3), 0)
    else
      if (cmpLit .neq a0_4 0) = true then
        some ((arReal .sub .i64 a0_2 a0_3), 0)
      else
        some ((mxI (arReal .sub .i64 (lenI a0_1) a0_3) a0_2), 0)
noncomputable def w33_c : Code := (Try.f33.body).getD .skip
theorem w33_h : Try.f33.body = some w33_c := by kernel_rfl
theorem w33 (a0_0 : Int) (a0_1 : List V) (a0_2 : Int) (a0_3 : Int) (a0_4 : Int) (a0_5 : Int) (a0_6 : List V) (a0_7 : Int) (a0_8 : Bool) (r : Int × Int) (h : d33 a0_0 a0_1 a0_2 a0_3 a0_4 a0_5 a0_6 a0_7 a0_8 = some r) : Ab.Fn Try.prog TT 33 [.agg [.i .i64 a0_0, .sl 5 a0_1, .i .i64 a0_2, .i .i64 a0_3, .i .i64 a0_4, .i .i64 a0_5, .sl 5 a0_6, .i .i64 a0_7, .b a0_8]] (.agg [.i .i64 r.1, .i .i64 r.2]) [] := by
  refine fn_pure tok W0 Try.func33 (by kernel_rfl) w33_h (by kernel_rfl) ?_
  intro ar un cv mn mx pl mi cmp nt beq an scmp cat slen sbyte ssub ofB toB len gi gb gs gl sub put app ovl rep ne0 ge0 inb bnd room sroom need br call callb loop cut nl E R K hK
  have D := E.D
  clear E
  unfold d33 at h
  cbv
  refine R.cut' (by kernel_rfl) (by kernel_rfl) ?_
  cbv
  refine R.callD h (fun x2 hx2 h2 => ?_)
  clear h; have h := h2; clear h2
  refine R.call' (w36 _ _ _ _ _ _ _ _ _ _ hx2) (by (first | rfl | (simp only [D.har, D.hcmp, D.hlen, D.hmx]; done) | (simp only [D.har, D.hcmp, D.hlen, D.hmx]; rfl))) ?_
  clear hx2; cbv
  refine R.brD h (by (first | rfl | (simp only [D.har, D.hcmp, D.hlen, D.hmx]; done) | (simp only [D.har, D.hcmp, D.hlen, D.hmx]; rfl))) ?_ ?_ <;> clear h <;> intro h <;> cbv
  · have e := ret_some h; clear h
    refine hK _ _ ?_
    cbv
    try (subst e; simp only [D.har, D.hcmp, D.hlen, D.hmx, and_self, and_true, true_and] <;> (repeat' apply And.intro) <;> rfl)
  · refine R.cut' (by kernel_rfl) (by kernel_rfl) ?_
    cbv
    refine R.brD h (by (first | rfl | (simp only [D.har, D.hcmp, D.hlen, D.hmx]; done) | (simp only [D.har, D.hcmp, D.hlen, D.hmx]; rfl))) ?_ ?_ <;> clear h <;> intro h <;> cbv
    · refine R.cut' (by kernel_rfl) (by kernel_rfl) ?_
      cbv
      refine R.brD h (by (first | rfl | (simp only [D.har, D.hcmp, D.hlen, D.hmx]; done) | (simp only [D.har, D.hcmp, D.hlen, D.hmx]; rfl))) ?_ ?_ <;> clear h <;> intro h <;> cbv
      · have e := ret_some h; clear h
        refine hK _ _ ?_
        cbv
        try (subst e; simp only [D.har, D.hcmp, D.hlen, D.hmx, and_self, and_true, true_and] <;> (repeat' apply And.intro) <;> rfl)
      · have e := ret_some h; clear h
        refine hK _ _ ?_
        cbv
        try (subst e; simp only [D.har, D.hcmp, D.hlen, D.hmx, and_self, and_true, true_and] <;> (repeat' apply And.intro) <;> rfl)
    · refine R.cut' (by kernel_rfl) (by kernel_rfl) ?_
      cbv
      refine R.brD h (by (first | rfl | (simp only [D.har, D.hcmp, D.hlen, D.hmx]; done) | (simp only [D.har, D.hcmp, D.hlen, D.hmx]; rfl))) ?_ ?_ <;> clear h <;> intro h <;> cbv
      · have e := ret_some h; clear h
        refine hK _ _ ?_
        cbv
        try (subst e; simp only [D.har, D.hcmp, D.hlen, D.hmx, and_self, and_true, true_and] <;> (repeat' apply And.intro) <;> rfl)
      · have e := ret_some h; clear h
        refine hK _ _ ?_
        cbv
        try (subst e; simp only [D.har, D.hcmp, D.hlen, D.hmx, and_self, and_true, true_and] <;> (repeat' apply And.intro) <;> rfl)

noncomputable def d34 (a0_0 : Int) (a0_1 : Int) (a0_2 : List V) : Option (Int × Int) :=
  (d53 a0_0 a0_1 a0_2).bind fun x2 =>
  if (notB' x2) = true then
    some (0, 221)
  else
    some ((arReal .add .i64 14 (lenI a0_2)), 0)
noncomputable def w34_c : Code := (Try.f34.body).getD .skip
theorem w34_h : Try.f34.body = some w34_c := by kernel_rfl
theorem w34 (a0_0 : Int) (a0_1 : Int) (a0_2 : List V) (r : Int × Int) (h : d34 a0_0 a0_1 a0_2 = some r) : Ab.Fn Try.prog TT 34 [.agg [.i .i64 a0_0, .i .i64 a0_1, .sl 5 a0_2]] (.agg [.i .i64 r.1, .i .i64 r.2]) [] := by
  refine fn_pure tok W0 Try.func34 (by kernel_rfl) w34_h (by kernel_rfl) ?_
  intro ar un cv mn mx pl mi cmp nt beq an scmp cat slen sbyte ssub ofB toB len gi gb gs gl sub put app ovl rep ne0 ge0 inb bnd room sroom need br call callb loop cut nl E R K hK
  have D := E.D
  clear E
  unfold d34 at h
  cbv
  refine R.cut' (by kernel_rfl) (by kernel_rfl) ?_
  cbv
  refine R.callD h (fun x2 hx2 h2 => ?_)
  clear h; have h := h2; clear h2
  refine R.call' (w53 _ _ _ _ hx2) (by (first | rfl | (simp only [D.har, D.hlen, D.hnt]; done) | (simp only [D.har, D.hlen, D.hnt]; rfl))) ?_
  clear hx2; cbv
  refine R.brD h (by (first | rfl | (simp only [D.har, D.hlen, D.hnt]; done) | (simp only [D.har, D.hlen, D.hnt]; rfl))) ?_ ?_ <;> clear h <;> intro h <;> cbv
  · have e := ret_some h; clear h
    refine hK _ _ ?_
    cbv
    try (subst e; simp only [D.har, D.hlen, D.hnt, and_self, and_true, true_and] <;> (repeat' apply And.intro) <;> rfl)
  · have e := ret_some h; clear h
    refine hK _ _ ?_
    cbv
    try (subst e; simp only [D.har, D.hlen, D.hnt, and_self, and_true, true_and] <;> (repeat' apply And.intro) <;> rfl)

noncomputable def d35 (a0_0 : Int) (a0_1 : Int) (a0_2 : List V) : Option (List V × Int) :=
  (d53 a0_0 a0_1 a0_2).bind fun x2 =>
  if (notB' x2) = true then
    some ([], 221)
  else
    (d59 a0_0 a0_1 a0_2).bind fun x3 =>
    some (x3, 0)
noncomputable def w35_c : Code := (Try.f35.body).getD .skip
theorem w35_h : Try.f35.body = some w35_c := by kernel_rfl
theorem w35 (a0_0 : Int) (a0_1 : Int) (a0_2 : List V) (r : List V × Int) (h : d35 a0_0 a0_1 a0_2 = some r) : Ab.Fn Try.prog TT 35 [.agg [.i .i64 a0_0, .i .i64 a0_1, .sl 5 a0_2]] (.agg [.sl 5 r.1, .i .i64 r.2]) [] := by
  refine fn_pure tok W0 Try.func35 (by kernel_rfl) w35_h (by kernel_rfl) ?_
  intro ar un cv mn mx pl mi cmp nt beq an scmp cat slen sbyte ssub ofB toB len gi gb gs gl sub put app ovl rep ne0 ge0 inb bnd room sroom need br call callb loop cut nl E R K hK
  have D := E.D
  clear E
  unfold d35 at h
  cbv
  refine R.cut' (by kernel_rfl) (by kernel_rfl) ?_
  cbv
  refine R.callD h (fun x2 hx2 h2 => ?_)
  clear h; have h := h2; clear h2
  refine R.call' (w53 _ _ _ _ hx2) (by (first | rfl | (simp only [D.hnt]; done) | (simp only [D.hnt]; rfl))) ?_
  clear hx2; cbv
  refine R.brD h (by (first | rfl | (simp only [D.hnt]; done) | (simp only [D.hnt]; rfl))) ?_ ?_ <;> clear h <;> intro h <;> cbv
  · have e := ret_some h; clear h
    refine hK _ _ ?_
    cbv
    try (subst e; simp only [D.hnt, and_self, and_true, true_and] <;> (repeat' apply And.intro) <;> rfl)
  · refine R.callD h (fun x3 hx3 h2 => ?_)
    clear h; have h := h2; clear h2
    refine R.call' (w59s _ _ _ _ hx3) (by (first | rfl | (simp only [D.hnt]; done) | (simp only [D.hnt]; rfl))) ?_
    clear hx3; cbv
    have e := ret_some h; clear h
    refine hK _ _ ?_
    cbv
    try (subst e; simp only [D.hnt, and_self, and_true, true_and] <;> (repeat' apply And.intro) <;> rfl)

noncomputable def d38 (a0_0 : Int) (a0_1 : List V) (a0_2 : Int) (a0_3 : Int) (a0_4 : Int) (a0_5 : Int) (a0_6 : List V) (a0_7 : Int) (a0_8 : Bool) : Option (Int × List V × Int × Int × Int × Int × List V × Int × Bool × Bool × List V × Int × Int) :=
  (d36 a0_0 a0_1 a0_2 a0_3 a0_4 a0_5 a0_6 a0_7 a0_8).bind fun x2 =>
  if (cmpLit .neq x2 0) = true then
    some (0, [], 0, 0, 0, 0, [], 0, false, false, [], 0, x2)
  else
    if (cmpLit .neq a0_0 2) = true then
      some (0, [], 0, 0, 0, 0, [], 0, false, false, [], 0, 1)
    else
      if a0_8 = true then
        some (0, [], 0, 0, 0, 0, [], 0, false, false, [], 0, 222)
      else
        (d63 a0_0 a0_1 a0_2 a0_3 a0_4 a0_5 a0_6 a0_7 a0_8).bind fun x3 =>
        (d62 a0_0 a0_1 a0_2 a0_3 a0_4 a0_5 a0_6 a0_7 a0_8).bind fun x4 =>
        some (x3.1, x3.2.1, x3.2.2.1, x3.2.2.2.1, x3.2.2.2.2.1, x3.2.2.2.2.2.1, x4, a0_5, true, false, [], 0, 0)
noncomputable def w38_c : Code := (Try.f38.body).getD .skip
theorem w38_h : Try.f38.body = some w38_c := by kernel_rfl
theorem w38 (a0_0 : Int) (a0_1 : List V) (a0_2 : Int) (a0_3 : Int) (a0_4 : Int) (a0_5 : Int) (a0_6 : List V) (a0_7 : Int) (a0_8 : Bool) (r : Int × List V × Int × Int × Int × Int × List V × Int × Bool × Bool × List V × Int × Int) (h : d38 a0_0 a0_1 a0_2 a0_3 a0_4 a0_5 a0_6 a0_7 a0_8 = some r) : Ab.Fn Try.prog TT 38 [.agg [.i .i64 a0_0, .sl 5 a0_1, .i .i64 a0_2, .i .i64 a0_3, .i .i64 a0_4, .i .i64 a0_5, .sl 5 a0_6, .i .i64 a0_7, .b a0_8]] (.agg [.i .i64 r.1, .sl 5 r.2.1, .i .i64 r.2.2.1, .i .i64 r.2.2.2.1, .i .i64 r.2.2.2.2.1, .i .i64 r.2.2.2.2.2.1, .sl 5 r.2.2.2.2.2.2.1, .i .i64 r.2.2.2.2.2.2.2.1, .b r.2.2.2.2.2.2.2.2.1, .b r.2.2.2.2.2.2.2.2.2.1, .sl 33 r.2.2.2.2.2.2.2.2.2.2.1, .i .i64 r.2.2.2.2.2.2.2.2.2.2.2.1, .i .i64 r.2.2.2.2.2.2.2.2.2.2.2.2]) [] := by
  refine fn_pure tok W0 Try.func38 (by kernel_rfl) w38_h (by kernel_rfl) ?_
  intro ar un cv mn mx pl mi cmp nt beq an scmp cat slen sbyte ssub ofB toB len gi gb gs gl sub put app ovl rep ne0 ge0 inb bnd room sroom need br call callb loop cut nl E R K hK
  have D := E.D
  clear E
  unfold d38 at h
  cbv
  refine R.cut' (by kernel_rfl) (by kernel_rfl) ?_
  cbv
  refine R.callD h (fun x2 hx2 h2 => ?_)
  clear h; have h := h2; clear h2
  refine R.call' (w36 _ _ _ _ _ _ _ _ _ _ hx2) (by (first | rfl | (simp only [D.hcmp]; done) | (simp only [D.hcmp]; rfl))) ?_
  clear hx2; cbv
  refine R.brD h (by (first | rfl | (simp only [D.hcmp]; done) | (simp only [D.hcmp]; rfl))) ?_ ?_ <;> clear h <;> intro h <;> cbv
  · have e := ret_some h; clear h
    refine hK _ _ ?_
    cbv
    try (subst e; simp only [D.hcmp, and_self, and_true, true_and] <;> (repeat' apply And.intro) <;> rfl)
  · refine R.cut' (by kernel_rfl) (by kernel_rfl) ?_
    cbv
    refine R.brD h (by (first | rfl | (simp only [D.hcmp]; done) | (simp only [D.hcmp]; rfl))) ?_ ?_ <;> clear h <;> intro h <;> cbv
    · have e := ret_some h; clear h
      refine hK _ _ ?_
      cbv
      try (subst e; simp only [D.hcmp, and_self, and_true, true_and] <;> (repeat' apply And.intro) <;> rfl)
    · refine R.cut' (by kernel_rfl) (by kernel_rfl) ?_
      cbv
      refine R.brD h (by (first | rfl | (simp only [D.hcmp]; done) | (simp only [D.hcmp]; rfl))) ?_ ?_ <;> clear h <;> intro h <;> cbv
      · have e := ret_some h; clear h
        refine hK _ _ ?_
        cbv
        try (subst e; simp only [D.hcmp, and_self, and_true, true_and] <;> (repeat' apply And.intro) <;> rfl)
      · refine R.callD h (fun x3 hx3 h2 => ?_)
        clear h; have h := h2; clear h2
        refine R.call' (w63s _ _ _ _ _ _ _ _ _ _ hx3) (by (first | rfl | (simp only [D.hcmp]; done) | (simp only [D.hcmp]; rfl))) ?_
        clear hx3; cbv
        refine R.callD h (fun x4 hx4 h2 => ?_)
        clear h; have h := h2; clear h2
        refine R.call' (w62s _ _ _ _ _ _ _ _ _ _ hx4) (by (first | rfl | (simp only [D.hcmp]; done) | (simp only [D.hcmp]; rfl))) ?_
        clear hx4; cbv
        have e := ret_some h; clear h
        refine hK _ _ ?_
        cbv
        try (subst e; simp only [D.hcmp, and_self, and_true, true_and] <;> (repeat' apply And.intro) <;> rfl)
end Go.Proofs.Ytdejapkfijdadaa
end
section
namespace Go.Proofs.Ytdejapkfijdadaa
open Go.Ab Go.RowKit 
set_option maxRecDepth 100000
set_option maxHeartbeats 40000000
noncomputable def d39 (a0_0 : Int) (a0_1 : List V) (a0_2 : Int) (a0_3 : Int) (a0_4 : Int) (a0_5 : Int) (a0_6 : List V) (a0_7 : Int) (a0_8 : Bool) : Option (Int × List V × Int × Int × Int × Int × List V × Int × Bool × Bool × List V × Int × Int) :=
  (d36 a0_0 a0_1 a0_2 a0_3 a0_4 a0_5 a0_6 a0_7 a0_8).bind fun x2 =>
  if (cmpLit .neq x2 0) = true then
    some (0, [], 0, 0, 0, 0, [], 0, false, false, [], 0, x2)
  else
    if (cmpLit .neq a0_0 2) = true then
      some (0, [], 0, 0, 0, 0, [], 0, false, false, [], 0, 1)
    else
      if (notB' a0_8) = true then
        some (0, [], 0, 0, 0, 0, [], 0, false, false, [], 0, 3)
      else
        (d21 a0_6).bind fun x3 =>
        some (a0_0, a0_1, a0_2, a0_3, a0_4, a0_5, [], 0, false, false, x3.1, a0_7, 0)
noncomputable def w39_c : Code := (Try.f39.body).getD .skip
theorem w39_h : Try.f39.body = some w39_c := by kernel_rfl
theorem w39 (a0_0 : Int) (a0_1 : List V) (a0_2 : Int) (a0_3 : Int) (a0_4 : Int) (a0_5 : Int) (a0_6 : List V) (a0_7 : Int) (a0_8 : Bool) (r : Int × List V × Int × Int × Int × Int × List V × Int × Bool × Bool × List V × Int × Int) (h : d39 a0_0 a0_1 a0_2 a0_3 a0_4 a0_5 a0_6 a0_7 a0_8 = some r) : Ab.Fn Try.prog TT 39 [.agg [.i .i64 a0_0, .sl 5 a0_1, .i .i64 a0_2, .i .i64 a0_3, .i .i64 a0_4, .i .i64 a0_5, .sl 5 a0_6, .i .i64 a0_7, .b a0_8]] (.agg [.i .i64 r.1, .sl 5 r.2.1, .i .i64 r.2.2.1, .i .i64 r.2.2.2.1, .i .i64 r.2.2.2.2.1, .i .i64 r.2.2.2.2.2.1, .sl 5 r.2.2.2.2.2.2.1, .i .i64 r.2.2.2.2.2.2.2.1, .b r.2.2.2.2.2.2.2.2.1, .b r.2.2.2.2.2.2.2.2.2.1, .sl 33 r.2.2.2.2.2.2.2.2.2.2.1, .i .i64 r.2.2.2.2.2.2.2.2.2.2.2.1, .i .i64 r.2.2.2.2.2.2.2.2.2.2.2.2]) [] := by
  refine fn_pure tok (fun r => match r with | 12 => [[],[],[1],[1,2],[1,2,3],[],[5],[0,1,2,3,4,5,6],[0,1,2,3,4,5,6,7]] | _ => []) Try.func39 (by kernel_rfl) w39_h (by kernel_rfl) ?_
  intro ar un cv mn mx pl mi cmp nt beq an scmp cat slen sbyte ssub ofB toB len gi gb gs gl sub put app ovl rep ne0 ge0 inb bnd room sroom need br call callb loop cut nl E R K hK
  have D := E.D
  clear E
  unfold d39 at h
  cbv
  refine R.cut' (by kernel_rfl) (by kernel_rfl) ?_
  cbv
  refine R.callD h (fun x2 hx2 h2 => ?_)
  clear h; have h := h2; clear h2
  refine R.call' (w36 _ _ _ _ _ _ _ _ _ _ hx2) (by (first | rfl | (simp only [D.hcmp, D.hnt]; done) | (simp only [D.hcmp, D.hnt]; rfl))) ?_
  clear hx2; cbv
  refine R.brD h (by (first | rfl | (simp only [D.hcmp, D.hnt]; done) | (simp only [D.hcmp, D.hnt]; rfl))) ?_ ?_ <;> clear h <;> intro h <;> cbv
  · have e := ret_some h; clear h
    refine hK _ _ ?_
    cbv
    try (subst e; simp only [D.hcmp, D.hnt, and_self, and_true, true_and] <;> (repeat' apply And.intro) <;> rfl)
  · refine R.cut' (by kernel_rfl) (by kernel_rfl) ?_
    cbv
    refine R.brD h (by (first | rfl | (simp only [D.hcmp, D.hnt]; done) | (simp only [D.hcmp, D.hnt]; rfl))) ?_ ?_ <;> clear h <;> intro h <;> cbv
    · have e := ret_some h; clear h
      refine hK _ _ ?_
      cbv
      try (subst e; simp only [D.hcmp, D.hnt, and_self, and_true, true_and] <;> (repeat' apply And.intro) <;> rfl)
    · refine R.cut' (by kernel_rfl) (by kernel_rfl) ?_
      cbv
      refine R.brD h (by (first | rfl | (simp only [D.hcmp, D.hnt]; done) | (simp only [D.hcmp, D.hnt]; rfl))) ?_ ?_ <;> clear h <;> intro h <;> cbv
      · have e := ret_some h; clear h
        refine hK _ _ ?_
        cbv
        try (subst e; simp only [D.hcmp, D.hnt, and_self, and_true, true_and] <;> (repeat' apply And.intro) <;> rfl)
      · refine R.callD h (fun x3 hx3 h2 => ?_)
        clear h; have h := h2; clear h2
        refine R.call' (w21s _ _ hx3) (by (first | rfl | (simp only [D.hcmp, D.hnt]; done) | (simp only [D.hcmp, D.hnt]; rfl))) ?_
        clear hx3; cbv
        have e := ret_some h; clear h
        refine hK _ _ ?_
        cbv
        try (subst e; simp only [D.hcmp, D.hnt, and_self, and_true, true_and] <;> (repeat' apply And.intro) <;> rfl)

noncomputable def d40 (a0_0 : Int) (a0_1 : List V) (a0_2 : Int) (a0_3 : Int) (a0_4 : Int) (a0_5 : Int) (a0_6 : List V) (a0_7 : Int) (a0_8 : Bool) : Option (Int × List V × Int × Int × Int × Int × List V × Int × Bool × Bool × List V × Int × Int) :=
  (d36 a0_0 a0_1 a0_2 a0_3 a0_4 a0_5 a0_6 a0_7 a0_8).bind fun x2 =>
  if (cmpLit .neq x2 0) = true then
    some (0, [], 0, 0, 0, 0, [], 0, false, false, [], 0, x2)
  else
    (d63 a0_0 a0_1 a0_2 a0_3 a0_4 a0_5 a0_6 a0_7 a0_8).bind fun x3 =>
    (d62 a0_0 a0_1 a0_2 a0_3 a0_4 a0_5 a0_6 a0_7 a0_8).bind fun x4 =>
    (d21 x4).bind fun x5 =>
    some (x3.1, x3.2.1, x3.2.2.1, x3.2.2.2.1, x3.2.2.2.2.1, x3.2.2.2.2.2.1, x3.2.2.2.2.2.2.1, x3.2.2.2.2.2.2.2.1, x3.2.2.2.2.2.2.2.2, false, x5.1, a0_5, 0)
noncomputable def w40_c : Code := (Try.f40.body).getD .skip
theorem w40_h : Try.f40.body = some w40_c := by kernel_rfl
theorem w40 (a0_0 : Int) (a0_1 : List V) (a0_2 : Int) (a0_3 : Int) (a0_4 : Int) (a0_5 : Int) (a0_6 : List V) (a0_7 : Int) (a0_8 : Bool) (r : Int × List V × Int × Int × Int × Int × List V × Int × Bool × Bool × List V × Int × Int) (h : d40 a0_0 a0_1 a0_2 a0_3 a0_4 a0_5 a0_6 a0_7 a0_8 = some r) : Ab.Fn Try.prog TT 40 [.agg [.i .i64 a0_0, .sl 5 a0_1, .i .i64 a0_2, .i .i64 a0_3, .i .i64 a0_4, .i .i64 a0_5, .sl 5 a0_6, .i .i64 a0_7, .b a0_8]] (.agg [.i .i64 r.1, .sl 5 r.2.1, .i .i64 r.2.2.1, .i .i64 r.2.2.2.1, .i .i64 r.2.2.2.2.1, .i .i64 r.2.2.2.2.2.1, .sl 5 r.2.2.2.2.2.2.1, .i .i64 r.2.2.2.2.2.2.2.1, .b r.2.2.2.2.2.2.2.2.1, .b r.2.2.2.2.2.2.2.2.2.1, .sl 33 r.2.2.2.2.2.2.2.2.2.2.1, .i .i64 r.2.2.2.2.2.2.2.2.2.2.2.1, .i .i64 r.2.2.2.2.2.2.2.2.2.2.2.2]) [] := by
  refine fn_pure tok (fun r => match r with | 4 => [[],[0],[],[0,1,2],[0,1,2,3],[0,1,2,3,4],[],[6],[0,1,2,3,4,5,6,7],[0,1,2,3,4,5,6,7,8]] | _ => []) Try.func40 (by kernel_rfl) w40_h (by kernel_rfl) ?_
  intro ar un cv mn mx pl mi cmp nt beq an scmp cat slen sbyte ssub ofB toB len gi gb gs gl sub put app ovl rep ne0 ge0 inb bnd room sroom need br call callb loop cut nl E R K hK
  have D := E.D
  clear E
  unfold d40 at h
  cbv
  refine R.cut' (by kernel_rfl) (by kernel_rfl) ?_
  cbv
  refine R.callD h (fun x2 hx2 h2 => ?_)
  clear h; have h := h2; clear h2
  refine R.call' (w36 _ _ _ _ _ _ _ _ _ _ hx2) (by (first | rfl | (simp only [D.hcmp]; done) | (simp only [D.hcmp]; rfl))) ?_
  clear hx2; cbv
  refine R.brD h (by (first | rfl | (simp only [D.hcmp]; done) | (simp only [D.hcmp]; rfl))) ?_ ?_ <;> clear h <;> intro h <;> cbv
  · have e := ret_some h; clear h
    refine hK _ _ ?_
    cbv
    try (subst e; simp only [D.hcmp, and_self, and_true, true_and] <;> (repeat' apply And.intro) <;> rfl)
  · refine R.callD h (fun x3 hx3 h2 => ?_)
    clear h; have h := h2; clear h2
    refine R.call' (w63s _ _ _ _ _ _ _ _ _ _ hx3) (by (first | rfl | (simp only [D.hcmp]; done) | (simp only [D.hcmp]; rfl))) ?_
    clear hx3; cbv
    refine R.callD h (fun x4 hx4 h2 => ?_)
    clear h; have h := h2; clear h2
    refine R.call' (w62s _ _ _ _ _ _ _ _ _ _ hx4) (by (first | rfl | (simp only [D.hcmp]; done) | (simp only [D.hcmp]; rfl))) ?_
    clear hx4; cbv
    refine R.callD h (fun x5 hx5 h2 => ?_)
    clear h; have h := h2; clear h2
    refine R.call' (w21s _ _ hx5) (by (first | rfl | (simp only [D.hcmp]; done) | (simp only [D.hcmp]; rfl))) ?_
    clear hx5; cbv
    have e := ret_some h; clear h
    refine hK _ _ ?_
    cbv
    try (subst e; simp only [D.hcmp, and_self, and_true, true_and] <;> (repeat' apply And.intro) <;> rfl)

noncomputable def d41 (a0_0 : Int) (a0_1 : List V) (a0_2 : Int) (a0_3 : Int) (a0_4 : Int) (a0_5 : Int) (a0_6 : List V) (a0_7 : Int) (a0_8 : Bool) : Option (List V × Int × Int) :=
  (d36 a0_0 a0_1 a0_2 a0_3 a0_4 a0_5 a0_6 a0_7 a0_8).bind fun x2 =>
  if (cmpLit .neq x2 0) = true then
    some ([], 0, x2)
  else
    (d62 a0_0 a0_1 a0_2 a0_3 a0_4 a0_5 a0_6 a0_7 a0_8).bind fun x3 =>
    (d21 x3).bind fun x4 =>
    some (x4.1, x4.2.1, x4.2.2)
noncomputable def w41_c : Code := (Try.f41.body).getD .skip
theorem w41_h : Try.f41.body = some w41_c := by kernel_rfl
theorem w41 (a0_0 : Int) (a0_1 : List V) (a0_2 : Int) (a0_3 : Int) (a0_4 : Int) (a0_5 : Int) (a0_6 : List V) (a0_7 : Int) (a0_8 : Bool) (r : List V × Int × Int) (h : d41 a0_0 a0_1 a0_2 a0_3 a0_4 a0_5 a0_6 a0_7 a0_8 = some r) : Ab.Fn Try.prog TT 41 [.agg [.i .i64 a0_0, .sl 5 a0_1, .i .i64 a0_2, .i .i64 a0_3, .i .i64 a0_4, .i .i64 a0_5, .sl 5 a0_6, .i .i64 a0_7, .b a0_8]] (.agg [.sl 33 r.1, .i .i64 r.2.1, .i .i64 r.2.2]) [] := by
  refine fn_pure tok W0 Try.func41 (by kernel_rfl) w41_h (by kernel_rfl) ?_
  intro ar un cv mn mx pl mi cmp nt beq an scmp cat slen sbyte ssub ofB toB len gi gb gs gl sub put app ovl rep ne0 ge0 inb bnd room sroom need br call callb loop cut nl E R K hK
  have D := E.D
  clear E
  unfold d41 at h
  cbv
  refine R.cut' (by kernel_rfl) (by kernel_rfl) ?_
  cbv
  refine R.callD h (fun x2 hx2 h2 => ?_)
  clear h; have h := h2; clear h2
  refine R.call' (w36 _ _ _ _ _ _ _ _ _ _ hx2) (by (first | rfl | (simp only [D.hcmp]; done) | (simp only [D.hcmp]; rfl))) ?_
  clear hx2; cbv
  refine R.brD h (by (first | rfl | (simp only [D.hcmp]; done) | (simp only [D.hcmp]; rfl))) ?_ ?_ <;> clear h <;> intro h <;> cbv
  · have e := ret_some h; clear h
    refine hK _ _ ?_
    cbv
    try (subst e; simp only [D.hcmp, and_self, and_true, true_and] <;> (repeat' apply And.intro) <;> rfl)
  · refine R.callD h (fun x3 hx3 h2 => ?_)
    clear h; have h := h2; clear h2
    refine R.call' (w62s _ _ _ _ _ _ _ _ _ _ hx3) (by (first | rfl | (simp only [D.hcmp]; done) | (simp only [D.hcmp]; rfl))) ?_
    clear hx3; cbv
    refine R.callD h (fun x4 hx4 h2 => ?_)
    clear h; have h := h2; clear h2
    refine R.call' (w21s _ _ hx4) (by (first | rfl | (simp only [D.hcmp]; done) | (simp only [D.hcmp]; rfl))) ?_
    clear hx4; cbv
    have e := ret_some h; clear h
    refine hK _ _ ?_
    cbv
    try (subst e; simp only [D.hcmp, and_self, and_true, true_and] <;> (repeat' apply And.intro) <;> rfl)

noncomputable def d42 (a0_0 : Int) (a0_1 : List V) (a0_2 : Int) (a0_3 : Int) (a0_4 : Int) (a0_5 : Int) (a0_6 : List V) (a0_7 : Int) (a0_8 : Bool) : Option (List V × Int × Int) :=
  (d36 a0_0 a0_1 a0_2 a0_3 a0_4 a0_5 a0_6 a0_7 a0_8).bind fun x2 =>
  if (cmpLit .neq x2 0) = true then
    some ([], 0, x2)
  else
    (d21 a0_6).bind fun x3 =>
    some (x3.1, a0_7, 0)
noncomputable def w42_c : Code := (Try.f42.body).getD .skip
theorem w42_h : Try.f42.body = some w42_c := by kernel_rfl
theorem w42 (a0_0 : Int) (a0_1 : List V) (a0_2 : Int) (a0_3 : Int) (a0_4 : Int) (a0_5 : Int) (a0_6 : List V) (a0_7 : Int) (a0_8 : Bool) (r : List V × Int × Int) (h : d42 a0_0 a0_1 a0_2 a0_3 a0_4 a0_5 a0_6 a0_7 a0_8 = some r) : Ab.Fn Try.prog TT 42 [.agg [.i .i64 a0_0, .sl 5 a0_1, .i .i64 a0_2, .i .i64 a0_3, .i .i64 a0_4, .i .i64 a0_5, .sl 5 a0_6, .i .i64 a0_7, .b a0_8]] (.agg [.sl 33 r.1, .i .i64 r.2.1, .i .i64 r.2.2]) [] := by
  refine fn_pure tok (fun r => match r with | 4 => [[],[0],[0,1],[0,1,2],[],[4],[0,1,2,3,4,5],[0,1,2,3,4,5,6]] | _ => []) Try.func42 (by kernel_rfl) w42_h (by kernel_rfl) ?_
  intro ar un cv mn mx pl mi cmp nt beq an scmp cat slen sbyte ssub ofB toB len gi gb gs gl sub put app ovl rep ne0 ge0 inb bnd room sroom need br call callb loop cut nl E R K hK
  have D := E.D
  clear E
  unfold d42 at h
  cbv
  refine R.cut' (by kernel_rfl) (by kernel_rfl) ?_
  cbv
  refine R.callD h (fun x2 hx2 h2 => ?_)
  clear h; have h := h2; clear h2
  refine R.call' (w36 _ _ _ _ _ _ _ _ _ _ hx2) (by (first | rfl | (simp only [D.hcmp]; done) | (simp only [D.hcmp]; rfl))) ?_
  clear hx2; cbv
  refine R.brD h (by (first | rfl | (simp only [D.hcmp]; done) | (simp only [D.hcmp]; rfl))) ?_ ?_ <;> clear h <;> intro h <;> cbv
  · have e := ret_some h; clear h
    refine hK _ _ ?_
    cbv
    try (subst e; simp only [D.hcmp, and_self, and_true, true_and] <;> (repeat' apply And.intro) <;> rfl)
  · refine R.callD h (fun x3 hx3 h2 => ?_)
    clear h; have h := h2; clear h2
    refine R.call' (w21s _ _ hx3) (by (first | rfl | (simp only [D.hcmp]; done) | (simp only [D.hcmp]; rfl))) ?_
    clear hx3; cbv
    have e := ret_some h; clear h
    refine hK _ _ ?_
    cbv
    try (subst e; simp only [D.hcmp, and_self, and_true, true_and] <;> (repeat' apply And.intro) <;> rfl)

noncomputable def d66_b1 (a0 : List V) (a1 : List V) (s4 : Int) : Option ((Int) ⊕ ((Bool) ⊕ (Unit))) :=
  if (cmpLit .lss s4 (lenI a0)) = true then
    if (Inb s4 (lenI a0)) then
      if (Inb s4 (lenI a1)) then
        if (cmpLit .neq (gI a0 s4 0) (gI a1 s4 0)) = true then
          some (.inr (.inl false))
        else
          some (.inl (arReal .add .i64 s4 1))
      else none
    else none
  else
    some (.inr (.inr ()))
noncomputable def d66 (a0 : List V) (a1 : List V) : Option (Bool) :=
  if (cmpLit .neq (lenI a0) (lenI a1)) = true then
    some false
  else
    Option.bind (α := (Unit) ⊕ (Bool)) (
      (iter (d66_b1 a0 a1) 0).bind fun y5 =>
      match y5 with
      | .inl p6 =>
        some (.inr p6)
      | .inr y5r0 =>
        some (.inl ())) fun y3 =>
    match y3 with
    | .inl p8 =>
      some true
    | .inr y3r0 =>
      some y3r0
noncomputable def w66_c : Code := (Try.f66.body).getD .skip
theorem w66_h : Try.f66.body = some w66_c := by kernel_rfl
theorem w66 (a0 : List V) (a1 : List V) (r : Bool) (h : d66 a0 a1 = some r) : Ab.Fn Try.prog TT 66 [.sl 5 a0, .sl 5 a1] (.b r) [] := by
  refine fn_pure tok (fun r => match r with | 6 => [[],[],[0,1],[0,1,2],[],[],[4,5],[4,5,6],[0,1,2,3,4,5,6,7]] | _ => []) Try.func66 (by kernel_rfl) w66_h (by kernel_rfl) ?_
  intro ar un cv mn mx pl mi cmp nt beq an scmp cat slen sbyte ssub ofB toB len gi gb gs gl sub put app ovl rep ne0 ge0 inb bnd room sroom need br call callb loop cut nl E R K hK
  have D := E.D
  clear E
  unfold d66 at h
  cbv
  refine R.cut' (by kernel_rfl) (by kernel_rfl) ?_
  cbv
  refine R.brD h (by (first | rfl | (simp only [D.har, D.hcmp, D.hgi, D.hinb, D.hlen]; done) | (simp only [D.har, D.hcmp, D.hgi, D.hinb, D.hlen]; rfl))) ?_ ?_ <;> clear h <;> intro h <;> cbv
  · have e := ret_some h; clear h
    refine hK _ _ ?_
    cbv
    try (subst e; simp only [D.har, D.hcmp, D.hgi, D.hinb, D.hlen, and_self, and_true, true_and] <;> (repeat' apply And.intro) <;> rfl)
  · refine R.cutB Sum.inl (fun _ _ e => Sum.inl.inj e) h [] (fun p8 => []) (fun p8 => []) (by kernel_rfl) (by kernel_rfl) (fun y3 hy hFy3 L hLy3 => ?_) (fun p8 h2 => ?_)
    · clear h; have h := hy; clear hy; cbv
      refine R.loopD h (fun s0 y5 e0 hi hFs4 => ?_)
      clear h
      refine R.loopI hi [] (fun s4 => [(13, .i .i64 s4)]) (fun s4 => []) ⟨rfl, ?_, ?_, rfl, rfl⟩ (by kernel_rfl) ?_
      · cbv; try (subst e0; simp only [D.har, D.hcmp, D.hgi, D.hinb, D.hlen, and_self, and_true, true_and] <;> (repeat' apply And.intro) <;> rfl)
      · cbv; try (subst e0; simp only [D.har, D.hcmp, D.hgi, D.hinb, D.hlen, and_self, and_true, true_and] <;> (repeat' apply And.intro) <;> rfl)
      clear hi e0
      intro s4 m y' hy hins4 houts4 L hLs4
      have h := hy; clear hy; unfold d66_b1 at h
      cbv
      refine R.cut' (by kernel_rfl) (by kernel_rfl) ?_
      cbv
      refine R.brD h (by (first | rfl | (simp only [D.har, D.hcmp, D.hgi, D.hinb, D.hlen]; done) | (simp only [D.har, D.hcmp, D.hgi, D.hinb, D.hlen]; rfl))) ?_ ?_ <;> clear h <;> intro h <;> cbv
      · refine R.cut' (by kernel_rfl) (by kernel_rfl) ?_
        cbv
        refine R.needD h (by (first | rfl | (simp only [D.har, D.hcmp, D.hgi, D.hinb, D.hlen]; done) | (simp only [D.har, D.hcmp, D.hgi, D.hinb, D.hlen]; rfl))) ?_
        clear h; intro h; cbv
        refine R.needD h (by (first | rfl | (simp only [D.har, D.hcmp, D.hgi, D.hinb, D.hlen]; done) | (simp only [D.har, D.hcmp, D.hgi, D.hinb, D.hlen]; rfl))) ?_
        clear h; intro h; cbv
        refine R.brD h (by (first | rfl | (simp only [D.har, D.hcmp, D.hgi, D.hinb, D.hlen]; done) | (simp only [D.har, D.hcmp, D.hgi, D.hinb, D.hlen]; rfl))) ?_ ?_ <;> clear h <;> intro h <;> cbv
        · have e := inr_some h houts4; clear h
          have h := hFs4; rw [e] at h; clear e; try dsimp only at h
          cbv
          have e := ret_some h; clear h
          have h := hFy3; rw [e] at h; clear e; try dsimp only at h
          cbv
          have e := ret_some h; clear h
          refine hK _ _ ?_
          cbv
          try (subst e; simp only [D.har, D.hcmp, D.hgi, D.hinb, D.hlen, and_self, and_true, true_and] <;> (repeat' apply And.intro) <;> rfl)
        · obtain ⟨s', e, hi⟩ := inl_some h hins4
          refine hLs4 s' _ _ hi ⟨rfl, ?_, ?_, rfl, rfl⟩ <;> cbv <;> (try (subst e; simp only [D.har, D.hcmp, D.hgi, D.hinb, D.hlen, and_self, and_true, true_and] <;> (repeat' apply And.intro) <;> rfl))
      · have e := inr_some h houts4; clear h
        have h := hFs4; rw [e] at h; clear e; try dsimp only at h
        cbv
        obtain ⟨s', e, hi⟩ := jn_some Sum.inl h
        refine hLy3 s' _ _ hi ⟨rfl, ?_, ?_, rfl, rfl⟩ <;> cbv <;> (try (subst e; simp only [D.har, D.hcmp, D.hgi, D.hinb, D.hlen, and_self, and_true, true_and] <;> (repeat' apply And.intro) <;> rfl))
    · clear h; have h := h2; clear h2; try dsimp only at h
      cbv
      have e := ret_some h; clear h
      refine hK _ _ ?_
      cbv
      try (subst e; simp only [D.har, D.hcmp, D.hgi, D.hinb, D.hlen, and_self, and_true, true_and] <;> (repeat' apply And.intro) <;> rfl)

noncomputable def d43 (a0_0 : Int) (a0_1 : List V) (a0_2 : Int) (a0_3 : Int) (a0_4 : Int) (a0_5 : Int) (a0_6 : List V) (a0_7 : Int) (a0_8 : Bool) (a1_0 : Int) (a1_1 : List V) (a1_2 : Int) (a1_3 : Int) (a1_4 : Int) (a1_5 : Int) (a1_6 : List V) (a1_7 : Int) (a1_8 : Bool) : Option (Bool) :=
  if (cmpLit .eql a0_0 a1_0) = true then
    (d66 a0_1 a1_1).bind fun x3 =>
    if x3 = true then
      if (cmpLit .eql a0_2 a1_2) = true then
        if (cmpLit .eql a0_3 a1_3) = true then
          if (cmpLit .eql a0_4 a1_4) = true then
            if (cmpLit .eql a0_5 a1_5) = true then
              (d66 a0_6 a1_6).bind fun x4 =>
              if x4 = true then
                if (cmpLit .eql a0_7 a1_7) = true then
                  some (beqB a0_8 a1_8)
                else
                  some false
              else
                some false
            else
              some false
          else
            some false
        else
          some false
      else
        some false
    else
      some false
  else
    some false
noncomputable def w43_c : Code := (Try.f43.body).getD .skip
theorem w43_h : Try.f43.body = some w43_c := by kernel_rfl
theorem w43 (a0_0 : Int) (a0_1 : List V) (a0_2 : Int) (a0_3 : Int) (a0_4 : Int) (a0_5 : Int) (a0_6 : List V) (a0_7 : Int) (a0_8 : Bool) (a1_0 : Int) (a1_1 : List V) (a1_2 : Int) (a1_3 : Int) (a1_4 : Int) (a1_5 : Int) (a1_6 : List V) (a1_7 : Int) (a1_8 : Bool) (r : Bool) (h : d43 a0_0 a0_1 a0_2 a0_3 a0_4 a0_5 a0_6 a0_7 a0_8 a1_0 a1_1 a1_2 a1_3 a1_4 a1_5 a1_6 a1_7 a1_8 = some r) : Ab.Fn Try.prog TT 43 [.agg [.i .i64 a0_0, .sl 5 a0_1, .i .i64 a0_2, .i .i64 a0_3, .i .i64 a0_4, .i .i64 a0_5, .sl 5 a0_6, .i .i64 a0_7, .b a0_8], .agg [.i .i64 a1_0, .sl 5 a1_1, .i .i64 a1_2, .i .i64 a1_3, .i .i64 a1_4, .i .i64 a1_5, .sl 5 a1_6, .i .i64 a1_7, .b a1_8]] (.b r) [] := by
  refine fn_pure tok W0 Try.func43 (by kernel_rfl) w43_h (by kernel_rfl) ?_
  intro ar un cv mn mx pl mi cmp nt beq an scmp cat slen sbyte ssub ofB toB len gi gb gs gl sub put app ovl rep ne0 ge0 inb bnd room sroom need br call callb loop cut nl E R K hK
  have D := E.D
  clear E
  unfold d43 at h
  cbv
  refine R.cut' (by kernel_rfl) (by kernel_rfl) ?_
  cbv
  refine R.brD h (by (first | rfl | (simp only [D.hbeq, D.hcmp]; done) | (simp only [D.hbeq, D.hcmp]; rfl))) ?_ ?_ <;> clear h <;> intro h <;> cbv
  · refine R.callD h (fun x3 hx3 h2 => ?_)
    clear h; have h := h2; clear h2
    refine R.call' (w66 _ _ _ hx3) (by (first | rfl | (simp only [D.hbeq, D.hcmp]; done) | (simp only [D.hbeq, D.hcmp]; rfl))) ?_
    clear hx3; cbv
    refine R.brD h (by (first | rfl | (simp only [D.hbeq, D.hcmp]; done) | (simp only [D.hbeq, D.hcmp]; rfl))) ?_ ?_ <;> clear h <;> intro h <;> cbv
    · refine R.brD h (by (first | rfl | (simp only [D.hbeq, D.hcmp]; done) | (simp only [D.hbeq, D.hcmp]; rfl))) ?_ ?_ <;> clear h <;> intro h <;> cbv
      · refine R.brD h (by (first | rfl | (simp only [D.hbeq, D.hcmp]; done) | (simp only [D.hbeq, D.hcmp]; rfl))) ?_ ?_ <;> clear h <;> intro h <;> cbv
        · refine R.brD h (by (first | rfl | (simp only [D.hbeq, D.hcmp]; done) | (simp only [D.hbeq, D.hcmp]; rfl))) ?_ ?_ <;> clear h <;> intro h <;> cbv
          · refine R.brD h (by (first | rfl | (simp only [D.hbeq, D.hcmp]; done) | (simp only [D.hbeq, D.hcmp]; rfl))) ?_ ?_ <;> clear h <;> intro h <;> cbv
            · refine R.callD h (fun x4 hx4 h2 => ?_)
              clear h; have h := h2; clear h2
              refine R.call' (w66 _ _ _ hx4) (by (first | rfl | (simp only [D.hbeq, D.hcmp]; done) | (simp only [D.hbeq, D.hcmp]; rfl))) ?_
              clear hx4; cbv
              refine R.brD h (by (first | rfl | (simp only [D.hbeq, D.hcmp]; done) | (simp only [D.hbeq, D.hcmp]; rfl))) ?_ ?_ <;> clear h <;> intro h <;> cbv
              · refine R.brD h (by (first | rfl | (simp only [D.hbeq, D.hcmp]; done) | (simp only [D.hbeq, D.hcmp]; rfl))) ?_ ?_ <;> clear h <;> intro h <;> cbv
                · have e := ret_some h; clear h
                  refine hK _ _ ?_
                  cbv
                  try (subst e; simp only [D.hbeq, D.hcmp, and_self, and_true, true_and] <;> (repeat' apply And.intro) <;> rfl)
                · have e := ret_some h; clear h
                  refine hK _ _ ?_
                  cbv
                  try (subst e; simp only [D.hbeq, D.hcmp, and_self, and_true, true_and] <;> (repeat' apply And.intro) <;> rfl)
              · have e := ret_some h; clear h
                refine hK _ _ ?_
                cbv
                try (subst e; simp only [D.hbeq, D.hcmp, and_self, and_true, true_and] <;> (repeat' apply And.intro) <;> rfl)
            · have e := ret_some h; clear h
              refine hK _ _ ?_
              cbv
              try (subst e; simp only [D.hbeq, D.hcmp, and_self, and_true, true_and] <;> (repeat' apply And.intro) <;> rfl)
          · have e := ret_some h; clear h
            refine hK _ _ ?_
            cbv
            try (subst e; simp only [D.hbeq, D.hcmp, and_self, and_true, true_and] <;> (repeat' apply And.intro) <;> rfl)
        · have e := ret_some h; clear h
          refine hK _ _ ?_
          cbv
          try (subst e; simp only [D.hbeq, D.hcmp, and_self, and_true, true_and] <;> (repeat' apply And.intro) <;> rfl)
      · have e := ret_some h; clear h
        refine hK _ _ ?_
        cbv
        try (subst e; simp only [D.hbeq, D.hcmp, and_self, and_true, true_and] <;> (repeat' apply And.intro) <;> rfl)
    · have e := ret_some h; clear h
      refine hK _ _ ?_
      cbv
      try (subst e; simp only [D.hbeq, D.hcmp, and_self, and_true, true_and] <;> (repeat' apply And.intro) <;> rfl)
  · have e := ret_some h; clear h
    refine hK _ _ ?_
    cbv
    try (subst e; simp only [D.hbeq, D.hcmp, and_self, and_true, true_and] <;> (repeat' apply And.intro) <;> rfl)
end Go.Proofs.Ytdejapkfijdadaa
end
section
/- All walks of the functions. No statement of its own. -/
end
section
namespace Go.Proofs.Ytdejapkfijdadaa
open Go.Ab Go.RowKit

def byteAt (n : Int) (i : Nat) : V := .i .u8 (n / 256 ^ i % 256)
/-- The first k bytes of a number, the least significant one first. -/
def leB (n : Int) (k : Nat) : List V := (List.range k).map (byteAt n)
theorem leB_len (n : Int) (k : Nat) : (leB n k).length = k := by simp [leB]
theorem leB_succ (n : Int) (k : Nat) : leB n (k + 1) = leB n k ++ [byteAt n k] := by
  unfold leB
  rw [List.range_succ, List.map_append]
  rfl
theorem byteAt_ok (n : Int) (i : Nat) : ByteV (byteAt n i) := by
  show 0 ≤ n / 256 ^ i % 256 ∧ n / 256 ^ i % 256 < 256
  exact ⟨Int.emod_nonneg _ (by decide), Int.emod_lt_of_pos _ (by decide)⟩
/-- A byte as_ it is told. -/
def U8 (v : V) : Prop := ∃ n : Int, v = .i .u8 n ∧ 0 ≤ n ∧ n < 256
theorem U8.byte {v : V} (h : U8 v) : ByteV v := by
  obtain ⟨n, rfl, h⟩ := h
  exact h
theorem U8.inj {v w : V} (h : U8 v) (h' : U8 w) (e : Ab.asInt v = Ab.asInt w) : v = w := by
  obtain ⟨n, rfl, _⟩ := h
  obtain ⟨m, rfl, _⟩ := h'
  have : n = m := e
  rw [this]
theorem U8.injL : ∀ {l m : List V}, (∀ v ∈ l, U8 v) → (∀ v ∈ m, U8 v) → l.map Ab.asInt = m.map Ab.asInt → l = m
  | [], [], _, _, _ => rfl
  | [], _ :: _, _, _, e => by simp at e
  | _ :: _, [], _, _, e => by simp at e
  | v :: l, w :: m, h, h', e => by
    simp only [List.map_cons, List.cons.injEq] at e
    rw [(h v (by simp)).inj (h' w (by simp)) e.1, U8.injL (fun x hx => h x (by simp [hx])) (fun x hx => h' x (by simp [hx])) e.2]
theorem byteAt_u8 (n : Int) (i : Nat) : U8 (byteAt n i) := ⟨_, rfl, byteAt_ok n i⟩
theorem leB_u8 (n : Int) (k : Nat) : ∀ v ∈ leB n k, U8 v := by
  intro v hv
  obtain ⟨i, _, rfl⟩ := List.mem_map.1 hv
  exact byteAt_u8 n i
theorem u8w (x : Int) : wrapK .u8 x = x % 256 := by
  unfold wrapK
  simp only [IntKind.wrap, IntKind.bits, IntKind.signed]
  simp
theorem add64 {a b : Int} (h : -9223372036854775808 ≤ a + b) (h2 : a + b ≤ 9223372036854775807) : arReal .add .i64 a b = a + b := w64_small h h2
theorem mul64 {a b : Int} (h : -9223372036854775808 ≤ a * b) (h2 : a * b ≤ 9223372036854775807) : arReal .mul .i64 a b = a * b := w64_small h h2
theorem shr64 (n : Int) (i : Nat) (h : i < 8) : arReal .shr .i64 n (8 * (i : Int)) = n / 256 ^ i := by
  show n.fdiv (2 ^ (min (8 * (i : Int)).toNat 64)) = _
  rw [show min (8 * (i : Int)).toNat 64 = 8 * i from by omega, Int.fdiv_eq_ediv_of_nonneg _ (by exact Int.pow_nonneg (by decide))]
  congr 1
  rw [Int.pow_mul]
  rfl
theorem room1 {l : List V} (h : l.length ≤ 140737488355328) : Room (lenI l) 1 := by
  unfold Room lenI
  omega
theorem s70b (n : Int) (k : Nat) (hk : k ≤ 8) (l : List V) (hl : l.length ≤ 100000000000000) (f : (Int × List V) → Option ((Int × List V) ⊕ List V)) (hf : f = d70v1_b1 n k ∨ f = d70v2_b1 n k) : iter f (0, l) = some (l ++ leB n k) := by
  refine iter_fun (fun s => ∃ i : Nat, i ≤ k ∧ s = ((i : Int), l ++ leB n i)) (fun s => (k - s.1).toNat) (fun _ => l ++ leB n k) ?_ _ ⟨0, by omega, by simp [leB]⟩
  rintro s ⟨i, hi, rfl⟩
  by_cases hlt : i < k
  · left
    refine ⟨(((i + 1 : Nat) : Int), l ++ leB n (i + 1)), ?_, ⟨i + 1, by omega, rfl⟩, by simp; omega, rfl⟩
    have e8 : arReal .mul .i64 8 (i : Int) = 8 * (i : Int) := mul64 (by omega) (by omega)
    have e1 : arReal .add .i64 (i : Int) 1 = ((i + 1 : Nat) : Int) := by rw [add64 (by omega) (by omega)]; push_cast; rfl
    have eb : wrapK .u8 (arReal .shr .i64 n (8 * (i : Int))) = n / 256 ^ i % 256 := by rw [u8w, shr64 n i (by omega)]
    have el : appL (l ++ leB n i) [.i .u8 (n / 256 ^ i % 256)] = l ++ leB n (i + 1) := by
      rw [leB_succ]; simp [appL, byteAt]
    have hr : Room (lenI (l ++ leB n (i + 1))) 1 := room1 (by rw [List.length_append, leB_len]; omega)
    rcases hf with rfl | rfl
    · unfold d70v1_b1
      rw [e8, eb, e1, el, if_pos (by simp [cmpLit]; omega), if_pos (by simp [Ge0]; omega), if_pos hr]
    · unfold d70v2_b1
      rw [e8, eb, e1, el, if_pos (by simp [cmpLit]; omega), if_pos (by simp [Ge0]; omega), if_pos hr]
  · right
    obtain rfl : i = k := by omega
    rcases hf with rfl | rfl
    · unfold d70v1_b1; rw [if_neg (by simp [cmpLit])]
    · unfold d70v2_b1; rw [if_neg (by simp [cmpLit])]
theorem s70v1 (n : Int) (k : Nat) (hk : k ≤ 8) : d70v1 n k = some (leB n k) := by
  unfold d70v1
  rw [s70b n k hk [] (by simp) _ (.inl rfl)]
  rfl
theorem s70v2 (n : Int) (k : Nat) (hk : k ≤ 8) (l : List V) (hl : l.length ≤ 100000000000000) : d70v2 n k l = some (l ++ leB n k) := by
  unfold d70v2
  rw [s70b n k hk l hl _ (.inr rfl)]
  rfl
/-- The bytes of a record. -/
def encB (id t : Int) (d : List V) : List V := leB id 4 ++ leB t 8 ++ leB d.length 2 ++ d
theorem encB_len (id t : Int) (d : List V) : (encB id t d).length = 14 + d.length := by
  simp [encB, leB_len]
  omega
def validB (id t : Int) (d : List V) : Bool := decide (1 ≤ id ∧ id ≤ 1073741824 ∧ 0 ≤ t ∧ t ≤ 1099511627776 ∧ (d.length : Int) ≤ 256)
theorem s49 (id t : Int) (d : List V) (hd : d.length ≤ 1000000000) : d49 id t d = some (encB id t d) := by
  have h1 : d70v1 id 4 = some (leB id 4) := s70v1 id 4 (by omega)
  have h2 : d70v2 t 8 (leB id 4) = some (leB id 4 ++ leB t 8) := s70v2 t 8 (by omega) _ (by rw [leB_len]; omega)
  have h3 : d70v2 (lenI d) 2 (leB id 4 ++ leB t 8) = some (leB id 4 ++ leB t 8 ++ leB (lenI d) 2) := s70v2 _ 2 (by omega) _ (by rw [List.length_append, leB_len, leB_len]; omega)
  have h4 : Room (lenI (appL (leB id 4 ++ leB t 8 ++ leB (lenI d) 2) d)) 1 := room1 (by
    unfold appL
    rw [List.length_append, List.length_append, List.length_append, leB_len, leB_len, leB_len]; omega)
  unfold d49
  rw [h1, Option.bind_some, h2, Option.bind_some, h3, Option.bind_some, if_pos h4]
  rfl
theorem s24 (id t : Int) (d : List V) : d24 id t d = some (if validB id t d = true then (encB id t d, 0) else ([], 221)) := by
  unfold d24
  rw [s45]
  simp only [Option.bind_some]
  show (if notB' (validB id t d) = true then _ else _) = _
  cases h : validB id t d
  · rfl
  · have hd : d.length ≤ 256 := by
      have := of_decide_eq_true h
      omega
    rw [s49 id t d (by omega)]
    rfl
end Go.Proofs.Ytdejapkfijdadaa
end
section
namespace Go.Proofs.Ytdejapkfijdadaa
open Go.Ab Go.RowKit

theorem byteAt_nat (m i : Nat) : Ab.asInt (byteAt (m : Int) i) = ((m / 256 ^ i % 256 : Nat) : Int) := by
  show (m : Int) / 256 ^ i % 256 = _
  rw [Int.natCast_emod, Int.natCast_ediv, Int.natCast_pow]
  rfl
theorem numN_leB (m : Nat) : ∀ k, numN (leB (m : Int) k) = m % 256 ^ k
  | 0 => by simp [leB, numN, Nat.mod_one]
  | k + 1 => by
    rw [leB_succ, numN_snoc, numN_leB m k, leB_len, byteAt_nat, Int.toNat_natCast, Nat.pow_succ, Nat.mod_mul, Nat.mul_comm (256 ^ k)]
/-- A record: its number, its time, its data. -/
abbrev Rc := Int × Int × List V
def okR (r : Rc) : Prop := validB r.1 r.2.1 r.2.2 = true ∧ ∀ v ∈ r.2.2, U8 v
def encR1 (r : Rc) : List V := encB r.1 r.2.1 r.2.2
def vR (r : Rc) : V := recV r.1 r.2.1 r.2.2
theorem encB_ok {id t : Int} {d : List V} (hd : ∀ v ∈ d, U8 v) : ∀ v ∈ encB id t d, U8 v := by
  intro v hv
  unfold encB at hv
  simp only [List.mem_append] at hv
  rcases hv with ((h | h) | h) | h
  · exact leB_u8 _ _ v h
  · exact leB_u8 _ _ v h
  · exact leB_u8 _ _ v h
  · exact hd v h
theorem rec1_enc {id t : Int} {d r : List V} (h : validB id t d = true) : rec1 (encB id t d ++ r) = some (id, t, d.length) := by
  have hv := of_decide_eq_true h
  obtain ⟨m, rfl⟩ : ∃ m : Nat, id = m := ⟨id.toNat, by omega⟩
  obtain ⟨u, rfl⟩ : ∃ u : Nat, t = u := ⟨t.toNat, by omega⟩
  have e0 : encB (m : Int) (u : Int) d ++ r = leB m 4 ++ (leB u 8 ++ (leB d.length 2 ++ (d ++ r))) := by simp [encB]
  have e4 : (encB (m : Int) (u : Int) d ++ r).take 4 = leB m 4 := by rw [e0]; exact List.take_left' (leB_len _ _)
  have d4 : (encB (m : Int) (u : Int) d ++ r).drop 4 = leB u 8 ++ (leB d.length 2 ++ (d ++ r)) := by rw [e0]; exact List.drop_left' (leB_len _ _)
  have e8 : ((encB (m : Int) (u : Int) d ++ r).drop 4).take 8 = leB u 8 := by rw [d4]; exact List.take_left' (leB_len _ _)
  have d12 : (encB (m : Int) (u : Int) d ++ r).drop 12 = leB d.length 2 ++ (d ++ r) := by
    rw [show 12 = 4 + 8 from rfl, ← List.drop_drop, d4]; exact List.drop_left' (leB_len _ _)
  have e2 : ((encB (m : Int) (u : Int) d ++ r).drop 12).take 2 = leB d.length 2 := by rw [d12]; exact List.take_left' (leB_len _ _)
  have hlen : (encB (m : Int) (u : Int) d ++ r).length = 14 + d.length + r.length := by rw [List.length_append, encB_len]
  unfold rec1
  rw [if_neg (by omega), e4, e8, e2, numN_leB, numN_leB, numN_leB]
  have h4 : m % 256 ^ 4 = m := Nat.mod_eq_of_lt (by omega)
  have h8 : u % 256 ^ 8 = u := Nat.mod_eq_of_lt (by omega)
  have h2 : d.length % 256 ^ 2 = d.length := Nat.mod_eq_of_lt (by omega)
  rw [h4, h8, h2, w64_small (by omega) (by omega)]
  simp only
  rw [if_pos ⟨by omega, hv.1, hv.2.1, hv.2.2.1, hv.2.2.2.1, by omega⟩]
theorem drop_enc {id t : Int} {d r : List V} : (encB id t d ++ r).drop (14 + d.length) = r := List.drop_left' (encB_len _ _ _)
theorem data_enc {id t : Int} {d r : List V} : ((encB id t d ++ r).drop 14).take d.length = d := by
  have e0 : encB id t d ++ r = (leB id 4 ++ leB t 8 ++ leB d.length 2) ++ (d ++ r) := by simp [encB]
  rw [e0, List.drop_left' (by simp [leB_len])]
  exact List.take_left' rfl
theorem recs_enc {id t : Int} {d r : List V} (h : validB id t d = true) : recs (encB id t d ++ r) = (recV id t d :: (recs r).1, (recs r).2) := by
  rw [recs_some (rec1_enc h), data_enc, drop_enc]
def encAll : List Rc → List V
  | [] => []
  | r :: l => encR1 r ++ encAll l
theorem encAll_app : ∀ (a b : List Rc), encAll (a ++ b) = encAll a ++ encAll b
  | [], b => rfl
  | r :: a, b => by simp [encAll, encAll_app a b]
theorem recs_encAll : ∀ {l : List Rc} (h : ∀ r ∈ l, okR r) (s : List V), recs (encAll l ++ s) = (l.map vR ++ (recs s).1, (recs s).2)
  | [], _, s => by simp [encAll]
  | r :: l, h, s => by
    have h1 := recs_encAll (l := l) (fun x hx => h x (by simp [hx])) s
    have h2 := (h r (by simp)).1
    simp only [encAll, List.append_assoc, encR1]
    rw [recs_enc h2, h1]
    rfl
theorem recs_all {l : List Rc} (h : ∀ r ∈ l, okR r) : recs (encAll l) = (l.map vR, true) := by
  have := recs_encAll h []
  rw [List.append_nil, recs_nil, List.append_nil] at this
  exact this
theorem encAll_ok {l : List Rc} (h : ∀ r ∈ l, okR r) : ∀ v ∈ encAll l, U8 v := by
  induction l with
  | nil => intro v hv; simp [encAll] at hv
  | cons r l ih =>
    intro v hv
    simp only [encAll, List.mem_append] at hv
    rcases hv with hv | hv
    · exact encB_ok (h r (by simp)).2 v hv
    · exact ih (fun x hx => h x (by simp [hx])) v hv
end Go.Proofs.Ytdejapkfijdadaa
end
section
namespace Go.Proofs.Ytdejapkfijdadaa
open Go.Ab Go.RowKit

theorem byteAt_succ (m i : Nat) : byteAt (m : Int) (i + 1) = byteAt ((m / 256 : Nat) : Int) i := by
  have h1 := byteAt_nat m (i + 1)
  have h2 := byteAt_nat (m / 256) i
  have e : m / 256 ^ (i + 1) = m / 256 / 256 ^ i := by rw [Nat.pow_succ, Nat.mul_comm, Nat.div_div_eq_div_mul]
  rw [e] at h1
  have h3 := h1.trans h2.symm
  show V.i .u8 _ = V.i .u8 _
  exact congrArg _ h3
theorem leB_cons (m k : Nat) : leB (m : Int) (k + 1) = byteAt (m : Int) 0 :: leB ((m / 256 : Nat) : Int) k := by
  unfold leB
  rw [List.range_succ_eq_map, List.map_cons, List.map_map]
  congr 1
  exact List.map_congr_left (fun i _ => byteAt_succ m i)
theorem leB_numN : ∀ {l : List V}, (∀ v ∈ l, ByteV v) → l.map Ab.asInt = (leB ((numN l : Nat) : Int) l.length).map Ab.asInt
  | [], _ => by simp [leB]
  | v :: r, h => by
    have hv := (h v (by simp)).rng
    have ih := leB_numN (l := r) (fun x hx => h x (by simp [hx]))
    have e1 : numN (v :: r) / 256 = numN r := by simp only [numN]; omega
    rw [List.length_cons, leB_cons, e1, List.map_cons, List.map_cons, ← ih, byteAt_nat]
    congr 1
    simp only [numN, Nat.pow_zero, Nat.div_one]
    omega
theorem recs_read : ∀ (n : Nat) (l : List V), l.length ≤ n → (∀ v ∈ l, U8 v) → ∃ rs : List Rc, (∀ r ∈ rs, okR r) ∧ (recs l).1 = rs.map vR ∧ ((recs l).2 = true → l.map Ab.asInt = (encAll rs).map Ab.asInt)
  | n, [], _, _ => ⟨[], by simp, by rw [recs_nil]; rfl, fun _ => rfl⟩
  | 0, v :: r, h, _ => by simp at h
  | n + 1, v :: r, hn, hb => by
    generalize hl : v :: r = l at *
    have hne : l ≠ [] := by rw [← hl]; simp
    cases h1 : rec1 l with
    | none => exact ⟨[], by simp, by rw [recs_none hne h1]; rfl, fun h => by rw [recs_none hne h1] at h; cases h⟩
    | some x =>
      obtain ⟨id, t, k⟩ := x
      have hlen := rec1_len h1
      obtain ⟨rs, g1, g2, g3⟩ := recs_read n (l.drop (14 + k)) (by rw [List.length_drop]; omega) (fun v hv => hb v (List.mem_of_mem_drop hv))
      have hd : ((l.drop 14).take k).length = k := by simp; omega
      have hdb : ∀ v ∈ (l.drop 14).take k, U8 v := fun v hv => hb v (List.mem_of_mem_drop (List.mem_of_mem_take hv))
      have h1' := h1
      unfold rec1 at h1'
      rw [if_neg (by omega)] at h1'
      simp only at h1'
      split at h1'
      · rename_i hc
        injection h1' with h1'
        injection h1' with i1 h1'
        injection h1' with i2 i3
        obtain ⟨c1, c2, c3, c4, c5, c6⟩ := hc
        have hb4 : ∀ v ∈ l.take 4, ByteV v := fun v hv => (hb v (List.mem_of_mem_take hv)).byte
        have hb8 : ∀ v ∈ (l.drop 4).take 8, ByteV v := fun v hv => (hb v (List.mem_of_mem_drop (List.mem_of_mem_take hv))).byte
        have hb2 : ∀ v ∈ (l.drop 12).take 2, ByteV v := fun v hv => (hb v (List.mem_of_mem_drop (List.mem_of_mem_take hv))).byte
        have l4 : (l.take 4).length = 4 := by simp; omega
        have l8 : ((l.drop 4).take 8).length = 8 := by simp; omega
        have l2 : ((l.drop 12).take 2).length = 2 := by simp; omega
        have n8 := numN_lt hb8
        rw [l8] at n8
        have t8 : t = (numN ((l.drop 4).take 8) : Int) := by
          rw [i2] at c4 c5
          rw [← i2]
          rcases Nat.lt_or_ge (numN ((l.drop 4).take 8)) (2 ^ 63) with hh | hh
          · exact w64_small (by omega) (by omega)
          · exfalso
            have e : w64 ((numN ((l.drop 4).take 8) : Nat) : Int) = (numN ((l.drop 4).take 8) : Int) - 18446744073709551616 := by
              have a1 : (9223372036854775808 : Int) ≤ (numN ((l.drop 4).take 8) : Int) := by omega
              have a2 : ((numN ((l.drop 4).take 8) : Nat) : Int) < 18446744073709551616 := by omega
              generalize ((numN ((l.drop 4).take 8) : Nat) : Int) = z at *
              unfold w64
              simp only [IntKind.wrap, IntKind.bits, IntKind.signed]
              simp
              omega
            rw [i2] at e
            omega
        refine ⟨(id, t, (l.drop 14).take k) :: rs, ?_, ?_, ?_⟩
        · intro r hr
          rcases List.mem_cons.1 hr with rfl | hr
          · refine ⟨decide_eq_true ⟨?_, ?_, ?_, ?_, ?_⟩, hdb⟩
            · rw [← i1]; exact c2
            · rw [← i1]; exact c3
            · rw [← i2]; exact c4
            · rw [← i2]; exact c5
            · show (((l.drop 14).take k).length : Int) ≤ 256
              rw [hd, ← i3]; omega
          · exact g1 r hr
        · rw [recs_some h1, g2]
          rfl
        · intro h2
          rw [recs_some h1] at h2
          have g4 := g3 h2
          have split : l = l.take 4 ++ ((l.drop 4).take 8 ++ ((l.drop 12).take 2 ++ ((l.drop 14).take k ++ l.drop (14 + k)))) := by
            have s1 := List.take_append_drop 4 l
            have s2 := List.take_append_drop 8 (l.drop 4)
            have s3 := List.take_append_drop 2 (l.drop 12)
            have s4 := List.take_append_drop k (l.drop 14)
            rw [List.drop_drop] at s2 s3 s4
            rw [s4, s3, s2, s1]
          have m4 := leB_numN hb4
          have m8 := leB_numN hb8
          have m2 := leB_numN hb2
          rw [l4] at m4; rw [l8] at m8; rw [l2] at m2
          rw [i1] at m4
          rw [← t8] at m8
          rw [i3] at m2
          have e1 : l.map Ab.asInt = (l.take 4 ++ ((l.drop 4).take 8 ++ ((l.drop 12).take 2 ++ ((l.drop 14).take k ++ l.drop (14 + k))))).map Ab.asInt := congrArg _ split
          rw [e1]
          simp only [List.map_append, m4, m8, m2, g4, encAll, encR1, encB, List.append_assoc, hd]
      · cases h1'
theorem recs_of (l : List V) (h : ∀ v ∈ l, U8 v) : ∃ rs : List Rc, (∀ r ∈ rs, okR r) ∧ (recs l).1 = rs.map vR ∧ ((recs l).2 = true → l = encAll rs) := by
  obtain ⟨rs, h1, h2, h3⟩ := recs_read _ l (Nat.le_refl _) h
  exact ⟨rs, h1, h2, fun e => U8.injL h (encAll_ok h1) (h3 e)⟩
end Go.Proofs.Ytdejapkfijdadaa
end
section
namespace Go.Proofs.Ytdejapkfijdadaa
open Go.Ab Go.RowKit

theorem or_low (N b : Nat) (hN : N < 2 ^ 56) (hb : b < 256) : arReal .or .i64 (arReal .shl .i64 (N : Int) 8) (b : Int) = w64 ((b + 256 * N : Nat) : Int) := by
  have e1 : arReal .shl .i64 (N : Int) 8 = w64 ((N * 256 : Nat) : Int) := by
    show w64 ((N : Int) * 2 ^ (min (8 : Int).toNat 64)) = _
    congr 1
  rw [e1]
  show w64 ((BitVec.ofInt 64 (w64 ((N * 256 : Nat) : Int)) ||| BitVec.ofInt 64 (b : Int)).toNat : Int) = _
  rw [ofInt_w64, BitVec.ofInt_natCast, BitVec.ofInt_natCast]
  congr 1
  rw [BitVec.toNat_or, BitVec.toNat_ofNat, BitVec.toNat_ofNat, Nat.mod_eq_of_lt (by omega), Nat.mod_eq_of_lt (by omega)]
  have := Nat.two_pow_add_eq_or_of_lt (i := 8) (b := b) (by omega) N
  rw [Nat.mul_comm N 256, show (256 : Nat) = 2 ^ 8 from rfl, ← this]
  omega
theorem sub64 {a b : Int} (h : -9223372036854775808 ≤ a - b) (h2 : a - b ≤ 9223372036854775807) : arReal .sub .i64 a b = a - b := w64_small h h2
theorem s52 (l : List V) (hb : ∀ v ∈ l, ByteV v) (hl : l.length ≤ 8) : d52 l = some (w64 (numN l)) := by
  unfold d52
  have h0 : arReal .sub .i64 (lenI l) 1 = (l.length : Int) - 1 := sub64 (by unfold lenI; omega) (by unfold lenI; omega)
  have hI : iter (d52_b1 l) ((0 : Int), (l.length : Int) - 1) = some (w64 (numN l)) := by
    refine iter_fun (fun s => ∃ i : Nat, i ≤ l.length ∧ s = (w64 (numN (l.drop i)), (i : Int) - 1)) (fun s => (s.2 + 1).toNat) (fun _ => w64 (numN l)) ?_ _ ⟨l.length, Nat.le_refl _, by simp [numN]; rfl⟩
    rintro s ⟨i, hi, rfl⟩
    cases i with
    | zero =>
      right
      unfold d52_b1
      rw [if_neg (by simp [cmpLit]), List.drop_zero]
    | succ i =>
      left
      have hlt : i < l.length := by omega
      have hv := (hb l[i] (List.getElem_mem hlt)).rng
      have hN := numN_lt (l := l.drop (i + 1)) (fun v hv => hb v (List.mem_of_mem_drop hv))
      have hN2 : numN (l.drop (i + 1)) < 2 ^ 56 := by
        refine Nat.lt_of_lt_of_le hN ?_
        have : (2 : Nat) ^ 56 = 256 ^ 7 := by decide
        rw [this]
        exact Nat.pow_le_pow_right (by omega) (by rw [List.length_drop]; omega)
      refine ⟨(w64 (numN (l.drop i)), (i : Int) - 1), ?_, ⟨i, by omega, rfl⟩, by (try simp) <;> (try omega), rfl⟩
      have ei : ((i + 1 : Nat) : Int) - 1 = (i : Int) := by omega
      have eb : wrapK .i64 (gI l (i : Int) 0) = ((Ab.asInt l[i]).toNat : Int) := by
        rw [gI_at l i hlt hb]
        show w64 _ = _
        rw [w64_small (by omega) (by omega)]
        omega
      have es : arReal .sub .i64 (i : Int) 1 = (i : Int) - 1 := sub64 (by omega) (by omega)
      have ed : numN (l.drop i) = (Ab.asInt l[i]).toNat + 256 * numN (l.drop (i + 1)) := by rw [List.drop_eq_getElem_cons hlt]; rfl
      unfold d52_b1
      rw [ei, if_pos (by simp [cmpLit]), if_pos (by simp [Ge0]), if_pos (by simp [Inb, lenI]; omega), eb, es, w64_small (by omega) (by omega), or_low _ _ hN2 (by omega), ed]
  rw [h0, hI]
  rfl
theorem s53 (id t : Int) (d : List V) : d53 id t d = some (validB id t d) := by
  unfold d53 validB
  simp only [cmpLit, lenI, decide_eq_true_eq]
  repeat' split
  all_goals (refine congrArg some ?_; symm; first | (exact decide_eq_false (by omega)) | (exact decide_eq_decide.2 (by omega)))
theorem room40 {l : List V} (h : l.length ≤ 3000000000000) : Room (lenI l) 40 := by
  unfold Room lenI
  omega
theorem s21 (l : List V) (hb : ∀ v ∈ l, ByteV v) (hl : l.length ≤ 1099511627776) : d21 l = some (if (recs l).2 = true then ((recs l).1, 0, 0) else ([], 0, 221)) := by
  unfold d21
  have hI : iter d21_b1 (l, ([] : List V)) = some (if (recs l).2 = true then (Sum.inr (recs l).1 : (List V × Int × Int) ⊕ List V) else Sum.inl ([], 0, 221)) := by
    refine iter_fun (fun s : List V × List V => (∀ v ∈ s.1, ByteV v) ∧ s.1.length + s.2.length ≤ l.length) (fun s => s.1.length) (fun s => if (recs s.1).2 = true then (Sum.inr (s.2 ++ (recs s.1).1) : (List V × Int × Int) ⊕ List V) else Sum.inl ([], 0, 221)) ?_ _ ⟨hb, by simp⟩
    rintro ⟨s, o⟩ ⟨hs, hlen⟩
    simp only at hs hlen
    by_cases hne : s = []
    · right
      subst hne
      unfold d21_b1
      rw [if_neg (by simp [cmpLit, lenI]), recs_nil]
      simp
    · have hpos : 0 < s.length := List.length_pos_iff.2 hne
      by_cases h14 : s.length < 14
      · right
        have hr : rec1 s = none := by unfold rec1; rw [if_pos h14]
        have k0 : (cmpLit .gtr (lenI s) 0) = true := decide_eq_true (by show (s.length : Int) > 0; omega)
        have k1 : (cmpLit .lss (lenI s) 14) = true := decide_eq_true (by show (s.length : Int) < 14; omega)
        unfold d21_b1
        rw [if_pos k0, if_pos k1, recs_none hne hr]
        rfl
      · have b2 : ∀ v ∈ (s.drop 12).take 2, ByteV v := fun v hv => hs v (List.mem_of_mem_drop (List.mem_of_mem_take hv))
        have b4 : ∀ v ∈ s.take 4, ByteV v := fun v hv => hs v (List.mem_of_mem_take hv)
        have b8 : ∀ v ∈ (s.drop 4).take 8, ByteV v := fun v hv => hs v (List.mem_of_mem_drop (List.mem_of_mem_take hv))
        have n2 := numN_lt b2
        have n4 := numN_lt b4
        rw [show ((s.drop 12).take 2).length = 2 from by simp; omega] at n2
        rw [show (s.take 4).length = 4 from by simp; omega] at n4
        obtain ⟨k, hk⟩ : ∃ k, numN ((s.drop 12).take 2) = k := ⟨_, rfl⟩
        have q12 : subL s 12 14 = (s.drop 12).take 2 := by show (s.take 14).drop 12 = _; rw [List.drop_take]
        have q4 : subL s 0 4 = s.take 4 := rfl
        have q8 : subL s 4 12 = (s.drop 4).take 8 := by show (s.take 12).drop 4 = _; rw [List.drop_take]
        have t12 : d52 (subL s 12 14) = some (k : Int) := by rw [q12, s52 _ b2 (by simp; omega), hk, w64_small (by omega) (by omega)]
        have a14 : arReal .add .i64 14 (k : Int) = ((14 + k : Nat) : Int) := by rw [add64 (by omega) (by omega)]; push_cast; rfl
        have c0 : (cmpLit .gtr (lenI s) 0) = true := decide_eq_true (by show (s.length : Int) > 0; omega)
        have c1 : ¬ (cmpLit .lss (lenI s) 14) = true := fun h => by
            have h' : (s.length : Int) < 14 := of_decide_eq_true h
            omega
        have c2 : Bnd 12 14 (lenI s) := by unfold Bnd lenI; omega
        by_cases hlk : s.length < 14 + k
        · right
          have hr : rec1 s = none := by
            unfold rec1
            rw [if_neg h14]
            simp only [hk]
            rw [if_neg (fun h => by have := h.1; omega)]
          unfold d21_b1
          rw [if_pos c0, if_neg c1, if_pos c2, t12]
          simp only [Option.bind_some]
          have k3 : (cmpLit .lss (lenI s) ((14 + k : Nat) : Int)) = true := decide_eq_true (by show (s.length : Int) < ((14 + k : Nat) : Int); omega)
          rw [a14, if_pos k3, recs_none hne hr]
          rfl
        · have c3 : ¬ (cmpLit .lss (lenI s) ((14 + k : Nat) : Int)) = true := fun h => by
            have h' : (s.length : Int) < ((14 + k : Nat) : Int) := of_decide_eq_true h
            omega
          have c4 : Bnd 14 ((14 + k : Nat) : Int) (lenI s) := by unfold Bnd lenI; omega
          have qd : subL s 14 ((14 + k : Nat) : Int) = (s.drop 14).take k := by
            show (s.take (Int.toNat ((14 + k : Nat) : Int))).drop 14 = _
            rw [Int.toNat_natCast, List.drop_take, Nat.add_sub_cancel_left]
          have qr : subL s ((14 + k : Nat) : Int) (lenI s) = s.drop (14 + k) := by
            unfold subL lenI
            rw [Int.toNat_natCast, Int.toNat_natCast, List.take_length]
          have c5 : Room (lenI ((s.drop 14).take k)) 1 := room1 (by simp; omega)
          have c6 : Bnd 0 4 (lenI s) := by unfold Bnd lenI; omega
          have c7 : Bnd 4 12 (lenI s) := by unfold Bnd lenI; omega
          have t4 : d52 (subL s 0 4) = some (numN (s.take 4) : Int) := by rw [q4, s52 _ b4 (by simp; omega), w64_small (by omega) (by omega)]
          have t8 : d52 (subL s 4 12) = some (w64 (numN ((s.drop 4).take 8))) := by rw [q8, s52 _ b8 (by simp; omega)]
          have hd : ((s.drop 14).take k).length = k := by simp; omega
          by_cases hv : validB (numN (s.take 4) : Int) (w64 (numN ((s.drop 4).take 8))) ((s.drop 14).take k) = true
          · left
            have hv' := of_decide_eq_true hv
            rw [hd] at hv'
            have hr : rec1 s = some ((numN (s.take 4) : Int), w64 (numN ((s.drop 4).take 8)), k) := by
              unfold rec1
              rw [if_neg (by omega)]
              simp only [hk]
              rw [if_pos ⟨by omega, hv'.1, hv'.2.1, hv'.2.2.1, hv'.2.2.2.1, by omega⟩]
            refine ⟨(s.drop (14 + k), appL o [recV (numN (s.take 4) : Int) (w64 (numN ((s.drop 4).take 8))) ((s.drop 14).take k)]), ?_, ⟨fun v hv => hs v (List.mem_of_mem_drop hv), by simp [appL]; omega⟩, by simp; omega, ?_⟩
            · unfold d21_b1
              rw [if_pos c0, if_neg c1, if_pos c2, t12]
              simp only [Option.bind_some]
              rw [a14, if_neg c3, if_pos c4, qd, if_pos c5, if_pos c6, t4]
              simp only [Option.bind_some]
              rw [if_pos c7, t8]
              simp only [Option.bind_some]
              rw [s53, hv]
              simp only [Option.bind_some]
              rw [if_neg (by decide)]
              have c8 : Room (lenI (appL o [.agg [.i .i64 (numN (s.take 4) : Int), .i .i64 (w64 (numN ((s.drop 4).take 8))), .sl 5 ((s.drop 14).take k)]])) 40 := room40 (by simp [appL]; omega)
              rw [if_pos c8, if_pos (by unfold Bnd lenI; omega), qr]
              rfl
            · simp only
              rw [recs_some hr]
              simp [appL]
          · right
            have hr : rec1 s = none := by
              unfold rec1
              rw [if_neg (by omega)]
              simp only [hk]
              rw [if_neg (fun h => hv (decide_eq_true ⟨h.2.1, h.2.2.1, h.2.2.2.1, h.2.2.2.2.1, by rw [hd]; omega⟩))]
            unfold d21_b1
            rw [if_pos c0, if_neg c1, if_pos c2, t12]
            simp only [Option.bind_some]
            rw [a14, if_neg c3, if_pos c4, qd, if_pos c5, if_pos c6, t4]
            simp only [Option.bind_some]
            rw [if_pos c7, t8]
            simp only [Option.bind_some]
            rw [s53]
            simp only [Option.bind_some]
            rw [if_pos (by simp [notB', hv]), recs_none hne hr]
            rfl
  rw [hI]
  cases h : (recs l).2 <;> rfl
end Go.Proofs.Ytdejapkfijdadaa
end
section
namespace Go.Proofs.Ytdejapkfijdadaa
open Go.Ab Go.RowKit

theorem c_eql (a b : Int) : cmpLit .eql a b = decide (a = b) := by
  show (a == b) = _
  by_cases h : a = b <;> simp [h]
theorem c_neq (a b : Int) : cmpLit .neq a b = decide (a ≠ b) := by
  show (a != b) = _
  by_cases h : a = b <;> simp [h]
theorem c_lss (a b : Int) : cmpLit .lss a b = decide (a < b) := rfl
theorem c_leq (a b : Int) : cmpLit .leq a b = decide (a ≤ b) := rfl
theorem c_gtr (a b : Int) : cmpLit .gtr a b = decide (a > b) := rfl
theorem c_geq (a b : Int) : cmpLit .geq a b = decide (a ≥ b) := rfl
theorem notB_dec (p : Prop) [i : Decidable p] : notB' (decide p) = decide (¬ p) := by
  unfold notB'
  by_cases h : p <;> simp [h]
theorem bnd1 {α β : Type} {x : Option α} {a : α} {f : α → Option β} {r : Option β} (h : x = some a) (h2 : f a = r) : x.bind f = r := by
  rw [h]; exact h2
theorem dT {p : Prop} {i : Decidable p} (h : p) : @decide p i = true := decide_eq_true h
theorem dF {p : Prop} {i : Decidable p} (h : ¬ p) : @decide p i = false := decide_eq_false h
theorem dC {p q : Prop} {i : Decidable p} {j : Decidable q} (h : p ↔ q) : @decide p i = @decide q j := decide_eq_decide.2 h
theorem len3 (a b c : V) : lenI [a, b, c] = 3 := rfl
theorem dif1 {α : Type} {p : Prop} [Decidable p] {x y r : α} (h : p) (h2 : x = r) : (if p then x else y) = r := by rw [if_pos h]; exact h2
theorem dif0 {α : Type} {p : Prop} [Decidable p] {x y r : α} (h : ¬ p) (h2 : y = r) : (if p then x else y) = r := by rw [if_neg h]; exact h2

abbrev z8 : V := .i .u8 0
/-- So many bytes 0. -/
def zs (n : Nat) : List V := List.replicate n z8
theorem zs_len (n : Nat) : (zs n).length = n := by simp [zs]
theorem zs_u8 (n : Nat) : ∀ v ∈ zs n, U8 v := by
  intro v hv
  rw [List.eq_of_mem_replicate hv]
  exact ⟨0, rfl, by omega, by omega⟩
theorem repL_nat (n : Nat) : repL (n : Int) (.i .u8 0) = zs n := by
  unfold repL zs
  rw [Int.toNat_natCast]
theorem zs_add (m n : Nat) : zs m ++ zs n = zs (m + n) := by
  unfold zs
  rw [List.replicate_append_replicate]
def allz (l : List V) : Prop := ∀ v ∈ l, v = z8
theorem allz_zs (n : Nat) : allz (zs n) := fun v hv => List.eq_of_mem_replicate hv
theorem allz_eq {l : List V} (h : allz l) : l = zs l.length := List.eq_replicate_iff.2 ⟨rfl, h⟩
theorem allz_app {a b : List V} : allz (a ++ b) ↔ allz a ∧ allz b := by
  unfold allz
  constructor
  · intro h
    exact ⟨fun v hv => h v (List.mem_append_left _ hv), fun v hv => h v (List.mem_append_right _ hv)⟩
  · intro h v hv
    rcases List.mem_append.1 hv with hv | hv
    · exact h.1 v hv
    · exact h.2 v hv
theorem ovl_nat (es xs : List V) (k : Nat) (h : k + xs.length ≤ es.length) : ovlReal es (k : Int) xs = es.take k ++ xs ++ es.drop (k + xs.length) := by
  unfold ovlReal
  rw [Int.toNat_natCast, List.take_of_length_le (l := xs) (by omega)]
theorem subL_nat (l : List V) (a b : Nat) : subL l (a : Int) (b : Int) = (l.take b).drop a := by
  unfold subL
  rw [Int.toNat_natCast, Int.toNat_natCast]
theorem subL_u8 {l : List V} (h : ∀ v ∈ l, U8 v) (a b : Int) : ∀ v ∈ subL l a b, U8 v := fun v hv => h v (List.mem_of_mem_take (List.mem_of_mem_drop hv))
theorem subL_len (l : List V) (a b : Int) : (subL l a b).length ≤ l.length := by
  unfold subL
  simp
  omega
theorem gI_at8 (l : List V) (i : Nat) (h : i < l.length) (hb : ∀ v ∈ l, U8 v) : gI l (i : Int) 0 = Ab.asInt l[i] := gI_at l i h (fun v hv => (hb v hv).byte)
theorem u8_zero {v : V} (h : U8 v) : Ab.asInt v = 0 ↔ v = z8 := by
  obtain ⟨n, rfl, _⟩ := h
  constructor
  · intro e
    have : n = 0 := e
    rw [this]
  · intro e; rw [e]; rfl
theorem i64add {a b : Int} (h : -9223372036854775808 ≤ a + b) (h2 : a + b ≤ 9223372036854775807) : arReal .add .i64 a b = a + b := w64_small h h2
theorem i64sub {a b : Int} (h : -9223372036854775808 ≤ a - b) (h2 : a - b ≤ 9223372036854775807) : arReal .sub .i64 a b = a - b := w64_small h h2
open Classical in
/-- zero: all bytes are 0. -/
theorem s58 (l : List V) (hb : ∀ v ∈ l, U8 v) (hl : l.length ≤ 1000000000000) : d58 l = some (decide (allz l)) := by
  have hI : iter (d80f74_b1 l) 0 = some (if allz l then (.inr () : Int ⊕ Unit) else .inl ((l.findIdx (fun v => decide (v ≠ z8)) : Nat) : Int)) := by
    refine iter_fun (fun s => ∃ i : Nat, i ≤ l.length ∧ s = (i : Int) ∧ allz (l.take i)) (fun s => (l.length - s).toNat) (fun _ => _) ?_ _ ⟨0, by omega, rfl, by simp [allz]⟩
    rintro s ⟨i, hi, rfl, hz⟩
    by_cases hlt : i < l.length
    · have hv := gI_at8 l i hlt hb
      have c0 : cmpLit .lss (i : Int) (lenI l) = true := by rw [c_lss]; unfold lenI; simp; omega
      have c1 : Inb (i : Int) (lenI l) := by unfold Inb lenI; omega
      by_cases hz0 : l[i] = z8
      · left
        refine ⟨((i + 1 : Nat) : Int), ?_, ⟨i + 1, by omega, rfl, ?_⟩, by simp; omega, rfl⟩
        · unfold d80f74_b1 d74
          rw [if_pos c0, if_pos c1, hv, hz0]
          simp only [Option.bind_some]
          rw [if_neg (by decide), i64add (by omega) (by omega)]
          push_cast; rfl
        · rw [List.take_succ_eq_append_getElem hlt]
          exact allz_app.2 ⟨hz, fun v hv => by rw [List.mem_singleton.1 hv, hz0]⟩
      · right
        unfold d80f74_b1 d74
        rw [if_pos c0, if_pos c1, hv]
        have hne : Ab.asInt l[i] ≠ 0 := fun e => hz0 ((u8_zero (hb _ (List.getElem_mem hlt))).1 e)
        simp only [Option.bind_some]
        rw [if_pos (by rw [c_neq]; simp [hne]), if_neg (fun h => hz0 (h _ (List.getElem_mem hlt)))]
        have : l.findIdx (fun v => decide (v ≠ z8)) = i := by
          rw [List.findIdx_eq hlt]
          refine ⟨by simp [hz0], fun j hj => ?_⟩
          have := hz (l[j]) (by rw [List.mem_take_iff_getElem]; exact ⟨j, by omega, rfl⟩)
          simp [this]
        rw [this]
    · right
      obtain rfl : i = l.length := by omega
      rw [List.take_length] at hz
      unfold d80f74_b1
      rw [if_neg (by rw [c_lss]; simp [lenI]), if_pos hz]
  unfold d58 d73f74 d80f74
  rw [hI]
  by_cases h : allz l
  · rw [if_pos h, decide_eq_true h]; rfl
  · rw [if_neg h, decide_eq_false h]
    simp only [Option.bind_some, c_geq]
    rw [decide_eq_true (by omega)]; rfl
/-- What is read of bytes. -/
theorem s51 (l : List V) (hb : ∀ v ∈ l, U8 v) (hl : l.length ≤ 1099511627776) : d51 l = some (recs l) := by
  unfold d51
  rw [if_pos ⟨fun v hv => (hb v hv).byte, hl⟩]
end Go.Proofs.Ytdejapkfijdadaa
end
section
namespace Go.Proofs.Ytdejapkfijdadaa
open Go.Ab Go.RowKit

/-- The places of a buffer are right. -/
def plP (p : Int) (b : List V) (s e w : Int) : Prop := 0 ≤ s ∧ s ≤ (b.length : Int) ∧ 0 ≤ e ∧ e ≤ (b.length : Int) ∧ 0 ≤ w ∧ w ≤ (b.length : Int) ∧ (p ≠ 3 → s = 0) ∧ (w ≠ 0 → p = 3 ∧ s < w ∧ e ≤ s) ∧ (w = 0 → s < e ∨ (s = 0 ∧ e = 0))
/-- The numbers of a buffer are right. -/
def numP (p : Int) (b : List V) (s e w dr : Int) (il : List V) (idr : Int) (rd : Bool) : Prop := (1 ≤ p ∧ p ≤ 3 ∧ 64 ≤ (b.length : Int) ∧ (b.length : Int) ≤ 4096) ∧ plP p b s e w ∧ (0 ≤ dr ∧ dr ≤ 1099511627776 ∧ 0 ≤ idr ∧ idr ≤ 1099511627776 ∧ (il.length : Int) ≤ (b.length : Int)) ∧ (rd = true → p = 2) ∧ (rd = false → (il.length : Int) ≤ 0 ∧ idr = 0)
/-- What is not written is 0. -/
def zerP (b : List V) (s e w : Nat) : Prop := if w = 0 then allz (b.take s) ∧ allz (b.drop e) else allz ((b.take s).drop e) ∧ allz (b.drop w)
/-- A buffer is valid. -/
def chkP (p : Int) (b : List V) (s e w dr : Int) (il : List V) (idr : Int) (rd : Bool) : Prop := numP p b s e w dr il idr rd ∧ (recs (subL b s (if w = 0 then e else w))).2 = true ∧ (recs (if w = 0 then [] else subL b 0 e)).2 = true ∧ (recs il).2 = true ∧ zerP b s.toNat e.toNat w.toNat

open Classical in
theorem s57 (p : Int) (b : List V) (s e w dr : Int) (il : List V) (idr : Int) (rd : Bool) : d57 p b s e w dr il idr rd = some (decide (plP p b s e w)) := by
  unfold d57
  refine bnd1 (a := decide (¬ (0 ≤ s ∧ s ≤ (b.length : Int) ∧ 0 ≤ e ∧ e ≤ (b.length : Int) ∧ 0 ≤ w ∧ w ≤ (b.length : Int) ∧ (p ≠ 3 → s = 0)))) ?_ ?_
  · simp only [c_eql, c_neq, c_lss, c_leq, c_gtr, c_geq, lenI, decide_eq_true_eq]
    repeat' split
    all_goals (refine congrArg some ?_; symm; first | (exact dT (by omega)) | (exact dC (by omega)) | (exact dF (by omega)))
  · unfold plP
    simp only [c_eql, c_neq, c_lss, c_leq, c_gtr, c_geq, lenI, decide_eq_true_eq]
    repeat' split
    all_goals (refine congrArg some ?_; symm; first | (exact dT (by omega)) | (exact dC (by omega)) | (exact dF (by omega)))
theorem s29l (il : List V) (x : List V × List V) (r1 r2 r3 : List V × Bool) (h1 : d51 x.1 = some r1) (h2 : d51 x.2 = some r2) (h3 : d51 il = some r3) : iter (d29_b1 il x) 0 = some (if r1.2 = true ∧ r2.2 = true ∧ r3.2 = true then (.inr () : Int ⊕ Unit) else .inl 220) := by
  have q1 : d51 (gL [.sl 5 x.1, .sl 5 x.2, .sl 5 il] 0 0) = some r1 := h1
  have q2 : d51 (gL [.sl 5 x.1, .sl 5 x.2, .sl 5 il] 1 0) = some r2 := h2
  have q3 : d51 (gL [.sl 5 x.1, .sl 5 x.2, .sl 5 il] 2 0) = some r3 := h3
  have e0 : d29_b1 il x 0 = if r1.2 = true then some (.inl 1) else some (.inr (.inl 220)) := by
    unfold d29_b1
    rw [len3, if_pos (by decide), if_pos (by unfold Inb; omega), q1]
    simp only [Option.bind_some]
    cases r1.2 <;> rfl
  have e1 : d29_b1 il x 1 = if r2.2 = true then some (.inl 2) else some (.inr (.inl 220)) := by
    unfold d29_b1
    rw [len3, if_pos (by decide), if_pos (by unfold Inb; omega), q2]
    simp only [Option.bind_some]
    cases r2.2 <;> rfl
  have e2 : d29_b1 il x 2 = if r3.2 = true then some (.inl 3) else some (.inr (.inl 220)) := by
    unfold d29_b1
    rw [len3, if_pos (by decide), if_pos (by unfold Inb; omega), q3]
    simp only [Option.bind_some]
    cases r3.2 <;> rfl
  have e3 : d29_b1 il x 3 = some (.inr (.inr ())) := by
    unfold d29_b1
    rw [len3, if_neg (by decide)]
  by_cases a1 : r1.2 = true
  · rw [if_pos a1] at e0
    rw [iter_inl e0]
    by_cases a2 : r2.2 = true
    · rw [if_pos a2] at e1
      rw [iter_inl e1]
      by_cases a3 : r3.2 = true
      · rw [if_pos a3] at e2
        rw [iter_inl e2, iter_inr e3, if_pos ⟨a1, a2, a3⟩]
      · rw [if_neg a3] at e2
        rw [iter_inr e2, if_neg (fun h => a3 h.2.2)]
    · rw [if_neg a2] at e1
      rw [iter_inr e1, if_neg (fun h => a2 h.2.1)]
  · rw [if_neg a1] at e0
    rw [iter_inr e0, if_neg (fun h => a1 h.1)]
theorem s55 (p : Int) (b : List V) (s e w dr : Int) (il : List V) (idr : Int) (rd : Bool) (h : plP p b s e w) : d55v1 p b s e w dr il idr rd = some (subL b s (if w = 0 then e else w), if w = 0 then [] else subL b 0 e) := by
  unfold plP at h
  unfold d55v1
  by_cases hw : w = 0
  · rw [if_pos (by rw [c_eql]; exact decide_eq_true hw), if_pos (by unfold Bnd; omega), if_pos (by unfold Bnd lenI; omega), if_pos hw, if_pos hw]
  · rw [if_neg (by rw [c_eql]; simp [hw]), if_pos (by unfold Bnd; omega), if_pos (by unfold Bnd lenI; omega), if_pos (by unfold Bnd; omega), if_pos (by unfold Bnd lenI; omega), if_neg hw, if_neg hw]
/-- The bytes of a buffer, what is written cleared. -/
theorem clr (b : List V) (s e w : Nat) (hb : ∀ v ∈ b, U8 v) (hs : s ≤ b.length) (he : e ≤ b.length) (hw : w ≤ b.length) (h1 : w ≠ 0 → s < w ∧ e ≤ s) (h0 : w = 0 → s ≤ e) :
    ∃ c : List V, (if w = 0 then c = ovlReal b (s : Int) (zs (e - s)) else c = ovlReal (ovlReal b (s : Int) (zs (w - s))) 0 (zs e)) ∧ c.length = b.length ∧ (∀ v ∈ c, U8 v) ∧ (allz c ↔ zerP b s e w) := by
  by_cases hw0 : w = 0
  · have := h0 hw0
    refine ⟨_, by rw [if_pos hw0], ?_, ?_, ?_⟩
    all_goals rw [ovl_nat _ _ _ (by rw [zs_len]; omega), zs_len, show s + (e - s) = e by omega]
    · simp [zs_len]; omega
    · intro v hv
      rcases List.mem_append.1 hv with hv | hv
      · rcases List.mem_append.1 hv with hv | hv
        · exact hb v (List.mem_of_mem_take hv)
        · exact zs_u8 _ v hv
      · exact hb v (List.mem_of_mem_drop hv)
    · rw [allz_app, allz_app, zerP, if_pos hw0]
      exact ⟨fun h => ⟨h.1.1, h.2⟩, fun h => ⟨⟨h.1, allz_zs _⟩, h.2⟩⟩
  · obtain ⟨g1, g2⟩ := h1 hw0
    refine ⟨_, by rw [if_neg hw0], ?_, ?_, ?_⟩
    all_goals rw [ovl_nat _ _ _ (by rw [zs_len]; omega), zs_len, show s + (w - s) = w by omega, show (0 : Int) = ((0 : Nat) : Int) from rfl, ovl_nat _ _ _ (by simp [zs_len]; omega), zs_len, List.take_zero, List.nil_append, Nat.zero_add]
    all_goals rw [List.append_assoc, List.drop_append_of_le_length (by simp; omega)]
    · simp [zs_len]; omega
    · intro v hv
      rcases List.mem_append.1 hv with hv | hv
      · exact zs_u8 _ v hv
      · rcases List.mem_append.1 hv with hv | hv
        · exact hb v (List.mem_of_mem_take (List.mem_of_mem_drop hv))
        · rcases List.mem_append.1 hv with hv | hv
          · exact zs_u8 _ v hv
          · exact hb v (List.mem_of_mem_drop hv)
    · rw [allz_app, allz_app, allz_app, zerP, if_neg hw0]
      exact ⟨fun h => ⟨h.2.1, h.2.2.2⟩, fun h => ⟨allz_zs _, h.1, allz_zs _, h.2⟩⟩
open Classical in
theorem s29 (p : Int) (b : List V) (s e w dr : Int) (il : List V) (idr : Int) (rd : Bool) (hb : ∀ v ∈ b, U8 v) (hi : ∀ v ∈ il, U8 v) : d29 p b s e w dr il idr rd = some (if chkP p b s e w dr il idr rd then 0 else 220) := by
  unfold d29
  refine bnd1 (a := decide (¬ ((1 ≤ p ∧ p ≤ 3 ∧ 64 ≤ (b.length : Int) ∧ (b.length : Int) ≤ 4096) ∧ plP p b s e w))) ?_ ?_
  · rw [s57]
    unfold plP
    simp only [Option.bind_some, notB_dec, c_eql, c_neq, c_lss, c_leq, c_gtr, c_geq, lenI, decide_eq_true_eq]
    repeat' split
    all_goals (refine congrArg some ?_; symm; first | (exact dT (by omega)) | (exact dC (by omega)) | (exact dF (by omega)))
  by_cases n1 : (1 ≤ p ∧ p ≤ 3 ∧ 64 ≤ (b.length : Int) ∧ (b.length : Int) ≤ 4096) ∧ plP p b s e w
  rotate_left
  · rw [dT n1, if_pos rfl, if_neg (fun h => n1 ⟨h.1.1, h.1.2.1⟩)]
  refine dif0 (by rw [dF (fun h => h n1)]; decide) ?_
  refine bnd1 (a := decide (¬ (0 ≤ dr ∧ dr ≤ 1099511627776 ∧ 0 ≤ idr ∧ idr ≤ 1099511627776 ∧ (il.length : Int) ≤ (b.length : Int)))) ?_ ?_
  · simp only [c_eql, c_neq, c_lss, c_leq, c_gtr, c_geq, lenI, decide_eq_true_eq]
    repeat' split
    all_goals (refine congrArg some ?_; symm; first | (exact dT (by omega)) | (exact dC (by omega)) | (exact dF (by omega)))
  by_cases n2 : 0 ≤ dr ∧ dr ≤ 1099511627776 ∧ 0 ≤ idr ∧ idr ≤ 1099511627776 ∧ (il.length : Int) ≤ (b.length : Int)
  rotate_left
  · rw [dT n2, if_pos rfl, if_neg (fun h => n2 h.1.2.2.1)]
  refine dif0 (by rw [dF (fun h => h n2)]; decide) ?_
  refine bnd1 (a := decide (¬ ((rd = true → p = 2) ∧ (rd = false → (il.length : Int) ≤ 0 ∧ idr = 0)))) ?_ ?_
  · cases rd
    · refine dif0 Bool.false_ne_true (dif1 (by decide) ?_)
      rw [c_gtr, c_neq]
      by_cases hl : lenI il > 0
      · exact dif1 (dT hl) (congrArg some (dT (fun h => by have := (h.2 rfl).1; unfold lenI at hl; omega)).symm)
      · exact dif0 (by rw [dF hl]; decide) (congrArg some (dC ⟨fun h h2 => h (h2.2 rfl).2, fun h hi => h ⟨fun hh => (by cases hh), fun _ => ⟨by unfold lenI at hl; omega, hi⟩⟩⟩))
    · refine dif1 rfl ?_
      by_cases hp : p = 2
      · exact dif0 (by simp [c_neq, hp]) (dif0 (by decide) (congrArg some (dF (fun h => h ⟨fun _ => hp, fun hh => (by cases hh)⟩)).symm))
      · exact dif1 (by simp [c_neq, hp]) (congrArg some (dT (fun h => hp (h.1 rfl))).symm)
  by_cases n3 : (rd = true → p = 2) ∧ (rd = false → (il.length : Int) ≤ 0 ∧ idr = 0)
  rotate_left
  · rw [dT n3, if_pos rfl, if_neg (fun h => n3 h.1.2.2.2)]
  refine dif0 (by rw [dF (fun h => h n3)]; decide) ?_
  have hn : numP p b s e w dr il idr rd := ⟨n1.1, n1.2, n2, n3⟩
  obtain ⟨n0, hpl⟩ := n1
  have hpl' := hpl
  unfold plP at hpl'
  obtain ⟨S, rfl⟩ : ∃ n : Nat, s = n := ⟨s.toNat, by omega⟩
  obtain ⟨E, rfl⟩ : ∃ n : Nat, e = n := ⟨e.toNat, by omega⟩
  obtain ⟨W, rfl⟩ : ∃ n : Nat, w = n := ⟨w.toNat, by omega⟩
  rw [s54 b (by omega), Option.bind_some]
  obtain ⟨c, hc, cl, cu, cz⟩ := clr b S E W hb (by omega) (by omega) (by omega) (fun h => by omega) (fun h => by omega)
  refine bnd1 (a := c) ?_ ?_
  · by_cases hw : W = 0
    · rw [if_pos hw] at hc
      rw [if_pos (by rw [c_eql]; exact dT (by omega)), if_pos (by unfold Bnd lenI; omega), hc]
      unfold miI
      rw [show ((E : Int) - (S : Int)) = ((E - S : Nat) : Int) by omega, repL_nat]
    · rw [if_neg hw] at hc
      have l1 : lenI (ovlReal b (S : Int) (zs (W - S))) = (b.length : Int) := by
        rw [ovl_nat _ _ _ (by rw [zs_len]; omega)]
        unfold lenI
        simp [zs_len]; omega
      rw [if_neg (by rw [c_eql]; simp; omega)]
      unfold miI
      rw [show ((W : Int) - (S : Int)) = ((W - S : Nat) : Int) by omega, repL_nat, l1, if_pos (by unfold Bnd lenI; omega), if_pos (by unfold Bnd; omega), hc, Int.sub_zero, repL_nat]
  rw [s55 _ _ _ _ _ _ _ _ _ hpl, Option.bind_some]
  have hp1 : ∀ v ∈ subL b (S : Int) (if (W : Int) = 0 then (E : Int) else (W : Int)), U8 v := subL_u8 hb _ _
  have hp2 : ∀ v ∈ (if (W : Int) = 0 then [] else subL b 0 (E : Int)), U8 v := by
    split
    · intro v hv; cases hv
    · exact subL_u8 hb _ _
  have lp1 := subL_len b (S : Int) (if (W : Int) = 0 then (E : Int) else (W : Int))
  have lp2 : (if (W : Int) = 0 then [] else subL b 0 (E : Int)).length ≤ b.length := by
    split
    · simp
    · exact subL_len _ _ _
  have q1 := s51 _ hp1 (by omega)
  have q2 := s51 _ hp2 (by omega)
  have q := s29l il (subL b (S : Int) (if (W : Int) = 0 then (E : Int) else (W : Int)), if (W : Int) = 0 then [] else subL b 0 (E : Int)) _ _ _ q1 q2 (s51 _ hi (by omega))
  rw [q]
  simp only [Option.bind_some]
  by_cases hr : (recs (subL b (S : Int) (if (W : Int) = 0 then (E : Int) else (W : Int)))).2 = true ∧ (recs (if (W : Int) = 0 then [] else subL b 0 (E : Int))).2 = true ∧ (recs il).2 = true
  · rw [if_pos hr]
    simp only [Option.bind_some]
    rw [s58 c cu (by omega)]
    simp only [Option.bind_some, notB_dec, decide_eq_true_eq]
    by_cases hz : allz c
    · rw [if_neg (by simp [hz]), if_pos ⟨hn, hr.1, hr.2.1, hr.2.2, by rw [Int.toNat_natCast, Int.toNat_natCast, Int.toNat_natCast]; exact cz.1 hz⟩]
    · rw [if_pos hz, if_neg (fun h => hz (cz.2 (by have := h.2.2.2.2; rwa [Int.toNat_natCast, Int.toNat_natCast, Int.toNat_natCast] at this)))]
  · rw [if_neg hr]
    simp only [Option.bind_some]
    rw [if_neg (fun h => hr ⟨h.2.1, h.2.2.1, h.2.2.2.1⟩)]
end Go.Proofs.Ytdejapkfijdadaa
end
section
namespace Go.Proofs.Ytdejapkfijdadaa
open Go.Ab Go.RowKit

/-- Index i is neither in the first nor in the second part. -/
def freeP (s e w : Nat) (i : Nat) : Prop := ¬ ((s ≤ i ∧ i < (if w = 0 then e else w)) ∨ (w ≠ 0 ∧ i < e))
theorem zerP_iff (b : List V) (s e w : Nat) (hs : s ≤ b.length) (he : e ≤ b.length) (hw : w ≤ b.length) (h1 : w ≠ 0 → s < w ∧ e ≤ s) (h0 : w = 0 → s ≤ e) : zerP b s e w ↔ ∀ i (h : i < b.length), freeP s e w i → b[i] = z8 := by
  unfold zerP freeP
  by_cases h : w = 0
  · have := h0 h
    simp only [h, if_true]
    constructor
    · rintro ⟨a1, a2⟩ i hi hf
      rcases Nat.lt_or_ge i s with hlt | hge
      · exact a1 _ (List.mem_take_iff_getElem.2 ⟨i, by omega, rfl⟩)
      · exact a2 _ (List.mem_drop_iff_getElem.2 ⟨i - e, by omega, by congr 1; omega⟩)
    · intro a
      constructor
      · intro v hv
        obtain ⟨i, hi, rfl⟩ := List.mem_take_iff_getElem.1 hv
        exact a i (by omega) (by omega)
      · intro v hv
        obtain ⟨i, hi, rfl⟩ := List.mem_drop_iff_getElem.1 hv
        exact a _ (by omega) (by omega)
  · obtain ⟨g1, g2⟩ := h1 h
    simp only [h, if_false]
    constructor
    · rintro ⟨a1, a2⟩ i hi hf
      rcases Nat.lt_or_ge i s with hlt | hge
      · refine a1 _ (List.mem_drop_iff_getElem.2 ⟨i - e, by simp; omega, ?_⟩)
        rw [List.getElem_take]
        congr 1; simp at hf; omega
      · exact a2 _ (List.mem_drop_iff_getElem.2 ⟨i - w, by simp at hf; omega, by congr 1; simp at hf; omega⟩)
    · intro a
      constructor
      · intro v hv
        obtain ⟨i, hi, rfl⟩ := List.mem_drop_iff_getElem.1 hv
        rw [List.getElem_take]
        exact a _ (by simp at hi; omega) (by simp at hi; simp; omega)
      · intro v hv
        obtain ⟨i, hi, rfl⟩ := List.mem_drop_iff_getElem.1 hv
        exact a _ (by omega) (by simp; omega)
theorem nbt (p : Prop) {i : Decidable p} : (notB' (@decide p i) = true) = (¬ p) := by
  rw [notB_dec]
  simp
theorem s77 (a b : Int) : d77 a b = some (decide (0 ≤ a ∧ a ≤ b)) := by
  unfold d77
  simp only [c_eql, c_neq, c_lss, c_leq, c_gtr, c_geq, lenI, decide_eq_true_eq]
  split <;> (refine congrArg some ?_; symm; first | (exact dC (by omega)) | (exact dF (by omega)))
open Classical in
theorem s65 (p : Int) (b : List V) (s e w dr : Int) (il : List V) (idr : Int) (rd : Bool) : d65 p b s e w dr il idr rd = some (decide ((1 ≤ p ∧ p ≤ 3 ∧ 64 ≤ (b.length : Int) ∧ (b.length : Int) ≤ 4096) ∧ plP p b s e w ∧ 0 ≤ dr ∧ dr ≤ 1099511627776 ∧ 0 ≤ idr ∧ idr ≤ 1099511627776)) := by
  unfold d65 plP
  simp only [s77, Option.bind_some, nbt]
  refine bnd1 (a := decide (¬ ((1 ≤ p ∧ p ≤ 3 ∧ 64 ≤ (b.length : Int) ∧ (b.length : Int) ≤ 4096) ∧ 0 ≤ s ∧ s ≤ (b.length : Int) ∧ 0 ≤ e ∧ e ≤ (b.length : Int) ∧ 0 ≤ w ∧ w ≤ (b.length : Int) ∧ 0 ≤ dr ∧ dr ≤ 1099511627776 ∧ 0 ≤ idr ∧ idr ≤ 1099511627776))) ?_ ?_
  · simp only [notB_dec, c_eql, c_neq, c_lss, c_leq, c_gtr, c_geq, lenI, decide_eq_true_eq]
    repeat' split
    all_goals (refine congrArg some ?_; symm; first | (exact dT (by omega)) | (exact dC (by omega)) | (exact dF (by omega)))
  simp only [decide_eq_true_eq]
  split
  · refine congrArg some ?_; symm; exact dF (by omega)
  refine bnd1 (a := decide (w = 0 ∧ (s > e ∨ (s = e ∧ s ≠ 0)))) ?_ ?_
  · simp only [notB_dec, c_eql, c_neq, c_lss, c_leq, c_gtr, c_geq, lenI, decide_eq_true_eq]
    repeat' split
    all_goals (refine congrArg some ?_; symm; first | (exact dT (by omega)) | (exact dC (by omega)) | (exact dF (by omega)))
  simp only [decide_eq_true_eq]
  split
  · refine congrArg some ?_; symm; exact dF (by omega)
  refine bnd1 (a := decide (w ≠ 0 ∧ (p ≠ 3 ∨ s ≥ w ∨ e > s))) ?_ ?_
  · simp only [notB_dec, c_eql, c_neq, c_lss, c_leq, c_gtr, c_geq, lenI, decide_eq_true_eq]
    repeat' split
    all_goals (refine congrArg some ?_; symm; first | (exact dT (by omega)) | (exact dC (by omega)) | (exact dF (by omega)))
  simp only [decide_eq_true_eq]
  split
  · refine congrArg some ?_; symm; exact dF (by omega)
  simp only [notB_dec, c_eql, c_neq, c_lss, c_leq, c_gtr, c_geq, lenI, decide_eq_true_eq]
  split
  all_goals (refine congrArg some ?_; symm; first | (exact dT (by omega)) | (exact dC (by omega)) | (exact dF (by omega)))
open Classical in
theorem s36l (b : List V) (s e w : Nat) (hb : ∀ v ∈ b, U8 v) (hl : b.length ≤ 4096) (h0 : w = 0 ∨ w ≠ 0) : iter (d36_b1 b (s : Int) (e : Int) (w : Int) (if (w : Int) = 0 then (e : Int) else (w : Int))) 0 = some (if ∀ i (h : i < b.length), freeP s e w i → b[i] = z8 then (.inr () : Int ⊕ Unit) else .inl 220) := by
  refine iter_fun (fun st => ∃ i : Nat, i ≤ b.length ∧ st = (i : Int) ∧ ∀ j (h : j < b.length), j < i → freeP s e w j → b[j] = z8) (fun st => (b.length - st).toNat) (fun _ => _) ?_ _ ⟨0, by omega, rfl, fun j _ h => by omega⟩
  rintro st ⟨i, hi, rfl, hz⟩
  by_cases hlt : i < b.length
  · have hv := gI_at8 b i hlt hb
    have c0 : cmpLit .lss (i : Int) (lenI b) = true := by rw [c_lss]; unfold lenI; simp; omega
    have c1 : Inb (i : Int) (lenI b) := by unfold Inb lenI; omega
    have e1 : d36_b1 b (s : Int) (e : Int) (w : Int) (if (w : Int) = 0 then (e : Int) else (w : Int)) (i : Int) = if freeP s e w i ∧ b[i] ≠ z8 then some (.inr (.inl 220)) else some (.inl ((i + 1 : Nat) : Int)) := by
      unfold d36_b1
      rw [if_pos c0]
      refine bnd1 (a := decide (¬ freeP s e w i)) ?_ ?_
      · unfold freeP
        simp only [notB_dec, c_eql, c_neq, c_lss, c_leq, c_gtr, c_geq, lenI, decide_eq_true_eq]
        by_cases hw : w = 0
        · subst hw
          simp only [Int.natCast_zero, if_true, ne_eq, not_true, false_and, or_false, not_not, if_false]
          repeat' split
          all_goals (refine congrArg some ?_; symm; first | (exact dT (by omega)) | (exact dC (by omega)) | (exact dF (by omega)))
        · have hw' : ¬ (w : Int) = 0 := by omega
          simp only [hw, hw', if_false, ne_eq, not_false_eq_true, true_and, if_true, not_not]
          repeat' split
          all_goals (refine congrArg some ?_; symm; first | (exact dT (by omega)) | (exact dC (by omega)) | (exact dF (by omega)))
      rw [notB_dec]
      have ea : arReal .add .i64 (i : Int) 1 = ((i + 1 : Nat) : Int) := by rw [i64add (by omega) (by omega)]; push_cast; rfl
      by_cases hf : freeP s e w i
      · rw [if_pos (by simp [hf]), if_pos c1, hv, c_neq]
        by_cases hv0 : b[i] = z8
        · rw [if_neg (by rw [hv0]; simp; rfl), if_neg (fun h => h.2 hv0), ea]
        · have : Ab.asInt b[i] ≠ 0 := fun h => hv0 ((u8_zero (hb _ (List.getElem_mem hlt))).1 h)
          rw [if_pos (by simp [this]), if_pos ⟨hf, hv0⟩]
      · rw [if_neg (by simp [hf]), if_neg (fun h => hf h.1), ea]
    by_cases hbad : freeP s e w i ∧ b[i] ≠ z8
    · right
      rw [e1, if_pos hbad, if_neg (fun h => hbad.2 (h i hlt hbad.1))]
    · left
      rw [if_neg hbad] at e1
      refine ⟨_, e1, ⟨i + 1, by omega, rfl, fun j hj hj2 hf => ?_⟩, by simp; omega, rfl⟩
      rcases Nat.lt_or_ge j i with h | h
      · exact hz j hj h hf
      · obtain rfl : j = i := by omega
        exact Classical.byContradiction fun hne => hbad ⟨hf, hne⟩
  · right
    unfold d36_b1
    rw [if_neg (by rw [c_lss]; unfold lenI; simp; omega), if_pos (fun j hj hf => hz j hj (by omega) hf)]
open Classical in
theorem s36 (p : Int) (b : List V) (s e w dr : Int) (il : List V) (idr : Int) (rd : Bool) (hb : ∀ v ∈ b, U8 v) (hi : ∀ v ∈ il, U8 v) : d36 p b s e w dr il idr rd = some (if chkP p b s e w dr il idr rd then 0 else 220) := by
  unfold d36
  rw [s65]
  refine bnd1 (a := decide (¬ (numP p b s e w dr il idr rd ∧ (recs il).2 = true))) ?_ ?_
  · simp only [Option.bind_some, notB_dec, decide_eq_true_eq]
    by_cases h1 : ((1 ≤ p ∧ p ≤ 3 ∧ 64 ≤ (b.length : Int) ∧ (b.length : Int) ≤ 4096) ∧ plP p b s e w ∧ 0 ≤ dr ∧ dr ≤ 1099511627776 ∧ 0 ≤ idr ∧ idr ≤ 1099511627776)
    · rw [if_neg (fun h => h h1), c_gtr]
      by_cases h2 : (il.length : Int) ≤ (b.length : Int)
      · rw [if_neg (by unfold lenI; simp; omega), s21 il (fun v hv => (hi v hv).byte) (by omega)]
        simp only [Option.bind_some]
        by_cases h3 : (recs il).2 = true
        · rw [if_pos h3, if_neg (by rw [c_neq]; simp)]
          have hiff : numP p b s e w dr il idr rd ↔ ((rd = true → p = 2) ∧ (rd = false → (il.length : Int) ≤ 0 ∧ idr = 0)) := ⟨fun h => h.2.2.2, fun h => ⟨h1.1, h1.2.1, ⟨h1.2.2.1, h1.2.2.2.1, h1.2.2.2.2.1, h1.2.2.2.2.2, h2⟩, h⟩⟩
          have hdec : decide (¬ (numP p b s e w dr il idr rd ∧ (recs il).2 = true)) = decide (¬ ((rd = true → p = 2) ∧ (rd = false → (il.length : Int) ≤ 0 ∧ idr = 0))) := dC (by rw [hiff]; simp [h3])
          rw [hdec]
          cases rd
          · refine dif1 (by decide) ?_
            rw [c_gtr, c_neq]
            by_cases hl : lenI il > 0
            · exact dif1 (dT hl) (congrArg some (dT (fun h => by have := (h.2 rfl).1; unfold lenI at hl; omega)).symm)
            · refine dif0 (by rw [dF hl]; decide) ?_
              by_cases hd : idr ≠ 0
              · exact dif1 (dT hd) (congrArg some (dT (fun h => hd (h.2 rfl).2)).symm)
              · exact dif0 (by rw [dF hd]; decide) (dif0 Bool.false_ne_true (congrArg some (dF (fun h => h ⟨fun hh => (by cases hh), fun _ => ⟨by unfold lenI at hl; omega, by omega⟩⟩)).symm))
          · refine dif0 (by decide) (dif1 rfl ?_)
            rw [c_neq]
            exact congrArg some (dC ⟨fun h h2 => h (h2.1 rfl), fun h hp => h ⟨fun _ => hp, fun hh => (by cases hh)⟩⟩)
        · rw [if_neg h3]
          simp only [c_neq]
          rw [if_pos (by decide)]
          refine congrArg some ?_; symm; exact dT (fun h => h3 h.2)
      · rw [if_pos (by unfold lenI; simp; omega)]
        refine congrArg some ?_; symm; exact dT (fun h => h2 h.1.2.2.1.2.2.2.2)
    · rw [if_pos h1]
      refine congrArg some ?_; symm; exact dT (fun h => h1 ⟨h.1.1, h.1.2.1, h.1.2.2.1.1, h.1.2.2.1.2.1, h.1.2.2.1.2.2.1, h.1.2.2.1.2.2.2.1⟩)
  by_cases hn : numP p b s e w dr il idr rd ∧ (recs il).2 = true
  rotate_left
  · rw [dT hn, if_pos rfl, if_neg (fun h => hn ⟨h.1, h.2.2.2.1⟩)]
  refine dif0 (by simp [hn]) ?_
  obtain ⟨hn, hr3⟩ := hn
  have hn' := hn
  obtain ⟨n0, hpl, n2, n3⟩ := hn'
  have hpl' := hpl
  unfold plP at hpl'
  obtain ⟨S, rfl⟩ : ∃ n : Nat, s = n := ⟨s.toNat, by omega⟩
  obtain ⟨E, rfl⟩ : ∃ n : Nat, e = n := ⟨e.toNat, by omega⟩
  obtain ⟨W, rfl⟩ : ∃ n : Nat, w = n := ⟨w.toNat, by omega⟩
  have hp1 : ∀ v ∈ subL b (S : Int) (if (W : Int) = 0 then (E : Int) else (W : Int)), U8 v := subL_u8 hb _ _
  have hp2 : ∀ v ∈ (if (W : Int) = 0 then [] else subL b 0 (E : Int)), U8 v := by
    split
    · intro v hv; cases hv
    · exact subL_u8 hb _ _
  have lp1 := subL_len b (S : Int) (if (W : Int) = 0 then (E : Int) else (W : Int))
  have lp2 : (if (W : Int) = 0 then [] else subL b 0 (E : Int)).length ≤ b.length := by
    split
    · simp
    · exact subL_len _ _ _
  by_cases hr2 : (recs (if (W : Int) = 0 then [] else subL b 0 (E : Int))).2 = true
  rotate_left
  · refine bnd1 (a := (.inr 220 : Int ⊕ Int)) ?_ ?_
    · by_cases hw : (W : Int) = 0
      · rw [if_pos hw, recs_nil] at hr2
        exact absurd rfl hr2
      · rw [if_neg hw] at hr2 hp2 lp2
        rw [if_pos (by rw [c_neq]; simp; omega), if_pos (by unfold Bnd lenI; omega), s21 _ (fun v hv => (hp2 v hv).byte) (by omega), if_neg hr2]
        rfl
    · show some 220 = _
      rw [if_neg (fun h => hr2 h.2.2.1)]
  refine bnd1 (a := (.inl (if (W : Int) = 0 then (E : Int) else (W : Int)) : Int ⊕ Int)) ?_ ?_
  · by_cases hw : (W : Int) = 0
    · rw [if_neg (by rw [c_neq]; simp; omega), if_pos hw]
    · rw [if_neg hw] at hr2 hp2 lp2
      rw [if_pos (by rw [c_neq]; simp; omega), if_pos (by unfold Bnd lenI; omega), s21 _ (fun v hv => (hp2 v hv).byte) (by omega), if_pos hr2, if_neg hw]
      rfl
  show (if _ then _ else none) = _
  rw [if_pos (by unfold Bnd lenI; split <;> omega), s21 _ (fun v hv => (hp1 v hv).byte) (by omega)]
  simp only [Option.bind_some]
  by_cases hr1 : (recs (subL b (S : Int) (if (W : Int) = 0 then (E : Int) else (W : Int)))).2 = true
  rotate_left
  · rw [if_neg hr1]
    simp only [c_neq]
    rw [if_pos (by decide), if_neg (fun h => hr1 h.2.1)]
  rw [if_pos hr1, if_neg (by rw [c_neq]; simp), s36l b S E W hb (by omega) (Decidable.em _)]
  have hz := zerP_iff b S E W (by omega) (by omega) (by omega) (fun h => by omega) (fun h => by omega)
  by_cases hz0 : zerP b S E W
  · rw [if_pos (hz.1 hz0), if_pos ⟨hn, hr1, hr2, hr3, by rwa [Int.toNat_natCast, Int.toNat_natCast, Int.toNat_natCast]⟩]
    rfl
  · rw [if_neg (fun h => hz0 (hz.2 h)), if_neg (fun h => hz0 (by have := h.2.2.2.2; rwa [Int.toNat_natCast, Int.toNat_natCast, Int.toNat_natCast] at this))]
    rfl
end Go.Proofs.Ytdejapkfijdadaa
end
section
namespace Go.Proofs.Ytdejapkfijdadaa
open Go.Ab Go.RowKit

/-- The size of a record. -/
def rsz (r : Rc) : Nat := 14 + r.2.2.length
def sz : List Rc → Nat
  | [] => 0
  | r :: l => rsz r + sz l
theorem encR1_len (r : Rc) : (encR1 r).length = rsz r := encB_len _ _ _
theorem encAll_len : ∀ l : List Rc, (encAll l).length = sz l
  | [] => rfl
  | r :: l => by simp [encAll, sz, encR1_len, encAll_len l]
theorem sz_app : ∀ a b : List Rc, sz (a ++ b) = sz a + sz b
  | [], b => by simp [sz]
  | r :: a, b => by simp [sz, sz_app a b]; omega
theorem sz_one (r : Rc) : sz [r] = rsz r := by simp [sz]
theorem sz_pos {l : List Rc} (h : l ≠ []) : 14 ≤ sz l := by
  cases l with
  | nil => exact absurd rfl h
  | cons r l => simp [sz, rsz]; omega
theorem okR_sz {r : Rc} (h : okR r) : rsz r ≤ 270 := by
  have := of_decide_eq_true h.1
  unfold rsz
  omega
theorem sz_count : ∀ l : List Rc, 14 * l.length ≤ sz l
  | [] => by simp [sz]
  | r :: l => by
    have := sz_count l
    simp only [sz, rsz, List.length_cons]; omega
/-- A buffer: policy, size, where A begins; A the first part, B the part at the beginning of a buffer that wraps. -/
structure AB where
  p : Int
  n : Nat
  s : Nat
  A : List Rc
  B : List Rc
  wr : Bool
  dr : Int
  I : List Rc
  idr : Int
  rd : Bool
namespace AB
def X (a : AB) : List V := encAll a.B ++ zs (a.s - sz a.B)
def Y (a : AB) : List V := a.X ++ (encAll a.A ++ zs (a.n - a.s - sz a.A))
def S (a : AB) : Int := (a.s : Int)
def e (a : AB) : Nat := if a.wr = true then sz a.B else a.s + sz a.A
def E (a : AB) : Int := (a.e : Int)
def w (a : AB) : Nat := if a.wr = true then a.s + sz a.A else 0
def W (a : AB) : Int := (a.w : Int)
def J (a : AB) : List V := encAll a.I
structure Good (a : AB) : Prop where
  p1 : 1 ≤ a.p ∧ a.p ≤ 3
  n1 : 64 ≤ a.n ∧ a.n ≤ 4096
  okA : ∀ r ∈ a.A, okR r
  okB : ∀ r ∈ a.B, okR r
  okI : ∀ r ∈ a.I, okR r
  dr1 : 0 ≤ a.dr ∧ a.dr ≤ 1099511627776
  id1 : 0 ≤ a.idr ∧ a.idr ≤ 1099511627776
  il : sz a.I ≤ a.n
  rdp : a.rd = true → a.p = 2
  nrd : a.rd = false → a.I = [] ∧ a.idr = 0
  fit : a.s + sz a.A ≤ a.n
  low : sz a.B ≤ a.s
  np : a.p ≠ 3 → a.s = 0 ∧ a.wr = false
  wrA : a.wr = true → a.A ≠ []
  nw : a.wr = false → a.B = [] ∧ (a.A = [] → a.s = 0)
variable {a : AB}
theorem X_len (h : a.Good) : a.X.length = a.s := by
  have := h.low
  unfold X
  simp [encAll_len, zs_len]; omega
theorem Y_len (h : a.Good) : a.Y.length = a.n := by
  have := h.fit
  unfold Y
  simp [X_len h, encAll_len, zs_len]; omega
theorem J_len (a : AB) : a.J.length = sz a.I := encAll_len _
theorem J_u8 (h : a.Good) : ∀ v ∈ a.J, U8 v := encAll_ok h.okI
theorem X_u8 (h : a.Good) : ∀ v ∈ a.X, U8 v := by
  intro v hv
  rcases List.mem_append.1 hv with hv | hv
  · exact encAll_ok h.okB v hv
  · exact zs_u8 _ v hv
theorem Y_u8 (h : a.Good) : ∀ v ∈ a.Y, U8 v := by
  intro v hv
  rcases List.mem_append.1 hv with hv | hv
  · exact X_u8 h v hv
  · rcases List.mem_append.1 hv with hv | hv
    · exact encAll_ok h.okA v hv
    · exact zs_u8 _ v hv
theorem w_zero (h : a.Good) : a.w = 0 ↔ a.wr = false := by
  unfold w
  cases hw : a.wr with
  | false => simp
  | true =>
    have := sz_pos (h.wrA hw)
    simp; omega
theorem part1 (h : a.Good) : subL a.Y a.S (if a.W = 0 then a.E else a.W) = encAll a.A := by
  have e1 : (if a.W = 0 then a.E else a.W) = ((a.s + sz a.A : Nat) : Int) := by
    unfold W E
    cases hw : a.wr with
    | false =>
      have h0 := (w_zero h).2 hw
      rw [h0]; simp [e, hw]
    | true =>
      have h0 : a.w ≠ 0 := fun h' => by have := (w_zero h).1 h'; rw [hw] at this; cases this
      rw [if_neg (by omega)]; simp [w, hw]
  rw [e1]
  unfold S
  rw [subL_nat]
  unfold Y
  have hx := X_len h
  rw [← List.append_assoc, List.take_left' (by rw [List.length_append, encAll_len, hx]), List.drop_left' hx]
theorem part2 (h : a.Good) : (if a.W = 0 then [] else subL a.Y 0 a.E) = encAll a.B := by
  unfold W E
  cases hw : a.wr with
  | false =>
    have h0 := (w_zero h).2 hw
    rw [if_pos (by omega), (h.nw hw).1]; rfl
  | true =>
    have h0 : a.w ≠ 0 := fun h' => by have := (w_zero h).1 h'; rw [hw] at this; cases this
    rw [if_neg (by omega), show (0 : Int) = ((0 : Nat) : Int) from rfl, subL_nat, List.drop_zero]
    unfold Y X e
    rw [if_pos hw, List.append_assoc, List.take_left' (encAll_len _)]
theorem pl (h : a.Good) : plP a.p a.Y a.S a.E a.W := by
  have h1 := Y_len h
  have h2 := h.fit; have h3 := h.low; have h4 := h.np; have h5 := h.n1; have h6 := h.nw; have h7 := h.wrA
  unfold plP S E W e w
  rw [h1]
  cases hw : a.wr with
  | false =>
    obtain ⟨_, g⟩ := h6 hw
    have g' : a.A ≠ [] → 14 ≤ sz a.A := sz_pos
    have g2 : a.A = [] → sz a.A = 0 := fun h => by rw [h]; rfl
    simp only [Bool.false_eq_true, if_false]
    refine ⟨by omega, by omega, by omega, by omega, by omega, by omega, fun hp => by have := (h4 hp).1; omega, fun hf => absurd rfl hf, fun _ => ?_⟩
    by_cases hA : a.A = []
    · right
      have := g hA; have := g2 hA
      omega
    · left
      have := g' hA
      omega
  | true =>
    have g' := sz_pos (h7 hw)
    simp only [if_true]
    refine ⟨by omega, by omega, by omega, by omega, by omega, by omega, fun hp => by have := (h4 hp).1; omega, fun hf => ⟨?_, by omega, by omega⟩, fun _ => by omega⟩
    exact Classical.byContradiction fun hp => by have := (h4 hp).2; rw [hw] at this; cases this
theorem num (h : a.Good) : numP a.p a.Y a.S a.E a.W a.dr a.J a.idr a.rd := by
  have h1 := Y_len h
  have h5 := h.n1; have h8 := h.p1; have h9 := h.dr1; have h10 := h.id1; have h11 := h.il; have h12 := h.nrd
  refine ⟨⟨h8.1, h8.2, by omega, by omega⟩, pl h, ⟨h9.1, h9.2, h10.1, h10.2, ?_⟩, h.rdp, fun hr => ?_⟩
  · rw [J_len, h1]; omega
  · obtain ⟨g1, g2⟩ := h12 hr
    rw [J_len, g1]
    exact ⟨by simp [sz], g2⟩
theorem zer (h : a.Good) : zerP a.Y a.s a.e a.w := by
  have hx := X_len h
  unfold zerP
  by_cases hw : a.w = 0
  · have hwr := (w_zero h).1 hw
    have hB := (h.nw hwr).1
    rw [if_pos hw]
    have e1 : a.e = a.s + sz a.A := by simp [e, hwr]
    rw [e1]
    unfold Y
    constructor
    · rw [List.take_left' hx]
      unfold X
      rw [hB]
      exact allz_zs _
    · rw [← List.append_assoc, List.drop_left' (by rw [List.length_append, encAll_len, hx])]
      exact allz_zs _
  · have hwr : a.wr = true := by
      cases hwr : a.wr with
      | false => exact absurd ((w_zero h).2 hwr) hw
      | true => rfl
    rw [if_neg hw]
    have e1 : a.e = sz a.B := by simp [e, hwr]
    have e2 : a.w = a.s + sz a.A := by simp [w, hwr]
    rw [e1, e2]
    unfold Y
    constructor
    · rw [List.take_left' hx]
      unfold X
      rw [List.drop_left' (encAll_len _)]
      exact allz_zs _
    · rw [← List.append_assoc, List.drop_left' (by rw [List.length_append, encAll_len, hx])]
      exact allz_zs _
theorem chk (h : a.Good) : chkP a.p a.Y a.S a.E a.W a.dr a.J a.idr a.rd := by
  refine ⟨num h, ?_, ?_, ?_, ?_⟩
  · rw [part1 h, recs_all h.okA]
  · rw [part2 h, recs_all h.okB]
  · unfold J; rw [recs_all h.okI]
  · exact zer h
end AB
/-- What is valid is records in places. -/
theorem chk_inv {p : Int} {b : List V} {s e w dr : Int} {il : List V} {idr : Int} {rd : Bool} (hb : ∀ v ∈ b, U8 v) (hi : ∀ v ∈ il, U8 v) (h : chkP p b s e w dr il idr rd) : ∃ a : AB, a.Good ∧ p = a.p ∧ b = a.Y ∧ s = a.S ∧ e = a.E ∧ w = a.W ∧ dr = a.dr ∧ il = a.J ∧ idr = a.idr ∧ rd = a.rd := by
  obtain ⟨⟨n0, hpl, n2, n3, n4⟩, h1, h2, h3, h4⟩ := h
  have hpl' := hpl
  unfold plP at hpl'
  obtain ⟨S, rfl⟩ : ∃ n : Nat, s = n := ⟨s.toNat, by omega⟩
  obtain ⟨E, rfl⟩ : ∃ n : Nat, e = n := ⟨e.toNat, by omega⟩
  obtain ⟨W, rfl⟩ : ∃ n : Nat, w = n := ⟨w.toNat, by omega⟩
  rw [Int.toNat_natCast, Int.toNat_natCast, Int.toNat_natCast] at h4
  obtain ⟨I, okI, _, eI⟩ := recs_of il hi
  obtain ⟨A, okA, _, eA⟩ := recs_of _ (subL_u8 hb (S : Int) (if (W : Int) = 0 then (E : Int) else (W : Int)))
  have eI := eI h3
  have eA := eA h1
  have lI : il.length = sz I := by rw [eI, encAll_len]
  have hrd : rd = false → I = [] ∧ idr = 0 := fun h => by
    obtain ⟨g1, g2⟩ := n4 h
    refine ⟨Classical.byContradiction fun hI => ?_, g2⟩
    have := sz_pos hI
    omega
  by_cases hw : W = 0
  · subst hw
    rw [if_pos (by rfl), subL_nat] at eA
    unfold zerP at h4
    rw [if_pos rfl] at h4
    have lA : sz A = E - S := by rw [← encAll_len, ← eA]; simp; omega
    refine ⟨⟨p, b.length, S, A, [], false, dr, I, idr, rd⟩, ⟨⟨n0.1, n0.2.1⟩, by dsimp only; omega, okA, fun r hr => (by cases hr), okI, ⟨n2.1, n2.2.1⟩, ⟨n2.2.2.1, n2.2.2.2.1⟩, by dsimp only; omega, n3, hrd, by dsimp only; omega, by simp [sz], fun hp => ⟨by have := hpl'.2.2.2.2.2.2.1 hp; dsimp only; omega, rfl⟩, fun h => (by cases h), fun _ => ⟨rfl, fun hA => ?_⟩⟩, rfl, ?_, rfl, ?_, ?_, rfl, eI, rfl, rfl⟩
    · have hA : A = [] := hA
      have : sz A = 0 := by rw [hA]; rfl
      dsimp only; omega
    · unfold AB.Y AB.X
      simp only [encAll, sz, Nat.sub_zero, List.nil_append]
      have e1 := allz_eq h4.1
      have e2 := allz_eq h4.2
      rw [List.length_take, Nat.min_eq_left (by omega)] at e1
      rw [List.length_drop] at e2
      have e3 : b = b.take S ++ ((b.take E).drop S ++ b.drop E) := by
        rw [← List.append_assoc]
        have : b.take S ++ (b.take E).drop S = b.take E := by
          have := List.take_append_drop S (b.take E)
          rwa [List.take_take, Nat.min_eq_left (by omega)] at this
        rw [this, List.take_append_drop]
      rw [show b.length - S - sz A = b.length - E by omega, ← e1, ← e2, ← eA]
      exact e3
    · unfold AB.E AB.e
      simp only [Bool.false_eq_true, if_false]
      omega
    · rfl
  · obtain ⟨B, okB, _, eB⟩ := recs_of (if (W : Int) = 0 then [] else subL b 0 (E : Int)) (by
      split
      · intro v hv; cases hv
      · exact subL_u8 hb _ _)
    have eB := eB h2
    have hw' : ¬ (W : Int) = 0 := by omega
    rw [if_neg hw'] at eA eB
    rw [subL_nat] at eA
    rw [show (0 : Int) = ((0 : Nat) : Int) from rfl, subL_nat, List.drop_zero] at eB
    unfold zerP at h4
    rw [if_neg hw] at h4
    have hq := hpl'.2.2.2.2.2.2.2.1 hw'
    have lA : sz A = W - S := by rw [← encAll_len, ← eA]; simp; omega
    have lB : sz B = E := by rw [← encAll_len, ← eB]; simp; omega
    refine ⟨⟨p, b.length, S, A, B, true, dr, I, idr, rd⟩, ⟨⟨n0.1, n0.2.1⟩, by dsimp only; omega, okA, okB, okI, ⟨n2.1, n2.2.1⟩, ⟨n2.2.2.1, n2.2.2.2.1⟩, by dsimp only; omega, n3, hrd, by dsimp only; omega, by dsimp only; omega, fun hp => absurd hq.1 hp, fun _ hA => ?_, fun h => (by cases h)⟩, rfl, ?_, rfl, ?_, ?_, rfl, eI, rfl, rfl⟩
    · have hA : A = [] := hA
      have : sz A = 0 := by rw [hA]; rfl
      omega
    · unfold AB.Y AB.X
      dsimp only
      have e1 := allz_eq h4.1
      have e2 := allz_eq h4.2
      rw [List.length_drop, List.length_take, Nat.min_eq_left (by omega)] at e1
      rw [List.length_drop] at e2
      have f1 : b.take E ++ (b.take S).drop E = b.take S := by
        have := List.take_append_drop E (b.take S)
        rwa [List.take_take, Nat.min_eq_left (by omega)] at this
      have f2 : b.take S ++ (b.take W).drop S = b.take W := by
        have := List.take_append_drop S (b.take W)
        rwa [List.take_take, Nat.min_eq_left (by omega)] at this
      rw [show b.length - S - sz A = b.length - W by omega, lB, ← e1, ← e2, ← eA, ← eB, f1, ← List.append_assoc, f2, List.take_append_drop]
    · unfold AB.E AB.e
      simp only [if_true]
      omega
    · unfold AB.W AB.w
      simp only [if_true]
      omega
end Go.Proofs.Ytdejapkfijdadaa
end
section
namespace Go.Proofs.Ytdejapkfijdadaa
open Go.Ab Go.RowKit

theorem zs_drop (m k : Nat) : (zs m).drop k = zs (m - k) := List.drop_replicate
theorem ovl_mid (P Q x : List V) (m : Nat) (h : x.length ≤ m) : ovlReal (P ++ (zs m ++ Q)) (P.length : Int) x = P ++ (x ++ (zs (m - x.length) ++ Q)) := by
  rw [ovl_nat _ _ _ (by simp [zs_len]; omega), List.take_left' rfl, ← List.drop_drop, List.drop_left' rfl, List.drop_append_of_le_length (by rw [zs_len]; exact h), zs_drop, List.append_assoc]
theorem ovl_mid2 (P Q x y : List V) (h : y.length = x.length) : ovlReal (P ++ (x ++ Q)) (P.length : Int) y = P ++ (y ++ Q) := by
  rw [ovl_nat _ _ _ (by simp; omega), List.take_left' rfl, ← List.drop_drop, List.drop_left' rfl, h, List.drop_left' rfl, List.append_assoc]
theorem num_enc {r : Rc} (h : okR r) (Q : List V) : numN (((encR1 r ++ Q).drop 12).take 2) = r.2.2.length := by
  have hv := of_decide_eq_true h.1
  have e0 : encR1 r ++ Q = (leB r.1 4 ++ leB r.2.1 8) ++ (leB r.2.2.length 2 ++ (r.2.2 ++ Q)) := by simp [encR1, encB]
  rw [e0, List.drop_left' (by simp [leB_len]), List.take_left' (leB_len _ _), numN_leB]
  exact Nat.mod_eq_of_lt (by omega)
namespace AB
def app (a : AB) (r : Rc) : AB := if a.wr = true then { a with B := a.B ++ [r] } else { a with A := a.A ++ [r] }
def top (a : AB) : Nat := if a.wr = true then a.s else a.n
def emp (a : AB) (dr : Int) : AB := { a with s := 0, A := [], B := [], wr := false, dr := dr }
def old (a : AB) : AB := match a.A with
  | [] => a
  | [_] => { a with s := 0, A := a.B, B := [], wr := false, dr := mnI (a.dr + 1) 1099511627776 }
  | r :: q :: l => { a with s := a.s + rsz r, A := q :: l, dr := mnI (a.dr + 1) 1099511627776 }
def turn (a : AB) : AB := { a with wr := true }
def mu (a : AB) : Nat := 2 * (a.A.length + a.B.length) + (if a.wr = true then 0 else 1)
def ringN : Nat → AB → Rc → AB
  | 0, a, _ => a
  | k + 1, a, r => if a.e + rsz r ≤ a.top then a.app r else if a.wr = true then ringN k a.old r else ringN k a.turn r
def put (a : AB) (r : Rc) : AB × Bool :=
  if a.p = 3 then
    if a.n < rsz r then (a.emp (mnI (a.dr + ((a.A.length + a.B.length : Nat) : Int) + 1) 1099511627776), false)
    else (ringN (a.mu + 1) a r, true)
  else if 0 < a.dr ∨ a.n < a.e + rsz r then ({ a with dr := mnI (a.dr + 1) 1099511627776 }, false)
  else (a.app r, true)
variable {a : AB}
theorem top_le (h : a.Good) : a.top ≤ a.n := by
  have := h.fit
  unfold top
  split <;> omega
theorem e_le (h : a.Good) : a.e ≤ a.top := by
  have := h.fit; have := h.low
  unfold top e
  split <;> omega
theorem mn_ok {x : Int} (h : 0 ≤ x) : 0 ≤ mnI x 1099511627776 ∧ mnI x 1099511627776 ≤ 1099511627776 := by
  unfold mnI
  split <;> omega
theorem e_t (hw : a.wr = true) : a.e = sz a.B := if_pos hw
theorem e_f (hw : a.wr = false) : a.e = a.s + sz a.A := if_neg (by rw [hw]; decide)
theorem top_t (hw : a.wr = true) : a.top = a.s := if_pos hw
theorem top_f (hw : a.wr = false) : a.top = a.n := if_neg (by rw [hw]; decide)
theorem app_t (hw : a.wr = true) (r : Rc) : a.app r = { a with B := a.B ++ [r] } := if_pos hw
theorem app_f (hw : a.wr = false) (r : Rc) : a.app r = { a with A := a.A ++ [r] } := if_neg (by rw [hw]; decide)
theorem app_Y (h : a.Good) (r : Rc) (hf : a.e + rsz r ≤ a.top) : ovlReal a.Y a.E (encR1 r) = (a.app r).Y := by
  have hx := X_len h
  have hlow := h.low
  have hfit := h.fit
  unfold E
  cases hw : a.wr with
  | true =>
    rw [e_t hw, top_t hw] at hf
    rw [e_t hw, app_t hw]
    have e1 : a.Y = encAll a.B ++ (zs (a.s - sz a.B) ++ (encAll a.A ++ zs (a.n - a.s - sz a.A))) := by unfold Y X; rw [List.append_assoc]
    rw [e1, ← encAll_len a.B, ovl_mid _ _ _ _ (by rw [encR1_len, encAll_len]; omega)]
    unfold Y X
    simp only [encAll_app, encAll, List.append_nil, List.append_assoc, sz_app, sz_one, encR1_len, encAll_len]
    rw [show a.s - sz a.B - rsz r = a.s - (sz a.B + rsz r) by omega]
  | false =>
    rw [e_f hw, top_f hw] at hf
    rw [e_f hw, app_f hw]
    have e1 : a.Y = (a.X ++ encAll a.A) ++ (zs (a.n - a.s - sz a.A) ++ []) := by unfold Y; simp
    have e2 : a.s + sz a.A = (a.X ++ encAll a.A).length := by rw [List.length_append, encAll_len, hx]
    rw [e1, e2, ovl_mid _ _ _ _ (by rw [encR1_len]; omega)]
    unfold Y X
    simp only [encAll_app, encAll, List.append_nil, List.append_assoc, sz_app, sz_one, encR1_len, encAll_len]
    rw [show a.n - a.s - sz a.A - rsz r = a.n - a.s - (sz a.A + rsz r) by omega]
theorem app_e (a : AB) (r : Rc) : (a.app r).e = a.e + rsz r := by
  unfold app e
  cases hw : a.wr <;> simp [hw, sz_app, sz_one] <;> omega
theorem app_w (h : a.Good) (r : Rc) : (a.app r).W = a.W := by
  unfold W w app
  cases hw : a.wr <;> simp [hw]
theorem app_good (h : a.Good) {r : Rc} (hr : okR r) (hf : a.e + rsz r ≤ a.top) : (a.app r).Good := by
  have h1 := h.fit; have h2 := h.low; have h3 := h.nw; have h4 := h.wrA; have h5 := h.np
  cases hw : a.wr with
  | true =>
    rw [e_t hw, top_t hw] at hf
    rw [app_t hw]
    exact ⟨h.p1, h.n1, h.okA, fun x hx => by
      rcases List.mem_append.1 hx with hx | hx
      · exact h.okB x hx
      · rw [List.mem_singleton.1 hx]; exact hr, h.okI, h.dr1, h.id1, h.il, h.rdp, h.nrd, h1, by simp only [sz_app, sz_one]; omega, h5, fun _ => h4 hw, fun hh => absurd (hw.symm.trans hh) (by decide)⟩
  | false =>
    rw [e_f hw, top_f hw] at hf
    rw [app_f hw]
    exact ⟨h.p1, h.n1, fun x hx => by
      rcases List.mem_append.1 hx with hx | hx
      · exact h.okA x hx
      · rw [List.mem_singleton.1 hx]; exact hr, h.okB, h.okI, h.dr1, h.id1, h.il, h.rdp, h.nrd, by simp only [sz_app, sz_one]; omega, h2, h5, fun hh => absurd (hw.symm.trans hh) (by decide), fun _ => ⟨(h3 hw).1, fun hh => by simp at hh⟩⟩
theorem emp_Y (a : AB) (dr : Int) : (a.emp dr).Y = zs a.n := by
  unfold Y X emp
  simp [encAll, sz, zs]
theorem emp_good (h : a.Good) {dr : Int} (hd : 0 ≤ dr ∧ dr ≤ 1099511627776) : (a.emp dr).Good :=
  ⟨h.p1, h.n1, fun _ h => by simp [emp] at h, fun _ h => by simp [emp] at h, h.okI, hd, h.id1, h.il, h.rdp, h.nrd, by simp [emp, sz], by simp [emp, sz], fun _ => ⟨rfl, rfl⟩, fun h => by simp [emp] at h, fun _ => ⟨rfl, fun _ => rfl⟩⟩
theorem drop_good (h : a.Good) {dr : Int} (hd : 0 ≤ dr ∧ dr ≤ 1099511627776) : ({ a with dr := dr } : AB).Good :=
  ⟨h.p1, h.n1, h.okA, h.okB, h.okI, hd, h.id1, h.il, h.rdp, h.nrd, h.fit, h.low, h.np, h.wrA, h.nw⟩
theorem turn_good (h : a.Good) (hp : a.p = 3) (hA : a.A ≠ []) (hw : a.wr = false) : a.turn.Good :=
  ⟨h.p1, h.n1, h.okA, h.okB, h.okI, h.dr1, h.id1, h.il, h.rdp, h.nrd, h.fit, h.low, fun h => absurd hp h, fun _ => hA, fun h => by simp [turn] at h⟩
theorem old_good (h : a.Good) (hp : a.p = 3) (hw : a.wr = true) : a.old.Good := by
  have hd := mn_ok (x := a.dr + 1) (by have := h.dr1; omega)
  have h1 := h.fit; have h2 := h.low; have hA := h.wrA hw
  unfold old
  split
  · exact h
  · rename_i r hr
    rw [hr] at h1
    exact ⟨h.p1, h.n1, h.okB, fun x hx => by simp at hx, h.okI, hd, h.id1, h.il, h.rdp, h.nrd, by simp only [sz] at *; omega, by simp [sz], fun hh => absurd hp hh, fun hh => by simp at hh, fun _ => ⟨rfl, fun _ => rfl⟩⟩
  · rename_i r q l hr
    rw [hr] at h1
    exact ⟨h.p1, h.n1, fun x hx => h.okA x (by rw [hr]; exact List.mem_cons_of_mem _ hx), h.okB, h.okI, hd, h.id1, h.il, h.rdp, h.nrd, by simp only [sz] at *; omega, by simp only [sz] at *; omega, fun hh => absurd hp hh, fun _ => by simp, fun hh => by simp [hw] at hh⟩
theorem old_Y (h : a.Good) {r : Rc} {l : List Rc} (hA : a.A = r :: l) : ovlReal a.Y a.S (zs (rsz r)) = a.old.Y := by
  have hx := X_len h
  have hfit := h.fit
  have hlow := h.low
  have e1 : a.Y = a.X ++ (encR1 r ++ (encAll l ++ zs (a.n - a.s - sz a.A))) := by unfold Y; rw [hA]; simp [encAll]
  have q := ovl_mid2 a.X (encAll l ++ zs (a.n - a.s - sz a.A)) (encR1 r) (zs (rsz r)) (by rw [zs_len, encR1_len])
  rw [hx, ← e1] at q
  unfold S
  rw [q]
  clear q e1 hx
  unfold old
  cases l with
  | nil =>
    rw [hA]
    rw [hA] at hfit
    unfold Y X
    simp only [encAll, List.nil_append, sz, Nat.sub_zero, zs, List.replicate_zero, List.append_assoc, List.replicate_append_replicate] at *
    rw [show a.s - sz a.B + (rsz r + (a.n - a.s - (rsz r + 0))) = a.n - sz a.B by omega]
  | cons q l =>
    rw [hA]
    rw [hA] at hfit
    unfold Y X
    simp only [sz] at *
    simp only [List.append_assoc]
    rw [← List.append_assoc (zs (a.s - sz a.B)) (zs (rsz r)), zs_add, show a.s - sz a.B + rsz r = a.s + rsz r - sz a.B by omega, show a.n - a.s - (rsz r + (rsz q + sz l)) = a.n - (a.s + rsz r) - (rsz q + sz l) by omega]
theorem mu_old (h : a.Good) (hw : a.wr = true) : a.old.mu < a.mu := by
  have hA := h.wrA hw
  unfold old mu
  split
  · rename_i e; exact absurd e hA
  · rename_i r hr; simp [hr, hw] <;> omega
  · rename_i r q l hr; simp [hr, hw] <;> omega
theorem mu_turn (hw : a.wr = false) : a.turn.mu < a.mu := by
  unfold turn mu
  simp [hw]
/-- What a write by the policy that keeps the last records does not touch. -/
def Like (a b : AB) : Prop := a.p = b.p ∧ a.n = b.n ∧ a.I = b.I ∧ a.idr = b.idr ∧ a.rd = b.rd
theorem old_like (a : AB) : Like a.old a := by
  unfold old Like
  split <;> exact ⟨rfl, rfl, rfl, rfl, rfl⟩
theorem app_like (a : AB) (r : Rc) : Like (a.app r) a := by
  unfold app Like
  split <;> exact ⟨rfl, rfl, rfl, rfl, rfl⟩
theorem Like.trans {a b c : AB} (h : Like a b) (h' : Like b c) : Like a c := ⟨h.1.trans h'.1, h.2.1.trans h'.2.1, h.2.2.1.trans h'.2.2.1, h.2.2.2.1.trans h'.2.2.2.1, h.2.2.2.2.trans h'.2.2.2.2⟩
theorem fits_empty (h : a.Good) {r : Rc} (hr : rsz r ≤ a.n) (hf : ¬ a.e + rsz r ≤ a.top) (hw : a.wr = false) : a.A ≠ [] := by
  intro hA
  have := (h.nw hw).2 hA
  apply hf
  unfold e top
  simp [hw, hA, sz, this]
  omega
theorem ringN_ok {r : Rc} (hr : okR r) : ∀ (k : Nat) (a : AB), a.Good → a.p = 3 → rsz r ≤ a.n → a.mu < k → (ringN k a r).Good ∧ Like (ringN k a r) a
  | 0, _, _, _, _, h => by omega
  | k + 1, a, h, hp, hn, hk => by
    unfold ringN
    split
    · rename_i hf; exact ⟨app_good h hr hf, app_like a r⟩
    · rename_i hf
      split
      · rename_i hw
        have l := old_like a
        obtain ⟨g1, g2⟩ := ringN_ok hr k a.old (old_good h hp hw) (l.1.trans hp) (by rw [l.2.1]; exact hn) (by have := mu_old h hw; omega)
        exact ⟨g1, g2.trans l⟩
      · rename_i hw
        have hw : a.wr = false := by cases hh : a.wr <;> simp_all
        exact ringN_ok hr k a.turn (turn_good h hp (fits_empty h hn hf hw) hw) hp hn (by have := mu_turn hw; omega)
theorem put_ok {r : Rc} (h : a.Good) (hr : okR r) : (a.put r).1.Good ∧ Like (a.put r).1 a := by
  unfold put
  split
  · rename_i hp
    split
    · exact ⟨emp_good h (mn_ok (by have := h.dr1; omega)), ⟨rfl, rfl, rfl, rfl, rfl⟩⟩
    · exact ringN_ok hr _ _ h hp (by omega) (by omega)
  · rename_i hp
    split
    · exact ⟨drop_good h (mn_ok (by have := h.dr1; omega)), ⟨rfl, rfl, rfl, rfl, rfl⟩⟩
    · rename_i hc
      have hw := (h.np hp).2
      refine ⟨app_good h hr ?_, app_like a r⟩
      unfold top
      rw [if_neg (by rw [hw]; decide)]
      omega
end AB
end Go.Proofs.Ytdejapkfijdadaa
end
section
namespace Go.Proofs.Ytdejapkfijdadaa
open Go.Ab Go.RowKit

theorem s48 (p : Int) (b : List V) (s e w dr : Int) (il : List V) (idr : Int) (rd : Bool) (hb : b.length ≤ 140737488355328) (hi : il.length ≤ 140737488355328) : d48 p b s e w dr il idr rd = some (p, b, s, e, w, dr, il, idr, rd) := by
  unfold d48
  rw [s54 _ hb, s54 _ hi]
  rfl
theorem room40s {n : Int} (h : n ≤ 3000000000000) : Room n 40 := by
  unfold Room
  omega
theorem room1s {n : Int} (h : n ≤ 140737488355328) : Room n 1 := by
  unfold Room
  omega
namespace AB
variable {a : AB}
theorem c29 (h : a.Good) : d29 a.p a.Y a.S a.E a.W a.dr a.J a.idr a.rd = some 0 := by
  rw [s29 _ _ _ _ _ _ _ _ _ (Y_u8 h) (J_u8 h), if_pos (chk h)]
theorem c36 (h : a.Good) : d36 a.p a.Y a.S a.E a.W a.dr a.J a.idr a.rd = some 0 := by
  rw [s36 _ _ _ _ _ _ _ _ _ (Y_u8 h) (J_u8 h), if_pos (chk h)]
theorem J_small (h : a.Good) : a.J.length ≤ 4096 := by
  have := h.il; have := h.n1
  rw [J_len]; omega
theorem Y_small (h : a.Good) : a.Y.length ≤ 4096 := by
  have := h.n1
  rw [Y_len h]; omega
theorem c48 (h : a.Good) : d48 a.p a.Y a.S a.E a.W a.dr a.J a.idr a.rd = some (a.p, a.Y, a.S, a.E, a.W, a.dr, a.J, a.idr, a.rd) := s48 _ _ _ _ _ _ _ _ _ (by have := Y_small h; omega) (by have := J_small h; omega)
theorem c55 (h : a.Good) : d55v1 a.p a.Y a.S a.E a.W a.dr a.J a.idr a.rd = some (encAll a.A, encAll a.B) := by
  rw [s55 _ _ _ _ _ _ _ _ _ (pl h), part1 h, part2 h]
theorem szA_le (h : a.Good) : sz a.A ≤ 4096 := by
  have := h.fit; have := h.n1; omega
theorem szB_le (h : a.Good) : sz a.B ≤ 4096 := by
  have := h.fit; have := h.n1; have := h.low; omega
/-- The records. -/
def recs (a : AB) : List V := (a.A ++ a.B).map vR
theorem count_le (h : a.Good) : a.A.length + a.B.length ≤ 600 := by
  have := sz_count a.A; have := sz_count a.B; have := szA_le h; have := szB_le h
  omega
theorem rA (h : a.Good) : d51 (encAll a.A) = some (a.A.map vR, true) := by
  rw [s51 _ (encAll_ok h.okA) (by rw [encAll_len]; have := szA_le h; omega), recs_all h.okA]
theorem rB (h : a.Good) : d51 (encAll a.B) = some (a.B.map vR, true) := by
  rw [s51 _ (encAll_ok h.okB) (by rw [encAll_len]; have := szB_le h; omega), recs_all h.okB]
theorem rI (h : a.Good) : d51 a.J = some (a.I.map vR, true) := by
  rw [s51 _ (J_u8 h) (by have := J_small h; omega)]
  unfold J
  rw [recs_all h.okI]
theorem c50 (h : a.Good) : d50v2 a.p a.Y a.S a.E a.W a.dr a.J a.idr a.rd = some a.recs := by
  unfold d50v2
  rw [c55 h]
  simp only [Option.bind_some]
  rw [rA h]
  simp only [Option.bind_some]
  rw [rB h]
  simp only [Option.bind_some]
  have := count_le h
  rw [if_pos (room40s (by simp [lenI, appL]; omega))]
  unfold recs appL
  rw [List.map_append]
theorem W_zero (h : a.Good) : a.W = 0 ↔ a.wr = false := by
  unfold W
  rw [← w_zero h]
  omega
theorem c50p (h : a.Good) : d50v1 a.p a.S a.E a.W a.dr a.idr a.rd a.Y a.J = some a.recs := by
  have hp := pl h
  unfold plP at hp
  have p1 := part1 h
  have p2 := part2 h
  have hc := count_le h
  unfold d50v1 d55v2
  by_cases hw : a.W = 0
  · rw [if_pos hw] at p1 p2
    have p3 : subL a.Y a.S (plI a.S (miI a.E a.S)) = encAll a.A := by
      rw [show plI a.S (miI a.E a.S) = a.E by unfold plI miI; omega]; exact p1
    rw [if_pos (by rw [c_eql]; exact dT hw), if_pos (by unfold Bnd; omega), if_pos (by unfold Bnd lenI; omega)]
    simp only [Option.bind_some, d51p]
    rw [p3, rA h]
    simp only [Option.bind_some]
    rw [p2, rB h]
    simp only [Option.bind_some]
    rw [if_pos (room40s (by simp [lenI, appL]; omega))]
    unfold recs appL
    rw [List.map_append]
  · rw [if_neg hw] at p1 p2
    have p3 : subL a.Y a.S (plI a.S (miI a.W a.S)) = encAll a.A := by
      rw [show plI a.S (miI a.W a.S) = a.W by unfold plI miI; omega]; exact p1
    have p4 : subL a.Y 0 (plI 0 (miI a.E 0)) = encAll a.B := by
      rw [show plI 0 (miI a.E 0) = a.E by unfold plI miI; omega]; exact p2
    rw [if_neg (by rw [c_eql, dF hw]; decide), if_pos (by unfold Bnd; omega), if_pos (by unfold Bnd lenI; omega), if_pos (by unfold Bnd; omega), if_pos (by unfold Bnd lenI; omega)]
    simp only [Option.bind_some, d51p]
    rw [p3, rA h]
    simp only [Option.bind_some]
    rw [p4, rB h]
    simp only [Option.bind_some]
    rw [if_pos (room40s (by simp [lenI, appL]; omega))]
    unfold recs appL
    rw [List.map_append]
theorem c56 (h : a.Good) : d56v1 a.p a.S a.E a.W a.dr a.idr a.rd a.Y a.J = some (zs a.n) := by
  unfold d56v1
  rw [show lenI a.Y = ((a.Y.length : Nat) : Int) from rfl, repL_nat, show (0 : Int) = ((0 : Nat) : Int) from rfl, ovl_nat _ _ _ (by rw [zs_len]; omega), Y_len h, zs_len, List.take_zero, List.nil_append, List.drop_of_length_le (by rw [Y_len h]; omega), List.append_nil]
theorem Ee (a : AB) : a.E = (a.e : Int) := rfl
theorem c68 (h : a.Good) (r : Rc) (hf : a.e + rsz r ≤ a.n) (x1 x2 x3 x5 : Int) (x6 : Bool) (x9 : List V) (x4 : Int) : d68v1 x1 x2 a.E x3 x4 x5 x6 (encR1 r) a.Y x9 = some (((a.e + rsz r : Nat) : Int), ovlReal a.Y a.E (encR1 r)) := by
  have hy := Y_len h
  have hn := h.n1
  unfold d68v1
  have e1 : lenI a.Y = (a.n : Int) := by unfold lenI; rw [hy]
  have e2 : lenI (encR1 r) = (rsz r : Int) := by unfold lenI; rw [encR1_len]
  rw [e1, e2, if_pos (by unfold Bnd; rw [Ee]; omega), i64add (by rw [Ee]; omega) (by rw [Ee]; omega)]
  have e3 : subL (encR1 r) 0 (mnI (rsz r : Int) (miI (a.n : Int) a.E)) = encR1 r := by
    have : mnI (rsz r : Int) (miI (a.n : Int) a.E) = (rsz r : Int) := by
      unfold mnI miI
      rw [Ee, if_neg (by omega)]
    rw [this, show (0 : Int) = ((0 : Nat) : Int) from rfl, subL_nat, List.drop_zero, ← encR1_len, List.take_length]
  rw [e3, Ee]
  push_cast
  rfl
theorem old_e (h : a.Good) (hw : a.wr = true) : a.old.e = a.e := by
  have hA := h.wrA hw
  rw [e_t hw]
  unfold old
  split
  · rename_i hh; exact absurd hh hA
  · unfold e; simp
  · unfold e; simp [hw]
theorem c69 (h : a.Good) (hw : a.wr = true) {r : Rc} {l : List Rc} (hA : a.A = r :: l) (hr : okR r) (x0 x5 : Int) (x6 : Bool) (x8 : List V) : d69v1 x0 a.S a.E a.W a.dr x5 x6 a.Y x8 = some (a.old.S, a.old.W, a.old.dr, a.old.Y) := by
  have hx := X_len h
  have hy := Y_len h
  have hfit := h.fit
  have hn := h.n1
  have hd := h.dr1
  have hsz := okR_sz hr
  have hs14 : 14 ≤ rsz r := by unfold rsz; omega
  have hsA : sz a.A = rsz r + sz l := by rw [hA]; rfl
  have eW : a.W = ((a.s + sz a.A : Nat) : Int) := by unfold W w; rw [if_pos hw]
  have e1 : lenI a.Y = (a.n : Int) := by unfold lenI; rw [hy]
  have t12 : arReal .add .i64 (a.s : Int) 12 = ((a.s + 12 : Nat) : Int) := by rw [i64add (by omega) (by omega)]; push_cast; rfl
  have t14 : arReal .add .i64 (a.s : Int) 14 = ((a.s + 14 : Nat) : Int) := by rw [i64add (by omega) (by omega)]; push_cast; rfl
  have num : subL a.Y ((a.s + 12 : Nat) : Int) (plI ((a.s + 12 : Nat) : Int) (miI ((a.s + 14 : Nat) : Int) ((a.s + 12 : Nat) : Int))) = ((encR1 r ++ (encAll l ++ zs (a.n - a.s - sz a.A))).drop 12).take 2 := by
    rw [show plI ((a.s + 12 : Nat) : Int) (miI ((a.s + 14 : Nat) : Int) ((a.s + 12 : Nat) : Int)) = ((a.s + 14 : Nat) : Int) by unfold plI miI; omega, subL_nat]
    have e2 : a.Y = a.X ++ (encR1 r ++ (encAll l ++ zs (a.n - a.s - sz a.A))) := by unfold Y; rw [hA]; simp [encAll]
    rw [e2, List.drop_take, ← List.drop_drop, List.drop_left' hx, show a.s + 14 - (a.s + 12) = 2 by omega]
  have nu := num_enc hr (encAll l ++ zs (a.n - a.s - sz a.A))
  have hb : ∀ v ∈ ((encR1 r ++ (encAll l ++ zs (a.n - a.s - sz a.A))).drop 12).take 2, ByteV v := by
    intro v hv
    rw [← num] at hv
    exact (subL_u8 (Y_u8 h) _ _ v hv).byte
  unfold d69v1 S
  rw [t12, t14, e1, if_pos (by unfold Bnd; omega), num, s78 _ hb (by simp; omega), nu, w64_small (by unfold rsz at hsz; omega) (by unfold rsz at hsz; omega)]
  simp only [Option.bind_some]
  have t3 : arReal .add .i64 14 ((r.2.2.length : Nat) : Int) = (rsz r : Int) := by rw [i64add (by unfold rsz at hsz; omega) (by unfold rsz at hsz; omega)]; unfold rsz; push_cast; rfl
  have t4 : arReal .add .i64 (a.s : Int) (rsz r : Int) = ((a.s + rsz r : Nat) : Int) := by rw [i64add (by omega) (by omega)]; push_cast; rfl
  have t5 : repL (miI ((a.s + rsz r : Nat) : Int) (a.s : Int)) (.i .u8 0) = zs (rsz r) := by rw [show miI ((a.s + rsz r : Nat) : Int) (a.s : Int) = ((rsz r : Nat) : Int) by unfold miI; omega, repL_nat]
  have t6 := old_Y h hA
  unfold S at t6
  have t7 : arReal .add .i64 a.dr 1 = a.dr + 1 := i64add (by omega) (by omega)
  rw [t3, t4, if_pos (by unfold Bnd; omega), t5, t6]
  unfold d67v1
  simp only [Option.bind_some]
  rw [t7, c_eql, eW]
  cases l with
  | nil =>
    rw [hsA]
    rw [if_pos (dT (by simp [sz]))]
    unfold old
    rw [hA]
    rfl
  | cons q l =>
    have : 14 ≤ sz (q :: l) := sz_pos (by simp)
    rw [if_neg (by rw [dF (by rw [hsA]; omega)]; decide)]
    have o1 : a.old = { a with s := a.s + rsz r, A := q :: l, dr := mnI (a.dr + 1) 1099511627776 } := by unfold old; rw [hA]
    have w2 : a.old.W = ((a.s + sz a.A : Nat) : Int) := by
      rw [o1]
      unfold W w
      rw [if_pos hw, hsA, ← Nat.add_assoc]
    rw [w2, o1]
theorem e_small (h : a.Good) : a.e ≤ 4096 := by
  have := e_le h; have := top_le h; have := h.n1; omega
theorem ring_prog {r : Rc} (hr : okR r) (x5 : Int) (x6 : Bool) (x8 x9 : List V) : ∀ (k : Nat) (a : AB), a.Good → a.p = 3 → rsz r ≤ a.n → x8.length = a.n → a.mu < k → iter (d47v1_b1 a.p x5 x6 (encR1 r) x8 x9) (a.S, a.E, a.W, a.dr, a.Y) = some (true, (ringN k a r).S, (ringN k a r).E, (ringN k a r).W, (ringN k a r).dr, (ringN k a r).Y)
  | 0, _, _, _, _, _, h => by omega
  | k + 1, a, h, hp, hn, hx, hk => by
    have e1 : lenI (encR1 r) = (rsz r : Int) := by unfold lenI; rw [encR1_len]
    have e2 : lenI x8 = (a.n : Int) := by unfold lenI; rw [hx]
    have hsz := okR_sz hr
    have he := e_small h
    have ht := top_le h
    have t1 : arReal .add .i64 a.E (rsz r : Int) = ((a.e + rsz r : Nat) : Int) := by rw [Ee, i64add (by omega) (by omega)]; push_cast; rfl
    -- the test of a round
    have fit : Option.bind (α := Bool) (Option.bind (α := Bool) (if (cmpLit .eql a.W 0) = true then some (cmpLit .leq (arReal .add .i64 a.E (lenI (encR1 r))) (lenI x8)) else some false) fun y56 => if y56 = true then some true else if (cmpLit .neq a.W 0) = true then some (cmpLit .leq (arReal .add .i64 a.E (lenI (encR1 r))) a.S) else some false) some = some (decide (a.e + rsz r ≤ a.top)) := by
      rw [e1, e2, t1, c_eql, c_neq, c_leq, c_leq]
      cases hw : a.wr with
      | false =>
        have w0 := (W_zero h).2 hw
        rw [if_pos (dT w0), top_f hw]
        simp only [Option.bind_some]
        by_cases hf : a.e + rsz r ≤ a.n
        · rw [if_pos (dT (by omega)), dT hf]; rfl
        · rw [if_neg (by rw [dF (by omega)]; decide), dF hf, if_neg (by rw [dF (by simp [w0])]; decide)]; rfl
      | true =>
        have w0 : ¬ a.W = 0 := fun hh => by have := (W_zero h).1 hh; rw [hw] at this; cases this
        rw [if_neg (by rw [dF w0]; decide), top_t hw]
        simp only [Option.bind_some]
        rw [if_neg (by decide), if_pos (dT w0)]
        simp only [Option.bind_some]
        exact congrArg some (dC (by unfold S; omega))
    unfold ringN
    by_cases hf : a.e + rsz r ≤ a.top
    · rw [if_pos hf]
      refine iter_inr ?_
      unfold d47v1_b1
      refine bnd1 (a := true) ?_ ?_
      · have := fit
        rw [dT hf] at this
        simpa using this
      rw [if_pos rfl]
      dsimp only
      rw [c68 h r (by omega)]
      simp only [Option.bind_some]
      rw [app_Y h r hf, app_w h r, Ee (a.app r), app_e]
      have : (a.app r).S = a.S := by unfold app S; split <;> rfl
      rw [this]
      have : (a.app r).dr = a.dr := by unfold app; split <;> rfl
      rw [this]
    · rw [if_neg hf]
      cases hw : a.wr with
      | true =>
        have w0 : ¬ a.W = 0 := fun hh => by have := (W_zero h).1 hh; rw [hw] at this; cases this
        rw [if_pos rfl]
        obtain ⟨q, l, hA⟩ := List.exists_cons_of_ne_nil (h.wrA hw)
        have lk := old_like a
        have ih := ring_prog hr x5 x6 x8 x9 k a.old (old_good h hp hw) (lk.1.trans hp) (by rw [lk.2.1]; exact hn) (by rw [lk.2.1]; exact hx) (by have := mu_old h hw; omega)
        rw [← ih, lk.1]
        refine iter_inl ?_
        unfold d47v1_b1
        refine bnd1 (a := false) ?_ ?_
        · have := fit
          rw [dF hf] at this
          simpa using this
        rw [if_neg (by decide)]
        dsimp only
        rw [if_neg (by rw [c_eql, dF w0]; decide), c69 h hw hA (h.okA q (by rw [hA]; simp))]
        simp only [Option.bind_some]
        rw [Ee a.old, old_e h hw, Ee]
      | false =>
        have w0 := (W_zero h).2 hw
        rw [if_neg (by decide)]
        have hA := fits_empty h hn hf hw
        have ih := ring_prog hr x5 x6 x8 x9 k a.turn (turn_good h hp hA hw) hp hn hx (by have := mu_turn hw; omega)
        rw [← ih]
        refine iter_inl ?_
        unfold d47v1_b1
        refine bnd1 (a := false) ?_ ?_
        · have := fit
          rw [dF hf] at this
          simpa using this
        rw [if_neg (by decide)]
        dsimp only
        rw [if_pos (by rw [c_eql, dT w0])]
        have g1 : a.turn.E = 0 := by
          rw [Ee, e_t rfl]
          show ((sz a.B : Nat) : Int) = 0
          rw [(h.nw hw).1]; rfl
        have g2 : a.turn.W = a.E := by
          rw [Ee, e_f hw]
          rfl
        rw [g1, g2]
        rfl
end AB
end Go.Proofs.Ytdejapkfijdadaa
end
section
namespace Go.Proofs.Ytdejapkfijdadaa
open Go.Ab Go.RowKit

/-- What is no valid buffer: no function but Same says more of it than the error. -/
def nvP (p : Int) (b : List V) (s e w dr : Int) (il : List V) (idr : Int) (rd : Bool) : Prop := (∀ v ∈ b, U8 v) ∧ (∀ v ∈ il, U8 v) ∧ ¬ chkP p b s e w dr il idr rd
theorem b29 {p : Int} {b : List V} {s e w dr : Int} {il : List V} {idr : Int} {rd : Bool} (h : nvP p b s e w dr il idr rd) : d29 p b s e w dr il idr rd = some 220 := by
  rw [s29 _ _ _ _ _ _ _ _ _ h.1 h.2.1, if_neg h.2.2]
theorem b36 {p : Int} {b : List V} {s e w dr : Int} {il : List V} {idr : Int} {rd : Bool} (h : nvP p b s e w dr il idr rd) : d36 p b s e w dr il idr rd = some 220 := by
  rw [s36 _ _ _ _ _ _ _ _ _ h.1 h.2.1, if_neg h.2.2]
/-- A buffer is records in places, or no valid buffer. -/
theorem good_or (p : Int) (b : List V) (s e w dr : Int) (il : List V) (idr : Int) (rd : Bool) (hb : ∀ v ∈ b, U8 v) (hi : ∀ v ∈ il, U8 v) : (∃ a : AB, a.Good ∧ p = a.p ∧ b = a.Y ∧ s = a.S ∧ e = a.E ∧ w = a.W ∧ dr = a.dr ∧ il = a.J ∧ idr = a.idr ∧ rd = a.rd) ∨ nvP p b s e w dr il idr rd := by
  by_cases h : chkP p b s e w dr il idr rd
  · exact .inl (chk_inv hb hi h)
  · exact .inr ⟨hb, hi, h⟩
theorem s49r {r : Rc} (h : okR r) : d49 r.1 r.2.1 r.2.2 = some (encR1 r) := s49 _ _ _ (by have := of_decide_eq_true h.1; omega)
namespace AB
variable {a : AB}
theorem c46 (h : a.Good) (hp : a.p ≠ 3) {r : Rc} (hr : okR r) : d46v1 a.p a.S a.E a.W a.dr a.idr a.rd (encR1 r) a.Y a.J = some ((a.put r).2, (a.put r).1.E, (a.put r).1.dr, (a.put r).1.Y) ∧ (a.put r).1.S = a.S ∧ (a.put r).1.W = a.W := by
  have hd := h.dr1
  have hsz := okR_sz hr
  have he := e_small h
  have hw := (h.np hp).2
  have e1 : lenI (encR1 r) = (rsz r : Int) := by unfold lenI; rw [encR1_len]
  have e2 : lenI a.Y = (a.n : Int) := by unfold lenI; rw [Y_len h]
  have t1 : arReal .add .i64 a.E (rsz r : Int) = ((a.e + rsz r : Nat) : Int) := by rw [Ee, i64add (by omega) (by omega)]; push_cast; rfl
  have t7 : arReal .add .i64 a.dr 1 = a.dr + 1 := i64add (by omega) (by omega)
  unfold put
  rw [if_neg hp]
  unfold d46v1 d67v1
  rw [e1, e2, t1, t7, c_gtr, c_gtr]
  by_cases h0 : 0 < a.dr
  · rw [if_pos (dT (by omega)), if_pos (.inl h0)]
    exact ⟨rfl, rfl, rfl⟩
  · rw [if_neg (by rw [dF (by omega)]; decide)]
    by_cases hf : a.n < a.e + rsz r
    · rw [if_pos (dT (by omega)), if_pos (.inr hf)]
      exact ⟨rfl, rfl, rfl⟩
    · rw [if_neg (by rw [dF (by omega)]; decide), if_neg (by omega), c68 h r (by omega)]
      simp only [Option.bind_some]
      rw [app_Y h r (by rw [top_f hw]; omega), Ee (a.app r), app_e]
      refine ⟨?_, ?_, app_w h r⟩
      · rw [app_f hw]
      · rw [app_f hw]; rfl
theorem c47 (h : a.Good) (hp : a.p = 3) {r : Rc} (hr : okR r) : d47v1 a.p a.S a.E a.W a.dr a.idr a.rd (encR1 r) a.Y a.J = some ((a.put r).2, (a.put r).1.S, (a.put r).1.E, (a.put r).1.W, (a.put r).1.dr, (a.put r).1.Y) := by
  have hd := h.dr1
  have hsz := okR_sz hr
  have hc := count_le h
  have e1 : lenI (encR1 r) = (rsz r : Int) := by unfold lenI; rw [encR1_len]
  have e2 : lenI a.Y = (a.n : Int) := by unfold lenI; rw [Y_len h]
  unfold put
  rw [if_pos hp]
  unfold d47v1
  rw [e1, e2, c_gtr]
  by_cases hn : a.n < rsz r
  · rw [if_pos (dT (by omega)), if_pos hn, c50p h]
    simp only [Option.bind_some]
    rw [c56 h]
    simp only [Option.bind_some]
    unfold d67v1
    simp only [Option.bind_some]
    have e3 : lenI a.recs = ((a.A.length + a.B.length : Nat) : Int) := by unfold lenI recs; rw [List.length_map, List.length_append]
    have t1 : arReal .add .i64 a.dr ((a.A.length + a.B.length : Nat) : Int) = a.dr + ((a.A.length + a.B.length : Nat) : Int) := i64add (by omega) (by omega)
    have t2 : arReal .add .i64 (a.dr + ((a.A.length + a.B.length : Nat) : Int)) 1 = a.dr + ((a.A.length + a.B.length : Nat) : Int) + 1 := i64add (by omega) (by omega)
    have t3 : arReal .add .i64 0 (a.dr + ((a.A.length + a.B.length : Nat) : Int) + 1) = a.dr + ((a.A.length + a.B.length : Nat) : Int) + 1 := by rw [i64add (by omega) (by omega), Int.zero_add]
    rw [e3, t1, t2, t3, emp_Y]
    have g0 : ∀ x : Int, (a.emp x).S = 0 ∧ (a.emp x).E = 0 ∧ (a.emp x).W = 0 ∧ (a.emp x).dr = x := fun x => ⟨rfl, rfl, rfl, rfl⟩
    obtain ⟨g1, g2, g3, g4⟩ := g0 (mnI (a.dr + ((a.A.length + a.B.length : Nat) : Int) + 1) 1099511627776)
    rw [g1, g2, g3, g4]
  · rw [if_neg (by rw [dF (by omega)]; decide), if_neg hn, ring_prog hr _ _ _ _ (a.mu + 1) a h hp (by omega) (Y_len h) (by omega)]
    rfl
theorem Like.J {a b : AB} (h : Like a b) : a.J = b.J := by unfold AB.J; rw [h.2.2.1]
theorem p_cases (h : a.Good) : a.p = 1 ∨ a.p = 2 ∨ a.p = 3 := by
  have := h.p1; omega
theorem c16 (h : a.Good) {r : Rc} (hr : okR r) : d16 a.p a.Y a.S a.E a.W a.dr a.J a.idr a.rd r.1 r.2.1 r.2.2 = some ((a.put r).1.p, (a.put r).1.Y, (a.put r).1.S, (a.put r).1.E, (a.put r).1.W, (a.put r).1.dr, (a.put r).1.J, (a.put r).1.idr, (a.put r).1.rd, (a.put r).2, 0) := by
  have lk := (put_ok h hr).2
  have hv : d45 r.1 r.2.1 r.2.2 = some true := by rw [s45]; exact congrArg some hr.1
  unfold d16
  rw [c29 h]
  simp only [Option.bind_some]
  rw [if_neg (by decide), hv]
  simp only [Option.bind_some]
  rw [if_neg (by decide), c48 h]
  simp only [Option.bind_some]
  rw [lk.1, lk.J, lk.2.2.2.1, lk.2.2.2.2, c_eql, c_eql, c_eql]
  rcases p_cases h with hp | hp | hp
  · have hp3 : a.p ≠ 3 := by omega
    obtain ⟨g1, g2, g3⟩ := c46 h hp3 hr
    rw [if_pos (dT hp), s49r hr]
    simp only [Option.bind_some]
    rw [g1]
    simp only [Option.bind_some]
    rw [g2, g3]
  · have hp3 : a.p ≠ 3 := by omega
    obtain ⟨g1, g2, g3⟩ := c46 h hp3 hr
    rw [if_neg (by rw [dF (by omega)]; decide), if_pos (dT hp), s49r hr]
    simp only [Option.bind_some]
    rw [g1]
    simp only [Option.bind_some]
    rw [g2, g3]
  · have g := c47 h hp hr
    rw [if_neg (by rw [dF (by omega)]; decide), if_neg (by rw [dF (by omega)]; decide), if_pos (dT hp), s49r hr]
    simp only [Option.bind_some]
    rw [g]
    simp only [Option.bind_some]
theorem x16 (h : a.Good) {id t : Int} {d : List V} (hr : validB id t d = false) : d16 a.p a.Y a.S a.E a.W a.dr a.J a.idr a.rd id t d = some (0, [], 0, 0, 0, 0, [], 0, false, false, 221) := by
  have hv : d45 id t d = some false := by rw [s45]; exact congrArg some hr
  unfold d16
  rw [c29 h]
  simp only [Option.bind_some]
  rw [if_neg (by decide), hv]
  rfl
theorem c17 (h : a.Good) : d17 a.p a.Y a.S a.E a.W a.dr a.J a.idr a.rd = some (a.recs, 0) := by
  unfold d17
  rw [c29 h]
  simp only [Option.bind_some]
  rw [if_neg (by decide), c50 h]
  rfl
/-- A buffer behind Switch. -/
def sw (a : AB) : AB := { a.emp 0 with I := a.A, idr := a.dr, rd := true }
theorem sw_good (h : a.Good) (hp : a.p = 2) : a.sw.Good :=
  ⟨h.p1, h.n1, fun _ h => by simp [sw, emp] at h, fun _ h => by simp [sw, emp] at h, h.okA, ⟨by simp [sw, emp], by simp [sw, emp]⟩, h.dr1, by have := h.fit; show sz a.A ≤ a.n; omega, fun _ => hp, fun h => by simp [sw] at h, by simp [sw, emp, sz], by simp [sw, emp, sz], fun _ => ⟨rfl, rfl⟩, fun h => by simp [sw, emp] at h, fun _ => ⟨rfl, fun _ => rfl⟩⟩
theorem c25 (h : a.Good) : d25 a.p a.Y a.S a.E a.W a.dr a.J a.idr a.rd = some (if a.p ≠ 2 then (0, [], 0, 0, 0, 0, [], 0, false, 1) else if a.rd = true then (0, [], 0, 0, 0, 0, [], 0, false, 222) else (a.sw.p, a.sw.Y, a.sw.S, a.sw.E, a.sw.W, a.sw.dr, a.sw.J, a.sw.idr, a.sw.rd, 0)) := by
  unfold d25
  rw [c29 h]
  simp only [Option.bind_some]
  rw [if_neg (by decide), c_neq]
  by_cases hp : a.p ≠ 2
  · rw [if_pos (dT hp), if_pos hp]
  · rw [if_neg (by rw [dF hp]; decide), if_neg hp]
    cases hr : a.rd with
    | true => rfl
    | false =>
      rw [if_neg (by decide), if_neg (by decide)]
      have hB : encAll a.B = [] := by
        have hw := (h.np (by omega)).2
        rw [(h.nw hw).1]; rfl
      rw [← hr, c48 h]
      simp only [Option.bind_some]
      rw [c55 h]
      simp only [Option.bind_some]
      rw [s54 _ (by rw [encAll_len]; have := szA_le h; omega)]
      simp only [Option.bind_some]
      unfold d56v1
      simp only [Option.bind_some]
      rw [show lenI a.Y = ((a.Y.length : Nat) : Int) from rfl, repL_nat, show ovlReal a.Y 0 (zs a.Y.length) = zs a.n by
        rw [show (0 : Int) = ((0 : Nat) : Int) from rfl, ovl_nat _ _ _ (by rw [zs_len]; omega), Y_len h, zs_len, List.take_zero, List.nil_append, List.drop_of_length_le (by rw [Y_len h]; omega), List.append_nil]]
      have : a.sw.Y = zs a.n := emp_Y a 0
      rw [this]
      rfl
theorem c25_ok (h : a.Good) (hp : a.p = 2) (hr : a.rd = false) : d25 a.p a.Y a.S a.E a.W a.dr a.J a.idr a.rd = some (a.sw.p, a.sw.Y, a.sw.S, a.sw.E, a.sw.W, a.sw.dr, a.sw.J, a.sw.idr, a.sw.rd, 0) := by
  rw [c25 h, if_neg (fun h => h hp), if_neg (by rw [hr]; decide)]
theorem c25_idle (h : a.Good) (hp : a.p = 2) (hr : a.rd = true) : d25 a.p a.Y a.S a.E a.W a.dr a.J a.idr a.rd = some (0, [], 0, 0, 0, 0, [], 0, false, 222) := by
  rw [c25 h, if_neg (fun h => h hp), if_pos hr]
/-- A buffer behind Read. -/
def rdd (a : AB) : AB := { a with I := [], idr := 0, rd := false }
theorem c26 (h : a.Good) : d26 a.p a.Y a.S a.E a.W a.dr a.J a.idr a.rd = some (if a.p ≠ 2 then (0, [], 0, 0, 0, 0, [], 0, false, [], 0, 1) else if a.rd = false then (0, [], 0, 0, 0, 0, [], 0, false, [], 0, 3) else (a.rdd.p, a.rdd.Y, a.rdd.S, a.rdd.E, a.rdd.W, a.rdd.dr, a.rdd.J, a.rdd.idr, a.rdd.rd, a.I.map vR, a.idr, 0)) := by
  unfold d26
  rw [c29 h]
  simp only [Option.bind_some]
  rw [if_neg (by decide), c_neq]
  by_cases hp : a.p ≠ 2
  · rw [if_pos (dT hp), if_pos hp]
  · rw [if_neg (by rw [dF hp]; decide), if_neg hp]
    cases hr : a.rd with
    | false => rfl
    | true =>
      rw [if_neg (by decide), if_neg (by decide), ← hr, rI h]
      simp only [Option.bind_some]
      rw [c48 h]
      rfl
theorem c26_ok (h : a.Good) (hp : a.p = 2) (hr : a.rd = true) : d26 a.p a.Y a.S a.E a.W a.dr a.J a.idr a.rd = some (a.rdd.p, a.rdd.Y, a.rdd.S, a.rdd.E, a.rdd.W, a.rdd.dr, a.rdd.J, a.rdd.idr, a.rdd.rd, a.I.map vR, a.idr, 0) := by
  rw [c26 h, if_neg (fun h => h hp), if_neg (by rw [hr]; decide)]
theorem c27 (h : a.Good) : d27 a.p a.Y a.S a.E a.W a.dr a.J a.idr a.rd = some (a.I.map vR, a.idr, 0) := by
  unfold d27
  rw [c29 h]
  simp only [Option.bind_some]
  rw [if_neg (by decide), rI h]
  rfl
theorem c28 (h : a.Good) : d28 a.p a.Y a.S a.E a.W a.dr a.J a.idr a.rd = some ((a.emp 0).p, (a.emp 0).Y, (a.emp 0).S, (a.emp 0).E, (a.emp 0).W, (a.emp 0).dr, (a.emp 0).J, (a.emp 0).idr, (a.emp 0).rd, a.recs, a.dr, 0) := by
  unfold d28
  rw [c29 h]
  simp only [Option.bind_some]
  rw [if_neg (by decide), c48 h]
  simp only [Option.bind_some]
  rw [c56 h]
  simp only [Option.bind_some]
  rw [c50 h]
  simp only [Option.bind_some]
  rw [emp_Y]
  rfl
/-- How large a record may be that is stored without another one being removed. -/
def free (a : AB) : Int := if a.p ≠ 3 ∧ a.dr ≠ 0 then 0 else if a.wr = true then (a.s : Int) - a.e else if a.p = 3 then mxI ((a.n : Int) - a.e) a.s else (a.n : Int) - a.e
theorem c30 (h : a.Good) : d30 a.p a.Y a.S a.E a.W a.dr a.J a.idr a.rd = some (a.free, 0) := by
  have he := e_small h
  have hn := h.n1
  have hf := h.fit
  have e2 : lenI a.Y = (a.n : Int) := by unfold lenI; rw [Y_len h]
  unfold d30
  rw [c29 h]
  simp only [Option.bind_some]
  rw [if_neg (by decide)]
  refine bnd1 (a := decide (a.p ≠ 3 ∧ a.dr ≠ 0)) ?_ ?_
  · rw [c_neq, c_neq]
    by_cases hp : a.p ≠ 3
    · rw [if_pos (dT hp)]; exact congrArg some (dC ⟨fun h => ⟨hp, h⟩, fun h => h.2⟩)
    · rw [if_neg (by rw [dF hp]; decide)]; exact congrArg some (dF (fun h => hp h.1)).symm
  unfold free
  by_cases hc : a.p ≠ 3 ∧ a.dr ≠ 0
  · rw [if_pos (dT hc), if_pos hc]
  · rw [if_neg (by rw [dF hc]; decide), if_neg hc, c_neq, c_eql, e2]
    have t1 : arReal .sub .i64 a.S a.E = (a.s : Int) - a.e := by rw [Ee]; unfold S; exact i64sub (by omega) (by omega)
    have t2 : arReal .sub .i64 (a.n : Int) a.E = (a.n : Int) - a.e := by rw [Ee]; exact i64sub (by omega) (by omega)
    rw [t1, t2]
    cases hw : a.wr with
    | true =>
      have w0 : ¬ a.W = 0 := fun hh => by have := (W_zero h).1 hh; rw [hw] at this; cases this
      rw [if_pos (dT w0), if_pos rfl]
    | false =>
      have w0 := (W_zero h).2 hw
      rw [if_neg (by rw [dF (by simp [w0])]; decide)]
      by_cases hp : a.p = 3
      · rw [if_pos (dT hp), if_neg Bool.false_ne_true, if_pos hp]; rfl
      · rw [if_neg (by rw [dF hp]; decide), if_neg Bool.false_ne_true, if_neg hp]
end AB
section
variable {p : Int} {b : List V} {s e w dr : Int} {il : List V} {idr : Int} {rd : Bool}
theorem b16 (h : nvP p b s e w dr il idr rd) (id t : Int) (d : List V) : d16 p b s e w dr il idr rd id t d = some (0, [], 0, 0, 0, 0, [], 0, false, false, 220) := by
  unfold d16; rw [b29 h]; rfl
theorem b17 (h : nvP p b s e w dr il idr rd) : d17 p b s e w dr il idr rd = some ([], 220) := by
  unfold d17; rw [b29 h]; rfl
theorem b25 (h : nvP p b s e w dr il idr rd) : d25 p b s e w dr il idr rd = some (0, [], 0, 0, 0, 0, [], 0, false, 220) := by
  unfold d25; rw [b29 h]; rfl
theorem b26 (h : nvP p b s e w dr il idr rd) : d26 p b s e w dr il idr rd = some (0, [], 0, 0, 0, 0, [], 0, false, [], 0, 220) := by
  unfold d26; rw [b29 h]; rfl
theorem b27 (h : nvP p b s e w dr il idr rd) : d27 p b s e w dr il idr rd = some ([], 0, 220) := by
  unfold d27; rw [b29 h]; rfl
theorem b28 (h : nvP p b s e w dr il idr rd) : d28 p b s e w dr il idr rd = some (0, [], 0, 0, 0, 0, [], 0, false, [], 0, 220) := by
  unfold d28; rw [b29 h]; rfl
theorem b30 (h : nvP p b s e w dr il idr rd) : d30 p b s e w dr il idr rd = some (0, 220) := by
  unfold d30; rw [b29 h]; rfl
end
theorem s31 (id t : Int) (d : List V) : d31 id t d = some (if validB id t d = true then (((14 + d.length : Nat) : Int), 0) else (0, 221)) := by
  unfold d31
  rw [s45]
  simp only [Option.bind_some]
  show (if notB' (validB id t d) = true then _ else _) = _
  cases h : validB id t d
  · rfl
  · have := of_decide_eq_true h
    rw [if_neg (by decide), if_pos rfl, i64add (by unfold lenI; omega) (by unfold lenI; omega)]
    unfold lenI
    push_cast; rfl
/-- New: an empty buffer. -/
def newA (p : Int) (n : Nat) : AB := ⟨p, n, 0, [], [], false, 0, [], 0, false⟩
theorem new_good {p : Int} {n : Nat} (hp : 1 ≤ p ∧ p ≤ 3) (hn : 64 ≤ n ∧ n ≤ 4096) : (newA p n).Good :=
  ⟨hp, hn, fun _ h => by simp [newA] at h, fun _ h => by simp [newA] at h, fun _ h => by simp [newA] at h, ⟨by simp [newA], by simp [newA]⟩, ⟨by simp [newA], by simp [newA]⟩, by simp [newA, sz], fun h => by simp [newA] at h, fun _ => ⟨rfl, rfl⟩, by simp [newA, sz], by simp [newA, sz], fun _ => ⟨rfl, rfl⟩, fun h => by simp [newA] at h, fun _ => ⟨rfl, fun _ => rfl⟩⟩
theorem s15 (p n : Int) (hn : ¬ (p < 1 ∨ p > 3 ∨ n < 64 ∨ n > 4096)) : d15 p n = some ((newA p n.toNat).p, (newA p n.toNat).Y, (newA p n.toNat).S, (newA p n.toNat).E, (newA p n.toNat).W, (newA p n.toNat).dr, (newA p n.toNat).J, (newA p n.toNat).idr, (newA p n.toNat).rd, 0) := by
  unfold d15
  refine bnd1 (a := false) ?_ ?_
  · rw [c_lss, c_gtr, c_lss, c_gtr, if_neg (by rw [dF (by omega)]; decide), if_neg (by rw [dF (by omega)]; decide), if_neg (by rw [dF (by omega)]; decide), dF (by omega)]
  · rw [if_neg (by decide), if_pos (by unfold Ge0; omega), if_pos (room1s (by omega))]
    obtain ⟨m, rfl⟩ : ∃ m : Nat, n = m := ⟨n.toNat, by omega⟩
    rw [repL_nat, Int.toNat_natCast]
    have : (newA p m).Y = zs m := by simp [newA, AB.Y, AB.X, encAll, sz, zs]
    rw [this]
    rfl
end Go.Proofs.Ytdejapkfijdadaa
end
section
namespace Go.Proofs.Ytdejapkfijdadaa
open Go.Ab Go.RowKit

theorem scmp_refl (s : ByteArray) : strCmp .eql s s = true := by simp [strCmp]
theorem scmp_refl' (s : ByteArray) : strCmp .neq s s = false := by simp [strCmp]
theorem s37 (id t : Int) (d : List V) : d37 id t d id t d = some true := by
  unfold d37
  rw [c_eql, c_eql, if_pos (dT rfl), if_pos (dT rfl), scmp_refl]
theorem s18 (l : List V) (hl : l.length ≤ 1000000000000) : d18 l l = some true := by
  have hI : iter (d18_b1 l l) 0 = some (.inr () : Bool ⊕ Unit) := by
    refine iter_fun (fun s => ∃ i : Nat, i ≤ l.length ∧ s = (i : Int)) (fun s => (l.length - s).toNat) (fun _ => _) ?_ _ ⟨0, by omega, rfl⟩
    rintro s ⟨i, hi, rfl⟩
    by_cases hlt : i < l.length
    · left
      refine ⟨((i + 1 : Nat) : Int), ?_, ⟨i + 1, by omega, rfl⟩, by simp; omega, rfl⟩
      unfold d18_b1
      rw [if_pos (by rw [c_lss]; exact dT (by unfold lenI; omega)), if_pos (by unfold Inb lenI; omega), if_pos (by unfold Inb lenI; omega), s37]
      simp only [Option.bind_some]
      rw [if_neg (by decide), i64add (by omega) (by omega)]
      push_cast; rfl
    · right
      unfold d18_b1
      rw [if_neg (by rw [c_lss, dF (by unfold lenI; omega)]; decide)]
  unfold d18
  rw [if_neg (by rw [c_neq, dF (by simp)]; decide), hI]
  rfl
theorem toBy_list (l : List V) : (toBy l).toList = l.map fun e => UInt8.ofNat (Ab.asInt e).toNat := by
  rw [ByteArray.toList_eq]
  simp [toBy]
theorem u8_of {v w : V} (hv : U8 v) (hw : U8 w) (h : UInt8.ofNat (Ab.asInt v).toNat = UInt8.ofNat (Ab.asInt w).toNat) : v = w := by
  obtain ⟨n, rfl, h1, h2⟩ := hv
  obtain ⟨m, rfl, h3, h4⟩ := hw
  have k := congrArg UInt8.toNat h
  simp only [Ab.asInt, UInt8.toNat_ofNat'] at k
  have : n = m := by omega
  rw [this]
theorem u8_list : ∀ {l m : List V}, (∀ v ∈ l, U8 v) → (∀ v ∈ m, U8 v) → (l.map fun e => UInt8.ofNat (Ab.asInt e).toNat) = (m.map fun e => UInt8.ofNat (Ab.asInt e).toNat) → l = m
  | [], [], _, _, _ => rfl
  | [], _ :: _, _, _, e => by simp at e
  | _ :: _, [], _, _, e => by simp at e
  | v :: l, w :: m, h, h', e => by
    simp only [List.map_cons, List.cons.injEq] at e
    rw [u8_of (h v (by simp)) (h' w (by simp)) e.1, u8_list (fun x hx => h x (by simp [hx])) (fun x hx => h' x (by simp [hx])) e.2]
open Classical in
theorem scmp8 {l m : List V} (hl : ∀ v ∈ l, U8 v) (hm : ∀ v ∈ m, U8 v) : strCmp .eql (toBy l) (toBy m) = decide (l = m) := by
  show ((toBy l).toList == (toBy m).toList) = _
  rw [toBy_list, toBy_list]
  by_cases h : l = m
  · subst h; rw [dT rfl]; simp
  · rw [dF h, beq_eq_false_iff_ne]
    exact fun k => h (u8_list hl hm k)
open Classical in
theorem s66 {l m : List V} (hl : ∀ v ∈ l, U8 v) (hm : ∀ v ∈ m, U8 v) (hs : l.length ≤ 9223372036854775807) : d66 l m = some (strCmp .eql (toBy l) (toBy m)) := by
  rw [scmp8 hl hm]
  unfold d66
  rw [c_neq]
  by_cases hlen : l.length = m.length
  · rw [if_neg (by rw [dF (by unfold lenI; omega)]; decide)]
    have hI : iter (d66_b1 l m) 0 = some (if l = m then (.inr () : Bool ⊕ Unit) else .inl false) := by
      refine iter_fun (fun s => ∃ i : Nat, i ≤ l.length ∧ s = (i : Int) ∧ l.take i = m.take i) (fun s => (l.length - s).toNat) (fun _ => _) ?_ _ ⟨0, by omega, rfl, by simp⟩
      rintro s ⟨i, hi, rfl, hz⟩
      by_cases hlt : i < l.length
      · have c0 : cmpLit .lss (i : Int) (lenI l) = true := by rw [c_lss]; exact dT (by unfold lenI; omega)
        have c1 : Inb (i : Int) (lenI l) := by unfold Inb lenI; omega
        have c2 : Inb (i : Int) (lenI m) := by unfold Inb lenI; omega
        have u1 := hl l[i] (List.getElem_mem hlt)
        have u2 := hm m[i] (List.getElem_mem (by omega))
        have e : Ab.asInt l[i] = Ab.asInt m[i] ↔ l[i] = m[i] := ⟨fun h => u1.inj u2 h, fun h => by rw [h]⟩
        have e1 : d66_b1 l m (i : Int) = if l[i] = m[i] then some (.inl ((i + 1 : Nat) : Int)) else some (.inr (.inl false)) := by
          unfold d66_b1
          rw [if_pos c0, if_pos c1, if_pos c2, gI_at8 l i hlt hl, gI_at8 m i (by omega) hm, c_neq]
          by_cases hh : l[i] = m[i]
          · rw [if_pos hh, if_neg (by rw [dF (fun h => h (e.2 hh))]; decide), i64add (by omega) (by omega)]; push_cast; rfl
          · rw [if_neg hh, if_pos (dT (fun h => hh (e.1 h)))]
        by_cases hh : l[i] = m[i]
        · left
          rw [if_pos hh] at e1
          refine ⟨_, e1, ⟨i + 1, by omega, rfl, ?_⟩, by simp; omega, rfl⟩
          rw [List.take_succ_eq_append_getElem hlt, List.take_succ_eq_append_getElem (by omega), hz, hh]
        · right
          rw [e1, if_neg hh, if_neg (fun h => hh (by subst h; rfl))]
      · right
        unfold d66_b1
        have : i = l.length := by omega
        rw [this, List.take_length, List.take_of_length_le (by omega)] at hz
        rw [if_neg (by rw [c_lss, dF (by unfold lenI; omega)]; decide), if_pos hz]
    rw [hI]
    by_cases h : l = m
    · rw [if_pos h, dT h]; rfl
    · rw [if_neg h, dF h]; rfl
  · rw [if_pos (dT (by unfold lenI; omega)), dF (fun h => hlen (by rw [h]))]
theorem s23 (p : Int) (b : List V) (s e w dr : Int) (il : List V) (idr : Int) (rd : Bool) : d23 p b s e w dr il idr rd p b s e w dr il idr rd = some true := by
  unfold d23
  simp only [c_eql, scmp_refl, dT, if_true]
  cases rd <;> rfl
theorem s43 (p : Int) (b : List V) (s e w dr : Int) (il : List V) (idr : Int) (rd : Bool) (p' : Int) (b' : List V) (s' e' w' dr' : Int) (il' : List V) (idr' : Int) (rd' : Bool) (hb : ∀ v ∈ b, U8 v) (hb' : ∀ v ∈ b', U8 v) (hi : ∀ v ∈ il, U8 v) (hi' : ∀ v ∈ il', U8 v) (hs : b.length ≤ 9223372036854775807) (hs' : il.length ≤ 9223372036854775807) : d43 p b s e w dr il idr rd p' b' s' e' w' dr' il' idr' rd' = d23 p b s e w dr il idr rd p' b' s' e' w' dr' il' idr' rd' := by
  unfold d43 d23
  rw [s66 hb hb' hs, s66 hi hi' hs']
  rfl
theorem d23_some (p : Int) (b : List V) (s e w dr : Int) (il : List V) (idr : Int) (rd : Bool) (p' : Int) (b' : List V) (s' e' w' dr' : Int) (il' : List V) (idr' : Int) (rd' : Bool) : ∃ r, d23 p b s e w dr il idr rd p' b' s' e' w' dr' il' idr' rd' = some r := by
  unfold d23
  repeat' split
  all_goals exact ⟨_, rfl⟩
theorem beq_refl (b : Bool) : beqB b b = true := by cases b <;> rfl
end Go.Proofs.Ytdejapkfijdadaa
end
section
namespace Go.Proofs.Ytdejapkfijdadaa
open Go.Ab Go.RowKit
set_option maxRecDepth 100000
noncomputable def d14_b2 (s135 : Int × Int × Int × List V × Int × Int × Int × Int × List V × Int × Bool) : Option ((Int × Int × Int × List V × Int × Int × Int × Int × List V × Int × Bool) ⊕ ((Bool) ⊕ (Int × Int × List V × Int × Int × Int × Int × List V × Int × Bool))) :=
  if (cmpLit .lss s135.2.1 5) = true then
    (d16 s135.2.2.1 s135.2.2.2.1 s135.2.2.2.2.1 s135.2.2.2.2.2.1 s135.2.2.2.2.2.2.1 s135.2.2.2.2.2.2.2.1 s135.2.2.2.2.2.2.2.2.1 s135.2.2.2.2.2.2.2.2.2.1 s135.2.2.2.2.2.2.2.2.2.2 (arReal .add .i64 s135.2.1 1) 0 [.i .u8 1, .i .u8 2]).bind fun x140 =>
    if (cmpLit .neq x140.2.2.2.2.2.2.2.2.2.2 0) = true then
      some (.inr (.inl false))
    else
      if x140.2.2.2.2.2.2.2.2.2.1 = true then
        some (.inl ((arReal .add .i64 s135.1 1), (arReal .add .i64 s135.2.1 1), x140.1, x140.2.1, x140.2.2.1, x140.2.2.2.1, x140.2.2.2.2.1, x140.2.2.2.2.2.1, x140.2.2.2.2.2.2.1, x140.2.2.2.2.2.2.2.1, x140.2.2.2.2.2.2.2.2.1))
      else
        some (.inl (s135.1, (arReal .add .i64 s135.2.1 1), x140.1, x140.2.1, x140.2.2.1, x140.2.2.2.1, x140.2.2.2.2.1, x140.2.2.2.2.2.1, x140.2.2.2.2.2.2.1, x140.2.2.2.2.2.2.2.1, x140.2.2.2.2.2.2.2.2.1))
  else
    some (.inr (.inr (s135.1, s135.2.2.1, s135.2.2.2.1, s135.2.2.2.2.1, s135.2.2.2.2.2.1, s135.2.2.2.2.2.2.1, s135.2.2.2.2.2.2.2.1, s135.2.2.2.2.2.2.2.2.1, s135.2.2.2.2.2.2.2.2.2.1, s135.2.2.2.2.2.2.2.2.2.2)))
noncomputable def d14_b1 (s74 : Int) : Option ((Int) ⊕ ((Bool) ⊕ (Unit))) :=
  if (cmpLit .leq s74 3) = true then
    Option.bind (α := (Unit) ⊕ (Bool)) (
      (d15 s74 64).bind fun x121 =>
      if (cmpLit .neq x121.2.2.2.2.2.2.2.2.2 0) = true then
        some (.inr false)
      else
        Option.bind (α := (Int × Int × List V × Int × Int × Int × Int × List V × Int × Bool) ⊕ (Bool)) (
          (iter (d14_b2) (0, 0, x121.1, x121.2.1, x121.2.2.1, x121.2.2.2.1, x121.2.2.2.2.1, x121.2.2.2.2.2.1, x121.2.2.2.2.2.2.1, x121.2.2.2.2.2.2.2.1, x121.2.2.2.2.2.2.2.2.1)).bind fun y138 =>
          match y138 with
          | .inl p141 =>
            some (.inr p141)
          | .inr y138r0 =>
            some (.inl (y138r0.1, y138r0.2.1, y138r0.2.2.1, y138r0.2.2.2.1, y138r0.2.2.2.2.1, y138r0.2.2.2.2.2.1, y138r0.2.2.2.2.2.2.1, y138r0.2.2.2.2.2.2.2.1, y138r0.2.2.2.2.2.2.2.2.1, y138r0.2.2.2.2.2.2.2.2.2))) fun y130 =>
        match y130 with
        | .inl p143 =>
          (d17 p143.2.1 p143.2.2.1 p143.2.2.2.1 p143.2.2.2.2.1 p143.2.2.2.2.2.1 p143.2.2.2.2.2.2.1 p143.2.2.2.2.2.2.2.1 p143.2.2.2.2.2.2.2.2.1 p143.2.2.2.2.2.2.2.2.2).bind fun x144 =>
          Option.bind (α := Bool) (
            if (cmpLit .neq x144.2 0) = true then
              some true
            else
              if (cmpLit .neq (lenI x144.1) 4) = true then
                some true
              else
                if (cmpLit .neq p143.2.2.2.2.2.2.1 1) = true then
                  some true
                else
                  if (cmpLit .eql s74 3) = true then
                    if (cmpLit .neq p143.2.2.2.1 16) = true then
                      some true
                    else
                      if (cmpLit .neq p143.2.2.2.2.1 16) = true then
                        some true
                      else
                        if (cmpLit .neq p143.2.2.2.2.2.1 64) = true then
                          some true
                        else
                          if (cmpLit .neq p143.1 5) = true then
                            some true
                          else
                            if (Inb 0 (lenI x144.1)) then
                              if (cmpLit .neq (gI x144.1 0 0) 2) = true then
                                some true
                              else
                                if (cmpLit .neq s74 3) = true then
                                  if (cmpLit .neq p143.1 4) = true then
                                    some true
                                  else
                                    if (Inb 0 (lenI x144.1)) then
                                      some (cmpLit .neq (gI x144.1 0 0) 1)
                                    else none
                                else
                                  some false
                            else none
                  else
                    if (cmpLit .neq s74 3) = true then
                      if (cmpLit .neq p143.1 4) = true then
                        some true
                      else
                        if (Inb 0 (lenI x144.1)) then
                          some (cmpLit .neq (gI x144.1 0 0) 1)
                        else none
                    else
                      some false) fun y147 =>
          if y147 = true then
            some (.inr false)
          else
            if (cmpLit .eql s74 2) = true then
              (d25 p143.2.1 p143.2.2.1 p143.2.2.2.1 p143.2.2.2.2.1 p143.2.2.2.2.2.1 p143.2.2.2.2.2.2.1 p143.2.2.2.2.2.2.2.1 p143.2.2.2.2.2.2.2.2.1 p143.2.2.2.2.2.2.2.2.2).bind fun x149 =>
              (d25 x149.1 x149.2.1 x149.2.2.1 x149.2.2.2.1 x149.2.2.2.2.1 x149.2.2.2.2.2.1 x149.2.2.2.2.2.2.1 x149.2.2.2.2.2.2.2.1 x149.2.2.2.2.2.2.2.2.1).bind fun x150 =>
              (d26 x149.1 x149.2.1 x149.2.2.1 x149.2.2.2.1 x149.2.2.2.2.1 x149.2.2.2.2.2.1 x149.2.2.2.2.2.2.1 x149.2.2.2.2.2.2.2.1 x149.2.2.2.2.2.2.2.2.1).bind fun x151 =>
              Option.bind (α := Bool) (
                if (cmpLit .neq x149.2.2.2.2.2.2.2.2.2 0) = true then
                  some true
                else
                  if (cmpLit .neq x150.2.2.2.2.2.2.2.2.2 222) = true then
                    some true
                  else
                    if (cmpLit .neq x151.2.2.2.2.2.2.2.2.2.2.2 0) = true then
                      some true
                    else
                      if (cmpLit .neq (lenI x151.2.2.2.2.2.2.2.2.2.1) 4) = true then
                        some true
                      else
                        if (cmpLit .neq x151.2.2.2.2.2.2.2.2.2.2.1 1) = true then
                          some true
                        else
                          some (cmpLit .neq x149.2.2.2.2.2.1 0)) fun y152 =>
              if y152 = true then
                some (.inr false)
              else
                some (.inl ())
            else
              some (.inl ())
        | .inr y130r0 =>
          some (.inr y130r0)) fun y120 =>
    match y120 with
    | .inl p155 =>
      some (.inl (arReal .add .i64 s74 1))
    | .inr y120r0 =>
      some (.inr (.inl y120r0))
  else
    some (.inr (.inr ()))
noncomputable def d14 : Option (Bool) :=
  (d24 1 2 [.i .u8 9]).bind fun x1 =>
  if (cmpLit .neq x1.2 0) = true then
    some false
  else
    if (strCmp .neq (toBy x1.1) (ByteArray.mk #[1, 0, 0, 0, 2, 0, 0, 0, 0, 0, 0, 0, 1, 0, 9])) = true then
      some false
    else
      Option.bind (α := (Unit) ⊕ (Bool)) (
        (iter (d14_b1) 1).bind fun y98 =>
        match y98 with
        | .inl p157 =>
          some (.inr p157)
        | .inr y98r0 =>
          some (.inl ())) fun y50 =>
      match y50 with
      | .inl p159 =>
        (d44).bind fun x160 =>
        some x160
      | .inr y50r0 =>
        some y50r0
noncomputable def d6 (a0 : List V) (a1 : Int) (a2 : Int) : Option (Bool) :=
  (d14).bind fun x1 =>
  (d20 a0).bind fun x2 =>
  (d15 a1 a2).bind fun x3 =>
  (d21 a0).bind fun x4 =>
  (d22 a1 a2).bind fun x5 =>
  if x1 = true then
    (d18 x2.1 x4.1).bind fun x8 =>
    if x8 = true then
      if (cmpLit .eql x2.2 x4.2.2) = true then
        (d23 x3.1 x3.2.1 x3.2.2.1 x3.2.2.2.1 x3.2.2.2.2.1 x3.2.2.2.2.2.1 x3.2.2.2.2.2.2.1 x3.2.2.2.2.2.2.2.1 x3.2.2.2.2.2.2.2.2.1 x5.1 x5.2.1 x5.2.2.1 x5.2.2.2.1 x5.2.2.2.2.1 x5.2.2.2.2.2.1 x5.2.2.2.2.2.2.1 x5.2.2.2.2.2.2.2.1 x5.2.2.2.2.2.2.2.2.1).bind fun x9 =>
        if x9 = true then
          some (cmpLit .eql x3.2.2.2.2.2.2.2.2.2 x5.2.2.2.2.2.2.2.2.2.2.2.2)
        else
          some false
      else
        some false
    else
      some false
  else
    some false
noncomputable def d11 (a0_0 : Int) (a0_1 : List V) (a0_2 : Int) (a0_3 : Int) (a0_4 : Int) (a0_5 : Int) (a0_6 : List V) (a0_7 : Int) (a0_8 : Bool) (a1_0 : Int) (a1_1 : Int) (a1_2 : List V) : Option (Bool) :=
  (d14).bind fun x1 =>
  (d16 a0_0 a0_1 a0_2 a0_3 a0_4 a0_5 a0_6 a0_7 a0_8 a1_0 a1_1 a1_2).bind fun x2 =>
  (d30 a0_0 a0_1 a0_2 a0_3 a0_4 a0_5 a0_6 a0_7 a0_8).bind fun x3 =>
  (d31 a1_0 a1_1 a1_2).bind fun x4 =>
  (d24 a1_0 a1_1 a1_2).bind fun x5 =>
  (d32 a0_0 a0_1 a0_2 a0_3 a0_4 a0_5 a0_6 a0_7 a0_8 a1_0 a1_1 a1_2).bind fun x6 =>
  (d33 a0_0 a0_1 a0_2 a0_3 a0_4 a0_5 a0_6 a0_7 a0_8).bind fun x7 =>
  (d34 a1_0 a1_1 a1_2).bind fun x8 =>
  (d35 a1_0 a1_1 a1_2).bind fun x9 =>
  if x1 = true then
    (d29 a0_0 a0_1 a0_2 a0_3 a0_4 a0_5 a0_6 a0_7 a0_8).bind fun x13 =>
    (d36 a0_0 a0_1 a0_2 a0_3 a0_4 a0_5 a0_6 a0_7 a0_8).bind fun x14 =>
    if (cmpLit .eql x13 x14) = true then
      (d23 x2.1 x2.2.1 x2.2.2.1 x2.2.2.2.1 x2.2.2.2.2.1 x2.2.2.2.2.2.1 x2.2.2.2.2.2.2.1 x2.2.2.2.2.2.2.2.1 x2.2.2.2.2.2.2.2.2.1 x6.1 x6.2.1 x6.2.2.1 x6.2.2.2.1 x6.2.2.2.2.1 x6.2.2.2.2.2.1 x6.2.2.2.2.2.2.1 x6.2.2.2.2.2.2.2.1 x6.2.2.2.2.2.2.2.2.1).bind fun x15 =>
      if x15 = true then
        if (beqB x2.2.2.2.2.2.2.2.2.2.1 x6.2.2.2.2.2.2.2.2.2.1) = true then
          if (cmpLit .eql x2.2.2.2.2.2.2.2.2.2.2 x6.2.2.2.2.2.2.2.2.2.2.2.2) = true then
            if (cmpLit .eql x3.1 x7.1) = true then
              if (cmpLit .eql x3.2 x7.2) = true then
                if (cmpLit .eql x4.1 x8.1) = true then
                  if (cmpLit .eql x4.2 x8.2) = true then
                    if (strCmp .eql (toBy x5.1) (toBy x9.1)) = true then
                      some (cmpLit .eql x5.2 x9.2)
                    else
                      some false
                  else
                    some false
                else
                  some false
              else
                some false
            else
              some false
          else
            some false
        else
          some false
      else
        some false
    else
      some false
  else
    some false
noncomputable def d13 (a0_0 : Int) (a0_1 : List V) (a0_2 : Int) (a0_3 : Int) (a0_4 : Int) (a0_5 : Int) (a0_6 : List V) (a0_7 : Int) (a0_8 : Bool) (a1_0 : Int) (a1_1 : List V) (a1_2 : Int) (a1_3 : Int) (a1_4 : Int) (a1_5 : Int) (a1_6 : List V) (a1_7 : Int) (a1_8 : Bool) : Option (Bool) :=
  (d14).bind fun x1 =>
  (d25 a0_0 a0_1 a0_2 a0_3 a0_4 a0_5 a0_6 a0_7 a0_8).bind fun x2 =>
  (d26 a0_0 a0_1 a0_2 a0_3 a0_4 a0_5 a0_6 a0_7 a0_8).bind fun x3 =>
  (d28 a0_0 a0_1 a0_2 a0_3 a0_4 a0_5 a0_6 a0_7 a0_8).bind fun x4 =>
  (d17 a0_0 a0_1 a0_2 a0_3 a0_4 a0_5 a0_6 a0_7 a0_8).bind fun x5 =>
  (d27 a0_0 a0_1 a0_2 a0_3 a0_4 a0_5 a0_6 a0_7 a0_8).bind fun x6 =>
  (d38 a0_0 a0_1 a0_2 a0_3 a0_4 a0_5 a0_6 a0_7 a0_8).bind fun x7 =>
  (d39 a0_0 a0_1 a0_2 a0_3 a0_4 a0_5 a0_6 a0_7 a0_8).bind fun x8 =>
  (d40 a0_0 a0_1 a0_2 a0_3 a0_4 a0_5 a0_6 a0_7 a0_8).bind fun x9 =>
  (d41 a0_0 a0_1 a0_2 a0_3 a0_4 a0_5 a0_6 a0_7 a0_8).bind fun x10 =>
  (d42 a0_0 a0_1 a0_2 a0_3 a0_4 a0_5 a0_6 a0_7 a0_8).bind fun x11 =>
  Option.bind (α := Bool) (
    if (notB' x1) = true then
      some true
    else
      (d23 x2.1 x2.2.1 x2.2.2.1 x2.2.2.2.1 x2.2.2.2.2.1 x2.2.2.2.2.2.1 x2.2.2.2.2.2.2.1 x2.2.2.2.2.2.2.2.1 x2.2.2.2.2.2.2.2.2.1 x7.1 x7.2.1 x7.2.2.1 x7.2.2.2.1 x7.2.2.2.2.1 x7.2.2.2.2.2.1 x7.2.2.2.2.2.2.1 x7.2.2.2.2.2.2.2.1 x7.2.2.2.2.2.2.2.2.1).bind fun x21 =>
      if (notB' x21) = true then
        some true
      else
        if (cmpLit .neq x2.2.2.2.2.2.2.2.2.2 x7.2.2.2.2.2.2.2.2.2.2.2.2) = true then
          some true
        else
          (d23 x3.1 x3.2.1 x3.2.2.1 x3.2.2.2.1 x3.2.2.2.2.1 x3.2.2.2.2.2.1 x3.2.2.2.2.2.2.1 x3.2.2.2.2.2.2.2.1 x3.2.2.2.2.2.2.2.2.1 x8.1 x8.2.1 x8.2.2.1 x8.2.2.2.1 x8.2.2.2.2.1 x8.2.2.2.2.2.1 x8.2.2.2.2.2.2.1 x8.2.2.2.2.2.2.2.1 x8.2.2.2.2.2.2.2.2.1).bind fun x22 =>
          if (notB' x22) = true then
            some true
          else
            (d18 x3.2.2.2.2.2.2.2.2.2.1 x8.2.2.2.2.2.2.2.2.2.2.1).bind fun x23 =>
            if (notB' x23) = true then
              some true
            else
              if (cmpLit .neq x3.2.2.2.2.2.2.2.2.2.2.1 x8.2.2.2.2.2.2.2.2.2.2.2.1) = true then
                some true
              else
                some (cmpLit .neq x3.2.2.2.2.2.2.2.2.2.2.2 x8.2.2.2.2.2.2.2.2.2.2.2.2)) fun y20 =>
  if y20 = true then
    some false
  else
    Option.bind (α := Bool) (
      (d23 x4.1 x4.2.1 x4.2.2.1 x4.2.2.2.1 x4.2.2.2.2.1 x4.2.2.2.2.2.1 x4.2.2.2.2.2.2.1 x4.2.2.2.2.2.2.2.1 x4.2.2.2.2.2.2.2.2.1 x9.1 x9.2.1 x9.2.2.1 x9.2.2.2.1 x9.2.2.2.2.1 x9.2.2.2.2.2.1 x9.2.2.2.2.2.2.1 x9.2.2.2.2.2.2.2.1 x9.2.2.2.2.2.2.2.2.1).bind fun x34 =>
      if (notB' x34) = true then
        some true
      else
        (d18 x4.2.2.2.2.2.2.2.2.2.1 x9.2.2.2.2.2.2.2.2.2.2.1).bind fun x35 =>
        if (notB' x35) = true then
          some true
        else
          if (cmpLit .neq x4.2.2.2.2.2.2.2.2.2.2.1 x9.2.2.2.2.2.2.2.2.2.2.2.1) = true then
            some true
          else
            if (cmpLit .neq x4.2.2.2.2.2.2.2.2.2.2.2 x9.2.2.2.2.2.2.2.2.2.2.2.2) = true then
              some true
            else
              (d18 x5.1 x10.1).bind fun x36 =>
              if (notB' x36) = true then
                some true
              else
                some (cmpLit .neq x5.2 x10.2.2)) fun y33 =>
    if y33 = true then
      some false
    else
      (d18 x6.1 x11.1).bind fun x42 =>
      if x42 = true then
        if (cmpLit .eql x6.2.1 x11.2.1) = true then
          if (cmpLit .eql x6.2.2 x11.2.2) = true then
            (d43 a0_0 a0_1 a0_2 a0_3 a0_4 a0_5 a0_6 a0_7 a0_8 a1_0 a1_1 a1_2 a1_3 a1_4 a1_5 a1_6 a1_7 a1_8).bind fun x43 =>
            (d23 a0_0 a0_1 a0_2 a0_3 a0_4 a0_5 a0_6 a0_7 a0_8 a1_0 a1_1 a1_2 a1_3 a1_4 a1_5 a1_6 a1_7 a1_8).bind fun x44 =>
            if (beqB x43 x44) = true then
              (d43 a0_0 a0_1 a0_2 a0_3 a0_4 a0_5 a0_6 a0_7 a0_8 a0_0 a0_1 a0_2 a0_3 a0_4 a0_5 a0_6 a0_7 a0_8).bind fun x45 =>
              some x45
            else
              some false
          else
            some false
        else
          some false
      else
        some false
end Go.Proofs.Ytdejapkfijdadaa
end
