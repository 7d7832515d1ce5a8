/- Texts of this seat, merged in build order. No statement of its own. -/
import Derived.Test.YtjcabmhnekcbgaaC6
set_option linter.unusedVariables false
set_option linter.unusedSimpArgs false
section
namespace Go.Proofs.Ytjcabmhnekcbgaa
open Go.Ab Go.RowKit 
set_option maxRecDepth 100000
set_option maxHeartbeats 4000000
noncomputable def d14 (a0 : Int) (a1_0 : Int) (a1_1 : Bool) (a2 : Int) (a3_0 : Int) (a3_1 : Bool) (a4 : Int) : Option (Int × Bool × Int × Int) :=
  (d31 a1_0 a1_1 a3_0 a3_1).bind fun x2 =>
  if (cmpLit .neq x2 0) = true then
    some (0, false, 0, x2)
  else
    (d32 a1_0 a1_1 a2).bind fun x3 =>
    (d32 a3_0 a3_1 a4).bind fun x4 =>
    (d33 a1_0 a1_1 a3_0 a3_1).bind fun x5 =>
    (d34).bind fun x71 =>
    if (cmpLit .eql a0 1) = true then
      (d32 x5.1 x5.2 x3).bind fun x72 =>
      (d32 x5.1 x5.2 x4).bind fun x73 =>
      Option.bind (α := Bool) (
        if (cmpLit .eql x73 0) = true then
          if (cmpLit .eql a0 4) = true then
            some true
          else
            some (cmpLit .eql a0 5)
        else
          some false) fun y76 =>
      if y76 = true then
        some (0, false, 0, 12)
      else
        (d61 x5.1 x5.2 x72 x73).bind fun x78 =>
        (d32 x5.1 x5.2 x78).bind fun x79 =>
        some (x5.1, x5.2, x79, 0)
    else
      if (cmpLit .eql a0 2) = true then
        (d32 x5.1 x5.2 x3).bind fun x80 =>
        (d32 x5.1 x5.2 x4).bind fun x81 =>
        Option.bind (α := Bool) (
          if (cmpLit .eql x81 0) = true then
            if (cmpLit .eql a0 4) = true then
              some true
            else
              some (cmpLit .eql a0 5)
          else
            some false) fun y84 =>
        if y84 = true then
          some (0, false, 0, 12)
        else
          (d62 x5.1 x5.2 x80 x81).bind fun x86 =>
          (d32 x5.1 x5.2 x86).bind fun x87 =>
          some (x5.1, x5.2, x87, 0)
      else
        if (cmpLit .eql a0 3) = true then
          (d32 x5.1 x5.2 x3).bind fun x88 =>
          (d32 x5.1 x5.2 x4).bind fun x89 =>
          Option.bind (α := Bool) (
            if (cmpLit .eql x89 0) = true then
              if (cmpLit .eql a0 4) = true then
                some true
              else
                some (cmpLit .eql a0 5)
            else
              some false) fun y92 =>
          if y92 = true then
            some (0, false, 0, 12)
          else
            (d63 x5.1 x5.2 x88 x89).bind fun x94 =>
            (d32 x5.1 x5.2 x94).bind fun x95 =>
            some (x5.1, x5.2, x95, 0)
        else
          if (cmpLit .eql a0 6) = true then
            (d32 x5.1 x5.2 x3).bind fun x96 =>
            (d32 x5.1 x5.2 x4).bind fun x97 =>
            Option.bind (α := Bool) (
              if (cmpLit .eql x97 0) = true then
                if (cmpLit .eql a0 4) = true then
                  some true
                else
                  some (cmpLit .eql a0 5)
              else
                some false) fun y100 =>
            if y100 = true then
              some (0, false, 0, 12)
            else
              (d64 x5.1 x5.2 x96 x97).bind fun x102 =>
              (d32 x5.1 x5.2 x102).bind fun x103 =>
              some (x5.1, x5.2, x103, 0)
          else
            if (cmpLit .eql a0 7) = true then
              (d32 x5.1 x5.2 x3).bind fun x104 =>
              (d32 x5.1 x5.2 x4).bind fun x105 =>
              Option.bind (α := Bool) (
                if (cmpLit .eql x105 0) = true then
                  if (cmpLit .eql a0 4) = true then
                    some true
                  else
                    some (cmpLit .eql a0 5)
                else
                  some false) fun y108 =>
              if y108 = true then
                some (0, false, 0, 12)
              else
                (d65 x5.1 x5.2 x104 x105).bind fun x110 =>
                (d32 x5.1 x5.2 x110).bind fun x111 =>
                some (x5.1, x5.2, x111, 0)
            else
              if (cmpLit .eql a0 8) = true then
                (d32 x5.1 x5.2 x3).bind fun x112 =>
                (d32 x5.1 x5.2 x4).bind fun x113 =>
                Option.bind (α := Bool) (
                  if (cmpLit .eql x113 0) = true then
                    if (cmpLit .eql a0 4) = true then
                      some true
                    else
                      some (cmpLit .eql a0 5)
                  else
                    some false) fun y116 =>
                if y116 = true then
                  some (0, false, 0, 12)
                else
                  (d66 x5.1 x5.2 x112 x113).bind fun x118 =>
                  (d32 x5.1 x5.2 x118).bind fun x119 =>
                  some (x5.1, x5.2, x119, 0)
              else
                if (cmpLit .eql a0 4) = true then
                  (d32 x5.1 x5.2 x3).bind fun x120 =>
                  (d32 x5.1 x5.2 x4).bind fun x121 =>
                  Option.bind (α := Bool) (
                    if (cmpLit .eql x121 0) = true then
                      if (cmpLit .eql a0 4) = true then
                        some true
                      else
                        some (cmpLit .eql a0 5)
                    else
                      some false) fun y124 =>
                  if y124 = true then
                    some (0, false, 0, 12)
                  else
                    (d67 x5.1 x5.2 x120 x121).bind fun x126 =>
                    (d32 x5.1 x5.2 x126).bind fun x127 =>
                    some (x5.1, x5.2, x127, 0)
                else
                  if (cmpLit .eql a0 5) = true then
                    (d32 x5.1 x5.2 x3).bind fun x128 =>
                    (d32 x5.1 x5.2 x4).bind fun x129 =>
                    Option.bind (α := Bool) (
                      if (cmpLit .eql x129 0) = true then
                        if (cmpLit .eql a0 4) = true then
                          some true
                        else
                          some (cmpLit .eql a0 5)
                      else
                        some false) fun y132 =>
                    if y132 = true then
                      some (0, false, 0, 12)
                    else
                      (d69 x5.1 x5.2 x128 x129).bind fun x134 =>
                      (d32 x5.1 x5.2 x134).bind fun x135 =>
                      some (x5.1, x5.2, x135, 0)
                  else
                    (d35).bind fun x173 =>
                    if (cmpLit .eql a0 11) = true then
                      (d36).bind fun x174 =>
                      (d32 x5.1 x5.2 x3).bind fun x175 =>
                      (d32 x5.1 x5.2 x4).bind fun x176 =>
                      (d38 x5.1 x5.2 x175 x176).bind fun x177 =>
                      (d70 x177).bind fun x178 =>
                      (d37 x178).bind fun x179 =>
                      some (x174.1, x174.2, x179, 0)
                    else
                      if (cmpLit .eql a0 12) = true then
                        (d36).bind fun x180 =>
                        (d32 x5.1 x5.2 x3).bind fun x181 =>
                        (d32 x5.1 x5.2 x4).bind fun x182 =>
                        (d38 x5.1 x5.2 x181 x182).bind fun x183 =>
                        (d71 x183).bind fun x184 =>
                        (d37 x184).bind fun x185 =>
                        some (x180.1, x180.2, x185, 0)
                      else
                        if (cmpLit .eql a0 13) = true then
                          (d36).bind fun x186 =>
                          (d32 x5.1 x5.2 x3).bind fun x187 =>
                          (d32 x5.1 x5.2 x4).bind fun x188 =>
                          (d38 x5.1 x5.2 x187 x188).bind fun x189 =>
                          (d72 x189).bind fun x190 =>
                          (d37 x190).bind fun x191 =>
                          some (x186.1, x186.2, x191, 0)
                        else
                          if (cmpLit .eql a0 14) = true then
                            (d36).bind fun x192 =>
                            (d32 x5.1 x5.2 x3).bind fun x193 =>
                            (d32 x5.1 x5.2 x4).bind fun x194 =>
                            (d38 x5.1 x5.2 x193 x194).bind fun x195 =>
                            (d73 x195).bind fun x196 =>
                            (d37 x196).bind fun x197 =>
                            some (x192.1, x192.2, x197, 0)
                          else
                            if (cmpLit .eql a0 15) = true then
                              (d36).bind fun x198 =>
                              (d32 x5.1 x5.2 x3).bind fun x199 =>
                              (d32 x5.1 x5.2 x4).bind fun x200 =>
                              (d38 x5.1 x5.2 x199 x200).bind fun x201 =>
                              (d74 x201).bind fun x202 =>
                              (d37 x202).bind fun x203 =>
                              some (x198.1, x198.2, x203, 0)
                            else
                              if (cmpLit .eql a0 16) = true then
                                (d36).bind fun x204 =>
                                (d32 x5.1 x5.2 x3).bind fun x205 =>
                                (d32 x5.1 x5.2 x4).bind fun x206 =>
                                (d38 x5.1 x5.2 x205 x206).bind fun x207 =>
                                (d75 x207).bind fun x208 =>
                                (d37 x208).bind fun x209 =>
                                some (x204.1, x204.2, x209, 0)
                              else
                                Option.bind (α := (Unit) ⊕ (Int × Bool × Int × Int)) (
                                  if (cmpLit .neq a0 9) = true then
                                    if (cmpLit .neq a0 10) = true then
                                      some (.inr (0, false, 0, 11))
                                    else
                                      some (.inl ())
                                  else
                                    some (.inl ())) fun y210 =>
                                match y210 with
                                | .inl p211 =>
                                  (d30 a1_0 a1_1).bind fun x212 =>
                                  (d40 x212.1 x212.2).bind fun x213 =>
                                  if (Ne0 (wrapK .u64 x213)) then
                                    (d39 a0 x212.1 x212.2 x3 (arReal .rem .u64 (wrapK .u64 x4) (wrapK .u64 x213))).bind fun x214 =>
                                    some (x212.1, x212.2, x214, 0)
                                  else none
                                | .inr y210r0 =>
                                  some y210r0
noncomputable def w14_c : Code := (Try.f14.body).getD .skip
theorem w14_h : Try.f14.body = some w14_c := by kernel_rfl
theorem w14 (a0 : Int) (a1_0 : Int) (a1_1 : Bool) (a2 : Int) (a3_0 : Int) (a3_1 : Bool) (a4 : Int) (r : Int × Bool × Int × Int) (h : d14 a0 a1_0 a1_1 a2 a3_0 a3_1 a4 = some r) : Ab.Fn Try.prog TT 14 [.i .i64 a0, .agg [.i .i64 a1_0, .b a1_1], .i .i64 a2, .agg [.i .i64 a3_0, .b a3_1], .i .i64 a4] (.tup [.agg [.i .i64 r.1, .b r.2.1], .i .i64 r.2.2.1, .i .i64 r.2.2.2]) [] := by
  refine fn_pure tok (fun r => match r with | 4 => [[],[],[0,1],[],[],[0,1,2,3,4],[0,1,2,3,4,5],[0,1,2,3,4,5,6]] | 8 => [[],[],[0,1],[],[],[0,1,2,3,4],[0,1,2,3,4,5],[0,1,2,3,4,5,6]] | 11 => [[],[],[],[],[],[],[2,3,4,5],[1,2,3,4,5,6],[0,1,2,3,4,5,6,7],[0,1,2,3,4,5,6,7,8],[0,1,2,3,4,5,6,7,8,9]] | 14 => [[],[],[],[],[],[0,3,4],[],[],[0,3,4,5,6,7],[0,2,3,4,5,6,7,8],[0,1,2,3,4,5,6,7,8,9],[0,1,2,3,4,5,6,7,8,9,10],[0,1,2,3,4,5,6,7,8,9,10,11],[0,1,2,3,4,5,6,7,8,9,10,11,12],[0,1,2,3,4,5,6,7,8,9,10,11,12,13]] | 18 => [[],[],[],[],[],[4],[],[6],[6,7],[4,5,6,7,8],[1,2,3,4,5,6,7,8,9],[0,1,2,3,4,5,6,7,8,9,10],[0,1,2,3,4,5,6,7,8,9,10,11],[0,1,2,3,4,5,6,7,8,9,10,11,12]] | _ => []) Try.func14 (by kernel_rfl) w14_h (by kernel_rfl) ?_
  intro ar un cv mn mx pl mi cmp nt beq an scmp cat slen sbyte ssub ofB toB len gi gb gs gl sub put app ovl rep ne0 ge0 inb bnd room sroom need br call loop cut nl E R K hK
  have D := E.D
  clear E
  unfold d14 at h
  cbv
  refine R.cut' (by kernel_rfl) (by kernel_rfl) ?_
  cbv
  refine R.callD h (fun x2 hx2 h2 => ?_)
  clear h; have h := h2; clear h2
  refine R.call' (w31 _ _ _ _ _ hx2) (by (first | rfl | (simp only [D.har, D.hcmp, D.hcv, D.hne0]; done) | (simp only [D.har, D.hcmp, D.hcv, D.hne0]; rfl))) ?_
  clear hx2; cbv
  refine R.brD h (by (first | rfl | (simp only [D.har, D.hcmp, D.hcv, D.hne0]; done) | (simp only [D.har, D.hcmp, D.hcv, D.hne0]; rfl))) ?_ ?_ <;> clear h <;> intro h <;> cbv
  · have e := ret_some h; clear h
    refine hK _ _ ?_
    cbv
    try (subst e; simp only [D.har, D.hcmp, D.hcv, D.hne0, and_self, and_true, true_and] <;> (repeat' apply And.intro) <;> rfl)
  · as_aux_lemma =>
    refine R.callD h (fun x3 hx3 h2 => ?_)
    clear h; have h := h2; clear h2
    refine R.call' (w32 _ _ _ _ hx3) (by (first | rfl | (simp only [D.har, D.hcmp, D.hcv, D.hne0]; done) | (simp only [D.har, D.hcmp, D.hcv, D.hne0]; rfl))) ?_
    clear hx3; cbv
    refine R.callD h (fun x4 hx4 h2 => ?_)
    clear h; have h := h2; clear h2
    refine R.call' (w32 _ _ _ _ hx4) (by (first | rfl | (simp only [D.har, D.hcmp, D.hcv, D.hne0]; done) | (simp only [D.har, D.hcmp, D.hcv, D.hne0]; rfl))) ?_
    clear hx4; cbv
    refine R.callD h (fun x5 hx5 h2 => ?_)
    clear h; have h := h2; clear h2
    refine R.call' (w33 _ _ _ _ _ hx5) (by (first | rfl | (simp only [D.har, D.hcmp, D.hcv, D.hne0]; done) | (simp only [D.har, D.hcmp, D.hcv, D.hne0]; rfl))) ?_
    clear hx5; cbv
    refine R.cut' (by kernel_rfl) (by kernel_rfl) ?_
    cbv
    refine R.callD h (fun x71 hx71 h2 => ?_)
    clear h; have h := h2; clear h2
    refine R.call' (w34 _ hx71) (by (first | rfl | (simp only [D.har, D.hcmp, D.hcv, D.hne0]; done) | (simp only [D.har, D.hcmp, D.hcv, D.hne0]; rfl))) ?_
    clear hx71; cbv
    refine R.brD h (by (first | rfl | (simp only [D.har, D.hcmp, D.hcv, D.hne0]; done) | (simp only [D.har, D.hcmp, D.hcv, D.hne0]; rfl))) ?_ ?_ <;> clear h <;> intro h <;> cbv
    · refine R.callD h (fun x72 hx72 h2 => ?_)
      clear h; have h := h2; clear h2
      refine R.call' (w32 _ _ _ _ hx72) (by (first | rfl | (simp only [D.har, D.hcmp, D.hcv, D.hne0]; done) | (simp only [D.har, D.hcmp, D.hcv, D.hne0]; rfl))) ?_
      clear hx72; cbv
      refine R.callD h (fun x73 hx73 h2 => ?_)
      clear h; have h := h2; clear h2
      refine R.call' (w32 _ _ _ _ hx73) (by (first | rfl | (simp only [D.har, D.hcmp, D.hcv, D.hne0]; done) | (simp only [D.har, D.hcmp, D.hcv, D.hne0]; rfl))) ?_
      clear hx73; cbv
      refine R.cut' (by kernel_rfl) (by kernel_rfl) ?_
      cbv
      refine R.cutB (fun p => p) (fun _ _ e => e) h [] (fun p77 => [(57, .b p77)]) (fun p77 => []) (by kernel_rfl) (by kernel_rfl) (fun y76 hy hFy76 L hLy76 => ?_) (fun p77 h2 => ?_)
      · clear h; have h := hy; clear hy; cbv
        refine R.brD h (by (first | rfl | (simp only [D.har, D.hcmp, D.hcv, D.hne0]; done) | (simp only [D.har, D.hcmp, D.hcv, D.hne0]; rfl))) ?_ ?_ <;> clear h <;> intro h <;> cbv
        · refine R.brD h (by (first | rfl | (simp only [D.har, D.hcmp, D.hcv, D.hne0]; done) | (simp only [D.har, D.hcmp, D.hcv, D.hne0]; rfl))) ?_ ?_ <;> clear h <;> intro h <;> cbv
          · obtain ⟨s', e, hi⟩ := jn_some (fun p => p) h
            refine hLy76 s' _ _ hi ⟨rfl, ?_, ?_, rfl, rfl⟩ <;> cbv <;> (try (subst e; simp only [D.har, D.hcmp, D.hcv, D.hne0, and_self, and_true, true_and] <;> (repeat' apply And.intro) <;> rfl))
          · obtain ⟨s', e, hi⟩ := jn_some (fun p => p) h
            refine hLy76 s' _ _ hi ⟨rfl, ?_, ?_, rfl, rfl⟩ <;> cbv <;> (try (subst e; simp only [D.har, D.hcmp, D.hcv, D.hne0, and_self, and_true, true_and] <;> (repeat' apply And.intro) <;> rfl))
        · obtain ⟨s', e, hi⟩ := jn_some (fun p => p) h
          refine hLy76 s' _ _ hi ⟨rfl, ?_, ?_, rfl, rfl⟩ <;> cbv <;> (try (subst e; simp only [D.har, D.hcmp, D.hcv, D.hne0, and_self, and_true, true_and] <;> (repeat' apply And.intro) <;> rfl))
      · clear h; have h := h2; clear h2; try dsimp only at h
        cbv
        refine R.brD h (by (first | rfl | (simp only [D.har, D.hcmp, D.hcv, D.hne0]; done) | (simp only [D.har, D.hcmp, D.hcv, D.hne0]; rfl))) ?_ ?_ <;> clear h <;> intro h <;> cbv
        · have e := ret_some h; clear h
          refine hK _ _ ?_
          cbv
          try (subst e; simp only [D.har, D.hcmp, D.hcv, D.hne0, and_self, and_true, true_and] <;> (repeat' apply And.intro) <;> rfl)
        · refine R.callD h (fun x78 hx78 h2 => ?_)
          clear h; have h := h2; clear h2
          refine R.call' (w61 _ _ _ _ _ hx78) (by (first | rfl | (simp only [D.har, D.hcmp, D.hcv, D.hne0]; done) | (simp only [D.har, D.hcmp, D.hcv, D.hne0]; rfl))) ?_
          clear hx78; cbv
          refine R.callD h (fun x79 hx79 h2 => ?_)
          clear h; have h := h2; clear h2
          refine R.call' (w32 _ _ _ _ hx79) (by (first | rfl | (simp only [D.har, D.hcmp, D.hcv, D.hne0]; done) | (simp only [D.har, D.hcmp, D.hcv, D.hne0]; rfl))) ?_
          clear hx79; cbv
          have e := ret_some h; clear h
          refine hK _ _ ?_
          cbv
          try (subst e; simp only [D.har, D.hcmp, D.hcv, D.hne0, and_self, and_true, true_and] <;> (repeat' apply And.intro) <;> rfl)
    · as_aux_lemma =>
      refine R.brD h (by (first | rfl | (simp only [D.har, D.hcmp, D.hcv, D.hne0]; done) | (simp only [D.har, D.hcmp, D.hcv, D.hne0]; rfl))) ?_ ?_ <;> clear h <;> intro h <;> cbv
      · refine R.callD h (fun x80 hx80 h2 => ?_)
        clear h; have h := h2; clear h2
        refine R.call' (w32 _ _ _ _ hx80) (by (first | rfl | (simp only [D.har, D.hcmp, D.hcv, D.hne0]; done) | (simp only [D.har, D.hcmp, D.hcv, D.hne0]; rfl))) ?_
        clear hx80; cbv
        refine R.callD h (fun x81 hx81 h2 => ?_)
        clear h; have h := h2; clear h2
        refine R.call' (w32 _ _ _ _ hx81) (by (first | rfl | (simp only [D.har, D.hcmp, D.hcv, D.hne0]; done) | (simp only [D.har, D.hcmp, D.hcv, D.hne0]; rfl))) ?_
        clear hx81; cbv
        refine R.cut' (by kernel_rfl) (by kernel_rfl) ?_
        cbv
        refine R.cutB (fun p => p) (fun _ _ e => e) h [] (fun p85 => [(57, .b p85)]) (fun p85 => []) (by kernel_rfl) (by kernel_rfl) (fun y84 hy hFy84 L hLy84 => ?_) (fun p85 h2 => ?_)
        · clear h; have h := hy; clear hy; cbv
          refine R.brD h (by (first | rfl | (simp only [D.har, D.hcmp, D.hcv, D.hne0]; done) | (simp only [D.har, D.hcmp, D.hcv, D.hne0]; rfl))) ?_ ?_ <;> clear h <;> intro h <;> cbv
          · refine R.brD h (by (first | rfl | (simp only [D.har, D.hcmp, D.hcv, D.hne0]; done) | (simp only [D.har, D.hcmp, D.hcv, D.hne0]; rfl))) ?_ ?_ <;> clear h <;> intro h <;> cbv
            · obtain ⟨s', e, hi⟩ := jn_some (fun p => p) h
              refine hLy84 s' _ _ hi ⟨rfl, ?_, ?_, rfl, rfl⟩ <;> cbv <;> (try (subst e; simp only [D.har, D.hcmp, D.hcv, D.hne0, and_self, and_true, true_and] <;> (repeat' apply And.intro) <;> rfl))
            · obtain ⟨s', e, hi⟩ := jn_some (fun p => p) h
              refine hLy84 s' _ _ hi ⟨rfl, ?_, ?_, rfl, rfl⟩ <;> cbv <;> (try (subst e; simp only [D.har, D.hcmp, D.hcv, D.hne0, and_self, and_true, true_and] <;> (repeat' apply And.intro) <;> rfl))
          · obtain ⟨s', e, hi⟩ := jn_some (fun p => p) h
            refine hLy84 s' _ _ hi ⟨rfl, ?_, ?_, rfl, rfl⟩ <;> cbv <;> (try (subst e; simp only [D.har, D.hcmp, D.hcv, D.hne0, and_self, and_true, true_and] <;> (repeat' apply And.intro) <;> rfl))
        · clear h; have h := h2; clear h2; try dsimp only at h
          cbv
          refine R.brD h (by (first | rfl | (simp only [D.har, D.hcmp, D.hcv, D.hne0]; done) | (simp only [D.har, D.hcmp, D.hcv, D.hne0]; rfl))) ?_ ?_ <;> clear h <;> intro h <;> cbv
          · have e := ret_some h; clear h
            refine hK _ _ ?_
            cbv
            try (subst e; simp only [D.har, D.hcmp, D.hcv, D.hne0, and_self, and_true, true_and] <;> (repeat' apply And.intro) <;> rfl)
          · refine R.callD h (fun x86 hx86 h2 => ?_)
            clear h; have h := h2; clear h2
            refine R.call' (w62 _ _ _ _ _ hx86) (by (first | rfl | (simp only [D.har, D.hcmp, D.hcv, D.hne0]; done) | (simp only [D.har, D.hcmp, D.hcv, D.hne0]; rfl))) ?_
            clear hx86; cbv
            refine R.callD h (fun x87 hx87 h2 => ?_)
            clear h; have h := h2; clear h2
            refine R.call' (w32 _ _ _ _ hx87) (by (first | rfl | (simp only [D.har, D.hcmp, D.hcv, D.hne0]; done) | (simp only [D.har, D.hcmp, D.hcv, D.hne0]; rfl))) ?_
            clear hx87; cbv
            have e := ret_some h; clear h
            refine hK _ _ ?_
            cbv
            try (subst e; simp only [D.har, D.hcmp, D.hcv, D.hne0, and_self, and_true, true_and] <;> (repeat' apply And.intro) <;> rfl)
      · as_aux_lemma =>
        refine R.brD h (by (first | rfl | (simp only [D.har, D.hcmp, D.hcv, D.hne0]; done) | (simp only [D.har, D.hcmp, D.hcv, D.hne0]; rfl))) ?_ ?_ <;> clear h <;> intro h <;> cbv
        · refine R.callD h (fun x88 hx88 h2 => ?_)
          clear h; have h := h2; clear h2
          refine R.call' (w32 _ _ _ _ hx88) (by (first | rfl | (simp only [D.har, D.hcmp, D.hcv, D.hne0]; done) | (simp only [D.har, D.hcmp, D.hcv, D.hne0]; rfl))) ?_
          clear hx88; cbv
          refine R.callD h (fun x89 hx89 h2 => ?_)
          clear h; have h := h2; clear h2
          refine R.call' (w32 _ _ _ _ hx89) (by (first | rfl | (simp only [D.har, D.hcmp, D.hcv, D.hne0]; done) | (simp only [D.har, D.hcmp, D.hcv, D.hne0]; rfl))) ?_
          clear hx89; cbv
          refine R.cut' (by kernel_rfl) (by kernel_rfl) ?_
          cbv
          refine R.cutB (fun p => p) (fun _ _ e => e) h [] (fun p93 => [(57, .b p93)]) (fun p93 => []) (by kernel_rfl) (by kernel_rfl) (fun y92 hy hFy92 L hLy92 => ?_) (fun p93 h2 => ?_)
          · clear h; have h := hy; clear hy; cbv
            refine R.brD h (by (first | rfl | (simp only [D.har, D.hcmp, D.hcv, D.hne0]; done) | (simp only [D.har, D.hcmp, D.hcv, D.hne0]; rfl))) ?_ ?_ <;> clear h <;> intro h <;> cbv
            · refine R.brD h (by (first | rfl | (simp only [D.har, D.hcmp, D.hcv, D.hne0]; done) | (simp only [D.har, D.hcmp, D.hcv, D.hne0]; rfl))) ?_ ?_ <;> clear h <;> intro h <;> cbv
              · obtain ⟨s', e, hi⟩ := jn_some (fun p => p) h
                refine hLy92 s' _ _ hi ⟨rfl, ?_, ?_, rfl, rfl⟩ <;> cbv <;> (try (subst e; simp only [D.har, D.hcmp, D.hcv, D.hne0, and_self, and_true, true_and] <;> (repeat' apply And.intro) <;> rfl))
              · obtain ⟨s', e, hi⟩ := jn_some (fun p => p) h
                refine hLy92 s' _ _ hi ⟨rfl, ?_, ?_, rfl, rfl⟩ <;> cbv <;> (try (subst e; simp only [D.har, D.hcmp, D.hcv, D.hne0, and_self, and_true, true_and] <;> (repeat' apply And.intro) <;> rfl))
            · obtain ⟨s', e, hi⟩ := jn_some (fun p => p) h
              refine hLy92 s' _ _ hi ⟨rfl, ?_, ?_, rfl, rfl⟩ <;> cbv <;> (try (subst e; simp only [D.har, D.hcmp, D.hcv, D.hne0, and_self, and_true, true_and] <;> (repeat' apply And.intro) <;> rfl))
          · clear h; have h := h2; clear h2; try dsimp only at h
            cbv
            refine R.brD h (by (first | rfl | (simp only [D.har, D.hcmp, D.hcv, D.hne0]; done) | (simp only [D.har, D.hcmp, D.hcv, D.hne0]; rfl))) ?_ ?_ <;> clear h <;> intro h <;> cbv
            · have e := ret_some h; clear h
              refine hK _ _ ?_
              cbv
              try (subst e; simp only [D.har, D.hcmp, D.hcv, D.hne0, and_self, and_true, true_and] <;> (repeat' apply And.intro) <;> rfl)
            · refine R.callD h (fun x94 hx94 h2 => ?_)
              clear h; have h := h2; clear h2
              refine R.call' (w63 _ _ _ _ _ hx94) (by (first | rfl | (simp only [D.har, D.hcmp, D.hcv, D.hne0]; done) | (simp only [D.har, D.hcmp, D.hcv, D.hne0]; rfl))) ?_
              clear hx94; cbv
              refine R.callD h (fun x95 hx95 h2 => ?_)
              clear h; have h := h2; clear h2
              refine R.call' (w32 _ _ _ _ hx95) (by (first | rfl | (simp only [D.har, D.hcmp, D.hcv, D.hne0]; done) | (simp only [D.har, D.hcmp, D.hcv, D.hne0]; rfl))) ?_
              clear hx95; cbv
              have e := ret_some h; clear h
              refine hK _ _ ?_
              cbv
              try (subst e; simp only [D.har, D.hcmp, D.hcv, D.hne0, and_self, and_true, true_and] <;> (repeat' apply And.intro) <;> rfl)
        · as_aux_lemma =>
          refine R.brD h (by (first | rfl | (simp only [D.har, D.hcmp, D.hcv, D.hne0]; done) | (simp only [D.har, D.hcmp, D.hcv, D.hne0]; rfl))) ?_ ?_ <;> clear h <;> intro h <;> cbv
          · refine R.callD h (fun x96 hx96 h2 => ?_)
            clear h; have h := h2; clear h2
            refine R.call' (w32 _ _ _ _ hx96) (by (first | rfl | (simp only [D.har, D.hcmp, D.hcv, D.hne0]; done) | (simp only [D.har, D.hcmp, D.hcv, D.hne0]; rfl))) ?_
            clear hx96; cbv
            refine R.callD h (fun x97 hx97 h2 => ?_)
            clear h; have h := h2; clear h2
            refine R.call' (w32 _ _ _ _ hx97) (by (first | rfl | (simp only [D.har, D.hcmp, D.hcv, D.hne0]; done) | (simp only [D.har, D.hcmp, D.hcv, D.hne0]; rfl))) ?_
            clear hx97; cbv
            refine R.cut' (by kernel_rfl) (by kernel_rfl) ?_
            cbv
            refine R.cutB (fun p => p) (fun _ _ e => e) h [] (fun p101 => [(57, .b p101)]) (fun p101 => []) (by kernel_rfl) (by kernel_rfl) (fun y100 hy hFy100 L hLy100 => ?_) (fun p101 h2 => ?_)
            · clear h; have h := hy; clear hy; cbv
              refine R.brD h (by (first | rfl | (simp only [D.har, D.hcmp, D.hcv, D.hne0]; done) | (simp only [D.har, D.hcmp, D.hcv, D.hne0]; rfl))) ?_ ?_ <;> clear h <;> intro h <;> cbv
              · refine R.brD h (by (first | rfl | (simp only [D.har, D.hcmp, D.hcv, D.hne0]; done) | (simp only [D.har, D.hcmp, D.hcv, D.hne0]; rfl))) ?_ ?_ <;> clear h <;> intro h <;> cbv
                · obtain ⟨s', e, hi⟩ := jn_some (fun p => p) h
                  refine hLy100 s' _ _ hi ⟨rfl, ?_, ?_, rfl, rfl⟩ <;> cbv <;> (try (subst e; simp only [D.har, D.hcmp, D.hcv, D.hne0, and_self, and_true, true_and] <;> (repeat' apply And.intro) <;> rfl))
                · obtain ⟨s', e, hi⟩ := jn_some (fun p => p) h
                  refine hLy100 s' _ _ hi ⟨rfl, ?_, ?_, rfl, rfl⟩ <;> cbv <;> (try (subst e; simp only [D.har, D.hcmp, D.hcv, D.hne0, and_self, and_true, true_and] <;> (repeat' apply And.intro) <;> rfl))
              · obtain ⟨s', e, hi⟩ := jn_some (fun p => p) h
                refine hLy100 s' _ _ hi ⟨rfl, ?_, ?_, rfl, rfl⟩ <;> cbv <;> (try (subst e; simp only [D.har, D.hcmp, D.hcv, D.hne0, and_self, and_true, true_and] <;> (repeat' apply And.intro) <;> rfl))
            · clear h; have h := h2; clear h2; try dsimp only at h
              cbv
              refine R.brD h (by (first | rfl | (simp only [D.har, D.hcmp, D.hcv, D.hne0]; done) | (simp only [D.har, D.hcmp, D.hcv, D.hne0]; rfl))) ?_ ?_ <;> clear h <;> intro h <;> cbv
              · have e := ret_some h; clear h
                refine hK _ _ ?_
                cbv
                try (subst e; simp only [D.har, D.hcmp, D.hcv, D.hne0, and_self, and_true, true_and] <;> (repeat' apply And.intro) <;> rfl)
              · refine R.callD h (fun x102 hx102 h2 => ?_)
                clear h; have h := h2; clear h2
                refine R.call' (w64 _ _ _ _ _ hx102) (by (first | rfl | (simp only [D.har, D.hcmp, D.hcv, D.hne0]; done) | (simp only [D.har, D.hcmp, D.hcv, D.hne0]; rfl))) ?_
                clear hx102; cbv
                refine R.callD h (fun x103 hx103 h2 => ?_)
                clear h; have h := h2; clear h2
                refine R.call' (w32 _ _ _ _ hx103) (by (first | rfl | (simp only [D.har, D.hcmp, D.hcv, D.hne0]; done) | (simp only [D.har, D.hcmp, D.hcv, D.hne0]; rfl))) ?_
                clear hx103; cbv
                have e := ret_some h; clear h
                refine hK _ _ ?_
                cbv
                try (subst e; simp only [D.har, D.hcmp, D.hcv, D.hne0, and_self, and_true, true_and] <;> (repeat' apply And.intro) <;> rfl)
          · as_aux_lemma =>
            refine R.brD h (by (first | rfl | (simp only [D.har, D.hcmp, D.hcv, D.hne0]; done) | (simp only [D.har, D.hcmp, D.hcv, D.hne0]; rfl))) ?_ ?_ <;> clear h <;> intro h <;> cbv
            · refine R.callD h (fun x104 hx104 h2 => ?_)
              clear h; have h := h2; clear h2
              refine R.call' (w32 _ _ _ _ hx104) (by (first | rfl | (simp only [D.har, D.hcmp, D.hcv, D.hne0]; done) | (simp only [D.har, D.hcmp, D.hcv, D.hne0]; rfl))) ?_
              clear hx104; cbv
              refine R.callD h (fun x105 hx105 h2 => ?_)
              clear h; have h := h2; clear h2
              refine R.call' (w32 _ _ _ _ hx105) (by (first | rfl | (simp only [D.har, D.hcmp, D.hcv, D.hne0]; done) | (simp only [D.har, D.hcmp, D.hcv, D.hne0]; rfl))) ?_
              clear hx105; cbv
              refine R.cut' (by kernel_rfl) (by kernel_rfl) ?_
              cbv
              refine R.cutB (fun p => p) (fun _ _ e => e) h [] (fun p109 => [(57, .b p109)]) (fun p109 => []) (by kernel_rfl) (by kernel_rfl) (fun y108 hy hFy108 L hLy108 => ?_) (fun p109 h2 => ?_)
              · clear h; have h := hy; clear hy; cbv
                refine R.brD h (by (first | rfl | (simp only [D.har, D.hcmp, D.hcv, D.hne0]; done) | (simp only [D.har, D.hcmp, D.hcv, D.hne0]; rfl))) ?_ ?_ <;> clear h <;> intro h <;> cbv
                · refine R.brD h (by (first | rfl | (simp only [D.har, D.hcmp, D.hcv, D.hne0]; done) | (simp only [D.har, D.hcmp, D.hcv, D.hne0]; rfl))) ?_ ?_ <;> clear h <;> intro h <;> cbv
                  · obtain ⟨s', e, hi⟩ := jn_some (fun p => p) h
                    refine hLy108 s' _ _ hi ⟨rfl, ?_, ?_, rfl, rfl⟩ <;> cbv <;> (try (subst e; simp only [D.har, D.hcmp, D.hcv, D.hne0, and_self, and_true, true_and] <;> (repeat' apply And.intro) <;> rfl))
                  · obtain ⟨s', e, hi⟩ := jn_some (fun p => p) h
                    refine hLy108 s' _ _ hi ⟨rfl, ?_, ?_, rfl, rfl⟩ <;> cbv <;> (try (subst e; simp only [D.har, D.hcmp, D.hcv, D.hne0, and_self, and_true, true_and] <;> (repeat' apply And.intro) <;> rfl))
                · obtain ⟨s', e, hi⟩ := jn_some (fun p => p) h
                  refine hLy108 s' _ _ hi ⟨rfl, ?_, ?_, rfl, rfl⟩ <;> cbv <;> (try (subst e; simp only [D.har, D.hcmp, D.hcv, D.hne0, and_self, and_true, true_and] <;> (repeat' apply And.intro) <;> rfl))
              · clear h; have h := h2; clear h2; try dsimp only at h
                cbv
                refine R.brD h (by (first | rfl | (simp only [D.har, D.hcmp, D.hcv, D.hne0]; done) | (simp only [D.har, D.hcmp, D.hcv, D.hne0]; rfl))) ?_ ?_ <;> clear h <;> intro h <;> cbv
                · have e := ret_some h; clear h
                  refine hK _ _ ?_
                  cbv
                  try (subst e; simp only [D.har, D.hcmp, D.hcv, D.hne0, and_self, and_true, true_and] <;> (repeat' apply And.intro) <;> rfl)
                · refine R.callD h (fun x110 hx110 h2 => ?_)
                  clear h; have h := h2; clear h2
                  refine R.call' (w65 _ _ _ _ _ hx110) (by (first | rfl | (simp only [D.har, D.hcmp, D.hcv, D.hne0]; done) | (simp only [D.har, D.hcmp, D.hcv, D.hne0]; rfl))) ?_
                  clear hx110; cbv
                  refine R.callD h (fun x111 hx111 h2 => ?_)
                  clear h; have h := h2; clear h2
                  refine R.call' (w32 _ _ _ _ hx111) (by (first | rfl | (simp only [D.har, D.hcmp, D.hcv, D.hne0]; done) | (simp only [D.har, D.hcmp, D.hcv, D.hne0]; rfl))) ?_
                  clear hx111; cbv
                  have e := ret_some h; clear h
                  refine hK _ _ ?_
                  cbv
                  try (subst e; simp only [D.har, D.hcmp, D.hcv, D.hne0, and_self, and_true, true_and] <;> (repeat' apply And.intro) <;> rfl)
            · as_aux_lemma =>
              refine R.brD h (by (first | rfl | (simp only [D.har, D.hcmp, D.hcv, D.hne0]; done) | (simp only [D.har, D.hcmp, D.hcv, D.hne0]; rfl))) ?_ ?_ <;> clear h <;> intro h <;> cbv
              · refine R.callD h (fun x112 hx112 h2 => ?_)
                clear h; have h := h2; clear h2
                refine R.call' (w32 _ _ _ _ hx112) (by (first | rfl | (simp only [D.har, D.hcmp, D.hcv, D.hne0]; done) | (simp only [D.har, D.hcmp, D.hcv, D.hne0]; rfl))) ?_
                clear hx112; cbv
                refine R.callD h (fun x113 hx113 h2 => ?_)
                clear h; have h := h2; clear h2
                refine R.call' (w32 _ _ _ _ hx113) (by (first | rfl | (simp only [D.har, D.hcmp, D.hcv, D.hne0]; done) | (simp only [D.har, D.hcmp, D.hcv, D.hne0]; rfl))) ?_
                clear hx113; cbv
                refine R.cut' (by kernel_rfl) (by kernel_rfl) ?_
                cbv
                refine R.cutB (fun p => p) (fun _ _ e => e) h [] (fun p117 => [(57, .b p117)]) (fun p117 => []) (by kernel_rfl) (by kernel_rfl) (fun y116 hy hFy116 L hLy116 => ?_) (fun p117 h2 => ?_)
                · clear h; have h := hy; clear hy; cbv
                  refine R.brD h (by (first | rfl | (simp only [D.har, D.hcmp, D.hcv, D.hne0]; done) | (simp only [D.har, D.hcmp, D.hcv, D.hne0]; rfl))) ?_ ?_ <;> clear h <;> intro h <;> cbv
                  · refine R.brD h (by (first | rfl | (simp only [D.har, D.hcmp, D.hcv, D.hne0]; done) | (simp only [D.har, D.hcmp, D.hcv, D.hne0]; rfl))) ?_ ?_ <;> clear h <;> intro h <;> cbv
                    · obtain ⟨s', e, hi⟩ := jn_some (fun p => p) h
                      refine hLy116 s' _ _ hi ⟨rfl, ?_, ?_, rfl, rfl⟩ <;> cbv <;> (try (subst e; simp only [D.har, D.hcmp, D.hcv, D.hne0, and_self, and_true, true_and] <;> (repeat' apply And.intro) <;> rfl))
                    · obtain ⟨s', e, hi⟩ := jn_some (fun p => p) h
                      refine hLy116 s' _ _ hi ⟨rfl, ?_, ?_, rfl, rfl⟩ <;> cbv <;> (try (subst e; simp only [D.har, D.hcmp, D.hcv, D.hne0, and_self, and_true, true_and] <;> (repeat' apply And.intro) <;> rfl))
                  · obtain ⟨s', e, hi⟩ := jn_some (fun p => p) h
                    refine hLy116 s' _ _ hi ⟨rfl, ?_, ?_, rfl, rfl⟩ <;> cbv <;> (try (subst e; simp only [D.har, D.hcmp, D.hcv, D.hne0, and_self, and_true, true_and] <;> (repeat' apply And.intro) <;> rfl))
                · clear h; have h := h2; clear h2; try dsimp only at h
                  cbv
                  refine R.brD h (by (first | rfl | (simp only [D.har, D.hcmp, D.hcv, D.hne0]; done) | (simp only [D.har, D.hcmp, D.hcv, D.hne0]; rfl))) ?_ ?_ <;> clear h <;> intro h <;> cbv
                  · have e := ret_some h; clear h
                    refine hK _ _ ?_
                    cbv
                    try (subst e; simp only [D.har, D.hcmp, D.hcv, D.hne0, and_self, and_true, true_and] <;> (repeat' apply And.intro) <;> rfl)
                  · refine R.callD h (fun x118 hx118 h2 => ?_)
                    clear h; have h := h2; clear h2
                    refine R.call' (w66 _ _ _ _ _ hx118) (by (first | rfl | (simp only [D.har, D.hcmp, D.hcv, D.hne0]; done) | (simp only [D.har, D.hcmp, D.hcv, D.hne0]; rfl))) ?_
                    clear hx118; cbv
                    refine R.callD h (fun x119 hx119 h2 => ?_)
                    clear h; have h := h2; clear h2
                    refine R.call' (w32 _ _ _ _ hx119) (by (first | rfl | (simp only [D.har, D.hcmp, D.hcv, D.hne0]; done) | (simp only [D.har, D.hcmp, D.hcv, D.hne0]; rfl))) ?_
                    clear hx119; cbv
                    have e := ret_some h; clear h
                    refine hK _ _ ?_
                    cbv
                    try (subst e; simp only [D.har, D.hcmp, D.hcv, D.hne0, and_self, and_true, true_and] <;> (repeat' apply And.intro) <;> rfl)
              · as_aux_lemma =>
                refine R.brD h (by (first | rfl | (simp only [D.har, D.hcmp, D.hcv, D.hne0]; done) | (simp only [D.har, D.hcmp, D.hcv, D.hne0]; rfl))) ?_ ?_ <;> clear h <;> intro h <;> cbv
                · refine R.callD h (fun x120 hx120 h2 => ?_)
                  clear h; have h := h2; clear h2
                  refine R.call' (w32 _ _ _ _ hx120) (by (first | rfl | (simp only [D.har, D.hcmp, D.hcv, D.hne0]; done) | (simp only [D.har, D.hcmp, D.hcv, D.hne0]; rfl))) ?_
                  clear hx120; cbv
                  refine R.callD h (fun x121 hx121 h2 => ?_)
                  clear h; have h := h2; clear h2
                  refine R.call' (w32 _ _ _ _ hx121) (by (first | rfl | (simp only [D.har, D.hcmp, D.hcv, D.hne0]; done) | (simp only [D.har, D.hcmp, D.hcv, D.hne0]; rfl))) ?_
                  clear hx121; cbv
                  refine R.cut' (by kernel_rfl) (by kernel_rfl) ?_
                  cbv
                  refine R.cutB (fun p => p) (fun _ _ e => e) h [] (fun p125 => [(57, .b p125)]) (fun p125 => []) (by kernel_rfl) (by kernel_rfl) (fun y124 hy hFy124 L hLy124 => ?_) (fun p125 h2 => ?_)
                  · clear h; have h := hy; clear hy; cbv
                    refine R.brD h (by (first | rfl | (simp only [D.har, D.hcmp, D.hcv, D.hne0]; done) | (simp only [D.har, D.hcmp, D.hcv, D.hne0]; rfl))) ?_ ?_ <;> clear h <;> intro h <;> cbv
                    · refine R.brD h (by (first | rfl | (simp only [D.har, D.hcmp, D.hcv, D.hne0]; done) | (simp only [D.har, D.hcmp, D.hcv, D.hne0]; rfl))) ?_ ?_ <;> clear h <;> intro h <;> cbv
                      · obtain ⟨s', e, hi⟩ := jn_some (fun p => p) h
                        refine hLy124 s' _ _ hi ⟨rfl, ?_, ?_, rfl, rfl⟩ <;> cbv <;> (try (subst e; simp only [D.har, D.hcmp, D.hcv, D.hne0, and_self, and_true, true_and] <;> (repeat' apply And.intro) <;> rfl))
                      · obtain ⟨s', e, hi⟩ := jn_some (fun p => p) h
                        refine hLy124 s' _ _ hi ⟨rfl, ?_, ?_, rfl, rfl⟩ <;> cbv <;> (try (subst e; simp only [D.har, D.hcmp, D.hcv, D.hne0, and_self, and_true, true_and] <;> (repeat' apply And.intro) <;> rfl))
                    · obtain ⟨s', e, hi⟩ := jn_some (fun p => p) h
                      refine hLy124 s' _ _ hi ⟨rfl, ?_, ?_, rfl, rfl⟩ <;> cbv <;> (try (subst e; simp only [D.har, D.hcmp, D.hcv, D.hne0, and_self, and_true, true_and] <;> (repeat' apply And.intro) <;> rfl))
                  · clear h; have h := h2; clear h2; try dsimp only at h
                    cbv
                    refine R.brD h (by (first | rfl | (simp only [D.har, D.hcmp, D.hcv, D.hne0]; done) | (simp only [D.har, D.hcmp, D.hcv, D.hne0]; rfl))) ?_ ?_ <;> clear h <;> intro h <;> cbv
                    · have e := ret_some h; clear h
                      refine hK _ _ ?_
                      cbv
                      try (subst e; simp only [D.har, D.hcmp, D.hcv, D.hne0, and_self, and_true, true_and] <;> (repeat' apply And.intro) <;> rfl)
                    · refine R.callD h (fun x126 hx126 h2 => ?_)
                      clear h; have h := h2; clear h2
                      refine R.call' (w67 _ _ _ _ _ hx126) (by (first | rfl | (simp only [D.har, D.hcmp, D.hcv, D.hne0]; done) | (simp only [D.har, D.hcmp, D.hcv, D.hne0]; rfl))) ?_
                      clear hx126; cbv
                      refine R.callD h (fun x127 hx127 h2 => ?_)
                      clear h; have h := h2; clear h2
                      refine R.call' (w32 _ _ _ _ hx127) (by (first | rfl | (simp only [D.har, D.hcmp, D.hcv, D.hne0]; done) | (simp only [D.har, D.hcmp, D.hcv, D.hne0]; rfl))) ?_
                      clear hx127; cbv
                      have e := ret_some h; clear h
                      refine hK _ _ ?_
                      cbv
                      try (subst e; simp only [D.har, D.hcmp, D.hcv, D.hne0, and_self, and_true, true_and] <;> (repeat' apply And.intro) <;> rfl)
                · as_aux_lemma =>
                  refine R.brD h (by (first | rfl | (simp only [D.har, D.hcmp, D.hcv, D.hne0]; done) | (simp only [D.har, D.hcmp, D.hcv, D.hne0]; rfl))) ?_ ?_ <;> clear h <;> intro h <;> cbv
                  · refine R.callD h (fun x128 hx128 h2 => ?_)
                    clear h; have h := h2; clear h2
                    refine R.call' (w32 _ _ _ _ hx128) (by (first | rfl | (simp only [D.har, D.hcmp, D.hcv, D.hne0]; done) | (simp only [D.har, D.hcmp, D.hcv, D.hne0]; rfl))) ?_
                    clear hx128; cbv
                    refine R.callD h (fun x129 hx129 h2 => ?_)
                    clear h; have h := h2; clear h2
                    refine R.call' (w32 _ _ _ _ hx129) (by (first | rfl | (simp only [D.har, D.hcmp, D.hcv, D.hne0]; done) | (simp only [D.har, D.hcmp, D.hcv, D.hne0]; rfl))) ?_
                    clear hx129; cbv
                    refine R.cut' (by kernel_rfl) (by kernel_rfl) ?_
                    cbv
                    refine R.cutB (fun p => p) (fun _ _ e => e) h [] (fun p133 => [(57, .b p133)]) (fun p133 => []) (by kernel_rfl) (by kernel_rfl) (fun y132 hy hFy132 L hLy132 => ?_) (fun p133 h2 => ?_)
                    · clear h; have h := hy; clear hy; cbv
                      refine R.brD h (by (first | rfl | (simp only [D.har, D.hcmp, D.hcv, D.hne0]; done) | (simp only [D.har, D.hcmp, D.hcv, D.hne0]; rfl))) ?_ ?_ <;> clear h <;> intro h <;> cbv
                      · refine R.brD h (by (first | rfl | (simp only [D.har, D.hcmp, D.hcv, D.hne0]; done) | (simp only [D.har, D.hcmp, D.hcv, D.hne0]; rfl))) ?_ ?_ <;> clear h <;> intro h <;> cbv
                        · obtain ⟨s', e, hi⟩ := jn_some (fun p => p) h
                          refine hLy132 s' _ _ hi ⟨rfl, ?_, ?_, rfl, rfl⟩ <;> cbv <;> (try (subst e; simp only [D.har, D.hcmp, D.hcv, D.hne0, and_self, and_true, true_and] <;> (repeat' apply And.intro) <;> rfl))
                        · obtain ⟨s', e, hi⟩ := jn_some (fun p => p) h
                          refine hLy132 s' _ _ hi ⟨rfl, ?_, ?_, rfl, rfl⟩ <;> cbv <;> (try (subst e; simp only [D.har, D.hcmp, D.hcv, D.hne0, and_self, and_true, true_and] <;> (repeat' apply And.intro) <;> rfl))
                      · obtain ⟨s', e, hi⟩ := jn_some (fun p => p) h
                        refine hLy132 s' _ _ hi ⟨rfl, ?_, ?_, rfl, rfl⟩ <;> cbv <;> (try (subst e; simp only [D.har, D.hcmp, D.hcv, D.hne0, and_self, and_true, true_and] <;> (repeat' apply And.intro) <;> rfl))
                    · clear h; have h := h2; clear h2; try dsimp only at h
                      cbv
                      refine R.brD h (by (first | rfl | (simp only [D.har, D.hcmp, D.hcv, D.hne0]; done) | (simp only [D.har, D.hcmp, D.hcv, D.hne0]; rfl))) ?_ ?_ <;> clear h <;> intro h <;> cbv
                      · have e := ret_some h; clear h
                        refine hK _ _ ?_
                        cbv
                        try (subst e; simp only [D.har, D.hcmp, D.hcv, D.hne0, and_self, and_true, true_and] <;> (repeat' apply And.intro) <;> rfl)
                      · refine R.callD h (fun x134 hx134 h2 => ?_)
                        clear h; have h := h2; clear h2
                        refine R.call' (w69 _ _ _ _ _ hx134) (by (first | rfl | (simp only [D.har, D.hcmp, D.hcv, D.hne0]; done) | (simp only [D.har, D.hcmp, D.hcv, D.hne0]; rfl))) ?_
                        clear hx134; cbv
                        refine R.callD h (fun x135 hx135 h2 => ?_)
                        clear h; have h := h2; clear h2
                        refine R.call' (w32 _ _ _ _ hx135) (by (first | rfl | (simp only [D.har, D.hcmp, D.hcv, D.hne0]; done) | (simp only [D.har, D.hcmp, D.hcv, D.hne0]; rfl))) ?_
                        clear hx135; cbv
                        have e := ret_some h; clear h
                        refine hK _ _ ?_
                        cbv
                        try (subst e; simp only [D.har, D.hcmp, D.hcv, D.hne0, and_self, and_true, true_and] <;> (repeat' apply And.intro) <;> rfl)
                  · as_aux_lemma =>
                    refine R.cut' (by kernel_rfl) (by kernel_rfl) ?_
                    cbv
                    refine R.callD h (fun x173 hx173 h2 => ?_)
                    clear h; have h := h2; clear h2
                    refine R.call' (w35 _ hx173) (by (first | rfl | (simp only [D.har, D.hcmp, D.hcv, D.hne0]; done) | (simp only [D.har, D.hcmp, D.hcv, D.hne0]; rfl))) ?_
                    clear hx173; cbv
                    refine R.brD h (by (first | rfl | (simp only [D.har, D.hcmp, D.hcv, D.hne0]; done) | (simp only [D.har, D.hcmp, D.hcv, D.hne0]; rfl))) ?_ ?_ <;> clear h <;> intro h <;> cbv
                    · refine R.callD h (fun x174 hx174 h2 => ?_)
                      clear h; have h := h2; clear h2
                      refine R.call' (w36 _ hx174) (by (first | rfl | (simp only [D.har, D.hcmp, D.hcv, D.hne0]; done) | (simp only [D.har, D.hcmp, D.hcv, D.hne0]; rfl))) ?_
                      clear hx174; cbv
                      refine R.callD h (fun x175 hx175 h2 => ?_)
                      clear h; have h := h2; clear h2
                      refine R.call' (w32 _ _ _ _ hx175) (by (first | rfl | (simp only [D.har, D.hcmp, D.hcv, D.hne0]; done) | (simp only [D.har, D.hcmp, D.hcv, D.hne0]; rfl))) ?_
                      clear hx175; cbv
                      refine R.callD h (fun x176 hx176 h2 => ?_)
                      clear h; have h := h2; clear h2
                      refine R.call' (w32 _ _ _ _ hx176) (by (first | rfl | (simp only [D.har, D.hcmp, D.hcv, D.hne0]; done) | (simp only [D.har, D.hcmp, D.hcv, D.hne0]; rfl))) ?_
                      clear hx176; cbv
                      refine R.callD h (fun x177 hx177 h2 => ?_)
                      clear h; have h := h2; clear h2
                      refine R.call' (w38 _ _ _ _ _ hx177) (by (first | rfl | (simp only [D.har, D.hcmp, D.hcv, D.hne0]; done) | (simp only [D.har, D.hcmp, D.hcv, D.hne0]; rfl))) ?_
                      clear hx177; cbv
                      refine R.callD h (fun x178 hx178 h2 => ?_)
                      clear h; have h := h2; clear h2
                      refine R.call' (w70 _ _ hx178) (by (first | rfl | (simp only [D.har, D.hcmp, D.hcv, D.hne0]; done) | (simp only [D.har, D.hcmp, D.hcv, D.hne0]; rfl))) ?_
                      clear hx178; cbv
                      refine R.callD h (fun x179 hx179 h2 => ?_)
                      clear h; have h := h2; clear h2
                      refine R.call' (w37 _ _ hx179) (by (first | rfl | (simp only [D.har, D.hcmp, D.hcv, D.hne0]; done) | (simp only [D.har, D.hcmp, D.hcv, D.hne0]; rfl))) ?_
                      clear hx179; cbv
                      have e := ret_some h; clear h
                      refine hK _ _ ?_
                      cbv
                      try (subst e; simp only [D.har, D.hcmp, D.hcv, D.hne0, and_self, and_true, true_and] <;> (repeat' apply And.intro) <;> rfl)
                    · as_aux_lemma =>
                      refine R.brD h (by (first | rfl | (simp only [D.har, D.hcmp, D.hcv, D.hne0]; done) | (simp only [D.har, D.hcmp, D.hcv, D.hne0]; rfl))) ?_ ?_ <;> clear h <;> intro h <;> cbv
                      · refine R.callD h (fun x180 hx180 h2 => ?_)
                        clear h; have h := h2; clear h2
                        refine R.call' (w36 _ hx180) (by (first | rfl | (simp only [D.har, D.hcmp, D.hcv, D.hne0]; done) | (simp only [D.har, D.hcmp, D.hcv, D.hne0]; rfl))) ?_
                        clear hx180; cbv
                        refine R.callD h (fun x181 hx181 h2 => ?_)
                        clear h; have h := h2; clear h2
                        refine R.call' (w32 _ _ _ _ hx181) (by (first | rfl | (simp only [D.har, D.hcmp, D.hcv, D.hne0]; done) | (simp only [D.har, D.hcmp, D.hcv, D.hne0]; rfl))) ?_
                        clear hx181; cbv
                        refine R.callD h (fun x182 hx182 h2 => ?_)
                        clear h; have h := h2; clear h2
                        refine R.call' (w32 _ _ _ _ hx182) (by (first | rfl | (simp only [D.har, D.hcmp, D.hcv, D.hne0]; done) | (simp only [D.har, D.hcmp, D.hcv, D.hne0]; rfl))) ?_
                        clear hx182; cbv
                        refine R.callD h (fun x183 hx183 h2 => ?_)
                        clear h; have h := h2; clear h2
                        refine R.call' (w38 _ _ _ _ _ hx183) (by (first | rfl | (simp only [D.har, D.hcmp, D.hcv, D.hne0]; done) | (simp only [D.har, D.hcmp, D.hcv, D.hne0]; rfl))) ?_
                        clear hx183; cbv
                        refine R.callD h (fun x184 hx184 h2 => ?_)
                        clear h; have h := h2; clear h2
                        refine R.call' (w71 _ _ hx184) (by (first | rfl | (simp only [D.har, D.hcmp, D.hcv, D.hne0]; done) | (simp only [D.har, D.hcmp, D.hcv, D.hne0]; rfl))) ?_
                        clear hx184; cbv
                        refine R.callD h (fun x185 hx185 h2 => ?_)
                        clear h; have h := h2; clear h2
                        refine R.call' (w37 _ _ hx185) (by (first | rfl | (simp only [D.har, D.hcmp, D.hcv, D.hne0]; done) | (simp only [D.har, D.hcmp, D.hcv, D.hne0]; rfl))) ?_
                        clear hx185; cbv
                        have e := ret_some h; clear h
                        refine hK _ _ ?_
                        cbv
                        try (subst e; simp only [D.har, D.hcmp, D.hcv, D.hne0, and_self, and_true, true_and] <;> (repeat' apply And.intro) <;> rfl)
                      · as_aux_lemma =>
                        refine R.brD h (by (first | rfl | (simp only [D.har, D.hcmp, D.hcv, D.hne0]; done) | (simp only [D.har, D.hcmp, D.hcv, D.hne0]; rfl))) ?_ ?_ <;> clear h <;> intro h <;> cbv
                        · refine R.callD h (fun x186 hx186 h2 => ?_)
                          clear h; have h := h2; clear h2
                          refine R.call' (w36 _ hx186) (by (first | rfl | (simp only [D.har, D.hcmp, D.hcv, D.hne0]; done) | (simp only [D.har, D.hcmp, D.hcv, D.hne0]; rfl))) ?_
                          clear hx186; cbv
                          refine R.callD h (fun x187 hx187 h2 => ?_)
                          clear h; have h := h2; clear h2
                          refine R.call' (w32 _ _ _ _ hx187) (by (first | rfl | (simp only [D.har, D.hcmp, D.hcv, D.hne0]; done) | (simp only [D.har, D.hcmp, D.hcv, D.hne0]; rfl))) ?_
                          clear hx187; cbv
                          refine R.callD h (fun x188 hx188 h2 => ?_)
                          clear h; have h := h2; clear h2
                          refine R.call' (w32 _ _ _ _ hx188) (by (first | rfl | (simp only [D.har, D.hcmp, D.hcv, D.hne0]; done) | (simp only [D.har, D.hcmp, D.hcv, D.hne0]; rfl))) ?_
                          clear hx188; cbv
                          refine R.callD h (fun x189 hx189 h2 => ?_)
                          clear h; have h := h2; clear h2
                          refine R.call' (w38 _ _ _ _ _ hx189) (by (first | rfl | (simp only [D.har, D.hcmp, D.hcv, D.hne0]; done) | (simp only [D.har, D.hcmp, D.hcv, D.hne0]; rfl))) ?_
                          clear hx189; cbv
                          refine R.callD h (fun x190 hx190 h2 => ?_)
                          clear h; have h := h2; clear h2
                          refine R.call' (w72 _ _ hx190) (by (first | rfl | (simp only [D.har, D.hcmp, D.hcv, D.hne0]; done) | (simp only [D.har, D.hcmp, D.hcv, D.hne0]; rfl))) ?_
                          clear hx190; cbv
                          refine R.callD h (fun x191 hx191 h2 => ?_)
                          clear h; have h := h2; clear h2
                          refine R.call' (w37 _ _ hx191) (by (first | rfl | (simp only [D.har, D.hcmp, D.hcv, D.hne0]; done) | (simp only [D.har, D.hcmp, D.hcv, D.hne0]; rfl))) ?_
                          clear hx191; cbv
                          have e := ret_some h; clear h
                          refine hK _ _ ?_
                          cbv
                          try (subst e; simp only [D.har, D.hcmp, D.hcv, D.hne0, and_self, and_true, true_and] <;> (repeat' apply And.intro) <;> rfl)
                        · as_aux_lemma =>
                          refine R.brD h (by (first | rfl | (simp only [D.har, D.hcmp, D.hcv, D.hne0]; done) | (simp only [D.har, D.hcmp, D.hcv, D.hne0]; rfl))) ?_ ?_ <;> clear h <;> intro h <;> cbv
                          · refine R.callD h (fun x192 hx192 h2 => ?_)
                            clear h; have h := h2; clear h2
                            refine R.call' (w36 _ hx192) (by (first | rfl | (simp only [D.har, D.hcmp, D.hcv, D.hne0]; done) | (simp only [D.har, D.hcmp, D.hcv, D.hne0]; rfl))) ?_
                            clear hx192; cbv
                            refine R.callD h (fun x193 hx193 h2 => ?_)
                            clear h; have h := h2; clear h2
                            refine R.call' (w32 _ _ _ _ hx193) (by (first | rfl | (simp only [D.har, D.hcmp, D.hcv, D.hne0]; done) | (simp only [D.har, D.hcmp, D.hcv, D.hne0]; rfl))) ?_
                            clear hx193; cbv
                            refine R.callD h (fun x194 hx194 h2 => ?_)
                            clear h; have h := h2; clear h2
                            refine R.call' (w32 _ _ _ _ hx194) (by (first | rfl | (simp only [D.har, D.hcmp, D.hcv, D.hne0]; done) | (simp only [D.har, D.hcmp, D.hcv, D.hne0]; rfl))) ?_
                            clear hx194; cbv
                            refine R.callD h (fun x195 hx195 h2 => ?_)
                            clear h; have h := h2; clear h2
                            refine R.call' (w38 _ _ _ _ _ hx195) (by (first | rfl | (simp only [D.har, D.hcmp, D.hcv, D.hne0]; done) | (simp only [D.har, D.hcmp, D.hcv, D.hne0]; rfl))) ?_
                            clear hx195; cbv
                            refine R.callD h (fun x196 hx196 h2 => ?_)
                            clear h; have h := h2; clear h2
                            refine R.call' (w73 _ _ hx196) (by (first | rfl | (simp only [D.har, D.hcmp, D.hcv, D.hne0]; done) | (simp only [D.har, D.hcmp, D.hcv, D.hne0]; rfl))) ?_
                            clear hx196; cbv
                            refine R.callD h (fun x197 hx197 h2 => ?_)
                            clear h; have h := h2; clear h2
                            refine R.call' (w37 _ _ hx197) (by (first | rfl | (simp only [D.har, D.hcmp, D.hcv, D.hne0]; done) | (simp only [D.har, D.hcmp, D.hcv, D.hne0]; rfl))) ?_
                            clear hx197; cbv
                            have e := ret_some h; clear h
                            refine hK _ _ ?_
                            cbv
                            try (subst e; simp only [D.har, D.hcmp, D.hcv, D.hne0, and_self, and_true, true_and] <;> (repeat' apply And.intro) <;> rfl)
                          · as_aux_lemma =>
                            refine R.brD h (by (first | rfl | (simp only [D.har, D.hcmp, D.hcv, D.hne0]; done) | (simp only [D.har, D.hcmp, D.hcv, D.hne0]; rfl))) ?_ ?_ <;> clear h <;> intro h <;> cbv
                            · refine R.callD h (fun x198 hx198 h2 => ?_)
                              clear h; have h := h2; clear h2
                              refine R.call' (w36 _ hx198) (by (first | rfl | (simp only [D.har, D.hcmp, D.hcv, D.hne0]; done) | (simp only [D.har, D.hcmp, D.hcv, D.hne0]; rfl))) ?_
                              clear hx198; cbv
                              refine R.callD h (fun x199 hx199 h2 => ?_)
                              clear h; have h := h2; clear h2
                              refine R.call' (w32 _ _ _ _ hx199) (by (first | rfl | (simp only [D.har, D.hcmp, D.hcv, D.hne0]; done) | (simp only [D.har, D.hcmp, D.hcv, D.hne0]; rfl))) ?_
                              clear hx199; cbv
                              refine R.callD h (fun x200 hx200 h2 => ?_)
                              clear h; have h := h2; clear h2
                              refine R.call' (w32 _ _ _ _ hx200) (by (first | rfl | (simp only [D.har, D.hcmp, D.hcv, D.hne0]; done) | (simp only [D.har, D.hcmp, D.hcv, D.hne0]; rfl))) ?_
                              clear hx200; cbv
                              refine R.callD h (fun x201 hx201 h2 => ?_)
                              clear h; have h := h2; clear h2
                              refine R.call' (w38 _ _ _ _ _ hx201) (by (first | rfl | (simp only [D.har, D.hcmp, D.hcv, D.hne0]; done) | (simp only [D.har, D.hcmp, D.hcv, D.hne0]; rfl))) ?_
                              clear hx201; cbv
                              refine R.callD h (fun x202 hx202 h2 => ?_)
                              clear h; have h := h2; clear h2
                              refine R.call' (w74 _ _ hx202) (by (first | rfl | (simp only [D.har, D.hcmp, D.hcv, D.hne0]; done) | (simp only [D.har, D.hcmp, D.hcv, D.hne0]; rfl))) ?_
                              clear hx202; cbv
                              refine R.callD h (fun x203 hx203 h2 => ?_)
                              clear h; have h := h2; clear h2
                              refine R.call' (w37 _ _ hx203) (by (first | rfl | (simp only [D.har, D.hcmp, D.hcv, D.hne0]; done) | (simp only [D.har, D.hcmp, D.hcv, D.hne0]; rfl))) ?_
                              clear hx203; cbv
                              have e := ret_some h; clear h
                              refine hK _ _ ?_
                              cbv
                              try (subst e; simp only [D.har, D.hcmp, D.hcv, D.hne0, and_self, and_true, true_and] <;> (repeat' apply And.intro) <;> rfl)
                            · as_aux_lemma =>
                              refine R.brD h (by (first | rfl | (simp only [D.har, D.hcmp, D.hcv, D.hne0]; done) | (simp only [D.har, D.hcmp, D.hcv, D.hne0]; rfl))) ?_ ?_ <;> clear h <;> intro h <;> cbv
                              · refine R.callD h (fun x204 hx204 h2 => ?_)
                                clear h; have h := h2; clear h2
                                refine R.call' (w36 _ hx204) (by (first | rfl | (simp only [D.har, D.hcmp, D.hcv, D.hne0]; done) | (simp only [D.har, D.hcmp, D.hcv, D.hne0]; rfl))) ?_
                                clear hx204; cbv
                                refine R.callD h (fun x205 hx205 h2 => ?_)
                                clear h; have h := h2; clear h2
                                refine R.call' (w32 _ _ _ _ hx205) (by (first | rfl | (simp only [D.har, D.hcmp, D.hcv, D.hne0]; done) | (simp only [D.har, D.hcmp, D.hcv, D.hne0]; rfl))) ?_
                                clear hx205; cbv
                                refine R.callD h (fun x206 hx206 h2 => ?_)
                                clear h; have h := h2; clear h2
                                refine R.call' (w32 _ _ _ _ hx206) (by (first | rfl | (simp only [D.har, D.hcmp, D.hcv, D.hne0]; done) | (simp only [D.har, D.hcmp, D.hcv, D.hne0]; rfl))) ?_
                                clear hx206; cbv
                                refine R.callD h (fun x207 hx207 h2 => ?_)
                                clear h; have h := h2; clear h2
                                refine R.call' (w38 _ _ _ _ _ hx207) (by (first | rfl | (simp only [D.har, D.hcmp, D.hcv, D.hne0]; done) | (simp only [D.har, D.hcmp, D.hcv, D.hne0]; rfl))) ?_
                                clear hx207; cbv
                                refine R.callD h (fun x208 hx208 h2 => ?_)
                                clear h; have h := h2; clear h2
                                refine R.call' (w75 _ _ hx208) (by (first | rfl | (simp only [D.har, D.hcmp, D.hcv, D.hne0]; done) | (simp only [D.har, D.hcmp, D.hcv, D.hne0]; rfl))) ?_
                                clear hx208; cbv
                                refine R.callD h (fun x209 hx209 h2 => ?_)
                                clear h; have h := h2; clear h2
                                refine R.call' (w37 _ _ hx209) (by (first | rfl | (simp only [D.har, D.hcmp, D.hcv, D.hne0]; done) | (simp only [D.har, D.hcmp, D.hcv, D.hne0]; rfl))) ?_
                                clear hx209; cbv
                                have e := ret_some h; clear h
                                refine hK _ _ ?_
                                cbv
                                try (subst e; simp only [D.har, D.hcmp, D.hcv, D.hne0, and_self, and_true, true_and] <;> (repeat' apply And.intro) <;> rfl)
                              · refine R.cutB Sum.inl (fun _ _ e => Sum.inl.inj e) h [] (fun p211 => []) (fun p211 => []) (by kernel_rfl) (by kernel_rfl) (fun y210 hy hFy210 L hLy210 => ?_) (fun p211 h2 => ?_)
                                · clear h; have h := hy; clear hy; cbv
                                  refine R.cut' (by kernel_rfl) (by kernel_rfl) ?_
                                  cbv
                                  refine R.brD h (by (first | rfl | (simp only [D.har, D.hcmp, D.hcv, D.hne0]; done) | (simp only [D.har, D.hcmp, D.hcv, D.hne0]; rfl))) ?_ ?_ <;> clear h <;> intro h <;> cbv
                                  · refine R.brD h (by (first | rfl | (simp only [D.har, D.hcmp, D.hcv, D.hne0]; done) | (simp only [D.har, D.hcmp, D.hcv, D.hne0]; rfl))) ?_ ?_ <;> clear h <;> intro h <;> cbv
                                    · have e := ret_some h; clear h
                                      have h := hFy210; rw [e] at h; clear e; try dsimp only at h
                                      cbv
                                      have e := ret_some h; clear h
                                      refine hK _ _ ?_
                                      cbv
                                      try (subst e; simp only [D.har, D.hcmp, D.hcv, D.hne0, and_self, and_true, true_and] <;> (repeat' apply And.intro) <;> rfl)
                                    · obtain ⟨s', e, hi⟩ := jn_some Sum.inl h
                                      refine hLy210 s' _ _ hi ⟨rfl, ?_, ?_, rfl, rfl⟩ <;> cbv <;> (try (subst e; simp only [D.har, D.hcmp, D.hcv, D.hne0, and_self, and_true, true_and] <;> (repeat' apply And.intro) <;> rfl))
                                  · obtain ⟨s', e, hi⟩ := jn_some Sum.inl h
                                    refine hLy210 s' _ _ hi ⟨rfl, ?_, ?_, rfl, rfl⟩ <;> cbv <;> (try (subst e; simp only [D.har, D.hcmp, D.hcv, D.hne0, and_self, and_true, true_and] <;> (repeat' apply And.intro) <;> rfl))
                                · clear h; have h := h2; clear h2; try dsimp only at h
                                  cbv
                                  refine R.callD h (fun x212 hx212 h2 => ?_)
                                  clear h; have h := h2; clear h2
                                  refine R.call' (w30 _ _ _ hx212) (by (first | rfl | (simp only [D.har, D.hcmp, D.hcv, D.hne0]; done) | (simp only [D.har, D.hcmp, D.hcv, D.hne0]; rfl))) ?_
                                  clear hx212; cbv
                                  refine R.callD h (fun x213 hx213 h2 => ?_)
                                  clear h; have h := h2; clear h2
                                  refine R.call' (w40 _ _ _ hx213) (by (first | rfl | (simp only [D.har, D.hcmp, D.hcv, D.hne0]; done) | (simp only [D.har, D.hcmp, D.hcv, D.hne0]; rfl))) ?_
                                  clear hx213; cbv
                                  refine R.needD h (by (first | rfl | (simp only [D.har, D.hcmp, D.hcv, D.hne0]; done) | (simp only [D.har, D.hcmp, D.hcv, D.hne0]; rfl))) ?_
                                  clear h; intro h; cbv
                                  refine R.callD h (fun x214 hx214 h2 => ?_)
                                  clear h; have h := h2; clear h2
                                  refine R.call' (w39 _ _ _ _ _ _ hx214) (by (first | rfl | (simp only [D.har, D.hcmp, D.hcv, D.hne0]; done) | (simp only [D.har, D.hcmp, D.hcv, D.hne0]; rfl))) ?_
                                  clear hx214; cbv
                                  have e := ret_some h; clear h
                                  refine hK _ _ ?_
                                  cbv
                                  try (subst e; simp only [D.har, D.hcmp, D.hcv, D.hne0, and_self, and_true, true_and] <;> (repeat' apply And.intro) <;> rfl)
end Go.Proofs.Ytjcabmhnekcbgaa
end
section
namespace Go.Proofs.Ytjcabmhnekcbgaa
open Go.Ab Go.RowKit 
set_option maxRecDepth 100000
set_option maxHeartbeats 4000000
noncomputable def d11 (a0 : Int) (a1_0 : Int) (a1_1 : Bool) (a2 : Int) (a3 : Int) : Option (Int × Bool × Int) :=
  (d14 a0 a1_0 a1_1 a2 a1_0 a1_1 a3).bind fun x1 =>
  some (x1.1, x1.2.1, x1.2.2.1)
noncomputable def w11_c : Code := (Try.f11.body).getD .skip
theorem w11_h : Try.f11.body = some w11_c := by kernel_rfl
theorem w11 (a0 : Int) (a1_0 : Int) (a1_1 : Bool) (a2 : Int) (a3 : Int) (r : Int × Bool × Int) (h : d11 a0 a1_0 a1_1 a2 a3 = some r) : Ab.Fn Try.prog TT 11 [.i .i64 a0, .agg [.i .i64 a1_0, .b a1_1], .i .i64 a2, .i .i64 a3] (.tup [.agg [.i .i64 r.1, .b r.2.1], .i .i64 r.2.2]) [] := by
  refine fn_pure tok W0 Try.func11 (by kernel_rfl) w11_h (by kernel_rfl) ?_
  intro ar un cv mn mx pl mi cmp nt beq an scmp cat slen sbyte ssub ofB toB len gi gb gs gl sub put app ovl rep ne0 ge0 inb bnd room sroom need br call loop cut nl E R K hK
  have D := E.D
  clear E
  unfold d11 at h
  cbv
  refine R.callD h (fun x1 hx1 h2 => ?_)
  clear h; have h := h2; clear h2
  refine R.call' (w14 _ _ _ _ _ _ _ _ hx1) (by rfl) ?_
  clear hx1; cbv
  have e := ret_some h; clear h
  refine hK _ _ ?_
  cbv
  try (subst e; simp only [and_self, and_true, true_and] <;> (repeat' apply And.intro) <;> rfl)

noncomputable def d12 (a0_0 : Int) (a0_1 : Bool) (a1 : Int) : Option (Int) :=
  (d28 a0_0 a0_1 a1).bind fun x1 =>
  some x1.1
noncomputable def w12_c : Code := (Try.f12.body).getD .skip
theorem w12_h : Try.f12.body = some w12_c := by kernel_rfl
theorem w12 (a0_0 : Int) (a0_1 : Bool) (a1 : Int) (r : Int) (h : d12 a0_0 a0_1 a1 = some r) : Ab.Fn Try.prog TT 12 [.agg [.i .i64 a0_0, .b a0_1], .i .i64 a1] (.i .i64 r) [] := by
  refine fn_pure tok W0 Try.func12 (by kernel_rfl) w12_h (by kernel_rfl) ?_
  intro ar un cv mn mx pl mi cmp nt beq an scmp cat slen sbyte ssub ofB toB len gi gb gs gl sub put app ovl rep ne0 ge0 inb bnd room sroom need br call loop cut nl E R K hK
  have D := E.D
  clear E
  unfold d12 at h
  cbv
  refine R.callD h (fun x1 hx1 h2 => ?_)
  clear h; have h := h2; clear h2
  refine R.call' (w28 _ _ _ _ hx1) (by rfl) ?_
  clear hx1; cbv
  have e := ret_some h; clear h
  refine hK _ _ ?_
  cbv
  try (subst e; simp only [and_self, and_true, true_and] <;> (repeat' apply And.intro) <;> rfl)

noncomputable def d13 (a0_0 : Int) (a0_1 : Bool) : Option (Int × Bool × Int) :=
  (d10 a0_0 a0_1).bind fun x2 =>
  if (cmpLit .neq x2 0) = true then
    some (0, false, x2)
  else
    (d30 a0_0 a0_1).bind fun x3 =>
    some (x3.1, x3.2, 0)
noncomputable def w13_c : Code := (Try.f13.body).getD .skip
theorem w13_h : Try.f13.body = some w13_c := by kernel_rfl
theorem w13 (a0_0 : Int) (a0_1 : Bool) (r : Int × Bool × Int) (h : d13 a0_0 a0_1 = some r) : Ab.Fn Try.prog TT 13 [.agg [.i .i64 a0_0, .b a0_1]] (.tup [.agg [.i .i64 r.1, .b r.2.1], .i .i64 r.2.2]) [] := by
  refine fn_pure tok W0 Try.func13 (by kernel_rfl) w13_h (by kernel_rfl) ?_
  intro ar un cv mn mx pl mi cmp nt beq an scmp cat slen sbyte ssub ofB toB len gi gb gs gl sub put app ovl rep ne0 ge0 inb bnd room sroom need br call loop cut nl E R K hK
  have D := E.D
  clear E
  unfold d13 at h
  cbv
  refine R.cut' (by kernel_rfl) (by kernel_rfl) ?_
  cbv
  refine R.callD h (fun x2 hx2 h2 => ?_)
  clear h; have h := h2; clear h2
  refine R.call' (w10 _ _ _ hx2) (by (first | rfl | (simp only [D.hcmp]; done) | (simp only [D.hcmp]; rfl))) ?_
  clear hx2; cbv
  refine R.brD h (by (first | rfl | (simp only [D.hcmp]; done) | (simp only [D.hcmp]; rfl))) ?_ ?_ <;> clear h <;> intro h <;> cbv
  · have e := ret_some h; clear h
    refine hK _ _ ?_
    cbv
    try (subst e; simp only [D.hcmp, and_self, and_true, true_and] <;> (repeat' apply And.intro) <;> rfl)
  · refine R.callD h (fun x3 hx3 h2 => ?_)
    clear h; have h := h2; clear h2
    refine R.call' (w30 _ _ _ hx3) (by (first | rfl | (simp only [D.hcmp]; done) | (simp only [D.hcmp]; rfl))) ?_
    clear hx3; cbv
    have e := ret_some h; clear h
    refine hK _ _ ?_
    cbv
    try (subst e; simp only [D.hcmp, and_self, and_true, true_and] <;> (repeat' apply And.intro) <;> rfl)
end Go.Proofs.Ytjcabmhnekcbgaa
end
section
namespace Go.Proofs.Ytjcabmhnekcbgaa
open Go.Ab Go.RowKit 
set_option maxRecDepth 100000
set_option maxHeartbeats 4000000
noncomputable def d41 (a0_0 : Int) (a0_1 : Bool) (a1 : Int) : Option (ByteArray) :=
  if (cmpLit .lss a1 0) = true then
    (d44 a0_0 a0_1).bind fun x5 =>
    if (notB' x5) = true then
      (d78 (unReal .neg .u64 (wrapK .u64 a1))).bind fun x6 =>
      if (Sroom (ByteArray.mk #[45]) x6) then
        some (catS (ByteArray.mk #[45]) x6)
      else none
    else
      (d78 (wrapK .u64 a1)).bind fun x7 =>
      some x7
  else
    (d78 (wrapK .u64 a1)).bind fun x8 =>
    some x8
noncomputable def w41_c : Code := (Try.f41.body).getD .skip
theorem w41_h : Try.f41.body = some w41_c := by kernel_rfl
theorem w41 (a0_0 : Int) (a0_1 : Bool) (a1 : Int) (r : ByteArray) (h : d41 a0_0 a0_1 a1 = some r) : Ab.Fn Try.prog TT 41 [.agg [.i .i64 a0_0, .b a0_1], .i .i64 a1] (.str r) [] := by
  refine fn_pure tok W0 Try.func41 (by kernel_rfl) w41_h (by kernel_rfl) ?_
  intro ar un cv mn mx pl mi cmp nt beq an scmp cat slen sbyte ssub ofB toB len gi gb gs gl sub put app ovl rep ne0 ge0 inb bnd room sroom need br call loop cut nl E R K hK
  have D := E.D
  clear E
  unfold d41 at h
  cbv
  refine R.cut' (by kernel_rfl) (by kernel_rfl) ?_
  cbv
  refine R.cut' (by kernel_rfl) (by kernel_rfl) ?_
  cbv
  refine R.brD h (by (first | rfl | (simp only [D.hcat, D.hcmp, D.hcv, D.hnt, D.hsroom, D.hun]; done) | (simp only [D.hcat, D.hcmp, D.hcv, D.hnt, D.hsroom, D.hun]; rfl))) ?_ ?_ <;> clear h <;> intro h <;> cbv
  · refine R.callD h (fun x5 hx5 h2 => ?_)
    clear h; have h := h2; clear h2
    refine R.call' (w44 _ _ _ hx5) (by (first | rfl | (simp only [D.hcat, D.hcmp, D.hcv, D.hnt, D.hsroom, D.hun]; done) | (simp only [D.hcat, D.hcmp, D.hcv, D.hnt, D.hsroom, D.hun]; rfl))) ?_
    clear hx5; cbv
    refine R.brD h (by (first | rfl | (simp only [D.hcat, D.hcmp, D.hcv, D.hnt, D.hsroom, D.hun]; done) | (simp only [D.hcat, D.hcmp, D.hcv, D.hnt, D.hsroom, D.hun]; rfl))) ?_ ?_ <;> clear h <;> intro h <;> cbv
    · refine R.callD h (fun x6 hx6 h2 => ?_)
      clear h; have h := h2; clear h2
      refine R.call' (w78 _ _ hx6) (by (first | rfl | (simp only [D.hcat, D.hcmp, D.hcv, D.hnt, D.hsroom, D.hun]; done) | (simp only [D.hcat, D.hcmp, D.hcv, D.hnt, D.hsroom, D.hun]; rfl))) ?_
      clear hx6; cbv
      refine R.needD h (by (first | rfl | (simp only [D.hcat, D.hcmp, D.hcv, D.hnt, D.hsroom, D.hun]; done) | (simp only [D.hcat, D.hcmp, D.hcv, D.hnt, D.hsroom, D.hun]; rfl))) ?_
      clear h; intro h; cbv
      have e := ret_some h; clear h
      refine hK _ _ ?_
      cbv
      try (subst e; simp only [D.hcat, D.hcmp, D.hcv, D.hnt, D.hsroom, D.hun, and_self, and_true, true_and] <;> (repeat' apply And.intro) <;> rfl)
    · refine R.callD h (fun x7 hx7 h2 => ?_)
      clear h; have h := h2; clear h2
      refine R.call' (w78 _ _ hx7) (by (first | rfl | (simp only [D.hcat, D.hcmp, D.hcv, D.hnt, D.hsroom, D.hun]; done) | (simp only [D.hcat, D.hcmp, D.hcv, D.hnt, D.hsroom, D.hun]; rfl))) ?_
      clear hx7; cbv
      have e := ret_some h; clear h
      refine hK _ _ ?_
      cbv
      try (subst e; simp only [D.hcat, D.hcmp, D.hcv, D.hnt, D.hsroom, D.hun, and_self, and_true, true_and] <;> (repeat' apply And.intro) <;> rfl)
  · refine R.callD h (fun x8 hx8 h2 => ?_)
    clear h; have h := h2; clear h2
    refine R.call' (w78 _ _ hx8) (by (first | rfl | (simp only [D.hcat, D.hcmp, D.hcv, D.hnt, D.hsroom, D.hun]; done) | (simp only [D.hcat, D.hcmp, D.hcv, D.hnt, D.hsroom, D.hun]; rfl))) ?_
    clear hx8; cbv
    have e := ret_some h; clear h
    refine hK _ _ ?_
    cbv
    try (subst e; simp only [D.hcat, D.hcmp, D.hcv, D.hnt, D.hsroom, D.hun, and_self, and_true, true_and] <;> (repeat' apply And.intro) <;> rfl)

noncomputable def d17 (a0_0 : Int) (a0_1 : Bool) (a1 : Int) : Option (ByteArray × Int) :=
  (d10 a0_0 a0_1).bind fun x2 =>
  if (cmpLit .neq x2 0) = true then
    some (ByteArray.empty, x2)
  else
    (d32 a0_0 a0_1 a1).bind fun x3 =>
    (d41 a0_0 a0_1 x3).bind fun x4 =>
    some (x4, 0)
noncomputable def w17_c : Code := (Try.f17.body).getD .skip
theorem w17_h : Try.f17.body = some w17_c := by kernel_rfl
theorem w17 (a0_0 : Int) (a0_1 : Bool) (a1 : Int) (r : ByteArray × Int) (h : d17 a0_0 a0_1 a1 = some r) : Ab.Fn Try.prog TT 17 [.agg [.i .i64 a0_0, .b a0_1], .i .i64 a1] (.tup [.str r.1, .i .i64 r.2]) [] := by
  refine fn_pure tok (fun r => match r with | 4 => [[],[],[],[1,2],[0,1,2,3],[0,1,2,3,4],[0,1,2,3,4,5]] | _ => []) Try.func17 (by kernel_rfl) w17_h (by kernel_rfl) ?_
  intro ar un cv mn mx pl mi cmp nt beq an scmp cat slen sbyte ssub ofB toB len gi gb gs gl sub put app ovl rep ne0 ge0 inb bnd room sroom need br call loop cut nl E R K hK
  have D := E.D
  clear E
  unfold d17 at h
  cbv
  refine R.cut' (by kernel_rfl) (by kernel_rfl) ?_
  cbv
  refine R.callD h (fun x2 hx2 h2 => ?_)
  clear h; have h := h2; clear h2
  refine R.call' (w10 _ _ _ hx2) (by (first | rfl | (simp only [D.hcmp]; done) | (simp only [D.hcmp]; rfl))) ?_
  clear hx2; cbv
  refine R.brD h (by (first | rfl | (simp only [D.hcmp]; done) | (simp only [D.hcmp]; rfl))) ?_ ?_ <;> clear h <;> intro h <;> cbv
  · have e := ret_some h; clear h
    refine hK _ _ ?_
    cbv
    try (subst e; simp only [D.hcmp, and_self, and_true, true_and] <;> (repeat' apply And.intro) <;> rfl)
  · refine R.callD h (fun x3 hx3 h2 => ?_)
    clear h; have h := h2; clear h2
    refine R.call' (w32 _ _ _ _ hx3) (by (first | rfl | (simp only [D.hcmp]; done) | (simp only [D.hcmp]; rfl))) ?_
    clear hx3; cbv
    refine R.callD h (fun x4 hx4 h2 => ?_)
    clear h; have h := h2; clear h2
    refine R.call' (w41 _ _ _ _ hx4) (by (first | rfl | (simp only [D.hcmp]; done) | (simp only [D.hcmp]; rfl))) ?_
    clear hx4; cbv
    have e := ret_some h; clear h
    refine hK _ _ ?_
    cbv
    try (subst e; simp only [D.hcmp, and_self, and_true, true_and] <;> (repeat' apply And.intro) <;> rfl)

noncomputable def d84 (a0 : ByteArray) (a1 : ByteArray) : Option (Bool) :=
  if (cmpLit .geq (slenI a0) (slenI a1)) = true then
    if (Bnd 0 (slenI a1) (slenI a0)) then
      some (strCmp .eql (subS a0 0 (slenI a1)) a1)
    else none
  else
    some false
noncomputable def w84_c : Code := (Try.f84.body).getD .skip
theorem w84_h : Try.f84.body = some w84_c := by kernel_rfl
theorem w84 (a0 : ByteArray) (a1 : ByteArray) (r : Bool) (h : d84 a0 a1 = some r) : Ab.Fn Try.prog TT 84 [.str a0, .str a1] (.b r) [] := by
  refine fn_pure tok W0 Try.func84 (by kernel_rfl) w84_h (by kernel_rfl) ?_
  intro ar un cv mn mx pl mi cmp nt beq an scmp cat slen sbyte ssub ofB toB len gi gb gs gl sub put app ovl rep ne0 ge0 inb bnd room sroom need br call loop cut nl E R K hK
  have D := E.D
  clear E
  unfold d84 at h
  cbv
  refine R.cut' (by kernel_rfl) (by kernel_rfl) ?_
  cbv
  refine R.brD h (by (first | rfl | (simp only [D.hbnd, D.hcmp, D.hscmp, D.hslen, D.hssub]; done) | (simp only [D.hbnd, D.hcmp, D.hscmp, D.hslen, D.hssub]; rfl))) ?_ ?_ <;> clear h <;> intro h <;> cbv
  · refine R.needD h (by (first | rfl | (simp only [D.hbnd, D.hcmp, D.hscmp, D.hslen, D.hssub]; done) | (simp only [D.hbnd, D.hcmp, D.hscmp, D.hslen, D.hssub]; rfl))) ?_
    clear h; intro h; cbv
    have e := ret_some h; clear h
    refine hK _ _ ?_
    cbv
    try (subst e; simp only [D.hbnd, D.hcmp, D.hscmp, D.hslen, D.hssub, and_self, and_true, true_and] <;> (repeat' apply And.intro) <;> rfl)
  · have e := ret_some h; clear h
    refine hK _ _ ?_
    cbv
    try (subst e; simp only [D.hbnd, D.hcmp, D.hscmp, D.hslen, D.hssub, and_self, and_true, true_and] <;> (repeat' apply And.intro) <;> rfl)

noncomputable def d79 (a0 : ByteArray) (a1 : ByteArray) : Option (ByteArray × Bool) :=
  (d84 a0 a1).bind fun x2 =>
  if (notB' x2) = true then
    some (a0, false)
  else
    if (Bnd (slenI a1) (slenI a0) (slenI a0)) then
      some ((subS a0 (slenI a1) (slenI a0)), true)
    else none
noncomputable def w79_c : Code := (Try.f79.body).getD .skip
theorem w79_h : Try.f79.body = some w79_c := by kernel_rfl
theorem w79 (a0 : ByteArray) (a1 : ByteArray) (r : ByteArray × Bool) (h : d79 a0 a1 = some r) : Ab.Fn Try.prog TT 79 [.str a0, .str a1] (.tup [.str r.1, .b r.2]) [] := by
  refine fn_pure tok W0 Try.func79 (by kernel_rfl) w79_h (by kernel_rfl) ?_
  intro ar un cv mn mx pl mi cmp nt beq an scmp cat slen sbyte ssub ofB toB len gi gb gs gl sub put app ovl rep ne0 ge0 inb bnd room sroom need br call loop cut nl E R K hK
  have D := E.D
  clear E
  unfold d79 at h
  cbv
  refine R.cut' (by kernel_rfl) (by kernel_rfl) ?_
  cbv
  refine R.callD h (fun x2 hx2 h2 => ?_)
  clear h; have h := h2; clear h2
  refine R.call' (w84 _ _ _ hx2) (by (first | rfl | (simp only [D.hbnd, D.hnt, D.hslen, D.hssub]; done) | (simp only [D.hbnd, D.hnt, D.hslen, D.hssub]; rfl))) ?_
  clear hx2; cbv
  refine R.brD h (by (first | rfl | (simp only [D.hbnd, D.hnt, D.hslen, D.hssub]; done) | (simp only [D.hbnd, D.hnt, D.hslen, D.hssub]; rfl))) ?_ ?_ <;> clear h <;> intro h <;> cbv
  · have e := ret_some h; clear h
    refine hK _ _ ?_
    cbv
    try (subst e; simp only [D.hbnd, D.hnt, D.hslen, D.hssub, and_self, and_true, true_and] <;> (repeat' apply And.intro) <;> rfl)
  · refine R.needD h (by (first | rfl | (simp only [D.hbnd, D.hnt, D.hslen, D.hssub]; done) | (simp only [D.hbnd, D.hnt, D.hslen, D.hssub]; rfl))) ?_
    clear h; intro h; cbv
    have e := ret_some h; clear h
    refine hK _ _ ?_
    cbv
    try (subst e; simp only [D.hbnd, D.hnt, D.hslen, D.hssub, and_self, and_true, true_and] <;> (repeat' apply And.intro) <;> rfl)

noncomputable def d42 (a0 : ByteArray) (a1 : ByteArray) : Option (ByteArray × Bool) :=
  (d79 a0 a1).bind fun x1 =>
  some (x1.1, x1.2)
noncomputable def w42_c : Code := (Try.f42.body).getD .skip
theorem w42_h : Try.f42.body = some w42_c := by kernel_rfl
theorem w42 (a0 : ByteArray) (a1 : ByteArray) (r : ByteArray × Bool) (h : d42 a0 a1 = some r) : Ab.Fn Try.prog TT 42 [.str a0, .str a1] (.tup [.str r.1, .b r.2]) [] := by
  refine fn_pure tok W0 Try.func42 (by kernel_rfl) w42_h (by kernel_rfl) ?_
  intro ar un cv mn mx pl mi cmp nt beq an scmp cat slen sbyte ssub ofB toB len gi gb gs gl sub put app ovl rep ne0 ge0 inb bnd room sroom need br call loop cut nl E R K hK
  have D := E.D
  clear E
  unfold d42 at h
  cbv
  refine R.callD h (fun x1 hx1 h2 => ?_)
  clear h; have h := h2; clear h2
  refine R.call' (w79 _ _ _ hx1) (by rfl) ?_
  clear hx1; cbv
  have e := ret_some h; clear h
  refine hK _ _ ?_
  cbv
  try (subst e; simp only [and_self, and_true, true_and] <;> (repeat' apply And.intro) <;> rfl)

noncomputable def d80 (a0 : Int) : Option (Int) :=
  Option.bind (α := Bool) (
    if (cmpLit .geq a0 48) = true then
      some (cmpLit .leq a0 57)
    else
      some false) fun y5 =>
  if y5 = true then
    some (wrapK .u64 (arReal .sub .u8 a0 48))
  else
    Option.bind (α := Bool) (
      if (cmpLit .geq a0 97) = true then
        some (cmpLit .leq a0 102)
      else
        some false) fun y7 =>
    if y7 = true then
      some (arReal .add .u64 (wrapK .u64 (arReal .sub .u8 a0 97)) 10)
    else
      if (cmpLit .geq a0 65) = true then
        if (cmpLit .leq a0 70) = true then
          some (arReal .add .u64 (wrapK .u64 (arReal .sub .u8 a0 65)) 10)
        else
          some 16
      else
        some 16
noncomputable def w80_c : Code := (Try.f80.body).getD .skip
theorem w80_h : Try.f80.body = some w80_c := by kernel_rfl
theorem w80 (a0 : Int) (r : Int) (h : d80 a0 = some r) : Ab.Fn Try.prog TT 80 [.i .u8 a0] (.i .u64 r) [] := by
  refine fn_pure tok W0 Try.func80 (by kernel_rfl) w80_h (by kernel_rfl) ?_
  intro ar un cv mn mx pl mi cmp nt beq an scmp cat slen sbyte ssub ofB toB len gi gb gs gl sub put app ovl rep ne0 ge0 inb bnd room sroom need br call loop cut nl E R K hK
  have D := E.D
  clear E
  unfold d80 at h
  cbv
  refine R.cut' (by kernel_rfl) (by kernel_rfl) ?_
  cbv
  refine R.cutB (fun p => p) (fun _ _ e => e) h [] (fun p6 => [(3, .b p6)]) (fun p6 => []) (by kernel_rfl) (by kernel_rfl) (fun y5 hy hFy5 L hLy5 => ?_) (fun p6 h2 => ?_)
  · clear h; have h := hy; clear hy; cbv
    refine R.brD h (by (first | rfl | (simp only [D.har, D.hcmp, D.hcv]; done) | (simp only [D.har, D.hcmp, D.hcv]; rfl))) ?_ ?_ <;> clear h <;> intro h <;> cbv
    · obtain ⟨s', e, hi⟩ := jn_some (fun p => p) h
      refine hLy5 s' _ _ hi ⟨rfl, ?_, ?_, rfl, rfl⟩ <;> cbv <;> (try (subst e; simp only [D.har, D.hcmp, D.hcv, and_self, and_true, true_and] <;> (repeat' apply And.intro) <;> rfl))
    · obtain ⟨s', e, hi⟩ := jn_some (fun p => p) h
      refine hLy5 s' _ _ hi ⟨rfl, ?_, ?_, rfl, rfl⟩ <;> cbv <;> (try (subst e; simp only [D.har, D.hcmp, D.hcv, and_self, and_true, true_and] <;> (repeat' apply And.intro) <;> rfl))
  · clear h; have h := h2; clear h2; try dsimp only at h
    cbv
    refine R.brD h (by (first | rfl | (simp only [D.har, D.hcmp, D.hcv]; done) | (simp only [D.har, D.hcmp, D.hcv]; rfl))) ?_ ?_ <;> clear h <;> intro h <;> cbv
    · have e := ret_some h; clear h
      refine hK _ _ ?_
      cbv
      try (subst e; simp only [D.har, D.hcmp, D.hcv, and_self, and_true, true_and] <;> (repeat' apply And.intro) <;> rfl)
    · refine R.cutB (fun p => p) (fun _ _ e => e) h [] (fun p8 => [(13, .b p8)]) (fun p8 => []) (by kernel_rfl) (by kernel_rfl) (fun y7 hy hFy7 L hLy7 => ?_) (fun p8 h2 => ?_)
      · clear h; have h := hy; clear hy; cbv
        refine R.brD h (by (first | rfl | (simp only [D.har, D.hcmp, D.hcv]; done) | (simp only [D.har, D.hcmp, D.hcv]; rfl))) ?_ ?_ <;> clear h <;> intro h <;> cbv
        · obtain ⟨s', e, hi⟩ := jn_some (fun p => p) h
          refine hLy7 s' _ _ hi ⟨rfl, ?_, ?_, rfl, rfl⟩ <;> cbv <;> (try (subst e; simp only [D.har, D.hcmp, D.hcv, and_self, and_true, true_and] <;> (repeat' apply And.intro) <;> rfl))
        · obtain ⟨s', e, hi⟩ := jn_some (fun p => p) h
          refine hLy7 s' _ _ hi ⟨rfl, ?_, ?_, rfl, rfl⟩ <;> cbv <;> (try (subst e; simp only [D.har, D.hcmp, D.hcv, and_self, and_true, true_and] <;> (repeat' apply And.intro) <;> rfl))
      · clear h; have h := h2; clear h2; try dsimp only at h
        cbv
        refine R.brD h (by (first | rfl | (simp only [D.har, D.hcmp, D.hcv]; done) | (simp only [D.har, D.hcmp, D.hcv]; rfl))) ?_ ?_ <;> clear h <;> intro h <;> cbv
        · have e := ret_some h; clear h
          refine hK _ _ ?_
          cbv
          try (subst e; simp only [D.har, D.hcmp, D.hcv, and_self, and_true, true_and] <;> (repeat' apply And.intro) <;> rfl)
        · refine R.cut' (by kernel_rfl) (by kernel_rfl) ?_
          cbv
          refine R.brD h (by (first | rfl | (simp only [D.har, D.hcmp, D.hcv]; done) | (simp only [D.har, D.hcmp, D.hcv]; rfl))) ?_ ?_ <;> clear h <;> intro h <;> cbv
          · refine R.brD h (by (first | rfl | (simp only [D.har, D.hcmp, D.hcv]; done) | (simp only [D.har, D.hcmp, D.hcv]; rfl))) ?_ ?_ <;> clear h <;> intro h <;> cbv
            · have e := ret_some h; clear h
              refine hK _ _ ?_
              cbv
              try (subst e; simp only [D.har, D.hcmp, D.hcv, and_self, and_true, true_and] <;> (repeat' apply And.intro) <;> rfl)
            · have e := ret_some h; clear h
              refine hK _ _ ?_
              cbv
              try (subst e; simp only [D.har, D.hcmp, D.hcv, and_self, and_true, true_and] <;> (repeat' apply And.intro) <;> rfl)
          · have e := ret_some h; clear h
            refine hK _ _ ?_
            cbv
            try (subst e; simp only [D.har, D.hcmp, D.hcv, and_self, and_true, true_and] <;> (repeat' apply And.intro) <;> rfl)

noncomputable def d81 (a0 : Int) (a1 : Int) : Option (Int × Int) :=
  if (Ge0 32) then
    if (Ge0 32) then
      if (Ge0 32) then
        if (Ge0 32) then
          if (Ge0 32) then
            some ((arReal .add .u64 (arReal .add .u64 (arReal .mul .u64 (arReal .shr .u64 a0 32) (arReal .shr .u64 a1 32)) (arReal .shr .u64 (arReal .add .u64 (arReal .mul .u64 (arReal .shr .u64 a0 32) (arReal .and .u64 a1 4294967295)) (arReal .shr .u64 (arReal .mul .u64 (arReal .and .u64 a0 4294967295) (arReal .and .u64 a1 4294967295)) 32)) 32)) (arReal .shr .u64 (arReal .add .u64 (arReal .and .u64 (arReal .add .u64 (arReal .mul .u64 (arReal .shr .u64 a0 32) (arReal .and .u64 a1 4294967295)) (arReal .shr .u64 (arReal .mul .u64 (arReal .and .u64 a0 4294967295) (arReal .and .u64 a1 4294967295)) 32)) 4294967295) (arReal .mul .u64 (arReal .and .u64 a0 4294967295) (arReal .shr .u64 a1 32))) 32)), (arReal .mul .u64 a0 a1))
          else none
        else none
      else none
    else none
  else none
noncomputable def w81_c : Code := (Try.f81.body).getD .skip
theorem w81_h : Try.f81.body = some w81_c := by kernel_rfl
theorem w81 (a0 : Int) (a1 : Int) (r : Int × Int) (h : d81 a0 a1 = some r) : Ab.Fn Try.prog TT 81 [.i .u64 a0, .i .u64 a1] (.tup [.i .u64 r.1, .i .u64 r.2]) [] := by
  refine fn_pure tok W0 Try.func81 (by kernel_rfl) w81_h (by kernel_rfl) ?_
  intro ar un cv mn mx pl mi cmp nt beq an scmp cat slen sbyte ssub ofB toB len gi gb gs gl sub put app ovl rep ne0 ge0 inb bnd room sroom need br call loop cut nl E R K hK
  have D := E.D
  clear E
  unfold d81 at h
  cbv
  refine R.needD h (by (first | rfl | (simp only [D.har, D.hge0]; done) | (simp only [D.har, D.hge0]; rfl))) ?_
  clear h; intro h; cbv
  refine R.needD h (by (first | rfl | (simp only [D.har, D.hge0]; done) | (simp only [D.har, D.hge0]; rfl))) ?_
  clear h; intro h; cbv
  refine R.needD h (by (first | rfl | (simp only [D.har, D.hge0]; done) | (simp only [D.har, D.hge0]; rfl))) ?_
  clear h; intro h; cbv
  refine R.needD h (by (first | rfl | (simp only [D.har, D.hge0]; done) | (simp only [D.har, D.hge0]; rfl))) ?_
  clear h; intro h; cbv
  refine R.needD h (by (first | rfl | (simp only [D.har, D.hge0]; done) | (simp only [D.har, D.hge0]; rfl))) ?_
  clear h; intro h; cbv
  have e := ret_some h; clear h
  refine hK _ _ ?_
  cbv
  try (subst e; simp only [D.har, D.hge0, and_self, and_true, true_and] <;> (repeat' apply And.intro) <;> rfl)

noncomputable def d43_b1 (a0 : ByteArray) (a1 : Int) (s22 : Int × Int) : Option ((Int × Int) ⊕ ((Int × Bool) ⊕ (Int))) :=
  if (cmpLit .lss s22.2 (slenI a0)) = true then
    if (Inb s22.2 (slenI a0)) then
      (d80 (sbyteI a0 s22.2)).bind fun x33 =>
      (d81 s22.1 a1).bind fun x34 =>
      (d82 x34.2 x33 0).bind fun x35 =>
      if (cmpLit .geq x33 a1) = true then
        some (.inr (.inl (0, false)))
      else
        if (cmpLit .neq x34.1 0) = true then
          some (.inr (.inl (0, false)))
        else
          if (cmpLit .neq x35.2 0) = true then
            some (.inr (.inl (0, false)))
          else
            some (.inl (x35.1, (arReal .add .i64 s22.2 1)))
    else none
  else
    some (.inr (.inr s22.1))
noncomputable def d43 (a0 : ByteArray) (a1 : Int) : Option (Int × Bool) :=
  Option.bind (α := (Int) ⊕ (Int × Bool)) (
    (iter (d43_b1 a0 a1) (0, 0)).bind fun y29 =>
    match y29 with
    | .inl p36 =>
      some (.inr p36)
    | .inr y29r0 =>
      some (.inl y29r0)) fun y15 =>
  match y15 with
  | .inl p38 =>
    some (p38, (strCmp .neq a0 ByteArray.empty))
  | .inr y15r0 =>
    some y15r0
noncomputable def w43_c : Code := (Try.f43.body).getD .skip
theorem w43_h : Try.f43.body = some w43_c := by kernel_rfl
theorem w43 (a0 : ByteArray) (a1 : Int) (r : Int × Bool) (h : d43 a0 a1 = some r) : Ab.Fn Try.prog TT 43 [.str a0, .i .u64 a1] (.tup [.i .u64 r.1, .b r.2]) [] := by
  refine fn_pure tok W0 Try.func43 (by kernel_rfl) w43_h (by kernel_rfl) ?_
  intro ar un cv mn mx pl mi cmp nt beq an scmp cat slen sbyte ssub ofB toB len gi gb gs gl sub put app ovl rep ne0 ge0 inb bnd room sroom need br call loop cut nl E R K hK
  have D := E.D
  clear E
  unfold d43 at h
  cbv
  refine R.cutB Sum.inl (fun _ _ e => Sum.inl.inj e) h [] (fun p38 => [(6, .i .u64 p38)]) (fun p38 => []) (by kernel_rfl) (by kernel_rfl) (fun y15 hy hFy15 L hLy15 => ?_) (fun p38 h2 => ?_)
  · clear h; have h := hy; clear hy; cbv
    refine R.loopD h (fun s0 y29 e0 hi hFs22 => ?_)
    clear h
    refine R.loopI hi [] (fun s22 => [(6, .i .u64 s22.1), (15, .i .i64 s22.2)]) (fun s22 => []) ⟨rfl, ?_, ?_, rfl, rfl⟩ (by kernel_rfl) ?_
    · cbv; try (subst e0; simp only [D.har, D.hcmp, D.hinb, D.hsbyte, D.hscmp, D.hslen, and_self, and_true, true_and] <;> (repeat' apply And.intro) <;> rfl)
    · cbv; try (subst e0; simp only [D.har, D.hcmp, D.hinb, D.hsbyte, D.hscmp, D.hslen, and_self, and_true, true_and] <;> (repeat' apply And.intro) <;> rfl)
    clear hi e0
    intro s22 m y' hy hins22 houts22 L hLs22
    have h := hy; clear hy; unfold d43_b1 at h
    cbv
    refine R.cut' (by kernel_rfl) (by kernel_rfl) ?_
    cbv
    refine R.brD h (by (first | rfl | (simp only [D.har, D.hcmp, D.hinb, D.hsbyte, D.hscmp, D.hslen]; done) | (simp only [D.har, D.hcmp, D.hinb, D.hsbyte, D.hscmp, D.hslen]; rfl))) ?_ ?_ <;> clear h <;> intro h <;> cbv
    · refine R.cut' (by kernel_rfl) (by kernel_rfl) ?_
      cbv
      refine R.needD h (by (first | rfl | (simp only [D.har, D.hcmp, D.hinb, D.hsbyte, D.hscmp, D.hslen]; done) | (simp only [D.har, D.hcmp, D.hinb, D.hsbyte, D.hscmp, D.hslen]; rfl))) ?_
      clear h; intro h; cbv
      refine R.callD h (fun x33 hx33 h2 => ?_)
      clear h; have h := h2; clear h2
      refine R.call' (w80 _ _ hx33) (by (first | rfl | (simp only [D.har, D.hcmp, D.hinb, D.hsbyte, D.hscmp, D.hslen]; done) | (simp only [D.har, D.hcmp, D.hinb, D.hsbyte, D.hscmp, D.hslen]; rfl))) ?_
      clear hx33; cbv
      refine R.callD h (fun x34 hx34 h2 => ?_)
      clear h; have h := h2; clear h2
      refine R.call' (w81 _ _ _ hx34) (by (first | rfl | (simp only [D.har, D.hcmp, D.hinb, D.hsbyte, D.hscmp, D.hslen]; done) | (simp only [D.har, D.hcmp, D.hinb, D.hsbyte, D.hscmp, D.hslen]; rfl))) ?_
      clear hx34; cbv
      refine R.callD h (fun x35 hx35 h2 => ?_)
      clear h; have h := h2; clear h2
      refine R.call' (w82 _ _ _ _ hx35) (by (first | rfl | (simp only [D.har, D.hcmp, D.hinb, D.hsbyte, D.hscmp, D.hslen]; done) | (simp only [D.har, D.hcmp, D.hinb, D.hsbyte, D.hscmp, D.hslen]; rfl))) ?_
      clear hx35; cbv
      refine R.cut' (by kernel_rfl) (by kernel_rfl) ?_
      cbv
      refine R.cut' (by kernel_rfl) (by kernel_rfl) ?_
      cbv
      refine R.brD h (by (first | rfl | (simp only [D.har, D.hcmp, D.hinb, D.hsbyte, D.hscmp, D.hslen]; done) | (simp only [D.har, D.hcmp, D.hinb, D.hsbyte, D.hscmp, D.hslen]; rfl))) ?_ ?_ <;> clear h <;> intro h <;> cbv
      · have e := inr_some h houts22; clear h
        have h := hFs22; rw [e] at h; clear e; try dsimp only at h
        cbv
        have e := ret_some h; clear h
        have h := hFy15; rw [e] at h; clear e; try dsimp only at h
        cbv
        have e := ret_some h; clear h
        refine hK _ _ ?_
        cbv
        try (subst e; simp only [D.har, D.hcmp, D.hinb, D.hsbyte, D.hscmp, D.hslen, and_self, and_true, true_and] <;> (repeat' apply And.intro) <;> rfl)
      · refine R.brD h (by (first | rfl | (simp only [D.har, D.hcmp, D.hinb, D.hsbyte, D.hscmp, D.hslen]; done) | (simp only [D.har, D.hcmp, D.hinb, D.hsbyte, D.hscmp, D.hslen]; rfl))) ?_ ?_ <;> clear h <;> intro h <;> cbv
        · have e := inr_some h houts22; clear h
          have h := hFs22; rw [e] at h; clear e; try dsimp only at h
          cbv
          have e := ret_some h; clear h
          have h := hFy15; rw [e] at h; clear e; try dsimp only at h
          cbv
          have e := ret_some h; clear h
          refine hK _ _ ?_
          cbv
          try (subst e; simp only [D.har, D.hcmp, D.hinb, D.hsbyte, D.hscmp, D.hslen, and_self, and_true, true_and] <;> (repeat' apply And.intro) <;> rfl)
        · refine R.brD h (by (first | rfl | (simp only [D.har, D.hcmp, D.hinb, D.hsbyte, D.hscmp, D.hslen]; done) | (simp only [D.har, D.hcmp, D.hinb, D.hsbyte, D.hscmp, D.hslen]; rfl))) ?_ ?_ <;> clear h <;> intro h <;> cbv
          · have e := inr_some h houts22; clear h
            have h := hFs22; rw [e] at h; clear e; try dsimp only at h
            cbv
            have e := ret_some h; clear h
            have h := hFy15; rw [e] at h; clear e; try dsimp only at h
            cbv
            have e := ret_some h; clear h
            refine hK _ _ ?_
            cbv
            try (subst e; simp only [D.har, D.hcmp, D.hinb, D.hsbyte, D.hscmp, D.hslen, and_self, and_true, true_and] <;> (repeat' apply And.intro) <;> rfl)
          · obtain ⟨s', e, hi⟩ := inl_some h hins22
            refine hLs22 s' _ _ hi ⟨rfl, ?_, ?_, rfl, rfl⟩ <;> cbv <;> (try (subst e; simp only [D.har, D.hcmp, D.hinb, D.hsbyte, D.hscmp, D.hslen, and_self, and_true, true_and] <;> (repeat' apply And.intro) <;> rfl))
    · have e := inr_some h houts22; clear h
      have h := hFs22; rw [e] at h; clear e; try dsimp only at h
      cbv
      obtain ⟨s', e, hi⟩ := jn_some Sum.inl h
      refine hLy15 s' _ _ hi ⟨rfl, ?_, ?_, rfl, rfl⟩ <;> cbv <;> (try (subst e; simp only [D.har, D.hcmp, D.hinb, D.hsbyte, D.hscmp, D.hslen, and_self, and_true, true_and] <;> (repeat' apply And.intro) <;> rfl))
  · clear h; have h := h2; clear h2; try dsimp only at h
    cbv
    have e := ret_some h; clear h
    refine hK _ _ ?_
    cbv
    try (subst e; simp only [D.har, D.hcmp, D.hinb, D.hsbyte, D.hscmp, D.hslen, and_self, and_true, true_and] <;> (repeat' apply And.intro) <;> rfl)

noncomputable def d83 (a0 : ByteArray) (a1 : ByteArray) : Option (ByteArray) :=
  (d84 a0 a1).bind fun x2 =>
  if x2 = true then
    if (Bnd (slenI a1) (slenI a0) (slenI a0)) then
      some (subS a0 (slenI a1) (slenI a0))
    else none
  else
    some a0
noncomputable def w83_c : Code := (Try.f83.body).getD .skip
theorem w83_h : Try.f83.body = some w83_c := by kernel_rfl
theorem w83 (a0 : ByteArray) (a1 : ByteArray) (r : ByteArray) (h : d83 a0 a1 = some r) : Ab.Fn Try.prog TT 83 [.str a0, .str a1] (.str r) [] := by
  refine fn_pure tok W0 Try.func83 (by kernel_rfl) w83_h (by kernel_rfl) ?_
  intro ar un cv mn mx pl mi cmp nt beq an scmp cat slen sbyte ssub ofB toB len gi gb gs gl sub put app ovl rep ne0 ge0 inb bnd room sroom need br call loop cut nl E R K hK
  have D := E.D
  clear E
  unfold d83 at h
  cbv
  refine R.cut' (by kernel_rfl) (by kernel_rfl) ?_
  cbv
  refine R.callD h (fun x2 hx2 h2 => ?_)
  clear h; have h := h2; clear h2
  refine R.call' (w84 _ _ _ hx2) (by (first | rfl | (simp only [D.hbnd, D.hslen, D.hssub]; done) | (simp only [D.hbnd, D.hslen, D.hssub]; rfl))) ?_
  clear hx2; cbv
  refine R.brD h (by (first | rfl | (simp only [D.hbnd, D.hslen, D.hssub]; done) | (simp only [D.hbnd, D.hslen, D.hssub]; rfl))) ?_ ?_ <;> clear h <;> intro h <;> cbv
  · refine R.needD h (by (first | rfl | (simp only [D.hbnd, D.hslen, D.hssub]; done) | (simp only [D.hbnd, D.hslen, D.hssub]; rfl))) ?_
    clear h; intro h; cbv
    have e := ret_some h; clear h
    refine hK _ _ ?_
    cbv
    try (subst e; simp only [D.hbnd, D.hslen, D.hssub, and_self, and_true, true_and] <;> (repeat' apply And.intro) <;> rfl)
  · have e := ret_some h; clear h
    refine hK _ _ ?_
    cbv
    try (subst e; simp only [D.hbnd, D.hslen, D.hssub, and_self, and_true, true_and] <;> (repeat' apply And.intro) <;> rfl)

noncomputable def d45 (a0 : ByteArray) (a1 : ByteArray) : Option (ByteArray) :=
  (d83 a0 a1).bind fun x1 =>
  some x1
noncomputable def w45_c : Code := (Try.f45.body).getD .skip
theorem w45_h : Try.f45.body = some w45_c := by kernel_rfl
theorem w45 (a0 : ByteArray) (a1 : ByteArray) (r : ByteArray) (h : d45 a0 a1 = some r) : Ab.Fn Try.prog TT 45 [.str a0, .str a1] (.str r) [] := by
  refine fn_pure tok W0 Try.func45 (by kernel_rfl) w45_h (by kernel_rfl) ?_
  intro ar un cv mn mx pl mi cmp nt beq an scmp cat slen sbyte ssub ofB toB len gi gb gs gl sub put app ovl rep ne0 ge0 inb bnd room sroom need br call loop cut nl E R K hK
  have D := E.D
  clear E
  unfold d45 at h
  cbv
  refine R.callD h (fun x1 hx1 h2 => ?_)
  clear h; have h := h2; clear h2
  refine R.call' (w83 _ _ _ hx1) (by rfl) ?_
  clear hx1; cbv
  have e := ret_some h; clear h
  refine hK _ _ ?_
  cbv
  try (subst e; simp only [and_self, and_true, true_and] <;> (repeat' apply And.intro) <;> rfl)

noncomputable def d46 (a0 : ByteArray) (a1 : ByteArray) : Option (Bool) :=
  (d84 a0 a1).bind fun x1 =>
  some x1
noncomputable def w46_c : Code := (Try.f46.body).getD .skip
theorem w46_h : Try.f46.body = some w46_c := by kernel_rfl
theorem w46 (a0 : ByteArray) (a1 : ByteArray) (r : Bool) (h : d46 a0 a1 = some r) : Ab.Fn Try.prog TT 46 [.str a0, .str a1] (.b r) [] := by
  refine fn_pure tok W0 Try.func46 (by kernel_rfl) w46_h (by kernel_rfl) ?_
  intro ar un cv mn mx pl mi cmp nt beq an scmp cat slen sbyte ssub ofB toB len gi gb gs gl sub put app ovl rep ne0 ge0 inb bnd room sroom need br call loop cut nl E R K hK
  have D := E.D
  clear E
  unfold d46 at h
  cbv
  refine R.callD h (fun x1 hx1 h2 => ?_)
  clear h; have h := h2; clear h2
  refine R.call' (w84 _ _ _ hx1) (by rfl) ?_
  clear hx1; cbv
  have e := ret_some h; clear h
  refine hK _ _ ?_
  cbv
  try (subst e; simp only [and_self, and_true, true_and] <;> (repeat' apply And.intro) <;> rfl)
end Go.Proofs.Ytjcabmhnekcbgaa
end
section
namespace Go.Proofs.Ytjcabmhnekcbgaa
open Go.Ab Go.RowKit 
set_option maxRecDepth 100000
set_option maxHeartbeats 4000000
noncomputable def d18 (a0_0 : Int) (a0_1 : Bool) (a1 : ByteArray) : Option (Int × Int) :=
  (d10 a0_0 a0_1).bind fun x2 =>
  if (cmpLit .neq x2 0) = true then
    some (0, x2)
  else
    (d42 a1 (ByteArray.mk #[48, 120])).bind fun x13 =>
    if x13.2 = true then
      (d43 x13.1 16).bind fun x14 =>
      Option.bind (α := Bool) (
        if (notB' x14.2) = true then
          some true
        else
          if (cmpLit .gtr (slenI x13.1) 16) = true then
            some true
          else
            (d32 a0_0 a0_1 (wrapK .i64 x14.1)).bind fun x22 =>
            if (cmpLit .neq x22 (wrapK .i64 x14.1)) = true then
              some true
            else
              if (cmpLit .lss (wrapK .i64 x14.1) 0) = true then
                (d44 a0_0 a0_1).bind fun x23 =>
                some (notB' x23)
              else
                some false) fun y21 =>
      if y21 = true then
        some (0, 13)
      else
        some ((wrapK .i64 x14.1), 0)
    else
      (d45 a1 (ByteArray.mk #[45])).bind fun x25 =>
      (d43 x25 10).bind fun x26 =>
      Option.bind (α := Int) (
        (d46 a1 (ByteArray.mk #[45])).bind fun x29 =>
        if x29 = true then
          some (unReal .neg .i64 (wrapK .i64 x26.1))
        else
          some (wrapK .i64 x26.1)) fun y28 =>
      if (notB' x26.2) = true then
        some (0, 13)
      else
        (d32 a0_0 a0_1 y28).bind fun x37 =>
        (d41 a0_0 a0_1 x37).bind fun x38 =>
        if (strCmp .neq x38 a1) = true then
          some (0, 13)
        else
          some (y28, 0)
noncomputable def w18_c : Code := (Try.f18.body).getD .skip
theorem w18_h : Try.f18.body = some w18_c := by kernel_rfl
theorem w18 (a0_0 : Int) (a0_1 : Bool) (a1 : ByteArray) (r : Int × Int) (h : d18 a0_0 a0_1 a1 = some r) : Ab.Fn Try.prog TT 18 [.agg [.i .i64 a0_0, .b a0_1], .str a1] (.tup [.i .i64 r.1, .i .i64 r.2]) [] := by
  refine fn_pure tok (fun r => match r with | 15 => [[],[0],[0,1],[0,1,2],[0,1,2],[0,1,2],[0,1,2,4,5],[0,1,2,3,4,5,6],[0,1,2],[0,1,2,3,4,5,6,7,8],[0,1,2,3,4,5,6,7,8,9]] | _ => []) Try.func18 (by kernel_rfl) w18_h (by kernel_rfl) ?_
  intro ar un cv mn mx pl mi cmp nt beq an scmp cat slen sbyte ssub ofB toB len gi gb gs gl sub put app ovl rep ne0 ge0 inb bnd room sroom need br call loop cut nl E R K hK
  have D := E.D
  clear E
  unfold d18 at h
  cbv
  refine R.cut' (by kernel_rfl) (by kernel_rfl) ?_
  cbv
  refine R.callD h (fun x2 hx2 h2 => ?_)
  clear h; have h := h2; clear h2
  refine R.call' (w10 _ _ _ hx2) (by (first | rfl | (simp only [D.hcmp, D.hcv, D.hnt, D.hscmp, D.hslen, D.hun]; done) | (simp only [D.hcmp, D.hcv, D.hnt, D.hscmp, D.hslen, D.hun]; rfl))) ?_
  clear hx2; cbv
  refine R.brD h (by (first | rfl | (simp only [D.hcmp, D.hcv, D.hnt, D.hscmp, D.hslen, D.hun]; done) | (simp only [D.hcmp, D.hcv, D.hnt, D.hscmp, D.hslen, D.hun]; rfl))) ?_ ?_ <;> clear h <;> intro h <;> cbv
  · have e := ret_some h; clear h
    refine hK _ _ ?_
    cbv
    try (subst e; simp only [D.hcmp, D.hcv, D.hnt, D.hscmp, D.hslen, D.hun, and_self, and_true, true_and] <;> (repeat' apply And.intro) <;> rfl)
  · as_aux_lemma =>
    refine R.cut' (by kernel_rfl) (by kernel_rfl) ?_
    cbv
    refine R.callD h (fun x13 hx13 h2 => ?_)
    clear h; have h := h2; clear h2
    refine R.call' (w42 _ _ _ hx13) (by (first | rfl | (simp only [D.hcmp, D.hcv, D.hnt, D.hscmp, D.hslen, D.hun]; done) | (simp only [D.hcmp, D.hcv, D.hnt, D.hscmp, D.hslen, D.hun]; rfl))) ?_
    clear hx13; cbv
    refine R.brD h (by (first | rfl | (simp only [D.hcmp, D.hcv, D.hnt, D.hscmp, D.hslen, D.hun]; done) | (simp only [D.hcmp, D.hcv, D.hnt, D.hscmp, D.hslen, D.hun]; rfl))) ?_ ?_ <;> clear h <;> intro h <;> cbv
    · refine R.callD h (fun x14 hx14 h2 => ?_)
      clear h; have h := h2; clear h2
      refine R.call' (w43 _ _ _ hx14) (by (first | rfl | (simp only [D.hcmp, D.hcv, D.hnt, D.hscmp, D.hslen, D.hun]; done) | (simp only [D.hcmp, D.hcv, D.hnt, D.hscmp, D.hslen, D.hun]; rfl))) ?_
      clear hx14; cbv
      refine R.cut' (by kernel_rfl) (by kernel_rfl) ?_
      cbv
      refine R.cutB (fun p => p) (fun _ _ e => e) h [] (fun p24 => [(55, .b p24)]) (fun p24 => []) (by kernel_rfl) (by kernel_rfl) (fun y21 hy hFy21 L hLy21 => ?_) (fun p24 h2 => ?_)
      · clear h; have h := hy; clear hy; cbv
        refine R.brD h (by (first | rfl | (simp only [D.hcmp, D.hcv, D.hnt, D.hscmp, D.hslen, D.hun]; done) | (simp only [D.hcmp, D.hcv, D.hnt, D.hscmp, D.hslen, D.hun]; rfl))) ?_ ?_ <;> clear h <;> intro h <;> cbv
        · obtain ⟨s', e, hi⟩ := jn_some (fun p => p) h
          refine hLy21 s' _ _ hi ⟨rfl, ?_, ?_, rfl, rfl⟩ <;> cbv <;> (try (subst e; simp only [D.hcmp, D.hcv, D.hnt, D.hscmp, D.hslen, D.hun, and_self, and_true, true_and] <;> (repeat' apply And.intro) <;> rfl))
        · refine R.brD h (by (first | rfl | (simp only [D.hcmp, D.hcv, D.hnt, D.hscmp, D.hslen, D.hun]; done) | (simp only [D.hcmp, D.hcv, D.hnt, D.hscmp, D.hslen, D.hun]; rfl))) ?_ ?_ <;> clear h <;> intro h <;> cbv
          · obtain ⟨s', e, hi⟩ := jn_some (fun p => p) h
            refine hLy21 s' _ _ hi ⟨rfl, ?_, ?_, rfl, rfl⟩ <;> cbv <;> (try (subst e; simp only [D.hcmp, D.hcv, D.hnt, D.hscmp, D.hslen, D.hun, and_self, and_true, true_and] <;> (repeat' apply And.intro) <;> rfl))
          · refine R.callD h (fun x22 hx22 h2 => ?_)
            clear h; have h := h2; clear h2
            refine R.call' (w32 _ _ _ _ hx22) (by (first | rfl | (simp only [D.hcmp, D.hcv, D.hnt, D.hscmp, D.hslen, D.hun]; done) | (simp only [D.hcmp, D.hcv, D.hnt, D.hscmp, D.hslen, D.hun]; rfl))) ?_
            clear hx22; cbv
            refine R.brD h (by (first | rfl | (simp only [D.hcmp, D.hcv, D.hnt, D.hscmp, D.hslen, D.hun]; done) | (simp only [D.hcmp, D.hcv, D.hnt, D.hscmp, D.hslen, D.hun]; rfl))) ?_ ?_ <;> clear h <;> intro h <;> cbv
            · obtain ⟨s', e, hi⟩ := jn_some (fun p => p) h
              refine hLy21 s' _ _ hi ⟨rfl, ?_, ?_, rfl, rfl⟩ <;> cbv <;> (try (subst e; simp only [D.hcmp, D.hcv, D.hnt, D.hscmp, D.hslen, D.hun, and_self, and_true, true_and] <;> (repeat' apply And.intro) <;> rfl))
            · refine R.brD h (by (first | rfl | (simp only [D.hcmp, D.hcv, D.hnt, D.hscmp, D.hslen, D.hun]; done) | (simp only [D.hcmp, D.hcv, D.hnt, D.hscmp, D.hslen, D.hun]; rfl))) ?_ ?_ <;> clear h <;> intro h <;> cbv
              · refine R.callD h (fun x23 hx23 h2 => ?_)
                clear h; have h := h2; clear h2
                refine R.call' (w44 _ _ _ hx23) (by (first | rfl | (simp only [D.hcmp, D.hcv, D.hnt, D.hscmp, D.hslen, D.hun]; done) | (simp only [D.hcmp, D.hcv, D.hnt, D.hscmp, D.hslen, D.hun]; rfl))) ?_
                clear hx23; cbv
                obtain ⟨s', e, hi⟩ := jn_some (fun p => p) h
                refine hLy21 s' _ _ hi ⟨rfl, ?_, ?_, rfl, rfl⟩ <;> cbv <;> (try (subst e; simp only [D.hcmp, D.hcv, D.hnt, D.hscmp, D.hslen, D.hun, and_self, and_true, true_and] <;> (repeat' apply And.intro) <;> rfl))
              · obtain ⟨s', e, hi⟩ := jn_some (fun p => p) h
                refine hLy21 s' _ _ hi ⟨rfl, ?_, ?_, rfl, rfl⟩ <;> cbv <;> (try (subst e; simp only [D.hcmp, D.hcv, D.hnt, D.hscmp, D.hslen, D.hun, and_self, and_true, true_and] <;> (repeat' apply And.intro) <;> rfl))
      · clear h; have h := h2; clear h2; try dsimp only at h
        cbv
        refine R.brD h (by (first | rfl | (simp only [D.hcmp, D.hcv, D.hnt, D.hscmp, D.hslen, D.hun]; done) | (simp only [D.hcmp, D.hcv, D.hnt, D.hscmp, D.hslen, D.hun]; rfl))) ?_ ?_ <;> clear h <;> intro h <;> cbv
        · have e := ret_some h; clear h
          refine hK _ _ ?_
          cbv
          try (subst e; simp only [D.hcmp, D.hcv, D.hnt, D.hscmp, D.hslen, D.hun, and_self, and_true, true_and] <;> (repeat' apply And.intro) <;> rfl)
        · have e := ret_some h; clear h
          refine hK _ _ ?_
          cbv
          try (subst e; simp only [D.hcmp, D.hcv, D.hnt, D.hscmp, D.hslen, D.hun, and_self, and_true, true_and] <;> (repeat' apply And.intro) <;> rfl)
    · refine R.callD h (fun x25 hx25 h2 => ?_)
      clear h; have h := h2; clear h2
      refine R.call' (w45 _ _ _ hx25) (by (first | rfl | (simp only [D.hcmp, D.hcv, D.hnt, D.hscmp, D.hslen, D.hun]; done) | (simp only [D.hcmp, D.hcv, D.hnt, D.hscmp, D.hslen, D.hun]; rfl))) ?_
      clear hx25; cbv
      refine R.callD h (fun x26 hx26 h2 => ?_)
      clear h; have h := h2; clear h2
      refine R.call' (w43 _ _ _ hx26) (by (first | rfl | (simp only [D.hcmp, D.hcv, D.hnt, D.hscmp, D.hslen, D.hun]; done) | (simp only [D.hcmp, D.hcv, D.hnt, D.hscmp, D.hslen, D.hun]; rfl))) ?_
      clear hx26; cbv
      refine R.cutB (fun p => p) (fun _ _ e => e) h [] (fun p30 => [(14, .i .i64 p30)]) (fun p30 => []) (by kernel_rfl) (by kernel_rfl) (fun y28 hy hFy28 L hLy28 => ?_) (fun p30 h2 => ?_)
      · clear h; have h := hy; clear hy; cbv
        refine R.callD h (fun x29 hx29 h2 => ?_)
        clear h; have h := h2; clear h2
        refine R.call' (w46 _ _ _ hx29) (by (first | rfl | (simp only [D.hcmp, D.hcv, D.hnt, D.hscmp, D.hslen, D.hun]; done) | (simp only [D.hcmp, D.hcv, D.hnt, D.hscmp, D.hslen, D.hun]; rfl))) ?_
        clear hx29; cbv
        refine R.brD h (by (first | rfl | (simp only [D.hcmp, D.hcv, D.hnt, D.hscmp, D.hslen, D.hun]; done) | (simp only [D.hcmp, D.hcv, D.hnt, D.hscmp, D.hslen, D.hun]; rfl))) ?_ ?_ <;> clear h <;> intro h <;> cbv
        · obtain ⟨s', e, hi⟩ := jn_some (fun p => p) h
          refine hLy28 s' _ _ hi ⟨rfl, ?_, ?_, rfl, rfl⟩ <;> cbv <;> (try (subst e; simp only [D.hcmp, D.hcv, D.hnt, D.hscmp, D.hslen, D.hun, and_self, and_true, true_and] <;> (repeat' apply And.intro) <;> rfl))
        · obtain ⟨s', e, hi⟩ := jn_some (fun p => p) h
          refine hLy28 s' _ _ hi ⟨rfl, ?_, ?_, rfl, rfl⟩ <;> cbv <;> (try (subst e; simp only [D.hcmp, D.hcv, D.hnt, D.hscmp, D.hslen, D.hun, and_self, and_true, true_and] <;> (repeat' apply And.intro) <;> rfl))
      · clear h; have h := h2; clear h2; try dsimp only at h
        cbv
        refine R.cut' (by kernel_rfl) (by kernel_rfl) ?_
        cbv
        refine R.cut' (by kernel_rfl) (by kernel_rfl) ?_
        cbv
        refine R.brD h (by (first | rfl | (simp only [D.hcmp, D.hcv, D.hnt, D.hscmp, D.hslen, D.hun]; done) | (simp only [D.hcmp, D.hcv, D.hnt, D.hscmp, D.hslen, D.hun]; rfl))) ?_ ?_ <;> clear h <;> intro h <;> cbv
        · have e := ret_some h; clear h
          refine hK _ _ ?_
          cbv
          try (subst e; simp only [D.hcmp, D.hcv, D.hnt, D.hscmp, D.hslen, D.hun, and_self, and_true, true_and] <;> (repeat' apply And.intro) <;> rfl)
        · refine R.callD h (fun x37 hx37 h2 => ?_)
          clear h; have h := h2; clear h2
          refine R.call' (w32 _ _ _ _ hx37) (by (first | rfl | (simp only [D.hcmp, D.hcv, D.hnt, D.hscmp, D.hslen, D.hun]; done) | (simp only [D.hcmp, D.hcv, D.hnt, D.hscmp, D.hslen, D.hun]; rfl))) ?_
          clear hx37; cbv
          refine R.callD h (fun x38 hx38 h2 => ?_)
          clear h; have h := h2; clear h2
          refine R.call' (w41 _ _ _ _ hx38) (by (first | rfl | (simp only [D.hcmp, D.hcv, D.hnt, D.hscmp, D.hslen, D.hun]; done) | (simp only [D.hcmp, D.hcv, D.hnt, D.hscmp, D.hslen, D.hun]; rfl))) ?_
          clear hx38; cbv
          refine R.brD h (by (first | rfl | (simp only [D.hcmp, D.hcv, D.hnt, D.hscmp, D.hslen, D.hun]; done) | (simp only [D.hcmp, D.hcv, D.hnt, D.hscmp, D.hslen, D.hun]; rfl))) ?_ ?_ <;> clear h <;> intro h <;> cbv
          · have e := ret_some h; clear h
            refine hK _ _ ?_
            cbv
            try (subst e; simp only [D.hcmp, D.hcv, D.hnt, D.hscmp, D.hslen, D.hun, and_self, and_true, true_and] <;> (repeat' apply And.intro) <;> rfl)
          · have e := ret_some h; clear h
            refine hK _ _ ?_
            cbv
            try (subst e; simp only [D.hcmp, D.hcv, D.hnt, D.hscmp, D.hslen, D.hun, and_self, and_true, true_and] <;> (repeat' apply And.intro) <;> rfl)

noncomputable def d9 : Option (Bool) :=
  (d27 1 true).bind fun x1 =>
  (d27 1 false).bind fun x2 =>
  (d27 4 true).bind fun x3 =>
  (d27 4 false).bind fun x4 =>
  (d27 8 false).bind fun x5 =>
  (d28 x1.1 x1.2 200).bind fun x6 =>
  (d27 8 true).bind fun x7 =>
  (d15 x4.1 x4.2 x7.1 x7.2).bind fun x8 =>
  (d14 11 x3.1 x3.2 (-1) x4.1 x4.2 1).bind fun x9 =>
  (d14 1 x2.1 x2.2 255 x2.1 x2.2 1).bind fun x10 =>
  (d14 4 x3.1 x3.2 (-7) x3.1 x3.2 2).bind fun x11 =>
  (d14 10 x3.1 x3.2 (-5) x3.1 x3.2 1).bind fun x12 =>
  (d17 x5.1 x5.2 (-1)).bind fun x13 =>
  (d18 x5.1 x5.2 (ByteArray.mk #[48, 120, 102, 102, 102, 102, 102, 102, 102, 102, 102, 102, 102, 102, 102, 102, 102, 102])).bind fun x14 =>
  (d18 x1.1 x1.2 (ByteArray.mk #[49, 50, 56])).bind fun x15 =>
  Option.bind (α := Bool) (
    if (cmpLit .neq x6.2 0) = true then
      some true
    else
      if (cmpLit .neq x8.2.2 0) = true then
        some true
      else
        if (cmpLit .neq x9.2.2.2 0) = true then
          some true
        else
          if (cmpLit .neq x10.2.2.2 0) = true then
            some true
          else
            if (cmpLit .neq x11.2.2.2 0) = true then
              some true
            else
              if (cmpLit .neq x12.2.2.2 0) = true then
                some true
              else
                if (cmpLit .neq x13.2 0) = true then
                  some true
                else
                  some (cmpLit .neq x14.2 0)) fun y18 =>
  if y18 = true then
    some false
  else
    if (cmpLit .eql x6.1 (-56)) = true then
      (d27 8 true).bind fun x21 =>
      if (andB' (cmpLit .eql x8.1 x21.1) (beqB x8.2.1 x21.2)) = true then
        if (andB' (cmpLit .eql x9.1 x3.1) (beqB x9.2.1 x3.2)) = true then
          if (cmpLit .eql x9.2.2.1 0) = true then
            if (cmpLit .eql x10.2.2.1 256) = true then
              if (cmpLit .eql x11.2.2.1 (-3)) = true then
                if (cmpLit .eql x12.2.2.1 (-3)) = true then
                  if (strCmp .eql x13.1 (ByteArray.mk #[49, 56, 52, 52, 54, 55, 52, 52, 48, 55, 51, 55, 48, 57, 53, 53, 49, 54, 49, 53])) = true then
                    if (cmpLit .eql x14.1 (-1)) = true then
                      some (cmpLit .eql x15.2 13)
                    else
                      some false
                  else
                    some false
                else
                  some false
              else
                some false
            else
              some false
          else
            some false
        else
          some false
      else
        some false
    else
      some false
noncomputable def w9_c : Code := (Try.f9.body).getD .skip
theorem w9_h : Try.f9.body = some w9_c := by kernel_rfl
theorem w9 (r : Bool) (h : d9 = some r) : Ab.Fn Try.prog TT 9 [] (.b r) [] := by
  refine fn_pure tok (fun r => match r with | 7 => [[],[],[0,1],[0,1,2],[0,1,2,3],[0,1,2,3],[],[0,1,2,3,4,6],[0,1,2,3,4,5,6,7]] | 17 => [[],[0],[0,1],[0,1,2],[0,1,2],[0,1,2,3,4],[0,1,2,3,4,5],[0,1,2,3,4,5,6],[0,1,2,3,4,5,6,7],[0,1,2,3,4,5,6,7],[0,1,2,3,4,5,6,7,8,9],[0,1,2,3,4,5,6,7,8,9,10],[0,1,2,3,4,5,6,7,8,9,10,11],[0,1,2,3,4,5,6,7,8,9,10,11,12],[0,1,2,3,4,5,6,7,8,9,10,11,12,13],[0,1,2,3,4,5,6,7,8,9,10,11,12,13,14],[0,1,2,3,4,5,6,7,8,9,10,11,12,13,14,15],[0,1,2,3,4,5,6,7,8,9,10,11,12,13,14,15,16],[0,1,2,3,4,5,6,7,8,9,10,11,12,13,14,15,16,17],[0,1,2,3,4,5,6,7,8,9,10,11,12,13,14,15,16,17,18],[0,1,2,3,4,5,6,7,8,9,10,11,12,13,14,15,16,17,18,19],[0,1,2,3,4,5,6,7,8,9,10,11,12,13,14,15,16,17,18,19,20],[0,1,2,3,4,5,6,7,8,9,10,11,12,13,14,15,16,17,18,19,20,21],[0,1,2,3,4,5,6,7,8,9,10,11,12,13,14,15,16,17,18,19,20,21,22],[0,1,2,3,4,5,6,7,8,9,10,11,12,13,14,15,16,17,18,19,20,21,22,23],[0,1,2,3,4,5,6,7,8,9,10,11,12,13,14,15,16,17,18,19,20,21,22,23,24],[0,1,2,3,4,5,6,7,8,9,10,11,12,13,14,15,16,17,18,19,20,21,22,23,24,25],[0,1,2,3,4,5,6,7,8,9,10,11,12,13,14,15,16,17,18,19,20,21,22,23,24,25,26],[0,1,2,3,4,5,6,7,8,9,10,11,12,13,14,15,16,17,18,19,20,21,22,23,24,25,26,27],[0,1,2,3,4,5,6,7,8,9,10,11,12,13,14,15,16,17,18,19,20,21,22,23,24,25,26,27,28],[0,1,2,3,4,5,6,7,8,9,10,11,12,13,14,15,16,17,18,19,20,21,22,23,24,25,26,27,28,29],[0,1,2,3,4,5,6,7,8,9,10,11,12,13,14,15,16,17,18,19,20,21,22,23,24,25,26,27,28,29,30],[0,1,2,3,4,5,6,7,8,9,10,11,12,13,14,15,16,17,18,19,20,21,22,23,24,25,26,27,28,29,30,31],[0,1,2,3,4,5,6,7,8,9,10,11,12,13,14,15,16,17,18,19,20,21,22,23,24,25,26,27,28,29,30,31,32],[0,1,2,3,4,5,6,7,8,9,10,11,12,13,14,15,16,17,18,19,20,21,22,23,24,25,26,27,28,29,30,31,32,33],[0,1,2,3,4,5,6,7,8,9,10,11,12,13,14,15,16,17,18,19,20,21,22,23,24,25,26,27,28,29,30,31,32,33,34],[0,1,2,3,4,5,6,7,8,9,10,11,12,13,14,15,16,17,18,19,20,21,22,23,24,25,26,27,28,29,30,31,32,33,34,35],[0,1,2,3,4,5,6,7,8,9,10,11,12,13,14,15,16,17,18,19,20,21,22,23,24,25,26,27,28,29,30,31,32,33,34,35,36],[0,1,2,3,4,5,6,7,8,9,10,11,12,13,14,15,16,17,18,19,20,21,22,23,24,25,26,27,28,29,30,31,32,33,34,35,36,37],[0,1,2,3,4,5,6,7,8,9,10,11,12,13,14,15,16,17,18,19,20,21,22,23,24,25,26,27,28,29,30,31,32,33,34,35,36,37,38],[0,1,2,3,4,5,6,7,8,9,10,11,12,13,14,15,16,17,18,19,20,21,22,23,24,25,26,27,28,29,30,31,32,33,34,35,36,37,38,39]] | _ => []) Try.func9 (by kernel_rfl) w9_h (by kernel_rfl) ?_
  intro ar un cv mn mx pl mi cmp nt beq an scmp cat slen sbyte ssub ofB toB len gi gb gs gl sub put app ovl rep ne0 ge0 inb bnd room sroom need br call loop cut nl E R K hK
  have D := E.D
  clear E
  unfold d9 at h
  cbv
  refine R.callD h (fun x1 hx1 h2 => ?_)
  clear h; have h := h2; clear h2
  refine R.call' (w27 _ _ _ hx1) (by (first | rfl | (simp only [D.han, D.hbeq, D.hcmp, D.hscmp]; done) | (simp only [D.han, D.hbeq, D.hcmp, D.hscmp]; rfl))) ?_
  clear hx1; cbv
  refine R.callD h (fun x2 hx2 h2 => ?_)
  clear h; have h := h2; clear h2
  refine R.call' (w27 _ _ _ hx2) (by (first | rfl | (simp only [D.han, D.hbeq, D.hcmp, D.hscmp]; done) | (simp only [D.han, D.hbeq, D.hcmp, D.hscmp]; rfl))) ?_
  clear hx2; cbv
  refine R.callD h (fun x3 hx3 h2 => ?_)
  clear h; have h := h2; clear h2
  refine R.call' (w27 _ _ _ hx3) (by (first | rfl | (simp only [D.han, D.hbeq, D.hcmp, D.hscmp]; done) | (simp only [D.han, D.hbeq, D.hcmp, D.hscmp]; rfl))) ?_
  clear hx3; cbv
  refine R.callD h (fun x4 hx4 h2 => ?_)
  clear h; have h := h2; clear h2
  refine R.call' (w27 _ _ _ hx4) (by (first | rfl | (simp only [D.han, D.hbeq, D.hcmp, D.hscmp]; done) | (simp only [D.han, D.hbeq, D.hcmp, D.hscmp]; rfl))) ?_
  clear hx4; cbv
  refine R.callD h (fun x5 hx5 h2 => ?_)
  clear h; have h := h2; clear h2
  refine R.call' (w27 _ _ _ hx5) (by (first | rfl | (simp only [D.han, D.hbeq, D.hcmp, D.hscmp]; done) | (simp only [D.han, D.hbeq, D.hcmp, D.hscmp]; rfl))) ?_
  clear hx5; cbv
  refine R.callD h (fun x6 hx6 h2 => ?_)
  clear h; have h := h2; clear h2
  refine R.call' (w28 _ _ _ _ hx6) (by (first | rfl | (simp only [D.han, D.hbeq, D.hcmp, D.hscmp]; done) | (simp only [D.han, D.hbeq, D.hcmp, D.hscmp]; rfl))) ?_
  clear hx6; cbv
  refine R.callD h (fun x7 hx7 h2 => ?_)
  clear h; have h := h2; clear h2
  refine R.call' (w27 _ _ _ hx7) (by (first | rfl | (simp only [D.han, D.hbeq, D.hcmp, D.hscmp]; done) | (simp only [D.han, D.hbeq, D.hcmp, D.hscmp]; rfl))) ?_
  clear hx7; cbv
  refine R.callD h (fun x8 hx8 h2 => ?_)
  clear h; have h := h2; clear h2
  refine R.call' (w15 _ _ _ _ _ hx8) (by (first | rfl | (simp only [D.han, D.hbeq, D.hcmp, D.hscmp]; done) | (simp only [D.han, D.hbeq, D.hcmp, D.hscmp]; rfl))) ?_
  clear hx8; cbv
  refine R.callD h (fun x9 hx9 h2 => ?_)
  clear h; have h := h2; clear h2
  refine R.call' (w14 _ _ _ _ _ _ _ _ hx9) (by (first | rfl | (simp only [D.han, D.hbeq, D.hcmp, D.hscmp]; done) | (simp only [D.han, D.hbeq, D.hcmp, D.hscmp]; rfl))) ?_
  clear hx9; cbv
  refine R.callD h (fun x10 hx10 h2 => ?_)
  clear h; have h := h2; clear h2
  refine R.call' (w14 _ _ _ _ _ _ _ _ hx10) (by (first | rfl | (simp only [D.han, D.hbeq, D.hcmp, D.hscmp]; done) | (simp only [D.han, D.hbeq, D.hcmp, D.hscmp]; rfl))) ?_
  clear hx10; cbv
  refine R.callD h (fun x11 hx11 h2 => ?_)
  clear h; have h := h2; clear h2
  refine R.call' (w14 _ _ _ _ _ _ _ _ hx11) (by (first | rfl | (simp only [D.han, D.hbeq, D.hcmp, D.hscmp]; done) | (simp only [D.han, D.hbeq, D.hcmp, D.hscmp]; rfl))) ?_
  clear hx11; cbv
  refine R.callD h (fun x12 hx12 h2 => ?_)
  clear h; have h := h2; clear h2
  refine R.call' (w14 _ _ _ _ _ _ _ _ hx12) (by (first | rfl | (simp only [D.han, D.hbeq, D.hcmp, D.hscmp]; done) | (simp only [D.han, D.hbeq, D.hcmp, D.hscmp]; rfl))) ?_
  clear hx12; cbv
  refine R.callD h (fun x13 hx13 h2 => ?_)
  clear h; have h := h2; clear h2
  refine R.call' (w17 _ _ _ _ hx13) (by (first | rfl | (simp only [D.han, D.hbeq, D.hcmp, D.hscmp]; done) | (simp only [D.han, D.hbeq, D.hcmp, D.hscmp]; rfl))) ?_
  clear hx13; cbv
  refine R.callD h (fun x14 hx14 h2 => ?_)
  clear h; have h := h2; clear h2
  refine R.call' (w18 _ _ _ _ hx14) (by (first | rfl | (simp only [D.han, D.hbeq, D.hcmp, D.hscmp]; done) | (simp only [D.han, D.hbeq, D.hcmp, D.hscmp]; rfl))) ?_
  clear hx14; cbv
  refine R.callD h (fun x15 hx15 h2 => ?_)
  clear h; have h := h2; clear h2
  refine R.call' (w18 _ _ _ _ hx15) (by (first | rfl | (simp only [D.han, D.hbeq, D.hcmp, D.hscmp]; done) | (simp only [D.han, D.hbeq, D.hcmp, D.hscmp]; rfl))) ?_
  clear hx15; cbv
  refine R.cut' (by kernel_rfl) (by kernel_rfl) ?_
  cbv
  refine R.cutB (fun p => p) (fun _ _ e => e) h [] (fun p19 => [(116, .b p19)]) (fun p19 => []) (by kernel_rfl) (by kernel_rfl) (fun y18 hy hFy18 L hLy18 => ?_) (fun p19 h2 => ?_)
  · clear h; have h := hy; clear hy; cbv
    refine R.brD h (by (first | rfl | (simp only [D.han, D.hbeq, D.hcmp, D.hscmp]; done) | (simp only [D.han, D.hbeq, D.hcmp, D.hscmp]; rfl))) ?_ ?_ <;> clear h <;> intro h <;> cbv
    · obtain ⟨s', e, hi⟩ := jn_some (fun p => p) h
      refine hLy18 s' _ _ hi ⟨rfl, ?_, ?_, rfl, rfl⟩ <;> cbv <;> (try (subst e; simp only [D.han, D.hbeq, D.hcmp, D.hscmp, and_self, and_true, true_and] <;> (repeat' apply And.intro) <;> rfl))
    · refine R.brD h (by (first | rfl | (simp only [D.han, D.hbeq, D.hcmp, D.hscmp]; done) | (simp only [D.han, D.hbeq, D.hcmp, D.hscmp]; rfl))) ?_ ?_ <;> clear h <;> intro h <;> cbv
      · obtain ⟨s', e, hi⟩ := jn_some (fun p => p) h
        refine hLy18 s' _ _ hi ⟨rfl, ?_, ?_, rfl, rfl⟩ <;> cbv <;> (try (subst e; simp only [D.han, D.hbeq, D.hcmp, D.hscmp, and_self, and_true, true_and] <;> (repeat' apply And.intro) <;> rfl))
      · refine R.brD h (by (first | rfl | (simp only [D.han, D.hbeq, D.hcmp, D.hscmp]; done) | (simp only [D.han, D.hbeq, D.hcmp, D.hscmp]; rfl))) ?_ ?_ <;> clear h <;> intro h <;> cbv
        · obtain ⟨s', e, hi⟩ := jn_some (fun p => p) h
          refine hLy18 s' _ _ hi ⟨rfl, ?_, ?_, rfl, rfl⟩ <;> cbv <;> (try (subst e; simp only [D.han, D.hbeq, D.hcmp, D.hscmp, and_self, and_true, true_and] <;> (repeat' apply And.intro) <;> rfl))
        · refine R.brD h (by (first | rfl | (simp only [D.han, D.hbeq, D.hcmp, D.hscmp]; done) | (simp only [D.han, D.hbeq, D.hcmp, D.hscmp]; rfl))) ?_ ?_ <;> clear h <;> intro h <;> cbv
          · obtain ⟨s', e, hi⟩ := jn_some (fun p => p) h
            refine hLy18 s' _ _ hi ⟨rfl, ?_, ?_, rfl, rfl⟩ <;> cbv <;> (try (subst e; simp only [D.han, D.hbeq, D.hcmp, D.hscmp, and_self, and_true, true_and] <;> (repeat' apply And.intro) <;> rfl))
          · refine R.brD h (by (first | rfl | (simp only [D.han, D.hbeq, D.hcmp, D.hscmp]; done) | (simp only [D.han, D.hbeq, D.hcmp, D.hscmp]; rfl))) ?_ ?_ <;> clear h <;> intro h <;> cbv
            · obtain ⟨s', e, hi⟩ := jn_some (fun p => p) h
              refine hLy18 s' _ _ hi ⟨rfl, ?_, ?_, rfl, rfl⟩ <;> cbv <;> (try (subst e; simp only [D.han, D.hbeq, D.hcmp, D.hscmp, and_self, and_true, true_and] <;> (repeat' apply And.intro) <;> rfl))
            · refine R.brD h (by (first | rfl | (simp only [D.han, D.hbeq, D.hcmp, D.hscmp]; done) | (simp only [D.han, D.hbeq, D.hcmp, D.hscmp]; rfl))) ?_ ?_ <;> clear h <;> intro h <;> cbv
              · obtain ⟨s', e, hi⟩ := jn_some (fun p => p) h
                refine hLy18 s' _ _ hi ⟨rfl, ?_, ?_, rfl, rfl⟩ <;> cbv <;> (try (subst e; simp only [D.han, D.hbeq, D.hcmp, D.hscmp, and_self, and_true, true_and] <;> (repeat' apply And.intro) <;> rfl))
              · refine R.brD h (by (first | rfl | (simp only [D.han, D.hbeq, D.hcmp, D.hscmp]; done) | (simp only [D.han, D.hbeq, D.hcmp, D.hscmp]; rfl))) ?_ ?_ <;> clear h <;> intro h <;> cbv
                · obtain ⟨s', e, hi⟩ := jn_some (fun p => p) h
                  refine hLy18 s' _ _ hi ⟨rfl, ?_, ?_, rfl, rfl⟩ <;> cbv <;> (try (subst e; simp only [D.han, D.hbeq, D.hcmp, D.hscmp, and_self, and_true, true_and] <;> (repeat' apply And.intro) <;> rfl))
                · obtain ⟨s', e, hi⟩ := jn_some (fun p => p) h
                  refine hLy18 s' _ _ hi ⟨rfl, ?_, ?_, rfl, rfl⟩ <;> cbv <;> (try (subst e; simp only [D.han, D.hbeq, D.hcmp, D.hscmp, and_self, and_true, true_and] <;> (repeat' apply And.intro) <;> rfl))
  · clear h; have h := h2; clear h2; try dsimp only at h
    cbv
    refine R.brD h (by (first | rfl | (simp only [D.han, D.hbeq, D.hcmp, D.hscmp]; done) | (simp only [D.han, D.hbeq, D.hcmp, D.hscmp]; rfl))) ?_ ?_ <;> clear h <;> intro h <;> cbv
    · have e := ret_some h; clear h
      refine hK _ _ ?_
      cbv
      try (subst e; simp only [D.han, D.hbeq, D.hcmp, D.hscmp, and_self, and_true, true_and] <;> (repeat' apply And.intro) <;> rfl)
    · refine R.cut' (by kernel_rfl) (by kernel_rfl) ?_
      cbv
      refine R.brD h (by (first | rfl | (simp only [D.han, D.hbeq, D.hcmp, D.hscmp]; done) | (simp only [D.han, D.hbeq, D.hcmp, D.hscmp]; rfl))) ?_ ?_ <;> clear h <;> intro h <;> cbv
      · refine R.callD h (fun x21 hx21 h2 => ?_)
        clear h; have h := h2; clear h2
        refine R.call' (w27 _ _ _ hx21) (by (first | rfl | (simp only [D.han, D.hbeq, D.hcmp, D.hscmp]; done) | (simp only [D.han, D.hbeq, D.hcmp, D.hscmp]; rfl))) ?_
        clear hx21; cbv
        refine R.brD h (by (first | rfl | (simp only [D.han, D.hbeq, D.hcmp, D.hscmp]; done) | (simp only [D.han, D.hbeq, D.hcmp, D.hscmp]; rfl))) ?_ ?_ <;> clear h <;> intro h <;> cbv
        · refine R.brD h (by (first | rfl | (simp only [D.han, D.hbeq, D.hcmp, D.hscmp]; done) | (simp only [D.han, D.hbeq, D.hcmp, D.hscmp]; rfl))) ?_ ?_ <;> clear h <;> intro h <;> cbv
          · refine R.brD h (by (first | rfl | (simp only [D.han, D.hbeq, D.hcmp, D.hscmp]; done) | (simp only [D.han, D.hbeq, D.hcmp, D.hscmp]; rfl))) ?_ ?_ <;> clear h <;> intro h <;> cbv
            · refine R.brD h (by (first | rfl | (simp only [D.han, D.hbeq, D.hcmp, D.hscmp]; done) | (simp only [D.han, D.hbeq, D.hcmp, D.hscmp]; rfl))) ?_ ?_ <;> clear h <;> intro h <;> cbv
              · refine R.brD h (by (first | rfl | (simp only [D.han, D.hbeq, D.hcmp, D.hscmp]; done) | (simp only [D.han, D.hbeq, D.hcmp, D.hscmp]; rfl))) ?_ ?_ <;> clear h <;> intro h <;> cbv
                · refine R.brD h (by (first | rfl | (simp only [D.han, D.hbeq, D.hcmp, D.hscmp]; done) | (simp only [D.han, D.hbeq, D.hcmp, D.hscmp]; rfl))) ?_ ?_ <;> clear h <;> intro h <;> cbv
                  · refine R.brD h (by (first | rfl | (simp only [D.han, D.hbeq, D.hcmp, D.hscmp]; done) | (simp only [D.han, D.hbeq, D.hcmp, D.hscmp]; rfl))) ?_ ?_ <;> clear h <;> intro h <;> cbv
                    · refine R.brD h (by (first | rfl | (simp only [D.han, D.hbeq, D.hcmp, D.hscmp]; done) | (simp only [D.han, D.hbeq, D.hcmp, D.hscmp]; rfl))) ?_ ?_ <;> clear h <;> intro h <;> cbv
                      · have e := ret_some h; clear h
                        refine hK _ _ ?_
                        cbv
                        try (subst e; simp only [D.han, D.hbeq, D.hcmp, D.hscmp, and_self, and_true, true_and] <;> (repeat' apply And.intro) <;> rfl)
                      · have e := ret_some h; clear h
                        refine hK _ _ ?_
                        cbv
                        try (subst e; simp only [D.han, D.hbeq, D.hcmp, D.hscmp, and_self, and_true, true_and] <;> (repeat' apply And.intro) <;> rfl)
                    · have e := ret_some h; clear h
                      refine hK _ _ ?_
                      cbv
                      try (subst e; simp only [D.han, D.hbeq, D.hcmp, D.hscmp, and_self, and_true, true_and] <;> (repeat' apply And.intro) <;> rfl)
                  · have e := ret_some h; clear h
                    refine hK _ _ ?_
                    cbv
                    try (subst e; simp only [D.han, D.hbeq, D.hcmp, D.hscmp, and_self, and_true, true_and] <;> (repeat' apply And.intro) <;> rfl)
                · have e := ret_some h; clear h
                  refine hK _ _ ?_
                  cbv
                  try (subst e; simp only [D.han, D.hbeq, D.hcmp, D.hscmp, and_self, and_true, true_and] <;> (repeat' apply And.intro) <;> rfl)
              · have e := ret_some h; clear h
                refine hK _ _ ?_
                cbv
                try (subst e; simp only [D.han, D.hbeq, D.hcmp, D.hscmp, and_self, and_true, true_and] <;> (repeat' apply And.intro) <;> rfl)
            · have e := ret_some h; clear h
              refine hK _ _ ?_
              cbv
              try (subst e; simp only [D.han, D.hbeq, D.hcmp, D.hscmp, and_self, and_true, true_and] <;> (repeat' apply And.intro) <;> rfl)
          · have e := ret_some h; clear h
            refine hK _ _ ?_
            cbv
            try (subst e; simp only [D.han, D.hbeq, D.hcmp, D.hscmp, and_self, and_true, true_and] <;> (repeat' apply And.intro) <;> rfl)
        · have e := ret_some h; clear h
          refine hK _ _ ?_
          cbv
          try (subst e; simp only [D.han, D.hbeq, D.hcmp, D.hscmp, and_self, and_true, true_and] <;> (repeat' apply And.intro) <;> rfl)
      · have e := ret_some h; clear h
        refine hK _ _ ?_
        cbv
        try (subst e; simp only [D.han, D.hbeq, D.hcmp, D.hscmp, and_self, and_true, true_and] <;> (repeat' apply And.intro) <;> rfl)
end Go.Proofs.Ytjcabmhnekcbgaa
end
section
namespace Go.Proofs.Ytjcabmhnekcbgaa
open Go.Ab Go.RowKit 
set_option maxRecDepth 100000
set_option maxHeartbeats 4000000
noncomputable def d16 (a0_0 : Int) (a0_1 : Bool) (a1_0 : Int) (a1_1 : Bool) (a2 : Int) : Option (Int × Int) :=
  (d31 a0_0 a0_1 a1_0 a1_1).bind fun x2 =>
  if (cmpLit .neq x2 0) = true then
    some (0, x2)
  else
    (d32 a0_0 a0_1 a2).bind fun x3 =>
    (d32 a1_0 a1_1 x3).bind fun x4 =>
    some (x4, 0)
noncomputable def w16_c : Code := (Try.f16.body).getD .skip
theorem w16_h : Try.f16.body = some w16_c := by kernel_rfl
theorem w16 (a0_0 : Int) (a0_1 : Bool) (a1_0 : Int) (a1_1 : Bool) (a2 : Int) (r : Int × Int) (h : d16 a0_0 a0_1 a1_0 a1_1 a2 = some r) : Ab.Fn Try.prog TT 16 [.agg [.i .i64 a0_0, .b a0_1], .agg [.i .i64 a1_0, .b a1_1], .i .i64 a2] (.tup [.i .i64 r.1, .i .i64 r.2]) [] := by
  refine fn_pure tok (fun r => match r with | 4 => [[],[],[],[1,2],[0,1,2,3],[0,1,2,3,4],[0,1,2,3,4,5]] | _ => []) Try.func16 (by kernel_rfl) w16_h (by kernel_rfl) ?_
  intro ar un cv mn mx pl mi cmp nt beq an scmp cat slen sbyte ssub ofB toB len gi gb gs gl sub put app ovl rep ne0 ge0 inb bnd room sroom need br call loop cut nl E R K hK
  have D := E.D
  clear E
  unfold d16 at h
  cbv
  refine R.cut' (by kernel_rfl) (by kernel_rfl) ?_
  cbv
  refine R.callD h (fun x2 hx2 h2 => ?_)
  clear h; have h := h2; clear h2
  refine R.call' (w31 _ _ _ _ _ hx2) (by (first | rfl | (simp only [D.hcmp]; done) | (simp only [D.hcmp]; rfl))) ?_
  clear hx2; cbv
  refine R.brD h (by (first | rfl | (simp only [D.hcmp]; done) | (simp only [D.hcmp]; rfl))) ?_ ?_ <;> clear h <;> intro h <;> cbv
  · have e := ret_some h; clear h
    refine hK _ _ ?_
    cbv
    try (subst e; simp only [D.hcmp, and_self, and_true, true_and] <;> (repeat' apply And.intro) <;> rfl)
  · refine R.callD h (fun x3 hx3 h2 => ?_)
    clear h; have h := h2; clear h2
    refine R.call' (w32 _ _ _ _ hx3) (by (first | rfl | (simp only [D.hcmp]; done) | (simp only [D.hcmp]; rfl))) ?_
    clear hx3; cbv
    refine R.callD h (fun x4 hx4 h2 => ?_)
    clear h; have h := h2; clear h2
    refine R.call' (w32 _ _ _ _ hx4) (by (first | rfl | (simp only [D.hcmp]; done) | (simp only [D.hcmp]; rfl))) ?_
    clear hx4; cbv
    have e := ret_some h; clear h
    refine hK _ _ ?_
    cbv
    try (subst e; simp only [D.hcmp, and_self, and_true, true_and] <;> (repeat' apply And.intro) <;> rfl)

noncomputable def d19 (a0_0 : Int) (a0_1 : Bool) (a1 : Int) (a2 : Int) : Option (Int × Int) :=
  (d10 a0_0 a0_1).bind fun x2 =>
  if (cmpLit .neq x2 0) = true then
    some (0, x2)
  else
    (d32 a0_0 a0_1 a1).bind fun x3 =>
    (d32 a0_0 a0_1 a2).bind fun x4 =>
    (d38 a0_0 a0_1 x3 x4).bind fun x5 =>
    some (x5, 0)
noncomputable def w19_c : Code := (Try.f19.body).getD .skip
theorem w19_h : Try.f19.body = some w19_c := by kernel_rfl
theorem w19 (a0_0 : Int) (a0_1 : Bool) (a1 : Int) (a2 : Int) (r : Int × Int) (h : d19 a0_0 a0_1 a1 a2 = some r) : Ab.Fn Try.prog TT 19 [.agg [.i .i64 a0_0, .b a0_1], .i .i64 a1, .i .i64 a2] (.tup [.i .i64 r.1, .i .i64 r.2]) [] := by
  refine fn_pure tok (fun r => match r with | 4 => [[],[],[],[1,2],[],[],[1,2,3,4,5],[0,1,2,3,4,5,6],[0,1,2,3,4,5,6,7],[0,1,2,3,4,5,6,7,8]] | _ => []) Try.func19 (by kernel_rfl) w19_h (by kernel_rfl) ?_
  intro ar un cv mn mx pl mi cmp nt beq an scmp cat slen sbyte ssub ofB toB len gi gb gs gl sub put app ovl rep ne0 ge0 inb bnd room sroom need br call loop cut nl E R K hK
  have D := E.D
  clear E
  unfold d19 at h
  cbv
  refine R.cut' (by kernel_rfl) (by kernel_rfl) ?_
  cbv
  refine R.callD h (fun x2 hx2 h2 => ?_)
  clear h; have h := h2; clear h2
  refine R.call' (w10 _ _ _ hx2) (by (first | rfl | (simp only [D.hcmp]; done) | (simp only [D.hcmp]; rfl))) ?_
  clear hx2; cbv
  refine R.brD h (by (first | rfl | (simp only [D.hcmp]; done) | (simp only [D.hcmp]; rfl))) ?_ ?_ <;> clear h <;> intro h <;> cbv
  · have e := ret_some h; clear h
    refine hK _ _ ?_
    cbv
    try (subst e; simp only [D.hcmp, and_self, and_true, true_and] <;> (repeat' apply And.intro) <;> rfl)
  · refine R.callD h (fun x3 hx3 h2 => ?_)
    clear h; have h := h2; clear h2
    refine R.call' (w32 _ _ _ _ hx3) (by (first | rfl | (simp only [D.hcmp]; done) | (simp only [D.hcmp]; rfl))) ?_
    clear hx3; cbv
    refine R.callD h (fun x4 hx4 h2 => ?_)
    clear h; have h := h2; clear h2
    refine R.call' (w32 _ _ _ _ hx4) (by (first | rfl | (simp only [D.hcmp]; done) | (simp only [D.hcmp]; rfl))) ?_
    clear hx4; cbv
    refine R.callD h (fun x5 hx5 h2 => ?_)
    clear h; have h := h2; clear h2
    refine R.call' (w38 _ _ _ _ _ hx5) (by (first | rfl | (simp only [D.hcmp]; done) | (simp only [D.hcmp]; rfl))) ?_
    clear hx5; cbv
    have e := ret_some h; clear h
    refine hK _ _ ?_
    cbv
    try (subst e; simp only [D.hcmp, and_self, and_true, true_and] <;> (repeat' apply And.intro) <;> rfl)
end Go.Proofs.Ytjcabmhnekcbgaa
end
section
namespace Go.Proofs.Ytjcabmhnekcbgaa
open Go.Ab Go.RowKit
theorem c_eql (a b : Int) : cmpLit .eql a b = decide (a = b) := by simp [cmpLit, Bool.beq_eq_decide_eq]
theorem c_neq (a b : Int) : cmpLit .neq a b = decide (a ≠ b) := by simp [cmpLit, bne, Bool.beq_eq_decide_eq]
theorem c_lss (a b : Int) : cmpLit .lss a b = decide (a < b) := rfl
theorem c_leq (a b : Int) : cmpLit .leq a b = decide (a ≤ b) := rfl
theorem c_gtr (a b : Int) : cmpLit .gtr a b = decide (b < a) := rfl
theorem c_geq (a b : Int) : cmpLit .geq a b = decide (b ≤ a) := rfl
/-- A number of Go's int64. -/
def I64 (v : Int) : Prop := -9223372036854775808 ≤ v ∧ v < 9223372036854775808
def OkZ (z : Int) : Prop := z = 1 ∨ z = 2 ∨ z = 4 ∨ z = 8
instance (z : Int) : Decidable (OkZ z) := by unfold OkZ; infer_instance
def wT (z : Int) (b : Bool) (v : Int) : Int :=
  if z = 1 then (if b = true then (v + 128) % 256 - 128 else v % 256)
  else if z = 2 then (if b = true then (v + 32768) % 65536 - 32768 else v % 65536)
  else if z = 4 then (if b = true then (v + 2147483648) % 4294967296 - 2147483648 else v % 4294967296)
  else (v + 9223372036854775808) % 18446744073709551616 - 9223372036854775808
def md (z : Int) : Int := if z = 1 then 256 else if z = 2 then 65536 else if z = 4 then 4294967296 else 18446744073709551616
theorem wk_i64 (a : Int) : wrapK .i64 a = (a + 9223372036854775808) % 18446744073709551616 - 9223372036854775808 := by
  simp [wrapK, IntKind.wrap, IntKind.bits, IntKind.signed]; omega
theorem wk_i32 (a : Int) : wrapK .i32 a = (a + 2147483648) % 4294967296 - 2147483648 := by
  simp [wrapK, IntKind.wrap, IntKind.bits, IntKind.signed]; omega
theorem wk_i16 (a : Int) : wrapK .i16 a = (a + 32768) % 65536 - 32768 := by
  simp [wrapK, IntKind.wrap, IntKind.bits, IntKind.signed]; omega
theorem wk_i8 (a : Int) : wrapK .i8 a = (a + 128) % 256 - 128 := by
  simp [wrapK, IntKind.wrap, IntKind.bits, IntKind.signed]; omega
theorem wk_u64 (a : Int) : wrapK .u64 a = a % 18446744073709551616 := by simp [wrapK, IntKind.wrap, IntKind.bits, IntKind.signed]
theorem wk_u32 (a : Int) : wrapK .u32 a = a % 4294967296 := by simp [wrapK, IntKind.wrap, IntKind.bits, IntKind.signed]
theorem wk_u16 (a : Int) : wrapK .u16 a = a % 65536 := by simp [wrapK, IntKind.wrap, IntKind.bits, IntKind.signed]
theorem wk_u8 (a : Int) : wrapK .u8 a = a % 256 := by simp [wrapK, IntKind.wrap, IntKind.bits, IntKind.signed]
theorem wT_i64 {z : Int} (b : Bool) (v : Int) : I64 (wT z b v) := by
  unfold I64 wT; repeat' split
  all_goals omega
theorem wT_mod {z : Int} (h : OkZ z) (b : Bool) (v : Int) : wT z b v % md z = v % md z := by
  rcases h with rfl | rfl | rfl | rfl <;> cases b <;> simp [wT, md] <;> omega
theorem wT_congr {z : Int} (h : OkZ z) (b : Bool) {v v' : Int} (e : v % md z = v' % md z) : wT z b v = wT z b v' := by
  rcases h with rfl | rfl | rfl | rfl <;> cases b <;> simp [wT, md] at e ⊢ <;> omega
theorem md_dvd {z y : Int} (h : OkZ z) (k : OkZ y) (l : z ≤ y) : md z ∣ md y := by
  rcases h with rfl | rfl | rfl | rfl <;> rcases k with rfl | rfl | rfl | rfl <;> simp [md] at l ⊢ <;> decide
theorem mod_le {z y : Int} (h : OkZ z) (k : OkZ y) (l : z ≤ y) {a b : Int} (e : a % md y = b % md y) : a % md z = b % md z := by
  have := md_dvd h k l
  rw [← Int.emod_emod_of_dvd a this, e, Int.emod_emod_of_dvd b this]
theorem mod_64 {z : Int} (h : OkZ z) {a b : Int} (e : a % 18446744073709551616 = b % 18446744073709551616) : a % md z = b % md z :=
  mod_le (y := 8) h (.inr (.inr (.inr rfl))) (by rcases h with rfl | rfl | rfl | rfl <;> decide) e
theorem wk_in (x : Int) : I64 (wrapK .i64 x) := by rw [wk_i64]; unfold I64; omega
theorem wk_mod (x : Int) : wrapK .i64 x % 18446744073709551616 = x % 18446744073709551616 := by rw [wk_i64]; omega
theorem bv_nat (a : Int) : (BitVec.ofInt 64 a).toNat = (a % 18446744073709551616).toNat := by simp [BitVec.toNat_ofInt]
end Go.Proofs.Ytjcabmhnekcbgaa
end
section
namespace Go.Proofs.Ytjcabmhnekcbgaa
open Go.Ab Go.RowKit
theorem s52 (v : Int) : d52 v = some (wT 1 true v) := by simp only [d52, wk_i64, wk_i8, wT]; congr 1; simp; omega
theorem s53 (v : Int) : d53 v = some (wT 1 false v) := by simp only [d53, wk_i64, wk_u8, wT]; congr 1; simp; omega
theorem s54 (v : Int) : d54 v = some (wT 2 true v) := by simp only [d54, wk_i64, wk_i16, wT]; congr 1; simp; omega
theorem s55 (v : Int) : d55 v = some (wT 2 false v) := by simp only [d55, wk_i64, wk_u16, wT]; congr 1; simp; omega
theorem s56 (v : Int) : d56 v = some (wT 4 true v) := by simp only [d56, wk_i64, wk_i32, wT]; congr 1; simp; omega
theorem s57 (v : Int) : d57 v = some (wT 4 false v) := by simp only [d57, wk_i64, wk_u32, wT]; congr 1; simp; omega
theorem s58 (v : Int) (h : I64 v) : d58 v = some (wT 8 true v) := by unfold I64 at h; simp only [d58, wT]; congr 1; simp; omega
theorem s59 (v : Int) : d59 v = some (wT 8 false v) := by simp only [d59, wk_i64, wk_u64, wT]; congr 1; simp
theorem s10 (z : Int) (b : Bool) : d10 z b = some (if OkZ z then 0 else 10) := by
  simp only [d10, d29, Option.bind_some, c_eql, andB', beqB, OkZ]
  by_cases h1 : z = 1 <;> by_cases h2 : z = 2 <;> by_cases h4 : z = 4 <;> by_cases h8 : z = 8 <;> cases b <;> simp [h1, h2, h4, h8]
theorem s32 {z : Int} (b : Bool) {v : Int} (h : OkZ z) (hv : I64 v) : d32 z b v = some (wT z b v) := by
  simp only [d32, d29, Option.bind_some, c_eql, andB', beqB, s52, s53, s54, s55, s56, s57, s58 v hv, s59]
  rcases h with rfl | rfl | rfl | rfl <;> cases b <;> simp
theorem s28 (z : Int) (b : Bool) {v : Int} (hv : I64 v) : d28 z b v = some (if OkZ z then (wT z b v, 0) else (0, 10)) := by
  by_cases h : OkZ z
  · simp [d28, s10, h, s32 b h hv, c_neq]
  · simp [d28, s10, h, c_neq]
theorem s60 (x y : Int) : d60 [.i .i64 x, .i .i64 y] = some (if x ≠ 0 then x else y) := by
  have l : lenI [V.i .i64 x, V.i .i64 y] = 2 := rfl
  have e0 : gI [V.i .i64 x, V.i .i64 y] 0 0 = x := rfl
  have e1 : gI [V.i .i64 x, V.i .i64 y] 1 0 = y := rfl
  have a0 : arReal .add .i64 0 1 = 1 := by decide
  have a1 : arReal .add .i64 1 1 = 2 := by decide
  have i0 : Inb 0 2 := by decide
  have i1 : Inb 1 2 := by decide
  have r0 : d60_b1 [V.i .i64 x, V.i .i64 y] 0 = if x ≠ 0 then some (.inr (.inl x)) else some (.inl 1) := by
    simp only [d60_b1, l, c_lss, c_neq, e0, a0, if_pos i0, decide_eq_true_eq, ne_eq]; simp
  have r1 : d60_b1 [V.i .i64 x, V.i .i64 y] 1 = if y ≠ 0 then some (.inr (.inl y)) else some (.inl 2) := by
    simp only [d60_b1, l, c_lss, c_neq, e1, a1, if_pos i1, decide_eq_true_eq, ne_eq]; simp
  have r2 : d60_b1 [V.i .i64 x, V.i .i64 y] 2 = some (.inr (.inr ())) := by
    simp only [d60_b1, l, c_lss]; simp
  unfold d60
  by_cases hx : x = 0
  · rw [iter_inl (s' := 1) (by rw [r0]; simp [hx])]
    by_cases hy : y = 0
    · rw [iter_inl (s' := 2) (by rw [r1]; simp [hy]), iter_inr r2]; simp [hx, hy]
    · rw [iter_inr (r := .inl y) (by rw [r1]; simp [hy])]; simp [hx]
  · rw [iter_inr (r := .inl x) (by rw [r0]; simp [hx])]; simp [hx]
theorem s31 (z : Int) (b : Bool) (y : Int) (c : Bool) : d31 z b y c = some (if OkZ z ∧ OkZ y then 0 else 10) := by
  simp only [d31, s10, Option.bind_some, s60]
  by_cases h : OkZ z <;> by_cases k : OkZ y <;> simp [h, k]
/-- The promoted type. -/
def pz (z : Int) : Int := if z < 4 then 4 else z
def pb (z : Int) (b : Bool) : Bool := if z < 4 then true else b
theorem pz_ok {z : Int} (h : OkZ z) : OkZ (pz z) := by rcases h with rfl | rfl | rfl | rfl <;> decide
theorem pz_ge {z : Int} (h : OkZ z) : z ≤ pz z := by rcases h with rfl | rfl | rfl | rfl <;> decide
theorem pz_4 {z : Int} (h : OkZ z) : 4 ≤ pz z := by rcases h with rfl | rfl | rfl | rfl <;> decide
theorem pz_pz (z : Int) : pz (pz z) = pz z := by unfold pz; repeat' split <;> omega
theorem pb_pb (z : Int) (b : Bool) : pb (pz z) (pb z b) = pb z b := by
  unfold pz pb; by_cases h : z < 4 <;> simp [h]
theorem s30 (z : Int) (b : Bool) : d30 z b = some (pz z, pb z b) := by
  simp only [d30, d36, Option.bind_some, c_lss, decide_eq_true_eq, pz, pb]; split <;> rfl
theorem s13 (z : Int) (b : Bool) : d13 z b = some (if OkZ z then (pz z, pb z b, 0) else (0, false, 10)) := by
  by_cases h : OkZ z <;> simp [d13, s10, h, s30, c_neq]
/-- The common type. -/
def uz (z y : Int) : Int := if pz z < pz y then pz y else pz z
def ub (z : Int) (b : Bool) (y : Int) (c : Bool) : Bool := if pz z < pz y then pb y c else if pz y < pz z then pb z b else pb z b && pb y c
theorem uz_ok {z y : Int} (h : OkZ z) (k : OkZ y) : OkZ (uz z y) := by
  unfold uz; split
  · exact pz_ok k
  · exact pz_ok h
theorem s33 (z : Int) (b : Bool) (y : Int) (c : Bool) : d33 z b y c = some (uz z y, ub z b y c) := by
  simp only [d33, s30, Option.bind_some, c_neq, c_gtr, decide_eq_true_eq, mxI, uz, ub]
  rcases Int.lt_trichotomy (pz z) (pz y) with h | h | h
  · have h1 : ¬ pz y < pz z := by omega
    have h2 : pz z ≠ pz y := by omega
    simp [h, h1, h2]
  · have h1 : ¬ pz y < pz z := by omega
    have h2 : ¬ pz z < pz y := by omega
    simp [h]; cases pb z b <;> simp
  · have h1 : ¬ pz z < pz y := by omega
    have h2 : pz z ≠ pz y := by omega
    simp [h, h1, h2]; cases pb z b <;> simp
theorem s15 (z : Int) (b : Bool) (y : Int) (c : Bool) : d15 z b y c = some (if OkZ z ∧ OkZ y then (uz z y, ub z b y c, 0) else (0, false, 10)) := by
  simp only [d15, s31, Option.bind_some, s33, c_neq]
  by_cases h : OkZ z ∧ OkZ y <;> simp [h]
theorem s16 (z : Int) (b : Bool) (y : Int) (c : Bool) {v : Int} (hv : I64 v) : d16 z b y c v = some (if OkZ z ∧ OkZ y then (wT y c (wT z b v), 0) else (0, 10)) := by
  simp only [d16, s31, Option.bind_some, c_neq]
  by_cases h : OkZ z ∧ OkZ y
  · simp [h, s32 b h.1 hv, s32 c h.2 (wT_i64 b v)]
  · simp [h]
theorem s12 (z : Int) (b : Bool) {v : Int} (hv : I64 v) : d12 z b v = some (if OkZ z then wT z b v else 0) := by
  simp only [d12, s28 z b hv, Option.bind_some]; split <;> rfl
/-- The operations of a ring. -/
def fop (o a b : Int) : Int := if o = 1 then arReal .add .i64 a b else if o = 2 then arReal .sub .i64 a b else if o = 3 then arReal .mul .i64 a b else if o = 6 then arReal .and .i64 a b else if o = 7 then arReal .or .i64 a b else arReal .xor .i64 a b
def Rop (o : Int) : Prop := o = 1 ∨ o = 2 ∨ o = 3 ∨ o = 6 ∨ o = 7 ∨ o = 8
theorem fop_i64 (o a b : Int) : I64 (fop o a b) := by
  unfold fop; repeat' split
  all_goals exact wk_in _
theorem s14 {o : Int} (ho : Rop o) {z : Int} (b : Bool) {y : Int} (c : Bool) {v u : Int} (hz : OkZ z) (hy : OkZ y) (hv : I64 v) (hu : I64 u) :
    d14 o z b v y c u = some (uz z y, ub z b y c, wT (uz z y) (ub z b y c) (fop o (wT (uz z y) (ub z b y c) (wT z b v)) (wT (uz z y) (ub z b y c) (wT y c u))), 0) := by
  have hq := uz_ok hz hy
  have e1 := s32 b hz hv
  have e2 := s32 c hy hu
  have e3 := s32 (ub z b y c) hq (wT_i64 b (z := z) v)
  have e4 := s32 (ub z b y c) hq (wT_i64 c (z := y) u)
  have e5 := fun x y' => s32 (ub z b y c) hq (fop_i64 o x y')
  have e6 : d31 z b y c = some 0 := by rw [s31, if_pos ⟨hz, hy⟩]
  unfold d14
  simp only [e6, Option.bind_some, c_neq, e1, e2, s33, d34, c_eql, e3, e4]
  rcases ho with rfl | rfl | rfl | rfl | rfl | rfl <;> simp [fop, d61, d62, d63, d64, d65, d66] at e5 ⊢ <;> simp [e5]
theorem wT_id {z : Int} (h : OkZ z) (b : Bool) (v : Int) : wT z b (wT z b v) = wT z b v := wT_congr h b (wT_mod h b v)
theorem wT_lo {z y : Int} (h : OkZ z) (k : OkZ y) (l : z ≤ y) (b c : Bool) (v : Int) : wT z b (wT y c v) = wT z b v := wT_congr h b (mod_le h k l (wT_mod k c v))
theorem md_pow {z : Int} (h : OkZ z) : ∃ k, k ≤ 64 ∧ md z = ((2 ^ k : Nat) : Int) := by
  rcases h with rfl | rfl | rfl | rfl
  · exact ⟨8, by decide, rfl⟩
  · exact ⟨16, by decide, rfl⟩
  · exact ⟨32, by decide, rfl⟩
  · exact ⟨64, by decide, rfl⟩
theorem bv_mod {k : Nat} (hk : k ≤ 64) {a a' : Int} (e : a % ((2 ^ k : Nat) : Int) = a' % ((2 ^ k : Nat) : Int)) : (BitVec.ofInt 64 a).toNat % 2 ^ k = (BitVec.ofInt 64 a').toNat % 2 ^ k := by
  have hd : ((2 ^ k : Nat) : Int) ∣ 18446744073709551616 := by
    have h1 : (2 ^ k : Nat) ∣ 2 ^ 64 := Nat.pow_dvd_pow 2 hk
    have h2 : (2 ^ 64 : Nat) = 18446744073709551616 := by decide
    rw [h2] at h1
    exact Int.natCast_dvd_natCast.2 h1
  have key : ∀ x : Int, (((BitVec.ofInt 64 x).toNat % 2 ^ k : Nat) : Int) = x % ((2 ^ k : Nat) : Int) := by
    intro x
    rw [bv_nat, Int.natCast_emod, Int.toNat_of_nonneg (Int.emod_nonneg _ (by decide)), Int.emod_emod_of_dvd x hd]
  have := (key a).trans (e.trans (key a').symm)
  exact_mod_cast this
theorem f1 (a b : Int) : fop 1 a b = wrapK .i64 (a + b) := rfl
theorem f2 (a b : Int) : fop 2 a b = wrapK .i64 (a - b) := rfl
theorem f3 (a b : Int) : fop 3 a b = wrapK .i64 (a * b) := rfl
theorem f6 (a b : Int) : fop 6 a b = wrapK .i64 ((BitVec.ofInt 64 a &&& BitVec.ofInt 64 b).toNat : Nat) := rfl
theorem f7 (a b : Int) : fop 7 a b = wrapK .i64 ((BitVec.ofInt 64 a ||| BitVec.ofInt 64 b).toNat : Nat) := rfl
theorem f8 (a b : Int) : fop 8 a b = wrapK .i64 ((BitVec.ofInt 64 a ^^^ BitVec.ofInt 64 b).toNat : Nat) := rfl
/-- The operations, by their remainders. -/
theorem fop_congr {o : Int} (ho : Rop o) {z : Int} (h : OkZ z) {a a' b b' : Int} (e : a % md z = a' % md z) (f : b % md z = b' % md z) : fop o a b % md z = fop o a' b' % md z := by
  have w : ∀ x y : Int, x % md z = y % md z → wrapK .i64 x % md z = wrapK .i64 y % md z := fun x y e => by
    rw [mod_64 h (wk_mod x), mod_64 h (wk_mod y), e]
  obtain ⟨k, hk, hm⟩ := md_pow h
  have na := bv_mod hk (hm ▸ e)
  have nb := bv_mod hk (hm ▸ f)
  rcases ho with rfl | rfl | rfl | rfl | rfl | rfl
  · rw [f1, f1]; refine w _ _ ?_; rw [Int.add_emod, e, f, ← Int.add_emod]
  · rw [f2, f2]; refine w _ _ ?_; rw [Int.sub_emod, e, f, ← Int.sub_emod]
  · rw [f3, f3]; refine w _ _ ?_; rw [Int.mul_emod, e, f, ← Int.mul_emod]
  · rw [f6, f6]; refine w _ _ ?_; rw [hm, ← Int.natCast_emod, ← Int.natCast_emod, BitVec.toNat_and, BitVec.toNat_and, Nat.and_mod_two_pow, Nat.and_mod_two_pow, na, nb]
  · rw [f7, f7]; refine w _ _ ?_; rw [hm, ← Int.natCast_emod, ← Int.natCast_emod, BitVec.toNat_or, BitVec.toNat_or, Nat.or_mod_two_pow, Nat.or_mod_two_pow, na, nb]
  · rw [f8, f8]; refine w _ _ ?_; rw [hm, ← Int.natCast_emod, ← Int.natCast_emod, BitVec.toNat_xor, BitVec.toNat_xor, Nat.xor_mod_two_pow, Nat.xor_mod_two_pow, na, nb]
theorem bv_wk (n : Nat) (x : BitVec 64) (h : n = x.toNat) : BitVec.ofInt 64 (wrapK .i64 (n : Int)) = x := by
  apply BitVec.eq_of_toNat_eq
  rw [bv_nat, wk_mod, ← h]
  have := x.isLt
  omega
theorem fop_comm {o : Int} (ho : Rop o) (h2 : o ≠ 2) (a b : Int) : fop o a b = fop o b a := by
  rcases ho with rfl | rfl | rfl | rfl | rfl | rfl
  · rw [f1, f1, Int.add_comm]
  · exact absurd rfl h2
  · rw [f3, f3, Int.mul_comm]
  · rw [f6, f6, BitVec.and_comm]
  · rw [f7, f7, BitVec.or_comm]
  · rw [f8, f8, BitVec.xor_comm]
theorem fop_assoc {o : Int} (ho : Rop o) (h2 : o ≠ 2) (a b c : Int) : fop o (fop o a b) c % 18446744073709551616 = fop o a (fop o b c) % 18446744073709551616 := by
  rcases ho with rfl | rfl | rfl | rfl | rfl | rfl
  · simp only [f1, wk_mod]; have := wk_mod (a + b); have := wk_mod (b + c); omega
  · exact absurd rfl h2
  · simp only [f3, wk_mod]; rw [Int.mul_emod, wk_mod, ← Int.mul_emod, Int.mul_assoc, Int.mul_emod a (wrapK _ _), wk_mod, ← Int.mul_emod]
  · simp only [f6]; rw [bv_wk _ _ rfl, bv_wk _ _ rfl, BitVec.and_assoc]
  · simp only [f7]; rw [bv_wk _ _ rfl, bv_wk _ _ rfl, BitVec.or_assoc]
  · simp only [f8]; rw [bv_wk _ _ rfl, bv_wk _ _ rfl, BitVec.xor_assoc]
end Go.Proofs.Ytjcabmhnekcbgaa
end
