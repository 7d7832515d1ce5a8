/- The law BufferValid: its function's walk, the pure law, the row. Conditions: none. -/
import Derived.Test.YtdejapkfijdadaaRows
import Derived.WalkKit
import Derived.ProofKit
import Derived.OpenShut
import Derived.ShutString
import Derived.ChangeOld
import Derived.Below
import Derived.SizedLaws
import Derived.Carry
import Derived.Test.YtdejapkfijdadaaBA5
set_option linter.unusedVariables false
set_option linter.unusedSimpArgs false
section
namespace Go.Proofs.Ytdejapkfijdadaa
open Go.Ab Go.RowKit 
set_option maxRecDepth 100000
set_option maxHeartbeats 40000000
noncomputable def w9_c : Code := (Try.f9.body).getD .skip
theorem w9_h : Try.f9.body = some w9_c := by kernel_rfl
theorem w9 (a0_0 : Int) (a0_1 : List V) (a0_2 : Int) (a0_3 : Int) (a0_4 : Int) (a0_5 : Int) (a0_6 : List V) (a0_7 : Int) (a0_8 : Bool) (a1_0 : Int) (a1_1 : Int) (a1_2 : List V) (a2 : Int) (a3 : Int) (r : Bool) (h : d9 a0_0 a0_1 a0_2 a0_3 a0_4 a0_5 a0_6 a0_7 a0_8 a1_0 a1_1 a1_2 a2 a3 = some r) : Ab.Fn Try.prog TT 9 [.agg [.i .i64 a0_0, .sl 5 a0_1, .i .i64 a0_2, .i .i64 a0_3, .i .i64 a0_4, .i .i64 a0_5, .sl 5 a0_6, .i .i64 a0_7, .b a0_8], .agg [.i .i64 a1_0, .i .i64 a1_1, .sl 5 a1_2], .i .i64 a2, .i .i64 a3] (.b r) [] := by
  refine fn_pure tok W0 Try.func9 (by kernel_rfl) w9_h (by kernel_rfl) ?_
  intro ar un cv mn mx pl mi cmp nt beq an scmp cat slen sbyte ssub ofB toB len gi gb gs gl sub put app ovl rep ne0 ge0 inb bnd room sroom need br call callb loop cut nl E R K hK
  have D := E.D
  clear E
  unfold d9 at h
  cbv
  refine R.callD h (fun x1 hx1 h2 => ?_)
  clear h; have h := h2; clear h2
  refine R.call' (w14 _ hx1) (by (first | (simp only [D.hcmp]; done) | rfl | (simp only [D.hcmp]; rfl))) ?_
  clear hx1; cbv
  refine R.callD h (fun x2 hx2 h2 => ?_)
  clear h; have h := h2; clear h2
  refine R.call' (w15s _ _ _ hx2) (by (first | (simp only [D.hcmp]; done) | rfl | (simp only [D.hcmp]; rfl))) ?_
  clear hx2; cbv
  refine R.callD h (fun x3 hx3 h2 => ?_)
  clear h; have h := h2; clear h2
  refine R.call' (w16s _ _ _ _ _ _ _ _ _ _ _ _ _ hx3) (by (first | (simp only [D.hcmp]; done) | rfl | (simp only [D.hcmp]; rfl))) ?_
  clear hx3; cbv
  refine R.callD h (fun x4 hx4 h2 => ?_)
  clear h; have h := h2; clear h2
  refine R.call' (w25s _ _ _ _ _ _ _ _ _ _ hx4) (by (first | (simp only [D.hcmp]; done) | rfl | (simp only [D.hcmp]; rfl))) ?_
  clear hx4; cbv
  refine R.callD h (fun x5 hx5 h2 => ?_)
  clear h; have h := h2; clear h2
  refine R.call' (w26s _ _ _ _ _ _ _ _ _ _ hx5) (by (first | (simp only [D.hcmp]; done) | rfl | (simp only [D.hcmp]; rfl))) ?_
  clear hx5; cbv
  refine R.callD h (fun x6 hx6 h2 => ?_)
  clear h; have h := h2; clear h2
  refine R.call' (w28s _ _ _ _ _ _ _ _ _ _ hx6) (by (first | (simp only [D.hcmp]; done) | rfl | (simp only [D.hcmp]; rfl))) ?_
  clear hx6; cbv
  refine R.cut' (by kernel_rfl) (by kernel_rfl) ?_
  cbv
  refine R.brD h (by (first | (simp only [D.hcmp]; done) | rfl | (simp only [D.hcmp]; rfl))) ?_ ?_ <;> clear h <;> intro h <;> cbv
  · as_aux_lemma =>
    refine R.brD h (by (first | (simp only [D.hcmp]; done) | rfl | (simp only [D.hcmp]; rfl))) ?_ ?_ <;> clear h <;> intro h <;> cbv
    · as_aux_lemma =>
      refine R.brD h (by (first | (simp only [D.hcmp]; done) | rfl | (simp only [D.hcmp]; rfl))) ?_ ?_ <;> clear h <;> intro h <;> cbv
      · as_aux_lemma =>
        refine R.brD h (by (first | (simp only [D.hcmp]; done) | rfl | (simp only [D.hcmp]; rfl))) ?_ ?_ <;> clear h <;> intro h <;> cbv
        · refine R.brD h (by (first | (simp only [D.hcmp]; done) | rfl | (simp only [D.hcmp]; rfl))) ?_ ?_ <;> clear h <;> intro h <;> cbv
          · refine R.brD h (by (first | (simp only [D.hcmp]; done) | rfl | (simp only [D.hcmp]; rfl))) ?_ ?_ <;> clear h <;> intro h <;> cbv
            · have e := ret_some h; clear h
              refine hK _ _ ?_
              cbv
              try (subst e; simp only [D.hcmp, and_self, and_true, true_and] <;> (repeat' apply And.intro) <;> rfl)
            · refine R.callD h (fun x38 hx38 h2 => ?_)
              clear h; have h := h2; clear h2
              refine R.call' (w29 _ _ _ _ _ _ _ _ _ _ hx38) (by (first | (simp only [D.hcmp]; done) | rfl | (simp only [D.hcmp]; rfl))) ?_
              clear hx38; cbv
              have e := ret_some h; clear h
              refine hK _ _ ?_
              cbv
              try (subst e; simp only [D.hcmp, and_self, and_true, true_and] <;> (repeat' apply And.intro) <;> rfl)
          · refine R.callD h (fun x39 hx39 h2 => ?_)
            clear h; have h := h2; clear h2
            refine R.call' (w29 _ _ _ _ _ _ _ _ _ _ hx39) (by (first | (simp only [D.hcmp]; done) | rfl | (simp only [D.hcmp]; rfl))) ?_
            clear hx39; cbv
            refine R.brD h (by (first | (simp only [D.hcmp]; done) | rfl | (simp only [D.hcmp]; rfl))) ?_ ?_ <;> clear h <;> intro h <;> cbv
            · refine R.brD h (by (first | (simp only [D.hcmp]; done) | rfl | (simp only [D.hcmp]; rfl))) ?_ ?_ <;> clear h <;> intro h <;> cbv
              · have e := ret_some h; clear h
                refine hK _ _ ?_
                cbv
                try (subst e; simp only [D.hcmp, and_self, and_true, true_and] <;> (repeat' apply And.intro) <;> rfl)
              · refine R.callD h (fun x40 hx40 h2 => ?_)
                clear h; have h := h2; clear h2
                refine R.call' (w29 _ _ _ _ _ _ _ _ _ _ hx40) (by (first | (simp only [D.hcmp]; done) | rfl | (simp only [D.hcmp]; rfl))) ?_
                clear hx40; cbv
                have e := ret_some h; clear h
                refine hK _ _ ?_
                cbv
                try (subst e; simp only [D.hcmp, and_self, and_true, true_and] <;> (repeat' apply And.intro) <;> rfl)
            · have e := ret_some h; clear h
              refine hK _ _ ?_
              cbv
              try (subst e; simp only [D.hcmp, and_self, and_true, true_and] <;> (repeat' apply And.intro) <;> rfl)
        · refine R.callD h (fun x41 hx41 h2 => ?_)
          clear h; have h := h2; clear h2
          refine R.call' (w29 _ _ _ _ _ _ _ _ _ _ hx41) (by (first | (simp only [D.hcmp]; done) | rfl | (simp only [D.hcmp]; rfl))) ?_
          clear hx41; cbv
          refine R.brD h (by (first | (simp only [D.hcmp]; done) | rfl | (simp only [D.hcmp]; rfl))) ?_ ?_ <;> clear h <;> intro h <;> cbv
          · refine R.brD h (by (first | (simp only [D.hcmp]; done) | rfl | (simp only [D.hcmp]; rfl))) ?_ ?_ <;> clear h <;> intro h <;> cbv
            · refine R.brD h (by (first | (simp only [D.hcmp]; done) | rfl | (simp only [D.hcmp]; rfl))) ?_ ?_ <;> clear h <;> intro h <;> cbv
              · have e := ret_some h; clear h
                refine hK _ _ ?_
                cbv
                try (subst e; simp only [D.hcmp, and_self, and_true, true_and] <;> (repeat' apply And.intro) <;> rfl)
              · refine R.callD h (fun x42 hx42 h2 => ?_)
                clear h; have h := h2; clear h2
                refine R.call' (w29 _ _ _ _ _ _ _ _ _ _ hx42) (by (first | (simp only [D.hcmp]; done) | rfl | (simp only [D.hcmp]; rfl))) ?_
                clear hx42; cbv
                have e := ret_some h; clear h
                refine hK _ _ ?_
                cbv
                try (subst e; simp only [D.hcmp, and_self, and_true, true_and] <;> (repeat' apply And.intro) <;> rfl)
            · refine R.callD h (fun x43 hx43 h2 => ?_)
              clear h; have h := h2; clear h2
              refine R.call' (w29 _ _ _ _ _ _ _ _ _ _ hx43) (by (first | (simp only [D.hcmp]; done) | rfl | (simp only [D.hcmp]; rfl))) ?_
              clear hx43; cbv
              refine R.brD h (by (first | (simp only [D.hcmp]; done) | rfl | (simp only [D.hcmp]; rfl))) ?_ ?_ <;> clear h <;> intro h <;> cbv
              · refine R.brD h (by (first | (simp only [D.hcmp]; done) | rfl | (simp only [D.hcmp]; rfl))) ?_ ?_ <;> clear h <;> intro h <;> cbv
                · have e := ret_some h; clear h
                  refine hK _ _ ?_
                  cbv
                  try (subst e; simp only [D.hcmp, and_self, and_true, true_and] <;> (repeat' apply And.intro) <;> rfl)
                · refine R.callD h (fun x44 hx44 h2 => ?_)
                  clear h; have h := h2; clear h2
                  refine R.call' (w29 _ _ _ _ _ _ _ _ _ _ hx44) (by (first | (simp only [D.hcmp]; done) | rfl | (simp only [D.hcmp]; rfl))) ?_
                  clear hx44; cbv
                  have e := ret_some h; clear h
                  refine hK _ _ ?_
                  cbv
                  try (subst e; simp only [D.hcmp, and_self, and_true, true_and] <;> (repeat' apply And.intro) <;> rfl)
              · have e := ret_some h; clear h
                refine hK _ _ ?_
                cbv
                try (subst e; simp only [D.hcmp, and_self, and_true, true_and] <;> (repeat' apply And.intro) <;> rfl)
          · have e := ret_some h; clear h
            refine hK _ _ ?_
            cbv
            try (subst e; simp only [D.hcmp, and_self, and_true, true_and] <;> (repeat' apply And.intro) <;> rfl)
      · as_aux_lemma =>
        refine R.callD h (fun x45 hx45 h2 => ?_)
        clear h; have h := h2; clear h2
        refine R.call' (w29 _ _ _ _ _ _ _ _ _ _ hx45) (by (first | (simp only [D.hcmp]; done) | rfl | (simp only [D.hcmp]; rfl))) ?_
        clear hx45; cbv
        refine R.brD h (by (first | (simp only [D.hcmp]; done) | rfl | (simp only [D.hcmp]; rfl))) ?_ ?_ <;> clear h <;> intro h <;> cbv
        · as_aux_lemma =>
          refine R.brD h (by (first | (simp only [D.hcmp]; done) | rfl | (simp only [D.hcmp]; rfl))) ?_ ?_ <;> clear h <;> intro h <;> cbv
          · refine R.brD h (by (first | (simp only [D.hcmp]; done) | rfl | (simp only [D.hcmp]; rfl))) ?_ ?_ <;> clear h <;> intro h <;> cbv
            · refine R.brD h (by (first | (simp only [D.hcmp]; done) | rfl | (simp only [D.hcmp]; rfl))) ?_ ?_ <;> clear h <;> intro h <;> cbv
              · have e := ret_some h; clear h
                refine hK _ _ ?_
                cbv
                try (subst e; simp only [D.hcmp, and_self, and_true, true_and] <;> (repeat' apply And.intro) <;> rfl)
              · refine R.callD h (fun x46 hx46 h2 => ?_)
                clear h; have h := h2; clear h2
                refine R.call' (w29 _ _ _ _ _ _ _ _ _ _ hx46) (by (first | (simp only [D.hcmp]; done) | rfl | (simp only [D.hcmp]; rfl))) ?_
                clear hx46; cbv
                have e := ret_some h; clear h
                refine hK _ _ ?_
                cbv
                try (subst e; simp only [D.hcmp, and_self, and_true, true_and] <;> (repeat' apply And.intro) <;> rfl)
            · refine R.callD h (fun x47 hx47 h2 => ?_)
              clear h; have h := h2; clear h2
              refine R.call' (w29 _ _ _ _ _ _ _ _ _ _ hx47) (by (first | (simp only [D.hcmp]; done) | rfl | (simp only [D.hcmp]; rfl))) ?_
              clear hx47; cbv
              refine R.brD h (by (first | (simp only [D.hcmp]; done) | rfl | (simp only [D.hcmp]; rfl))) ?_ ?_ <;> clear h <;> intro h <;> cbv
              · refine R.brD h (by (first | (simp only [D.hcmp]; done) | rfl | (simp only [D.hcmp]; rfl))) ?_ ?_ <;> clear h <;> intro h <;> cbv
                · have e := ret_some h; clear h
                  refine hK _ _ ?_
                  cbv
                  try (subst e; simp only [D.hcmp, and_self, and_true, true_and] <;> (repeat' apply And.intro) <;> rfl)
                · refine R.callD h (fun x48 hx48 h2 => ?_)
                  clear h; have h := h2; clear h2
                  refine R.call' (w29 _ _ _ _ _ _ _ _ _ _ hx48) (by (first | (simp only [D.hcmp]; done) | rfl | (simp only [D.hcmp]; rfl))) ?_
                  clear hx48; cbv
                  have e := ret_some h; clear h
                  refine hK _ _ ?_
                  cbv
                  try (subst e; simp only [D.hcmp, and_self, and_true, true_and] <;> (repeat' apply And.intro) <;> rfl)
              · have e := ret_some h; clear h
                refine hK _ _ ?_
                cbv
                try (subst e; simp only [D.hcmp, and_self, and_true, true_and] <;> (repeat' apply And.intro) <;> rfl)
          · refine R.callD h (fun x49 hx49 h2 => ?_)
            clear h; have h := h2; clear h2
            refine R.call' (w29 _ _ _ _ _ _ _ _ _ _ hx49) (by (first | (simp only [D.hcmp]; done) | rfl | (simp only [D.hcmp]; rfl))) ?_
            clear hx49; cbv
            refine R.brD h (by (first | (simp only [D.hcmp]; done) | rfl | (simp only [D.hcmp]; rfl))) ?_ ?_ <;> clear h <;> intro h <;> cbv
            · refine R.brD h (by (first | (simp only [D.hcmp]; done) | rfl | (simp only [D.hcmp]; rfl))) ?_ ?_ <;> clear h <;> intro h <;> cbv
              · refine R.brD h (by (first | (simp only [D.hcmp]; done) | rfl | (simp only [D.hcmp]; rfl))) ?_ ?_ <;> clear h <;> intro h <;> cbv
                · have e := ret_some h; clear h
                  refine hK _ _ ?_
                  cbv
                  try (subst e; simp only [D.hcmp, and_self, and_true, true_and] <;> (repeat' apply And.intro) <;> rfl)
                · refine R.callD h (fun x50 hx50 h2 => ?_)
                  clear h; have h := h2; clear h2
                  refine R.call' (w29 _ _ _ _ _ _ _ _ _ _ hx50) (by (first | (simp only [D.hcmp]; done) | rfl | (simp only [D.hcmp]; rfl))) ?_
                  clear hx50; cbv
                  have e := ret_some h; clear h
                  refine hK _ _ ?_
                  cbv
                  try (subst e; simp only [D.hcmp, and_self, and_true, true_and] <;> (repeat' apply And.intro) <;> rfl)
              · refine R.callD h (fun x51 hx51 h2 => ?_)
                clear h; have h := h2; clear h2
                refine R.call' (w29 _ _ _ _ _ _ _ _ _ _ hx51) (by (first | (simp only [D.hcmp]; done) | rfl | (simp only [D.hcmp]; rfl))) ?_
                clear hx51; cbv
                refine R.brD h (by (first | (simp only [D.hcmp]; done) | rfl | (simp only [D.hcmp]; rfl))) ?_ ?_ <;> clear h <;> intro h <;> cbv
                · refine R.brD h (by (first | (simp only [D.hcmp]; done) | rfl | (simp only [D.hcmp]; rfl))) ?_ ?_ <;> clear h <;> intro h <;> cbv
                  · have e := ret_some h; clear h
                    refine hK _ _ ?_
                    cbv
                    try (subst e; simp only [D.hcmp, and_self, and_true, true_and] <;> (repeat' apply And.intro) <;> rfl)
                  · refine R.callD h (fun x52 hx52 h2 => ?_)
                    clear h; have h := h2; clear h2
                    refine R.call' (w29 _ _ _ _ _ _ _ _ _ _ hx52) (by (first | (simp only [D.hcmp]; done) | rfl | (simp only [D.hcmp]; rfl))) ?_
                    clear hx52; cbv
                    have e := ret_some h; clear h
                    refine hK _ _ ?_
                    cbv
                    try (subst e; simp only [D.hcmp, and_self, and_true, true_and] <;> (repeat' apply And.intro) <;> rfl)
                · have e := ret_some h; clear h
                  refine hK _ _ ?_
                  cbv
                  try (subst e; simp only [D.hcmp, and_self, and_true, true_and] <;> (repeat' apply And.intro) <;> rfl)
            · have e := ret_some h; clear h
              refine hK _ _ ?_
              cbv
              try (subst e; simp only [D.hcmp, and_self, and_true, true_and] <;> (repeat' apply And.intro) <;> rfl)
        · have e := ret_some h; clear h
          refine hK _ _ ?_
          cbv
          try (subst e; simp only [D.hcmp, and_self, and_true, true_and] <;> (repeat' apply And.intro) <;> rfl)
    · as_aux_lemma =>
      refine R.callD h (fun x53 hx53 h2 => ?_)
      clear h; have h := h2; clear h2
      refine R.call' (w29 _ _ _ _ _ _ _ _ _ _ hx53) (by (first | (simp only [D.hcmp]; done) | rfl | (simp only [D.hcmp]; rfl))) ?_
      clear hx53; cbv
      refine R.brD h (by (first | (simp only [D.hcmp]; done) | rfl | (simp only [D.hcmp]; rfl))) ?_ ?_ <;> clear h <;> intro h <;> cbv
      · as_aux_lemma =>
        refine R.brD h (by (first | (simp only [D.hcmp]; done) | rfl | (simp only [D.hcmp]; rfl))) ?_ ?_ <;> clear h <;> intro h <;> cbv
        · as_aux_lemma =>
          refine R.brD h (by (first | (simp only [D.hcmp]; done) | rfl | (simp only [D.hcmp]; rfl))) ?_ ?_ <;> clear h <;> intro h <;> cbv
          · refine R.brD h (by (first | (simp only [D.hcmp]; done) | rfl | (simp only [D.hcmp]; rfl))) ?_ ?_ <;> clear h <;> intro h <;> cbv
            · refine R.brD h (by (first | (simp only [D.hcmp]; done) | rfl | (simp only [D.hcmp]; rfl))) ?_ ?_ <;> clear h <;> intro h <;> cbv
              · have e := ret_some h; clear h
                refine hK _ _ ?_
                cbv
                try (subst e; simp only [D.hcmp, and_self, and_true, true_and] <;> (repeat' apply And.intro) <;> rfl)
              · refine R.callD h (fun x54 hx54 h2 => ?_)
                clear h; have h := h2; clear h2
                refine R.call' (w29 _ _ _ _ _ _ _ _ _ _ hx54) (by (first | (simp only [D.hcmp]; done) | rfl | (simp only [D.hcmp]; rfl))) ?_
                clear hx54; cbv
                have e := ret_some h; clear h
                refine hK _ _ ?_
                cbv
                try (subst e; simp only [D.hcmp, and_self, and_true, true_and] <;> (repeat' apply And.intro) <;> rfl)
            · refine R.callD h (fun x55 hx55 h2 => ?_)
              clear h; have h := h2; clear h2
              refine R.call' (w29 _ _ _ _ _ _ _ _ _ _ hx55) (by (first | (simp only [D.hcmp]; done) | rfl | (simp only [D.hcmp]; rfl))) ?_
              clear hx55; cbv
              refine R.brD h (by (first | (simp only [D.hcmp]; done) | rfl | (simp only [D.hcmp]; rfl))) ?_ ?_ <;> clear h <;> intro h <;> cbv
              · refine R.brD h (by (first | (simp only [D.hcmp]; done) | rfl | (simp only [D.hcmp]; rfl))) ?_ ?_ <;> clear h <;> intro h <;> cbv
                · have e := ret_some h; clear h
                  refine hK _ _ ?_
                  cbv
                  try (subst e; simp only [D.hcmp, and_self, and_true, true_and] <;> (repeat' apply And.intro) <;> rfl)
                · refine R.callD h (fun x56 hx56 h2 => ?_)
                  clear h; have h := h2; clear h2
                  refine R.call' (w29 _ _ _ _ _ _ _ _ _ _ hx56) (by (first | (simp only [D.hcmp]; done) | rfl | (simp only [D.hcmp]; rfl))) ?_
                  clear hx56; cbv
                  have e := ret_some h; clear h
                  refine hK _ _ ?_
                  cbv
                  try (subst e; simp only [D.hcmp, and_self, and_true, true_and] <;> (repeat' apply And.intro) <;> rfl)
              · have e := ret_some h; clear h
                refine hK _ _ ?_
                cbv
                try (subst e; simp only [D.hcmp, and_self, and_true, true_and] <;> (repeat' apply And.intro) <;> rfl)
          · refine R.callD h (fun x57 hx57 h2 => ?_)
            clear h; have h := h2; clear h2
            refine R.call' (w29 _ _ _ _ _ _ _ _ _ _ hx57) (by (first | (simp only [D.hcmp]; done) | rfl | (simp only [D.hcmp]; rfl))) ?_
            clear hx57; cbv
            refine R.brD h (by (first | (simp only [D.hcmp]; done) | rfl | (simp only [D.hcmp]; rfl))) ?_ ?_ <;> clear h <;> intro h <;> cbv
            · refine R.brD h (by (first | (simp only [D.hcmp]; done) | rfl | (simp only [D.hcmp]; rfl))) ?_ ?_ <;> clear h <;> intro h <;> cbv
              · refine R.brD h (by (first | (simp only [D.hcmp]; done) | rfl | (simp only [D.hcmp]; rfl))) ?_ ?_ <;> clear h <;> intro h <;> cbv
                · have e := ret_some h; clear h
                  refine hK _ _ ?_
                  cbv
                  try (subst e; simp only [D.hcmp, and_self, and_true, true_and] <;> (repeat' apply And.intro) <;> rfl)
                · refine R.callD h (fun x58 hx58 h2 => ?_)
                  clear h; have h := h2; clear h2
                  refine R.call' (w29 _ _ _ _ _ _ _ _ _ _ hx58) (by (first | (simp only [D.hcmp]; done) | rfl | (simp only [D.hcmp]; rfl))) ?_
                  clear hx58; cbv
                  have e := ret_some h; clear h
                  refine hK _ _ ?_
                  cbv
                  try (subst e; simp only [D.hcmp, and_self, and_true, true_and] <;> (repeat' apply And.intro) <;> rfl)
              · refine R.callD h (fun x59 hx59 h2 => ?_)
                clear h; have h := h2; clear h2
                refine R.call' (w29 _ _ _ _ _ _ _ _ _ _ hx59) (by (first | (simp only [D.hcmp]; done) | rfl | (simp only [D.hcmp]; rfl))) ?_
                clear hx59; cbv
                refine R.brD h (by (first | (simp only [D.hcmp]; done) | rfl | (simp only [D.hcmp]; rfl))) ?_ ?_ <;> clear h <;> intro h <;> cbv
                · refine R.brD h (by (first | (simp only [D.hcmp]; done) | rfl | (simp only [D.hcmp]; rfl))) ?_ ?_ <;> clear h <;> intro h <;> cbv
                  · have e := ret_some h; clear h
                    refine hK _ _ ?_
                    cbv
                    try (subst e; simp only [D.hcmp, and_self, and_true, true_and] <;> (repeat' apply And.intro) <;> rfl)
                  · refine R.callD h (fun x60 hx60 h2 => ?_)
                    clear h; have h := h2; clear h2
                    refine R.call' (w29 _ _ _ _ _ _ _ _ _ _ hx60) (by (first | (simp only [D.hcmp]; done) | rfl | (simp only [D.hcmp]; rfl))) ?_
                    clear hx60; cbv
                    have e := ret_some h; clear h
                    refine hK _ _ ?_
                    cbv
                    try (subst e; simp only [D.hcmp, and_self, and_true, true_and] <;> (repeat' apply And.intro) <;> rfl)
                · have e := ret_some h; clear h
                  refine hK _ _ ?_
                  cbv
                  try (subst e; simp only [D.hcmp, and_self, and_true, true_and] <;> (repeat' apply And.intro) <;> rfl)
            · have e := ret_some h; clear h
              refine hK _ _ ?_
              cbv
              try (subst e; simp only [D.hcmp, and_self, and_true, true_and] <;> (repeat' apply And.intro) <;> rfl)
        · as_aux_lemma =>
          refine R.callD h (fun x61 hx61 h2 => ?_)
          clear h; have h := h2; clear h2
          refine R.call' (w29 _ _ _ _ _ _ _ _ _ _ hx61) (by (first | (simp only [D.hcmp]; done) | rfl | (simp only [D.hcmp]; rfl))) ?_
          clear hx61; cbv
          refine R.brD h (by (first | (simp only [D.hcmp]; done) | rfl | (simp only [D.hcmp]; rfl))) ?_ ?_ <;> clear h <;> intro h <;> cbv
          · as_aux_lemma =>
            refine R.brD h (by (first | (simp only [D.hcmp]; done) | rfl | (simp only [D.hcmp]; rfl))) ?_ ?_ <;> clear h <;> intro h <;> cbv
            · refine R.brD h (by (first | (simp only [D.hcmp]; done) | rfl | (simp only [D.hcmp]; rfl))) ?_ ?_ <;> clear h <;> intro h <;> cbv
              · refine R.brD h (by (first | (simp only [D.hcmp]; done) | rfl | (simp only [D.hcmp]; rfl))) ?_ ?_ <;> clear h <;> intro h <;> cbv
                · have e := ret_some h; clear h
                  refine hK _ _ ?_
                  cbv
                  try (subst e; simp only [D.hcmp, and_self, and_true, true_and] <;> (repeat' apply And.intro) <;> rfl)
                · refine R.callD h (fun x62 hx62 h2 => ?_)
                  clear h; have h := h2; clear h2
                  refine R.call' (w29 _ _ _ _ _ _ _ _ _ _ hx62) (by (first | (simp only [D.hcmp]; done) | rfl | (simp only [D.hcmp]; rfl))) ?_
                  clear hx62; cbv
                  have e := ret_some h; clear h
                  refine hK _ _ ?_
                  cbv
                  try (subst e; simp only [D.hcmp, and_self, and_true, true_and] <;> (repeat' apply And.intro) <;> rfl)
              · refine R.callD h (fun x63 hx63 h2 => ?_)
                clear h; have h := h2; clear h2
                refine R.call' (w29 _ _ _ _ _ _ _ _ _ _ hx63) (by (first | (simp only [D.hcmp]; done) | rfl | (simp only [D.hcmp]; rfl))) ?_
                clear hx63; cbv
                refine R.brD h (by (first | (simp only [D.hcmp]; done) | rfl | (simp only [D.hcmp]; rfl))) ?_ ?_ <;> clear h <;> intro h <;> cbv
                · refine R.brD h (by (first | (simp only [D.hcmp]; done) | rfl | (simp only [D.hcmp]; rfl))) ?_ ?_ <;> clear h <;> intro h <;> cbv
                  · have e := ret_some h; clear h
                    refine hK _ _ ?_
                    cbv
                    try (subst e; simp only [D.hcmp, and_self, and_true, true_and] <;> (repeat' apply And.intro) <;> rfl)
                  · refine R.callD h (fun x64 hx64 h2 => ?_)
                    clear h; have h := h2; clear h2
                    refine R.call' (w29 _ _ _ _ _ _ _ _ _ _ hx64) (by (first | (simp only [D.hcmp]; done) | rfl | (simp only [D.hcmp]; rfl))) ?_
                    clear hx64; cbv
                    have e := ret_some h; clear h
                    refine hK _ _ ?_
                    cbv
                    try (subst e; simp only [D.hcmp, and_self, and_true, true_and] <;> (repeat' apply And.intro) <;> rfl)
                · have e := ret_some h; clear h
                  refine hK _ _ ?_
                  cbv
                  try (subst e; simp only [D.hcmp, and_self, and_true, true_and] <;> (repeat' apply And.intro) <;> rfl)
            · refine R.callD h (fun x65 hx65 h2 => ?_)
              clear h; have h := h2; clear h2
              refine R.call' (w29 _ _ _ _ _ _ _ _ _ _ hx65) (by (first | (simp only [D.hcmp]; done) | rfl | (simp only [D.hcmp]; rfl))) ?_
              clear hx65; cbv
              refine R.brD h (by (first | (simp only [D.hcmp]; done) | rfl | (simp only [D.hcmp]; rfl))) ?_ ?_ <;> clear h <;> intro h <;> cbv
              · refine R.brD h (by (first | (simp only [D.hcmp]; done) | rfl | (simp only [D.hcmp]; rfl))) ?_ ?_ <;> clear h <;> intro h <;> cbv
                · refine R.brD h (by (first | (simp only [D.hcmp]; done) | rfl | (simp only [D.hcmp]; rfl))) ?_ ?_ <;> clear h <;> intro h <;> cbv
                  · have e := ret_some h; clear h
                    refine hK _ _ ?_
                    cbv
                    try (subst e; simp only [D.hcmp, and_self, and_true, true_and] <;> (repeat' apply And.intro) <;> rfl)
                  · refine R.callD h (fun x66 hx66 h2 => ?_)
                    clear h; have h := h2; clear h2
                    refine R.call' (w29 _ _ _ _ _ _ _ _ _ _ hx66) (by (first | (simp only [D.hcmp]; done) | rfl | (simp only [D.hcmp]; rfl))) ?_
                    clear hx66; cbv
                    have e := ret_some h; clear h
                    refine hK _ _ ?_
                    cbv
                    try (subst e; simp only [D.hcmp, and_self, and_true, true_and] <;> (repeat' apply And.intro) <;> rfl)
                · refine R.callD h (fun x67 hx67 h2 => ?_)
                  clear h; have h := h2; clear h2
                  refine R.call' (w29 _ _ _ _ _ _ _ _ _ _ hx67) (by (first | (simp only [D.hcmp]; done) | rfl | (simp only [D.hcmp]; rfl))) ?_
                  clear hx67; cbv
                  refine R.brD h (by (first | (simp only [D.hcmp]; done) | rfl | (simp only [D.hcmp]; rfl))) ?_ ?_ <;> clear h <;> intro h <;> cbv
                  · refine R.brD h (by (first | (simp only [D.hcmp]; done) | rfl | (simp only [D.hcmp]; rfl))) ?_ ?_ <;> clear h <;> intro h <;> cbv
                    · have e := ret_some h; clear h
                      refine hK _ _ ?_
                      cbv
                      try (subst e; simp only [D.hcmp, and_self, and_true, true_and] <;> (repeat' apply And.intro) <;> rfl)
                    · refine R.callD h (fun x68 hx68 h2 => ?_)
                      clear h; have h := h2; clear h2
                      refine R.call' (w29 _ _ _ _ _ _ _ _ _ _ hx68) (by (first | (simp only [D.hcmp]; done) | rfl | (simp only [D.hcmp]; rfl))) ?_
                      clear hx68; cbv
                      have e := ret_some h; clear h
                      refine hK _ _ ?_
                      cbv
                      try (subst e; simp only [D.hcmp, and_self, and_true, true_and] <;> (repeat' apply And.intro) <;> rfl)
                  · have e := ret_some h; clear h
                    refine hK _ _ ?_
                    cbv
                    try (subst e; simp only [D.hcmp, and_self, and_true, true_and] <;> (repeat' apply And.intro) <;> rfl)
              · have e := ret_some h; clear h
                refine hK _ _ ?_
                cbv
                try (subst e; simp only [D.hcmp, and_self, and_true, true_and] <;> (repeat' apply And.intro) <;> rfl)
          · have e := ret_some h; clear h
            refine hK _ _ ?_
            cbv
            try (subst e; simp only [D.hcmp, and_self, and_true, true_and] <;> (repeat' apply And.intro) <;> rfl)
      · have e := ret_some h; clear h
        refine hK _ _ ?_
        cbv
        try (subst e; simp only [D.hcmp, and_self, and_true, true_and] <;> (repeat' apply And.intro) <;> rfl)
  · have e := ret_some h; clear h
    refine hK _ _ ?_
    cbv
    try (subst e; simp only [D.hcmp, and_self, and_true, true_and] <;> (repeat' apply And.intro) <;> rfl)
end Go.Proofs.Ytdejapkfijdadaa

end
section
/- The one statement over its function that the law BufferValid comes to. Conditions: none. -/
-- Told by a program of this seat's session. Not trusted: Lean checks it.

namespace Go.Proofs.Ytdejapkfijdadaa
open Go.Ab Go.RowKit
def BufferValid.Claim : Prop := ∀ (x0 : (Int × ((List Int) × (Int × (Int × (Int × (Int × ((List Int) × (Int × Bool))))))))) (x1 : (Int × (Int × (List Int)))) (x2 : Int) (x3 : Int), (fun x : (Int × ((List Int) × (Int × (Int × (Int × (Int × ((List Int) × (Int × Bool)))))))) => (fun n : Int => (Lit.int .i64 n).wf = true) x.1 ∧ (fun x : ((List Int) × (Int × (Int × (Int × (Int × ((List Int) × (Int × Bool))))))) => (fun l : List Int => l.length ≤ maxLen ∧ ∀ x ∈ l, (fun n : Int => (Lit.int .u8 n).wf = true) x) x.1 ∧ (fun x : (Int × (Int × (Int × (Int × ((List Int) × (Int × Bool)))))) => (fun n : Int => (Lit.int .i64 n).wf = true) x.1 ∧ (fun x : (Int × (Int × (Int × ((List Int) × (Int × Bool))))) => (fun n : Int => (Lit.int .i64 n).wf = true) x.1 ∧ (fun x : (Int × (Int × ((List Int) × (Int × Bool)))) => (fun n : Int => (Lit.int .i64 n).wf = true) x.1 ∧ (fun x : (Int × ((List Int) × (Int × Bool))) => (fun n : Int => (Lit.int .i64 n).wf = true) x.1 ∧ (fun x : ((List Int) × (Int × Bool)) => (fun l : List Int => l.length ≤ maxLen ∧ ∀ x ∈ l, (fun n : Int => (Lit.int .u8 n).wf = true) x) x.1 ∧ (fun x : (Int × Bool) => (fun n : Int => (Lit.int .i64 n).wf = true) x.1 ∧ (fun _ : Bool => True) x.2) x.2) x.2) x.2) x.2) x.2) x.2) x.2) x0 → (fun x : (Int × (Int × (List Int))) => (fun n : Int => (Lit.int .i64 n).wf = true) x.1 ∧ (fun x : (Int × (List Int)) => (fun n : Int => (Lit.int .i64 n).wf = true) x.1 ∧ (fun l : List Int => l.length ≤ maxLen ∧ ∀ x ∈ l, (fun n : Int => (Lit.int .u8 n).wf = true) x) x.2) x.2) x1 → (fun n : Int => (Lit.int .i64 n).wf = true) x2 → (fun n : Int => (Lit.int .i64 n).wf = true) x3 → Ab.Fn Try.prog TT 9 [.agg [.i .i64 x0.1, .sl 5 (x0.2.1.map (fun x : Int => .i .u8 x)), .i .i64 x0.2.2.1, .i .i64 x0.2.2.2.1, .i .i64 x0.2.2.2.2.1, .i .i64 x0.2.2.2.2.2.1, .sl 5 (x0.2.2.2.2.2.2.1.map (fun x : Int => .i .u8 x)), .i .i64 x0.2.2.2.2.2.2.2.1, .b x0.2.2.2.2.2.2.2.2], .agg [.i .i64 x1.1, .i .i64 x1.2.1, .sl 5 (x1.2.2.map (fun x : Int => .i .u8 x))], .i .i64 x2, .i .i64 x3] (.b true) []
end Go.Proofs.Ytdejapkfijdadaa
end
section
/- The law BufferValid by the calculus. Conditions: none. -/

namespace Go.Proofs.Ytdejapkfijdadaa
open Go.Ab Go.RowKit
theorem BufferValid.pure : BufferValid.Claim := by
  intro x0 x1 x2 x3 h0 h1 h2 h3
  exact w9 _ _ _ _ _ _ _ _ _ _ _ _ _ _ true (p9 x0.1 _ x0.2.2.1 x0.2.2.2.1 x0.2.2.2.2.1 x0.2.2.2.2.2.1 _ x0.2.2.2.2.2.2.2.1 x0.2.2.2.2.2.2.2.2 (toR x1) x2 x3 (u8_map h0.2.1.2) (u8_map h0.2.2.2.2.2.2.1.2) (u8_map h1.2.2.2))
end Go.Proofs.Ytdejapkfijdadaa
end
section
/- BufferValid: the law's call returns true for every input, and its arguments read afterwards as_ before. Conditions: none. -/
-- Told by a program of this seat's session. Not trusted: Lean checks it.

namespace Go.Proofs.Ytdejapkfijdadaa.bufferValid
open Go.ChangeShapes Go.WideShapes Go.ChangeAt Go.RowKit Go.Ab Go.Proofs.Ytdejapkfijdadaa
open Go.ChangeMaps (open_string shut_string)
theorem own : ownKnob Try.prog.godebug = none := by kernel_rfl
theorem laidOut : laidOutB Try.prog = true := by kernel_rfl
set_option maxRecDepth 100000 in
set_option maxHeartbeats 8000000 in
theorem lifted (os : Os) (started : os.Started) (H : Type) (enc : TypeId × Value → H) :
    ReturnsInHanded {} Try.checked os 9 .any (Rows.bufferValidSpec.pre6 enc Try.prog Try.f9 Rows.bufferValidRow.domain false) (Rows.bufferValidSpec.post enc Try.prog Try.f9 false true false false) := by
  refine returnsInHanded_of_change_sized (C := Try.checked) own started (by kernel_rfl) Try.func9
    (ChangeSpec.witness6 (enc := enc) (C := Try.checked) false ⟨#[], #[.agg #[.int .i64 0, .slice none 0 0, .int .i64 0, .int .i64 0, .int .i64 0, .int .i64 0, .slice none 0 0, .int .i64 0, .bool false], .agg #[.int .i64 0, .int .i64 0, .slice none 0 0], .int .i64 0, .int .i64 0], []⟩ 8 (by kernel_rfl) (by kernel_rfl) (by kernel_rfl) (by kernel_rfl)) ?_
  intro W base args ds gs before hval0 hW hcnd hsz0 _
  have hval : ∀ (j : Nat) t v, Try.f9.params[j]? = some t → args[j]? = some v → Value.okWide Try.prog W .any base t v := hval0
  have hW' := hW
  obtain ⟨p, q, hA0, hV, rfl, hfz, hnd⟩ := hW
  have hA : DataW.TrodAll enc Try.prog W 0 (fun _ => true) true Try.f9.params.toList args.toList ds p := hA0
  rw [Try.params9] at hA hval
  obtain ⟨v0, vs0, d0, ds0, p0, q0, hargs, rfl, rfl, h0, r0⟩ := trodAll_cons hA
  obtain ⟨v1, vs1, d1, ds1, p1, q1, rfl, rfl, rfl, h1, r1⟩ := trodAll_cons r0
  obtain ⟨v2, vs2, d2, ds2, p2, q2, rfl, rfl, rfl, h2, r2⟩ := trodAll_cons r1
  obtain ⟨v3, vs3, d3, ds3, p3, q3, rfl, rfl, rfl, h3, r3⟩ := trodAll_cons r2
  obtain ⟨rfl, rfl, rfl⟩ := trodAll_nil r3
  obtain rfl : args = #[v0, v1, v2, v3] := by cases args; simp_all
  obtain ⟨rfl, rfl⟩ := trodVars_none hV
  have k0 := h0
  have lt0 : ∀ x ∈ p0, x.block < W.heap.size := by obtain ⟨m, hm⟩ := k0; exact DataW.trod_lt m _ _ _ hm
  obtain ⟨cs0, rfl, sz0⟩ := okWide_struct Try.underlying26 (hval 0 26 v0 rfl rfl)
  obtain ⟨x0, ra0, rb0, _, ok0⟩ := h0.elim fun fuel hf => ((OpV.struct tok (te := te26) (by kernel_rfl) rfl (by kernel_rfl) (OpAt.cons rfl (by kernel_rfl) (OpV.int tok (e := te3) (by kernel_rfl) rfl) (OpAt.cons rfl (by kernel_rfl) (OpV.slice tok (fun x : Int => .i .u8 x) (te := te24) (eu := te5) (by kernel_rfl) rfl (by kernel_rfl) (by decide) (by kernel_rfl) (.inr ⟨by kernel_rfl, rfl, fun _ => rfl⟩) (OpV.int tok (e := te5) (by kernel_rfl) rfl)) (OpAt.cons rfl (by kernel_rfl) (OpV.int tok (e := te3) (by kernel_rfl) rfl) (OpAt.cons rfl (by kernel_rfl) (OpV.int tok (e := te3) (by kernel_rfl) rfl) (OpAt.cons rfl (by kernel_rfl) (OpV.int tok (e := te3) (by kernel_rfl) rfl) (OpAt.cons rfl (by kernel_rfl) (OpV.int tok (e := te3) (by kernel_rfl) rfl) (OpAt.cons rfl (by kernel_rfl) (OpV.slice tok (fun x : Int => .i .u8 x) (te := te24) (eu := te5) (by kernel_rfl) rfl (by kernel_rfl) (by decide) (by kernel_rfl) (.inr ⟨by kernel_rfl, rfl, fun _ => rfl⟩) (OpV.int tok (e := te5) (by kernel_rfl) rfl)) (OpAt.cons rfl (by kernel_rfl) (OpV.int tok (e := te3) (by kernel_rfl) rfl) (OpAt.last rfl (by kernel_rfl) (OpV.bool tok (e := te4) (by kernel_rfl) rfl))))))))))) : OpV TT enc Try.prog W 26 _ _ _) _ _ _ hf
  have k1 := h1
  have lt1 : ∀ x ∈ p1, x.block < W.heap.size := by obtain ⟨m, hm⟩ := k1; exact DataW.trod_lt m _ _ _ hm
  obtain ⟨cs1, rfl, sz1⟩ := okWide_struct Try.underlying33 (hval 1 33 v1 rfl rfl)
  obtain ⟨x1, ra1, rb1, _, ok1⟩ := h1.elim fun fuel hf => ((OpV.struct tok (te := te33) (by kernel_rfl) rfl (by kernel_rfl) (OpAt.cons rfl (by kernel_rfl) (OpV.int tok (e := te3) (by kernel_rfl) rfl) (OpAt.cons rfl (by kernel_rfl) (OpV.int tok (e := te2) (by kernel_rfl) rfl) (OpAt.last rfl (by kernel_rfl) (OpV.slice tok (fun x : Int => .i .u8 x) (te := te24) (eu := te5) (by kernel_rfl) rfl (by kernel_rfl) (by decide) (by kernel_rfl) (.inr ⟨by kernel_rfl, rfl, fun _ => rfl⟩) (OpV.int tok (e := te5) (by kernel_rfl) rfl)))))) : OpV TT enc Try.prog W 33 _ _ _) _ _ _ hf
  obtain ⟨x2, rfl, rfl, rfl, u2⟩ := open_int Try.underlying3 (hval 2 3 v2 rfl rfl) h2
  obtain ⟨x3, rfl, rfl, rfl, u3⟩ := open_int Try.underlying3 (hval 3 3 v3 rfl rfl) h3
  clear hA0 hval0 hsz0
  refine (law_calls (w := W) ⟨_, _, Try.func9, by kernel_rfl, w9_h⟩ (BufferValid.pure x0 x1 x2 x3 ok0 ok1 u2 u3) (gok W) (args_agg ra0 rb0 (args_agg ra1 rb1 (args_i x2 (args_i x3 args_nil))))).mono fun e W' ⟨he, bel⟩ => ?_
  subst he
  exact ⟨_, rfl, _, _, _, [], _, [], hW', trodAll_mk1 (shut_bool Try.underlying4 _), (trodAll_cons_mk (Below.trod laidOut (by kernel_rfl) (of_decide_eq_true (by kernel_rfl)) k0 bel lt0) (trodAll_cons_mk (Below.trod laidOut (by kernel_rfl) (of_decide_eq_true (by kernel_rfl)) k1 bel lt1) (trodAll_cons_mk (shut_int Try.underlying3 u2) (trodAll_cons_mk (shut_int Try.underlying3 u3) trodAll_mk0)))), rfl, bel.frame _, fun h => by cases h⟩
theorem over : Rows.bufferValidRow.holds Try.pinned (OpenSpec.ofChange Rows.bufferValidSpec) :=
  OpenClaim.holds_of_wide 9 Try.f9 rfl rfl rfl rfl rfl rfl rfl ⟨rfl, rfl, rfl, rfl, rfl⟩ rfl rfl rfl rfl rfl (by kernel_rfl) Try.func9 (by kernel_rfl)
    (of_decide_eq_true (by kernel_rfl)) (by unfold Func.isWrapper; first | (rw [if_pos (by decide +kernel)]; kernel_rfl) | (rw [if_neg (by decide +kernel)]; exact ⟨rfl, rfl⟩))
    (fun os started H enc _ => lifted os started H enc)
theorem proved : Rows.BufferValidSaid := over
end Go.Proofs.Ytdejapkfijdadaa.bufferValid
namespace Go.Proofs.Ytdejapkfijdadaa
theorem bufferValid_holds : Rows.BufferValidSaid := bufferValid.proved
end Go.Proofs.Ytdejapkfijdadaa
end
