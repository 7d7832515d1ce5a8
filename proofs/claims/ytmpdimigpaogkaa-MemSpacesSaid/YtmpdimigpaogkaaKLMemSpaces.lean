/- The law MemSpaces: its function's walk, the pure law, the row. Conditions: none. -/
import Derived.Test.YtmpdimigpaogkaaRows
import Derived.WalkKit
import Derived.ProofKit
import Derived.OpenShut
import Derived.ShutString
import Derived.ChangeOld
import Derived.Below
import Derived.SizedLaws
import Derived.Carry
import Derived.Test.YtmpdimigpaogkaaK5
set_option linter.unusedVariables false
set_option linter.unusedSimpArgs false
section
namespace Go.Proofs.Ytmpdimigpaogkaa
open Go.Ab Go.RowKit Go.Proofs.Ytmpdimigpaogkaa.G Go.Proofs.YtmpdimigpaogkaaW.PrintWords Go.Proofs.YtmpdimigpaogkaaW.PrintLast
set_option maxRecDepth 100000
set_option maxHeartbeats 4000000
noncomputable def d5 (a0_0 : List V) (a0_1 : List V) (a1_0 : List V) (a1_1 : List V) (a2_0 : Int) (a2_1 : Int) : Option (Bool) :=
  (d14).bind fun x1 =>
  (d23 a2_0).bind fun x2 =>
  (d21 a0_0 a0_1 a2_0 a2_1).bind fun x3 =>
  (d22 a0_0 a0_1 a2_0).bind fun x4 =>
  (d24 a2_0).bind fun x5 =>
  (d25 a0_0 a0_1 a2_0 a2_1).bind fun x6 =>
  (d26 a0_0 a0_1 a2_0).bind fun x7 =>
  if x1 = true then
    (d18 a0_0 a0_1).bind fun x16 =>
    (d27 a0_0 a0_1).bind fun x17 =>
    if (cmpLit .eql x16 x17) = true then
      if (cmpLit .eql x2.2.2 x5.2.2.2.2) = true then
        if (cmpLit .eql x3.2.2 x6.2.2.2.2) = true then
          if (cmpLit .eql x4.2.2 x7.2.2.2.2) = true then
            (d28 x2.1 x2.2.1 x5.1 x5.2.1).bind fun x18 =>
            if x18 = true then
              (d28 x3.1 x3.2.1 x6.1 x6.2.1).bind fun x19 =>
              if x19 = true then
                (d28 x4.1 x4.2.1 x7.1 x7.2.1).bind fun x20 =>
                if x20 = true then
                  (d29 a0_0 a0_1 a1_0 a1_1).bind fun x21 =>
                  (d28 a0_0 a0_1 a1_0 a1_1).bind fun x22 =>
                  if (beqB x21 x22) = true then
                    (d29 a0_0 a0_1 a0_0 a0_1).bind fun x23 =>
                    some x23
                  else
                    some false
                else
                  some false
              else
                some false
            else
              some false
          else
            some false
        else
          some false
      else
        some false
    else
      some false
  else
    some false
noncomputable def w5_c : Code := (Try.f5.body).getD .skip
theorem w5_h : Try.f5.body = some w5_c := by kernel_rfl
theorem w5 (a0_0 : List V) (a0_1 : List V) (a1_0 : List V) (a1_1 : List V) (a2_0 : Int) (a2_1 : Int) (r : Bool) (h : d5 a0_0 a0_1 a1_0 a1_1 a2_0 a2_1 = some r) : Ab.Fn Try.prog TT 5 [.agg [.sl 3 a0_0, .sl 5 a0_1], .agg [.sl 3 a1_0, .sl 5 a1_1], .agg [.i .i64 a2_0, .i .i64 a2_1]] (.b r) [] := by
  refine fn_pure tok (fun r => match r with | 8 => [[],[0],[0,1],[0,1,2],[0,1],[0,1,2,3,4],[0,1,2,3,4,5],[0,1,2,3,4,5,6],[0,1,2,3,4,5,6,7],[0,1,2,3,4,5,6,7,8],[0,1,2,3,4,5,6,7,8],[0,1,2,3,4,5,6,7,8,10],[0,1,2,3,4,5,6,7,8,9,10,11],[0,1,2,3,4,5,6,7,8,9,10,11,12],[0,1,2,3,4,5,6,7,8,9,10,11,12,13],[0,1,2,3,4,5,6,7,8,9,10,11,12,13,14],[0,1,2,3,4,5,6,7,8,9,10,11,12,13,14],[0,1,2,3,4,5,6,7,8,9,10,11,12,13,14,16],[0,1,2,3,4,5,6,7,8,9,10,11,12,13,14,15,16,17],[0,1,2,3,4,5,6,7,8,9,10,11,12,13,14,15,16,17,18],[0,1,2,3,4,5,6,7,8,9,10,11,12,13,14,15,16,17,18,19],[0,1,2,3,4,5,6,7,8,9,10,11,12,13,14,15,16,17,18,19,20],[0,1,2,3,4,5,6,7,8,9,10,11,12,13,14,15,16,17,18,19,20],[0,1,2,3,4,5,6,7,8,9,10,11,12,13,14,15,16,17,18,19,20,22],[0,1,2,3,4,5,6,7,8,9,10,11,12,13,14,15,16,17,18,19,20,21,22,23],[0,1,2,3,4,5,6,7,8,9,10,11,12,13,14,15,16,17,18,19,20,21,22,23,24],[0,1,2,3,4,5,6,7,8,9,10,11,12,13,14,15,16,17,18,19,20,21,22,23,24,25],[0,1,2,3,4,5,6,7,8,9,10,11,12,13,14,15,16,17,18,19,20,21,22,23,24,25,26],[0,1,2,3,4,5,6,7,8,9,10,11,12,13,14,15,16,17,18,19,20,21,22,23,24,25,26],[0,1,2,3,4,5,6,7,8,9,10,11,12,13,14,15,16,17,18,19,20,21,22,23,24,25,26,28],[0,1,2,3,4,5,6,7,8,9,10,11,12,13,14,15,16,17,18,19,20,21,22,23,24,25,26,27,28,29],[0,1,2,3,4,5,6,7,8,9,10,11,12,13,14,15,16,17,18,19,20,21,22,23,24,25,26,27,28,29,30],[0,1,2,3,4,5,6,7,8,9,10,11,12,13,14,15,16,17,18,19,20,21,22,23,24,25,26,27,28,29,30,31],[0,1,2,3,4,5,6,7,8,9,10,11,12,13,14,15,16,17,18,19,20,21,22,23,24,25,26,27,28,29,30,31,32],[0,1,2,3,4,5,6,7,8,9,10,11,12,13,14,15,16,17,18,19,20,21,22,23,24,25,26,27,28,29,30,31,32],[0,1,2,3,4,5,6,7,8,9,10,11,12,13,14,15,16,17,18,19,20,21,22,23,24,25,26,27,28,29,30,31,32,34],[0,1,2,3,4,5,6,7,8,9,10,11,12,13,14,15,16,17,18,19,20,21,22,23,24,25,26,27,28,29,30,31,32,33,34,35],[0,1,2,3,4,5,6,7,8,9,10,11,12,13,14,15,16,17,18,19,20,21,22,23,24,25,26,27,28,29,30,31,32,33,34,35,36],[0,1,2,3,4,5,6,7,8,9,10,11,12,13,14,15,16,17,18,19,20,21,22,23,24,25,26,27,28,29,30,31,32,33,34,35,36,37],[0,1,2,3,4,5,6,7,8,9,10,11,12,13,14,15,16,17,18,19,20,21,22,23,24,25,26,27,28,29,30,31,32,33,34,35,36,37,38],[0,1,2,3,4,5,6,7,8,9,10,11,12,13,14,15,16,17,18,19,20,21,22,23,24,25,26,27,28,29,30,31,32,33,34,35,36,37,38],[0,1,2,3,4,5,6,7,8,9,10,11,12,13,14,15,16,17,18,19,20,21,22,23,24,25,26,27,28,29,30,31,32,33,34,35,36,37,38,40],[0,1,2,3,4,5,6,7,8,9,10,11,12,13,14,15,16,17,18,19,20,21,22,23,24,25,26,27,28,29,30,31,32,33,34,35,36,37,38,39,40,41],[0,1,2,3,4,5,6,7,8,9,10,11,12,13,14,15,16,17,18,19,20,21,22,23,24,25,26,27,28,29,30,31,32,33,34,35,36,37,38,39,40,41,42],[0,1,2,3,4,5,6,7,8,9,10,11,12,13,14,15,16,17,18,19,20,21,22,23,24,25,26,27,28,29,30,31,32,33,34,35,36,37,38,39,40,41,42,43],[0,1,2,3,4,5,6,7,8,9,10,11,12,13,14,15,16,17,18,19,20,21,22,23,24,25,26,27,28,29,30,31,32,33,34,35,36,37,38,39,40,41,42,43,44],[0,1,2,3,4,5,6,7,8,9,10,11,12,13,14,15,16,17,18,19,20,21,22,23,24,25,26,27,28,29,30,31,32,33,34,35,36,37,38,39,40,41,42,43,44],[0,1,2,3,4,5,6,7,8,9,10,11,12,13,14,15,16,17,18,19,20,21,22,23,24,25,26,27,28,29,30,31,32,33,34,35,36,37,38,39,40,41,42,43,44,45,46],[0,1,2,3,4,5,6,7,8,9,10,11,12,13,14,15,16,17,18,19,20,21,22,23,24,25,26,27,28,29,30,31,32,33,34,35,36,37,38,39,40,41,42,43,44],[0,1,2,3,4,5,6,7,8,9,10,11,12,13,14,15,16,17,18,19,20,21,22,23,24,25,26,27,28,29,30,31,32,33,34,35,36,37,38,39,40,41,42,43,44],[0,1,2,3,4,5,6,7,8,9,10,11,12,13,14,15,16,17,18,19,20,21,22,23,24,25,26,27,28,29,30,31,32,33,34,35,36,37,38,39,40,41,42,43,44,45,46,47,48,49],[0,1,2,3,4,5,6,7,8,9,10,11,12,13,14,15,16,17,18,19,20,21,22,23,24,25,26,27,28,29,30,31,32,33,34,35,36,37,38,39,40,41,42,43,44,45,46,47,48,49,50],[0,1,2,3,4,5,6,7,8,9,10,11,12,13,14,15,16,17,18,19,20,21,22,23,24,25,26,27,28,29,30,31,32,33,34,35,36,37,38,39,40,41,42,43,44,45,46,47,48,49,50,51],[0,1,2,3,4,5,6,7,8,9,10,11,12,13,14,15,16,17,18,19,20,21,22,23,24,25,26,27,28,29,30,31,32,33,34,35,36,37,38,39,40,41,42,43,44,45,46,47,48,49,50,51,52],[0,1,2,3,4,5,6,7,8,9,10,11,12,13,14,15,16,17,18,19,20,21,22,23,24,25,26,27,28,29,30,31,32,33,34,35,36,37,38,39,40,41,42,43,44,45,46,47,48,49,50,51,52,53],[0,1,2,3,4,5,6,7,8,9,10,11,12,13,14,15,16,17,18,19,20,21,22,23,24,25,26,27,28,29,30,31,32,33,34,35,36,37,38,39,40,41,42,43,44,45,46,47,48,49,50,51,52,53],[0,1,2,3,4,5,6,7,8,9,10,11,12,13,14,15,16,17,18,19,20,21,22,23,24,25,26,27,28,29,30,31,32,33,34,35,36,37,38,39,40,41,42,43,44,45,46,47,48,49,50,51,52,53,54,55],[0,1,2,3,4,5,6,7,8,9,10,11,12,13,14,15,16,17,18,19,20,21,22,23,24,25,26,27,28,29,30,31,32,33,34,35,36,37,38,39,40,41,42,43,44,45,46,47,48,49,50,51,52,53,54,55,56],[0,1,2,3,4,5,6,7,8,9,10,11,12,13,14,15,16,17,18,19,20,21,22,23,24,25,26,27,28,29,30,31,32,33,34,35,36,37,38,39,40,41,42,43,44,45,46,47,48,49,50,51,52,53,54,55,56,57]] | _ => []) Try.func5 (by kernel_rfl) w5_h (by kernel_rfl) ?_
  intro ar un cv mn mx pl mi cmp nt beq an scmp cat slen sbyte ssub ofB toB len gi gb gs gl sub put app ovl rep ne0 ge0 inb bnd room sroom need br call loop cut nl E R K hK
  have D := E.D
  clear E
  unfold d5 at h
  cbv
  refine R.callD h (fun x1 hx1 h2 => ?_)
  clear h; have h := h2; clear h2
  refine R.call' (w14 _ hx1) (by (first | rfl | simp only [D.hbeq, D.hcmp])) ?_
  clear hx1; cbv
  refine R.callD h (fun x2 hx2 h2 => ?_)
  clear h; have h := h2; clear h2
  refine R.call' (w23s _ _ hx2) (by (first | rfl | simp only [D.hbeq, D.hcmp])) ?_
  clear hx2; cbv
  refine R.callD h (fun x3 hx3 h2 => ?_)
  clear h; have h := h2; clear h2
  refine R.call' (w21s _ _ _ _ _ hx3) (by (first | rfl | simp only [D.hbeq, D.hcmp])) ?_
  clear hx3; cbv
  refine R.callD h (fun x4 hx4 h2 => ?_)
  clear h; have h := h2; clear h2
  refine R.call' (w22s _ _ _ _ hx4) (by (first | rfl | simp only [D.hbeq, D.hcmp])) ?_
  clear hx4; cbv
  refine R.callD h (fun x5 hx5 h2 => ?_)
  clear h; have h := h2; clear h2
  refine R.call' (w24s _ _ hx5) (by (first | rfl | simp only [D.hbeq, D.hcmp])) ?_
  clear hx5; cbv
  refine R.callD h (fun x6 hx6 h2 => ?_)
  clear h; have h := h2; clear h2
  refine R.call' (w25s _ _ _ _ _ hx6) (by (first | rfl | simp only [D.hbeq, D.hcmp])) ?_
  clear hx6; cbv
  refine R.callD h (fun x7 hx7 h2 => ?_)
  clear h; have h := h2; clear h2
  refine R.call' (w26s _ _ _ _ hx7) (by (first | rfl | simp only [D.hbeq, D.hcmp])) ?_
  clear hx7; cbv
  refine R.cut' (by kernel_rfl) (by kernel_rfl) ?_
  cbv
  refine R.brD h (by (first | rfl | simp only [D.hbeq, D.hcmp])) ?_ ?_ <;> clear h <;> intro h <;> cbv
  · refine R.callD h (fun x16 hx16 h2 => ?_)
    clear h; have h := h2; clear h2
    refine R.call' (w18 _ _ _ hx16) (by (first | rfl | simp only [D.hbeq, D.hcmp])) ?_
    clear hx16; cbv
    refine R.callD h (fun x17 hx17 h2 => ?_)
    clear h; have h := h2; clear h2
    refine R.call' (w27 _ _ _ hx17) (by (first | rfl | simp only [D.hbeq, D.hcmp])) ?_
    clear hx17; cbv
    refine R.brD h (by (first | rfl | simp only [D.hbeq, D.hcmp])) ?_ ?_ <;> clear h <;> intro h <;> cbv
    · refine R.brD h (by (first | rfl | simp only [D.hbeq, D.hcmp])) ?_ ?_ <;> clear h <;> intro h <;> cbv
      · refine R.brD h (by (first | rfl | simp only [D.hbeq, D.hcmp])) ?_ ?_ <;> clear h <;> intro h <;> cbv
        · refine R.brD h (by (first | rfl | simp only [D.hbeq, D.hcmp])) ?_ ?_ <;> clear h <;> intro h <;> cbv
          · refine R.callD h (fun x18 hx18 h2 => ?_)
            clear h; have h := h2; clear h2
            refine R.call' (w28 _ _ _ _ _ hx18) (by (first | rfl | simp only [D.hbeq, D.hcmp])) ?_
            clear hx18; cbv
            refine R.brD h (by (first | rfl | simp only [D.hbeq, D.hcmp])) ?_ ?_ <;> clear h <;> intro h <;> cbv
            · refine R.callD h (fun x19 hx19 h2 => ?_)
              clear h; have h := h2; clear h2
              refine R.call' (w28 _ _ _ _ _ hx19) (by (first | rfl | simp only [D.hbeq, D.hcmp])) ?_
              clear hx19; cbv
              refine R.brD h (by (first | rfl | simp only [D.hbeq, D.hcmp])) ?_ ?_ <;> clear h <;> intro h <;> cbv
              · refine R.callD h (fun x20 hx20 h2 => ?_)
                clear h; have h := h2; clear h2
                refine R.call' (w28 _ _ _ _ _ hx20) (by (first | rfl | simp only [D.hbeq, D.hcmp])) ?_
                clear hx20; cbv
                refine R.brD h (by (first | rfl | simp only [D.hbeq, D.hcmp])) ?_ ?_ <;> clear h <;> intro h <;> cbv
                · refine R.callD h (fun x21 hx21 h2 => ?_)
                  clear h; have h := h2; clear h2
                  refine R.call' (w29 _ _ _ _ _ hx21) (by (first | rfl | simp only [D.hbeq, D.hcmp])) ?_
                  clear hx21; cbv
                  refine R.callD h (fun x22 hx22 h2 => ?_)
                  clear h; have h := h2; clear h2
                  refine R.call' (w28 _ _ _ _ _ hx22) (by (first | rfl | simp only [D.hbeq, D.hcmp])) ?_
                  clear hx22; cbv
                  refine R.brD h (by (first | rfl | simp only [D.hbeq, D.hcmp])) ?_ ?_ <;> clear h <;> intro h <;> cbv
                  · refine R.callD h (fun x23 hx23 h2 => ?_)
                    clear h; have h := h2; clear h2
                    refine R.call' (w29 _ _ _ _ _ hx23) (by (first | rfl | simp only [D.hbeq, D.hcmp])) ?_
                    clear hx23; cbv
                    have e := ret_some h; clear h
                    refine hK _ _ ?_
                    cbv
                    try (subst e; simp only [D.hbeq, D.hcmp, and_self, and_true, true_and] <;> (repeat' apply And.intro) <;> rfl)
                  · have e := ret_some h; clear h
                    refine hK _ _ ?_
                    cbv
                    try (subst e; simp only [D.hbeq, D.hcmp, and_self, and_true, true_and] <;> (repeat' apply And.intro) <;> rfl)
                · have e := ret_some h; clear h
                  refine hK _ _ ?_
                  cbv
                  try (subst e; simp only [D.hbeq, D.hcmp, and_self, and_true, true_and] <;> (repeat' apply And.intro) <;> rfl)
              · have e := ret_some h; clear h
                refine hK _ _ ?_
                cbv
                try (subst e; simp only [D.hbeq, D.hcmp, and_self, and_true, true_and] <;> (repeat' apply And.intro) <;> rfl)
            · have e := ret_some h; clear h
              refine hK _ _ ?_
              cbv
              try (subst e; simp only [D.hbeq, D.hcmp, and_self, and_true, true_and] <;> (repeat' apply And.intro) <;> rfl)
          · have e := ret_some h; clear h
            refine hK _ _ ?_
            cbv
            try (subst e; simp only [D.hbeq, D.hcmp, and_self, and_true, true_and] <;> (repeat' apply And.intro) <;> rfl)
        · have e := ret_some h; clear h
          refine hK _ _ ?_
          cbv
          try (subst e; simp only [D.hbeq, D.hcmp, and_self, and_true, true_and] <;> (repeat' apply And.intro) <;> rfl)
      · have e := ret_some h; clear h
        refine hK _ _ ?_
        cbv
        try (subst e; simp only [D.hbeq, D.hcmp, and_self, and_true, true_and] <;> (repeat' apply And.intro) <;> rfl)
    · have e := ret_some h; clear h
      refine hK _ _ ?_
      cbv
      try (subst e; simp only [D.hbeq, D.hcmp, and_self, and_true, true_and] <;> (repeat' apply And.intro) <;> rfl)
  · have e := ret_some h; clear h
    refine hK _ _ ?_
    cbv
    try (subst e; simp only [D.hbeq, D.hcmp, and_self, and_true, true_and] <;> (repeat' apply And.intro) <;> rfl)

end Go.Proofs.Ytmpdimigpaogkaa

end
section
/- The one statement over its function that the law MemSpaces comes to. Conditions: none. -/
-- Told by a program of this seat's session. Not trusted: Lean checks it.

namespace Go.Proofs.Ytmpdimigpaogkaa
open Go.Ab Go.RowKit
def MemSpaces.Claim : Prop := ∀ (x0 : ((List Int) × (List Int))) (x1 : ((List Int) × (List Int))) (x2 : (Int × Int)), (fun x : ((List Int) × (List Int)) => (fun l : List Int => l.length ≤ maxLen ∧ ∀ x ∈ l, (fun n : Int => (Lit.int .i64 n).wf = true) x) x.1 ∧ (fun l : List Int => l.length ≤ maxLen ∧ ∀ x ∈ l, (fun n : Int => (Lit.int .u8 n).wf = true) x) x.2) x0 → (fun x : ((List Int) × (List Int)) => (fun l : List Int => l.length ≤ maxLen ∧ ∀ x ∈ l, (fun n : Int => (Lit.int .i64 n).wf = true) x) x.1 ∧ (fun l : List Int => l.length ≤ maxLen ∧ ∀ x ∈ l, (fun n : Int => (Lit.int .u8 n).wf = true) x) x.2) x1 → (fun x : Int × Int => (fun n : Int => (Lit.int .i64 n).wf = true) x.1 ∧ (fun n : Int => (Lit.int .i64 n).wf = true) x.2) x2 → Ab.Fn Try.prog TT 5 [.agg [.sl 3 (x0.1.map (fun x : Int => .i .i64 x)), .sl 5 (x0.2.map (fun x : Int => .i .u8 x))], .agg [.sl 3 (x1.1.map (fun x : Int => .i .i64 x)), .sl 5 (x1.2.map (fun x : Int => .i .u8 x))], .agg [.i .i64 x2.1, .i .i64 x2.2]] (.b true) []
end Go.Proofs.Ytmpdimigpaogkaa
end
section
/- The law MemSpaces: Check, New, Protect, Seal and Same answer as_ the reference. Conditions: none. -/

namespace Go.Proofs.Ytmpdimigpaogkaa
open Go.Ab Go.RowKit Go.Proofs.Ytmpdimigpaogkaa.G Go.Proofs.YtmpdimigpaogkaaW.PrintWords Go.Proofs.YtmpdimigpaogkaaW.PrintLast
theorem set_bytes_len (P : List Int) (i : Nat) (v : Int) : ln (P.set i v) = ln P := by simp [ln]
theorem rep_bytes (n : Nat) : Bytes (List.replicate n 0) := fun x hx => by rw [List.eq_of_mem_replicate hx]; omega
theorem nil_bytes : Bytes [] := fun x hx => by cases hx
theorem same_nil : d28 [] [] [] [] = some true := same_true (P := []) (B := []) nil_bytes (by simp [ln])
theorem pr_two {P B : List Int} (hB : Bytes B) (hP : ln P ≤ 9223372036854775807) (n m : Int) : ∃ P' B' e, Bytes B' ∧ ln P' ≤ 9223372036854775807 ∧ d21 (ints P) (u8s B) n m = some (ints P', u8s B', e) ∧ d25 (ints P) (u8s B) n m = some (ints P', u8s B', 0, 0, e) := by
  rw [s21, s25]
  by_cases h : checkV P B = 0
  · rw [if_neg (not_not_intro h), if_neg (not_not_intro h)]
    split
    · exact ⟨_, _, _, hB, by rw [set_bytes_len]; exact hP, rfl, rfl⟩
    · exact ⟨[], [], _, nil_bytes, by simp [ln], rfl, rfl⟩
  · rw [if_pos h, if_pos h, check_30 h]
    exact ⟨[], [], _, nil_bytes, by simp [ln], rfl, rfl⟩
theorem seal_two {P B : List Int} (hB : Bytes B) (hP : ln P ≤ 9223372036854775807) (n : Int) : ∃ P' B' e, Bytes B' ∧ ln P' ≤ 9223372036854775807 ∧ d22 (ints P) (u8s B) n = some (ints P', u8s B', e) ∧ d26 (ints P) (u8s B) n = some (ints P', u8s B', 0, 0, e) := by
  rw [s22, s26]
  by_cases h : checkV P B = 0
  · rw [if_neg (not_not_intro h), if_neg (not_not_intro h)]
    split
    · exact ⟨_, _, _, hB, by rw [set_bytes_len]; exact hP, rfl, rfl⟩
    · exact ⟨[], [], _, nil_bytes, by simp [ln], rfl, rfl⟩
  · rw [if_pos h, if_pos h, check_30 h]
    exact ⟨[], [], _, nil_bytes, by simp [ln], rfl, rfl⟩
theorem new_two (n : Int) : ∃ P' B' e, Bytes B' ∧ ln P' ≤ 9223372036854775807 ∧ d23 n = some (ints P', u8s B', e) ∧ d24 n = some (ints P', u8s B', 0, 0, e) := by
  rw [s23, s24]
  split
  · exact ⟨[], [], _, nil_bytes, by simp [ln], rfl, rfl⟩
  · exact ⟨_, _, _, rep_bytes _, by simp [ln]; omega, rfl, rfl⟩
theorem d5_true (P B Q C : List Int) (hB : Bytes B) (hC : Bytes C) (hP : ln P ≤ 9223372036854775807) (hBl : ln B ≤ 9223372036854775807) (n m : Int) : d5 (ints P) (u8s B) (ints Q) (u8s C) n m = some true := by
  obtain ⟨P1, B1, e1, b1, l1, x1, y1⟩ := new_two n
  obtain ⟨P2, B2, e2, b2, l2, x2, y2⟩ := pr_two hB hP n m
  obtain ⟨P3, B3, e3, b3, l3, x3, y3⟩ := seal_two hB hP n
  unfold d5
  rw [s14, Option.bind_some, x1, Option.bind_some, x2, Option.bind_some, x3, Option.bind_some, y1, Option.bind_some, y2, Option.bind_some, y3, Option.bind_some, if_pos rfl, s18, Option.bind_some, s27, Option.bind_some, if_pos (by simp [c_eql])]
  simp only [c_eql, decide_true, if_true, same_true b1 l1, same_true b2 l2, same_true b3 l3, Option.bind_some]
  rw [s29 P B Q C hP hBl, Option.bind_some, s28 P B Q C hP hB hC, Option.bind_some, s29 P B P B hP hBl]
  simp [beqB]
theorem MemSpaces.pure : MemSpaces.Claim := by
  intro x0 x1 x2 h0 h1 h2
  exact w5 (ints x0.1) (u8s x0.2) (ints x1.1) (u8s x1.2) x2.1 x2.2 true (d5_true x0.1 x0.2 x1.1 x1.2 (bytesWf h0.2.2) (bytesWf h1.2.2) (lnmax h0.1.1) (lnmax h0.2.1) x2.1 x2.2)
end Go.Proofs.Ytmpdimigpaogkaa
end
section
/- MemSpaces: the law's call returns true for every input, and its arguments read afterwards as_ before. Conditions: none. -/
-- Told by a program of this seat's session. Not trusted: Lean checks it.

namespace Go.Proofs.Ytmpdimigpaogkaa.memSpaces
open Go.ChangeShapes Go.WideShapes Go.ChangeAt Go.RowKit Go.Ab Go.Proofs.Ytmpdimigpaogkaa
open Go.ChangeMaps (open_string shut_string)
theorem own : ownKnob Try.prog.godebug = none := by kernel_rfl
theorem laidOut : laidOutB Try.prog = true := by kernel_rfl
set_option maxRecDepth 100000 in
set_option maxHeartbeats 8000000 in
theorem lifted (os : Os) (started : os.Started) (H : Type) (enc : TypeId × Value → H) :
    ReturnsInHanded {} Try.checked os 5 .any (Rows.memSpacesSpec.pre6 enc Try.prog Try.f5 Rows.memSpacesRow.domain false) (Rows.memSpacesSpec.post enc Try.prog Try.f5 false true false false) := by
  refine returnsInHanded_of_change_sized (C := Try.checked) own started (by kernel_rfl) Try.func5
    (ChangeSpec.witness6 (enc := enc) (C := Try.checked) false ⟨#[], #[.agg #[.slice none 0 0, .slice none 0 0], .agg #[.slice none 0 0, .slice none 0 0], .agg #[.int .i64 0, .int .i64 0]], []⟩ 8 (by kernel_rfl) (by kernel_rfl) (by kernel_rfl) (by kernel_rfl)) ?_
  intro W base args ds gs before hval0 hW hcnd hsz0 _
  have hval : ∀ (j : Nat) t v, Try.f5.params[j]? = some t → args[j]? = some v → Value.okWide Try.prog W .any base t v := hval0
  have hW' := hW
  obtain ⟨p, q, hA0, hV, rfl, hfz, hnd⟩ := hW
  have hA : DataW.TrodAll enc Try.prog W 0 (fun _ => true) true Try.f5.params.toList args.toList ds p := hA0
  rw [Try.params5] at hA hval
  obtain ⟨v0, vs0, d0, ds0, p0, q0, hargs, rfl, rfl, h0, r0⟩ := trodAll_cons hA
  obtain ⟨v1, vs1, d1, ds1, p1, q1, rfl, rfl, rfl, h1, r1⟩ := trodAll_cons r0
  obtain ⟨v2, vs2, d2, ds2, p2, q2, rfl, rfl, rfl, h2, r2⟩ := trodAll_cons r1
  obtain ⟨rfl, rfl, rfl⟩ := trodAll_nil r2
  obtain rfl : args = #[v0, v1, v2] := by cases args; simp_all
  obtain ⟨rfl, rfl⟩ := trodVars_none hV
  have k0 := h0
  have lt0 : ∀ x ∈ p0, x.block < W.heap.size := by obtain ⟨m, hm⟩ := k0; exact DataW.trod_lt m _ _ _ hm
  obtain ⟨cs0, rfl, sz0⟩ := okWide_struct Try.underlying25 (hval 0 25 v0 rfl rfl)
  obtain ⟨x0, ra0, rb0, _, ok0⟩ := h0.elim fun fuel hf => ((OpV.struct tok (te := te25) (by kernel_rfl) rfl (by kernel_rfl) (OpAt.cons rfl (by kernel_rfl) (OpV.slice tok (fun x : Int => .i .i64 x) (te := te22) (eu := te3) (by kernel_rfl) rfl (by kernel_rfl) (by decide) (by kernel_rfl) (.inr ⟨by kernel_rfl, rfl, fun _ => rfl⟩) (OpV.int tok (e := te3) (by kernel_rfl) rfl)) (OpAt.last rfl (by kernel_rfl) (OpV.slice tok (fun x : Int => .i .u8 x) (te := te23) (eu := te5) (by kernel_rfl) rfl (by kernel_rfl) (by decide) (by kernel_rfl) (.inr ⟨by kernel_rfl, rfl, fun _ => rfl⟩) (OpV.int tok (e := te5) (by kernel_rfl) rfl))))) : OpV TT enc Try.prog W 25 _ _ _) _ _ _ hf
  have k1 := h1
  have lt1 : ∀ x ∈ p1, x.block < W.heap.size := by obtain ⟨m, hm⟩ := k1; exact DataW.trod_lt m _ _ _ hm
  obtain ⟨cs1, rfl, sz1⟩ := okWide_struct Try.underlying25 (hval 1 25 v1 rfl rfl)
  obtain ⟨x1, ra1, rb1, _, ok1⟩ := h1.elim fun fuel hf => ((OpV.struct tok (te := te25) (by kernel_rfl) rfl (by kernel_rfl) (OpAt.cons rfl (by kernel_rfl) (OpV.slice tok (fun x : Int => .i .i64 x) (te := te22) (eu := te3) (by kernel_rfl) rfl (by kernel_rfl) (by decide) (by kernel_rfl) (.inr ⟨by kernel_rfl, rfl, fun _ => rfl⟩) (OpV.int tok (e := te3) (by kernel_rfl) rfl)) (OpAt.last rfl (by kernel_rfl) (OpV.slice tok (fun x : Int => .i .u8 x) (te := te23) (eu := te5) (by kernel_rfl) rfl (by kernel_rfl) (by decide) (by kernel_rfl) (.inr ⟨by kernel_rfl, rfl, fun _ => rfl⟩) (OpV.int tok (e := te5) (by kernel_rfl) rfl))))) : OpV TT enc Try.prog W 25 _ _ _) _ _ _ hf
  have k2 := h2
  have lt2 : ∀ x ∈ p2, x.block < W.heap.size := by obtain ⟨m, hm⟩ := k2; exact DataW.trod_lt m _ _ _ hm
  obtain ⟨cs2, rfl, sz2⟩ := okWide_arr Try.underlying51 (hval 2 51 v2 rfl rfl)
  obtain ⟨x2, ra2, rb2, _, ok2⟩ := h2.elim fun fuel hf => ((OpV.arr2 tok (te := te51) (by kernel_rfl) rfl (by kernel_rfl) (by kernel_rfl) (OpV.int tok (e := te3) (by kernel_rfl) rfl)) : OpV TT enc Try.prog W 51 _ _ _) _ _ _ hf
  clear hA0 hval0 hsz0
  refine (law_calls (w := W) (MemSpaces.pure x0 x1 x2 ok0 ok1 ok2) (args_agg ra0 rb0 (args_agg ra1 rb1 (args_agg ra2 rb2 args_nil)))).mono fun e W' ⟨he, bel⟩ => ?_
  subst he
  exact ⟨_, rfl, _, _, _, [], _, [], hW', trodAll_mk1 (shut_bool Try.underlying4 _), (trodAll_cons_mk (Below.trod laidOut (by kernel_rfl) (of_decide_eq_true (by kernel_rfl)) k0 bel lt0) (trodAll_cons_mk (Below.trod laidOut (by kernel_rfl) (of_decide_eq_true (by kernel_rfl)) k1 bel lt1) (trodAll_cons_mk (Below.trod laidOut (by kernel_rfl) (of_decide_eq_true (by kernel_rfl)) k2 bel lt2) trodAll_mk0))), rfl, bel.frame _, fun h => by cases h⟩
theorem over : Rows.memSpacesRow.holds Try.pinned (OpenSpec.ofChange Rows.memSpacesSpec) :=
  OpenClaim.holds_of_wide 5 Try.f5 rfl rfl rfl rfl rfl rfl rfl ⟨rfl, rfl, rfl, rfl, rfl⟩ rfl rfl rfl rfl rfl (by kernel_rfl) Try.func5 (by kernel_rfl)
    (of_decide_eq_true (by kernel_rfl)) (by unfold Func.isWrapper; first | (rw [if_pos (by decide +kernel)]; kernel_rfl) | (rw [if_neg (by decide +kernel)]; exact ⟨rfl, rfl⟩))
    (fun os started H enc _ => lifted os started H enc)
theorem proved : Rows.MemSpacesSaid := over
end Go.Proofs.Ytmpdimigpaogkaa.memSpaces
namespace Go.Proofs.Ytmpdimigpaogkaa
theorem memSpaces_holds : Rows.MemSpacesSaid := memSpaces.proved
end Go.Proofs.Ytmpdimigpaogkaa
end
