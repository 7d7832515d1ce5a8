/- The law BitsCommon: its function's walk, the pure law, the row. Conditions: none. -/
import Derived.Test.YtjcabmhnekcbgaaRows
import Derived.WalkKit
import Derived.ProofKit
import Derived.OpenShut
import Derived.ShutString
import Derived.ChangeOld
import Derived.Below
import Derived.SizedLaws
import Derived.Carry
import Derived.Test.YtjcabmhnekcbgaaB8
set_option linter.unusedVariables false
set_option linter.unusedSimpArgs false
section
namespace Go.Proofs.Ytjcabmhnekcbgaa
open Go.Ab Go.RowKit 
set_option maxRecDepth 100000
set_option maxHeartbeats 4000000
noncomputable def d4 (a0_0 : Int) (a0_1 : Bool) (a1_0 : Int) (a1_1 : Bool) (a2_0 : Int) (a2_1 : Bool) : Option (Bool) :=
  (d9).bind fun x1 =>
  (d15 a0_0 a0_1 a1_0 a1_1).bind fun x2 =>
  (d15 a1_0 a1_1 a2_0 a2_1).bind fun x3 =>
  if (notB' x1) = true then
    some x1
  else
    if (cmpLit .neq x2.2.2 0) = true then
      some x1
    else
      if (cmpLit .neq x3.2.2 0) = true then
        some x1
      else
        (d15 a1_0 a1_1 a0_0 a0_1).bind fun x4 =>
        (d15 x2.1 x2.2.1 a2_0 a2_1).bind fun x5 =>
        (d15 a0_0 a0_1 x3.1 x3.2.1).bind fun x6 =>
        (d13 a0_0 a0_1).bind fun x7 =>
        (d13 x7.1 x7.2.1).bind fun x8 =>
        (d15 a0_0 a0_1 a0_0 a0_1).bind fun x9 =>
        if (cmpLit .eql x4.2.2 0) = true then
          if (cmpLit .eql x5.2.2 0) = true then
            if (cmpLit .eql x6.2.2 0) = true then
              if (cmpLit .eql x7.2.2 0) = true then
                if (cmpLit .eql x8.2.2 0) = true then
                  if (cmpLit .eql x9.2.2 0) = true then
                    if (andB' (cmpLit .eql x2.1 x4.1) (beqB x2.2.1 x4.2.1)) = true then
                      if (andB' (cmpLit .eql x5.1 x6.1) (beqB x5.2.1 x6.2.1)) = true then
                        if (andB' (cmpLit .eql x7.1 x8.1) (beqB x7.2.1 x8.2.1)) = true then
                          some (andB' (cmpLit .eql x9.1 x7.1) (beqB x9.2.1 x7.2.1))
                        else
                          some false
                      else
                        some false
                    else
                      some false
                  else
                    some false
                else
                  some false
              else
                some false
            else
              some false
          else
            some false
        else
          some false
noncomputable def w4_c : Code := (Try.f4.body).getD .skip
theorem w4_h : Try.f4.body = some w4_c := by kernel_rfl
theorem w4 (a0_0 : Int) (a0_1 : Bool) (a1_0 : Int) (a1_1 : Bool) (a2_0 : Int) (a2_1 : Bool) (r : Bool) (h : d4 a0_0 a0_1 a1_0 a1_1 a2_0 a2_1 = some r) : Ab.Fn Try.prog TT 4 [.agg [.i .i64 a0_0, .b a0_1], .agg [.i .i64 a1_0, .b a1_1], .agg [.i .i64 a2_0, .b a2_1]] (.b r) [] := by
  refine fn_pure tok W0 Try.func4 (by kernel_rfl) w4_h (by kernel_rfl) ?_
  intro ar un cv mn mx pl mi cmp nt beq an scmp cat slen sbyte ssub ofB toB len gi gb gs gl sub put app ovl rep ne0 ge0 inb bnd room sroom need br call loop cut nl E R K hK
  have D := E.D
  clear E
  unfold d4 at h
  cbv
  refine R.callD h (fun x1 hx1 h2 => ?_)
  clear h; have h := h2; clear h2
  refine R.call' (w9 _ hx1) (by (first | rfl | (simp only [D.han, D.hbeq, D.hcmp, D.hnt]; done) | (simp only [D.han, D.hbeq, D.hcmp, D.hnt]; rfl))) ?_
  clear hx1; cbv
  refine R.callD h (fun x2 hx2 h2 => ?_)
  clear h; have h := h2; clear h2
  refine R.call' (w15 _ _ _ _ _ hx2) (by (first | rfl | (simp only [D.han, D.hbeq, D.hcmp, D.hnt]; done) | (simp only [D.han, D.hbeq, D.hcmp, D.hnt]; rfl))) ?_
  clear hx2; cbv
  refine R.callD h (fun x3 hx3 h2 => ?_)
  clear h; have h := h2; clear h2
  refine R.call' (w15 _ _ _ _ _ hx3) (by (first | rfl | (simp only [D.han, D.hbeq, D.hcmp, D.hnt]; done) | (simp only [D.han, D.hbeq, D.hcmp, D.hnt]; rfl))) ?_
  clear hx3; cbv
  refine R.cut' (by kernel_rfl) (by kernel_rfl) ?_
  cbv
  refine R.cut' (by kernel_rfl) (by kernel_rfl) ?_
  cbv
  refine R.brD h (by (first | rfl | (simp only [D.han, D.hbeq, D.hcmp, D.hnt]; done) | (simp only [D.han, D.hbeq, D.hcmp, D.hnt]; rfl))) ?_ ?_ <;> clear h <;> intro h <;> cbv
  · have e := ret_some h; clear h
    refine hK _ _ ?_
    cbv
    try (subst e; simp only [D.han, D.hbeq, D.hcmp, D.hnt, and_self, and_true, true_and] <;> (repeat' apply And.intro) <;> rfl)
  · as_aux_lemma =>
    refine R.brD h (by (first | rfl | (simp only [D.han, D.hbeq, D.hcmp, D.hnt]; done) | (simp only [D.han, D.hbeq, D.hcmp, D.hnt]; rfl))) ?_ ?_ <;> clear h <;> intro h <;> cbv
    · have e := ret_some h; clear h
      refine hK _ _ ?_
      cbv
      try (subst e; simp only [D.han, D.hbeq, D.hcmp, D.hnt, and_self, and_true, true_and] <;> (repeat' apply And.intro) <;> rfl)
    · as_aux_lemma =>
      refine R.brD h (by (first | rfl | (simp only [D.han, D.hbeq, D.hcmp, D.hnt]; done) | (simp only [D.han, D.hbeq, D.hcmp, D.hnt]; rfl))) ?_ ?_ <;> clear h <;> intro h <;> cbv
      · have e := ret_some h; clear h
        refine hK _ _ ?_
        cbv
        try (subst e; simp only [D.han, D.hbeq, D.hcmp, D.hnt, and_self, and_true, true_and] <;> (repeat' apply And.intro) <;> rfl)
      · as_aux_lemma =>
        refine R.callD h (fun x4 hx4 h2 => ?_)
        clear h; have h := h2; clear h2
        refine R.call' (w15 _ _ _ _ _ hx4) (by (first | rfl | (simp only [D.han, D.hbeq, D.hcmp, D.hnt]; done) | (simp only [D.han, D.hbeq, D.hcmp, D.hnt]; rfl))) ?_
        clear hx4; cbv
        refine R.callD h (fun x5 hx5 h2 => ?_)
        clear h; have h := h2; clear h2
        refine R.call' (w15 _ _ _ _ _ hx5) (by (first | rfl | (simp only [D.han, D.hbeq, D.hcmp, D.hnt]; done) | (simp only [D.han, D.hbeq, D.hcmp, D.hnt]; rfl))) ?_
        clear hx5; cbv
        refine R.callD h (fun x6 hx6 h2 => ?_)
        clear h; have h := h2; clear h2
        refine R.call' (w15 _ _ _ _ _ hx6) (by (first | rfl | (simp only [D.han, D.hbeq, D.hcmp, D.hnt]; done) | (simp only [D.han, D.hbeq, D.hcmp, D.hnt]; rfl))) ?_
        clear hx6; cbv
        refine R.callD h (fun x7 hx7 h2 => ?_)
        clear h; have h := h2; clear h2
        refine R.call' (w13 _ _ _ hx7) (by (first | rfl | (simp only [D.han, D.hbeq, D.hcmp, D.hnt]; done) | (simp only [D.han, D.hbeq, D.hcmp, D.hnt]; rfl))) ?_
        clear hx7; cbv
        refine R.callD h (fun x8 hx8 h2 => ?_)
        clear h; have h := h2; clear h2
        refine R.call' (w13 _ _ _ hx8) (by (first | rfl | (simp only [D.han, D.hbeq, D.hcmp, D.hnt]; done) | (simp only [D.han, D.hbeq, D.hcmp, D.hnt]; rfl))) ?_
        clear hx8; cbv
        refine R.callD h (fun x9 hx9 h2 => ?_)
        clear h; have h := h2; clear h2
        refine R.call' (w15 _ _ _ _ _ hx9) (by (first | rfl | (simp only [D.han, D.hbeq, D.hcmp, D.hnt]; done) | (simp only [D.han, D.hbeq, D.hcmp, D.hnt]; rfl))) ?_
        clear hx9; cbv
        refine R.cut' (by kernel_rfl) (by kernel_rfl) ?_
        cbv
        refine R.brD h (by (first | rfl | (simp only [D.han, D.hbeq, D.hcmp, D.hnt]; done) | (simp only [D.han, D.hbeq, D.hcmp, D.hnt]; rfl))) ?_ ?_ <;> clear h <;> intro h <;> cbv
        · refine R.brD h (by (first | rfl | (simp only [D.han, D.hbeq, D.hcmp, D.hnt]; done) | (simp only [D.han, D.hbeq, D.hcmp, D.hnt]; rfl))) ?_ ?_ <;> clear h <;> intro h <;> cbv
          · refine R.brD h (by (first | rfl | (simp only [D.han, D.hbeq, D.hcmp, D.hnt]; done) | (simp only [D.han, D.hbeq, D.hcmp, D.hnt]; rfl))) ?_ ?_ <;> clear h <;> intro h <;> cbv
            · refine R.brD h (by (first | rfl | (simp only [D.han, D.hbeq, D.hcmp, D.hnt]; done) | (simp only [D.han, D.hbeq, D.hcmp, D.hnt]; rfl))) ?_ ?_ <;> clear h <;> intro h <;> cbv
              · refine R.brD h (by (first | rfl | (simp only [D.han, D.hbeq, D.hcmp, D.hnt]; done) | (simp only [D.han, D.hbeq, D.hcmp, D.hnt]; rfl))) ?_ ?_ <;> clear h <;> intro h <;> cbv
                · refine R.brD h (by (first | rfl | (simp only [D.han, D.hbeq, D.hcmp, D.hnt]; done) | (simp only [D.han, D.hbeq, D.hcmp, D.hnt]; rfl))) ?_ ?_ <;> clear h <;> intro h <;> cbv
                  · refine R.brD h (by (first | rfl | (simp only [D.han, D.hbeq, D.hcmp, D.hnt]; done) | (simp only [D.han, D.hbeq, D.hcmp, D.hnt]; rfl))) ?_ ?_ <;> clear h <;> intro h <;> cbv
                    · refine R.brD h (by (first | rfl | (simp only [D.han, D.hbeq, D.hcmp, D.hnt]; done) | (simp only [D.han, D.hbeq, D.hcmp, D.hnt]; rfl))) ?_ ?_ <;> clear h <;> intro h <;> cbv
                      · refine R.brD h (by (first | rfl | (simp only [D.han, D.hbeq, D.hcmp, D.hnt]; done) | (simp only [D.han, D.hbeq, D.hcmp, D.hnt]; rfl))) ?_ ?_ <;> clear h <;> intro h <;> cbv
                        · have e := ret_some h; clear h
                          refine hK _ _ ?_
                          cbv
                          try (subst e; simp only [D.han, D.hbeq, D.hcmp, D.hnt, and_self, and_true, true_and] <;> (repeat' apply And.intro) <;> rfl)
                        · have e := ret_some h; clear h
                          refine hK _ _ ?_
                          cbv
                          try (subst e; simp only [D.han, D.hbeq, D.hcmp, D.hnt, and_self, and_true, true_and] <;> (repeat' apply And.intro) <;> rfl)
                      · have e := ret_some h; clear h
                        refine hK _ _ ?_
                        cbv
                        try (subst e; simp only [D.han, D.hbeq, D.hcmp, D.hnt, and_self, and_true, true_and] <;> (repeat' apply And.intro) <;> rfl)
                    · have e := ret_some h; clear h
                      refine hK _ _ ?_
                      cbv
                      try (subst e; simp only [D.han, D.hbeq, D.hcmp, D.hnt, and_self, and_true, true_and] <;> (repeat' apply And.intro) <;> rfl)
                  · have e := ret_some h; clear h
                    refine hK _ _ ?_
                    cbv
                    try (subst e; simp only [D.han, D.hbeq, D.hcmp, D.hnt, and_self, and_true, true_and] <;> (repeat' apply And.intro) <;> rfl)
                · have e := ret_some h; clear h
                  refine hK _ _ ?_
                  cbv
                  try (subst e; simp only [D.han, D.hbeq, D.hcmp, D.hnt, and_self, and_true, true_and] <;> (repeat' apply And.intro) <;> rfl)
              · have e := ret_some h; clear h
                refine hK _ _ ?_
                cbv
                try (subst e; simp only [D.han, D.hbeq, D.hcmp, D.hnt, and_self, and_true, true_and] <;> (repeat' apply And.intro) <;> rfl)
            · have e := ret_some h; clear h
              refine hK _ _ ?_
              cbv
              try (subst e; simp only [D.han, D.hbeq, D.hcmp, D.hnt, and_self, and_true, true_and] <;> (repeat' apply And.intro) <;> rfl)
          · have e := ret_some h; clear h
            refine hK _ _ ?_
            cbv
            try (subst e; simp only [D.han, D.hbeq, D.hcmp, D.hnt, and_self, and_true, true_and] <;> (repeat' apply And.intro) <;> rfl)
        · have e := ret_some h; clear h
          refine hK _ _ ?_
          cbv
          try (subst e; simp only [D.han, D.hbeq, D.hcmp, D.hnt, and_self, and_true, true_and] <;> (repeat' apply And.intro) <;> rfl)

end Go.Proofs.Ytjcabmhnekcbgaa

end
section
/- The one statement over its function that the law BitsCommon comes to. Conditions: none. -/
-- Told by a program of this seat's session. Not trusted: Lean checks it.

namespace Go.Proofs.Ytjcabmhnekcbgaa
open Go.Ab Go.RowKit
def BitsCommon.Claim : Prop := ∀ (x0 : (Int × Bool)) (x1 : (Int × Bool)) (x2 : (Int × Bool)), (fun x : (Int × Bool) => (fun n : Int => (Lit.int .i64 n).wf = true) x.1 ∧ (fun _ : Bool => True) x.2) x0 → (fun x : (Int × Bool) => (fun n : Int => (Lit.int .i64 n).wf = true) x.1 ∧ (fun _ : Bool => True) x.2) x1 → (fun x : (Int × Bool) => (fun n : Int => (Lit.int .i64 n).wf = true) x.1 ∧ (fun _ : Bool => True) x.2) x2 → Ab.Fn Try.prog TT 4 [.agg [.i .i64 x0.1, .b x0.2], .agg [.i .i64 x1.1, .b x1.2], .agg [.i .i64 x2.1, .b x2.2]] (.b true) []
end Go.Proofs.Ytjcabmhnekcbgaa
end
section
/- The law BitsCommon by the calculus. Conditions: none. -/

namespace Go.Proofs.Ytjcabmhnekcbgaa
open Go.Ab Go.RowKit
theorem BitsCommon.d4_true (z : Int) (b : Bool) (y : Int) (c : Bool) (x : Int) (d : Bool) : d4 z b y c x d = some true := by
  unfold d4
  simp only [s9, s15, Option.bind_some, s13]
  by_cases h : OkZ z ∧ OkZ y
  · by_cases k : OkZ y ∧ OkZ x
    · obtain ⟨h1, h2⟩ := h
      obtain ⟨_, h3⟩ := k
      have q1 := uz_ok h1 h2
      have q2 := uz_ok h2 h3
      have q3 := pz_ok h1
      have hs := us_assoc b c d h1 h2 h3
      have e1 := pz_pz z
      have e2 := pb_pb z b
      have e3 := us_self z b
      simp only [h1, h2, h3, and_self, if_true, q1, q2, q3, c_eql, c_neq, notB', beqB, andB', hs, e1, e2, e3]
      simp [uz_comm y z, ub_comm y c z b]
    · have k' : ¬ OkZ x := fun q => k ⟨h.2, q⟩
      simp [h, k', c_neq, notB']
  · simp [h, c_neq, notB']
theorem BitsCommon.pure : BitsCommon.Claim := by
  intro x0 x1 x2 _ _ _
  exact w4 _ _ _ _ _ _ true (BitsCommon.d4_true _ _ _ _ _ _)
end Go.Proofs.Ytjcabmhnekcbgaa
end
section
/- BitsCommon: the law's call returns true for every input, and its arguments read afterwards as_ before. Conditions: none. -/
-- Told by a program of this seat's session. Not trusted: Lean checks it.

namespace Go.Proofs.Ytjcabmhnekcbgaa.bitsCommon
open Go.ChangeShapes Go.WideShapes Go.ChangeAt Go.RowKit Go.Ab Go.Proofs.Ytjcabmhnekcbgaa
open Go.ChangeMaps (open_string shut_string)
theorem own : ownKnob Try.prog.godebug = none := by kernel_rfl
theorem laidOut : laidOutB Try.prog = true := by kernel_rfl
set_option maxRecDepth 100000 in
set_option maxHeartbeats 8000000 in
theorem lifted (os : Os) (started : os.Started) (H : Type) (enc : TypeId × Value → H) :
    ReturnsInHanded {} Try.checked os 4 .any (Rows.bitsCommonSpec.pre6 enc Try.prog Try.f4 Rows.bitsCommonRow.domain false) (Rows.bitsCommonSpec.post enc Try.prog Try.f4 false true false false) := by
  refine returnsInHanded_of_change_sized (C := Try.checked) own started (by kernel_rfl) Try.func4
    (ChangeSpec.witness6 (enc := enc) (C := Try.checked) false ⟨#[], #[.agg #[.int .i64 0, .bool false], .agg #[.int .i64 0, .bool false], .agg #[.int .i64 0, .bool false]], []⟩ 8 (by kernel_rfl) (by kernel_rfl) (by kernel_rfl) (by kernel_rfl)) ?_
  intro W base args ds gs before hval0 hW hcnd hsz0 _
  have hval : ∀ (j : Nat) t v, Try.f4.params[j]? = some t → args[j]? = some v → Value.okWide Try.prog W .any base t v := hval0
  have hW' := hW
  obtain ⟨p, q, hA0, hV, rfl, hfz, hnd⟩ := hW
  have hA : DataW.TrodAll enc Try.prog W 0 (fun _ => true) true Try.f4.params.toList args.toList ds p := hA0
  rw [Try.params4] at hA hval
  obtain ⟨v0, vs0, d0, ds0, p0, q0, hargs, rfl, rfl, h0, r0⟩ := trodAll_cons hA
  obtain ⟨v1, vs1, d1, ds1, p1, q1, rfl, rfl, rfl, h1, r1⟩ := trodAll_cons r0
  obtain ⟨v2, vs2, d2, ds2, p2, q2, rfl, rfl, rfl, h2, r2⟩ := trodAll_cons r1
  obtain ⟨rfl, rfl, rfl⟩ := trodAll_nil r2
  obtain rfl : args = #[v0, v1, v2] := by cases args; simp_all
  obtain ⟨rfl, rfl⟩ := trodVars_none hV
  have k0 := h0
  have lt0 : ∀ x ∈ p0, x.block < W.heap.size := by obtain ⟨m, hm⟩ := k0; exact DataW.trod_lt m _ _ _ hm
  obtain ⟨cs0, rfl, sz0⟩ := okWide_struct Try.underlying23 (hval 0 23 v0 rfl rfl)
  obtain ⟨x0, ra0, rb0, _, ok0⟩ := h0.elim fun fuel hf => ((OpV.struct tok (te := te23) (by kernel_rfl) rfl (by kernel_rfl) (OpAt.cons rfl (by kernel_rfl) (OpV.int tok (e := te3) (by kernel_rfl) rfl) (OpAt.last rfl (by kernel_rfl) (OpV.bool tok (e := te4) (by kernel_rfl) rfl)))) : OpV TT enc Try.prog W 23 _ _ _) _ _ _ hf
  have k1 := h1
  have lt1 : ∀ x ∈ p1, x.block < W.heap.size := by obtain ⟨m, hm⟩ := k1; exact DataW.trod_lt m _ _ _ hm
  obtain ⟨cs1, rfl, sz1⟩ := okWide_struct Try.underlying23 (hval 1 23 v1 rfl rfl)
  obtain ⟨x1, ra1, rb1, _, ok1⟩ := h1.elim fun fuel hf => ((OpV.struct tok (te := te23) (by kernel_rfl) rfl (by kernel_rfl) (OpAt.cons rfl (by kernel_rfl) (OpV.int tok (e := te3) (by kernel_rfl) rfl) (OpAt.last rfl (by kernel_rfl) (OpV.bool tok (e := te4) (by kernel_rfl) rfl)))) : OpV TT enc Try.prog W 23 _ _ _) _ _ _ hf
  have k2 := h2
  have lt2 : ∀ x ∈ p2, x.block < W.heap.size := by obtain ⟨m, hm⟩ := k2; exact DataW.trod_lt m _ _ _ hm
  obtain ⟨cs2, rfl, sz2⟩ := okWide_struct Try.underlying23 (hval 2 23 v2 rfl rfl)
  obtain ⟨x2, ra2, rb2, _, ok2⟩ := h2.elim fun fuel hf => ((OpV.struct tok (te := te23) (by kernel_rfl) rfl (by kernel_rfl) (OpAt.cons rfl (by kernel_rfl) (OpV.int tok (e := te3) (by kernel_rfl) rfl) (OpAt.last rfl (by kernel_rfl) (OpV.bool tok (e := te4) (by kernel_rfl) rfl)))) : OpV TT enc Try.prog W 23 _ _ _) _ _ _ hf
  clear hA0 hval0 hsz0
  refine (law_calls (w := W) ⟨_, _, Try.func4, by kernel_rfl, w4_h⟩ (BitsCommon.pure x0 x1 x2 ok0 ok1 ok2) (args_agg ra0 rb0 (args_agg ra1 rb1 (args_agg ra2 rb2 args_nil)))).mono fun e W' ⟨he, bel⟩ => ?_
  subst he
  exact ⟨_, rfl, _, _, _, [], _, [], hW', trodAll_mk1 (shut_bool Try.underlying4 _), (trodAll_cons_mk (Below.trod laidOut (by kernel_rfl) (of_decide_eq_true (by kernel_rfl)) k0 bel lt0) (trodAll_cons_mk (Below.trod laidOut (by kernel_rfl) (of_decide_eq_true (by kernel_rfl)) k1 bel lt1) (trodAll_cons_mk (Below.trod laidOut (by kernel_rfl) (of_decide_eq_true (by kernel_rfl)) k2 bel lt2) trodAll_mk0))), rfl, bel.frame _, fun h => by cases h⟩
theorem over : Rows.bitsCommonRow.holds Try.pinned (OpenSpec.ofChange Rows.bitsCommonSpec) :=
  OpenClaim.holds_of_wide 4 Try.f4 rfl rfl rfl rfl rfl rfl rfl ⟨rfl, rfl, rfl, rfl, rfl⟩ rfl rfl rfl rfl rfl (by kernel_rfl) Try.func4 (by kernel_rfl)
    (of_decide_eq_true (by kernel_rfl)) (by unfold Func.isWrapper; first | (rw [if_pos (by decide +kernel)]; kernel_rfl) | (rw [if_neg (by decide +kernel)]; exact ⟨rfl, rfl⟩))
    (fun os started H enc _ => lifted os started H enc)
theorem proved : Rows.BitsCommonSaid := over
end Go.Proofs.Ytjcabmhnekcbgaa.bitsCommon
namespace Go.Proofs.Ytjcabmhnekcbgaa
theorem bitsCommon_holds : Rows.BitsCommonSaid := bitsCommon.proved
end Go.Proofs.Ytjcabmhnekcbgaa
end
