/- The law BitsForms: its function's walk, the pure law, the row. Conditions: none. -/
import Derived.Test.YtjcabmhnekcbgaaRows
import Derived.WalkKit
import Derived.ProofKit
import Derived.OpenShut
import Derived.ShutString
import Derived.ChangeOld
import Derived.Below
import Derived.SizedLaws
import Derived.Carry
import Derived.Test.YtjcabmhnekcbgaaF8
set_option linter.unusedVariables false
set_option linter.unusedSimpArgs false
section
namespace Go.Proofs.Ytjcabmhnekcbgaa
open Go.Ab Go.RowKit 
set_option maxRecDepth 100000
set_option maxHeartbeats 4000000
noncomputable def d8 (a0_0 : Int) (a0_1 : Bool) (a1_0 : Int) (a1_1 : Int) (a2 : ByteArray) : Option (Bool) :=
  (d9).bind fun x1 =>
  (d19 a0_0 a0_1 a1_0 a1_1).bind fun x2 =>
  (d22 a0_0 a0_1 a1_0 a1_1).bind fun x3 =>
  (d20 a0_0 a0_1 a1_0).bind fun x4 =>
  (d23 a0_0 a0_1 a1_0).bind fun x5 =>
  if (Sroom a2 ByteArray.empty) then
    (d21 a0_0 a0_1 (strBytes a2)).bind fun x6 =>
    if (Sroom a2 ByteArray.empty) then
      (d24 a0_0 a0_1 (strBytes a2)).bind fun x7 =>
      (d17 a0_0 a0_1 a1_0).bind fun x8 =>
      (d25 a0_0 a0_1 a1_0).bind fun x9 =>
      (d18 a0_0 a0_1 a2).bind fun x10 =>
      (d26 a0_0 a0_1 a2).bind fun x11 =>
      if x1 = true then
        if (cmpLit .eql x2.1 x3.1) = true then
          if (cmpLit .eql x2.2 x3.2) = true then
            if (strCmp .eql (toBy x4.1) (toBy x5.1)) = true then
              if (cmpLit .eql x4.2 x5.2) = true then
                if (cmpLit .eql x6.1 x7.1) = true then
                  if (cmpLit .eql x6.2 x7.2) = true then
                    if (strCmp .eql x8.1 x9.1) = true then
                      if (cmpLit .eql x8.2 x9.2) = true then
                        if (cmpLit .eql x10.1 x11.1) = true then
                          some (cmpLit .eql x10.2 x11.2)
                        else
                          some false
                      else
                        some false
                    else
                      some false
                  else
                    some false
                else
                  some false
              else
                some false
            else
              some false
          else
            some false
        else
          some false
      else
        some false
    else none
  else none
noncomputable def w8_c : Code := (Try.f8.body).getD .skip
theorem w8_h : Try.f8.body = some w8_c := by kernel_rfl
theorem w8 (a0_0 : Int) (a0_1 : Bool) (a1_0 : Int) (a1_1 : Int) (a2 : ByteArray) (r : Bool) (h : d8 a0_0 a0_1 a1_0 a1_1 a2 = some r) : Ab.Fn Try.prog TT 8 [.agg [.i .i64 a0_0, .b a0_1], .agg [.i .i64 a1_0, .i .i64 a1_1], .str a2] (.b r) [] := by
  refine fn_pure tok W0 Try.func8 (by kernel_rfl) w8_h (by kernel_rfl) ?_
  intro ar un cv mn mx pl mi cmp nt beq an scmp cat slen sbyte ssub ofB toB len gi gb gs gl sub put app ovl rep ne0 ge0 inb bnd room sroom need br call loop cut nl E R K hK
  have D := E.D
  clear E
  unfold d8 at h
  cbv
  refine R.callD h (fun x1 hx1 h2 => ?_)
  clear h; have h := h2; clear h2
  refine R.call' (w9 _ hx1) (by (first | rfl | (simp only [D.hcmp, D.hofB, D.hscmp, D.hsroom, D.htoB]; done) | (simp only [D.hcmp, D.hofB, D.hscmp, D.hsroom, D.htoB]; rfl))) ?_
  clear hx1; cbv
  refine R.callD h (fun x2 hx2 h2 => ?_)
  clear h; have h := h2; clear h2
  refine R.call' (w19 _ _ _ _ _ hx2) (by (first | rfl | (simp only [D.hcmp, D.hofB, D.hscmp, D.hsroom, D.htoB]; done) | (simp only [D.hcmp, D.hofB, D.hscmp, D.hsroom, D.htoB]; rfl))) ?_
  clear hx2; cbv
  refine R.callD h (fun x3 hx3 h2 => ?_)
  clear h; have h := h2; clear h2
  refine R.call' (w22 _ _ _ _ _ hx3) (by (first | rfl | (simp only [D.hcmp, D.hofB, D.hscmp, D.hsroom, D.htoB]; done) | (simp only [D.hcmp, D.hofB, D.hscmp, D.hsroom, D.htoB]; rfl))) ?_
  clear hx3; cbv
  refine R.callD h (fun x4 hx4 h2 => ?_)
  clear h; have h := h2; clear h2
  refine R.call' (w20s _ _ _ _ hx4) (by (first | rfl | (simp only [D.hcmp, D.hofB, D.hscmp, D.hsroom, D.htoB]; done) | (simp only [D.hcmp, D.hofB, D.hscmp, D.hsroom, D.htoB]; rfl))) ?_
  clear hx4; cbv
  refine R.callD h (fun x5 hx5 h2 => ?_)
  clear h; have h := h2; clear h2
  refine R.call' (w23s _ _ _ _ hx5) (by (first | rfl | (simp only [D.hcmp, D.hofB, D.hscmp, D.hsroom, D.htoB]; done) | (simp only [D.hcmp, D.hofB, D.hscmp, D.hsroom, D.htoB]; rfl))) ?_
  clear hx5; cbv
  refine R.needD h (by (first | rfl | (simp only [D.hcmp, D.hofB, D.hscmp, D.hsroom, D.htoB]; done) | (simp only [D.hcmp, D.hofB, D.hscmp, D.hsroom, D.htoB]; rfl))) ?_
  clear h; intro h; cbv
  refine R.callD h (fun x6 hx6 h2 => ?_)
  clear h; have h := h2; clear h2
  refine R.call' (w21 _ _ _ _ hx6) (by (first | rfl | (simp only [D.hcmp, D.hofB, D.hscmp, D.hsroom, D.htoB]; done) | (simp only [D.hcmp, D.hofB, D.hscmp, D.hsroom, D.htoB]; rfl))) ?_
  clear hx6; cbv
  refine R.needD h (by (first | rfl | (simp only [D.hcmp, D.hofB, D.hscmp, D.hsroom, D.htoB]; done) | (simp only [D.hcmp, D.hofB, D.hscmp, D.hsroom, D.htoB]; rfl))) ?_
  clear h; intro h; cbv
  refine R.callD h (fun x7 hx7 h2 => ?_)
  clear h; have h := h2; clear h2
  refine R.call' (w24 _ _ _ _ hx7) (by (first | rfl | (simp only [D.hcmp, D.hofB, D.hscmp, D.hsroom, D.htoB]; done) | (simp only [D.hcmp, D.hofB, D.hscmp, D.hsroom, D.htoB]; rfl))) ?_
  clear hx7; cbv
  refine R.callD h (fun x8 hx8 h2 => ?_)
  clear h; have h := h2; clear h2
  refine R.call' (w17 _ _ _ _ hx8) (by (first | rfl | (simp only [D.hcmp, D.hofB, D.hscmp, D.hsroom, D.htoB]; done) | (simp only [D.hcmp, D.hofB, D.hscmp, D.hsroom, D.htoB]; rfl))) ?_
  clear hx8; cbv
  refine R.callD h (fun x9 hx9 h2 => ?_)
  clear h; have h := h2; clear h2
  refine R.call' (w25 _ _ _ _ hx9) (by (first | rfl | (simp only [D.hcmp, D.hofB, D.hscmp, D.hsroom, D.htoB]; done) | (simp only [D.hcmp, D.hofB, D.hscmp, D.hsroom, D.htoB]; rfl))) ?_
  clear hx9; cbv
  refine R.callD h (fun x10 hx10 h2 => ?_)
  clear h; have h := h2; clear h2
  refine R.call' (w18 _ _ _ _ hx10) (by (first | rfl | (simp only [D.hcmp, D.hofB, D.hscmp, D.hsroom, D.htoB]; done) | (simp only [D.hcmp, D.hofB, D.hscmp, D.hsroom, D.htoB]; rfl))) ?_
  clear hx10; cbv
  refine R.callD h (fun x11 hx11 h2 => ?_)
  clear h; have h := h2; clear h2
  refine R.call' (w26 _ _ _ _ hx11) (by (first | rfl | (simp only [D.hcmp, D.hofB, D.hscmp, D.hsroom, D.htoB]; done) | (simp only [D.hcmp, D.hofB, D.hscmp, D.hsroom, D.htoB]; rfl))) ?_
  clear hx11; cbv
  refine R.cut' (by kernel_rfl) (by kernel_rfl) ?_
  cbv
  refine R.brD h (by (first | rfl | (simp only [D.hcmp, D.hofB, D.hscmp, D.hsroom, D.htoB]; done) | (simp only [D.hcmp, D.hofB, D.hscmp, D.hsroom, D.htoB]; rfl))) ?_ ?_ <;> clear h <;> intro h <;> cbv
  · refine R.brD h (by (first | rfl | (simp only [D.hcmp, D.hofB, D.hscmp, D.hsroom, D.htoB]; done) | (simp only [D.hcmp, D.hofB, D.hscmp, D.hsroom, D.htoB]; rfl))) ?_ ?_ <;> clear h <;> intro h <;> cbv
    · refine R.brD h (by (first | rfl | (simp only [D.hcmp, D.hofB, D.hscmp, D.hsroom, D.htoB]; done) | (simp only [D.hcmp, D.hofB, D.hscmp, D.hsroom, D.htoB]; rfl))) ?_ ?_ <;> clear h <;> intro h <;> cbv
      · refine R.brD h (by (first | rfl | (simp only [D.hcmp, D.hofB, D.hscmp, D.hsroom, D.htoB]; done) | (simp only [D.hcmp, D.hofB, D.hscmp, D.hsroom, D.htoB]; rfl))) ?_ ?_ <;> clear h <;> intro h <;> cbv
        · refine R.brD h (by (first | rfl | (simp only [D.hcmp, D.hofB, D.hscmp, D.hsroom, D.htoB]; done) | (simp only [D.hcmp, D.hofB, D.hscmp, D.hsroom, D.htoB]; rfl))) ?_ ?_ <;> clear h <;> intro h <;> cbv
          · refine R.brD h (by (first | rfl | (simp only [D.hcmp, D.hofB, D.hscmp, D.hsroom, D.htoB]; done) | (simp only [D.hcmp, D.hofB, D.hscmp, D.hsroom, D.htoB]; rfl))) ?_ ?_ <;> clear h <;> intro h <;> cbv
            · refine R.brD h (by (first | rfl | (simp only [D.hcmp, D.hofB, D.hscmp, D.hsroom, D.htoB]; done) | (simp only [D.hcmp, D.hofB, D.hscmp, D.hsroom, D.htoB]; rfl))) ?_ ?_ <;> clear h <;> intro h <;> cbv
              · refine R.brD h (by (first | rfl | (simp only [D.hcmp, D.hofB, D.hscmp, D.hsroom, D.htoB]; done) | (simp only [D.hcmp, D.hofB, D.hscmp, D.hsroom, D.htoB]; rfl))) ?_ ?_ <;> clear h <;> intro h <;> cbv
                · refine R.brD h (by (first | rfl | (simp only [D.hcmp, D.hofB, D.hscmp, D.hsroom, D.htoB]; done) | (simp only [D.hcmp, D.hofB, D.hscmp, D.hsroom, D.htoB]; rfl))) ?_ ?_ <;> clear h <;> intro h <;> cbv
                  · refine R.brD h (by (first | rfl | (simp only [D.hcmp, D.hofB, D.hscmp, D.hsroom, D.htoB]; done) | (simp only [D.hcmp, D.hofB, D.hscmp, D.hsroom, D.htoB]; rfl))) ?_ ?_ <;> clear h <;> intro h <;> cbv
                    · have e := ret_some h; clear h
                      refine hK _ _ ?_
                      cbv
                      try (subst e; simp only [D.hcmp, D.hofB, D.hscmp, D.hsroom, D.htoB, and_self, and_true, true_and] <;> (repeat' apply And.intro) <;> rfl)
                    · have e := ret_some h; clear h
                      refine hK _ _ ?_
                      cbv
                      try (subst e; simp only [D.hcmp, D.hofB, D.hscmp, D.hsroom, D.htoB, and_self, and_true, true_and] <;> (repeat' apply And.intro) <;> rfl)
                  · have e := ret_some h; clear h
                    refine hK _ _ ?_
                    cbv
                    try (subst e; simp only [D.hcmp, D.hofB, D.hscmp, D.hsroom, D.htoB, and_self, and_true, true_and] <;> (repeat' apply And.intro) <;> rfl)
                · have e := ret_some h; clear h
                  refine hK _ _ ?_
                  cbv
                  try (subst e; simp only [D.hcmp, D.hofB, D.hscmp, D.hsroom, D.htoB, and_self, and_true, true_and] <;> (repeat' apply And.intro) <;> rfl)
              · have e := ret_some h; clear h
                refine hK _ _ ?_
                cbv
                try (subst e; simp only [D.hcmp, D.hofB, D.hscmp, D.hsroom, D.htoB, and_self, and_true, true_and] <;> (repeat' apply And.intro) <;> rfl)
            · have e := ret_some h; clear h
              refine hK _ _ ?_
              cbv
              try (subst e; simp only [D.hcmp, D.hofB, D.hscmp, D.hsroom, D.htoB, and_self, and_true, true_and] <;> (repeat' apply And.intro) <;> rfl)
          · have e := ret_some h; clear h
            refine hK _ _ ?_
            cbv
            try (subst e; simp only [D.hcmp, D.hofB, D.hscmp, D.hsroom, D.htoB, and_self, and_true, true_and] <;> (repeat' apply And.intro) <;> rfl)
        · have e := ret_some h; clear h
          refine hK _ _ ?_
          cbv
          try (subst e; simp only [D.hcmp, D.hofB, D.hscmp, D.hsroom, D.htoB, and_self, and_true, true_and] <;> (repeat' apply And.intro) <;> rfl)
      · have e := ret_some h; clear h
        refine hK _ _ ?_
        cbv
        try (subst e; simp only [D.hcmp, D.hofB, D.hscmp, D.hsroom, D.htoB, and_self, and_true, true_and] <;> (repeat' apply And.intro) <;> rfl)
    · have e := ret_some h; clear h
      refine hK _ _ ?_
      cbv
      try (subst e; simp only [D.hcmp, D.hofB, D.hscmp, D.hsroom, D.htoB, and_self, and_true, true_and] <;> (repeat' apply And.intro) <;> rfl)
  · have e := ret_some h; clear h
    refine hK _ _ ?_
    cbv
    try (subst e; simp only [D.hcmp, D.hofB, D.hscmp, D.hsroom, D.htoB, and_self, and_true, true_and] <;> (repeat' apply And.intro) <;> rfl)
end Go.Proofs.Ytjcabmhnekcbgaa

end
section
/- The one statement over its function that the law BitsForms comes to. Conditions: none. -/
-- Told by a program of this seat's session. Not trusted: Lean checks it.

namespace Go.Proofs.Ytjcabmhnekcbgaa
open Go.Ab Go.RowKit
def BitsForms.Claim : Prop := ∀ (x0 : (Int × Bool)) (x1 : (Int × Int)) (x2 : ByteArray), (fun x : (Int × Bool) => (fun n : Int => (Lit.int .i64 n).wf = true) x.1 ∧ (fun _ : Bool => True) x.2) x0 → (fun x : Int × Int => (fun n : Int => (Lit.int .i64 n).wf = true) x.1 ∧ (fun n : Int => (Lit.int .i64 n).wf = true) x.2) x1 → (fun s : ByteArray => s.size ≤ maxLen) x2 → Ab.Fn Try.prog TT 8 [.agg [.i .i64 x0.1, .b x0.2], .agg [.i .i64 x1.1, .i .i64 x1.2], .str x2] (.b true) []
end Go.Proofs.Ytjcabmhnekcbgaa
end
section
/- The law BitsForms by the calculus. Conditions: none. -/

namespace Go.Proofs.Ytjcabmhnekcbgaa
open Go.Ab Go.RowKit
theorem s26_no (z : Int) (b : Bool) (s : ByteArray) (h : ¬ OkZ z) : d26 z b s = some (0, 10) := by
  unfold d26; rw [s47, if_neg h]; rfl
theorem BitsForms.d8_true (z : Int) (b : Bool) {v u : Int} (s : ByteArray) (hv : I64 v) (hu : I64 u) (hs : s.size ≤ 9223372036854775807) : d8 z b v u s = some true := by
  have hS : Sroom s ByteArray.empty := hs
  unfold d8
  by_cases h : OkZ z
  · have q1 := s19 b h hv hu
    have q2 := s22 b h hv hu
    have q3 := s20 b v h
    have q4 := s23 b h hv
    have q5 := s21 b h (nb_bs s)
    have q6 := s24 b h (nb_bs s)
    have q7 := s17 b h hv
    have q8 := s25 b h hv
    have q9 := s18 z b s h hs
    have q10 := s26 b s h hs
    simp only [s9, q1, q2, q3, q4, q7, q8, q9, q10, Option.bind_some, if_pos hS, strBytes_nb, q5, q6, c_eql, scmp_eql]
    simp
  · have q1 := s19_no b v u h
    have q2 := s22_no b v u h
    have q3 := s20_no b v h
    have q4 := s23_no b v h
    have q5 := s21_no b (strBytes s) h
    have q6 := s24_no b (strBytes s) h
    have q7 := s17_no b v h
    have q8 := s25_no b v h
    have q9 := s18_no z b s h
    have q10 := s26_no z b s h
    simp only [s9, q1, q2, q3, q4, q5, q6, q7, q8, q9, q10, Option.bind_some, if_pos hS, c_eql, scmp_eql]
    simp
theorem BitsForms.pure : BitsForms.Claim := by
  intro x0 x1 x2 h0 h1 h2
  exact w8 _ _ _ _ _ true (BitsForms.d8_true _ _ _ (i64_wf' h1.1) (i64_wf' h1.2) h2)
end Go.Proofs.Ytjcabmhnekcbgaa
end
section
/- BitsForms: the law's call returns true for every input, and its arguments read afterwards as_ before. Conditions: none. -/
-- Told by a program of this seat's session. Not trusted: Lean checks it.

namespace Go.Proofs.Ytjcabmhnekcbgaa.bitsForms
open Go.ChangeShapes Go.WideShapes Go.ChangeAt Go.RowKit Go.Ab Go.Proofs.Ytjcabmhnekcbgaa
open Go.ChangeMaps (open_string shut_string)
theorem own : ownKnob Try.prog.godebug = none := by kernel_rfl
theorem laidOut : laidOutB Try.prog = true := by kernel_rfl
set_option maxRecDepth 100000 in
set_option maxHeartbeats 8000000 in
theorem lifted (os : Os) (started : os.Started) (H : Type) (enc : TypeId × Value → H) :
    ReturnsInHanded {} Try.checked os 8 .any (Rows.bitsFormsSpec.pre6 enc Try.prog Try.f8 Rows.bitsFormsRow.domain false) (Rows.bitsFormsSpec.post enc Try.prog Try.f8 false true false false) := by
  refine returnsInHanded_of_change_sized (C := Try.checked) own started (by kernel_rfl) Try.func8
    (ChangeSpec.witness6 (enc := enc) (C := Try.checked) false ⟨#[], #[.agg #[.int .i64 0, .bool false], .agg #[.int .i64 0, .int .i64 0], .string ByteArray.empty], []⟩ 8 (by kernel_rfl) (by kernel_rfl) (by kernel_rfl) (by kernel_rfl)) ?_
  intro W base args ds gs before hval0 hW hcnd hsz0 _
  have hval : ∀ (j : Nat) t v, Try.f8.params[j]? = some t → args[j]? = some v → Value.okWide Try.prog W .any base t v := hval0
  have hW' := hW
  obtain ⟨p, q, hA0, hV, rfl, hfz, hnd⟩ := hW
  have hA : DataW.TrodAll enc Try.prog W 0 (fun _ => true) true Try.f8.params.toList args.toList ds p := hA0
  rw [Try.params8] at hA hval
  obtain ⟨v0, vs0, d0, ds0, p0, q0, hargs, rfl, rfl, h0, r0⟩ := trodAll_cons hA
  obtain ⟨v1, vs1, d1, ds1, p1, q1, rfl, rfl, rfl, h1, r1⟩ := trodAll_cons r0
  obtain ⟨v2, vs2, d2, ds2, p2, q2, rfl, rfl, rfl, h2, r2⟩ := trodAll_cons r1
  obtain ⟨rfl, rfl, rfl⟩ := trodAll_nil r2
  obtain rfl : args = #[v0, v1, v2] := by cases args; simp_all
  obtain ⟨rfl, rfl⟩ := trodVars_none hV
  have k0 := h0
  have lt0 : ∀ x ∈ p0, x.block < W.heap.size := by obtain ⟨m, hm⟩ := k0; exact DataW.trod_lt m _ _ _ hm
  obtain ⟨cs0, rfl, sz0⟩ := okWide_struct Try.underlying23 (hval 0 23 v0 rfl rfl)
  obtain ⟨x0, ra0, rb0, _, ok0⟩ := h0.elim fun fuel hf => ((OpV.struct tok (te := te23) (by kernel_rfl) rfl (by kernel_rfl) (OpAt.cons rfl (by kernel_rfl) (OpV.int tok (e := te3) (by kernel_rfl) rfl) (OpAt.last rfl (by kernel_rfl) (OpV.bool tok (e := te4) (by kernel_rfl) rfl)))) : OpV TT enc Try.prog W 23 _ _ _) _ _ _ hf
  have k1 := h1
  have lt1 : ∀ x ∈ p1, x.block < W.heap.size := by obtain ⟨m, hm⟩ := k1; exact DataW.trod_lt m _ _ _ hm
  obtain ⟨cs1, rfl, sz1⟩ := okWide_arr Try.underlying45 (hval 1 45 v1 rfl rfl)
  obtain ⟨x1, ra1, rb1, _, ok1⟩ := h1.elim fun fuel hf => ((OpV.arr2 tok (te := te45) (by kernel_rfl) rfl (by kernel_rfl) (by kernel_rfl) (OpV.int tok (e := te2) (by kernel_rfl) rfl)) : OpV TT enc Try.prog W 45 _ _ _) _ _ _ hf
  obtain ⟨x2, rfl, rfl, rfl, u2⟩ := open_string Try.underlying9 (hval 2 9 v2 rfl rfl) h2
  clear hA0 hval0 hsz0
  refine (law_calls (w := W) ⟨_, _, Try.func8, by kernel_rfl, w8_h⟩ (BitsForms.pure x0 x1 x2 ok0 ok1 u2) (args_agg ra0 rb0 (args_agg ra1 rb1 (args_str x2 args_nil)))).mono fun e W' ⟨he, bel⟩ => ?_
  subst he
  exact ⟨_, rfl, _, _, _, [], _, [], hW', trodAll_mk1 (shut_bool Try.underlying4 _), (trodAll_cons_mk (Below.trod laidOut (by kernel_rfl) (of_decide_eq_true (by kernel_rfl)) k0 bel lt0) (trodAll_cons_mk (Below.trod laidOut (by kernel_rfl) (of_decide_eq_true (by kernel_rfl)) k1 bel lt1) (trodAll_cons_mk (shut_string Try.underlying9 u2) trodAll_mk0))), rfl, bel.frame _, fun h => by cases h⟩
theorem over : Rows.bitsFormsRow.holds Try.pinned (OpenSpec.ofChange Rows.bitsFormsSpec) :=
  OpenClaim.holds_of_wide 8 Try.f8 rfl rfl rfl rfl rfl rfl rfl ⟨rfl, rfl, rfl, rfl, rfl⟩ rfl rfl rfl rfl rfl (by kernel_rfl) Try.func8 (by kernel_rfl)
    (of_decide_eq_true (by kernel_rfl)) (by unfold Func.isWrapper; first | (rw [if_pos (by decide +kernel)]; kernel_rfl) | (rw [if_neg (by decide +kernel)]; exact ⟨rfl, rfl⟩))
    (fun os started H enc _ => lifted os started H enc)
theorem proved : Rows.BitsFormsSaid := over
end Go.Proofs.Ytjcabmhnekcbgaa.bitsForms
namespace Go.Proofs.Ytjcabmhnekcbgaa
theorem bitsForms_holds : Rows.BitsFormsSaid := bitsForms.proved
end Go.Proofs.Ytjcabmhnekcbgaa
end
