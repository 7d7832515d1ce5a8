/- The law BitsConverts: its function's walk, the pure law, the row. Conditions: none. -/
import Derived.Test.YtjcabmhnekcbgaaRows
import Derived.WalkKit
import Derived.ProofKit
import Derived.OpenShut
import Derived.ShutString
import Derived.ChangeOld
import Derived.Below
import Derived.SizedLaws
import Derived.Carry
import Derived.Test.YtjcabmhnekcbgaaC8
set_option linter.unusedVariables false
set_option linter.unusedSimpArgs false
section
namespace Go.Proofs.Ytjcabmhnekcbgaa
open Go.Ab Go.RowKit 
set_option maxRecDepth 100000
set_option maxHeartbeats 4000000
noncomputable def d5 (a0_0 : Int) (a0_1 : Bool) (a1_0 : Int) (a1_1 : Bool) (a2 : Int) : Option (Bool) :=
  (d9).bind fun x1 =>
  (d16 a0_0 a0_1 a1_0 a1_1 a2).bind fun x2 =>
  if (notB' x1) = true then
    some x1
  else
    if (cmpLit .neq x2.2 0) = true then
      some x1
    else
      (d12 a0_0 a0_1 a2).bind fun x3 =>
      (d17 a0_0 a0_1 x3).bind fun x4 =>
      (d17 a1_0 a1_1 x2.1).bind fun x5 =>
      (d18 a1_0 a1_1 x4.1).bind fun x6 =>
      Option.bind (α := (Unit) ⊕ (Bool)) (
        if (cmpLit .eql x6.2 0) = true then
          if (cmpLit .neq x2.1 x6.1) = true then
            some (.inr false)
          else
            if (strCmp .neq x4.1 x5.1) = true then
              some (.inr false)
            else
              some (.inl ())
        else
          some (.inl ())) fun y7 =>
      match y7 with
      | .inl p8 =>
        (d16 a1_0 a1_1 a0_0 a0_1 x2.1).bind fun x9 =>
        if (cmpLit .eql x9.2 0) = true then
          if (cmpLit .lss a1_0 a0_0) = true then
            some true
          else
            some (cmpLit .eql x9.1 x3)
        else
          some false
      | .inr y7r0 =>
        some y7r0
noncomputable def w5_c : Code := (Try.f5.body).getD .skip
theorem w5_h : Try.f5.body = some w5_c := by kernel_rfl
theorem w5 (a0_0 : Int) (a0_1 : Bool) (a1_0 : Int) (a1_1 : Bool) (a2 : Int) (r : Bool) (h : d5 a0_0 a0_1 a1_0 a1_1 a2 = some r) : Ab.Fn Try.prog TT 5 [.agg [.i .i64 a0_0, .b a0_1], .agg [.i .i64 a1_0, .b a1_1], .i .i64 a2] (.b r) [] := by
  refine fn_pure tok W0 Try.func5 (by kernel_rfl) w5_h (by kernel_rfl) ?_
  intro ar un cv mn mx pl mi cmp nt beq an scmp cat slen sbyte ssub ofB toB len gi gb gs gl sub put app ovl rep ne0 ge0 inb bnd room sroom need br call loop cut nl E R K hK
  have D := E.D
  clear E
  unfold d5 at h
  cbv
  refine R.callD h (fun x1 hx1 h2 => ?_)
  clear h; have h := h2; clear h2
  refine R.call' (w9 _ hx1) (by (first | rfl | (simp only [D.hcmp, D.hnt, D.hscmp]; done) | (simp only [D.hcmp, D.hnt, D.hscmp]; rfl))) ?_
  clear hx1; cbv
  refine R.callD h (fun x2 hx2 h2 => ?_)
  clear h; have h := h2; clear h2
  refine R.call' (w16 _ _ _ _ _ _ hx2) (by (first | rfl | (simp only [D.hcmp, D.hnt, D.hscmp]; done) | (simp only [D.hcmp, D.hnt, D.hscmp]; rfl))) ?_
  clear hx2; cbv
  refine R.cut' (by kernel_rfl) (by kernel_rfl) ?_
  cbv
  refine R.cut' (by kernel_rfl) (by kernel_rfl) ?_
  cbv
  refine R.brD h (by (first | rfl | (simp only [D.hcmp, D.hnt, D.hscmp]; done) | (simp only [D.hcmp, D.hnt, D.hscmp]; rfl))) ?_ ?_ <;> clear h <;> intro h <;> cbv
  · have e := ret_some h; clear h
    refine hK _ _ ?_
    cbv
    try (subst e; simp only [D.hcmp, D.hnt, D.hscmp, and_self, and_true, true_and] <;> (repeat' apply And.intro) <;> rfl)
  · refine R.brD h (by (first | rfl | (simp only [D.hcmp, D.hnt, D.hscmp]; done) | (simp only [D.hcmp, D.hnt, D.hscmp]; rfl))) ?_ ?_ <;> clear h <;> intro h <;> cbv
    · have e := ret_some h; clear h
      refine hK _ _ ?_
      cbv
      try (subst e; simp only [D.hcmp, D.hnt, D.hscmp, and_self, and_true, true_and] <;> (repeat' apply And.intro) <;> rfl)
    · refine R.callD h (fun x3 hx3 h2 => ?_)
      clear h; have h := h2; clear h2
      refine R.call' (w12 _ _ _ _ hx3) (by (first | rfl | (simp only [D.hcmp, D.hnt, D.hscmp]; done) | (simp only [D.hcmp, D.hnt, D.hscmp]; rfl))) ?_
      clear hx3; cbv
      refine R.callD h (fun x4 hx4 h2 => ?_)
      clear h; have h := h2; clear h2
      refine R.call' (w17 _ _ _ _ hx4) (by (first | rfl | (simp only [D.hcmp, D.hnt, D.hscmp]; done) | (simp only [D.hcmp, D.hnt, D.hscmp]; rfl))) ?_
      clear hx4; cbv
      refine R.callD h (fun x5 hx5 h2 => ?_)
      clear h; have h := h2; clear h2
      refine R.call' (w17 _ _ _ _ hx5) (by (first | rfl | (simp only [D.hcmp, D.hnt, D.hscmp]; done) | (simp only [D.hcmp, D.hnt, D.hscmp]; rfl))) ?_
      clear hx5; cbv
      refine R.callD h (fun x6 hx6 h2 => ?_)
      clear h; have h := h2; clear h2
      refine R.call' (w18 _ _ _ _ hx6) (by (first | rfl | (simp only [D.hcmp, D.hnt, D.hscmp]; done) | (simp only [D.hcmp, D.hnt, D.hscmp]; rfl))) ?_
      clear hx6; cbv
      refine R.cutB Sum.inl (fun _ _ e => Sum.inl.inj e) h [] (fun p8 => []) (fun p8 => []) (by kernel_rfl) (by kernel_rfl) (fun y7 hy hFy7 L hLy7 => ?_) (fun p8 h2 => ?_)
      · clear h; have h := hy; clear hy; cbv
        refine R.cut' (by kernel_rfl) (by kernel_rfl) ?_
        cbv
        refine R.brD h (by (first | rfl | (simp only [D.hcmp, D.hnt, D.hscmp]; done) | (simp only [D.hcmp, D.hnt, D.hscmp]; rfl))) ?_ ?_ <;> clear h <;> intro h <;> cbv
        · refine R.brD h (by (first | rfl | (simp only [D.hcmp, D.hnt, D.hscmp]; done) | (simp only [D.hcmp, D.hnt, D.hscmp]; rfl))) ?_ ?_ <;> clear h <;> intro h <;> cbv
          · have e := ret_some h; clear h
            have h := hFy7; rw [e] at h; clear e; try dsimp only at h
            cbv
            have e := ret_some h; clear h
            refine hK _ _ ?_
            cbv
            try (subst e; simp only [D.hcmp, D.hnt, D.hscmp, and_self, and_true, true_and] <;> (repeat' apply And.intro) <;> rfl)
          · refine R.brD h (by (first | rfl | (simp only [D.hcmp, D.hnt, D.hscmp]; done) | (simp only [D.hcmp, D.hnt, D.hscmp]; rfl))) ?_ ?_ <;> clear h <;> intro h <;> cbv
            · have e := ret_some h; clear h
              have h := hFy7; rw [e] at h; clear e; try dsimp only at h
              cbv
              have e := ret_some h; clear h
              refine hK _ _ ?_
              cbv
              try (subst e; simp only [D.hcmp, D.hnt, D.hscmp, and_self, and_true, true_and] <;> (repeat' apply And.intro) <;> rfl)
            · obtain ⟨s', e, hi⟩ := jn_some Sum.inl h
              refine hLy7 s' _ _ hi ⟨rfl, ?_, ?_, rfl, rfl⟩ <;> cbv <;> (try (subst e; simp only [D.hcmp, D.hnt, D.hscmp, and_self, and_true, true_and] <;> (repeat' apply And.intro) <;> rfl))
        · obtain ⟨s', e, hi⟩ := jn_some Sum.inl h
          refine hLy7 s' _ _ hi ⟨rfl, ?_, ?_, rfl, rfl⟩ <;> cbv <;> (try (subst e; simp only [D.hcmp, D.hnt, D.hscmp, and_self, and_true, true_and] <;> (repeat' apply And.intro) <;> rfl))
      · clear h; have h := h2; clear h2; try dsimp only at h
        cbv
        refine R.callD h (fun x9 hx9 h2 => ?_)
        clear h; have h := h2; clear h2
        refine R.call' (w16 _ _ _ _ _ _ hx9) (by (first | rfl | (simp only [D.hcmp, D.hnt, D.hscmp]; done) | (simp only [D.hcmp, D.hnt, D.hscmp]; rfl))) ?_
        clear hx9; cbv
        refine R.cut' (by kernel_rfl) (by kernel_rfl) ?_
        cbv
        refine R.brD h (by (first | rfl | (simp only [D.hcmp, D.hnt, D.hscmp]; done) | (simp only [D.hcmp, D.hnt, D.hscmp]; rfl))) ?_ ?_ <;> clear h <;> intro h <;> cbv
        · refine R.brD h (by (first | rfl | (simp only [D.hcmp, D.hnt, D.hscmp]; done) | (simp only [D.hcmp, D.hnt, D.hscmp]; rfl))) ?_ ?_ <;> clear h <;> intro h <;> cbv
          · have e := ret_some h; clear h
            refine hK _ _ ?_
            cbv
            try (subst e; simp only [D.hcmp, D.hnt, D.hscmp, and_self, and_true, true_and] <;> (repeat' apply And.intro) <;> rfl)
          · have e := ret_some h; clear h
            refine hK _ _ ?_
            cbv
            try (subst e; simp only [D.hcmp, D.hnt, D.hscmp, and_self, and_true, true_and] <;> (repeat' apply And.intro) <;> rfl)
        · have e := ret_some h; clear h
          refine hK _ _ ?_
          cbv
          try (subst e; simp only [D.hcmp, D.hnt, D.hscmp, and_self, and_true, true_and] <;> (repeat' apply And.intro) <;> rfl)

end Go.Proofs.Ytjcabmhnekcbgaa

end
section
/- The one statement over its function that the law BitsConverts comes to. Conditions: none. -/
-- Told by a program of this seat's session. Not trusted: Lean checks it.

namespace Go.Proofs.Ytjcabmhnekcbgaa
open Go.Ab Go.RowKit
def BitsConverts.Claim : Prop := ∀ (x0 : (Int × Bool)) (x1 : (Int × Bool)) (x2 : Int), (fun x : (Int × Bool) => (fun n : Int => (Lit.int .i64 n).wf = true) x.1 ∧ (fun _ : Bool => True) x.2) x0 → (fun x : (Int × Bool) => (fun n : Int => (Lit.int .i64 n).wf = true) x.1 ∧ (fun _ : Bool => True) x.2) x1 → (fun n : Int => (Lit.int .i64 n).wf = true) x2 → Ab.Fn Try.prog TT 5 [.agg [.i .i64 x0.1, .b x0.2], .agg [.i .i64 x1.1, .b x1.2], .i .i64 x2] (.b true) []
end Go.Proofs.Ytjcabmhnekcbgaa
end
section
/- The law BitsConverts by the calculus. Conditions: none. -/

namespace Go.Proofs.Ytjcabmhnekcbgaa
open Go.Ab Go.RowKit
theorem BitsConverts.d5_true (z : Int) (b : Bool) (y : Int) (c : Bool) {v : Int} (hv : I64 v) : d5 z b y c v = some true := by
  unfold d5
  simp only [s9, s16 z b y c hv, Option.bind_some, notB']
  by_cases h : OkZ z ∧ OkZ y
  · obtain ⟨h1, h2⟩ := h
    have q1 := s12 z b hv
    rw [if_pos h1] at q1
    have hw := wT_i64 (z := z) b v
    have hx := wT_i64 (z := y) c (wT z b v)
    have q2 := s17 b h1 hw
    have q3 := s17 c h2 hx
    rw [txt_id h1] at q2
    have q4 := s18_txt b c v h1 h2
    have q5 := s16 y c z b hx
    rw [if_pos ⟨h2, h1⟩, wT_id h2] at q5
    simp only [h1, h2, and_self, if_true, q1, q2, q3, q4, q5, Option.bind_some, c_neq, c_eql, c_lss, scmp_neq]
    have last : z ≤ y → wT z b (wT y c (wT z b v)) = wT z b v := fun hl => by rw [wT_lo h1 h2 hl, wT_id h1]
    by_cases q : numT y c (wT y c (wT z b v)) = numT z b (wT z b v)
    · have e1 : wrapK .i64 (numT z b (wT z b v)) = wT y c (wT z b v) := by
        rw [← q, wk_congr (numT_mod y c _), wk_id hx]
      have e2 : txt z b v = txt y c (wT y c (wT z b v)) := by
        unfold txt; rw [wT_id h2, q]
      simp only [if_pos q, e1, ← e2]
      simp
      exact last
    · simp only [if_neg q]
      simp
      exact last
  · simp [h, c_neq]
theorem BitsConverts.pure : BitsConverts.Claim := by
  intro x0 x1 x2 h0 h1 h2
  exact w5 _ _ _ _ _ true (BitsConverts.d5_true _ _ _ _ (i64_wf' h2))
end Go.Proofs.Ytjcabmhnekcbgaa
end
section
/- BitsConverts: the law's call returns true for every input, and its arguments read afterwards as_ before. Conditions: none. -/
-- Told by a program of this seat's session. Not trusted: Lean checks it.

namespace Go.Proofs.Ytjcabmhnekcbgaa.bitsConverts
open Go.ChangeShapes Go.WideShapes Go.ChangeAt Go.RowKit Go.Ab Go.Proofs.Ytjcabmhnekcbgaa
open Go.ChangeMaps (open_string shut_string)
theorem own : ownKnob Try.prog.godebug = none := by kernel_rfl
theorem laidOut : laidOutB Try.prog = true := by kernel_rfl
set_option maxRecDepth 100000 in
set_option maxHeartbeats 8000000 in
theorem lifted (os : Os) (started : os.Started) (H : Type) (enc : TypeId × Value → H) :
    ReturnsInHanded {} Try.checked os 5 .any (Rows.bitsConvertsSpec.pre6 enc Try.prog Try.f5 Rows.bitsConvertsRow.domain false) (Rows.bitsConvertsSpec.post enc Try.prog Try.f5 false true false false) := by
  refine returnsInHanded_of_change_sized (C := Try.checked) own started (by kernel_rfl) Try.func5
    (ChangeSpec.witness6 (enc := enc) (C := Try.checked) false ⟨#[], #[.agg #[.int .i64 0, .bool false], .agg #[.int .i64 0, .bool false], .int .i64 0], []⟩ 8 (by kernel_rfl) (by kernel_rfl) (by kernel_rfl) (by kernel_rfl)) ?_
  intro W base args ds gs before hval0 hW hcnd hsz0 _
  have hval : ∀ (j : Nat) t v, Try.f5.params[j]? = some t → args[j]? = some v → Value.okWide Try.prog W .any base t v := hval0
  have hW' := hW
  obtain ⟨p, q, hA0, hV, rfl, hfz, hnd⟩ := hW
  have hA : DataW.TrodAll enc Try.prog W 0 (fun _ => true) true Try.f5.params.toList args.toList ds p := hA0
  rw [Try.params5] at hA hval
  obtain ⟨v0, vs0, d0, ds0, p0, q0, hargs, rfl, rfl, h0, r0⟩ := trodAll_cons hA
  obtain ⟨v1, vs1, d1, ds1, p1, q1, rfl, rfl, rfl, h1, r1⟩ := trodAll_cons r0
  obtain ⟨v2, vs2, d2, ds2, p2, q2, rfl, rfl, rfl, h2, r2⟩ := trodAll_cons r1
  obtain ⟨rfl, rfl, rfl⟩ := trodAll_nil r2
  obtain rfl : args = #[v0, v1, v2] := by cases args; simp_all
  obtain ⟨rfl, rfl⟩ := trodVars_none hV
  have k0 := h0
  have lt0 : ∀ x ∈ p0, x.block < W.heap.size := by obtain ⟨m, hm⟩ := k0; exact DataW.trod_lt m _ _ _ hm
  obtain ⟨cs0, rfl, sz0⟩ := okWide_struct Try.underlying23 (hval 0 23 v0 rfl rfl)
  obtain ⟨x0, ra0, rb0, _, ok0⟩ := h0.elim fun fuel hf => ((OpV.struct tok (te := te23) (by kernel_rfl) rfl (by kernel_rfl) (OpAt.cons rfl (by kernel_rfl) (OpV.int tok (e := te3) (by kernel_rfl) rfl) (OpAt.last rfl (by kernel_rfl) (OpV.bool tok (e := te4) (by kernel_rfl) rfl)))) : OpV TT enc Try.prog W 23 _ _ _) _ _ _ hf
  have k1 := h1
  have lt1 : ∀ x ∈ p1, x.block < W.heap.size := by obtain ⟨m, hm⟩ := k1; exact DataW.trod_lt m _ _ _ hm
  obtain ⟨cs1, rfl, sz1⟩ := okWide_struct Try.underlying23 (hval 1 23 v1 rfl rfl)
  obtain ⟨x1, ra1, rb1, _, ok1⟩ := h1.elim fun fuel hf => ((OpV.struct tok (te := te23) (by kernel_rfl) rfl (by kernel_rfl) (OpAt.cons rfl (by kernel_rfl) (OpV.int tok (e := te3) (by kernel_rfl) rfl) (OpAt.last rfl (by kernel_rfl) (OpV.bool tok (e := te4) (by kernel_rfl) rfl)))) : OpV TT enc Try.prog W 23 _ _ _) _ _ _ hf
  obtain ⟨x2, rfl, rfl, rfl, u2⟩ := open_int Try.underlying2 (hval 2 2 v2 rfl rfl) h2
  clear hA0 hval0 hsz0
  refine (law_calls (w := W) ⟨_, _, Try.func5, by kernel_rfl, w5_h⟩ (BitsConverts.pure x0 x1 x2 ok0 ok1 u2) (args_agg ra0 rb0 (args_agg ra1 rb1 (args_i x2 args_nil)))).mono fun e W' ⟨he, bel⟩ => ?_
  subst he
  exact ⟨_, rfl, _, _, _, [], _, [], hW', trodAll_mk1 (shut_bool Try.underlying4 _), (trodAll_cons_mk (Below.trod laidOut (by kernel_rfl) (of_decide_eq_true (by kernel_rfl)) k0 bel lt0) (trodAll_cons_mk (Below.trod laidOut (by kernel_rfl) (of_decide_eq_true (by kernel_rfl)) k1 bel lt1) (trodAll_cons_mk (shut_int Try.underlying2 u2) trodAll_mk0))), rfl, bel.frame _, fun h => by cases h⟩
theorem over : Rows.bitsConvertsRow.holds Try.pinned (OpenSpec.ofChange Rows.bitsConvertsSpec) :=
  OpenClaim.holds_of_wide 5 Try.f5 rfl rfl rfl rfl rfl rfl rfl ⟨rfl, rfl, rfl, rfl, rfl⟩ rfl rfl rfl rfl rfl (by kernel_rfl) Try.func5 (by kernel_rfl)
    (of_decide_eq_true (by kernel_rfl)) (by unfold Func.isWrapper; first | (rw [if_pos (by decide +kernel)]; kernel_rfl) | (rw [if_neg (by decide +kernel)]; exact ⟨rfl, rfl⟩))
    (fun os started H enc _ => lifted os started H enc)
theorem proved : Rows.BitsConvertsSaid := over
end Go.Proofs.Ytjcabmhnekcbgaa.bitsConverts
namespace Go.Proofs.Ytjcabmhnekcbgaa
theorem bitsConverts_holds : Rows.BitsConvertsSaid := bitsConverts.proved
end Go.Proofs.Ytjcabmhnekcbgaa
end
