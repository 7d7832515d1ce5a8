/- The law MemReads: its function's walk, the pure law, the row. Conditions: none. -/
import Derived.Test.YtmpdimigpaogkaaRows
import Derived.WalkKit
import Derived.ProofKit
import Derived.OpenShut
import Derived.ShutString
import Derived.ChangeOld
import Derived.Below
import Derived.SizedLaws
import Derived.Carry
import Derived.Test.YtmpdimigpaogkaaK5
set_option linter.unusedVariables false
set_option linter.unusedSimpArgs false
section
namespace Go.Proofs.Ytmpdimigpaogkaa
open Go.Ab Go.RowKit Go.Proofs.Ytmpdimigpaogkaa.G Go.Proofs.YtmpdimigpaogkaaW.PrintWords Go.Proofs.YtmpdimigpaogkaaW.PrintLast
set_option maxRecDepth 100000
set_option maxHeartbeats 4000000
noncomputable def d10 (a0_0 : List V) (a0_1 : List V) (a1_0 : Int) (a1_1 : Int) (a1_2 : Int) : Option (Bool) :=
  (d14).bind fun x1 =>
  (d15 a0_0 a0_1 a1_0 a1_1 a1_2).bind fun x2 =>
  (d19 a0_0 a0_1 a1_0 a1_1).bind fun x3 =>
  (d20 a0_0 a0_1 a1_0 a1_1).bind fun x4 =>
  (d36 a0_0 a0_1 a1_0 a1_1).bind fun x5 =>
  (d37 a0_0 a0_1 a1_0 a1_1 a1_2).bind fun x6 =>
  (d38 a0_0 a0_1 a1_0 a1_1).bind fun x7 =>
  (d39 a0_0 a0_1 a1_0 a1_1).bind fun x8 =>
  (d40 a0_0 a0_1 a1_0 a1_1).bind fun x9 =>
  Option.bind (α := Bool) (
    if (notB' (andB' (cmpLit .eql x2.1 x6.1) (cmpLit .eql x2.2.1 x6.2.1))) = true then
      some true
    else
      if (cmpLit .neq x2.2.2 x6.2.2) = true then
        some true
      else
        if (strCmp .neq (toBy x3.1) (toBy x7.1)) = true then
          some true
        else
          if (cmpLit .neq x3.2 x7.2.2.2) = true then
            some true
          else
            if (strCmp .neq (toBy x4.1) (toBy x8.1)) = true then
              some true
            else
              if (notB' (andB' (cmpLit .eql x4.2.1 x8.2.1) (cmpLit .eql x4.2.2.1 x8.2.2.1))) = true then
                some true
              else
                some (cmpLit .neq x4.2.2.2 x8.2.2.2)) fun y12 =>
  if y12 = true then
    some false
  else
    if x1 = true then
      if (strCmp .eql x5.1 x9.1) = true then
        if (andB' (cmpLit .eql x5.2.1 x9.2.1) (cmpLit .eql x5.2.2.1 x9.2.2.1)) = true then
          some (cmpLit .eql x5.2.2.2 x9.2.2.2)
        else
          some false
      else
        some false
    else
      some false
noncomputable def w10_c : Code := (Try.f10.body).getD .skip
theorem w10_h : Try.f10.body = some w10_c := by kernel_rfl
theorem w10 (a0_0 : List V) (a0_1 : List V) (a1_0 : Int) (a1_1 : Int) (a1_2 : Int) (r : Bool) (h : d10 a0_0 a0_1 a1_0 a1_1 a1_2 = some r) : Ab.Fn Try.prog TT 10 [.agg [.sl 3 a0_0, .sl 5 a0_1], .agg [.i .i64 a1_0, .i .i64 a1_1, .i .i64 a1_2]] (.b r) [] := by
  refine fn_pure tok W0 Try.func10 (by kernel_rfl) w10_h (by kernel_rfl) ?_
  intro ar un cv mn mx pl mi cmp nt beq an scmp cat slen sbyte ssub ofB toB len gi gb gs gl sub put app ovl rep ne0 ge0 inb bnd room sroom need br call loop cut nl E R K hK
  have D := E.D
  clear E
  unfold d10 at h
  cbv
  refine R.callD h (fun x1 hx1 h2 => ?_)
  clear h; have h := h2; clear h2
  refine R.call' (w14 _ hx1) (by (first | rfl | simp only [D.han, D.hcmp, D.hnt, D.hscmp, D.htoB])) ?_
  clear hx1; cbv
  refine R.callD h (fun x2 hx2 h2 => ?_)
  clear h; have h := h2; clear h2
  refine R.call' (w15 _ _ _ _ _ _ hx2) (by (first | rfl | simp only [D.han, D.hcmp, D.hnt, D.hscmp, D.htoB])) ?_
  clear hx2; cbv
  refine R.callD h (fun x3 hx3 h2 => ?_)
  clear h; have h := h2; clear h2
  refine R.call' (w19s _ _ _ _ _ hx3) (by (first | rfl | simp only [D.han, D.hcmp, D.hnt, D.hscmp, D.htoB])) ?_
  clear hx3; cbv
  refine R.callD h (fun x4 hx4 h2 => ?_)
  clear h; have h := h2; clear h2
  refine R.call' (w20 _ _ _ _ _ hx4) (by (first | rfl | simp only [D.han, D.hcmp, D.hnt, D.hscmp, D.htoB])) ?_
  clear hx4; cbv
  refine R.callD h (fun x5 hx5 h2 => ?_)
  clear h; have h := h2; clear h2
  refine R.call' (w36 _ _ _ _ _ hx5) (by (first | rfl | simp only [D.han, D.hcmp, D.hnt, D.hscmp, D.htoB])) ?_
  clear hx5; cbv
  refine R.callD h (fun x6 hx6 h2 => ?_)
  clear h; have h := h2; clear h2
  refine R.call' (w37 _ _ _ _ _ _ hx6) (by (first | rfl | simp only [D.han, D.hcmp, D.hnt, D.hscmp, D.htoB])) ?_
  clear hx6; cbv
  refine R.callD h (fun x7 hx7 h2 => ?_)
  clear h; have h := h2; clear h2
  refine R.call' (w38 _ _ _ _ _ hx7) (by (first | rfl | simp only [D.han, D.hcmp, D.hnt, D.hscmp, D.htoB])) ?_
  clear hx7; cbv
  refine R.callD h (fun x8 hx8 h2 => ?_)
  clear h; have h := h2; clear h2
  refine R.call' (w39 _ _ _ _ _ hx8) (by (first | rfl | simp only [D.han, D.hcmp, D.hnt, D.hscmp, D.htoB])) ?_
  clear hx8; cbv
  refine R.callD h (fun x9 hx9 h2 => ?_)
  clear h; have h := h2; clear h2
  refine R.call' (w40 _ _ _ _ _ hx9) (by (first | rfl | simp only [D.han, D.hcmp, D.hnt, D.hscmp, D.htoB])) ?_
  clear hx9; cbv
  refine R.cut' (by kernel_rfl) (by kernel_rfl) ?_
  cbv
  refine R.cutB (fun p => p) (fun _ _ e => e) h [] (fun p13 => [(130, .b p13)]) (fun p13 => []) (by kernel_rfl) (by kernel_rfl) (fun y12 hy hFy12 L hLy12 => ?_) (fun p13 h2 => ?_)
  · clear h; have h := hy; clear hy; cbv
    refine R.brD h (by (first | rfl | simp only [D.han, D.hcmp, D.hnt, D.hscmp, D.htoB])) ?_ ?_ <;> clear h <;> intro h <;> cbv
    · obtain ⟨s', e, hi⟩ := jn_some (fun p => p) h
      refine hLy12 s' _ _ hi ⟨rfl, ?_, ?_, rfl, rfl⟩ <;> cbv <;> (try (subst e; simp only [D.han, D.hcmp, D.hnt, D.hscmp, D.htoB, and_self, and_true, true_and] <;> (repeat' apply And.intro) <;> rfl))
    · refine R.brD h (by (first | rfl | simp only [D.han, D.hcmp, D.hnt, D.hscmp, D.htoB])) ?_ ?_ <;> clear h <;> intro h <;> cbv
      · obtain ⟨s', e, hi⟩ := jn_some (fun p => p) h
        refine hLy12 s' _ _ hi ⟨rfl, ?_, ?_, rfl, rfl⟩ <;> cbv <;> (try (subst e; simp only [D.han, D.hcmp, D.hnt, D.hscmp, D.htoB, and_self, and_true, true_and] <;> (repeat' apply And.intro) <;> rfl))
      · refine R.brD h (by (first | rfl | simp only [D.han, D.hcmp, D.hnt, D.hscmp, D.htoB])) ?_ ?_ <;> clear h <;> intro h <;> cbv
        · obtain ⟨s', e, hi⟩ := jn_some (fun p => p) h
          refine hLy12 s' _ _ hi ⟨rfl, ?_, ?_, rfl, rfl⟩ <;> cbv <;> (try (subst e; simp only [D.han, D.hcmp, D.hnt, D.hscmp, D.htoB, and_self, and_true, true_and] <;> (repeat' apply And.intro) <;> rfl))
        · refine R.brD h (by (first | rfl | simp only [D.han, D.hcmp, D.hnt, D.hscmp, D.htoB])) ?_ ?_ <;> clear h <;> intro h <;> cbv
          · obtain ⟨s', e, hi⟩ := jn_some (fun p => p) h
            refine hLy12 s' _ _ hi ⟨rfl, ?_, ?_, rfl, rfl⟩ <;> cbv <;> (try (subst e; simp only [D.han, D.hcmp, D.hnt, D.hscmp, D.htoB, and_self, and_true, true_and] <;> (repeat' apply And.intro) <;> rfl))
          · refine R.brD h (by (first | rfl | simp only [D.han, D.hcmp, D.hnt, D.hscmp, D.htoB])) ?_ ?_ <;> clear h <;> intro h <;> cbv
            · obtain ⟨s', e, hi⟩ := jn_some (fun p => p) h
              refine hLy12 s' _ _ hi ⟨rfl, ?_, ?_, rfl, rfl⟩ <;> cbv <;> (try (subst e; simp only [D.han, D.hcmp, D.hnt, D.hscmp, D.htoB, and_self, and_true, true_and] <;> (repeat' apply And.intro) <;> rfl))
            · refine R.brD h (by (first | rfl | simp only [D.han, D.hcmp, D.hnt, D.hscmp, D.htoB])) ?_ ?_ <;> clear h <;> intro h <;> cbv
              · obtain ⟨s', e, hi⟩ := jn_some (fun p => p) h
                refine hLy12 s' _ _ hi ⟨rfl, ?_, ?_, rfl, rfl⟩ <;> cbv <;> (try (subst e; simp only [D.han, D.hcmp, D.hnt, D.hscmp, D.htoB, and_self, and_true, true_and] <;> (repeat' apply And.intro) <;> rfl))
              · obtain ⟨s', e, hi⟩ := jn_some (fun p => p) h
                refine hLy12 s' _ _ hi ⟨rfl, ?_, ?_, rfl, rfl⟩ <;> cbv <;> (try (subst e; simp only [D.han, D.hcmp, D.hnt, D.hscmp, D.htoB, and_self, and_true, true_and] <;> (repeat' apply And.intro) <;> rfl))
  · clear h; have h := h2; clear h2; try dsimp only at h
    cbv
    refine R.brD h (by (first | rfl | simp only [D.han, D.hcmp, D.hnt, D.hscmp, D.htoB])) ?_ ?_ <;> clear h <;> intro h <;> cbv
    · have e := ret_some h; clear h
      refine hK _ _ ?_
      cbv
      try (subst e; simp only [D.han, D.hcmp, D.hnt, D.hscmp, D.htoB, and_self, and_true, true_and] <;> (repeat' apply And.intro) <;> rfl)
    · refine R.cut' (by kernel_rfl) (by kernel_rfl) ?_
      cbv
      refine R.brD h (by (first | rfl | simp only [D.han, D.hcmp, D.hnt, D.hscmp, D.htoB])) ?_ ?_ <;> clear h <;> intro h <;> cbv
      · refine R.brD h (by (first | rfl | simp only [D.han, D.hcmp, D.hnt, D.hscmp, D.htoB])) ?_ ?_ <;> clear h <;> intro h <;> cbv
        · refine R.brD h (by (first | rfl | simp only [D.han, D.hcmp, D.hnt, D.hscmp, D.htoB])) ?_ ?_ <;> clear h <;> intro h <;> cbv
          · have e := ret_some h; clear h
            refine hK _ _ ?_
            cbv
            try (subst e; simp only [D.han, D.hcmp, D.hnt, D.hscmp, D.htoB, and_self, and_true, true_and] <;> (repeat' apply And.intro) <;> rfl)
          · have e := ret_some h; clear h
            refine hK _ _ ?_
            cbv
            try (subst e; simp only [D.han, D.hcmp, D.hnt, D.hscmp, D.htoB, and_self, and_true, true_and] <;> (repeat' apply And.intro) <;> rfl)
        · have e := ret_some h; clear h
          refine hK _ _ ?_
          cbv
          try (subst e; simp only [D.han, D.hcmp, D.hnt, D.hscmp, D.htoB, and_self, and_true, true_and] <;> (repeat' apply And.intro) <;> rfl)
      · have e := ret_some h; clear h
        refine hK _ _ ?_
        cbv
        try (subst e; simp only [D.han, D.hcmp, D.hnt, D.hscmp, D.htoB, and_self, and_true, true_and] <;> (repeat' apply And.intro) <;> rfl)
end Go.Proofs.Ytmpdimigpaogkaa

end
section
/- The one statement over its function that the law MemReads comes to. Conditions: none. -/
-- Told by a program of this seat's session. Not trusted: Lean checks it.

namespace Go.Proofs.Ytmpdimigpaogkaa
open Go.Ab Go.RowKit
def MemReads.Claim : Prop := ∀ (x0 : ((List Int) × (List Int))) (x1 : (Int × (Int × Int))), (fun x : ((List Int) × (List Int)) => (fun l : List Int => l.length ≤ maxLen ∧ ∀ x ∈ l, (fun n : Int => (Lit.int .i64 n).wf = true) x) x.1 ∧ (fun l : List Int => l.length ≤ maxLen ∧ ∀ x ∈ l, (fun n : Int => (Lit.int .u8 n).wf = true) x) x.2) x0 → (fun x : (Int × (Int × Int)) => (fun n : Int => (Lit.int .i64 n).wf = true) x.1 ∧ (fun x : (Int × Int) => (fun n : Int => (Lit.int .i64 n).wf = true) x.1 ∧ (fun n : Int => (Lit.int .i64 n).wf = true) x.2) x.2) x1 → Ab.Fn Try.prog TT 10 [.agg [.sl 3 (x0.1.map (fun x : Int => .i .i64 x)), .sl 5 (x0.2.map (fun x : Int => .i .u8 x))], .agg [.i .i64 x1.1, .i .i64 x1.2.1, .i .i64 x1.2.2]] (.b true) []
end Go.Proofs.Ytmpdimigpaogkaa
end
section
/- The law MemReads: Access, Fetch, Peek and String answer as_ the reference. Conditions: none. -/

namespace Go.Proofs.Ytmpdimigpaogkaa
open Go.Ab Go.RowKit Go.Proofs.Ytmpdimigpaogkaa.G Go.Proofs.YtmpdimigpaogkaaW.PrintWords Go.Proofs.YtmpdimigpaogkaaW.PrintLast
theorem d10_true (P B : List Int) (at_ n p : Int) (ha : -9223372036854775808 ≤ at_ ∧ at_ ≤ 9223372036854775807) : d10 (ints P) (u8s B) at_ n p = some true := by
  obtain ⟨r, hr⟩ := str_some P B at_ n
  unfold d10
  rw [s14, Option.bind_some, s15, Option.bind_some, s19f, Option.bind_some, s20 P B at_ n ha, Option.bind_some, s36, hr, Option.bind_some, s37, Option.bind_some, s38f, Option.bind_some, s39 P B at_ n ha, Option.bind_some, s40, hr, Option.bind_some]
  simp [c_eql, c_neq, andB', notB', cmp_refl, cmp_refl']
theorem MemReads.pure : MemReads.Claim := by
  intro x0 x1 h0 h1
  exact w10 (ints x0.1) (u8s x0.2) x1.1 x1.2.1 x1.2.2 true (d10_true x0.1 x0.2 x1.1 x1.2.1 x1.2.2 (wf64 h1.1))
end Go.Proofs.Ytmpdimigpaogkaa
end
section
/- MemReads: the law's call returns true for every input, and its arguments read afterwards as_ before. Conditions: none. -/
-- Told by a program of this seat's session. Not trusted: Lean checks it.

namespace Go.Proofs.Ytmpdimigpaogkaa.memReads
open Go.ChangeShapes Go.WideShapes Go.ChangeAt Go.RowKit Go.Ab Go.Proofs.Ytmpdimigpaogkaa
open Go.ChangeMaps (open_string shut_string)
theorem own : ownKnob Try.prog.godebug = none := by kernel_rfl
theorem laidOut : laidOutB Try.prog = true := by kernel_rfl
set_option maxRecDepth 100000 in
set_option maxHeartbeats 8000000 in
theorem lifted (os : Os) (started : os.Started) (H : Type) (enc : TypeId × Value → H) :
    ReturnsInHanded {} Try.checked os 10 .any (Rows.memReadsSpec.pre6 enc Try.prog Try.f10 Rows.memReadsRow.domain false) (Rows.memReadsSpec.post enc Try.prog Try.f10 false true false false) := by
  refine returnsInHanded_of_change_sized (C := Try.checked) own started (by kernel_rfl) Try.func10
    (ChangeSpec.witness6 (enc := enc) (C := Try.checked) false ⟨#[], #[.agg #[.slice none 0 0, .slice none 0 0], .agg #[.int .i64 0, .int .i64 0, .int .i64 0]], []⟩ 8 (by kernel_rfl) (by kernel_rfl) (by kernel_rfl) (by kernel_rfl)) ?_
  intro W base args ds gs before hval0 hW hcnd hsz0 _
  have hval : ∀ (j : Nat) t v, Try.f10.params[j]? = some t → args[j]? = some v → Value.okWide Try.prog W .any base t v := hval0
  have hW' := hW
  obtain ⟨p, q, hA0, hV, rfl, hfz, hnd⟩ := hW
  have hA : DataW.TrodAll enc Try.prog W 0 (fun _ => true) true Try.f10.params.toList args.toList ds p := hA0
  rw [Try.params10] at hA hval
  obtain ⟨v0, vs0, d0, ds0, p0, q0, hargs, rfl, rfl, h0, r0⟩ := trodAll_cons hA
  obtain ⟨v1, vs1, d1, ds1, p1, q1, rfl, rfl, rfl, h1, r1⟩ := trodAll_cons r0
  obtain ⟨rfl, rfl, rfl⟩ := trodAll_nil r1
  obtain rfl : args = #[v0, v1] := by cases args; simp_all
  obtain ⟨rfl, rfl⟩ := trodVars_none hV
  have k0 := h0
  have lt0 : ∀ x ∈ p0, x.block < W.heap.size := by obtain ⟨m, hm⟩ := k0; exact DataW.trod_lt m _ _ _ hm
  obtain ⟨cs0, rfl, sz0⟩ := okWide_struct Try.underlying25 (hval 0 25 v0 rfl rfl)
  obtain ⟨x0, ra0, rb0, _, ok0⟩ := h0.elim fun fuel hf => ((OpV.struct tok (te := te25) (by kernel_rfl) rfl (by kernel_rfl) (OpAt.cons rfl (by kernel_rfl) (OpV.slice tok (fun x : Int => .i .i64 x) (te := te22) (eu := te3) (by kernel_rfl) rfl (by kernel_rfl) (by decide) (by kernel_rfl) (.inr ⟨by kernel_rfl, rfl, fun _ => rfl⟩) (OpV.int tok (e := te3) (by kernel_rfl) rfl)) (OpAt.last rfl (by kernel_rfl) (OpV.slice tok (fun x : Int => .i .u8 x) (te := te23) (eu := te5) (by kernel_rfl) rfl (by kernel_rfl) (by decide) (by kernel_rfl) (.inr ⟨by kernel_rfl, rfl, fun _ => rfl⟩) (OpV.int tok (e := te5) (by kernel_rfl) rfl))))) : OpV TT enc Try.prog W 25 _ _ _) _ _ _ hf
  have k1 := h1
  have lt1 : ∀ x ∈ p1, x.block < W.heap.size := by obtain ⟨m, hm⟩ := k1; exact DataW.trod_lt m _ _ _ hm
  obtain ⟨cs1, rfl, sz1⟩ := okWide_struct Try.underlying27 (hval 1 27 v1 rfl rfl)
  obtain ⟨x1, ra1, rb1, _, ok1⟩ := h1.elim fun fuel hf => ((OpV.struct tok (te := te27) (by kernel_rfl) rfl (by kernel_rfl) (OpAt.cons rfl (by kernel_rfl) (OpV.int tok (e := te2) (by kernel_rfl) rfl) (OpAt.cons rfl (by kernel_rfl) (OpV.int tok (e := te3) (by kernel_rfl) rfl) (OpAt.last rfl (by kernel_rfl) (OpV.int tok (e := te3) (by kernel_rfl) rfl))))) : OpV TT enc Try.prog W 27 _ _ _) _ _ _ hf
  clear hA0 hval0 hsz0
  refine (law_calls (w := W) (MemReads.pure x0 x1 ok0 ok1) (args_agg ra0 rb0 (args_agg ra1 rb1 args_nil))).mono fun e W' ⟨he, bel⟩ => ?_
  subst he
  exact ⟨_, rfl, _, _, _, [], _, [], hW', trodAll_mk1 (shut_bool Try.underlying4 _), (trodAll_cons_mk (Below.trod laidOut (by kernel_rfl) (of_decide_eq_true (by kernel_rfl)) k0 bel lt0) (trodAll_cons_mk (Below.trod laidOut (by kernel_rfl) (of_decide_eq_true (by kernel_rfl)) k1 bel lt1) trodAll_mk0)), rfl, bel.frame _, fun h => by cases h⟩
theorem over : Rows.memReadsRow.holds Try.pinned (OpenSpec.ofChange Rows.memReadsSpec) :=
  OpenClaim.holds_of_wide 10 Try.f10 rfl rfl rfl rfl rfl rfl rfl ⟨rfl, rfl, rfl, rfl, rfl⟩ rfl rfl rfl rfl rfl (by kernel_rfl) Try.func10 (by kernel_rfl)
    (of_decide_eq_true (by kernel_rfl)) (by unfold Func.isWrapper; first | (rw [if_pos (by decide +kernel)]; kernel_rfl) | (rw [if_neg (by decide +kernel)]; exact ⟨rfl, rfl⟩))
    (fun os started H enc _ => lifted os started H enc)
theorem proved : Rows.MemReadsSaid := over
end Go.Proofs.Ytmpdimigpaogkaa.memReads
namespace Go.Proofs.Ytmpdimigpaogkaa
theorem memReads_holds : Rows.MemReadsSaid := memReads.proved
end Go.Proofs.Ytmpdimigpaogkaa
end
