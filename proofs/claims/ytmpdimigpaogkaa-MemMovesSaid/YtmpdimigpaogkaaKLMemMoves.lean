/- The law MemMoves: its function's walk, the pure law, the row. Conditions: none. -/
import Derived.Test.YtmpdimigpaogkaaRows
import Derived.WalkKit
import Derived.ProofKit
import Derived.OpenShut
import Derived.ShutString
import Derived.ChangeOld
import Derived.Below
import Derived.SizedLaws
import Derived.Carry
import Derived.Test.YtmpdimigpaogkaaK5
set_option linter.unusedVariables false
set_option linter.unusedSimpArgs false
section
namespace Go.Proofs.Ytmpdimigpaogkaa
open Go.Ab Go.RowKit Go.Proofs.Ytmpdimigpaogkaa.G Go.Proofs.YtmpdimigpaogkaaW.PrintWords Go.Proofs.YtmpdimigpaogkaaW.PrintLast
set_option maxRecDepth 100000
set_option maxHeartbeats 4000000
noncomputable def d8 (a0_0 : List V) (a0_1 : List V) (a1_0 : Int) (a1_1 : Int) (a1_2 : Bool) (a1_3 : Int) (a2 : List V) : Option (Bool) :=
  (d14).bind fun x1 =>
  (d16 a0_0 a0_1 a1_0 a1_1 a1_2).bind fun x2 =>
  (d17 a0_0 a0_1 a1_0 a1_1 a1_2 a1_3).bind fun x3 =>
  (d32 a0_0 a0_1 a1_0 a2).bind fun x4 =>
  (d33 a0_0 a0_1 a1_0 a1_1 a1_2).bind fun x5 =>
  (d34 a0_0 a0_1 a1_0 a1_1 a1_2 a1_3).bind fun x6 =>
  (d35 a0_0 a0_1 a1_0 a2).bind fun x7 =>
  if x1 = true then
    if (cmpLit .eql x2.1 x5.1) = true then
      if (andB' (cmpLit .eql x2.2.1 x5.2.1) (cmpLit .eql x2.2.2.1 x5.2.2.1)) = true then
        if (cmpLit .eql x2.2.2.2 x5.2.2.2) = true then
          (d28 x3.1 x3.2.1 x6.1 x6.2.1).bind fun x10 =>
          if x10 = true then
            if (andB' (cmpLit .eql x3.2.2.1 x6.2.2.1) (cmpLit .eql x3.2.2.2.1 x6.2.2.2.1)) = true then
              if (cmpLit .eql x3.2.2.2.2 x6.2.2.2.2) = true then
                (d28 x4.1 x4.2.1 x7.1 x7.2.1).bind fun x11 =>
                if x11 = true then
                  if (andB' (cmpLit .eql x4.2.2.1 x7.2.2.1) (cmpLit .eql x4.2.2.2.1 x7.2.2.2.1)) = true then
                    some (cmpLit .eql x4.2.2.2.2 x7.2.2.2.2)
                  else
                    some false
                else
                  some false
              else
                some false
            else
              some false
          else
            some false
        else
          some false
      else
        some false
    else
      some false
  else
    some false
noncomputable def w8_c : Code := (Try.f8.body).getD .skip
theorem w8_h : Try.f8.body = some w8_c := by kernel_rfl
theorem w8 (a0_0 : List V) (a0_1 : List V) (a1_0 : Int) (a1_1 : Int) (a1_2 : Bool) (a1_3 : Int) (a2 : List V) (r : Bool) (h : d8 a0_0 a0_1 a1_0 a1_1 a1_2 a1_3 a2 = some r) : Ab.Fn Try.prog TT 8 [.agg [.sl 3 a0_0, .sl 5 a0_1], .agg [.i .i64 a1_0, .i .i64 a1_1, .b a1_2, .i .i64 a1_3], .sl 5 a2] (.b r) [] := by
  refine fn_pure tok W0 Try.func8 (by kernel_rfl) w8_h (by kernel_rfl) ?_
  intro ar un cv mn mx pl mi cmp nt beq an scmp cat slen sbyte ssub ofB toB len gi gb gs gl sub put app ovl rep ne0 ge0 inb bnd room sroom need br call loop cut nl E R K hK
  have D := E.D
  clear E
  unfold d8 at h
  cbv
  refine R.callD h (fun x1 hx1 h2 => ?_)
  clear h; have h := h2; clear h2
  refine R.call' (w14 _ hx1) (by (first | rfl | simp only [D.han, D.hcmp])) ?_
  clear hx1; cbv
  refine R.callD h (fun x2 hx2 h2 => ?_)
  clear h; have h := h2; clear h2
  refine R.call' (w16 _ _ _ _ _ _ hx2) (by (first | rfl | simp only [D.han, D.hcmp])) ?_
  clear hx2; cbv
  refine R.callD h (fun x3 hx3 h2 => ?_)
  clear h; have h := h2; clear h2
  refine R.call' (w17s _ _ _ _ _ _ _ hx3) (by (first | rfl | simp only [D.han, D.hcmp])) ?_
  clear hx3; cbv
  refine R.callD h (fun x4 hx4 h2 => ?_)
  clear h; have h := h2; clear h2
  refine R.call' (w32s _ _ _ _ _ hx4) (by (first | rfl | simp only [D.han, D.hcmp])) ?_
  clear hx4; cbv
  refine R.callD h (fun x5 hx5 h2 => ?_)
  clear h; have h := h2; clear h2
  refine R.call' (w33 _ _ _ _ _ _ hx5) (by (first | rfl | simp only [D.han, D.hcmp])) ?_
  clear hx5; cbv
  refine R.callD h (fun x6 hx6 h2 => ?_)
  clear h; have h := h2; clear h2
  refine R.call' (w34 _ _ _ _ _ _ _ hx6) (by (first | rfl | simp only [D.han, D.hcmp])) ?_
  clear hx6; cbv
  refine R.callD h (fun x7 hx7 h2 => ?_)
  clear h; have h := h2; clear h2
  refine R.call' (w35 _ _ _ _ _ hx7) (by (first | rfl | simp only [D.han, D.hcmp])) ?_
  clear hx7; cbv
  refine R.cut' (by kernel_rfl) (by kernel_rfl) ?_
  cbv
  refine R.brD h (by (first | rfl | simp only [D.han, D.hcmp])) ?_ ?_ <;> clear h <;> intro h <;> cbv
  · refine R.brD h (by (first | rfl | simp only [D.han, D.hcmp])) ?_ ?_ <;> clear h <;> intro h <;> cbv
    · refine R.brD h (by (first | rfl | simp only [D.han, D.hcmp])) ?_ ?_ <;> clear h <;> intro h <;> cbv
      · refine R.brD h (by (first | rfl | simp only [D.han, D.hcmp])) ?_ ?_ <;> clear h <;> intro h <;> cbv
        · refine R.callD h (fun x10 hx10 h2 => ?_)
          clear h; have h := h2; clear h2
          refine R.call' (w28 _ _ _ _ _ hx10) (by (first | rfl | simp only [D.han, D.hcmp])) ?_
          clear hx10; cbv
          refine R.brD h (by (first | rfl | simp only [D.han, D.hcmp])) ?_ ?_ <;> clear h <;> intro h <;> cbv
          · refine R.brD h (by (first | rfl | simp only [D.han, D.hcmp])) ?_ ?_ <;> clear h <;> intro h <;> cbv
            · refine R.brD h (by (first | rfl | simp only [D.han, D.hcmp])) ?_ ?_ <;> clear h <;> intro h <;> cbv
              · refine R.callD h (fun x11 hx11 h2 => ?_)
                clear h; have h := h2; clear h2
                refine R.call' (w28 _ _ _ _ _ hx11) (by (first | rfl | simp only [D.han, D.hcmp])) ?_
                clear hx11; cbv
                refine R.brD h (by (first | rfl | simp only [D.han, D.hcmp])) ?_ ?_ <;> clear h <;> intro h <;> cbv
                · refine R.brD h (by (first | rfl | simp only [D.han, D.hcmp])) ?_ ?_ <;> clear h <;> intro h <;> cbv
                  · have e := ret_some h; clear h
                    refine hK _ _ ?_
                    cbv
                    try (subst e; simp only [D.han, D.hcmp, and_self, and_true, true_and] <;> (repeat' apply And.intro) <;> rfl)
                  · have e := ret_some h; clear h
                    refine hK _ _ ?_
                    cbv
                    try (subst e; simp only [D.han, D.hcmp, and_self, and_true, true_and] <;> (repeat' apply And.intro) <;> rfl)
                · have e := ret_some h; clear h
                  refine hK _ _ ?_
                  cbv
                  try (subst e; simp only [D.han, D.hcmp, and_self, and_true, true_and] <;> (repeat' apply And.intro) <;> rfl)
              · have e := ret_some h; clear h
                refine hK _ _ ?_
                cbv
                try (subst e; simp only [D.han, D.hcmp, and_self, and_true, true_and] <;> (repeat' apply And.intro) <;> rfl)
            · have e := ret_some h; clear h
              refine hK _ _ ?_
              cbv
              try (subst e; simp only [D.han, D.hcmp, and_self, and_true, true_and] <;> (repeat' apply And.intro) <;> rfl)
          · have e := ret_some h; clear h
            refine hK _ _ ?_
            cbv
            try (subst e; simp only [D.han, D.hcmp, and_self, and_true, true_and] <;> (repeat' apply And.intro) <;> rfl)
        · have e := ret_some h; clear h
          refine hK _ _ ?_
          cbv
          try (subst e; simp only [D.han, D.hcmp, and_self, and_true, true_and] <;> (repeat' apply And.intro) <;> rfl)
      · have e := ret_some h; clear h
        refine hK _ _ ?_
        cbv
        try (subst e; simp only [D.han, D.hcmp, and_self, and_true, true_and] <;> (repeat' apply And.intro) <;> rfl)
    · have e := ret_some h; clear h
      refine hK _ _ ?_
      cbv
      try (subst e; simp only [D.han, D.hcmp, and_self, and_true, true_and] <;> (repeat' apply And.intro) <;> rfl)
  · have e := ret_some h; clear h
    refine hK _ _ ?_
    cbv
    try (subst e; simp only [D.han, D.hcmp, and_self, and_true, true_and] <;> (repeat' apply And.intro) <;> rfl)
end Go.Proofs.Ytmpdimigpaogkaa

end
section
/- The one statement over its function that the law MemMoves comes to. Conditions: none. -/
-- Told by a program of this seat's session. Not trusted: Lean checks it.

namespace Go.Proofs.Ytmpdimigpaogkaa
open Go.Ab Go.RowKit
def MemMoves.Claim : Prop := ∀ (x0 : ((List Int) × (List Int))) (x1 : (Int × ((Int × Bool) × Int))) (x2 : (List Int)), (fun x : ((List Int) × (List Int)) => (fun l : List Int => l.length ≤ maxLen ∧ ∀ x ∈ l, (fun n : Int => (Lit.int .i64 n).wf = true) x) x.1 ∧ (fun l : List Int => l.length ≤ maxLen ∧ ∀ x ∈ l, (fun n : Int => (Lit.int .u8 n).wf = true) x) x.2) x0 → (fun x : (Int × ((Int × Bool) × Int)) => (fun n : Int => (Lit.int .i64 n).wf = true) x.1 ∧ (fun x : ((Int × Bool) × Int) => (fun x : (Int × Bool) => (fun n : Int => (Lit.int .i64 n).wf = true) x.1 ∧ (fun _ : Bool => True) x.2) x.1 ∧ (fun n : Int => (Lit.int .i64 n).wf = true) x.2) x.2) x1 → (fun l : List Int => l.length ≤ maxLen ∧ ∀ x ∈ l, (fun n : Int => (Lit.int .u8 n).wf = true) x) x2 → Ab.Fn Try.prog TT 8 [.agg [.sl 3 (x0.1.map (fun x : Int => .i .i64 x)), .sl 5 (x0.2.map (fun x : Int => .i .u8 x))], .agg [.i .i64 x1.1, .i .i64 x1.2.1.1, .b x1.2.1.2, .i .i64 x1.2.2], .sl 5 (x2.map (fun x : Int => .i .u8 x))] (.b true) []
end Go.Proofs.Ytmpdimigpaogkaa
end
section
/- The law MemMoves: Load, Store and Poke answer as_ the reference. Conditions: none. -/

namespace Go.Proofs.Ytmpdimigpaogkaa
open Go.Ab Go.RowKit Go.Proofs.Ytmpdimigpaogkaa.G Go.Proofs.YtmpdimigpaogkaaW.PrintWords Go.Proofs.YtmpdimigpaogkaaW.PrintLast
theorem d8_true (P B : List Int) (hB : Bytes B) (hP : ln P ≤ 9223372036854775807) (at_ a : Int) (b : Bool) (v : Int) (ha : -9223372036854775808 ≤ at_ ∧ at_ ≤ 9223372036854775807) (hv : -9223372036854775808 ≤ v ∧ v ≤ 9223372036854775807) (c : List Int) (hc : Bytes c) : d8 (ints P) (u8s B) at_ a b v (u8s c) = some true := by
  obtain ⟨P1, B1, e1, e2, h1, h2⟩ := storeV_form hB hP at_ a b v
  obtain ⟨P2, B2, e3, e4, h3, h4⟩ := pokeV_form hB hc hP at_
  unfold d8
  rw [s14, Option.bind_some, s16 P B hB at_ ha a b, Option.bind_some, s17 P B at_ ha a b v, Option.bind_some, s32 P B at_ ha c, Option.bind_some, s33 P B hB at_ ha a b, Option.bind_some, s34 P B at_ ha a b v hv, Option.bind_some, s35 P B at_ ha c, Option.bind_some]
  rw [e1, e2, e3, e4, same_true h1 h2, same_true h3 h4]
  simp [c_eql, andB']
theorem MemMoves.pure : MemMoves.Claim := by
  intro x0 x1 x2 h0 h1 h2
  exact w8 (ints x0.1) (u8s x0.2) x1.1 x1.2.1.1 x1.2.1.2 x1.2.2 (u8s x2) true (d8_true x0.1 x0.2 (bytesWf h0.2.2) (lnmax h0.1.1) x1.1 x1.2.1.1 x1.2.1.2 x1.2.2 (wf64 h1.1) (wf64 h1.2.2) x2 (bytesWf h2.2))
end Go.Proofs.Ytmpdimigpaogkaa
end
section
/- MemMoves: the law's call returns true for every input, and its arguments read afterwards as_ before. Conditions: none. -/
-- Told by a program of this seat's session. Not trusted: Lean checks it.

namespace Go.Proofs.Ytmpdimigpaogkaa.memMoves
open Go.ChangeShapes Go.WideShapes Go.ChangeAt Go.RowKit Go.Ab Go.Proofs.Ytmpdimigpaogkaa
open Go.ChangeMaps (open_string shut_string)
theorem own : ownKnob Try.prog.godebug = none := by kernel_rfl
theorem laidOut : laidOutB Try.prog = true := by kernel_rfl
set_option maxRecDepth 100000 in
set_option maxHeartbeats 8000000 in
theorem lifted (os : Os) (started : os.Started) (H : Type) (enc : TypeId × Value → H) :
    ReturnsInHanded {} Try.checked os 8 .any (Rows.memMovesSpec.pre6 enc Try.prog Try.f8 Rows.memMovesRow.domain false) (Rows.memMovesSpec.post enc Try.prog Try.f8 false true false false) := by
  refine returnsInHanded_of_change_sized (C := Try.checked) own started (by kernel_rfl) Try.func8
    (ChangeSpec.witness6 (enc := enc) (C := Try.checked) false ⟨#[], #[.agg #[.slice none 0 0, .slice none 0 0], .agg #[.int .i64 0, .int .i64 0, .bool false, .int .i64 0], .slice none 0 0], []⟩ 8 (by kernel_rfl) (by kernel_rfl) (by kernel_rfl) (by kernel_rfl)) ?_
  intro W base args ds gs before hval0 hW hcnd hsz0 _
  have hval : ∀ (j : Nat) t v, Try.f8.params[j]? = some t → args[j]? = some v → Value.okWide Try.prog W .any base t v := hval0
  have hW' := hW
  obtain ⟨p, q, hA0, hV, rfl, hfz, hnd⟩ := hW
  have hA : DataW.TrodAll enc Try.prog W 0 (fun _ => true) true Try.f8.params.toList args.toList ds p := hA0
  rw [Try.params8] at hA hval
  obtain ⟨v0, vs0, d0, ds0, p0, q0, hargs, rfl, rfl, h0, r0⟩ := trodAll_cons hA
  obtain ⟨v1, vs1, d1, ds1, p1, q1, rfl, rfl, rfl, h1, r1⟩ := trodAll_cons r0
  obtain ⟨v2, vs2, d2, ds2, p2, q2, rfl, rfl, rfl, h2, r2⟩ := trodAll_cons r1
  obtain ⟨rfl, rfl, rfl⟩ := trodAll_nil r2
  obtain rfl : args = #[v0, v1, v2] := by cases args; simp_all
  obtain ⟨rfl, rfl⟩ := trodVars_none hV
  have k0 := h0
  have lt0 : ∀ x ∈ p0, x.block < W.heap.size := by obtain ⟨m, hm⟩ := k0; exact DataW.trod_lt m _ _ _ hm
  obtain ⟨cs0, rfl, sz0⟩ := okWide_struct Try.underlying25 (hval 0 25 v0 rfl rfl)
  obtain ⟨x0, ra0, rb0, _, ok0⟩ := h0.elim fun fuel hf => ((OpV.struct tok (te := te25) (by kernel_rfl) rfl (by kernel_rfl) (OpAt.cons rfl (by kernel_rfl) (OpV.slice tok (fun x : Int => .i .i64 x) (te := te22) (eu := te3) (by kernel_rfl) rfl (by kernel_rfl) (by decide) (by kernel_rfl) (.inr ⟨by kernel_rfl, rfl, fun _ => rfl⟩) (OpV.int tok (e := te3) (by kernel_rfl) rfl)) (OpAt.last rfl (by kernel_rfl) (OpV.slice tok (fun x : Int => .i .u8 x) (te := te23) (eu := te5) (by kernel_rfl) rfl (by kernel_rfl) (by decide) (by kernel_rfl) (.inr ⟨by kernel_rfl, rfl, fun _ => rfl⟩) (OpV.int tok (e := te5) (by kernel_rfl) rfl))))) : OpV TT enc Try.prog W 25 _ _ _) _ _ _ hf
  have k1 := h1
  have lt1 : ∀ x ∈ p1, x.block < W.heap.size := by obtain ⟨m, hm⟩ := k1; exact DataW.trod_lt m _ _ _ hm
  obtain ⟨cs1, rfl, sz1⟩ := okWide_struct Try.underlying31 (hval 1 31 v1 rfl rfl)
  obtain ⟨x1, ra1, rb1, _, ok1⟩ := h1.elim fun fuel hf => ((OpV.struct tok (te := te31) (by kernel_rfl) rfl (by kernel_rfl) (OpAt.cons rfl (by kernel_rfl) (OpV.int tok (e := te2) (by kernel_rfl) rfl) (OpAt.cons rfl (by kernel_rfl) (OpV.struct tok (te := te29) (by kernel_rfl) rfl (by kernel_rfl) (OpAt.cons rfl (by kernel_rfl) (OpV.int tok (e := te3) (by kernel_rfl) rfl) (OpAt.last rfl (by kernel_rfl) (OpV.bool tok (e := te4) (by kernel_rfl) rfl)))) (OpAt.last rfl (by kernel_rfl) (OpV.int tok (e := te2) (by kernel_rfl) rfl))))) : OpV TT enc Try.prog W 31 _ _ _) _ _ _ hf
  have k2 := h2
  have lt2 : ∀ x ∈ p2, x.block < W.heap.size := by obtain ⟨m, hm⟩ := k2; exact DataW.trod_lt m _ _ _ hm
  obtain ⟨aa2, ll2, cc2, rfl⟩ := okWide_slice Try.underlying23 (hval 2 23 v2 rfl rfl)
  obtain ⟨x2, ra2, rb2, _, ok2⟩ := h2.elim fun fuel hf => ((OpV.slice tok (fun x : Int => .i .u8 x) (te := te23) (eu := te5) (by kernel_rfl) rfl (by kernel_rfl) (by decide) (by kernel_rfl) (.inr ⟨by kernel_rfl, rfl, fun _ => rfl⟩) (OpV.int tok (e := te5) (by kernel_rfl) rfl)) : OpV TT enc Try.prog W 23 _ _ _) _ _ _ hf
  clear hA0 hval0 hsz0
  refine (law_calls (w := W) (MemMoves.pure x0 x1 x2 ok0 ok1 ok2) (args_agg ra0 rb0 (args_agg ra1 rb1 (args_one ra2 args_nil)))).mono fun e W' ⟨he, bel⟩ => ?_
  subst he
  exact ⟨_, rfl, _, _, _, [], _, [], hW', trodAll_mk1 (shut_bool Try.underlying4 _), (trodAll_cons_mk (Below.trod laidOut (by kernel_rfl) (of_decide_eq_true (by kernel_rfl)) k0 bel lt0) (trodAll_cons_mk (Below.trod laidOut (by kernel_rfl) (of_decide_eq_true (by kernel_rfl)) k1 bel lt1) (trodAll_cons_mk (Below.trod laidOut (by kernel_rfl) (of_decide_eq_true (by kernel_rfl)) k2 bel lt2) trodAll_mk0))), rfl, bel.frame _, fun h => by cases h⟩
theorem over : Rows.memMovesRow.holds Try.pinned (OpenSpec.ofChange Rows.memMovesSpec) :=
  OpenClaim.holds_of_wide 8 Try.f8 rfl rfl rfl rfl rfl rfl rfl ⟨rfl, rfl, rfl, rfl, rfl⟩ rfl rfl rfl rfl rfl (by kernel_rfl) Try.func8 (by kernel_rfl)
    (of_decide_eq_true (by kernel_rfl)) (by unfold Func.isWrapper; first | (rw [if_pos (by decide +kernel)]; kernel_rfl) | (rw [if_neg (by decide +kernel)]; exact ⟨rfl, rfl⟩))
    (fun os started H enc _ => lifted os started H enc)
theorem proved : Rows.MemMovesSaid := over
end Go.Proofs.Ytmpdimigpaogkaa.memMoves
namespace Go.Proofs.Ytmpdimigpaogkaa
theorem memMoves_holds : Rows.MemMovesSaid := memMoves.proved
end Go.Proofs.Ytmpdimigpaogkaa
end
