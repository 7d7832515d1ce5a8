/- The law BitsOperates: its function's walk, the pure law, the row. Conditions: none. -/
import Derived.Test.YtjcabmhnekcbgaaDoorRows
import Derived.Test.YtjcabmhnekcbgaaDoorCards
import Derived.Test.YtjcabmhnekcbgaaDoorTie
import Derived.WalkKit
import Derived.ProofKit
import Derived.OpenShut
import Derived.ShutString
import Derived.ChangeOld
import Derived.Below
import Derived.SizedLaws
import Derived.Carry
import Derived.LaidMore
import Derived.Stop.Joined
import Derived.SevenTiedAt
import Derived.Test.YtjcabmhnekcbgaaDoorDA5
set_option linter.unusedVariables false
set_option linter.unusedSimpArgs false
section
namespace Go.Proofs.YtjcabmhnekcbgaaDoor
open Go.Ab Go.RowKit 
set_option maxRecDepth 100000
set_option maxHeartbeats 40000000
noncomputable def w4_c : Code := (Tryd.f4.body).getD .skip
theorem w4_h : Tryd.f4.body = some w4_c := by kernel_rfl
theorem w4 (a0 : Int) (a1_0 : Int) (a1_1 : Bool) (a1_2 : Int) (a1_3 : Bool) (a2_0 : Int) (a2_1 : Int) (r : Bool) (h : d4 a0 a1_0 a1_1 a1_2 a1_3 a2_0 a2_1 = some r) : Ab.Fn Tryd.prog TT 4 [.i .i64 a0, .agg [.i .i64 a1_0, .b a1_1, .i .i64 a1_2, .b a1_3], .agg [.i .i64 a2_0, .i .i64 a2_1]] (.b r) [] := by
  refine fn_pure tok W0 Tryd.func4 (by kernel_rfl) w4_h (by kernel_rfl) ?_
  intro ar un cv mn mx pl mi cmp nt beq an scmp cat slen sbyte ssub ofB toB len gi gb gs gl sub put app ovl rep ne0 ge0 inb bnd room sroom need br call callb loop cut nl E R K hK
  have D := E.D
  clear E
  unfold d4 at h
  cbv
  refine R.callD h (fun x1 hx1 h2 => ?_)
  clear h; have h := h2; clear h2
  refine R.call' (w7 _ hx1) (by (first | (simp only [D.han, D.hbeq, D.hcmp]; done) | rfl | (simp only [D.han, D.hbeq, D.hcmp]; rfl))) ?_
  clear hx1; cbv
  refine R.callD h (fun x2 hx2 h2 => ?_)
  clear h; have h := h2; clear h2
  refine R.call' (w12 _ _ _ _ _ hx2) (by (first | (simp only [D.han, D.hbeq, D.hcmp]; done) | rfl | (simp only [D.han, D.hbeq, D.hcmp]; rfl))) ?_
  clear hx2; cbv
  refine R.callD h (fun x3 hx3 h2 => ?_)
  clear h; have h := h2; clear h2
  refine R.call' (w13 _ _ _ _ _ hx3) (by (first | (simp only [D.han, D.hbeq, D.hcmp]; done) | rfl | (simp only [D.han, D.hbeq, D.hcmp]; rfl))) ?_
  clear hx3; cbv
  refine R.callD h (fun x4 hx4 h2 => ?_)
  clear h; have h := h2; clear h2
  refine R.call' (w9 _ _ _ _ _ _ _ _ hx4) (by (first | (simp only [D.han, D.hbeq, D.hcmp]; done) | rfl | (simp only [D.han, D.hbeq, D.hcmp]; rfl))) ?_
  clear hx4; cbv
  refine R.callD h (fun x5 hx5 h2 => ?_)
  clear h; have h := h2; clear h2
  refine R.call' (w14 _ _ _ _ _ _ _ _ hx5) (by (first | (simp only [D.han, D.hbeq, D.hcmp]; done) | rfl | (simp only [D.han, D.hbeq, D.hcmp]; rfl))) ?_
  clear hx5; cbv
  refine R.cut' (by kernel_rfl) (by kernel_rfl) ?_
  cbv
  refine R.brD h (by (first | (simp only [D.han, D.hbeq, D.hcmp]; done) | rfl | (simp only [D.han, D.hbeq, D.hcmp]; rfl))) ?_ ?_ <;> clear h <;> intro h <;> cbv
  · refine R.brD h (by (first | (simp only [D.han, D.hbeq, D.hcmp]; done) | rfl | (simp only [D.han, D.hbeq, D.hcmp]; rfl))) ?_ ?_ <;> clear h <;> intro h <;> cbv
    · refine R.brD h (by (first | (simp only [D.han, D.hbeq, D.hcmp]; done) | rfl | (simp only [D.han, D.hbeq, D.hcmp]; rfl))) ?_ ?_ <;> clear h <;> intro h <;> cbv
      · refine R.brD h (by (first | (simp only [D.han, D.hbeq, D.hcmp]; done) | rfl | (simp only [D.han, D.hbeq, D.hcmp]; rfl))) ?_ ?_ <;> clear h <;> intro h <;> cbv
        · refine R.brD h (by (first | (simp only [D.han, D.hbeq, D.hcmp]; done) | rfl | (simp only [D.han, D.hbeq, D.hcmp]; rfl))) ?_ ?_ <;> clear h <;> intro h <;> cbv
          · refine R.brD h (by (first | (simp only [D.han, D.hbeq, D.hcmp]; done) | rfl | (simp only [D.han, D.hbeq, D.hcmp]; rfl))) ?_ ?_ <;> clear h <;> intro h <;> cbv
            · have e := ret_some h; clear h
              refine hK _ _ ?_
              cbv
              try (subst e; simp only [D.han, D.hbeq, D.hcmp, and_self, and_true, true_and] <;> (repeat' apply And.intro) <;> rfl)
            · have e := ret_some h; clear h
              refine hK _ _ ?_
              cbv
              try (subst e; simp only [D.han, D.hbeq, D.hcmp, and_self, and_true, true_and] <;> (repeat' apply And.intro) <;> rfl)
          · have e := ret_some h; clear h
            refine hK _ _ ?_
            cbv
            try (subst e; simp only [D.han, D.hbeq, D.hcmp, and_self, and_true, true_and] <;> (repeat' apply And.intro) <;> rfl)
        · have e := ret_some h; clear h
          refine hK _ _ ?_
          cbv
          try (subst e; simp only [D.han, D.hbeq, D.hcmp, and_self, and_true, true_and] <;> (repeat' apply And.intro) <;> rfl)
      · have e := ret_some h; clear h
        refine hK _ _ ?_
        cbv
        try (subst e; simp only [D.han, D.hbeq, D.hcmp, and_self, and_true, true_and] <;> (repeat' apply And.intro) <;> rfl)
    · have e := ret_some h; clear h
      refine hK _ _ ?_
      cbv
      try (subst e; simp only [D.han, D.hbeq, D.hcmp, and_self, and_true, true_and] <;> (repeat' apply And.intro) <;> rfl)
  · have e := ret_some h; clear h
    refine hK _ _ ?_
    cbv
    try (subst e; simp only [D.han, D.hbeq, D.hcmp, and_self, and_true, true_and] <;> (repeat' apply And.intro) <;> rfl)
end Go.Proofs.YtjcabmhnekcbgaaDoor

end
section
/- The one statement over its function that the law BitsOperates comes to. Conditions: none. -/
-- Told by a program of this seat's session. Not trusted: Lean checks it.

namespace Go.Proofs.YtjcabmhnekcbgaaDoor
open Go.Ab Go.RowKit
def BitsOperates.Claim : Prop := ∀ (x0 : Int) (x1 : ((Int × Bool) × (Int × Bool))) (x2 : (Int × Int)), (fun n : Int => (Lit.int .i64 n).wf = true) x0 → (fun x : (Int × Bool) × (Int × Bool) => (fun x : (Int × Bool) => (fun n : Int => (Lit.int .i64 n).wf = true) x.1 ∧ (fun _ : Bool => True) x.2) x.1 ∧ (fun x : (Int × Bool) => (fun n : Int => (Lit.int .i64 n).wf = true) x.1 ∧ (fun _ : Bool => True) x.2) x.2) x1 → (fun x : Int × Int => (fun n : Int => (Lit.int .i64 n).wf = true) x.1 ∧ (fun n : Int => (Lit.int .i64 n).wf = true) x.2) x2 → Ab.Fn Tryd.prog TT 4 [.i .i64 x0, .agg [.i .i64 x1.1.1, .b x1.1.2, .i .i64 x1.2.1, .b x1.2.2], .agg [.i .i64 x2.1, .i .i64 x2.2]] (.b true) []
end Go.Proofs.YtjcabmhnekcbgaaDoor
end
section
/- The law BitsOperates by the calculus. Conditions: none. -/

namespace Go.Proofs.YtjcabmhnekcbgaaDoor
open Go.Ab Go.RowKit
theorem BitsOperates.pure : BitsOperates.Claim := by
  intro x0 x1 x2 h0 h1 h2; exact w4 _ _ _ _ _ _ _ true (pd4 _ _ _ _ _ (i64_wf' h2.1) (i64_wf' h2.2))
end Go.Proofs.YtjcabmhnekcbgaaDoor
end
section
/- BitsOperates: the law's call returns true for every input, and its arguments read afterwards as_ before. Conditions: none. -/
-- Told by a program of this seat's session. Not trusted: Lean checks it.

namespace Go.Proofs.YtjcabmhnekcbgaaDoor.bitsOperates
open Go.ChangeShapes Go.WideShapes Go.ChangeAt Go.RowKit Go.Ab Go.Proofs.YtjcabmhnekcbgaaDoor
open Go.ChangeMaps (open_string shut_string)
theorem own : ownKnob Tryd.prog.godebug = none := by kernel_rfl
theorem laidOut : laidOutB Tryd.prog = true := by kernel_rfl
theorem door_met (os : Os) (args : Array Value) : laidMetH Tryd.prog Rows.bitsOperatesRow.laid ((World.doorLaid Tryd.prog 400 os).forCall (fun _ _ => 0) ⟨#[], args, []⟩).memory :=
  laidMetH_of_parts3 (fuel := 8) (laidMet_of_run' 8 (by kernel_rfl) (by kernel_rfl)) (by kernel_rfl) (by kernel_rfl)
set_option maxRecDepth 100000 in
set_option maxHeartbeats 8000000 in
theorem lifted (os : Os) (started : os.Started) (H : Type) (enc : TypeId × Value → H) :
    ReturnsInHanded {} Tryd.checked os 4 .any (fun w args => (Rows.bitsOperatesSpec.pre enc Tryd.prog Tryd.f4 [] false w args ∧ laidMetH Tryd.prog Rows.bitsOperatesRow.laid w) ∧ sizedMet enc Tryd.prog Tryd.f4 (OpenSpec.ofChange Rows.bitsOperatesSpec) false w args)
      (Rows.bitsOperatesSpec.post enc Tryd.prog Tryd.f4 false true false false) := by
  refine returnsInHanded_of_change_and (C := Tryd.checked) (X := fun w _ => laidMetH Tryd.prog Rows.bitsOperatesRow.laid w) (fun _ _ _ hh h => h.of_heap hh) own started (by kernel_rfl) Tryd.func4
    (ChangeSpec.witness_shaped (enc := enc) (C := Tryd.checked) (os := os) (X := fun w _ => laidMetH Tryd.prog Rows.bitsOperatesRow.laid w) false (World.doorLaid Tryd.prog 400 os) #[.int .i64 0, .agg #[.int .i64 0, .bool false, .int .i64 0, .bool false], .agg #[.int .i64 0, .int .i64 0]] 8 rfl (World.shaped_of_RefB (by kernel_rfl) (by kernel_rfl)) (by kernel_rfl) (by kernel_rfl) (by kernel_rfl) (door_met os _)) ?_
  intro W base args ds gs before hval0 hW _ _ hL _
  have hval : ∀ (j : Nat) t v, Tryd.f4.params[j]? = some t → args[j]? = some v → Value.okWide Tryd.prog W .any base t v := hval0
  have hW' := hW
  obtain ⟨p, q, hA0, hV, rfl, hfz, hnd⟩ := hW
  have hA : DataW.TrodAll enc Tryd.prog W 0 (fun _ => true) true Tryd.f4.params.toList args.toList ds p := hA0
  rw [Tryd.params4] at hA hval
  obtain ⟨v0, vs0, d0, ds0, p0, q0, hargs, rfl, rfl, h0, r0⟩ := trodAll_cons hA
  obtain ⟨v1, vs1, d1, ds1, p1, q1, rfl, rfl, rfl, h1, r1⟩ := trodAll_cons r0
  obtain ⟨v2, vs2, d2, ds2, p2, q2, rfl, rfl, rfl, h2, r2⟩ := trodAll_cons r1
  obtain ⟨rfl, rfl, rfl⟩ := trodAll_nil r2
  obtain rfl : args = #[v0, v1, v2] := by cases args; simp_all
  obtain ⟨rfl, rfl⟩ := trodVars_none hV
  obtain ⟨x0, rfl, rfl, rfl, u0⟩ := open_int Tryd.underlying3 (hval 0 3 v0 rfl rfl) h0
  have k1 := h1
  have lt1 : ∀ x ∈ p1, x.block < W.heap.size := by obtain ⟨m, hm⟩ := k1; exact DataW.trod_lt m _ _ _ hm
  obtain ⟨cs1, rfl, sz1⟩ := okWide_arr Tryd.underlying34 (hval 1 34 v1 rfl rfl)
  obtain ⟨x1, ra1, rb1, _, ok1⟩ := h1.elim fun fuel hf => ((OpV.arr2p tok (te := te34) (by kernel_rfl) rfl (by kernel_rfl) (by kernel_rfl) (OpV.struct tok (te := te23) (by kernel_rfl) rfl (by kernel_rfl) (OpAt.cons rfl (by kernel_rfl) (OpV.int tok (e := te3) (by kernel_rfl) rfl) (OpAt.last rfl (by kernel_rfl) (OpV.bool tok (e := te4) (by kernel_rfl) rfl))))) : OpV TT enc Tryd.prog W 34 _ _ _) _ _ _ hf
  have k2 := h2
  have lt2 : ∀ x ∈ p2, x.block < W.heap.size := by obtain ⟨m, hm⟩ := k2; exact DataW.trod_lt m _ _ _ hm
  obtain ⟨cs2, rfl, sz2⟩ := okWide_arr Tryd.underlying35 (hval 2 35 v2 rfl rfl)
  obtain ⟨x2, ra2, rb2, _, ok2⟩ := h2.elim fun fuel hf => ((OpV.arr2 tok (te := te35) (by kernel_rfl) rfl (by kernel_rfl) (by kernel_rfl) (OpV.int tok (e := te2) (by kernel_rfl) rfl)) : OpV TT enc Tryd.prog W 35 _ _ _) _ _ _ hf
  clear hA0 hval0
  refine (law_calls (w := W) ⟨_, _, Tryd.func4, by kernel_rfl, w4_h⟩ (BitsOperates.pure x0 x1 x2 u0 ok1 ok2) (gok_of hL) (args_i x0 (args_agg ra1 rb1 (args_agg ra2 rb2 args_nil)))).mono fun e W' ⟨he, bel⟩ => ?_
  subst he
  exact ⟨_, rfl, _, _, _, [], _, [], hW', trodAll_mk1 (shut_bool Tryd.underlying4 _), (trodAll_cons_mk (shut_int Tryd.underlying3 u0) (trodAll_cons_mk (Below.trod laidOut (by kernel_rfl) (of_decide_eq_true (by kernel_rfl)) k1 bel lt1) (trodAll_cons_mk (Below.trod laidOut (by kernel_rfl) (of_decide_eq_true (by kernel_rfl)) k2 bel lt2) trodAll_mk0))), rfl, bel.frame _, fun h => by cases h⟩
theorem said : Rows.BitsOperatesSaid :=
  OpenClaim.holds_of_wide 4 Tryd.f4 rfl rfl rfl rfl rfl rfl rfl ⟨rfl, rfl, rfl, rfl, rfl⟩ rfl rfl rfl rfl rfl (by kernel_rfl) Tryd.func4 (by kernel_rfl)
    (of_decide_eq_true (by kernel_rfl)) (by unfold Func.isWrapper; first | (rw [if_pos (by decide +kernel)]; kernel_rfl) | (rw [if_neg (by decide +kernel)]; exact ⟨rfl, rfl⟩))
    (fun os started H enc _ => lifted os started H enc)
theorem card : Rows.BitsOperatesCardSaid :=
  Claim7.holds_tied_plain_at .later [] _ _ _ _ said (fun _ h => by cases h) (by kernel_rfl) (fun _ h => by cases h) bitsOperates_row_tie rfl ⟨rfl, rfl⟩ (by kernel_rfl) rfl
    (fun f fn hf hfn => by
      obtain rfl : f = 4 := Option.some.inj ((show Tryd.prog.funcNamed "tapline/taplinelaw01.BitsOperates" = some 4 by kernel_rfl).symm.trans hf) |>.symm
      obtain rfl : fn = Tryd.f4 := (Option.some.inj (Tryd.func4.symm.trans hfn)).symm
      exact ⟨by kernel_rfl, fun j t ht => by
        rw [Tryd.params4] at ht
        have hm : t ∈ [3, 34, 35] := by simpa using Array.mem_of_getElem? ht
        have hall : ([3, 34, 35].all fun u => !Tryd.prog.wantsStandIn u) = true := by kernel_rfl
        exact (show Tryd.prog.wantsStandIn t = false by simpa using List.all_eq_true.1 hall t hm)⟩)
    (by kernel_rfl)
end Go.Proofs.YtjcabmhnekcbgaaDoor.bitsOperates
namespace Go.Proofs.YtjcabmhnekcbgaaDoor
theorem bitsOperates_holds : Rows.BitsOperatesCardSaid := bitsOperates.card
end Go.Proofs.YtjcabmhnekcbgaaDoor
end
