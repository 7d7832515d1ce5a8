/- The law AggrAny: its function's walk, the pure law, the row. Conditions: none. -/
import Derived.Test.YtmofhbedamjblaaRows
import Derived.WalkKit
import Derived.ProofKit
import Derived.OpenShut
import Derived.ShutString
import Derived.ChangeOld
import Derived.Below
import Derived.SizedLaws
import Derived.Carry
import Derived.Test.YtmofhbedamjblaaPA6
set_option linter.unusedVariables false
set_option linter.unusedSimpArgs false
section
namespace Go.Proofs.Ytmofhbedamjblaa
open Go.Ab Go.RowKit 
set_option maxRecDepth 100000
set_option maxHeartbeats 40000000
noncomputable def w7_c : Code := (Try.f7.body).getD .skip
theorem w7_h : Try.f7.body = some w7_c := by kernel_rfl
theorem w7 (a0_0 : ByteArray) (a0_1 : Int) (a0_2 : List V) (a0_3 : List V) (a1 : List V) (a2 : List V) (r : Bool) (h : d7 a0_0 a0_1 a0_2 a0_3 a1 a2 = some r) : Ab.Fn Try.prog TT 7 [.agg [.str a0_0, .i .i64 a0_1, .sl 2 a0_2, .sl 74 a0_3], .sl 2 a1, .sl 5 a2] (.b r) [] := by
 refine fn_pure tok (fun r => match r with | 13 => [[],[],[],[1,2],[1,2,3],[],[],[5,6],[5,6,7],[0,1,2,3,4,5,6,7,8],[0,1,2,3,4,5,6,7,8,9],[0,1,2,3,4,5,6,7,8,9,10],[0,1,2,3,4,5,6,7,8,9,10],[0,1,2,3,4,5,6,7,8,9,10,11],[0,1,2,3,4,5,6,7,8,9,10,11,12,13]] | 14 => [[],[],[],[],[3],[3,4],[],[3,4,5,6],[2,3,4,5,6,7],[2,3,4,5,6,7,8],[0,1,2,3,4,5,6,7,8,9],[0,1,2,3,4,5,6,7,8,9,10],[0,1,2,3,4,5,6,7,8,9,10,11],[0,1,2,3,4,5,6,7,8,9,10,11],[0,1,2,3,4,5,6,7,8,9,10,11,12],[0,1,2,3,4,5,6,7,8,9,10,11,12,13,14]] | 19 => [[],[],[1],[1,2],[],[4],[4,5],[0,1,2,3,4,5,6],[0,1,2,3,4,5,6,7],[0,1,2,3,4,5,6,7,8],[0,1,2,3,4,5,6,7,8],[0,1,2,3,4,5,6,7,8,9],[0,1,2,3,4,5,6,7,8,9,10,11]] | 20 => [[],[],[1],[1,2],[],[0,1,2,3,4],[0,1,2,3,4,5],[0,1,2,3,4,5,6],[0,1,2,3,4,5,6],[0,1,2,3,4,5,6,7],[0,1,2,3,4,5,6,7,8,9]] | _ => []) Try.func7 (by kernel_rfl) w7_h (by kernel_rfl) ?_
 intro _ _ _ _ _ _ _ _ _ _ _ _ _ _ _ _ _ _ _ _ _ _ _ _ _ _ _ _ _ _ _ _ _ _ _ _ _ _ _ _ _ E R K hK
 have D := E.D
 clear E
 have S := And.intro D.har (And.intro D.hcmp (And.intro D.hcv (And.intro D.hgi (And.intro D.hgl (And.intro D.hinb (And.intro D.hlen (And.intro D.hne0 (D.hput))))))))
 unfold d7 at h
 cbv
 refine R.callD h (fun x1 hx1 h2 => ?_)
 clear h; have h := h2; clear h2
 refine R.call' (w10 _ hx1) (by first|(simp only [S]<;>rfl)|rfl) ?_
 clear hx1; cbv
 refine R.callD h (fun x2 hx2 h2 => ?_)
 clear h; have h := h2; clear h2
 refine R.call' (w18s _ _ _ _ _ hx2) (by first|(simp only [S]<;>rfl)|rfl) ?_
 clear hx2; cbv
 refine R.cut' (by kernel_rfl) (by kernel_rfl) ?_
 cbv
 refine R.cut' (by kernel_rfl) (by kernel_rfl) ?_
 cbv
 refine R.brD h (by first|(simp only [S]<;>rfl)|rfl) ?_ ?_<;>clear h<;>intro h<;>cbv
 ·have e := ret_some h; clear h
  refine hK _ _ ?_
  cbv
  try (subst e; simp only [S, and_self, and_true, true_and] <;> (repeat' apply And.intro) <;> rfl)
 ·as_aux_lemma =>
  refine R.brD h (by first|(simp only [S]<;>rfl)|rfl) ?_ ?_<;>clear h<;>intro h<;>cbv
  ·have e := ret_some h; clear h
   refine hK _ _ ?_
   cbv
   try (subst e; simp only [S, and_self, and_true, true_and] <;> (repeat' apply And.intro) <;> rfl)
  ·as_aux_lemma =>
   refine R.cutB Sum.inl (fun _ _ e => Sum.inl.inj e) h [] (fun p66 => [(11, .sl 2 p66.1)]) (fun p66 => [(624, .row 22 p66.2)]) (by kernel_rfl) (by kernel_rfl) (fun y29 hy hFy29 L hLy29 => ?_) (fun p66 h2 => ?_)
   ·as_aux_lemma =>
    clear h; have h := hy; clear hy; cbv
    refine R.loopD h (fun s0 y55 e0 hi hFs46 => ?_)
    clear h
    refine R.loopI hi [] (fun s46 => [(11, .sl 2 s46.1), (12, .i .i64 s46.2.1)]) (fun s46 => [(624, .row 22 s46.2.2)]) ⟨by kernel_rfl, ?_, ?_, by kernel_rfl, by kernel_rfl⟩ (by kernel_rfl) ?_
    ·cbv; try (subst e0; simp only [S, and_self, and_true, true_and] <;> (repeat' apply And.intro) <;> rfl)
    ·cbv; try (subst e0; simp only [S, and_self, and_true, true_and] <;> (repeat' apply And.intro) <;> rfl)
    clear hi e0
    intro s46 m y' hy hins46 houts46 L hLs46
    have h := hy; clear hy; unfold d7_b1 at h
    cbv
    refine R.cut' (by kernel_rfl) (by kernel_rfl) ?_
    cbv
    refine R.brD h (by first|(simp only [S]<;>rfl)|rfl) ?_ ?_<;>clear h<;>intro h<;>cbv
    ·refine R.cut' (by kernel_rfl) (by kernel_rfl) ?_
     cbv
     refine R.cutB (fun p => p) (fun _ _ e => e) h [] (fun p61 => [(13, .i .i64 p61)]) (fun p61 => []) (by kernel_rfl) (by kernel_rfl) (fun y60 hy hFy60 L hLy60 => ?_) (fun p61 h2 => ?_)
     ·clear h; have h := hy; clear hy; cbv
      refine R.brD h (by first|(simp only [S]<;>rfl)|rfl) ?_ ?_<;>clear h<;>intro h<;>cbv
      ·refine R.needD h (by first|(simp only [S]<;>rfl)|rfl) ?_
       clear h; intro h; cbv
       refine R.needD h (by first|(simp only [S]<;>rfl)|rfl) ?_
       clear h; intro h; cbv
       obtain ⟨s', e, hi⟩ := jn_some (fun p => p) h
       refine hLy60 s' _ _ hi ⟨by kernel_rfl, ?_, ?_, by kernel_rfl, by kernel_rfl⟩<;>cbv<;>(try (subst e;simp only [S,and_self,and_true,true_and]<;>(repeat' apply And.intro)<;>rfl))
      ·obtain ⟨s', e, hi⟩ := jn_some (fun p => p) h
       refine hLy60 s' _ _ hi ⟨by kernel_rfl, ?_, ?_, by kernel_rfl, by kernel_rfl⟩<;>cbv<;>(try (subst e;simp only [S,and_self,and_true,true_and]<;>(repeat' apply And.intro)<;>rfl))
     ·clear h; have h := h2; clear h2; try dsimp only at h
      cbv
      refine R.needD h (by first|(simp only [S]<;>rfl)|rfl) ?_
      clear h; intro h; cbv
      refine R.needD h (by first|(simp only [S]<;>rfl)|rfl) ?_
      clear h; intro h; cbv
      refine R.callD h (fun x62 hx62 h2 => ?_)
      clear h; have h := h2; clear h2
      refine R.call' (w23 _ _ _ _ _ _ _ hx62) (by first|(simp only [S]<;>rfl)|rfl) ?_
      clear hx62; cbv
      refine R.needD h (by first|(simp only [S]<;>rfl)|rfl) ?_
      clear h; intro h; cbv
      refine R.callD h (fun x63 hx63 h2 => ?_)
      clear h; have h := h2; clear h2
      refine R.call' (w23 _ _ _ _ _ _ _ hx63) (by first|(simp only [S]<;>rfl)|rfl) ?_
      clear hx63; cbv
      refine R.cut' (by kernel_rfl) (by kernel_rfl) ?_
      cbv
      refine R.cut' (by kernel_rfl) (by kernel_rfl) ?_
      cbv
      refine R.brD h (by first|(simp only [S]<;>rfl)|rfl) ?_ ?_<;>clear h<;>intro h<;>cbv
      ·have e := inr_some h houts46; clear h
       have h := hFs46; rw [e] at h; clear e; try dsimp only at h
       cbv
       have e := ret_some h; clear h
       have h := hFy29; rw [e] at h; clear e; try dsimp only at h
       cbv
       have e := ret_some h; clear h
       refine hK _ _ ?_
       cbv
       try (subst e; simp only [S, and_self, and_true, true_and] <;> (repeat' apply And.intro) <;> rfl)
      ·refine R.brD h (by first|(simp only [S]<;>rfl)|rfl) ?_ ?_<;>clear h<;>intro h<;>cbv
       ·have e := inr_some h houts46; clear h
        have h := hFs46; rw [e] at h; clear e; try dsimp only at h
        cbv
        have e := ret_some h; clear h
        have h := hFy29; rw [e] at h; clear e; try dsimp only at h
        cbv
        have e := ret_some h; clear h
        refine hK _ _ ?_
        cbv
        try (subst e; simp only [S, and_self, and_true, true_and] <;> (repeat' apply And.intro) <;> rfl)
       ·refine R.needD h (by first|(simp only [S]<;>rfl)|rfl) ?_
        clear h; intro h; cbv
        obtain ⟨s', e, hi⟩ := inl_some h hins46
        refine hLs46 s' _ _ hi ⟨by kernel_rfl, ?_, ?_, by kernel_rfl, by kernel_rfl⟩<;>cbv<;>(try (subst e;simp only [S,and_self,and_true,true_and]<;>(repeat' apply And.intro)<;>rfl))
    ·have e := inr_some h houts46; clear h
     have h := hFs46; rw [e] at h; clear e; try dsimp only at h
     cbv
     obtain ⟨s', e, hi⟩ := jn_some Sum.inl h
     refine hLy29 s' _ _ hi ⟨by kernel_rfl, ?_, ?_, by kernel_rfl, by kernel_rfl⟩<;>cbv<;>(try (subst e;simp only [S,and_self,and_true,true_and]<;>(repeat' apply And.intro)<;>rfl))
   ·clear h; have h := h2; clear h2; try dsimp only at h
    cbv
    refine R.needD h (by first|(simp only [S]<;>rfl)|rfl) ?_
    clear h; intro h; cbv
    refine R.needD h (by first|(simp only [S]<;>rfl)|rfl) ?_
    clear h; intro h; cbv
    refine R.callD h (fun x67 hx67 h2 => ?_)
    clear h; have h := h2; clear h2
    refine R.call' (w24 _ _ _ _ _ _ _ hx67) (by first|(simp only [S]<;>rfl)|rfl) ?_
    clear hx67; cbv
    refine R.needD h (by first|(simp only [S]<;>rfl)|rfl) ?_
    clear h; intro h; cbv
    refine R.callD h (fun x68 hx68 h2 => ?_)
    clear h; have h := h2; clear h2
    refine R.call' (w24 _ _ _ _ _ _ _ hx68) (by first|(simp only [S]<;>rfl)|rfl) ?_
    clear hx68; cbv
    refine R.cut' (by kernel_rfl) (by kernel_rfl) ?_
    cbv
    refine R.brD h (by first|(simp only [S]<;>rfl)|rfl) ?_ ?_<;>clear h<;>intro h<;>cbv
    ·refine R.brD h (by first|(simp only [S]<;>rfl)|rfl) ?_ ?_<;>clear h<;>intro h<;>cbv
     ·refine R.brD h (by first|(simp only [S]<;>rfl)|rfl) ?_ ?_<;>clear h<;>intro h<;>cbv
      ·refine R.callD h (fun x71 hx71 h2 => ?_)
       clear h; have h := h2; clear h2
       refine R.call' (w17 _ _ _ hx71) (by first|(simp only [S]<;>rfl)|rfl) ?_
       clear hx71; cbv
       refine R.brD h (by first|(simp only [S]<;>rfl)|rfl) ?_ ?_<;>clear h<;>intro h<;>cbv
       ·refine R.callD h (fun x72 hx72 h2 => ?_)
        clear h; have h := h2; clear h2
        refine R.call' (w25 _ _ _ _ _ _ hx72) (by first|(simp only [S]<;>rfl)|rfl) ?_
        clear hx72; cbv
        have e := ret_some h; clear h
        refine hK _ _ ?_
        cbv
        try (subst e; simp only [S, and_self, and_true, true_and] <;> (repeat' apply And.intro) <;> rfl)
       ·have e := ret_some h; clear h
        refine hK _ _ ?_
        cbv
        try (subst e; simp only [S, and_self, and_true, true_and] <;> (repeat' apply And.intro) <;> rfl)
      ·have e := ret_some h; clear h
       refine hK _ _ ?_
       cbv
       try (subst e; simp only [S, and_self, and_true, true_and] <;> (repeat' apply And.intro) <;> rfl)
     ·have e := ret_some h; clear h
      refine hK _ _ ?_
      cbv
      try (subst e; simp only [S, and_self, and_true, true_and] <;> (repeat' apply And.intro) <;> rfl)
    ·have e := ret_some h; clear h
     refine hK _ _ ?_
     cbv
     try (subst e; simp only [S, and_self, and_true, true_and] <;> (repeat' apply And.intro) <;> rfl)
end Go.Proofs.Ytmofhbedamjblaa

end
section
/- The one statement over its function that the law AggrAny comes to. Conditions: none. -/
-- Told by a program of this seat's session. Not trusted: Lean checks it.

namespace Go.Proofs.Ytmofhbedamjblaa
open Go.Ab Go.RowKit
def AggrAny.Claim : Prop := ∀ (x0 : (ByteArray × (Int × ((List Int) × (List (Int × ((Int × Bool) × Int))))))) (x1 : (List Int)) (x2 : (List Int)), (fun x : (ByteArray × (Int × ((List Int) × (List (Int × ((Int × Bool) × Int)))))) => (fun s : ByteArray => s.size ≤ maxLen) x.1 ∧ (fun x : (Int × ((List Int) × (List (Int × ((Int × Bool) × Int))))) => (fun n : Int => (Lit.int .i64 n).wf = true) x.1 ∧ (fun x : ((List Int) × (List (Int × ((Int × Bool) × Int)))) => (fun l : List Int => l.length ≤ maxLen ∧ ∀ x ∈ l, (fun n : Int => (Lit.int .i64 n).wf = true) x) x.1 ∧ (fun l : List (Int × ((Int × Bool) × Int)) => l.length ≤ maxLen ∧ ∀ x ∈ l, (fun x : (Int × ((Int × Bool) × Int)) => (fun n : Int => (Lit.int .i64 n).wf = true) x.1 ∧ (fun x : ((Int × Bool) × Int) => (fun x : (Int × Bool) => (fun n : Int => (Lit.int .i64 n).wf = true) x.1 ∧ (fun _ : Bool => True) x.2) x.1 ∧ (fun n : Int => (Lit.int .i64 n).wf = true) x.2) x.2) x) x.2) x.2) x.2) x0 → (fun l : List Int => l.length ≤ maxLen ∧ ∀ x ∈ l, (fun n : Int => (Lit.int .i64 n).wf = true) x) x1 → (fun l : List Int => l.length ≤ maxLen ∧ ∀ x ∈ l, (fun n : Int => (Lit.int .u8 n).wf = true) x) x2 → Ab.Fn Try.prog TT 7 [.agg [.str x0.1, .i .i64 x0.2.1, .sl 2 (x0.2.2.1.map (fun x : Int => .i .i64 x)), .sl 74 (x0.2.2.2.map (fun x : (Int × ((Int × Bool) × Int)) => .agg [.i .i64 x.1, .i .i64 x.2.1.1, .b x.2.1.2, .i .i64 x.2.2]))], .sl 2 (x1.map (fun x : Int => .i .i64 x)), .sl 5 (x2.map (fun x : Int => .i .u8 x))] (.b true) []
end Go.Proofs.Ytmofhbedamjblaa
end
section
/- The law AggrAny by the calculus. Conditions: none. -/

namespace Go.Proofs.Ytmofhbedamjblaa
open Go.Ab Go.RowKit
theorem AggrAny.pure : AggrAny.Claim := by
  intro x0 x1 x2 h0 h1 h2
  exact w7 _ _ _ _ _ _ true (p7 x0.1 x0.2.1 x0.2.2.1 _ (wf_is h0.2.2.1.2) x1 (wf_is h1.2) _ (u8_ok h2.2))
end Go.Proofs.Ytmofhbedamjblaa
end
section
/- AggrAny: the law's call returns true for every input, and its arguments read afterwards as_ before. Conditions: none. -/
-- Told by a program of this seat's session. Not trusted: Lean checks it.

namespace Go.Proofs.Ytmofhbedamjblaa.aggrAny
open Go.ChangeShapes Go.WideShapes Go.ChangeAt Go.RowKit Go.Ab Go.Proofs.Ytmofhbedamjblaa
open Go.ChangeMaps (open_string shut_string)
theorem own : ownKnob Try.prog.godebug = none := by kernel_rfl
theorem laidOut : laidOutB Try.prog = true := by kernel_rfl
set_option maxRecDepth 100000 in
set_option maxHeartbeats 8000000 in
theorem lifted (os : Os) (started : os.Started) (H : Type) (enc : TypeId × Value → H) :
    ReturnsInHanded {} Try.checked os 7 .any (Rows.aggrAnySpec.pre6 enc Try.prog Try.f7 Rows.aggrAnyRow.domain false) (Rows.aggrAnySpec.post enc Try.prog Try.f7 false true false false) := by
  refine returnsInHanded_of_change_sized (C := Try.checked) own started (by kernel_rfl) Try.func7
    (ChangeSpec.witness6 (enc := enc) (C := Try.checked) false ⟨#[], #[.agg #[.string ByteArray.empty, .int .i64 0, .slice none 0 0, .slice none 0 0], .slice none 0 0, .slice none 0 0], []⟩ 8 (by kernel_rfl) (by kernel_rfl) (by kernel_rfl) (by kernel_rfl)) ?_
  intro W base args ds gs before hval0 hW hcnd hsz0 _
  have hval : ∀ (j : Nat) t v, Try.f7.params[j]? = some t → args[j]? = some v → Value.okWide Try.prog W .any base t v := hval0
  have hW' := hW
  obtain ⟨p, q, hA0, hV, rfl, hfz, hnd⟩ := hW
  have hA : DataW.TrodAll enc Try.prog W 0 (fun _ => true) true Try.f7.params.toList args.toList ds p := hA0
  rw [Try.params7] at hA hval
  obtain ⟨v0, vs0, d0, ds0, p0, q0, hargs, rfl, rfl, h0, r0⟩ := trodAll_cons hA
  obtain ⟨v1, vs1, d1, ds1, p1, q1, rfl, rfl, rfl, h1, r1⟩ := trodAll_cons r0
  obtain ⟨v2, vs2, d2, ds2, p2, q2, rfl, rfl, rfl, h2, r2⟩ := trodAll_cons r1
  obtain ⟨rfl, rfl, rfl⟩ := trodAll_nil r2
  obtain rfl : args = #[v0, v1, v2] := by cases args; simp_all
  obtain ⟨rfl, rfl⟩ := trodVars_none hV
  have k0 := h0
  have lt0 : ∀ x ∈ p0, x.block < W.heap.size := by obtain ⟨m, hm⟩ := k0; exact DataW.trod_lt m _ _ _ hm
  obtain ⟨cs0, rfl, sz0⟩ := okWide_struct Try.underlying25 (hval 0 25 v0 rfl rfl)
  obtain ⟨x0, ra0, rb0, _, ok0⟩ := h0.elim fun fuel hf => ((OpV.struct tok (te := te25) (by kernel_rfl) rfl (by kernel_rfl) (OpAt.cons rfl (by kernel_rfl) (OpV.string tok (e := te9) (by kernel_rfl) rfl) (OpAt.cons rfl (by kernel_rfl) (OpV.int tok (e := te3) (by kernel_rfl) rfl) (OpAt.cons rfl (by kernel_rfl) (OpV.slice tok (fun x : Int => .i .i64 x) (te := te22) (eu := te2) (by kernel_rfl) rfl (by kernel_rfl) (by decide) (by kernel_rfl) (.inr ⟨by kernel_rfl, rfl, fun _ => rfl⟩) (OpV.int tok (e := te2) (by kernel_rfl) rfl)) (OpAt.last rfl (by kernel_rfl) (OpV.slice tok (fun x : (Int × ((Int × Bool) × Int)) => .agg [.i .i64 x.1, .i .i64 x.2.1.1, .b x.2.1.2, .i .i64 x.2.2]) (te := te23) (eu := te74) (by kernel_rfl) rfl (by kernel_rfl) (by decide) (by kernel_rfl) (.inl ⟨by kernel_rfl, by kernel_rfl, fun _ => rfl⟩) (OpV.struct tok (te := te74) (by kernel_rfl) rfl (by kernel_rfl) (OpAt.cons rfl (by kernel_rfl) (OpV.int tok (e := te3) (by kernel_rfl) rfl) (OpAt.cons rfl (by kernel_rfl) (OpV.struct tok (te := te72) (by kernel_rfl) rfl (by kernel_rfl) (OpAt.cons rfl (by kernel_rfl) (OpV.int tok (e := te3) (by kernel_rfl) rfl) (OpAt.last rfl (by kernel_rfl) (OpV.bool tok (e := te4) (by kernel_rfl) rfl)))) (OpAt.last rfl (by kernel_rfl) (OpV.int tok (e := te3) (by kernel_rfl) rfl))))))))))) : OpV TT enc Try.prog W 25 _ _ _) _ _ _ hf
  have k1 := h1
  have lt1 : ∀ x ∈ p1, x.block < W.heap.size := by obtain ⟨m, hm⟩ := k1; exact DataW.trod_lt m _ _ _ hm
  obtain ⟨aa1, ll1, cc1, rfl⟩ := okWide_slice Try.underlying22 (hval 1 22 v1 rfl rfl)
  obtain ⟨x1, ra1, rb1, _, ok1⟩ := h1.elim fun fuel hf => ((OpV.slice tok (fun x : Int => .i .i64 x) (te := te22) (eu := te2) (by kernel_rfl) rfl (by kernel_rfl) (by decide) (by kernel_rfl) (.inr ⟨by kernel_rfl, rfl, fun _ => rfl⟩) (OpV.int tok (e := te2) (by kernel_rfl) rfl)) : OpV TT enc Try.prog W 22 _ _ _) _ _ _ hf
  have k2 := h2
  have lt2 : ∀ x ∈ p2, x.block < W.heap.size := by obtain ⟨m, hm⟩ := k2; exact DataW.trod_lt m _ _ _ hm
  obtain ⟨aa2, ll2, cc2, rfl⟩ := okWide_slice Try.underlying57 (hval 2 57 v2 rfl rfl)
  obtain ⟨x2, ra2, rb2, _, ok2⟩ := h2.elim fun fuel hf => ((OpV.slice tok (fun x : Int => .i .u8 x) (te := te57) (eu := te5) (by kernel_rfl) rfl (by kernel_rfl) (by decide) (by kernel_rfl) (.inr ⟨by kernel_rfl, rfl, fun _ => rfl⟩) (OpV.int tok (e := te5) (by kernel_rfl) rfl)) : OpV TT enc Try.prog W 57 _ _ _) _ _ _ hf
  clear hA0 hval0 hsz0
  refine (law_calls (w := W) ⟨_, _, Try.func7, by kernel_rfl, w7_h⟩ (AggrAny.pure x0 x1 x2 ok0 ok1 ok2) (gok W) (args_agg ra0 rb0 (args_one ra1 (args_one ra2 args_nil)))).mono fun e W' ⟨he, bel⟩ => ?_
  subst he
  exact ⟨_, rfl, _, _, _, [], _, [], hW', trodAll_mk1 (shut_bool Try.underlying4 _), (trodAll_cons_mk (Below.trod laidOut (by kernel_rfl) (of_decide_eq_true (by kernel_rfl)) k0 bel lt0) (trodAll_cons_mk (Below.trod laidOut (by kernel_rfl) (of_decide_eq_true (by kernel_rfl)) k1 bel lt1) (trodAll_cons_mk (Below.trod laidOut (by kernel_rfl) (of_decide_eq_true (by kernel_rfl)) k2 bel lt2) trodAll_mk0))), rfl, bel.frame _, fun h => by cases h⟩
theorem over : Rows.aggrAnyRow.holds Try.pinned (OpenSpec.ofChange Rows.aggrAnySpec) :=
  OpenClaim.holds_of_wide 7 Try.f7 rfl rfl rfl rfl rfl rfl rfl ⟨rfl, rfl, rfl, rfl, rfl⟩ rfl rfl rfl rfl rfl (by kernel_rfl) Try.func7 (by kernel_rfl)
    (of_decide_eq_true (by kernel_rfl)) (by unfold Func.isWrapper; first | (rw [if_pos (by decide +kernel)]; kernel_rfl) | (rw [if_neg (by decide +kernel)]; exact ⟨rfl, rfl⟩))
    (fun os started H enc _ => lifted os started H enc)
theorem proved : Rows.AggrAnySaid := over
end Go.Proofs.Ytmofhbedamjblaa.aggrAny
namespace Go.Proofs.Ytmofhbedamjblaa
theorem aggrAny_holds : Rows.AggrAnySaid := aggrAny.proved
end Go.Proofs.Ytmofhbedamjblaa
end
