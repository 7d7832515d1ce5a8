/- The law BitsDivides: its function's walk, the pure law, the row. Conditions: none. -/
import Derived.Test.YtjcabmhnekcbgaaRows
import Derived.WalkKit
import Derived.ProofKit
import Derived.OpenShut
import Derived.ShutString
import Derived.ChangeOld
import Derived.Below
import Derived.SizedLaws
import Derived.Carry
import Derived.Test.YtjcabmhnekcbgaaC8
set_option linter.unusedVariables false
set_option linter.unusedSimpArgs false
section
namespace Go.Proofs.Ytjcabmhnekcbgaa
open Go.Ab Go.RowKit 
set_option maxRecDepth 100000
set_option maxHeartbeats 4000000
noncomputable def d6 (a0_0 : Int) (a0_1 : Bool) (a1_0 : Int) (a1_1 : Bool) (a2_0 : Int) (a2_1 : Int) : Option (Bool) :=
  (d9).bind fun x1 =>
  (d15 a0_0 a0_1 a1_0 a1_1).bind fun x2 =>
  if (notB' x1) = true then
    some x1
  else
    if (cmpLit .neq x2.2.2 0) = true then
      some x1
    else
      (d16 a0_0 a0_1 x2.1 x2.2.1 a2_0).bind fun x3 =>
      (d16 a1_0 a1_1 x2.1 x2.2.1 a2_1).bind fun x4 =>
      (d14 4 a0_0 a0_1 a2_0 a1_0 a1_1 a2_1).bind fun x5 =>
      (d14 5 a0_0 a0_1 a2_0 a1_0 a1_1 a2_1).bind fun x6 =>
      if (cmpLit .eql x4.1 0) = true then
        if (cmpLit .eql x5.2.2.2 12) = true then
          some (cmpLit .eql x6.2.2.2 12)
        else
          some false
      else
        Option.bind (α := Bool) (
          if (cmpLit .neq x5.2.2.2 0) = true then
            some true
          else
            if (cmpLit .neq x6.2.2.2 0) = true then
              some true
            else
              if (notB' (andB' (cmpLit .eql x5.1 x2.1) (beqB x5.2.1 x2.2.1))) = true then
                some true
              else
                some (notB' (andB' (cmpLit .eql x6.1 x2.1) (beqB x6.2.1 x2.2.1)))) fun y9 =>
        if y9 = true then
          some false
        else
          (d11 3 x2.1 x2.2.1 x5.2.2.1 x4.1).bind fun x11 =>
          (d11 1 x2.1 x2.2.1 x11.2.2 x6.2.2.1).bind fun x12 =>
          if (cmpLit .neq x12.2.2 x3.1) = true then
            some false
          else
            if (notB' x2.2.1) = true then
              (d19 x2.1 x2.2.1 x6.2.2.1 x4.1).bind fun x14 =>
              some (cmpLit .lss x14.1 0)
            else
              Option.bind (α := (Unit) ⊕ (Bool)) (
                if (notB' (beqB (cmpLit .lss x6.2.2.1 0) (cmpLit .lss x3.1 0))) = true then
                  if (cmpLit .neq x6.2.2.1 0) = true then
                    some (.inr false)
                  else
                    some (.inl ())
                else
                  some (.inl ())) fun y15 =>
              match y15 with
              | .inl p16 =>
                Option.bind (α := Int) (
                  if (cmpLit .gtr x6.2.2.1 0) = true then
                    some (unReal .neg .i64 x6.2.2.1)
                  else
                    some x6.2.2.1) fun y17 =>
                if (cmpLit .gtr x4.1 0) = true then
                  some (cmpLit .gtr y17 (unReal .neg .i64 x4.1))
                else
                  some (cmpLit .gtr y17 x4.1)
              | .inr y15r0 =>
                some y15r0
noncomputable def w6_c : Code := (Try.f6.body).getD .skip
theorem w6_h : Try.f6.body = some w6_c := by kernel_rfl
theorem w6 (a0_0 : Int) (a0_1 : Bool) (a1_0 : Int) (a1_1 : Bool) (a2_0 : Int) (a2_1 : Int) (r : Bool) (h : d6 a0_0 a0_1 a1_0 a1_1 a2_0 a2_1 = some r) : Ab.Fn Try.prog TT 6 [.agg [.i .i64 a0_0, .b a0_1], .agg [.i .i64 a1_0, .b a1_1], .agg [.i .i64 a2_0, .i .i64 a2_1]] (.b r) [] := by
  refine fn_pure tok W0 Try.func6 (by kernel_rfl) w6_h (by kernel_rfl) ?_
  intro ar un cv mn mx pl mi cmp nt beq an scmp cat slen sbyte ssub ofB toB len gi gb gs gl sub put app ovl rep ne0 ge0 inb bnd room sroom need br call loop cut nl E R K hK
  have D := E.D
  clear E
  unfold d6 at h
  cbv
  refine R.callD h (fun x1 hx1 h2 => ?_)
  clear h; have h := h2; clear h2
  refine R.call' (w9 _ hx1) (by (first | rfl | (simp only [D.han, D.hbeq, D.hcmp, D.hnt, D.hun]; done) | (simp only [D.han, D.hbeq, D.hcmp, D.hnt, D.hun]; rfl))) ?_
  clear hx1; cbv
  refine R.callD h (fun x2 hx2 h2 => ?_)
  clear h; have h := h2; clear h2
  refine R.call' (w15 _ _ _ _ _ hx2) (by (first | rfl | (simp only [D.han, D.hbeq, D.hcmp, D.hnt, D.hun]; done) | (simp only [D.han, D.hbeq, D.hcmp, D.hnt, D.hun]; rfl))) ?_
  clear hx2; cbv
  refine R.cut' (by kernel_rfl) (by kernel_rfl) ?_
  cbv
  refine R.cut' (by kernel_rfl) (by kernel_rfl) ?_
  cbv
  refine R.brD h (by (first | rfl | (simp only [D.han, D.hbeq, D.hcmp, D.hnt, D.hun]; done) | (simp only [D.han, D.hbeq, D.hcmp, D.hnt, D.hun]; rfl))) ?_ ?_ <;> clear h <;> intro h <;> cbv
  · have e := ret_some h; clear h
    refine hK _ _ ?_
    cbv
    try (subst e; simp only [D.han, D.hbeq, D.hcmp, D.hnt, D.hun, and_self, and_true, true_and] <;> (repeat' apply And.intro) <;> rfl)
  · as_aux_lemma =>
    refine R.brD h (by (first | rfl | (simp only [D.han, D.hbeq, D.hcmp, D.hnt, D.hun]; done) | (simp only [D.han, D.hbeq, D.hcmp, D.hnt, D.hun]; rfl))) ?_ ?_ <;> clear h <;> intro h <;> cbv
    · have e := ret_some h; clear h
      refine hK _ _ ?_
      cbv
      try (subst e; simp only [D.han, D.hbeq, D.hcmp, D.hnt, D.hun, and_self, and_true, true_and] <;> (repeat' apply And.intro) <;> rfl)
    · as_aux_lemma =>
      refine R.callD h (fun x3 hx3 h2 => ?_)
      clear h; have h := h2; clear h2
      refine R.call' (w16 _ _ _ _ _ _ hx3) (by (first | rfl | (simp only [D.han, D.hbeq, D.hcmp, D.hnt, D.hun]; done) | (simp only [D.han, D.hbeq, D.hcmp, D.hnt, D.hun]; rfl))) ?_
      clear hx3; cbv
      refine R.callD h (fun x4 hx4 h2 => ?_)
      clear h; have h := h2; clear h2
      refine R.call' (w16 _ _ _ _ _ _ hx4) (by (first | rfl | (simp only [D.han, D.hbeq, D.hcmp, D.hnt, D.hun]; done) | (simp only [D.han, D.hbeq, D.hcmp, D.hnt, D.hun]; rfl))) ?_
      clear hx4; cbv
      refine R.callD h (fun x5 hx5 h2 => ?_)
      clear h; have h := h2; clear h2
      refine R.call' (w14 _ _ _ _ _ _ _ _ hx5) (by (first | rfl | (simp only [D.han, D.hbeq, D.hcmp, D.hnt, D.hun]; done) | (simp only [D.han, D.hbeq, D.hcmp, D.hnt, D.hun]; rfl))) ?_
      clear hx5; cbv
      refine R.callD h (fun x6 hx6 h2 => ?_)
      clear h; have h := h2; clear h2
      refine R.call' (w14 _ _ _ _ _ _ _ _ hx6) (by (first | rfl | (simp only [D.han, D.hbeq, D.hcmp, D.hnt, D.hun]; done) | (simp only [D.han, D.hbeq, D.hcmp, D.hnt, D.hun]; rfl))) ?_
      clear hx6; cbv
      refine R.cut' (by kernel_rfl) (by kernel_rfl) ?_
      cbv
      refine R.brD h (by (first | rfl | (simp only [D.han, D.hbeq, D.hcmp, D.hnt, D.hun]; done) | (simp only [D.han, D.hbeq, D.hcmp, D.hnt, D.hun]; rfl))) ?_ ?_ <;> clear h <;> intro h <;> cbv
      · refine R.cut' (by kernel_rfl) (by kernel_rfl) ?_
        cbv
        refine R.brD h (by (first | rfl | (simp only [D.han, D.hbeq, D.hcmp, D.hnt, D.hun]; done) | (simp only [D.han, D.hbeq, D.hcmp, D.hnt, D.hun]; rfl))) ?_ ?_ <;> clear h <;> intro h <;> cbv
        · have e := ret_some h; clear h
          refine hK _ _ ?_
          cbv
          try (subst e; simp only [D.han, D.hbeq, D.hcmp, D.hnt, D.hun, and_self, and_true, true_and] <;> (repeat' apply And.intro) <;> rfl)
        · have e := ret_some h; clear h
          refine hK _ _ ?_
          cbv
          try (subst e; simp only [D.han, D.hbeq, D.hcmp, D.hnt, D.hun, and_self, and_true, true_and] <;> (repeat' apply And.intro) <;> rfl)
      · as_aux_lemma =>
        refine R.cut' (by kernel_rfl) (by kernel_rfl) ?_
        cbv
        refine R.cutB (fun p => p) (fun _ _ e => e) h [] (fun p10 => [(103, .b p10)]) (fun p10 => []) (by kernel_rfl) (by kernel_rfl) (fun y9 hy hFy9 L hLy9 => ?_) (fun p10 h2 => ?_)
        · clear h; have h := hy; clear hy; cbv
          refine R.brD h (by (first | rfl | (simp only [D.han, D.hbeq, D.hcmp, D.hnt, D.hun]; done) | (simp only [D.han, D.hbeq, D.hcmp, D.hnt, D.hun]; rfl))) ?_ ?_ <;> clear h <;> intro h <;> cbv
          · obtain ⟨s', e, hi⟩ := jn_some (fun p => p) h
            refine hLy9 s' _ _ hi ⟨rfl, ?_, ?_, rfl, rfl⟩ <;> cbv <;> (try (subst e; simp only [D.han, D.hbeq, D.hcmp, D.hnt, D.hun, and_self, and_true, true_and] <;> (repeat' apply And.intro) <;> rfl))
          · refine R.brD h (by (first | rfl | (simp only [D.han, D.hbeq, D.hcmp, D.hnt, D.hun]; done) | (simp only [D.han, D.hbeq, D.hcmp, D.hnt, D.hun]; rfl))) ?_ ?_ <;> clear h <;> intro h <;> cbv
            · obtain ⟨s', e, hi⟩ := jn_some (fun p => p) h
              refine hLy9 s' _ _ hi ⟨rfl, ?_, ?_, rfl, rfl⟩ <;> cbv <;> (try (subst e; simp only [D.han, D.hbeq, D.hcmp, D.hnt, D.hun, and_self, and_true, true_and] <;> (repeat' apply And.intro) <;> rfl))
            · refine R.brD h (by (first | rfl | (simp only [D.han, D.hbeq, D.hcmp, D.hnt, D.hun]; done) | (simp only [D.han, D.hbeq, D.hcmp, D.hnt, D.hun]; rfl))) ?_ ?_ <;> clear h <;> intro h <;> cbv
              · obtain ⟨s', e, hi⟩ := jn_some (fun p => p) h
                refine hLy9 s' _ _ hi ⟨rfl, ?_, ?_, rfl, rfl⟩ <;> cbv <;> (try (subst e; simp only [D.han, D.hbeq, D.hcmp, D.hnt, D.hun, and_self, and_true, true_and] <;> (repeat' apply And.intro) <;> rfl))
              · obtain ⟨s', e, hi⟩ := jn_some (fun p => p) h
                refine hLy9 s' _ _ hi ⟨rfl, ?_, ?_, rfl, rfl⟩ <;> cbv <;> (try (subst e; simp only [D.han, D.hbeq, D.hcmp, D.hnt, D.hun, and_self, and_true, true_and] <;> (repeat' apply And.intro) <;> rfl))
        · as_aux_lemma =>
          clear h; have h := h2; clear h2; try dsimp only at h
          cbv
          refine R.brD h (by (first | rfl | (simp only [D.han, D.hbeq, D.hcmp, D.hnt, D.hun]; done) | (simp only [D.han, D.hbeq, D.hcmp, D.hnt, D.hun]; rfl))) ?_ ?_ <;> clear h <;> intro h <;> cbv
          · have e := ret_some h; clear h
            refine hK _ _ ?_
            cbv
            try (subst e; simp only [D.han, D.hbeq, D.hcmp, D.hnt, D.hun, and_self, and_true, true_and] <;> (repeat' apply And.intro) <;> rfl)
          · as_aux_lemma =>
            refine R.callD h (fun x11 hx11 h2 => ?_)
            clear h; have h := h2; clear h2
            refine R.call' (w11 _ _ _ _ _ _ hx11) (by (first | rfl | (simp only [D.han, D.hbeq, D.hcmp, D.hnt, D.hun]; done) | (simp only [D.han, D.hbeq, D.hcmp, D.hnt, D.hun]; rfl))) ?_
            clear hx11; cbv
            refine R.callD h (fun x12 hx12 h2 => ?_)
            clear h; have h := h2; clear h2
            refine R.call' (w11 _ _ _ _ _ _ hx12) (by (first | rfl | (simp only [D.han, D.hbeq, D.hcmp, D.hnt, D.hun]; done) | (simp only [D.han, D.hbeq, D.hcmp, D.hnt, D.hun]; rfl))) ?_
            clear hx12; cbv
            refine R.cut' (by kernel_rfl) (by kernel_rfl) ?_
            cbv
            refine R.brD h (by (first | rfl | (simp only [D.han, D.hbeq, D.hcmp, D.hnt, D.hun]; done) | (simp only [D.han, D.hbeq, D.hcmp, D.hnt, D.hun]; rfl))) ?_ ?_ <;> clear h <;> intro h <;> cbv
            · have e := ret_some h; clear h
              refine hK _ _ ?_
              cbv
              try (subst e; simp only [D.han, D.hbeq, D.hcmp, D.hnt, D.hun, and_self, and_true, true_and] <;> (repeat' apply And.intro) <;> rfl)
            · refine R.cut' (by kernel_rfl) (by kernel_rfl) ?_
              cbv
              refine R.brD h (by (first | rfl | (simp only [D.han, D.hbeq, D.hcmp, D.hnt, D.hun]; done) | (simp only [D.han, D.hbeq, D.hcmp, D.hnt, D.hun]; rfl))) ?_ ?_ <;> clear h <;> intro h <;> cbv
              · refine R.callD h (fun x14 hx14 h2 => ?_)
                clear h; have h := h2; clear h2
                refine R.call' (w19 _ _ _ _ _ hx14) (by (first | rfl | (simp only [D.han, D.hbeq, D.hcmp, D.hnt, D.hun]; done) | (simp only [D.han, D.hbeq, D.hcmp, D.hnt, D.hun]; rfl))) ?_
                clear hx14; cbv
                have e := ret_some h; clear h
                refine hK _ _ ?_
                cbv
                try (subst e; simp only [D.han, D.hbeq, D.hcmp, D.hnt, D.hun, and_self, and_true, true_and] <;> (repeat' apply And.intro) <;> rfl)
              · refine R.cutB Sum.inl (fun _ _ e => Sum.inl.inj e) h [] (fun p16 => []) (fun p16 => []) (by kernel_rfl) (by kernel_rfl) (fun y15 hy hFy15 L hLy15 => ?_) (fun p16 h2 => ?_)
                · clear h; have h := hy; clear hy; cbv
                  refine R.cut' (by kernel_rfl) (by kernel_rfl) ?_
                  cbv
                  refine R.brD h (by (first | rfl | (simp only [D.han, D.hbeq, D.hcmp, D.hnt, D.hun]; done) | (simp only [D.han, D.hbeq, D.hcmp, D.hnt, D.hun]; rfl))) ?_ ?_ <;> clear h <;> intro h <;> cbv
                  · refine R.brD h (by (first | rfl | (simp only [D.han, D.hbeq, D.hcmp, D.hnt, D.hun]; done) | (simp only [D.han, D.hbeq, D.hcmp, D.hnt, D.hun]; rfl))) ?_ ?_ <;> clear h <;> intro h <;> cbv
                    · have e := ret_some h; clear h
                      have h := hFy15; rw [e] at h; clear e; try dsimp only at h
                      cbv
                      have e := ret_some h; clear h
                      refine hK _ _ ?_
                      cbv
                      try (subst e; simp only [D.han, D.hbeq, D.hcmp, D.hnt, D.hun, and_self, and_true, true_and] <;> (repeat' apply And.intro) <;> rfl)
                    · obtain ⟨s', e, hi⟩ := jn_some Sum.inl h
                      refine hLy15 s' _ _ hi ⟨rfl, ?_, ?_, rfl, rfl⟩ <;> cbv <;> (try (subst e; simp only [D.han, D.hbeq, D.hcmp, D.hnt, D.hun, and_self, and_true, true_and] <;> (repeat' apply And.intro) <;> rfl))
                  · obtain ⟨s', e, hi⟩ := jn_some Sum.inl h
                    refine hLy15 s' _ _ hi ⟨rfl, ?_, ?_, rfl, rfl⟩ <;> cbv <;> (try (subst e; simp only [D.han, D.hbeq, D.hcmp, D.hnt, D.hun, and_self, and_true, true_and] <;> (repeat' apply And.intro) <;> rfl))
                · clear h; have h := h2; clear h2; try dsimp only at h
                  cbv
                  refine R.cutB (fun p => p) (fun _ _ e => e) h [] (fun p18 => [(26, .i .i64 p18)]) (fun p18 => []) (by kernel_rfl) (by kernel_rfl) (fun y17 hy hFy17 L hLy17 => ?_) (fun p18 h2 => ?_)
                  · clear h; have h := hy; clear hy; cbv
                    refine R.brD h (by (first | rfl | (simp only [D.han, D.hbeq, D.hcmp, D.hnt, D.hun]; done) | (simp only [D.han, D.hbeq, D.hcmp, D.hnt, D.hun]; rfl))) ?_ ?_ <;> clear h <;> intro h <;> cbv
                    · obtain ⟨s', e, hi⟩ := jn_some (fun p => p) h
                      refine hLy17 s' _ _ hi ⟨rfl, ?_, ?_, rfl, rfl⟩ <;> cbv <;> (try (subst e; simp only [D.han, D.hbeq, D.hcmp, D.hnt, D.hun, and_self, and_true, true_and] <;> (repeat' apply And.intro) <;> rfl))
                    · obtain ⟨s', e, hi⟩ := jn_some (fun p => p) h
                      refine hLy17 s' _ _ hi ⟨rfl, ?_, ?_, rfl, rfl⟩ <;> cbv <;> (try (subst e; simp only [D.han, D.hbeq, D.hcmp, D.hnt, D.hun, and_self, and_true, true_and] <;> (repeat' apply And.intro) <;> rfl))
                  · clear h; have h := h2; clear h2; try dsimp only at h
                    cbv
                    refine R.cut' (by kernel_rfl) (by kernel_rfl) ?_
                    cbv
                    refine R.brD h (by (first | rfl | (simp only [D.han, D.hbeq, D.hcmp, D.hnt, D.hun]; done) | (simp only [D.han, D.hbeq, D.hcmp, D.hnt, D.hun]; rfl))) ?_ ?_ <;> clear h <;> intro h <;> cbv
                    · have e := ret_some h; clear h
                      refine hK _ _ ?_
                      cbv
                      try (subst e; simp only [D.han, D.hbeq, D.hcmp, D.hnt, D.hun, and_self, and_true, true_and] <;> (repeat' apply And.intro) <;> rfl)
                    · have e := ret_some h; clear h
                      refine hK _ _ ?_
                      cbv
                      try (subst e; simp only [D.han, D.hbeq, D.hcmp, D.hnt, D.hun, and_self, and_true, true_and] <;> (repeat' apply And.intro) <;> rfl)

end Go.Proofs.Ytjcabmhnekcbgaa

end
section
/- The one statement over its function that the law BitsDivides comes to. Conditions: none. -/
-- Told by a program of this seat's session. Not trusted: Lean checks it.

namespace Go.Proofs.Ytjcabmhnekcbgaa
open Go.Ab Go.RowKit
def BitsDivides.Claim : Prop := ∀ (x0 : (Int × Bool)) (x1 : (Int × Bool)) (x2 : (Int × Int)), (fun x : (Int × Bool) => (fun n : Int => (Lit.int .i64 n).wf = true) x.1 ∧ (fun _ : Bool => True) x.2) x0 → (fun x : (Int × Bool) => (fun n : Int => (Lit.int .i64 n).wf = true) x.1 ∧ (fun _ : Bool => True) x.2) x1 → (fun x : Int × Int => (fun n : Int => (Lit.int .i64 n).wf = true) x.1 ∧ (fun n : Int => (Lit.int .i64 n).wf = true) x.2) x2 → Ab.Fn Try.prog TT 6 [.agg [.i .i64 x0.1, .b x0.2], .agg [.i .i64 x1.1, .b x1.2], .agg [.i .i64 x2.1, .i .i64 x2.2]] (.b true) []
end Go.Proofs.Ytjcabmhnekcbgaa
end
section
namespace Go.Proofs.Ytjcabmhnekcbgaa
open Go.Ab Go.RowKit
def opv (o z : Int) (b : Bool) (v u : Int) : Int := wT (pz z) (pb z b) (fop o (wT (pz z) (pb z b) (wT z b v)) (wT (pz z) (pb z b) (wT z b u)))
theorem opv_i64 (o z : Int) (b : Bool) (v u : Int) : I64 (opv o z b v u) := wT_i64 _ _
theorem s14s {o : Int} (ho : Rop o) {z : Int} (b : Bool) {v u : Int} (hz : OkZ z) (hv : I64 v) (hu : I64 u) : d14 o z b v z b u = some (pz z, pb z b, opv o z b v u, 0) := by
  rw [s14 ho b b hz hz hv hu, (us_self z b).1, (us_self z b).2]; rfl
theorem s11 {o : Int} (ho : Rop o) {z : Int} (b : Bool) {v u : Int} (hz : OkZ z) (hv : I64 v) (hu : I64 u) : d11 o z b v u = some (pz z, pb z b, opv o z b v u) := by
  unfold d11; rw [s14s ho b hz hv hu]; rfl
theorem opv_mod {o : Int} (ho : Rop o) {z t : Int} (b : Bool) (v u : Int) (hz : OkZ z) (ht : OkZ t) (hl : t ≤ z) : opv o z b v u % md t = fop o v u % md t := by
  have hp := pz_ok hz
  have h1 := pz_ge hz
  have e : ∀ x, wT (pz z) (pb z b) (wT z b x) % md t = x % md t := fun x => by
    rw [mod_le ht hp (by omega) (wT_mod hp _ _), mod_le ht hz hl (wT_mod hz _ _)]
  unfold opv
  rw [mod_le ht hp (by omega) (wT_mod hp _ _)]
  exact fop_congr ho ht (e v) (e u)
theorem opv_modp {o : Int} (ho : Rop o) {z : Int} (b : Bool) (v u : Int) (hz : OkZ z) (hb : 4 ≤ z) : opv o z b v u % md z = fop o v u % md z := opv_mod ho b v u hz hz (Int.le_refl _)
theorem k1 {o : Int} (ho : Rop o) {z t : Int} (b c : Bool) (v u : Int) (hz : OkZ z) (ht : OkZ t) (hl : t ≤ z) : wT t c (opv o z b v u) = wT t c (opv o t c (wT t c v) (wT t c u)) := by
  refine wT_congr ht c ?_
  rw [opv_mod ho b v u hz ht hl, opv_mod ho c _ _ ht ht (Int.le_refl _)]
  exact fop_congr ho ht (wT_mod ht c v).symm (wT_mod ht c u).symm
theorem k2 {o : Int} (ho : Rop o) (h2 : o ≠ 2) (z : Int) (b : Bool) (v u : Int) : opv o z b v u = opv o z b u v := by
  unfold opv; rw [fop_comm ho h2]
theorem k3 {o : Int} (ho : Rop o) (h2 : o ≠ 2) {z : Int} (b : Bool) (v u x : Int) (hz : OkZ z) (h4 : 4 ≤ z) : opv o z b (opv o z b v u) x = opv o z b v (opv o z b u x) := by
  have e1 := pz_id h4
  have e : ∀ y, wT z b (wT z b y) % md z = y % md z := fun y => by rw [wT_mod hz, wT_mod hz]
  have key : fop o (opv o z b v u) x % md z = fop o v (opv o z b u x) % md z := by
    rw [fop_congr ho hz (opv_mod ho b v u hz hz (Int.le_refl _)) (rfl : x % md z = x % md z), mod_64 hz (fop_assoc ho h2 v u x)]
    exact fop_congr ho hz rfl (opv_mod ho b u x hz hz (Int.le_refl _)).symm
  rw [show opv o z b (opv o z b v u) x = wT (pz z) (pb z b) (fop o (wT (pz z) (pb z b) (wT z b (opv o z b v u))) (wT (pz z) (pb z b) (wT z b x))) from rfl,
    show opv o z b v (opv o z b u x) = wT (pz z) (pb z b) (fop o (wT (pz z) (pb z b) (wT z b v)) (wT (pz z) (pb z b) (wT z b (opv o z b u x)))) from rfl, e1, pb_id h4]
  refine wT_congr hz b ?_
  rw [fop_congr ho hz (e _) (e _), fop_congr ho hz (e v) (e (opv o z b u x)), key]
theorem i64_wf {n : Int} (h : (Lit.int .i64 n).wf = true) : I64 n := by
  simp [Lit.wf, IntKind.min, IntKind.max, IntKind.bits, IntKind.signed] at h
  unfold I64
  omega
end Go.Proofs.Ytjcabmhnekcbgaa
end
section
namespace Go.Proofs.Ytjcabmhnekcbgaa
open Go.Ab Go.RowKit
theorem div_mod {z : Int} (b : Bool) {x w : Int} (hx : I64 x) (hw : I64 w) (h0 : w ≠ 0) : (divQ z b x w * w + divR z b x w) % 18446744073709551616 = x % 18446744073709551616 := by
  unfold divQ divR
  by_cases h : z = 8 ∧ b = false
  · rw [if_pos h, if_pos h]
    have e1 := numT_mod z b x
    have e2 := numT_mod z b w
    have e3 := wk_mod (numT z b x / numT z b w)
    have e4 := wk_mod (numT z b x % numT z b w)
    have e5 := Int.mul_ediv_add_emod (numT z b x) (numT z b w)
    rw [← e1]
    generalize numT z b x = p at *
    generalize numT z b w = q at *
    rw [Int.add_emod, Int.mul_emod, e3, ← e2, e4, ← Int.mul_emod, ← Int.add_emod, Int.mul_comm, e5]
  · rw [if_neg h, if_neg h]
    by_cases h1 : w = -1
    · rw [if_pos h1, if_pos h1, h1]
      have := wk_mod (0 - x)
      omega
    · rw [if_neg h1, if_neg h1]
      have e3 := wk_mod (x.tdiv w)
      have e5 := Int.mul_tdiv_add_tmod x w
      rw [Int.add_emod, Int.mul_emod, e3, ← Int.mul_emod, ← Int.add_emod, Int.mul_comm, e5]
theorem uz_48 {z y : Int} (h : OkZ z) (k : OkZ y) : uz z y = 4 ∨ uz z y = 8 := by
  have h1 := uz_ok h k
  have h2 := uz_4 h k
  rcases h1 with e | e | e | e <;> omega
theorem rem_s {q : Int} (hq : q = 4 ∨ q = 8) (a' w' : Int) (h0 : wT q true w' ≠ 0) :
    ∃ R, wT q true (divR q true (wT q true a') (wT q true w')) = R ∧ (R = 0 ∨ (R < 0 ↔ wT q true a' < 0)) ∧ R.natAbs < (wT q true w').natAbs ∧ I64 R := by
  have ra : wT q true a' = wT q true a' := rfl
  have r4 : q = 4 → -2147483648 ≤ wT q true a' ∧ wT q true a' < 2147483648 := fun e => by subst e; simp [wT]; omega
  have r8 := wT_i64 (z := q) true a'
  generalize wT q true a' = a at *
  generalize wT q true w' = w at *
  refine ⟨_, rfl, ?_⟩
  have e : wT q true (divR q true a w) = divR q true a w ∧ (divR q true a w = 0 ∨ (divR q true a w < 0 ↔ a < 0)) ∧ (divR q true a w).natAbs < w.natAbs := by
    unfold divR
    rw [if_neg (by simp)]
    by_cases h1 : w = -1
    · rw [if_pos h1, h1]
      refine ⟨?_, .inl rfl, by decide⟩
      rcases hq with rfl | rfl <;> rfl
    · rw [if_neg h1]
      have n1 : (a.tmod w).natAbs = a.natAbs % w.natAbs := Int.natAbs_tmod a w
      have n2 : a.natAbs % w.natAbs < w.natAbs := Nat.mod_lt _ (by omega)
      have n3 : a.natAbs % w.natAbs ≤ a.natAbs := Nat.mod_le _ _
      have n4 : 0 ≤ a → 0 ≤ a.tmod w := fun h => Int.tmod_nonneg w h
      have n5 : a ≤ 0 → a.tmod w ≤ 0 := fun h => by
        have := Int.tmod_nonneg w (a := -a) (by omega)
        rw [Int.neg_tmod] at this; omega
      generalize a.tmod w = t at *
      unfold I64 at r8
      refine ⟨?_, ?_, by omega⟩
      · rcases hq with rfl | rfl
        · have := r4 rfl
          simp [wT]; omega
        · simp [wT]; omega
      · by_cases h : t = 0
        · exact .inl h
        · right; omega
  rw [e.1]
  exact ⟨e.2.1, e.2.2, e.1 ▸ wT_i64 _ _⟩
theorem rem_u {q : Int} (hq : q = 4 ∨ q = 8) (a' w' : Int) (h0 : wT q false w' ≠ 0) :
    numT q false (wT q false (divR q false (wT q false a') (wT q false w'))) < numT q false (wT q false w') := by
  rcases hq with rfl | rfl
  · have h1 : 0 ≤ wT 4 false a' ∧ wT 4 false a' < 4294967296 := by simp [wT]; omega
    have h2 : 0 ≤ wT 4 false w' ∧ wT 4 false w' < 4294967296 := by simp [wT]; omega
    rw [numT_s (by decide), numT_s (by decide)]
    generalize wT 4 false a' = a at *
    generalize wT 4 false w' = w at *
    unfold divR
    rw [if_neg (by decide), if_neg (by omega), Int.tmod_eq_emod_of_nonneg h1.1]
    have h3 := Int.emod_nonneg a h0
    have h4 := Int.emod_lt_of_pos a (b := w) (by omega)
    have : wT 4 false (a % w) = a % w := by
      generalize a % w = t at *
      simp [wT]; omega
    omega
  · have hw := wT_i64 (z := 8) false w'
    have ha := wT_i64 (z := 8) false a'
    generalize wT 8 false a' = a at *
    generalize wT 8 false w' = w at *
    have h2 := num_nn hw
    have h3 := num_ne hw h0
    have h4 := Int.emod_nonneg (numT 8 false a) h3
    have h5 := Int.emod_lt_of_pos (numT 8 false a) (b := numT 8 false w) (by omega)
    unfold divR
    rw [if_pos ⟨rfl, rfl⟩]
    generalize numT 8 false a % numT 8 false w = t at *
    generalize numT 8 false w = u at *
    have e : wT 8 false (wrapK .i64 t) = wrapK .i64 t := by rw [wk_i64]; simp [wT] <;> omega
    rw [e, numT8, wk_i64]
    split <;> omega
theorem opv_fix {z : Int} (h : OkZ z) (h4 : 4 ≤ z) (o : Int) (b : Bool) (v u : Int) : wT z b (opv o z b v u) = opv o z b v u := by
  unfold opv; rw [pz_id h4, pb_id h4, wT_id h]
theorem BitsDivides.d6_true (z : Int) (b : Bool) (y : Int) (c : Bool) {v u : Int} (hv : I64 v) (hu : I64 u) : d6 z b y c v u = some true := by
  unfold d6
  simp only [s9, s15, Option.bind_some, notB']
  by_cases h : OkZ z ∧ OkZ y
  · obtain ⟨h1, h2⟩ := h
    have hq := uz_ok h1 h2
    have h4 := uz_4 h1 h2
    have h48 := uz_48 h1 h2
    have e1 := s16 z b (uz z y) (ub z b y c) hv
    have e2 := s16 y c (uz z y) (ub z b y c) hu
    rw [if_pos ⟨h1, hq⟩] at e1
    rw [if_pos ⟨h2, hq⟩] at e2
    have e3 := s14d (.inl rfl : (4 : Int) = 4 ∨ (4 : Int) = 5) b c h1 h2 hv hu
    have e4 := s14d (.inr rfl : (5 : Int) = 4 ∨ (5 : Int) = 5) b c h1 h2 hv hu
    rw [if_pos rfl] at e3
    rw [if_neg (show ¬ (5 : Int) = 4 by decide)] at e4
    simp only [h1, h2, and_self, if_true, e1, e2, e3, e4, Option.bind_some, c_neq, c_eql]
    have hi1 := wT_i64 (z := uz z y) (ub z b y c) (wT z b v)
    have hi2 := wT_i64 (z := uz z y) (ub z b y c) (wT y c u)
    have rs := fun h => rem_s h48 (wT z b v) (wT y c u) h
    have ru := fun h => rem_u h48 (wT z b v) (wT y c u) h
    generalize hs : ub z b y c = s at *
    generalize uz z y = q at *
    by_cases h0 : wT q s (wT y c u) = 0
    · simp [h0]
    · have hQ := wT_i64 (z := q) s (divQ q s (wT q s (wT z b v)) (wT q s (wT y c u)))
      have hR := wT_i64 (z := q) s (divR q s (wT q s (wT z b v)) (wT q s (wT y c u)))
      have m1 := s11 (.inr (.inr (.inl rfl)) : Rop 3) s hq hQ hi2
      have m2 := s11 (.inl rfl : Rop 1) s hq (opv_i64 3 q s (wT q s (divQ q s (wT q s (wT z b v)) (wT q s (wT y c u)))) (wT q s (wT y c u))) hR
      have m3 := s19 s hq hR hi2
      have sum : opv 1 q s (opv 3 q s (wT q s (divQ q s (wT q s (wT z b v)) (wT q s (wT y c u)))) (wT q s (wT y c u))) (wT q s (divR q s (wT q s (wT z b v)) (wT q s (wT y c u)))) = wT q s (wT z b v) := by
        have w : ∀ x, wT q s x % md q = x % md q := fun x => wT_mod hq s x
        refine (opv_fix hq h4 1 s _ _).symm.trans ((wT_congr hq s ?_).trans (wT_id hq s _))
        rw [opv_mod (.inl rfl) s _ _ hq hq (Int.le_refl _), fop_congr (.inl rfl) hq (opv_mod (.inr (.inr (.inl rfl))) s _ _ hq hq (Int.le_refl _)) (w _), fop_congr (.inl rfl) hq (fop_congr (.inr (.inr (.inl rfl))) hq (w _) rfl) rfl]
        refine mod_64 hq ?_
        rw [f1, f3, wk_mod, Int.add_emod, wk_mod, ← Int.add_emod]
        exact div_mod s hi1 hi2 h0
      simp only [if_neg h0]
      simp only [pz_id h4, pb_id h4] at m1 m2
      cases s with
      | false =>
        have r := ru h0
        have cm : cmpV (numT q false (wT q false (wT q false (divR q false (wT q false (wT z b v)) (wT q false (wT y c u)))))) (numT q false (wT q false (wT q false (wT y c u)))) = -1 := by
          unfold cmpV; rw [wT_id hq, wT_id hq, if_pos r]
        rw [cm] at m3
        simp [m1, m2, m3, sum, h0, andB', beqB, c_lss]
      | true =>
        obtain ⟨R, e, r1, r2, r3⟩ := rs h0
        clear rs ru
        simp only [e] at m1 m2 m3 sum ⊢
        simp only [m1, m2, sum, h0, Option.bind_some]
        generalize wT q true (wT z b v) = A at *
        generalize wT q true (wT y c u) = W at *
        unfold I64 at r3 hi2
        have n1 : 0 < R → unReal .neg .i64 R = -R := fun _ => by rw [un_negi, wk_i64]; omega
        have n2 : 0 < W → unReal .neg .i64 W = -W := fun _ => by rw [un_negi, wk_i64]; omega
        by_cases c1 : 0 < R <;> by_cases c2 : 0 < W <;> by_cases c3 : A < 0 <;> by_cases c4 : R < 0 <;> by_cases c5 : R = 0 <;> simp [andB', beqB, c_lss, c_gtr, c_neq, c1, c2, c3, c4, c5, n1, n2] <;> omega
  · simp [h, c_neq]
theorem BitsDivides.pure : BitsDivides.Claim := by
  intro x0 x1 x2 h0 h1 h2
  exact w6 _ _ _ _ _ _ true (BitsDivides.d6_true _ _ _ _ (i64_wf' h2.1) (i64_wf' h2.2))
end Go.Proofs.Ytjcabmhnekcbgaa
end
section
/- BitsDivides: the law's call returns true for every input, and its arguments read afterwards as_ before. Conditions: none. -/
-- Told by a program of this seat's session. Not trusted: Lean checks it.

namespace Go.Proofs.Ytjcabmhnekcbgaa.bitsDivides
open Go.ChangeShapes Go.WideShapes Go.ChangeAt Go.RowKit Go.Ab Go.Proofs.Ytjcabmhnekcbgaa
open Go.ChangeMaps (open_string shut_string)
theorem own : ownKnob Try.prog.godebug = none := by kernel_rfl
theorem laidOut : laidOutB Try.prog = true := by kernel_rfl
set_option maxRecDepth 100000 in
set_option maxHeartbeats 8000000 in
theorem lifted (os : Os) (started : os.Started) (H : Type) (enc : TypeId × Value → H) :
    ReturnsInHanded {} Try.checked os 6 .any (Rows.bitsDividesSpec.pre6 enc Try.prog Try.f6 Rows.bitsDividesRow.domain false) (Rows.bitsDividesSpec.post enc Try.prog Try.f6 false true false false) := by
  refine returnsInHanded_of_change_sized (C := Try.checked) own started (by kernel_rfl) Try.func6
    (ChangeSpec.witness6 (enc := enc) (C := Try.checked) false ⟨#[], #[.agg #[.int .i64 0, .bool false], .agg #[.int .i64 0, .bool false], .agg #[.int .i64 0, .int .i64 0]], []⟩ 8 (by kernel_rfl) (by kernel_rfl) (by kernel_rfl) (by kernel_rfl)) ?_
  intro W base args ds gs before hval0 hW hcnd hsz0 _
  have hval : ∀ (j : Nat) t v, Try.f6.params[j]? = some t → args[j]? = some v → Value.okWide Try.prog W .any base t v := hval0
  have hW' := hW
  obtain ⟨p, q, hA0, hV, rfl, hfz, hnd⟩ := hW
  have hA : DataW.TrodAll enc Try.prog W 0 (fun _ => true) true Try.f6.params.toList args.toList ds p := hA0
  rw [Try.params6] at hA hval
  obtain ⟨v0, vs0, d0, ds0, p0, q0, hargs, rfl, rfl, h0, r0⟩ := trodAll_cons hA
  obtain ⟨v1, vs1, d1, ds1, p1, q1, rfl, rfl, rfl, h1, r1⟩ := trodAll_cons r0
  obtain ⟨v2, vs2, d2, ds2, p2, q2, rfl, rfl, rfl, h2, r2⟩ := trodAll_cons r1
  obtain ⟨rfl, rfl, rfl⟩ := trodAll_nil r2
  obtain rfl : args = #[v0, v1, v2] := by cases args; simp_all
  obtain ⟨rfl, rfl⟩ := trodVars_none hV
  have k0 := h0
  have lt0 : ∀ x ∈ p0, x.block < W.heap.size := by obtain ⟨m, hm⟩ := k0; exact DataW.trod_lt m _ _ _ hm
  obtain ⟨cs0, rfl, sz0⟩ := okWide_struct Try.underlying23 (hval 0 23 v0 rfl rfl)
  obtain ⟨x0, ra0, rb0, _, ok0⟩ := h0.elim fun fuel hf => ((OpV.struct tok (te := te23) (by kernel_rfl) rfl (by kernel_rfl) (OpAt.cons rfl (by kernel_rfl) (OpV.int tok (e := te3) (by kernel_rfl) rfl) (OpAt.last rfl (by kernel_rfl) (OpV.bool tok (e := te4) (by kernel_rfl) rfl)))) : OpV TT enc Try.prog W 23 _ _ _) _ _ _ hf
  have k1 := h1
  have lt1 : ∀ x ∈ p1, x.block < W.heap.size := by obtain ⟨m, hm⟩ := k1; exact DataW.trod_lt m _ _ _ hm
  obtain ⟨cs1, rfl, sz1⟩ := okWide_struct Try.underlying23 (hval 1 23 v1 rfl rfl)
  obtain ⟨x1, ra1, rb1, _, ok1⟩ := h1.elim fun fuel hf => ((OpV.struct tok (te := te23) (by kernel_rfl) rfl (by kernel_rfl) (OpAt.cons rfl (by kernel_rfl) (OpV.int tok (e := te3) (by kernel_rfl) rfl) (OpAt.last rfl (by kernel_rfl) (OpV.bool tok (e := te4) (by kernel_rfl) rfl)))) : OpV TT enc Try.prog W 23 _ _ _) _ _ _ hf
  have k2 := h2
  have lt2 : ∀ x ∈ p2, x.block < W.heap.size := by obtain ⟨m, hm⟩ := k2; exact DataW.trod_lt m _ _ _ hm
  obtain ⟨cs2, rfl, sz2⟩ := okWide_arr Try.underlying45 (hval 2 45 v2 rfl rfl)
  obtain ⟨x2, ra2, rb2, _, ok2⟩ := h2.elim fun fuel hf => ((OpV.arr2 tok (te := te45) (by kernel_rfl) rfl (by kernel_rfl) (by kernel_rfl) (OpV.int tok (e := te2) (by kernel_rfl) rfl)) : OpV TT enc Try.prog W 45 _ _ _) _ _ _ hf
  clear hA0 hval0 hsz0
  refine (law_calls (w := W) ⟨_, _, Try.func6, by kernel_rfl, w6_h⟩ (BitsDivides.pure x0 x1 x2 ok0 ok1 ok2) (args_agg ra0 rb0 (args_agg ra1 rb1 (args_agg ra2 rb2 args_nil)))).mono fun e W' ⟨he, bel⟩ => ?_
  subst he
  exact ⟨_, rfl, _, _, _, [], _, [], hW', trodAll_mk1 (shut_bool Try.underlying4 _), (trodAll_cons_mk (Below.trod laidOut (by kernel_rfl) (of_decide_eq_true (by kernel_rfl)) k0 bel lt0) (trodAll_cons_mk (Below.trod laidOut (by kernel_rfl) (of_decide_eq_true (by kernel_rfl)) k1 bel lt1) (trodAll_cons_mk (Below.trod laidOut (by kernel_rfl) (of_decide_eq_true (by kernel_rfl)) k2 bel lt2) trodAll_mk0))), rfl, bel.frame _, fun h => by cases h⟩
theorem over : Rows.bitsDividesRow.holds Try.pinned (OpenSpec.ofChange Rows.bitsDividesSpec) :=
  OpenClaim.holds_of_wide 6 Try.f6 rfl rfl rfl rfl rfl rfl rfl ⟨rfl, rfl, rfl, rfl, rfl⟩ rfl rfl rfl rfl rfl (by kernel_rfl) Try.func6 (by kernel_rfl)
    (of_decide_eq_true (by kernel_rfl)) (by unfold Func.isWrapper; first | (rw [if_pos (by decide +kernel)]; kernel_rfl) | (rw [if_neg (by decide +kernel)]; exact ⟨rfl, rfl⟩))
    (fun os started H enc _ => lifted os started H enc)
theorem proved : Rows.BitsDividesSaid := over
end Go.Proofs.Ytjcabmhnekcbgaa.bitsDivides
namespace Go.Proofs.Ytjcabmhnekcbgaa
theorem bitsDivides_holds : Rows.BitsDividesSaid := bitsDivides.proved
end Go.Proofs.Ytjcabmhnekcbgaa
end
