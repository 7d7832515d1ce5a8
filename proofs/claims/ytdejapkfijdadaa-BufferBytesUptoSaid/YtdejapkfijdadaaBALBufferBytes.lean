/- The law BufferBytes: its function's walk, the pure law, the row. Conditions: none. -/
import Derived.Test.YtdejapkfijdadaaRows
import Derived.WalkKit
import Derived.ProofKit
import Derived.OpenShut
import Derived.ShutString
import Derived.ChangeOld
import Derived.Below
import Derived.SizedLaws
import Derived.Carry
import Derived.JoinedCond
import Derived.Test.YtdejapkfijdadaaBA5
set_option linter.unusedVariables false
set_option linter.unusedSimpArgs false
section
namespace Go.Proofs.Ytdejapkfijdadaa
open Go.Ab Go.RowKit 
set_option maxRecDepth 100000
set_option maxHeartbeats 40000000
noncomputable def w7_c : Code := (Try.f7.body).getD .skip
theorem w7_h : Try.f7.body = some w7_c := by kernel_rfl
theorem w7 (a0 : List V) (a1 : List V) (r : Bool) (h : d7 a0 a1 = some r) : Ab.Fn Try.prog TT 7 [.sl 33 a0, .sl 5 a1] (.b r) [] := by
  refine fn_pure tok W0 Try.func7 (by kernel_rfl) w7_h (by kernel_rfl) ?_
  intro ar un cv mn mx pl mi cmp nt beq an scmp cat slen sbyte ssub ofB toB len gi gb gs gl sub put app ovl rep ne0 ge0 inb bnd room sroom need br call callb loop cut nl E R K hK
  have D := E.D
  clear E
  unfold d7 at h
  cbv
  refine R.callD h (fun x1 hx1 h2 => ?_)
  clear h; have h := h2; clear h2
  refine R.call' (w14 _ hx1) (by (first | (simp only [D.happ, D.har, D.hcmp, D.hgi, D.hgl, D.hinb, D.hlen, D.hnt, D.hroom, D.hscmp, D.htoB]; done) | rfl | (simp only [D.happ, D.har, D.hcmp, D.hgi, D.hgl, D.hinb, D.hlen, D.hnt, D.hroom, D.hscmp, D.htoB]; rfl))) ?_
  clear hx1; cbv
  refine R.cutB (fun p => p) (fun _ _ e => e) h [] (fun p22 => [(6, .row 111), (7, .row 127)]) (fun p22 => [(111, .row 5 p22.1), (127, .row 33 p22.2)]) (by kernel_rfl) (by kernel_rfl) (fun y10 hy hFy10 L hLy10 => ?_) (fun p22 h2 => ?_)
  · clear h; have h := hy; clear hy; cbv
    refine R.loopD h (fun s0 y18 e0 hi hFs15 => ?_)
    clear h
    refine R.born' (e := te5) 6 111 5 rfl rfl (by kernel_rfl) (by decide) ?_
    refine R.born' (e := te33) 7 127 33 rfl rfl (by kernel_rfl) (by decide) ?_
    refine R.loopI hi [] (fun s15 => [(6, .row 111), (7, .row 127), (8, .i .i64 s15.1)]) (fun s15 => [(111, .row 5 s15.2.1), (127, .row 33 s15.2.2)]) ⟨by kernel_rfl, ?_, ?_, by kernel_rfl, by kernel_rfl⟩ (by kernel_rfl) ?_
    · cbv; try (subst e0; simp only [D.happ, D.har, D.hcmp, D.hgi, D.hgl, D.hinb, D.hlen, D.hnt, D.hroom, D.hscmp, D.htoB, and_self, and_true, true_and] <;> (repeat' apply And.intro) <;> rfl)
    · cbv; try (subst e0; simp only [D.happ, D.har, D.hcmp, D.hgi, D.hgl, D.hinb, D.hlen, D.hnt, D.hroom, D.hscmp, D.htoB, and_self, and_true, true_and] <;> (repeat' apply And.intro) <;> rfl)
    clear hi e0
    intro s15 m y' hy hins15 houts15 L hLs15
    have h := hy; clear hy; unfold d7_b1 at h
    cbv
    refine R.cut' (by kernel_rfl) (by kernel_rfl) ?_
    cbv
    refine R.cut' (by kernel_rfl) (by kernel_rfl) ?_
    cbv
    refine R.brD h (by (first | (simp only [D.happ, D.har, D.hcmp, D.hgi, D.hgl, D.hinb, D.hlen, D.hnt, D.hroom, D.hscmp, D.htoB]; done) | rfl | (simp only [D.happ, D.har, D.hcmp, D.hgi, D.hgl, D.hinb, D.hlen, D.hnt, D.hroom, D.hscmp, D.htoB]; rfl))) ?_ ?_ <;> clear h <;> intro h <;> cbv
    · refine R.brD h (by (first | (simp only [D.happ, D.har, D.hcmp, D.hgi, D.hgl, D.hinb, D.hlen, D.hnt, D.hroom, D.hscmp, D.htoB]; done) | rfl | (simp only [D.happ, D.har, D.hcmp, D.hgi, D.hgl, D.hinb, D.hlen, D.hnt, D.hroom, D.hscmp, D.htoB]; rfl))) ?_ ?_ <;> clear h <;> intro h <;> cbv
      · refine R.cut' (by kernel_rfl) (by kernel_rfl) ?_
        cbv
        refine R.needD h (by (first | (simp only [D.happ, D.har, D.hcmp, D.hgi, D.hgl, D.hinb, D.hlen, D.hnt, D.hroom, D.hscmp, D.htoB]; done) | rfl | (simp only [D.happ, D.har, D.hcmp, D.hgi, D.hgl, D.hinb, D.hlen, D.hnt, D.hroom, D.hscmp, D.htoB]; rfl))) ?_
        clear h; intro h; cbv
        refine R.callD h (fun x20 hx20 h2 => ?_)
        clear h; have h := h2; clear h2
        refine R.call' (w24 _ _ _ _ hx20) (by (first | (simp only [D.happ, D.har, D.hcmp, D.hgi, D.hgl, D.hinb, D.hlen, D.hnt, D.hroom, D.hscmp, D.htoB]; done) | rfl | (simp only [D.happ, D.har, D.hcmp, D.hgi, D.hgl, D.hinb, D.hlen, D.hnt, D.hroom, D.hscmp, D.htoB]; rfl))) ?_
        clear hx20; cbv
        refine R.brD h (by (first | (simp only [D.happ, D.har, D.hcmp, D.hgi, D.hgl, D.hinb, D.hlen, D.hnt, D.hroom, D.hscmp, D.htoB]; done) | rfl | (simp only [D.happ, D.har, D.hcmp, D.hgi, D.hgl, D.hinb, D.hlen, D.hnt, D.hroom, D.hscmp, D.htoB]; rfl))) ?_ ?_ <;> clear h <;> intro h <;> cbv
        · refine R.needD h (by (first | (simp only [D.happ, D.har, D.hcmp, D.hgi, D.hgl, D.hinb, D.hlen, D.hnt, D.hroom, D.hscmp, D.htoB]; done) | rfl | (simp only [D.happ, D.har, D.hcmp, D.hgi, D.hgl, D.hinb, D.hlen, D.hnt, D.hroom, D.hscmp, D.htoB]; rfl))) ?_
          clear h; intro h; cbv
          refine R.needD h (by (first | (simp only [D.happ, D.har, D.hcmp, D.hgi, D.hgl, D.hinb, D.hlen, D.hnt, D.hroom, D.hscmp, D.htoB]; done) | rfl | (simp only [D.happ, D.har, D.hcmp, D.hgi, D.hgl, D.hinb, D.hlen, D.hnt, D.hroom, D.hscmp, D.htoB]; rfl))) ?_
          clear h; intro h; cbv
          refine R.needD h (by (first | (simp only [D.happ, D.har, D.hcmp, D.hgi, D.hgl, D.hinb, D.hlen, D.hnt, D.hroom, D.hscmp, D.htoB]; done) | rfl | (simp only [D.happ, D.har, D.hcmp, D.hgi, D.hgl, D.hinb, D.hlen, D.hnt, D.hroom, D.hscmp, D.htoB]; rfl))) ?_
          clear h; intro h; cbv
          obtain ⟨s', e, hi⟩ := inl_some h hins15
          refine hLs15 s' _ _ hi ⟨by kernel_rfl, ?_, ?_, by kernel_rfl, by kernel_rfl⟩ <;> cbv <;> (try (subst e; simp only [D.happ, D.har, D.hcmp, D.hgi, D.hgl, D.hinb, D.hlen, D.hnt, D.hroom, D.hscmp, D.htoB, and_self, and_true, true_and] <;> (repeat' apply And.intro) <;> rfl))
        · obtain ⟨s', e, hi⟩ := inl_some h hins15
          refine hLs15 s' _ _ hi ⟨by kernel_rfl, ?_, ?_, by kernel_rfl, by kernel_rfl⟩ <;> cbv <;> (try (subst e; simp only [D.happ, D.har, D.hcmp, D.hgi, D.hgl, D.hinb, D.hlen, D.hnt, D.hroom, D.hscmp, D.htoB, and_self, and_true, true_and] <;> (repeat' apply And.intro) <;> rfl))
      · have e := inr_some h houts15; clear h
        have h := hFs15; rw [e] at h; clear e; try dsimp only at h
        cbv
        obtain ⟨s', e, hi⟩ := jn_some (fun p => p) h
        refine hLy10 s' _ _ hi ⟨by kernel_rfl, ?_, ?_, by kernel_rfl, by kernel_rfl⟩ <;> cbv <;> (try (subst e; simp only [D.happ, D.har, D.hcmp, D.hgi, D.hgl, D.hinb, D.hlen, D.hnt, D.hroom, D.hscmp, D.htoB, and_self, and_true, true_and] <;> (repeat' apply And.intro) <;> rfl))
    · have e := inr_some h houts15; clear h
      have h := hFs15; rw [e] at h; clear e; try dsimp only at h
      cbv
      obtain ⟨s', e, hi⟩ := jn_some (fun p => p) h
      refine hLy10 s' _ _ hi ⟨by kernel_rfl, ?_, ?_, by kernel_rfl, by kernel_rfl⟩ <;> cbv <;> (try (subst e; simp only [D.happ, D.har, D.hcmp, D.hgi, D.hgl, D.hinb, D.hlen, D.hnt, D.hroom, D.hscmp, D.htoB, and_self, and_true, true_and] <;> (repeat' apply And.intro) <;> rfl))
  · as_aux_lemma =>
    clear h; have h := h2; clear h2; try dsimp only at h
    cbv
    refine R.callD h (fun x23 hx23 h2 => ?_)
    clear h; have h := h2; clear h2
    refine R.call' (w20s _ _ hx23) (by (first | (simp only [D.happ, D.har, D.hcmp, D.hgi, D.hgl, D.hinb, D.hlen, D.hnt, D.hroom, D.hscmp, D.htoB]; done) | rfl | (simp only [D.happ, D.har, D.hcmp, D.hgi, D.hgl, D.hinb, D.hlen, D.hnt, D.hroom, D.hscmp, D.htoB]; rfl))) ?_
    clear hx23; cbv
    refine R.cut' (by kernel_rfl) (by kernel_rfl) ?_
    cbv
    refine R.cut' (by kernel_rfl) (by kernel_rfl) ?_
    cbv
    refine R.brD h (by (first | (simp only [D.happ, D.har, D.hcmp, D.hgi, D.hgl, D.hinb, D.hlen, D.hnt, D.hroom, D.hscmp, D.htoB]; done) | rfl | (simp only [D.happ, D.har, D.hcmp, D.hgi, D.hgl, D.hinb, D.hlen, D.hnt, D.hroom, D.hscmp, D.htoB]; rfl))) ?_ ?_ <;> clear h <;> intro h <;> cbv
    · have e := ret_some h; clear h
      refine hK _ _ ?_
      cbv
      try (subst e; simp only [D.happ, D.har, D.hcmp, D.hgi, D.hgl, D.hinb, D.hlen, D.hnt, D.hroom, D.hscmp, D.htoB, and_self, and_true, true_and] <;> (repeat' apply And.intro) <;> rfl)
    · as_aux_lemma =>
      refine R.callD h (fun x27 hx27 h2 => ?_)
      clear h; have h := h2; clear h2
      refine R.call' (w18 _ _ _ hx27) (by (first | (simp only [D.happ, D.har, D.hcmp, D.hgi, D.hgl, D.hinb, D.hlen, D.hnt, D.hroom, D.hscmp, D.htoB]; done) | rfl | (simp only [D.happ, D.har, D.hcmp, D.hgi, D.hgl, D.hinb, D.hlen, D.hnt, D.hroom, D.hscmp, D.htoB]; rfl))) ?_
      clear hx27; cbv
      refine R.brD h (by (first | (simp only [D.happ, D.har, D.hcmp, D.hgi, D.hgl, D.hinb, D.hlen, D.hnt, D.hroom, D.hscmp, D.htoB]; done) | rfl | (simp only [D.happ, D.har, D.hcmp, D.hgi, D.hgl, D.hinb, D.hlen, D.hnt, D.hroom, D.hscmp, D.htoB]; rfl))) ?_ ?_ <;> clear h <;> intro h <;> cbv
      · have e := ret_some h; clear h
        refine hK _ _ ?_
        cbv
        try (subst e; simp only [D.happ, D.har, D.hcmp, D.hgi, D.hgl, D.hinb, D.hlen, D.hnt, D.hroom, D.hscmp, D.htoB, and_self, and_true, true_and] <;> (repeat' apply And.intro) <;> rfl)
      · as_aux_lemma =>
        refine R.callD h (fun x28 hx28 h2 => ?_)
        clear h; have h := h2; clear h2
        refine R.call' (w20s _ _ hx28) (by (first | (simp only [D.happ, D.har, D.hcmp, D.hgi, D.hgl, D.hinb, D.hlen, D.hnt, D.hroom, D.hscmp, D.htoB]; done) | rfl | (simp only [D.happ, D.har, D.hcmp, D.hgi, D.hgl, D.hinb, D.hlen, D.hnt, D.hroom, D.hscmp, D.htoB]; rfl))) ?_
        clear hx28; cbv
        refine R.cut' (by kernel_rfl) (by kernel_rfl) ?_
        cbv
        refine R.brD h (by (first | (simp only [D.happ, D.har, D.hcmp, D.hgi, D.hgl, D.hinb, D.hlen, D.hnt, D.hroom, D.hscmp, D.htoB]; done) | rfl | (simp only [D.happ, D.har, D.hcmp, D.hgi, D.hgl, D.hinb, D.hlen, D.hnt, D.hroom, D.hscmp, D.htoB]; rfl))) ?_ ?_ <;> clear h <;> intro h <;> cbv
        · refine R.cut' (by kernel_rfl) (by kernel_rfl) ?_
          cbv
          refine R.brD h (by (first | (simp only [D.happ, D.har, D.hcmp, D.hgi, D.hgl, D.hinb, D.hlen, D.hnt, D.hroom, D.hscmp, D.htoB]; done) | rfl | (simp only [D.happ, D.har, D.hcmp, D.hgi, D.hgl, D.hinb, D.hlen, D.hnt, D.hroom, D.hscmp, D.htoB]; rfl))) ?_ ?_ <;> clear h <;> intro h <;> cbv
          · have e := ret_some h; clear h
            refine hK _ _ ?_
            cbv
            try (subst e; simp only [D.happ, D.har, D.hcmp, D.hgi, D.hgl, D.hinb, D.hlen, D.hnt, D.hroom, D.hscmp, D.htoB, and_self, and_true, true_and] <;> (repeat' apply And.intro) <;> rfl)
          · have e := ret_some h; clear h
            refine hK _ _ ?_
            cbv
            try (subst e; simp only [D.happ, D.har, D.hcmp, D.hgi, D.hgl, D.hinb, D.hlen, D.hnt, D.hroom, D.hscmp, D.htoB, and_self, and_true, true_and] <;> (repeat' apply And.intro) <;> rfl)
        · refine R.cutB Sum.inl (fun _ _ e => Sum.inl.inj e) h [] (fun p50 => [(15, .row 255)]) (fun p50 => [(255, .row 5 p50)]) (by kernel_rfl) (by kernel_rfl) (fun y37 hy hFy37 L hLy37 => ?_) (fun p50 h2 => ?_)
          · clear h; have h := hy; clear hy; cbv
            refine R.loopD h (fun s0 y45 e0 hi hFs42 => ?_)
            clear h
            refine R.born' (e := te5) 15 255 5 rfl rfl (by kernel_rfl) (by decide) ?_
            refine R.loopI hi [] (fun s42 => [(15, .row 255), (16, .i .i64 s42.1)]) (fun s42 => [(255, .row 5 s42.2)]) ⟨by kernel_rfl, ?_, ?_, by kernel_rfl, by kernel_rfl⟩ (by kernel_rfl) ?_
            · cbv; try (subst e0; simp only [D.happ, D.har, D.hcmp, D.hgi, D.hgl, D.hinb, D.hlen, D.hnt, D.hroom, D.hscmp, D.htoB, and_self, and_true, true_and] <;> (repeat' apply And.intro) <;> rfl)
            · cbv; try (subst e0; simp only [D.happ, D.har, D.hcmp, D.hgi, D.hgl, D.hinb, D.hlen, D.hnt, D.hroom, D.hscmp, D.htoB, and_self, and_true, true_and] <;> (repeat' apply And.intro) <;> rfl)
            clear hi e0
            intro s42 m y' hy hins42 houts42 L hLs42
            have h := hy; clear hy; unfold d7_b2 at h
            cbv
            refine R.cut' (by kernel_rfl) (by kernel_rfl) ?_
            cbv
            refine R.brD h (by (first | (simp only [D.happ, D.har, D.hcmp, D.hgi, D.hgl, D.hinb, D.hlen, D.hnt, D.hroom, D.hscmp, D.htoB]; done) | rfl | (simp only [D.happ, D.har, D.hcmp, D.hgi, D.hgl, D.hinb, D.hlen, D.hnt, D.hroom, D.hscmp, D.htoB]; rfl))) ?_ ?_ <;> clear h <;> intro h <;> cbv
            · refine R.cut' (by kernel_rfl) (by kernel_rfl) ?_
              cbv
              refine R.needD h (by (first | (simp only [D.happ, D.har, D.hcmp, D.hgi, D.hgl, D.hinb, D.hlen, D.hnt, D.hroom, D.hscmp, D.htoB]; done) | rfl | (simp only [D.happ, D.har, D.hcmp, D.hgi, D.hgl, D.hinb, D.hlen, D.hnt, D.hroom, D.hscmp, D.htoB]; rfl))) ?_
              clear h; intro h; cbv
              refine R.callD h (fun x47 hx47 h2 => ?_)
              clear h; have h := h2; clear h2
              refine R.call' (w24 _ _ _ _ hx47) (by (first | (simp only [D.happ, D.har, D.hcmp, D.hgi, D.hgl, D.hinb, D.hlen, D.hnt, D.hroom, D.hscmp, D.htoB]; done) | rfl | (simp only [D.happ, D.har, D.hcmp, D.hgi, D.hgl, D.hinb, D.hlen, D.hnt, D.hroom, D.hscmp, D.htoB]; rfl))) ?_
              clear hx47; cbv
              refine R.cut' (by kernel_rfl) (by kernel_rfl) ?_
              cbv
              refine R.brD h (by (first | (simp only [D.happ, D.har, D.hcmp, D.hgi, D.hgl, D.hinb, D.hlen, D.hnt, D.hroom, D.hscmp, D.htoB]; done) | rfl | (simp only [D.happ, D.har, D.hcmp, D.hgi, D.hgl, D.hinb, D.hlen, D.hnt, D.hroom, D.hscmp, D.htoB]; rfl))) ?_ ?_ <;> clear h <;> intro h <;> cbv
              · have e := inr_some h houts42; clear h
                have h := hFs42; rw [e] at h; clear e; try dsimp only at h
                cbv
                have e := ret_some h; clear h
                have h := hFy37; rw [e] at h; clear e; try dsimp only at h
                cbv
                have e := ret_some h; clear h
                refine hK _ _ ?_
                cbv
                try (subst e; simp only [D.happ, D.har, D.hcmp, D.hgi, D.hgl, D.hinb, D.hlen, D.hnt, D.hroom, D.hscmp, D.htoB, and_self, and_true, true_and] <;> (repeat' apply And.intro) <;> rfl)
              · refine R.needD h (by (first | (simp only [D.happ, D.har, D.hcmp, D.hgi, D.hgl, D.hinb, D.hlen, D.hnt, D.hroom, D.hscmp, D.htoB]; done) | rfl | (simp only [D.happ, D.har, D.hcmp, D.hgi, D.hgl, D.hinb, D.hlen, D.hnt, D.hroom, D.hscmp, D.htoB]; rfl))) ?_
                clear h; intro h; cbv
                obtain ⟨s', e, hi⟩ := inl_some h hins42
                refine hLs42 s' _ _ hi ⟨by kernel_rfl, ?_, ?_, by kernel_rfl, by kernel_rfl⟩ <;> cbv <;> (try (subst e; simp only [D.happ, D.har, D.hcmp, D.hgi, D.hgl, D.hinb, D.hlen, D.hnt, D.hroom, D.hscmp, D.htoB, and_self, and_true, true_and] <;> (repeat' apply And.intro) <;> rfl))
            · have e := inr_some h houts42; clear h
              have h := hFs42; rw [e] at h; clear e; try dsimp only at h
              cbv
              obtain ⟨s', e, hi⟩ := jn_some Sum.inl h
              refine hLy37 s' _ _ hi ⟨by kernel_rfl, ?_, ?_, by kernel_rfl, by kernel_rfl⟩ <;> cbv <;> (try (subst e; simp only [D.happ, D.har, D.hcmp, D.hgi, D.hgl, D.hinb, D.hlen, D.hnt, D.hroom, D.hscmp, D.htoB, and_self, and_true, true_and] <;> (repeat' apply And.intro) <;> rfl))
          · clear h; have h := h2; clear h2; try dsimp only at h
            cbv
            refine R.cut' (by kernel_rfl) (by kernel_rfl) ?_
            cbv
            refine R.brD h (by (first | (simp only [D.happ, D.har, D.hcmp, D.hgi, D.hgl, D.hinb, D.hlen, D.hnt, D.hroom, D.hscmp, D.htoB]; done) | rfl | (simp only [D.happ, D.har, D.hcmp, D.hgi, D.hgl, D.hinb, D.hlen, D.hnt, D.hroom, D.hscmp, D.htoB]; rfl))) ?_ ?_ <;> clear h <;> intro h <;> cbv
            · have e := ret_some h; clear h
              refine hK _ _ ?_
              cbv
              try (subst e; simp only [D.happ, D.har, D.hcmp, D.hgi, D.hgl, D.hinb, D.hlen, D.hnt, D.hroom, D.hscmp, D.htoB, and_self, and_true, true_and] <;> (repeat' apply And.intro) <;> rfl)
            · have e := ret_some h; clear h
              refine hK _ _ ?_
              cbv
              try (subst e; simp only [D.happ, D.har, D.hcmp, D.hgi, D.hgl, D.hinb, D.hlen, D.hnt, D.hroom, D.hscmp, D.htoB, and_self, and_true, true_and] <;> (repeat' apply And.intro) <;> rfl)
end Go.Proofs.Ytdejapkfijdadaa

end
section
/- The one statement over its function that the law BufferBytes comes to. Conditions: none. -/
-- Told by a program of this seat's session. Not trusted: Lean checks it.

namespace Go.Proofs.Ytdejapkfijdadaa
open Go.Ab Go.RowKit
def BufferBytes.Claim : Prop := ∀ (x0 : (List (Int × (Int × (List Int))))) (x1 : (List Int)), (fun l : List (Int × (Int × (List Int))) => l.length ≤ maxLen ∧ ∀ x ∈ l, (fun x : (Int × (Int × (List Int))) => (fun n : Int => (Lit.int .i64 n).wf = true) x.1 ∧ (fun x : (Int × (List Int)) => (fun n : Int => (Lit.int .i64 n).wf = true) x.1 ∧ (fun l : List Int => l.length ≤ maxLen ∧ ∀ x ∈ l, (fun n : Int => (Lit.int .u8 n).wf = true) x) x.2) x.2) x) x0 → (fun l : List Int => l.length ≤ maxLen ∧ ∀ x ∈ l, (fun n : Int => (Lit.int .u8 n).wf = true) x) x1 → x0.length ≤ 1048576 → x1.length ≤ 1048576 → Ab.Fn Try.prog TT 7 [.sl 33 (x0.map (fun x : (Int × (Int × (List Int))) => .agg [.i .i64 x.1, .i .i64 x.2.1, .sl 5 (x.2.2.map (fun x : Int => .i .u8 x))])), .sl 5 (x1.map (fun x : Int => .i .u8 x))] (.b true) []
end Go.Proofs.Ytdejapkfijdadaa
end
section
/- The law BufferBytes by the calculus. Conditions: none. -/

namespace Go.Proofs.Ytdejapkfijdadaa
open Go.Ab Go.RowKit
theorem BufferBytes.pure : BufferBytes.Claim := by
  intro x0 x1 h0 h1 b0 b1
  rw [map_r]
  exact w7 _ _ true (pl7 _ (ok_r (fun x hx => ((h0.2 x hx).2.2).2)) _ (u8_map h1.2) (by rw [List.length_map]; omega))
end Go.Proofs.Ytdejapkfijdadaa
end
section
/- BufferBytes: the law's call returns true for every input, and its arguments read afterwards as_ before. Conditions: none. -/
-- Told by a program of this seat's session. Not trusted: Lean checks it.

namespace Go.Proofs.Ytdejapkfijdadaa.bufferBytes
open Go.ChangeShapes Go.WideShapes Go.ChangeAt Go.RowKit Go.Ab Go.Proofs.Ytdejapkfijdadaa
open Go.ChangeMaps (open_string shut_string)
theorem own : ownKnob Try.prog.godebug = none := by kernel_rfl
theorem laidOut : laidOutB Try.prog = true := by kernel_rfl
set_option maxRecDepth 100000 in
set_option maxHeartbeats 8000000 in
theorem contract (H : Type) (enc : TypeId × Value → H) (W : World) (base : Nat) (args : Array Value) (ds gs : List (DataW H)) (before : List MemPlace)
    (hval0 : ∀ (j : Nat) t v, Try.f7.params[j]? = some t → args[j]? = some v → Value.okWide Try.prog W .any base t v)
    (hW : DataW.Whole enc Try.prog Try.f7.params.toList Rows.bufferBytesSpec.vars false W args.toList ds gs before) (hk : Rows.uptoSmall H (ds ++ gs) = true) :
    Calls Try.prog 7 args W fun e W' => ∃ v, e = .returned v ∧ Rows.bufferBytesSpec.post enc Try.prog Try.f7 false true false false W args v W' := by
  have hk2 := bulks.bound hk
  rw [bulks.append] at hk2
  have hval : ∀ (j : Nat) t v, Try.f7.params[j]? = some t → args[j]? = some v → Value.okWide Try.prog W .any base t v := hval0
  have hW' := hW
  obtain ⟨p, q, hA0, hV, rfl, hfz, hnd⟩ := hW
  have hA : DataW.TrodAll enc Try.prog W 0 (fun _ => true) true Try.f7.params.toList args.toList ds p := hA0
  rw [Try.params7] at hA hval
  obtain ⟨v0, vs0, d0, ds0, p0, q0, hargs, rfl, rfl, h0, r0⟩ := trodAll_cons hA
  obtain ⟨v1, vs1, d1, ds1, p1, q1, rfl, rfl, rfl, h1, r1⟩ := trodAll_cons r0
  obtain ⟨rfl, rfl, rfl⟩ := trodAll_nil r1
  obtain rfl : args = #[v0, v1] := by cases args; simp_all
  obtain ⟨rfl, rfl⟩ := trodVars_none hV
  have k0 := h0
  have lt0 : ∀ x ∈ p0, x.block < W.heap.size := by obtain ⟨m, hm⟩ := k0; exact DataW.trod_lt m _ _ _ hm
  obtain ⟨aa0, ll0, cc0, rfl⟩ := okWide_slice Try.underlying22 (hval 0 22 v0 rfl rfl)
  obtain ⟨x0, ra0, rb0, _, ok0⟩ := h0.elim fun fuel hf => ((OpV.slice tok (fun x : (Int × (Int × (List Int))) => .agg [.i .i64 x.1, .i .i64 x.2.1, .sl 5 (x.2.2.map (fun x : Int => .i .u8 x))]) (te := te22) (eu := te33) (by kernel_rfl) rfl (by kernel_rfl) (by decide) (by kernel_rfl) (.inl ⟨by kernel_rfl, by kernel_rfl, fun _ => rfl⟩) (OpV.struct tok (te := te33) (by kernel_rfl) rfl (by kernel_rfl) (OpAt.cons rfl (by kernel_rfl) (OpV.int tok (e := te3) (by kernel_rfl) rfl) (OpAt.cons rfl (by kernel_rfl) (OpV.int tok (e := te2) (by kernel_rfl) rfl) (OpAt.last rfl (by kernel_rfl) (OpV.slice tok (fun x : Int => .i .u8 x) (te := te24) (eu := te5) (by kernel_rfl) rfl (by kernel_rfl) (by decide) (by kernel_rfl) (.inr ⟨by kernel_rfl, rfl, fun _ => rfl⟩) (OpV.int tok (e := te5) (by kernel_rfl) rfl))))))) : OpV TT enc Try.prog W 22 _ _ _) _ _ _ hf
  have k1 := h1
  have lt1 : ∀ x ∈ p1, x.block < W.heap.size := by obtain ⟨m, hm⟩ := k1; exact DataW.trod_lt m _ _ _ hm
  obtain ⟨aa1, ll1, cc1, rfl⟩ := okWide_slice Try.underlying24 (hval 1 24 v1 rfl rfl)
  obtain ⟨x1, ra1, rb1, _, ok1⟩ := h1.elim fun fuel hf => ((OpV.slice tok (fun x : Int => .i .u8 x) (te := te24) (eu := te5) (by kernel_rfl) rfl (by kernel_rfl) (by decide) (by kernel_rfl) (.inr ⟨by kernel_rfl, rfl, fun _ => rfl⟩) (OpV.int tok (e := te5) (by kernel_rfl) rfl)) : OpV TT enc Try.prog W 24 _ _ _) _ _ _ hf
  have b0 : x0.length ≤ 1048576 := by
    have e1 := bulks.len_of ra0
    simp only [List.length_map] at e1
    have e2 := k0.elim fun fuel hf => bulks.len_le Try.underlying22 hf
    have e3 := hk2
    simp only [Rows.uptoBulkAll] at e3
    omega
  have b1 : x1.length ≤ 1048576 := by
    have e1 := bulks.len_of ra1
    simp only [List.length_map] at e1
    have e2 := k1.elim fun fuel hf => bulks.len_le Try.underlying24 hf
    have e3 := hk2
    simp only [Rows.uptoBulkAll] at e3
    omega
  clear hA0 hval0
  refine (law_calls (w := W) ⟨_, _, Try.func7, by kernel_rfl, w7_h⟩ (BufferBytes.pure x0 x1 ok0 ok1 b0 b1) (gok W) (args_one ra0 (args_one ra1 args_nil))).mono fun e W' ⟨he, bel⟩ => ?_
  subst he
  exact ⟨_, rfl, _, _, _, [], _, [], hW', trodAll_mk1 (shut_bool Try.underlying4 _), (trodAll_cons_mk (Below.trod laidOut (by kernel_rfl) (of_decide_eq_true (by kernel_rfl)) k0 bel lt0) (trodAll_cons_mk (Below.trod laidOut (by kernel_rfl) (of_decide_eq_true (by kernel_rfl)) k1 bel lt1) trodAll_mk0)), rfl, bel.frame _, fun h => by cases h⟩
set_option maxRecDepth 100000 in
set_option maxHeartbeats 8000000 in
theorem lifted (os : Os) (started : os.Started) (H : Type) (enc : TypeId × Value → H) (F : Stop.Interp) :
    ReturnsInHanded {} Try.checked os 7 .any ((Rows.OpenSpec.upto Rows.bufferBytesSpec).pre6 enc Try.prog Try.f7 Rows.bufferBytesUptoRow.domain false) (((Rows.OpenSpec.upto Rows.bufferBytesSpec).at F).post enc Try.prog Try.f7 false true false false) := by
  refine returnsInHanded_of_cond (C := Try.checked) (s := Rows.OpenSpec.upto Rows.bufferBytesSpec) (k := Rows.uptoSmall) rfl own started (by kernel_rfl) Try.func7
    (OpenSpec.witness (enc := enc) (C := Try.checked) (s := Rows.OpenSpec.upto Rows.bufferBytesSpec) (k := Rows.uptoSmall) rfl false ⟨#[], #[.slice none 0 0, .slice none 0 0], []⟩ 8 (by kernel_rfl) (by kernel_rfl) (by kernel_rfl)
      (x := ([.nil, .nil], [], [])) (by kernel_rfl) rfl (by kernel_rfl)) ?_
  intro W base args ds gs before hval hW _ hk _
  exact contract H enc W base args ds gs before hval hW hk
theorem proved : Rows.BufferBytesUptoSaid :=
  OpenClaim.holds_of_cond 7 Try.f7 rfl rfl rfl rfl rfl rfl rfl ⟨rfl, rfl, rfl, rfl, rfl⟩ rfl rfl rfl rfl rfl (by kernel_rfl) Try.func7 (by kernel_rfl)
    (of_decide_eq_true (by kernel_rfl)) (by unfold Func.isWrapper; first | (rw [if_pos (by decide +kernel)]; kernel_rfl) | (rw [if_neg (by decide +kernel)]; exact ⟨rfl, rfl⟩))
    (fun os started H enc _ F => lifted os started H enc F)
end Go.Proofs.Ytdejapkfijdadaa.bufferBytes
namespace Go.Proofs.Ytdejapkfijdadaa
theorem bufferBytes_holds : Rows.BufferBytesUptoSaid := bufferBytes.proved
end Go.Proofs.Ytdejapkfijdadaa
end
