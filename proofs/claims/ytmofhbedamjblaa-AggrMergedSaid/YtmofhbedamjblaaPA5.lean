/- Texts of this seat, merged in build order. No statement of its own. -/
import Derived.Test.YtmofhbedamjblaaPA4
set_option linter.unusedVariables false
set_option linter.unusedSimpArgs false
section
namespace Go.Proofs.Ytmofhbedamjblaa
open Go.Ab Go.RowKit 
set_option maxRecDepth 100000
set_option maxHeartbeats 40000000
noncomputable def d107v2 (a0 : ByteArray) (a1 : Int) (a2 : List V) (a3 : List V) (a4 : ByteArray) (a5 : Int) (a6 : List V) (a7 : List V) (a8 : List V) (a9 : List V) : Option (Bool × List V) :=
 (d126 a0 a1 a2 a3 a9).bind fun x6 =>
 (d126 a4 a5 a6 a7 a8).bind fun x7 =>
 (d127 x6.1 x6.2 x7.1 x7.2).bind fun x8 =>
 (d125v2 a0 a1 a2 a3 x8.1 x8.2 a9).bind fun x9 =>
 (d104v2 a0 a1 a2 a3 a4 a5 a6 a7 a8 x9).bind fun x10 =>
 some (x10.1, x10.2)
noncomputable def w107v2_c : Code := (Try.f107.body).getD .skip
theorem w107v2_h : Try.f107.body = some w107v2_c := by kernel_rfl
theorem w107v2 (a0 : ByteArray) (a1 : Int) (a2 : List V) (a3 : List V) (a4 : ByteArray) (a5 : Int) (a6 : List V) (a7 : List V) (a8 : List V) (a9 : List V) (r : Bool × List V) (h : d107v2 a0 a1 a2 a3 a4 a5 a6 a7 a8 a9 = some r) : Ab.FnB Try.prog TT 107 [.agg [.str a0, .i .i64 a1, .sl 2 a2, .sl 74 a3, .row 900000], .agg [.str a4, .i .i64 a5, .sl 2 a6, .sl 74 a7, .sl 2 a8]] [(900000, .row 2 a9)] [900000] (.b r.1) [(900000, .row 2 r.2)] := by
 refine fnb_rules tok (fun r => match r with | 1 => [[],[],[1],[],[1,2,3],[1,2,3,4],[0,1,2,3,4,5]] | _ => []) [900000] [.b r.1] [(900000, .row 2 r.2)] [] Try.func107 (by kernel_rfl) w107v2_h (by kernel_rfl) (by rfl) ?_
 intro ar un cv mn mx pl mi cmp nt beq an scmp cat slen sbyte ssub ofB toB len gi gb gs gl sub put app ovl rep ne0 ge0 inb bnd room sroom need br call callb loop cut nl E R K hK
 have D := E.D
 clear E
 unfold d107v2 at h
 cbv
 refine R.callD h (fun x6 hx6 h2 => ?_)
 clear h; have h := h2; clear h2
 refine R.call' (w126 _ _ _ _ _ _ hx6) (by rfl) ?_
 clear hx6; cbv
 refine R.callD h (fun x7 hx7 h2 => ?_)
 clear h; have h := h2; clear h2
 refine R.call' (w126 _ _ _ _ _ _ hx7) (by rfl) ?_
 clear hx7; cbv
 refine R.callD h (fun x8 hx8 h2 => ?_)
 clear h; have h := h2; clear h2
 refine R.call' (w127 _ _ _ _ _ hx8) (by rfl) ?_
 clear hx8; cbv
 refine R.callBD h (fun x9 hx9 h2 => ?_)
 clear h; have h := h2; clear h2
 refine R.callB [(900000, 900000)] (w125v2 a0 a1 a2 a3 x8.1 x8.2 a9 _ hx9) ?_ ?_ rfl ?_
 ·cbv <;> (try simp only [and_self, and_true, true_and] <;> (repeat' apply And.intro) <;> rfl)
 ·cbv <;> (try simp only [and_self, and_true, true_and] <;> (repeat' apply And.intro) <;> rfl)
 clear hx9; cbv
 refine R.callBD h (fun x10 hx10 h2 => ?_)
 clear h; have h := h2; clear h2
 refine R.callB [(900000, 900000)] (w104v2 a0 a1 a2 a3 a4 a5 a6 a7 a8 x9 _ hx10) ?_ ?_ rfl ?_
 ·cbv <;> (try simp only [and_self, and_true, true_and] <;> (repeat' apply And.intro) <;> rfl)
 ·cbv <;> (try simp only [and_self, and_true, true_and] <;> (repeat' apply And.intro) <;> rfl)
 clear hx10; cbv
 have e := ret_some h; clear h
 refine hK _ _ ⟨by kernel_rfl, ?_, ?_, by kernel_rfl, by kernel_rfl⟩ <;> cbv <;> (try (subst e; simp only [and_self, and_true, true_and] <;> (repeat' apply And.intro) <;> rfl))

noncomputable def d53 (a0_0 : ByteArray) (a0_1 : Int) (a0_2 : List V) (a0_3 : List V) (a1 : List V) (a2 : List V) : Option (List V × Int) :=
 (d38 a1).bind fun x1 =>
 Option.bind (α := (List V) ⊕ (List V × Int)) (
 (d70).bind fun x13 =>
 if (Inb a0_1 (Int.ofNat 10)) then
 if (cmpLit .eql a0_1 (Int.ofNat 0)) = true then
 none
 else
 if (cmpLit .eql a0_1 (Int.ofNat 1)) = true then
 (d94v2 a0_0 a0_1 a0_2 a0_3 a0_0 a0_1 a0_2 a0_3 a2 x1).bind fun x14 =>
 if (notB' x14.1) = true then
 some (.inr ([], 2))
 else
 some (.inl x14.2)
 else
 if (cmpLit .eql a0_1 (Int.ofNat 2)) = true then
 (d97v1 a0_0 a0_1 a0_2 a0_3 a0_0 a0_1 a0_2 a0_3 a2 x1).bind fun x15 =>
 if (notB' x15.1) = true then
 some (.inr ([], 2))
 else
 some (.inl x15.2)
 else
 if (cmpLit .eql a0_1 (Int.ofNat 3)) = true then
 (d99v2 a0_0 a0_1 a0_2 a0_3 a0_0 a0_1 a0_2 a0_3 a2 x1).bind fun x16 =>
 if (notB' x16.1) = true then
 some (.inr ([], 2))
 else
 some (.inl x16.2)
 else
 if (cmpLit .eql a0_1 (Int.ofNat 4)) = true then
 (d102v2 a0_0 a0_1 a0_2 a0_3 a0_0 a0_1 a0_2 a0_3 a2 x1).bind fun x17 =>
 if (notB' x17.1) = true then
 some (.inr ([], 2))
 else
 some (.inl x17.2)
 else
 if (cmpLit .eql a0_1 (Int.ofNat 5)) = true then
 (d104v2 a0_0 a0_1 a0_2 a0_3 a0_0 a0_1 a0_2 a0_3 a2 x1).bind fun x18 =>
 if (notB' x18.1) = true then
 some (.inr ([], 2))
 else
 some (.inl x18.2)
 else
 if (cmpLit .eql a0_1 (Int.ofNat 6)) = true then
 (d107v2 a0_0 a0_1 a0_2 a0_3 a0_0 a0_1 a0_2 a0_3 a2 x1).bind fun x19 =>
 if (notB' x19.1) = true then
 some (.inr ([], 2))
 else
 some (.inl x19.2)
 else
 if (cmpLit .eql a0_1 (Int.ofNat 7)) = true then
 (d94v2 a0_0 a0_1 a0_2 a0_3 a0_0 a0_1 a0_2 a0_3 a2 x1).bind fun x20 =>
 if (notB' x20.1) = true then
 some (.inr ([], 2))
 else
 some (.inl x20.2)
 else
 if (cmpLit .eql a0_1 (Int.ofNat 8)) = true then
 (d94v2 a0_0 a0_1 a0_2 a0_3 a0_0 a0_1 a0_2 a0_3 a2 x1).bind fun x21 =>
 if (notB' x21.1) = true then
 some (.inr ([], 2))
 else
 some (.inl x21.2)
 else
 (d94v2 a0_0 a0_1 a0_2 a0_3 a0_0 a0_1 a0_2 a0_3 a2 x1).bind fun x22 =>
 if (notB' x22.1) = true then
 some (.inr ([], 2))
 else
 some (.inl x22.2)
 else none) fun y12 =>
 match y12 with
 | .inl p23 =>
 some (p23, 0)
 | .inr y12r0 =>
 some y12r0
noncomputable def w53_c : Code := (Try.f53.body).getD .skip
theorem w53_h : Try.f53.body = some w53_c := by kernel_rfl
theorem w53 (a0_0 : ByteArray) (a0_1 : Int) (a0_2 : List V) (a0_3 : List V) (a1 : List V) (a2 : List V) (r : List V × Int) (h : d53 a0_0 a0_1 a0_2 a0_3 a1 a2 = some r) : Ab.Fn Try.prog TT 53 [.agg [.str a0_0, .i .i64 a0_1, .sl 2 a0_2, .sl 74 a0_3], .sl 2 a1, .sl 2 a2] (.tup [.row 0, .i .i64 r.2]) [(0, .row 2 r.1)] := by
 refine fn_own tok (fun r => match r with | 1 => [[],[],[1],[0,1,2],[],[0,1,2,3,4]] | 2 => [[],[],[1],[0,1,2],[0,1,2,3],[],[],[],[6,7],[0,1,2,3,4,5,6,7,8],[0,1,2,3,4,5,6,7,8,9]] | _ => []) Try.func53 (by kernel_rfl) w53_h (by kernel_rfl) ?_
 intro _ _ _ _ _ _ _ _ _ _ _ _ _ _ _ _ _ _ _ _ _ _ _ _ _ _ _ _ _ _ _ _ _ _ _ _ _ _ _ _ _ E R K hK
 have D := E.D
 clear E
 have S := And.intro D.hcmp (And.intro D.hinb (D.hnt))
 unfold d53 at h
 cbv
 refine R.callD h (fun x1 hx1 h2 => ?_)
 clear h; have h := h2; clear h2
 refine R.call' (w38 _ _ hx1) (by first|(simp only [S]<;>rfl)|rfl) ?_
 clear hx1; cbv
 refine R.cutB Sum.inl (fun _ _ e => Sum.inl.inj e) h [] (fun p23 => []) (fun p23 => [(176, .row 2 p23)]) (by kernel_rfl) (by kernel_rfl) (fun y12 hy hFy12 L hLy12 => ?_) (fun p23 h2 => ?_)
 ·as_aux_lemma =>
  clear h; have h := hy; clear hy; cbv
  refine R.callD h (fun x13 hx13 h2 => ?_)
  clear h; have h := h2; clear h2
  refine R.call' (w70 _ hx13) (by first|(simp only [S]<;>rfl)|rfl) ?_
  clear hx13; cbv
  refine R.needD h (by first|(simp only [S]<;>rfl)|rfl) ?_
  clear h; intro h; cbv
  refine R.brD h (by first|(simp only [S]<;>rfl)|rfl) ?_ ?_<;>clear h<;>intro h<;>cbv
  ·exact (none_some h).elim
  ·as_aux_lemma =>
   refine R.brD h (by first|(simp only [S]<;>rfl)|rfl) ?_ ?_<;>clear h<;>intro h<;>cbv
   ·refine R.callBD h (fun x14 hx14 h2 => ?_)
    clear h; have h := h2; clear h2
    refine R.callB [(900000, 176)] (w94v2 a0_0 a0_1 a0_2 a0_3 a0_0 a0_1 a0_2 a0_3 a2 x1 _ hx14) ?_ ?_ rfl ?_
    ·cbv <;> (try simp only [S, and_self, and_true, true_and] <;> (repeat' apply And.intro) <;> rfl)
    ·cbv <;> (try simp only [S, and_self, and_true, true_and] <;> (repeat' apply And.intro) <;> rfl)
    clear hx14; cbv
    refine R.brD h (by first|(simp only [S]<;>rfl)|rfl) ?_ ?_<;>clear h<;>intro h<;>cbv
    ·have e := ret_some h; clear h
     have h := hFy12; rw [e] at h; clear e; try dsimp only at h
     cbv
     have e := ret_some h; clear h
     refine hK _ _ ⟨rfl, ⟨?_, rfl, rfl, rfl, ?_⟩⟩<;>cbv<;>(try (subst e;simp only [S,and_self,and_true,true_and]<;>(repeat' apply And.intro)<;>rfl))
    ·obtain ⟨s', e, hi⟩ := jn_some Sum.inl h
     refine hLy12 s' _ _ hi ⟨by kernel_rfl, ?_, ?_, by kernel_rfl, by kernel_rfl⟩<;>cbv<;>(try (subst e;simp only [S,and_self,and_true,true_and]<;>(repeat' apply And.intro)<;>rfl))
   ·as_aux_lemma =>
    refine R.brD h (by first|(simp only [S]<;>rfl)|rfl) ?_ ?_<;>clear h<;>intro h<;>cbv
    ·refine R.callBD h (fun x15 hx15 h2 => ?_)
     clear h; have h := h2; clear h2
     refine R.callB [(900000, 176)] (w97v1 a0_0 a0_1 a0_2 a0_3 a0_0 a0_1 a0_2 a0_3 a2 x1 _ hx15) ?_ ?_ rfl ?_
     ·cbv <;> (try simp only [S, and_self, and_true, true_and] <;> (repeat' apply And.intro) <;> rfl)
     ·cbv <;> (try simp only [S, and_self, and_true, true_and] <;> (repeat' apply And.intro) <;> rfl)
     clear hx15; cbv
     refine R.brD h (by first|(simp only [S]<;>rfl)|rfl) ?_ ?_<;>clear h<;>intro h<;>cbv
     ·have e := ret_some h; clear h
      have h := hFy12; rw [e] at h; clear e; try dsimp only at h
      cbv
      have e := ret_some h; clear h
      refine hK _ _ ⟨rfl, ⟨?_, rfl, rfl, rfl, ?_⟩⟩<;>cbv<;>(try (subst e;simp only [S,and_self,and_true,true_and]<;>(repeat' apply And.intro)<;>rfl))
     ·obtain ⟨s', e, hi⟩ := jn_some Sum.inl h
      refine hLy12 s' _ _ hi ⟨by kernel_rfl, ?_, ?_, by kernel_rfl, by kernel_rfl⟩<;>cbv<;>(try (subst e;simp only [S,and_self,and_true,true_and]<;>(repeat' apply And.intro)<;>rfl))
    ·as_aux_lemma =>
     refine R.brD h (by first|(simp only [S]<;>rfl)|rfl) ?_ ?_<;>clear h<;>intro h<;>cbv
     ·refine R.callBD h (fun x16 hx16 h2 => ?_)
      clear h; have h := h2; clear h2
      refine R.callB [(900000, 176)] (w99v2 a0_0 a0_1 a0_2 a0_3 a0_0 a0_1 a0_2 a0_3 a2 x1 _ hx16) ?_ ?_ rfl ?_
      ·cbv <;> (try simp only [S, and_self, and_true, true_and] <;> (repeat' apply And.intro) <;> rfl)
      ·cbv <;> (try simp only [S, and_self, and_true, true_and] <;> (repeat' apply And.intro) <;> rfl)
      clear hx16; cbv
      refine R.brD h (by first|(simp only [S]<;>rfl)|rfl) ?_ ?_<;>clear h<;>intro h<;>cbv
      ·have e := ret_some h; clear h
       have h := hFy12; rw [e] at h; clear e; try dsimp only at h
       cbv
       have e := ret_some h; clear h
       refine hK _ _ ⟨rfl, ⟨?_, rfl, rfl, rfl, ?_⟩⟩<;>cbv<;>(try (subst e;simp only [S,and_self,and_true,true_and]<;>(repeat' apply And.intro)<;>rfl))
      ·obtain ⟨s', e, hi⟩ := jn_some Sum.inl h
       refine hLy12 s' _ _ hi ⟨by kernel_rfl, ?_, ?_, by kernel_rfl, by kernel_rfl⟩<;>cbv<;>(try (subst e;simp only [S,and_self,and_true,true_and]<;>(repeat' apply And.intro)<;>rfl))
     ·as_aux_lemma =>
      refine R.brD h (by first|(simp only [S]<;>rfl)|rfl) ?_ ?_<;>clear h<;>intro h<;>cbv
      ·refine R.callBD h (fun x17 hx17 h2 => ?_)
       clear h; have h := h2; clear h2
       refine R.callB [(900000, 176)] (w102v2 a0_0 a0_1 a0_2 a0_3 a0_0 a0_1 a0_2 a0_3 a2 x1 _ hx17) ?_ ?_ rfl ?_
       ·cbv <;> (try simp only [S, and_self, and_true, true_and] <;> (repeat' apply And.intro) <;> rfl)
       ·cbv <;> (try simp only [S, and_self, and_true, true_and] <;> (repeat' apply And.intro) <;> rfl)
       clear hx17; cbv
       refine R.brD h (by first|(simp only [S]<;>rfl)|rfl) ?_ ?_<;>clear h<;>intro h<;>cbv
       ·have e := ret_some h; clear h
        have h := hFy12; rw [e] at h; clear e; try dsimp only at h
        cbv
        have e := ret_some h; clear h
        refine hK _ _ ⟨rfl, ⟨?_, rfl, rfl, rfl, ?_⟩⟩<;>cbv<;>(try (subst e;simp only [S,and_self,and_true,true_and]<;>(repeat' apply And.intro)<;>rfl))
       ·obtain ⟨s', e, hi⟩ := jn_some Sum.inl h
        refine hLy12 s' _ _ hi ⟨by kernel_rfl, ?_, ?_, by kernel_rfl, by kernel_rfl⟩<;>cbv<;>(try (subst e;simp only [S,and_self,and_true,true_and]<;>(repeat' apply And.intro)<;>rfl))
      ·as_aux_lemma =>
       refine R.brD h (by first|(simp only [S]<;>rfl)|rfl) ?_ ?_<;>clear h<;>intro h<;>cbv
       ·refine R.callBD h (fun x18 hx18 h2 => ?_)
        clear h; have h := h2; clear h2
        refine R.callB [(900000, 176)] (w104v2 a0_0 a0_1 a0_2 a0_3 a0_0 a0_1 a0_2 a0_3 a2 x1 _ hx18) ?_ ?_ rfl ?_
        ·cbv <;> (try simp only [S, and_self, and_true, true_and] <;> (repeat' apply And.intro) <;> rfl)
        ·cbv <;> (try simp only [S, and_self, and_true, true_and] <;> (repeat' apply And.intro) <;> rfl)
        clear hx18; cbv
        refine R.brD h (by first|(simp only [S]<;>rfl)|rfl) ?_ ?_<;>clear h<;>intro h<;>cbv
        ·have e := ret_some h; clear h
         have h := hFy12; rw [e] at h; clear e; try dsimp only at h
         cbv
         have e := ret_some h; clear h
         refine hK _ _ ⟨rfl, ⟨?_, rfl, rfl, rfl, ?_⟩⟩<;>cbv<;>(try (subst e;simp only [S,and_self,and_true,true_and]<;>(repeat' apply And.intro)<;>rfl))
        ·obtain ⟨s', e, hi⟩ := jn_some Sum.inl h
         refine hLy12 s' _ _ hi ⟨by kernel_rfl, ?_, ?_, by kernel_rfl, by kernel_rfl⟩<;>cbv<;>(try (subst e;simp only [S,and_self,and_true,true_and]<;>(repeat' apply And.intro)<;>rfl))
       ·as_aux_lemma =>
        refine R.brD h (by first|(simp only [S]<;>rfl)|rfl) ?_ ?_<;>clear h<;>intro h<;>cbv
        ·refine R.callBD h (fun x19 hx19 h2 => ?_)
         clear h; have h := h2; clear h2
         refine R.callB [(900000, 176)] (w107v2 a0_0 a0_1 a0_2 a0_3 a0_0 a0_1 a0_2 a0_3 a2 x1 _ hx19) ?_ ?_ rfl ?_
         ·cbv <;> (try simp only [S, and_self, and_true, true_and] <;> (repeat' apply And.intro) <;> rfl)
         ·cbv <;> (try simp only [S, and_self, and_true, true_and] <;> (repeat' apply And.intro) <;> rfl)
         clear hx19; cbv
         refine R.brD h (by first|(simp only [S]<;>rfl)|rfl) ?_ ?_<;>clear h<;>intro h<;>cbv
         ·have e := ret_some h; clear h
          have h := hFy12; rw [e] at h; clear e; try dsimp only at h
          cbv
          have e := ret_some h; clear h
          refine hK _ _ ⟨rfl, ⟨?_, rfl, rfl, rfl, ?_⟩⟩<;>cbv<;>(try (subst e;simp only [S,and_self,and_true,true_and]<;>(repeat' apply And.intro)<;>rfl))
         ·obtain ⟨s', e, hi⟩ := jn_some Sum.inl h
          refine hLy12 s' _ _ hi ⟨by kernel_rfl, ?_, ?_, by kernel_rfl, by kernel_rfl⟩<;>cbv<;>(try (subst e;simp only [S,and_self,and_true,true_and]<;>(repeat' apply And.intro)<;>rfl))
        ·refine R.brD h (by first|(simp only [S]<;>rfl)|rfl) ?_ ?_<;>clear h<;>intro h<;>cbv
         ·refine R.callBD h (fun x20 hx20 h2 => ?_)
          clear h; have h := h2; clear h2
          refine R.callB [(900000, 176)] (w94v2 a0_0 a0_1 a0_2 a0_3 a0_0 a0_1 a0_2 a0_3 a2 x1 _ hx20) ?_ ?_ rfl ?_
          ·cbv <;> (try simp only [S, and_self, and_true, true_and] <;> (repeat' apply And.intro) <;> rfl)
          ·cbv <;> (try simp only [S, and_self, and_true, true_and] <;> (repeat' apply And.intro) <;> rfl)
          clear hx20; cbv
          refine R.brD h (by first|(simp only [S]<;>rfl)|rfl) ?_ ?_<;>clear h<;>intro h<;>cbv
          ·have e := ret_some h; clear h
           have h := hFy12; rw [e] at h; clear e; try dsimp only at h
           cbv
           have e := ret_some h; clear h
           refine hK _ _ ⟨rfl, ⟨?_, rfl, rfl, rfl, ?_⟩⟩<;>cbv<;>(try (subst e;simp only [S,and_self,and_true,true_and]<;>(repeat' apply And.intro)<;>rfl))
          ·obtain ⟨s', e, hi⟩ := jn_some Sum.inl h
           refine hLy12 s' _ _ hi ⟨by kernel_rfl, ?_, ?_, by kernel_rfl, by kernel_rfl⟩<;>cbv<;>(try (subst e;simp only [S,and_self,and_true,true_and]<;>(repeat' apply And.intro)<;>rfl))
         ·refine R.brD h (by first|(simp only [S]<;>rfl)|rfl) ?_ ?_<;>clear h<;>intro h<;>cbv
          ·refine R.callBD h (fun x21 hx21 h2 => ?_)
           clear h; have h := h2; clear h2
           refine R.callB [(900000, 176)] (w94v2 a0_0 a0_1 a0_2 a0_3 a0_0 a0_1 a0_2 a0_3 a2 x1 _ hx21) ?_ ?_ rfl ?_
           ·cbv <;> (try simp only [S, and_self, and_true, true_and] <;> (repeat' apply And.intro) <;> rfl)
           ·cbv <;> (try simp only [S, and_self, and_true, true_and] <;> (repeat' apply And.intro) <;> rfl)
           clear hx21; cbv
           refine R.brD h (by first|(simp only [S]<;>rfl)|rfl) ?_ ?_<;>clear h<;>intro h<;>cbv
           ·have e := ret_some h; clear h
            have h := hFy12; rw [e] at h; clear e; try dsimp only at h
            cbv
            have e := ret_some h; clear h
            refine hK _ _ ⟨rfl, ⟨?_, rfl, rfl, rfl, ?_⟩⟩<;>cbv<;>(try (subst e;simp only [S,and_self,and_true,true_and]<;>(repeat' apply And.intro)<;>rfl))
           ·obtain ⟨s', e, hi⟩ := jn_some Sum.inl h
            refine hLy12 s' _ _ hi ⟨by kernel_rfl, ?_, ?_, by kernel_rfl, by kernel_rfl⟩<;>cbv<;>(try (subst e;simp only [S,and_self,and_true,true_and]<;>(repeat' apply And.intro)<;>rfl))
          ·refine R.callBD h (fun x22 hx22 h2 => ?_)
           clear h; have h := h2; clear h2
           refine R.callB [(900000, 176)] (w94v2 a0_0 a0_1 a0_2 a0_3 a0_0 a0_1 a0_2 a0_3 a2 x1 _ hx22) ?_ ?_ rfl ?_
           ·cbv <;> (try simp only [S, and_self, and_true, true_and] <;> (repeat' apply And.intro) <;> rfl)
           ·cbv <;> (try simp only [S, and_self, and_true, true_and] <;> (repeat' apply And.intro) <;> rfl)
           clear hx22; cbv
           refine R.brD h (by first|(simp only [S]<;>rfl)|rfl) ?_ ?_<;>clear h<;>intro h<;>cbv
           ·have e := ret_some h; clear h
            have h := hFy12; rw [e] at h; clear e; try dsimp only at h
            cbv
            have e := ret_some h; clear h
            refine hK _ _ ⟨rfl, ⟨?_, rfl, rfl, rfl, ?_⟩⟩<;>cbv<;>(try (subst e;simp only [S,and_self,and_true,true_and]<;>(repeat' apply And.intro)<;>rfl))
           ·obtain ⟨s', e, hi⟩ := jn_some Sum.inl h
            refine hLy12 s' _ _ hi ⟨by kernel_rfl, ?_, ?_, by kernel_rfl, by kernel_rfl⟩<;>cbv<;>(try (subst e;simp only [S,and_self,and_true,true_and]<;>(repeat' apply And.intro)<;>rfl))
 ·clear h; have h := h2; clear h2; try dsimp only at h
  cbv
  have e := ret_some h; clear h
  refine hK _ _ ⟨rfl, ⟨?_, rfl, rfl, rfl, ?_⟩⟩<;>cbv<;>(try (subst e;simp only [S,and_self,and_true,true_and]<;>(repeat' apply And.intro)<;>rfl))
theorem w53s (a0_0 : ByteArray) (a0_1 : Int) (a0_2 : List V) (a0_3 : List V) (a1 : List V) (a2 : List V) (r : List V × Int) (h : d53 a0_0 a0_1 a0_2 a0_3 a1 a2 = some r) : Ab.Fn Try.prog TT 53 [.agg [.str a0_0, .i .i64 a0_1, .sl 2 a0_2, .sl 74 a0_3], .sl 2 a1, .sl 2 a2] (.tup [.sl 2 r.1, .i .i64 r.2]) [] :=
 (w53 a0_0 a0_1 a0_2 a0_3 a1 a2 r h).pure (by simp [ple, ple1, ple1L, pleL, pleS, Ab.look])
end Go.Proofs.Ytmofhbedamjblaa
end
section
namespace Go.Proofs.Ytmofhbedamjblaa
open Go.Ab Go.RowKit 
set_option maxRecDepth 100000
set_option maxHeartbeats 40000000
noncomputable def d39 (a0_0 : ByteArray) (a0_1 : Int) (a0_2 : List V) (a0_3 : List V) (a1 : List V) : Option (Int) :=
 (d70).bind fun x1 =>
 if (Inb a0_1 (Int.ofNat 10)) then
 if (cmpLit .eql a0_1 (Int.ofNat 0)) = true then
 none
 else
 if (cmpLit .eql a0_1 (Int.ofNat 1)) = true then
 (d95 a0_0 a0_1 a0_2 a0_3 a1).bind fun x2 =>
 some x2
 else
 if (cmpLit .eql a0_1 (Int.ofNat 2)) = true then
 (d95 a0_0 a0_1 a0_2 a0_3 a1).bind fun x3 =>
 some x3
 else
 if (cmpLit .eql a0_1 (Int.ofNat 3)) = true then
 (d100 a0_0 a0_1 a0_2 a0_3 a1).bind fun x4 =>
 some x4
 else
 if (cmpLit .eql a0_1 (Int.ofNat 4)) = true then
 (d100 a0_0 a0_1 a0_2 a0_3 a1).bind fun x5 =>
 some x5
 else
 if (cmpLit .eql a0_1 (Int.ofNat 5)) = true then
 (d105 a0_0 a0_1 a0_2 a0_3 a1).bind fun x6 =>
 some x6
 else
 if (cmpLit .eql a0_1 (Int.ofNat 6)) = true then
 (d108 a0_0 a0_1 a0_2 a0_3 a1).bind fun x7 =>
 some x7
 else
 if (cmpLit .eql a0_1 (Int.ofNat 7)) = true then
 (d110 a0_0 a0_1 a0_2 a0_3 a1).bind fun x8 =>
 some x8
 else
 if (cmpLit .eql a0_1 (Int.ofNat 8)) = true then
 (d110 a0_0 a0_1 a0_2 a0_3 a1).bind fun x9 =>
 some x9
 else
 (d110 a0_0 a0_1 a0_2 a0_3 a1).bind fun x10 =>
 some x10
 else none
noncomputable def w39_c : Code := (Try.f39.body).getD .skip
theorem w39_h : Try.f39.body = some w39_c := by kernel_rfl
theorem w39 (a0_0 : ByteArray) (a0_1 : Int) (a0_2 : List V) (a0_3 : List V) (a1 : List V) (r : Int) (h : d39 a0_0 a0_1 a0_2 a0_3 a1 = some r) : Ab.Fn Try.prog TT 39 [.agg [.str a0_0, .i .i64 a0_1, .sl 2 a0_2, .sl 74 a0_3], .sl 2 a1] (.i .i64 r) [] := by
 refine fn_pure tok (fun r => match r with | 1 => [[],[],[1],[0,1,2],[0,1,2,3],[],[],[5,6],[0,1,2,3,4,5,6,7],[0,1,2,3,4,5,6,7,8]] | _ => []) Try.func39 (by kernel_rfl) w39_h (by kernel_rfl) ?_
 intro _ _ _ _ _ _ _ _ _ _ _ _ _ _ _ _ _ _ _ _ _ _ _ _ _ _ _ _ _ _ _ _ _ _ _ _ _ _ _ _ _ E R K hK
 have D := E.D
 clear E
 have S := And.intro D.hcmp (D.hinb)
 unfold d39 at h
 cbv
 refine R.callD h (fun x1 hx1 h2 => ?_)
 clear h; have h := h2; clear h2
 refine R.call' (w70 _ hx1) (by first|(simp only [S]<;>rfl)|rfl) ?_
 clear hx1; cbv
 refine R.needD h (by first|(simp only [S]<;>rfl)|rfl) ?_
 clear h; intro h; cbv
 refine R.brD h (by first|(simp only [S]<;>rfl)|rfl) ?_ ?_<;>clear h<;>intro h<;>cbv
 ·exact (none_some h).elim
 ·as_aux_lemma =>
  refine R.brD h (by first|(simp only [S]<;>rfl)|rfl) ?_ ?_<;>clear h<;>intro h<;>cbv
  ·refine R.callD h (fun x2 hx2 h2 => ?_)
   clear h; have h := h2; clear h2
   refine R.call' (w95 _ _ _ _ _ _ hx2) (by first|(simp only [S]<;>rfl)|rfl) ?_
   clear hx2; cbv
   have e := ret_some h; clear h
   refine hK _ _ ?_
   cbv
   try (subst e; simp only [S, and_self, and_true, true_and] <;> (repeat' apply And.intro) <;> rfl)
  ·as_aux_lemma =>
   refine R.brD h (by first|(simp only [S]<;>rfl)|rfl) ?_ ?_<;>clear h<;>intro h<;>cbv
   ·refine R.callD h (fun x3 hx3 h2 => ?_)
    clear h; have h := h2; clear h2
    refine R.call' (w95 _ _ _ _ _ _ hx3) (by first|(simp only [S]<;>rfl)|rfl) ?_
    clear hx3; cbv
    have e := ret_some h; clear h
    refine hK _ _ ?_
    cbv
    try (subst e; simp only [S, and_self, and_true, true_and] <;> (repeat' apply And.intro) <;> rfl)
   ·refine R.brD h (by first|(simp only [S]<;>rfl)|rfl) ?_ ?_<;>clear h<;>intro h<;>cbv
    ·refine R.callD h (fun x4 hx4 h2 => ?_)
     clear h; have h := h2; clear h2
     refine R.call' (w100 _ _ _ _ _ _ hx4) (by first|(simp only [S]<;>rfl)|rfl) ?_
     clear hx4; cbv
     have e := ret_some h; clear h
     refine hK _ _ ?_
     cbv
     try (subst e; simp only [S, and_self, and_true, true_and] <;> (repeat' apply And.intro) <;> rfl)
    ·refine R.brD h (by first|(simp only [S]<;>rfl)|rfl) ?_ ?_<;>clear h<;>intro h<;>cbv
     ·refine R.callD h (fun x5 hx5 h2 => ?_)
      clear h; have h := h2; clear h2
      refine R.call' (w100 _ _ _ _ _ _ hx5) (by first|(simp only [S]<;>rfl)|rfl) ?_
      clear hx5; cbv
      have e := ret_some h; clear h
      refine hK _ _ ?_
      cbv
      try (subst e; simp only [S, and_self, and_true, true_and] <;> (repeat' apply And.intro) <;> rfl)
     ·refine R.brD h (by first|(simp only [S]<;>rfl)|rfl) ?_ ?_<;>clear h<;>intro h<;>cbv
      ·refine R.callD h (fun x6 hx6 h2 => ?_)
       clear h; have h := h2; clear h2
       refine R.call' (w105 _ _ _ _ _ _ hx6) (by first|(simp only [S]<;>rfl)|rfl) ?_
       clear hx6; cbv
       have e := ret_some h; clear h
       refine hK _ _ ?_
       cbv
       try (subst e; simp only [S, and_self, and_true, true_and] <;> (repeat' apply And.intro) <;> rfl)
      ·refine R.brD h (by first|(simp only [S]<;>rfl)|rfl) ?_ ?_<;>clear h<;>intro h<;>cbv
       ·refine R.callD h (fun x7 hx7 h2 => ?_)
        clear h; have h := h2; clear h2
        refine R.call' (w108 _ _ _ _ _ _ hx7) (by first|(simp only [S]<;>rfl)|rfl) ?_
        clear hx7; cbv
        have e := ret_some h; clear h
        refine hK _ _ ?_
        cbv
        try (subst e; simp only [S, and_self, and_true, true_and] <;> (repeat' apply And.intro) <;> rfl)
       ·refine R.brD h (by first|(simp only [S]<;>rfl)|rfl) ?_ ?_<;>clear h<;>intro h<;>cbv
        ·refine R.callD h (fun x8 hx8 h2 => ?_)
         clear h; have h := h2; clear h2
         refine R.call' (w110 _ _ _ _ _ _ hx8) (by first|(simp only [S]<;>rfl)|rfl) ?_
         clear hx8; cbv
         have e := ret_some h; clear h
         refine hK _ _ ?_
         cbv
         try (subst e; simp only [S, and_self, and_true, true_and] <;> (repeat' apply And.intro) <;> rfl)
        ·refine R.brD h (by first|(simp only [S]<;>rfl)|rfl) ?_ ?_<;>clear h<;>intro h<;>cbv
         ·refine R.callD h (fun x9 hx9 h2 => ?_)
          clear h; have h := h2; clear h2
          refine R.call' (w110 _ _ _ _ _ _ hx9) (by first|(simp only [S]<;>rfl)|rfl) ?_
          clear hx9; cbv
          have e := ret_some h; clear h
          refine hK _ _ ?_
          cbv
          try (subst e; simp only [S, and_self, and_true, true_and] <;> (repeat' apply And.intro) <;> rfl)
         ·refine R.callD h (fun x10 hx10 h2 => ?_)
          clear h; have h := h2; clear h2
          refine R.call' (w110 _ _ _ _ _ _ hx10) (by first|(simp only [S]<;>rfl)|rfl) ?_
          clear hx10; cbv
          have e := ret_some h; clear h
          refine hK _ _ ?_
          cbv
          try (subst e; simp only [S, and_self, and_true, true_and] <;> (repeat' apply And.intro) <;> rfl)

noncomputable def d23 (a0_0 : ByteArray) (a0_1 : Int) (a0_2 : List V) (a0_3 : List V) (a1 : List V) (a2 : Int) : Option (List V × Int) :=
 (d37 a0_0 a0_1 a0_2 a0_3 [.sl 2 a1]).bind fun x2 =>
 if (cmpLit .neq x2 0) = true then
 some ([], x2)
 else
 (d52 a0_0 a0_1 a0_2 a0_3 a1 a2).bind fun x3 =>
 some (x3.1, x3.2)
noncomputable def w23_c : Code := (Try.f23.body).getD .skip
theorem w23_h : Try.f23.body = some w23_c := by kernel_rfl
theorem w23 (a0_0 : ByteArray) (a0_1 : Int) (a0_2 : List V) (a0_3 : List V) (a1 : List V) (a2 : Int) (r : List V × Int) (h : d23 a0_0 a0_1 a0_2 a0_3 a1 a2 = some r) : Ab.Fn Try.prog TT 23 [.agg [.str a0_0, .i .i64 a0_1, .sl 2 a0_2, .sl 74 a0_3], .sl 2 a1, .i .i64 a2] (.tup [.sl 2 r.1, .i .i64 r.2]) [] := by
 refine fn_pure tok W0 Try.func23 (by kernel_rfl) w23_h (by kernel_rfl) ?_
 intro _ _ _ _ _ _ _ _ _ _ _ _ _ _ _ _ _ _ _ _ _ _ _ _ _ _ _ _ _ _ _ _ _ _ _ _ _ _ _ _ _ E R K hK
 have D := E.D
 clear E
 unfold d23 at h
 cbv
 refine R.cut' (by kernel_rfl) (by kernel_rfl) ?_
 cbv
 refine R.callD h (fun x2 hx2 h2 => ?_)
 clear h; have h := h2; clear h2
 refine R.call' (w37 _ _ _ _ _ _ hx2) (by first | (simp only [D.hcmp] <;> rfl) | rfl) ?_
 clear hx2; cbv
 refine R.brD h (by first | (simp only [D.hcmp] <;> rfl) | rfl) ?_ ?_<;>clear h<;>intro h<;>cbv
 ·have e := ret_some h; clear h
  refine hK _ _ ?_
  cbv
  try (subst e; simp only [D.hcmp, and_self, and_true, true_and] <;> (repeat' apply And.intro) <;> rfl)
 ·refine R.callD h (fun x3 hx3 h2 => ?_)
  clear h; have h := h2; clear h2
  refine R.call' (w52s _ _ _ _ _ _ _ hx3) (by first | (simp only [D.hcmp] <;> rfl) | rfl) ?_
  clear hx3; cbv
  have e := ret_some h; clear h
  refine hK _ _ ?_
  cbv
  try (subst e; simp only [D.hcmp, and_self, and_true, true_and] <;> (repeat' apply And.intro) <;> rfl)

noncomputable def d24 (a0_0 : ByteArray) (a0_1 : Int) (a0_2 : List V) (a0_3 : List V) (a1 : List V) (a2 : List V) : Option (List V × Int) :=
 (d37 a0_0 a0_1 a0_2 a0_3 [.sl 2 a1, .sl 2 a2]).bind fun x2 =>
 if (cmpLit .neq x2 0) = true then
 some ([], x2)
 else
 (d53 a0_0 a0_1 a0_2 a0_3 a1 a2).bind fun x3 =>
 some (x3.1, x3.2)
noncomputable def w24_c : Code := (Try.f24.body).getD .skip
theorem w24_h : Try.f24.body = some w24_c := by kernel_rfl
theorem w24 (a0_0 : ByteArray) (a0_1 : Int) (a0_2 : List V) (a0_3 : List V) (a1 : List V) (a2 : List V) (r : List V × Int) (h : d24 a0_0 a0_1 a0_2 a0_3 a1 a2 = some r) : Ab.Fn Try.prog TT 24 [.agg [.str a0_0, .i .i64 a0_1, .sl 2 a0_2, .sl 74 a0_3], .sl 2 a1, .sl 2 a2] (.tup [.sl 2 r.1, .i .i64 r.2]) [] := by
 refine fn_pure tok W0 Try.func24 (by kernel_rfl) w24_h (by kernel_rfl) ?_
 intro _ _ _ _ _ _ _ _ _ _ _ _ _ _ _ _ _ _ _ _ _ _ _ _ _ _ _ _ _ _ _ _ _ _ _ _ _ _ _ _ _ E R K hK
 have D := E.D
 clear E
 unfold d24 at h
 cbv
 refine R.cut' (by kernel_rfl) (by kernel_rfl) ?_
 cbv
 refine R.callD h (fun x2 hx2 h2 => ?_)
 clear h; have h := h2; clear h2
 refine R.call' (w37 _ _ _ _ _ _ hx2) (by first | (simp only [D.hcmp] <;> rfl) | rfl) ?_
 clear hx2; cbv
 refine R.brD h (by first | (simp only [D.hcmp] <;> rfl) | rfl) ?_ ?_<;>clear h<;>intro h<;>cbv
 ·have e := ret_some h; clear h
  refine hK _ _ ?_
  cbv
  try (subst e; simp only [D.hcmp, and_self, and_true, true_and] <;> (repeat' apply And.intro) <;> rfl)
 ·refine R.callD h (fun x3 hx3 h2 => ?_)
  clear h; have h := h2; clear h2
  refine R.call' (w53s _ _ _ _ _ _ _ hx3) (by first | (simp only [D.hcmp] <;> rfl) | rfl) ?_
  clear hx3; cbv
  have e := ret_some h; clear h
  refine hK _ _ ?_
  cbv
  try (subst e; simp only [D.hcmp, and_self, and_true, true_and] <;> (repeat' apply And.intro) <;> rfl)

noncomputable def d21 (a0_0 : ByteArray) (a0_1 : Int) (a0_2 : List V) (a0_3 : List V) (a1 : List V) : Option (Int × Int) :=
 (d37 a0_0 a0_1 a0_2 a0_3 [.sl 2 a1]).bind fun x2 =>
 if (cmpLit .neq x2 0) = true then
 some (0, x2)
 else
 (d39 a0_0 a0_1 a0_2 a0_3 a1).bind fun x3 =>
 some (x3, 0)
noncomputable def w21_c : Code := (Try.f21.body).getD .skip
theorem w21_h : Try.f21.body = some w21_c := by kernel_rfl
theorem w21 (a0_0 : ByteArray) (a0_1 : Int) (a0_2 : List V) (a0_3 : List V) (a1 : List V) (r : Int × Int) (h : d21 a0_0 a0_1 a0_2 a0_3 a1 = some r) : Ab.Fn Try.prog TT 21 [.agg [.str a0_0, .i .i64 a0_1, .sl 2 a0_2, .sl 74 a0_3], .sl 2 a1] (.tup [.i .i64 r.1, .i .i64 r.2]) [] := by
 refine fn_pure tok W0 Try.func21 (by kernel_rfl) w21_h (by kernel_rfl) ?_
 intro _ _ _ _ _ _ _ _ _ _ _ _ _ _ _ _ _ _ _ _ _ _ _ _ _ _ _ _ _ _ _ _ _ _ _ _ _ _ _ _ _ E R K hK
 have D := E.D
 clear E
 unfold d21 at h
 cbv
 refine R.cut' (by kernel_rfl) (by kernel_rfl) ?_
 cbv
 refine R.callD h (fun x2 hx2 h2 => ?_)
 clear h; have h := h2; clear h2
 refine R.call' (w37 _ _ _ _ _ _ hx2) (by first | (simp only [D.hcmp] <;> rfl) | rfl) ?_
 clear hx2; cbv
 refine R.brD h (by first | (simp only [D.hcmp] <;> rfl) | rfl) ?_ ?_<;>clear h<;>intro h<;>cbv
 ·have e := ret_some h; clear h
  refine hK _ _ ?_
  cbv
  try (subst e; simp only [D.hcmp, and_self, and_true, true_and] <;> (repeat' apply And.intro) <;> rfl)
 ·refine R.callD h (fun x3 hx3 h2 => ?_)
  clear h; have h := h2; clear h2
  refine R.call' (w39 _ _ _ _ _ _ hx3) (by first | (simp only [D.hcmp] <;> rfl) | rfl) ?_
  clear hx3; cbv
  have e := ret_some h; clear h
  refine hK _ _ ?_
  cbv
  try (subst e; simp only [D.hcmp, and_self, and_true, true_and] <;> (repeat' apply And.intro) <;> rfl)

noncomputable def d13_b1 (a2 : Int) (p9 : List V) (s13 : Int × List V) : Option ((Int × List V) ⊕ (List V)) :=
 if (cmpLit .lss s13.1 (lenI p9)) = true then
 if (Inb s13.1 (lenI s13.2)) then
 if (Ne0 a2) then
 if (Inb s13.1 (lenI s13.2)) then
 some (.inl ((arReal .add .i64 s13.1 1), (putL s13.2 s13.1 0 [.i .i64 (arReal .quo .i64 (gI s13.2 s13.1 0) a2)])))
 else none
 else none
 else none
 else
 some (.inr s13.2)
noncomputable def d13 (a0_0 : ByteArray) (a0_1 : Int) (a0_2 : List V) (a0_3 : List V) (a1 : List V) (a2 : Int) : Option (List V × Int) :=
 (d37 a0_0 a0_1 a0_2 a0_3 [.sl 2 a1]).bind fun x2 =>
 if (cmpLit .neq x2 0) = true then
 some ([], x2)
 else
 if (cmpLit .lss a2 1) = true then
 some ([], 1)
 else
 (d38 a1).bind fun x3 =>
 Option.bind (α := List V) (
 (d31 a0_0 a0_1 a0_2 a0_3).bind fun x7 =>
 if (notB' x7) = true then
 (d39 a0_0 a0_1 a0_2 a0_3 a1).bind fun x8 =>
 some [.i .i64 x8]
 else
 some x3) fun y6 =>
 Option.bind (α := List V) (
 (iter (d13_b1 a2 y6) (0, y6)).bind fun y14 =>
 some y14) fun y12 =>
 some (y12, 0)
noncomputable def w13_c : Code := (Try.f13.body).getD .skip
theorem w13_h : Try.f13.body = some w13_c := by kernel_rfl
theorem w13 (a0_0 : ByteArray) (a0_1 : Int) (a0_2 : List V) (a0_3 : List V) (a1 : List V) (a2 : Int) (r : List V × Int) (h : d13 a0_0 a0_1 a0_2 a0_3 a1 a2 = some r) : Ab.Fn Try.prog TT 13 [.agg [.str a0_0, .i .i64 a0_1, .sl 2 a0_2, .sl 74 a0_3], .sl 2 a1, .i .i64 a2] (.tup [.row 0, .i .i64 r.2]) [(0, .row 2 r.1)] := by
 refine fn_own tok W0 Try.func13 (by kernel_rfl) w13_h (by kernel_rfl) ?_
 intro _ _ _ _ _ _ _ _ _ _ _ _ _ _ _ _ _ _ _ _ _ _ _ _ _ _ _ _ _ _ _ _ _ _ _ _ _ _ _ _ _ E R K hK
 have D := E.D
 clear E
 have S := And.intro D.har (And.intro D.hcmp (And.intro D.hgi (And.intro D.hinb (And.intro D.hlen (And.intro D.hne0 (And.intro D.hnt (D.hput)))))))
 unfold d13 at h
 cbv
 refine R.cut' (by kernel_rfl) (by kernel_rfl) ?_
 cbv
 refine R.callD h (fun x2 hx2 h2 => ?_)
 clear h; have h := h2; clear h2
 refine R.call' (w37 _ _ _ _ _ _ hx2) (by first|(simp only [S]<;>rfl)|rfl) ?_
 clear hx2; cbv
 refine R.brD h (by first|(simp only [S]<;>rfl)|rfl) ?_ ?_<;>clear h<;>intro h<;>cbv
 ·have e := ret_some h; clear h
  refine hK _ _ ⟨rfl, ⟨?_, rfl, rfl, rfl, ?_⟩⟩<;>cbv<;>(try (subst e;simp only [S,and_self,and_true,true_and]<;>(repeat' apply And.intro)<;>rfl))
 ·as_aux_lemma =>
  refine R.cut' (by kernel_rfl) (by kernel_rfl) ?_
  cbv
  refine R.brD h (by first|(simp only [S]<;>rfl)|rfl) ?_ ?_<;>clear h<;>intro h<;>cbv
  ·have e := ret_some h; clear h
   refine hK _ _ ⟨rfl, ⟨?_, rfl, rfl, rfl, ?_⟩⟩<;>cbv<;>(try (subst e;simp only [S,and_self,and_true,true_and]<;>(repeat' apply And.intro)<;>rfl))
  ·refine R.callD h (fun x3 hx3 h2 => ?_)
   clear h; have h := h2; clear h2
   refine R.call' (w38 _ _ hx3) (by first|(simp only [S]<;>rfl)|rfl) ?_
   clear hx3; cbv
   refine R.cutB (fun p => p) (fun _ _ e => e) h [] (fun p9 => [(9, .row 336)]) (fun p9 => [(336, .row 2 p9)]) (by kernel_rfl) (by kernel_rfl) (fun y6 hy hFy6 L hLy6 => ?_) (fun p9 h2 => ?_)
   ·clear h; have h := hy; clear hy; cbv
    refine R.callD h (fun x7 hx7 h2 => ?_)
    clear h; have h := h2; clear h2
    refine R.call' (w31 _ _ _ _ _ hx7) (by first|(simp only [S]<;>rfl)|rfl) ?_
    clear hx7; cbv
    refine R.brD h (by first|(simp only [S]<;>rfl)|rfl) ?_ ?_<;>clear h<;>intro h<;>cbv
    ·refine R.callD h (fun x8 hx8 h2 => ?_)
     clear h; have h := h2; clear h2
     refine R.call' (w39 _ _ _ _ _ _ hx8) (by first|(simp only [S]<;>rfl)|rfl) ?_
     clear hx8; cbv
     obtain ⟨s', e, hi⟩ := jn_some (fun p => p) h
     refine hLy6 s' _ _ hi ⟨by kernel_rfl, ?_, ?_, by kernel_rfl, by kernel_rfl⟩<;>cbv<;>(try (subst e;simp only [S,and_self,and_true,true_and]<;>(repeat' apply And.intro)<;>rfl))
    ·obtain ⟨s', e, hi⟩ := jn_some (fun p => p) h
     refine hLy6 s' _ _ hi ⟨by kernel_rfl, ?_, ?_, by kernel_rfl, by kernel_rfl⟩<;>cbv<;>(try (subst e;simp only [S,and_self,and_true,true_and]<;>(repeat' apply And.intro)<;>rfl))
   ·clear h; have h := h2; clear h2; try dsimp only at h
    cbv
    refine R.cutB (fun p => p) (fun _ _ e => e) h [] (fun p16 => []) (fun p16 => [(336, .row 2 p16)]) (by kernel_rfl) (by kernel_rfl) (fun y12 hy hFy12 L hLy12 => ?_) (fun p16 h2 => ?_)
    ·clear h; have h := hy; clear hy; cbv
     refine R.loopD h (fun s0 y14 e0 hi hFs13 => ?_)
     clear h
     refine R.loopI hi [] (fun s13 => [(31, .i .i64 s13.1)]) (fun s13 => [(336, .row 2 s13.2)]) ⟨by kernel_rfl, ?_, ?_, by kernel_rfl, by kernel_rfl⟩ (by kernel_rfl) ?_
     ·cbv; try (subst e0; simp only [S, and_self, and_true, true_and] <;> (repeat' apply And.intro) <;> rfl)
     ·cbv; try (subst e0; simp only [S, and_self, and_true, true_and] <;> (repeat' apply And.intro) <;> rfl)
     clear hi e0
     intro s13 m y' hy hins13 houts13 L hLs13
     have h := hy; clear hy; unfold d13_b1 at h
     cbv
     refine R.cut' (by kernel_rfl) (by kernel_rfl) ?_
     cbv
     refine R.brD h (by first|(simp only [S]<;>rfl)|rfl) ?_ ?_<;>clear h<;>intro h<;>cbv
     ·refine R.cut' (by kernel_rfl) (by kernel_rfl) ?_
      cbv
      refine R.needD h (by first|(simp only [S]<;>rfl)|rfl) ?_
      clear h; intro h; cbv
      refine R.needD h (by first|(simp only [S]<;>rfl)|rfl) ?_
      clear h; intro h; cbv
      refine R.needD h (by first|(simp only [S]<;>rfl)|rfl) ?_
      clear h; intro h; cbv
      obtain ⟨s', e, hi⟩ := inl_some h hins13
      refine hLs13 s' _ _ hi ⟨by kernel_rfl, ?_, ?_, by kernel_rfl, by kernel_rfl⟩<;>cbv<;>(try (subst e;simp only [S,and_self,and_true,true_and]<;>(repeat' apply And.intro)<;>rfl))
     ·have e := inr_some h houts13; clear h
      have h := hFs13; rw [e] at h; clear e; try dsimp only at h
      cbv
      obtain ⟨s', e, hi⟩ := jn_some (fun p => p) h
      refine hLy12 s' _ _ hi ⟨by kernel_rfl, ?_, ?_, by kernel_rfl, by kernel_rfl⟩<;>cbv<;>(try (subst e;simp only [S,and_self,and_true,true_and]<;>(repeat' apply And.intro)<;>rfl))
    ·clear h; have h := h2; clear h2; try dsimp only at h
     cbv
     have e := ret_some h; clear h
     refine hK _ _ ⟨rfl, ⟨?_, rfl, rfl, rfl, ?_⟩⟩<;>cbv<;>(try (subst e;simp only [S,and_self,and_true,true_and]<;>(repeat' apply And.intro)<;>rfl))
theorem w13s (a0_0 : ByteArray) (a0_1 : Int) (a0_2 : List V) (a0_3 : List V) (a1 : List V) (a2 : Int) (r : List V × Int) (h : d13 a0_0 a0_1 a0_2 a0_3 a1 a2 = some r) : Ab.Fn Try.prog TT 13 [.agg [.str a0_0, .i .i64 a0_1, .sl 2 a0_2, .sl 74 a0_3], .sl 2 a1, .i .i64 a2] (.tup [.sl 2 r.1, .i .i64 r.2]) [] :=
 (w13 a0_0 a0_1 a0_2 a0_3 a1 a2 r h).pure (by simp [ple, ple1, ple1L, pleL, pleS, Ab.look])

noncomputable def d19_b1 (a0_0 : ByteArray) (a0_1 : Int) (a0_2 : List V) (a0_3 : List V) (a1 : List V) (s11 : List V × Int × Int) : Option ((List V × Int × Int) ⊕ (List V × Int)) :=
 if (cmpLit .lss s11.2.2 (lenI a1)) = true then
 if (cmpLit .eql s11.2.1 0) = true then
 if (Inb s11.2.2 (lenI a1)) then
 (d23 a0_0 a0_1 a0_2 a0_3 s11.1 (gI a1 s11.2.2 0)).bind fun x16 =>
 some (.inl (x16.1, x16.2, (arReal .add .i64 s11.2.2 1)))
 else none
 else
 some (.inr (s11.1, s11.2.1))
 else
 some (.inr (s11.1, s11.2.1))
noncomputable def d19 (a0_0 : ByteArray) (a0_1 : Int) (a0_2 : List V) (a0_3 : List V) (a1 : List V) : Option (List V × Bool) :=
 (d18 a0_0 a0_1 a0_2 a0_3).bind fun x1 =>
 Option.bind (α := List V × Int) (
 (iter (d19_b1 a0_0 a0_1 a0_2 a0_3 a1) (x1.1, x1.2, 0)).bind fun y14 =>
 some (y14.1, y14.2)) fun y8 =>
 some (y8.1, (cmpLit .eql y8.2 0))
noncomputable def w19_c : Code := (Try.f19.body).getD .skip
theorem w19_h : Try.f19.body = some w19_c := by kernel_rfl
theorem w19 (a0_0 : ByteArray) (a0_1 : Int) (a0_2 : List V) (a0_3 : List V) (a1 : List V) (r : List V × Bool) (h : d19 a0_0 a0_1 a0_2 a0_3 a1 = some r) : Ab.Fn Try.prog TT 19 [.agg [.str a0_0, .i .i64 a0_1, .sl 2 a0_2, .sl 74 a0_3], .sl 2 a1] (.tup [.sl 2 r.1, .b r.2]) [] := by
 refine fn_pure tok (fun r => match r with | 5 => [[],[],[],[],[2,3],[2,3,4],[0,1,2,3,4,5],[0,1,2,3,4,5,6],[0,1,2,3,4,5,6,7],[0,1,2,3,4,5,6,7],[0,1,2,3,4,5,6,7,8],[0,1,2,3,4,5,6,7,8,9,10]] | _ => []) Try.func19 (by kernel_rfl) w19_h (by kernel_rfl) ?_
 intro _ _ _ _ _ _ _ _ _ _ _ _ _ _ _ _ _ _ _ _ _ _ _ _ _ _ _ _ _ _ _ _ _ _ _ _ _ _ _ _ _ E R K hK
 have D := E.D
 clear E
 have S := And.intro D.har (And.intro D.hcmp (And.intro D.hgi (And.intro D.hinb (D.hlen))))
 unfold d19 at h
 cbv
 refine R.callD h (fun x1 hx1 h2 => ?_)
 clear h; have h := h2; clear h2
 refine R.call' (w18s _ _ _ _ _ hx1) (by first|(simp only [S]<;>rfl)|rfl) ?_
 clear hx1; cbv
 refine R.cutB (fun p => p) (fun _ _ e => e) h [] (fun p18 => [(6, .sl 2 p18.1), (7, .i .i64 p18.2)]) (fun p18 => []) (by kernel_rfl) (by kernel_rfl) (fun y8 hy hFy8 L hLy8 => ?_) (fun p18 h2 => ?_)
 ·clear h; have h := hy; clear hy; cbv
  refine R.loopD h (fun s0 y14 e0 hi hFs11 => ?_)
  clear h
  refine R.loopI hi [] (fun s11 => [(6, .sl 2 s11.1), (7, .i .i64 s11.2.1), (8, .i .i64 s11.2.2)]) (fun s11 => []) ⟨by kernel_rfl, ?_, ?_, by kernel_rfl, by kernel_rfl⟩ (by kernel_rfl) ?_
  ·cbv; try (subst e0; simp only [S, and_self, and_true, true_and] <;> (repeat' apply And.intro) <;> rfl)
  ·cbv; try (subst e0; simp only [S, and_self, and_true, true_and] <;> (repeat' apply And.intro) <;> rfl)
  clear hi e0
  intro s11 m y' hy hins11 houts11 L hLs11
  have h := hy; clear hy; unfold d19_b1 at h
  cbv
  refine R.cut' (by kernel_rfl) (by kernel_rfl) ?_
  cbv
  refine R.cut' (by kernel_rfl) (by kernel_rfl) ?_
  cbv
  refine R.brD h (by first|(simp only [S]<;>rfl)|rfl) ?_ ?_<;>clear h<;>intro h<;>cbv
  ·refine R.brD h (by first|(simp only [S]<;>rfl)|rfl) ?_ ?_<;>clear h<;>intro h<;>cbv
   ·refine R.cut' (by kernel_rfl) (by kernel_rfl) ?_
    cbv
    refine R.needD h (by first|(simp only [S]<;>rfl)|rfl) ?_
    clear h; intro h; cbv
    refine R.callD h (fun x16 hx16 h2 => ?_)
    clear h; have h := h2; clear h2
    refine R.call' (w23 _ _ _ _ _ _ _ hx16) (by first|(simp only [S]<;>rfl)|rfl) ?_
    clear hx16; cbv
    obtain ⟨s', e, hi⟩ := inl_some h hins11
    refine hLs11 s' _ _ hi ⟨by kernel_rfl, ?_, ?_, by kernel_rfl, by kernel_rfl⟩<;>cbv<;>(try (subst e;simp only [S,and_self,and_true,true_and]<;>(repeat' apply And.intro)<;>rfl))
   ·have e := inr_some h houts11; clear h
    have h := hFs11; rw [e] at h; clear e; try dsimp only at h
    cbv
    obtain ⟨s', e, hi⟩ := jn_some (fun p => p) h
    refine hLy8 s' _ _ hi ⟨by kernel_rfl, ?_, ?_, by kernel_rfl, by kernel_rfl⟩<;>cbv<;>(try (subst e;simp only [S,and_self,and_true,true_and]<;>(repeat' apply And.intro)<;>rfl))
  ·have e := inr_some h houts11; clear h
   have h := hFs11; rw [e] at h; clear e; try dsimp only at h
   cbv
   obtain ⟨s', e, hi⟩ := jn_some (fun p => p) h
   refine hLy8 s' _ _ hi ⟨by kernel_rfl, ?_, ?_, by kernel_rfl, by kernel_rfl⟩<;>cbv<;>(try (subst e;simp only [S,and_self,and_true,true_and]<;>(repeat' apply And.intro)<;>rfl))
 ·clear h; have h := h2; clear h2; try dsimp only at h
  cbv
  have e := ret_some h; clear h
  refine hK _ _ ?_
  cbv
  try (subst e; simp only [S, and_self, and_true, true_and] <;> (repeat' apply And.intro) <;> rfl)
end Go.Proofs.Ytmofhbedamjblaa
end
section
/- All walks of the functions. No statement of its own. -/
end
section
namespace Go.Proofs.Ytmofhbedamjblaa
open Go.Ab Go.RowKit
set_option maxRecDepth 100000

def Cnt (x : Int) : Prop := 0 ≤ x ∧ x ≤ 4611686018427387904
/-- A state is valid. -/
def valS (fn : Int) (p : List Int) (s : List Int) : Prop := (s.length : Int) = wd fn p ∧ (7 ≤ fn → ∀ x ∈ s, Cnt x) ∧ (fn ≠ 2 → fn < 7 → Cnt (s.getD 0 0) ∧ (s.getD 0 0 = 0 → ∀ x ∈ s, x = 0))
noncomputable instance (fn : Int) (p : List Int) (s : List Int) : Decidable (valS fn p s) := Classical.propDecidable _
theorem lenI_vi (l : List Int) : lenI (vi l) = ((l.length : Nat) : Int) := vi_len l
theorem all_geti {ks : List Int} {P : Int → Prop} : (∀ k ∈ ks, P k) ↔ ∀ i, (h : i < ks.length) → P ks[i] := by
  constructor
  · intro h i hi; exact h _ (List.getElem_mem hi)
  · intro h k hk
    obtain ⟨i, hi, rfl⟩ := List.getElem_of_mem hk
    exact h i hi
open Classical in
theorem loop54 (l : List Int) (hl : l.length ≤ 9223372036854775807) : iter (d54_b1 (vi l)) 0 = some (if ∀ x ∈ l, Cnt x then (.inr () : Bool ⊕ Unit) else .inl false) := by
  have go : ∀ j : Nat, (hj : j < l.length) → Cnt l[j] → d54_b1 (vi l) (j : Int) = some (.inl ((j + 1 : Nat) : Int)) := by
    intro j hj hP
    unfold d54_b1
    rw [lenI_vi, if_pos (lt_i hj), if_pos (inb_i hj), gI_vi _ _ hj, s76, succ_i hj hl]
    simp only [Option.bind_some, notB_dec]
    exact nif (p := 0 ≤ l[j] ∧ l[j] ≤ 4611686018427387904) hP
  rw [show (0 : Int) = ((0 : Nat) : Int) from rfl]
  rcases first_bad (fun i => ∀ h : i < l.length, Cnt l[i]) l.length with h | ⟨i, hi, hb, hlt⟩
  · rw [if_pos (all_geti.2 (fun i hi => h i hi hi))]
    refine scan (d54_b1 (vi l)) (fun j => (j : Int)) (Nat.zero_le _) (fun j _ hj => go j hj (h j hj hj)) ?_
    unfold d54_b1
    rw [lenI_vi, if_neg (nlt_i _)]
  · have hb' : ¬ Cnt l[i] := fun h => hb (fun _ => h)
    rw [if_neg (fun h => hb' (h _ (List.getElem_mem hi)))]
    refine scan (d54_b1 (vi l)) (fun j => (j : Int)) (Nat.zero_le i) (fun j _ hj => go j (by omega) (hlt j hj (by omega))) ?_
    unfold d54_b1
    rw [lenI_vi, if_pos (lt_i hi), if_pos (inb_i hi), gI_vi _ _ hi, s76]
    simp only [Option.bind_some, notB_dec]
    exact nif' (p := 0 ≤ l[i] ∧ l[i] ≤ 4611686018427387904) hb'
open Classical in
theorem s79 (l : List Int) (hl : l.length ≤ 9223372036854775807) : d79v1 (vi l) = some (decide (¬ ∀ x ∈ l, x = 0)) := by
  have go : ∀ j : Nat, (hj : j < l.length) → l[j] = 0 → d118v1_b1 (vi l) (j : Int) = some (.inl ((j + 1 : Nat) : Int)) := by
    intro j hj hP
    unfold d118v1_b1 d80v1 d78
    rw [lenI_vi, if_pos (lt_i hj), if_pos (inb_i hj), gI_vi _ _ hj, succ_i hj hl, c_eql]
    simp only [Option.bind_some, notB_dec]
    exact nif (p := l[j] = 0) hP
  unfold d79v1 d118v1
  rw [show (0 : Int) = ((0 : Nat) : Int) from rfl]
  rcases first_bad (fun i => ∀ h : i < l.length, l[i] = 0) l.length with h | ⟨i, hi, hb, hlt⟩
  · have hall : ∀ x ∈ l, x = 0 := all_geti.2 (fun i hi => h i hi hi)
    have hI : iter (d118v1_b1 (vi l)) ((0 : Nat) : Int) = some (.inr ()) := by
      refine scan (d118v1_b1 (vi l)) (fun j => (j : Int)) (Nat.zero_le _) (fun j _ hj => go j hj (h j hj hj)) ?_
      unfold d118v1_b1
      rw [lenI_vi, if_neg (nlt_i _)]
    rw [hI]
    simp only [Option.bind_some, c_geq]
    refine someD ⟨fun h => ?_, fun h => (h hall).elim⟩
    omega
  · have hb' : ¬ l[i] = 0 := fun h => hb (fun _ => h)
    have hI : iter (d118v1_b1 (vi l)) ((0 : Nat) : Int) = some (.inl (i : Int)) := by
      refine scan (d118v1_b1 (vi l)) (fun j => (j : Int)) (Nat.zero_le i) (fun j _ hj => go j (by omega) (hlt j hj (by omega))) ?_
      unfold d118v1_b1 d80v1 d78
      rw [lenI_vi, if_pos (lt_i hi), if_pos (inb_i hi), gI_vi _ _ hi, c_eql]
      simp only [Option.bind_some, notB_dec]
      exact nif' (p := l[i] = 0) hb'
    rw [hI]
    simp only [Option.bind_some, c_geq]
    refine someD ⟨fun _ h => hb' (h _ (List.getElem_mem hi)), fun h => ?_⟩
    omega
theorem vi_take (l : List Int) (n : Nat) : (vi l).take n = vi (l.take n) := by unfold vi; rw [List.map_take]
theorem vi_drop (l : List Int) (n : Nat) : (vi l).drop n = vi (l.drop n) := by unfold vi; rw [List.map_drop]
theorem s31 (nm : ByteArray) (fn : Int) (p ks : List V) : d31 nm fn p ks = some (decide (fn ≥ 7)) := by unfold d31; rw [c_geq]
theorem inb_0 {n : Nat} (h : 0 < n) : Inb 0 (n : Int) := ⟨by omega, by omega⟩
open Classical in
theorem s54 {nm : ByteArray} {fn : Int} {p : List Int} {ks : List V} (h : okA nm fn p ks) (s : List Int) (hs : s.length ≤ 9223372036854775807) : d54 nm fn (vi p) ks (vi s) = some (decide (valS fn p s)) := by
  have hw := wd_rng h
  unfold d54
  rw [s34 h]
  simp only [Option.bind_some, lenI_vi, c_neq]
  by_cases hl : (s.length : Int) = wd fn p
  · rw [nif hl, if_pos (show Bnd 0 1 (s.length : Int) from ⟨by omega, by omega, by omega⟩), s31]
    simp only [Option.bind_some]
    have h0 : 0 < s.length := by omega
    have eg : gI (vi s) 0 0 = s.getD 0 0 := by
      rw [show gI (vi s) 0 0 = s[0] from gI_vi s 0 h0]
      simp [List.getD_eq_getElem?_getD, h0]
    by_cases h7 : fn ≥ 7
    · simp only [yif h7, Option.bind_some]
      have h2 : ¬ fn = 2 := by omega
      simp only [c_eql, yif' h2, Option.bind_some, loop54 s hs]
      by_cases hc : ∀ x ∈ s, Cnt x
      · rw [if_pos hc]
        exact someD (p := True) ⟨fun _ => ⟨hl, fun _ => hc, fun _ h => by omega⟩, fun _ => trivial⟩
      · rw [if_neg hc]
        exact someF (fun h => hc (h.2.1 h7))
    · simp only [yif' h7, Option.bind_some]
      have et : subL (vi s) 0 1 = vi (s.take 1) := by
        unfold subL
        rw [show (1 : Int).toNat = 1 from rfl, show (0 : Int).toNat = 0 from rfl, List.drop_zero, vi_take]
      have ed : subL (vi s) 1 (s.length : Int) = vi (s.drop 1) := by
        unfold subL
        rw [show (1 : Int).toNat = 1 from rfl, Int.toNat_natCast, List.take_of_length_le (by rw [vi_length]; omega), vi_drop]
      simp only [et, ed, c_eql, c_neq, eg]
      by_cases h2 : fn = 2
      · simp only [yif h2, Option.bind_some]
        have el := loop54 [] (by simp)
        rw [show vi [] = ([] : List V) from rfl] at el
        rw [el, if_pos (by simp)]
        simp only [Option.bind_some]
        rw [if_pos (inb_0 h0)]
        have tr : some true = some (decide (valS fn p s)) := someD (p := True) ⟨fun _ => ⟨hl, fun h => by omega, fun h => (h h2).elim⟩, fun _ => trivial⟩
        by_cases hz : s.getD 0 0 = 0
        · rw [nif hz]; exact tr
        · rw [nif' hz]; exact tr
      · simp only [yif' h2, Option.bind_some, loop54 (s.take 1) (by rw [List.length_take]; omega)]
        have hta : (∀ x ∈ s.take 1, Cnt x) ↔ Cnt (s.getD 0 0) := by
          match s, h0 with
          | x :: r, _ => simp
        by_cases hc : Cnt (s.getD 0 0)
        · rw [if_pos (hta.2 hc)]
          simp only [Option.bind_some]
          rw [if_pos (inb_0 h0)]
          by_cases hz : s.getD 0 0 = 0
          · rw [nif hz, if_pos (show Bnd 1 (s.length : Int) (s.length : Int) from ⟨by omega, by omega, by omega⟩), s79 _ (by rw [List.length_drop]; omega)]
            simp only [Option.bind_some, notB_dec]
            refine someD ⟨fun hn => ⟨hl, fun h => (h7 h).elim, fun _ _ => ⟨hc, fun _ => ?_⟩⟩, fun hv hn => hn ?_⟩
            · have hn := Classical.not_not.1 hn
              match s, h0 with
              | x :: r, _ =>
                intro y hy
                rcases List.mem_cons.1 hy with rfl | hy
                · exact hz
                · exact hn y hy
            · intro x hx
              exact (hv.2.2 h2 (by omega)).2 hz x (List.mem_of_mem_drop hx)
          · rw [nif' hz]
            exact someD (p := True) ⟨fun _ => ⟨hl, fun h => (h7 h).elim, fun _ _ => ⟨hc, fun h => (hz h).elim⟩⟩, fun _ => trivial⟩
        · rw [if_neg (fun h => hc (hta.1 h))]
          exact someF (fun h => hc (h.2.2 h2 (by omega)).1)
  · rw [nif' hl]
    exact someF (fun h => hl h.1)
/-- The error of a state. -/
noncomputable def chkS (nm : ByteArray) (fn : Int) (p : List Int) (ks : List V) (s : List Int) : Int := if okA nm fn p ks then (if valS fn p s then 0 else 211) else 210
theorem s25 (nm : ByteArray) (fn : Int) (p : List Int) (ks : List V) (hp : ∀ x ∈ p, I64 x) (s : List Int) (hs : s.length ≤ 9223372036854775807) : d25 nm fn (vi p) ks (vi s) = some (chkS nm fn p ks s) := by
  unfold d25 chkS
  rw [s22 nm fn p ks hp]
  simp only [Option.bind_some, c_neq]
  by_cases h : okA nm fn p ks
  · rw [if_pos h, if_pos h, nif rfl, s54 h s hs]
    simp only [Option.bind_some, notB_dec]
    by_cases hv : valS fn p s
    · rw [nif hv, if_pos hv]
    · rw [nif' hv, if_neg hv]
  · rw [if_neg h, if_neg h, nif' (by omega)]
theorem lenI1 (a : V) : lenI [a] = ((1 : Nat) : Int) := rfl
theorem lenI2 (a b : V) : lenI [a, b] = ((2 : Nat) : Int) := rfl
theorem nlt_ii {i n : Nat} (h : n ≤ i) : ¬ cmpLit .lss (i : Int) (n : Int) = true := by rw [c_lss, dF (by omega)]; simp
/-- checked of one state, and of two. -/
theorem s37_1 (nm : ByteArray) (fn : Int) (p : List Int) (ks : List V) (hp : ∀ x ∈ p, I64 x) (s : List Int) (hs : s.length ≤ 9223372036854775807) : d37 nm fn (vi p) ks [.sl 2 (vi s)] = some (chkS nm fn p ks s) := by
  unfold d37
  by_cases hz : chkS nm fn p ks s = 0
  · have hI : iter (d37_b1 nm fn (vi p) ks [.sl 2 (vi s)]) ((0 : Nat) : Int) = some (.inr ()) := by
      refine scan (d37_b1 nm fn (vi p) ks [.sl 2 (vi s)]) (fun j => (j : Int)) (i := 1) (by omega) (fun j _ hj => ?_) ?_
      · obtain rfl : j = 0 := by omega
        unfold d37_b1
        rw [lenI1, if_pos (lt_i (by omega)), if_pos (inb_i (by omega)), show gL [.sl 2 (vi s)] ((0 : Nat) : Int) 0 = vi s from rfl, s25 nm fn p ks hp s hs]
        simp only [Option.bind_some, c_neq]
        rw [nif hz]
        rfl
      · unfold d37_b1
        rw [lenI1, if_neg (nlt_ii (by omega))]
    rw [show (0 : Int) = ((0 : Nat) : Int) from rfl, hI]
    simp only [Option.bind_some]
    rw [s22 nm fn p ks hp, hz]
    unfold chkS at hz
    by_cases h : okA nm fn p ks
    · rw [if_pos h]; rfl
    · rw [if_neg h] at hz; omega
  · have hI : iter (d37_b1 nm fn (vi p) ks [.sl 2 (vi s)]) ((0 : Nat) : Int) = some (.inl (chkS nm fn p ks s)) := by
      refine iter_inr ?_
      unfold d37_b1
      rw [lenI1, if_pos (lt_i (by omega)), if_pos (inb_i (by omega)), show gL [.sl 2 (vi s)] ((0 : Nat) : Int) 0 = vi s from rfl, s25 nm fn p ks hp s hs]
      simp only [Option.bind_some, c_neq]
      rw [nif' hz]
    rw [show (0 : Int) = ((0 : Nat) : Int) from rfl, hI]
    rfl
theorem s37_2 (nm : ByteArray) (fn : Int) (p : List Int) (ks : List V) (hp : ∀ x ∈ p, I64 x) (s t : List Int) (hs : s.length ≤ 9223372036854775807) (ht : t.length ≤ 9223372036854775807) : d37 nm fn (vi p) ks [.sl 2 (vi s), .sl 2 (vi t)] = some (if chkS nm fn p ks s = 0 then chkS nm fn p ks t else chkS nm fn p ks s) := by
  unfold d37
  have g0 : gL [.sl 2 (vi s), .sl 2 (vi t)] ((0 : Nat) : Int) 0 = vi s := rfl
  have g1 : gL [.sl 2 (vi s), .sl 2 (vi t)] ((1 : Nat) : Int) 0 = vi t := rfl
  by_cases hz : chkS nm fn p ks s = 0
  · rw [if_pos hz]
    by_cases hw : chkS nm fn p ks t = 0
    · have hI : iter (d37_b1 nm fn (vi p) ks [.sl 2 (vi s), .sl 2 (vi t)]) ((0 : Nat) : Int) = some (.inr ()) := by
        refine scan (d37_b1 nm fn (vi p) ks [.sl 2 (vi s), .sl 2 (vi t)]) (fun j => (j : Int)) (i := 2) (by omega) (fun j _ hj => ?_) ?_
        · rcases (show j = 0 ∨ j = 1 by omega) with rfl | rfl
          · unfold d37_b1
            rw [lenI2, if_pos (lt_i (by omega)), if_pos (inb_i (by omega)), g0, s25 nm fn p ks hp s hs]
            simp only [Option.bind_some, c_neq]
            rw [nif hz]
            rfl
          · unfold d37_b1
            rw [lenI2, if_pos (lt_i (by omega)), if_pos (inb_i (by omega)), g1, s25 nm fn p ks hp t ht]
            simp only [Option.bind_some, c_neq]
            rw [nif hw]
            rfl
        · unfold d37_b1
          rw [lenI2, if_neg (nlt_ii (by omega))]
      rw [show (0 : Int) = ((0 : Nat) : Int) from rfl, hI]
      simp only [Option.bind_some]
      rw [s22 nm fn p ks hp, hw]
      unfold chkS at hz
      by_cases h : okA nm fn p ks
      · rw [if_pos h]; rfl
      · rw [if_neg h] at hz; omega
    · have hI : iter (d37_b1 nm fn (vi p) ks [.sl 2 (vi s), .sl 2 (vi t)]) ((0 : Nat) : Int) = some (.inl (chkS nm fn p ks t)) := by
        refine scan (d37_b1 nm fn (vi p) ks [.sl 2 (vi s), .sl 2 (vi t)]) (fun j => (j : Int)) (i := 1) (by omega) (fun j _ hj => ?_) ?_
        · obtain rfl : j = 0 := by omega
          unfold d37_b1
          rw [lenI2, if_pos (lt_i (by omega)), if_pos (inb_i (by omega)), g0, s25 nm fn p ks hp s hs]
          simp only [Option.bind_some, c_neq]
          rw [nif hz]
          rfl
        · unfold d37_b1
          rw [lenI2, if_pos (lt_i (by omega)), if_pos (inb_i (by omega)), g1, s25 nm fn p ks hp t ht]
          simp only [Option.bind_some, c_neq]
          rw [nif' hw]
      rw [show (0 : Int) = ((0 : Nat) : Int) from rfl, hI]
      rfl
  · rw [if_neg hz]
    have hI : iter (d37_b1 nm fn (vi p) ks [.sl 2 (vi s), .sl 2 (vi t)]) ((0 : Nat) : Int) = some (.inl (chkS nm fn p ks s)) := by
      refine iter_inr ?_
      unfold d37_b1
      rw [lenI2, if_pos (lt_i (by omega)), if_pos (inb_i (by omega)), show gL [.sl 2 (vi s), .sl 2 (vi t)] ((0 : Nat) : Int) 0 = vi s from rfl, s25 nm fn p ks hp s hs]
      simp only [Option.bind_some, c_neq]
      rw [nif' hz]
    rw [show (0 : Int) = ((0 : Nat) : Int) from rfl, hI]
    rfl
end Go.Proofs.Ytmofhbedamjblaa
end
section
namespace Go.Proofs.Ytmofhbedamjblaa
open Go.Ab Go.RowKit
set_option maxRecDepth 100000

/-- The sum of two sums of squares, of 128 bits each. -/
def sq2 (h l h' l' : Int) : Int := (W2 (wrapK .u64 h) (wrapK .u64 l) + W2 (wrapK .u64 h') (wrapK .u64 l')) % 340282366920938463463374607431768211456
def hi2 (n : Int) : Int := wrapK .i64 (n / 18446744073709551616)
def lo2 (n : Int) : Int := wrapK .i64 (n % 18446744073709551616)
def pick (fn a x b y : Int) : Int :=
  if fn = 3 then (if 0 < b ∧ (a = 0 ∨ y < x) then y else x) else if fn = 4 then (if 0 < b ∧ (a = 0 ∨ y > x) then y else x) else wrapK .i64 (x + y)
/-- Two states merged, the counts not looked at. -/
def mg (fn : Int) (s t : List Int) : List Int :=
  if fn = 1 ∨ 7 ≤ fn then List.zipWith (fun a b => a + b) s t
  else if fn = 2 then List.zipWith (fun a b => wrapK .i64 (a + b)) s t
  else match s, t with
  | [a, x], [b, y] => [a + b, pick fn a x b y]
  | [a, x, h, l], [b, y, h', l'] => [a + b, wrapK .i64 (x + y), hi2 (sq2 h l h' l'), lo2 (sq2 h l h' l')]
  | _, _ => s
/-- The counts are not too great. -/
def gd (fn : Int) (s t : List Int) : Prop :=
  if fn = 2 then True else if fn = 1 ∨ 7 ≤ fn then ∀ i, i < s.length → s.getD i 0 + t.getD i 0 ≤ 4611686018427387904 else s.getD 0 0 + t.getD 0 0 ≤ 4611686018427387904
noncomputable instance (fn : Int) (s t : List Int) : Decidable (gd fn s t) := Classical.propDecidable _

theorem iv_n {l : List Int} {i : Nat} (h : i < l.length) : Inb (i : Int) (lenI (vi l)) := by rw [lenI_vi]; exact inb_i h
theorem putL_vi (l : List Int) (j : Nat) (x : Int) (h : j < l.length) : putL (vi l) (j : Int) 0 [.i .i64 x] = vi (l.set j x) := by
  unfold putL
  have : (vi l).getD (Int.toNat (j : Int)) V.dead = .i .i64 l[j] := by
    rw [Int.toNat_natCast, List.getD_eq_getElem?_getD]
    simp [vi, h]
  rw [this, Int.toNat_natCast]
  show (vi l).set j (.i .i64 x) = _
  unfold vi
  rw [List.map_set]
theorem s123 (nm : ByteArray) (fn : Int) (p ks : List V) {l : List Int} {i : Nat} {n : Int} (hi : i < l.length) (hl : I64 l[i]) (hn : Cnt n) : d123v2 nm fn p ks (i : Int) n (vi l) = some (if l[i] + n ≤ 4611686018427387904 then (true, vi (l.set i (l[i] + n))) else (false, vi l)) := by
  obtain ⟨n0, n1⟩ := hn
  obtain ⟨l0, l1⟩ := hl
  unfold d123v2
  rw [if_pos (iv_n hi), gI_vi _ _ hi, ar_sub' ⟨by omega, by omega⟩, c_gtr, if_pos (iv_n hi), if_pos (iv_n hi)]
  by_cases h : l[i] + n ≤ 4611686018427387904
  · rw [if_pos h, yif' (by omega), ar_add' ⟨by omega, by omega⟩, putL_vi _ _ _ hi]
  · rw [if_neg h, yif (by omega)]
theorem s38 (l : List Int) (h : l.length ≤ 2000) : d38 (vi l) = some (vi l) := by
  have hr : Room (lenI (appL [] (vi l))) 8 := by
    show Room (lenI (vi l)) 8
    rw [lenI_vi]
    exact ⟨by omega, by omega⟩
  unfold d38
  rw [if_pos hr]
  by_cases hz : vi l = []
  · rw [hz]; exact nlD_eq rfl
  · rw [nlD_ne hz]; rfl
/-- A mixture: sums so far, and the rest. -/
def mix (s t : List Int) (j : Nat) : List Int := List.zipWith (fun a b => a + b) (s.take j) (t.take j) ++ s.drop j
theorem mix_get {s t : List Int} {j : Nat} (hs : j < s.length) (ht : s.length = t.length) : ∃ h : j < (mix s t j).length, (mix s t j)[j] = s[j] := by
  have hl : (List.zipWith (fun a b => a + b) (s.take j) (t.take j)).length = j := by
    rw [List.length_zipWith, List.length_take, List.length_take]; omega
  have h : j < (mix s t j).length := by
    unfold mix
    rw [List.length_append, hl, List.length_drop]; omega
  refine ⟨h, ?_⟩
  have : (mix s t j)[j]? = some s[j] := by
    unfold mix
    rw [List.getElem?_append_right (by omega), hl, Nat.sub_self]
    simp [hs]
  rw [List.getElem?_eq_getElem h] at this
  exact Option.some.inj this
theorem mix_step {s t : List Int} {j : Nat} (hs : j < s.length) (ht : j < t.length) (he : s.length = t.length) : (mix s t j).set j (s[j] + t[j]) = mix s t (j + 1) := by
  have hl : (List.zipWith (fun a b => a + b) (s.take j) (t.take j)).length = j := by
    rw [List.length_zipWith, List.length_take, List.length_take]; omega
  unfold mix
  rw [List.set_append_right _ _ (by omega), hl, Nat.sub_self, List.drop_eq_getElem_cons hs, List.set_cons_zero, List.take_succ_eq_append_getElem hs, List.take_succ_eq_append_getElem ht, List.zipWith_append (by rw [List.length_take, List.length_take]; omega)]
  simp
theorem getD_get {l : List Int} {i : Nat} (h : i < l.length) : l.getD i 0 = l[i] := by simp [List.getD_eq_getElem?_getD, h]
open Classical in
theorem s94 (nm nm' : ByteArray) (fn fn' : Int) (p ks p' ks' : List V) {s t : List Int} (he : s.length = t.length) (hl : s.length ≤ 2000) (hs : ∀ x ∈ s, Cnt x) (ht : ∀ x ∈ t, Cnt x) : ∃ q, d94v2 nm fn p ks nm' fn' p' ks' (vi t) (vi s) = some (if ∀ i, i < s.length → s.getD i 0 + t.getD i 0 ≤ 4611686018427387904 then (true, vi (List.zipWith (fun a b => a + b) s t)) else (false, q)) := by
  have go : ∀ j : Nat, j < s.length → s.getD j 0 + t.getD j 0 ≤ 4611686018427387904 → d94v2_b1 nm fn p ks (vi t) ((j : Int), vi (mix s t j)) = some (.inl (((j + 1 : Nat) : Int), vi (mix s t (j + 1)))) := by
    intro j hj hg
    have hjt : j < t.length := by omega
    obtain ⟨hm, em⟩ := mix_get hj he
    have cs := hs _ (List.getElem_mem hj)
    have ct := ht _ (List.getElem_mem hjt)
    unfold d94v2_b1
    dsimp only
    rw [if_pos (by rw [lenI_vi]; exact lt_i hjt), if_pos (iv_n hjt), gI_vi _ _ hjt, s123 nm fn p ks hm (by rw [em]; obtain ⟨c1, c2⟩ := cs; exact ⟨by omega, by omega⟩) ct, em]
    rw [getD_get hj, getD_get hjt] at hg
    rw [if_pos hg, mix_step hj hjt he, succ_i hj (by omega)]
    rfl
  rcases first_bad (fun i => s.getD i 0 + t.getD i 0 ≤ 4611686018427387904) s.length with h | ⟨i, hi, hb, hlt⟩
  · refine ⟨[], ?_⟩
    rw [if_pos h]
    have hI : iter (d94v2_b1 nm fn p ks (vi t)) (((0 : Nat) : Int), vi (mix s t 0)) = some (.inr (vi (mix s t s.length))) := by
      refine scan (d94v2_b1 nm fn p ks (vi t)) (fun j => ((j : Int), vi (mix s t j))) (Nat.zero_le _) (fun j _ hj => go j hj (h j hj)) ?_
      unfold d94v2_b1
      dsimp only
      rw [he, lenI_vi, if_neg (nlt_i _)]
    have e0 : mix s t 0 = s := by simp [mix]
    have e1 : mix s t s.length = List.zipWith (fun a b => a + b) s t := by
      unfold mix
      rw [List.take_length, he, List.take_length, ← he, List.drop_length, List.append_nil]
    rw [e0, e1] at hI
    unfold d94v2
    rw [show (0 : Int) = ((0 : Nat) : Int) from rfl, hI]
    rfl
  · refine ⟨vi (mix s t i), ?_⟩
    rw [if_neg (fun h => hb (h i hi))]
    have hit : i < t.length := by omega
    obtain ⟨hm, em⟩ := mix_get hi he
    have cs := hs _ (List.getElem_mem hi)
    have ct := ht _ (List.getElem_mem hit)
    rw [getD_get hi, getD_get hit] at hb
    have hI : iter (d94v2_b1 nm fn p ks (vi t)) (((0 : Nat) : Int), vi (mix s t 0)) = some (.inl (false, vi (mix s t i))) := by
      refine scan (d94v2_b1 nm fn p ks (vi t)) (fun j => ((j : Int), vi (mix s t j))) (Nat.zero_le _) (fun j _ hj => go j (by omega) (hlt j hj)) ?_
      unfold d94v2_b1
      dsimp only
      rw [if_pos (by rw [lenI_vi]; exact lt_i hit), if_pos (iv_n hit), gI_vi _ _ hit, s123 nm fn p ks hm (by rw [em]; obtain ⟨c1, c2⟩ := cs; exact ⟨by omega, by omega⟩) ct, em, if_neg hb]
      rfl
    have e0 : mix s t 0 = s := by simp [mix]
    rw [e0] at hI
    unfold d94v2
    rw [show (0 : Int) = ((0 : Nat) : Int) from rfl, hI]
    rfl

theorem iv20 (a b : Int) : Inb 0 (lenI (vi [a, b])) := ⟨by omega, by rw [vi_len]; show (0 : Int) < 2; omega⟩
theorem iv21 (a b : Int) : Inb 1 (lenI (vi [a, b])) := ⟨by omega, by rw [vi_len]; show (1 : Int) < 2; omega⟩
theorem g20 (a b : Int) : gI (vi [a, b]) 0 0 = a := (rfl)
theorem g21 (a b : Int) : gI (vi [a, b]) 1 0 = b := (rfl)
theorem p21 (a b c : Int) : putL (vi [a, b]) 1 0 [.i .i64 c] = vi [a, c] := (rfl)
theorem p41 (a b c d x : Int) : putL (vi [a, b, c, d]) 1 0 [.i .i64 x] = vi [a, x, c, d] := (rfl)
theorem p42 (a b c d x : Int) : putL (vi [a, b, c, d]) 2 0 [.i .i64 x] = vi [a, b, x, d] := (rfl)
theorem p43 (a b c d x : Int) : putL (vi [a, b, c, d]) 3 0 [.i .i64 x] = vi [a, b, c, x] := (rfl)
theorem grow2 (nm : ByteArray) (fn : Int) (p ks : List V) {a x n : Int} (ha : Cnt a) (hn : Cnt n) : d123v2 nm fn p ks 0 n (vi [a, x]) = some (if a + n ≤ 4611686018427387904 then (true, vi [a + n, x]) else (false, vi [a, x])) :=
  s123 nm fn p ks (l := [a, x]) (i := 0) (by simp) (by obtain ⟨h1, h2⟩ := ha; exact ⟨by show _ ≤ a; omega, by show a < _; omega⟩) hn
theorem grow4 (nm : ByteArray) (fn : Int) (p ks : List V) {a x y z n : Int} (ha : Cnt a) (hn : Cnt n) : d123v2 nm fn p ks 0 n (vi [a, x, y, z]) = some (if a + n ≤ 4611686018427387904 then (true, vi [a + n, x, y, z]) else (false, vi [a, x, y, z])) :=
  s123 nm fn p ks (l := [a, x, y, z]) (i := 0) (by simp) (by obtain ⟨h1, h2⟩ := ha; exact ⟨by show _ ≤ a; omega, by show a < _; omega⟩) hn
theorem s99 (nm nm' : ByteArray) (fn fn' : Int) (p ks p' ks' : List V) {a x b y : Int} (ha : Cnt a) (hb : Cnt b) : ∃ q, d99v2 nm fn p ks nm' fn' p' ks' (vi [b, y]) (vi [a, x]) = some (if a + b ≤ 4611686018427387904 then (true, vi [a + b, pick 3 a x b y]) else (false, q)) := by
  refine ⟨vi [a, pick 3 a x b y], ?_⟩
  unfold d99v2
  simp only [iv20, iv21, ↓reduceIte, g20, g21, p21, c_gtr, c_eql, c_lss, grow2 nm fn p ks ha hb]
  by_cases h1 : b > 0
  · rw [yif h1]
    by_cases h2 : a = 0
    · rw [yif h2]
      have e : pick 3 a x b y = y := by unfold pick; rw [if_pos rfl, if_pos ⟨h1, .inl h2⟩]
      rw [e]
      simp only [Option.bind_some, ↓reduceIte]
    · rw [yif' h2]
      by_cases h3 : y < x
      · have e : pick 3 a x b y = y := by unfold pick; rw [if_pos rfl, if_pos ⟨h1, .inr h3⟩]
        rw [e, dT h3]
        simp only [Option.bind_some, ↓reduceIte]
      · have e : pick 3 a x b y = x := by unfold pick; rw [if_pos rfl, if_neg (by rintro ⟨_, h | h⟩; exact h2 h; exact h3 h)]
        rw [e, dF h3]
        simp only [Option.bind_some, Bool.false_eq_true, ↓reduceIte]
  · rw [yif' h1]
    have e : pick 3 a x b y = x := by unfold pick; rw [if_pos rfl, if_neg (fun h => h1 h.1)]
    rw [e]
    simp only [Option.bind_some, Bool.false_eq_true, ↓reduceIte]
theorem s102 (nm nm' : ByteArray) (fn fn' : Int) (p ks p' ks' : List V) {a x b y : Int} (ha : Cnt a) (hb : Cnt b) : ∃ q, d102v2 nm fn p ks nm' fn' p' ks' (vi [b, y]) (vi [a, x]) = some (if a + b ≤ 4611686018427387904 then (true, vi [a + b, pick 4 a x b y]) else (false, q)) := by
  refine ⟨vi [a, pick 4 a x b y], ?_⟩
  unfold d102v2
  simp only [iv20, iv21, ↓reduceIte, g20, g21, p21, c_gtr, c_eql, c_lss, grow2 nm fn p ks ha hb]
  have p4 : pick 4 a x b y = (if 0 < b ∧ (a = 0 ∨ y > x) then y else x) := by
    unfold pick
    rw [if_neg (by omega), if_pos rfl]
  by_cases h1 : b > 0
  · rw [yif h1]
    by_cases h2 : a = 0
    · rw [yif h2]
      have e : pick 4 a x b y = y := by rw [p4, if_pos ⟨h1, .inl h2⟩]
      rw [e]
      simp only [Option.bind_some, ↓reduceIte]
    · rw [yif' h2]
      by_cases h3 : y > x
      · have e : pick 4 a x b y = y := by rw [p4, if_pos ⟨h1, .inr h3⟩]
        rw [e, dT h3]
        simp only [Option.bind_some, ↓reduceIte]
      · have e : pick 4 a x b y = x := by rw [p4, if_neg (by rintro ⟨_, h | h⟩; exact h2 h; exact h3 h)]
        rw [e, dF h3]
        simp only [Option.bind_some, Bool.false_eq_true, ↓reduceIte]
  · rw [yif' h1]
    have e : pick 4 a x b y = x := by rw [p4, if_neg (fun h => h1 h.1)]
    rw [e]
    simp only [Option.bind_some, Bool.false_eq_true, ↓reduceIte]
theorem s104 (nm nm' : ByteArray) (fn fn' : Int) (p ks p' ks' : List V) {a x b y : Int} (ha : Cnt a) (hb : Cnt b) : ∃ q, d104v2 nm fn p ks nm' fn' p' ks' (vi [b, y]) (vi [a, x]) = some (if a + b ≤ 4611686018427387904 then (true, vi [a + b, wrapK .i64 (x + y)]) else (false, q)) := by
  refine ⟨vi [a, wrapK .i64 (x + y)], ?_⟩
  unfold d104v2
  simp only [iv20, iv21, ↓reduceIte, g20, g21, p21, show arReal .add .i64 x y = wrapK .i64 (x + y) from rfl, grow2 nm fn p ks ha hb]
  by_cases h : a + b ≤ 4611686018427387904
  · rw [if_pos h]; rfl
  · rw [if_neg h]; rfl
theorem s127' {h1 l1 h2 l2 : Int} (a : U64 h1) (b : U64 l1) (c : U64 h2) (d : U64 l2) : d127 h1 l1 h2 l2 = some (((W2 h1 l1 + W2 h2 l2) % 340282366920938463463374607431768211456) / 18446744073709551616, ((W2 h1 l1 + W2 h2 l2) % 340282366920938463463374607431768211456) % 18446744073709551616) := by
  obtain ⟨h, l, e, uh, ul, w⟩ := s127 a b c d
  rw [e, ← w]
  obtain ⟨u1, u2⟩ := uh
  obtain ⟨u3, u4⟩ := ul
  unfold W2
  congr 2 <;> omega
theorem wku_u (a : Int) : U64 (wrapK .u64 a) := by rw [wk_u64]; exact ⟨by omega, by omega⟩
theorem s107 (nm nm' : ByteArray) (fn fn' : Int) (p ks p' ks' : List V) {a x h l b y h' l' : Int} (ha : Cnt a) (hb : Cnt b) : ∃ q, d107v2 nm fn p ks nm' fn' p' ks' (vi [b, y, h', l']) (vi [a, x, h, l]) = some (if a + b ≤ 4611686018427387904 then (true, vi [a + b, wrapK .i64 (x + y), hi2 (sq2 h l h' l'), lo2 (sq2 h l h' l')]) else (false, q)) := by
  refine ⟨vi [a, wrapK .i64 (x + y), hi2 (sq2 h l h' l'), lo2 (sq2 h l h' l')], ?_⟩
  unfold d107v2 d126
  simp only [iv42, iv43, ↓reduceIte, g42, g43, Option.bind_some]
  rw [s127' (wku_u _) (wku_u _) (wku_u _) (wku_u _)]
  simp only [Option.bind_some]
  unfold d125v2
  simp only [iv42, iv43, ↓reduceIte, p42, p43, Option.bind_some]
  unfold d104v2
  simp only [iv40, iv41, ↓reduceIte, g40, g41, p41, show arReal .add .i64 x y = wrapK .i64 (x + y) from rfl, grow4 nm fn p ks ha hb]
  by_cases h : a + b ≤ 4611686018427387904
  · rw [if_pos h, if_pos h]; rfl
  · rw [if_neg h, if_neg h]; rfl
end Go.Proofs.Ytmofhbedamjblaa
end
section
namespace Go.Proofs.Ytmofhbedamjblaa
open Go.Ab Go.RowKit
set_option maxRecDepth 100000

theorem len1 {l : List Int} (h : (l.length : Int) = 1) : ∃ a, l = [a] := by
  match l, h with
  | [a], _ => exact ⟨a, rfl⟩
  | [], h => simp at h
  | a :: b :: r, h => simp at h; omega
theorem len2 {l : List Int} (h : (l.length : Int) = 2) : ∃ a b, l = [a, b] := by
  match l, h with
  | [a, b], _ => exact ⟨a, b, rfl⟩
  | [], h => simp at h
  | [a], h => simp at h
  | a :: b :: c :: r, h => simp at h; omega
theorem len4 {l : List Int} (h : (l.length : Int) = 4) : ∃ a b c d, l = [a, b, c, d] := by
  match l, h with
  | [a, b, c, d], _ => exact ⟨a, b, c, d, rfl⟩
  | [], h => simp at h
  | [a], h => simp at h
  | [a, b], h => simp at h
  | [a, b, c], h => simp at h
  | a :: b :: c :: d :: e :: r, h => simp at h; omega
theorem v1 {p s : List Int} (h : valS 1 p s) : ∃ a, s = [a] ∧ Cnt a := by
  obtain ⟨a, rfl⟩ := len1 (h.1 : (s.length : Int) = 1)
  exact ⟨a, rfl, (h.2.2 (by omega) (by omega)).1⟩
theorem v2 {p s : List Int} (h : valS 2 p s) : ∃ a, s = [a] := len1 (h.1 : (s.length : Int) = 1)
theorem v345 {fn : Int} {p s : List Int} (hf : 3 ≤ fn ∧ fn ≤ 5) (h : valS fn p s) : ∃ a x, s = [a, x] ∧ Cnt a ∧ (a = 0 → x = 0) := by
  have e : wd fn p = 2 := by unfold wd; rw [if_neg (by omega), if_neg (by omega), if_neg (by omega), if_neg (by omega), if_neg (by omega)]
  obtain ⟨a, x, rfl⟩ := len2 (h.1.trans e)
  have h2 := h.2.2 (by omega) (by omega)
  exact ⟨a, x, rfl, h2.1, fun hz => h2.2 hz x (by simp)⟩
theorem v6 {p s : List Int} (h : valS 6 p s) : ∃ a x y z, s = [a, x, y, z] ∧ Cnt a ∧ (a = 0 → x = 0 ∧ y = 0 ∧ z = 0) := by
  obtain ⟨a, x, y, z, rfl⟩ := len4 (h.1 : (s.length : Int) = 4)
  have h2 := h.2.2 (by omega) (by omega)
  exact ⟨a, x, y, z, rfl, h2.1, fun hz => ⟨h2.2 hz x (by simp), h2.2 hz y (by simp), h2.2 hz z (by simp)⟩⟩
theorem val_len {nm : ByteArray} {fn : Int} {p : List Int} {ks : List V} (h : okA nm fn p ks) {s : List Int} (hs : valS fn p s) : s.length ≤ 1002 := by
  have := wd_rng h
  have := hs.1
  omega
theorem s96 (nm : ByteArray) (fn : Int) (p ks : List V) (a x : Int) : d96v1 nm fn p ks x (vi [a]) = some (vi [wrapK .i64 (a + x)]) := by
  unfold d96v1
  have i : Inb 0 (lenI (vi [a])) := ⟨by omega, by rw [vi_len]; show (0 : Int) < 1; omega⟩
  rw [if_pos i, if_pos i]
  rfl
theorem s97 (nm nm' : ByteArray) (fn fn' : Int) (p ks p' ks' : List V) (a b : Int) : d97v1 nm fn p ks nm' fn' p' ks' (vi [b]) (vi [a]) = some (true, vi [wrapK .i64 (a + b)]) := by
  unfold d97v1
  have i : Inb 0 (lenI (vi [b])) := ⟨by omega, by rw [vi_len]; show (0 : Int) < 1; omega⟩
  rw [if_pos i, show gI (vi [b]) 0 0 = b from rfl, s96]
  rfl
theorem e70 : d70 = some () := rfl
open Classical in
/-- Two valid states merged. -/
theorem s53 {nm : ByteArray} {fn : Int} {p : List Int} {ks : List V} (h : okA nm fn p ks) {s t : List Int} (hs : valS fn p s) (ht : valS fn p t) : d53 nm fn (vi p) ks (vi s) (vi t) = some (if gd fn s t then (vi (mg fn s t), 0) else ([], 2)) := by
  have ls := val_len h hs
  have lt := val_len h ht
  unfold d53
  rw [s38 s (by omega), e70]
  simp only [Option.bind_some]
  rcases fn_cases h.fn with rfl | rfl | rfl | rfl | rfl | rfl | rfl | rfl | rfl
  · rw [if_pos (show Inb 1 (Int.ofNat 10) by decide), if_neg (by decide), if_pos (by decide)]
    obtain ⟨q, e⟩ := s94 nm nm 1 1 (vi p) ks (vi p) ks (s := s) (t := t) (by have := hs.1; have := ht.1; omega) (by omega) (fun x hx => by obtain ⟨a, rfl, ha⟩ := v1 hs; rw [List.mem_singleton.1 hx]; exact ha) (fun x hx => by obtain ⟨a, rfl, ha⟩ := v1 ht; rw [List.mem_singleton.1 hx]; exact ha)
    rw [e]
    have eg : gd 1 s t ↔ ∀ i, i < s.length → s.getD i 0 + t.getD i 0 ≤ 4611686018427387904 := by unfold gd; rw [if_neg (by omega), if_pos (by omega)]
    have em : mg 1 s t = List.zipWith (fun a b => a + b) s t := by unfold mg; rw [if_pos (by omega)]
    rw [em]
    by_cases hg : gd 1 s t
    · rw [if_pos (eg.1 hg), if_pos hg]; rfl
    · rw [if_neg (fun k => hg (eg.2 k)), if_neg hg]; rfl
  · rw [if_pos (show Inb 2 (Int.ofNat 10) by decide), if_neg (by decide), if_neg (by decide), if_pos (by decide)]
    obtain ⟨a, rfl⟩ := v2 hs
    obtain ⟨b, rfl⟩ := v2 ht
    rw [s97, if_pos (show gd 2 [a] [b] by unfold gd; rw [if_pos rfl]; trivial)]
    rfl
  · rw [if_pos (show Inb 3 (Int.ofNat 10) by decide), if_neg (by decide), if_neg (by decide), if_neg (by decide), if_pos (by decide)]
    obtain ⟨a, x, rfl, ha, _⟩ := v345 (by omega) hs
    obtain ⟨b, y, rfl, hb, _⟩ := v345 (by omega) ht
    obtain ⟨q, e⟩ := s99 nm nm 3 3 (vi p) ks (vi p) ks (x := x) (y := y) ha hb
    rw [e]
    have eg : gd 3 [a, x] [b, y] ↔ a + b ≤ 4611686018427387904 := by unfold gd; rw [if_neg (by omega), if_neg (by omega)]; rfl
    by_cases hg : a + b ≤ 4611686018427387904
    · rw [if_pos hg, if_pos (eg.2 hg)]; rfl
    · rw [if_neg hg, if_neg (fun k => hg (eg.1 k))]; rfl
  · rw [if_pos (show Inb 4 (Int.ofNat 10) by decide), if_neg (by decide), if_neg (by decide), if_neg (by decide), if_neg (by decide), if_pos (by decide)]
    obtain ⟨a, x, rfl, ha, _⟩ := v345 (by omega) hs
    obtain ⟨b, y, rfl, hb, _⟩ := v345 (by omega) ht
    obtain ⟨q, e⟩ := s102 nm nm 4 4 (vi p) ks (vi p) ks (x := x) (y := y) ha hb
    rw [e]
    have eg : gd 4 [a, x] [b, y] ↔ a + b ≤ 4611686018427387904 := by unfold gd; rw [if_neg (by omega), if_neg (by omega)]; rfl
    by_cases hg : a + b ≤ 4611686018427387904
    · rw [if_pos hg, if_pos (eg.2 hg)]; rfl
    · rw [if_neg hg, if_neg (fun k => hg (eg.1 k))]; rfl
  · rw [if_pos (show Inb 5 (Int.ofNat 10) by decide), if_neg (by decide), if_neg (by decide), if_neg (by decide), if_neg (by decide), if_neg (by decide), if_pos (by decide)]
    obtain ⟨a, x, rfl, ha, _⟩ := v345 (by omega) hs
    obtain ⟨b, y, rfl, hb, _⟩ := v345 (by omega) ht
    obtain ⟨q, e⟩ := s104 nm nm 5 5 (vi p) ks (vi p) ks (x := x) (y := y) ha hb
    rw [e]
    have eg : gd 5 [a, x] [b, y] ↔ a + b ≤ 4611686018427387904 := by unfold gd; rw [if_neg (by omega), if_neg (by omega)]; rfl
    by_cases hg : a + b ≤ 4611686018427387904
    · rw [if_pos hg, if_pos (eg.2 hg)]; rfl
    · rw [if_neg hg, if_neg (fun k => hg (eg.1 k))]; rfl
  · rw [if_pos (show Inb 6 (Int.ofNat 10) by decide), if_neg (by decide), if_neg (by decide), if_neg (by decide), if_neg (by decide), if_neg (by decide), if_neg (by decide), if_pos (by decide)]
    obtain ⟨a, x, y, z, rfl, ha, _⟩ := v6 hs
    obtain ⟨b, x', y', z', rfl, hb, _⟩ := v6 ht
    obtain ⟨q, e⟩ := s107 nm nm 6 6 (vi p) ks (vi p) ks (x := x) (h := y) (l := z) (y := x') (h' := y') (l' := z') ha hb
    rw [e]
    have eg : gd 6 [a, x, y, z] [b, x', y', z'] ↔ a + b ≤ 4611686018427387904 := by unfold gd; rw [if_neg (by omega), if_neg (by omega)]; rfl
    by_cases hg : a + b ≤ 4611686018427387904
    · rw [if_pos hg, if_pos (eg.2 hg)]; rfl
    · rw [if_neg hg, if_neg (fun k => hg (eg.1 k))]; rfl
  · rw [if_pos (show Inb 7 (Int.ofNat 10) by decide), if_neg (by decide), if_neg (by decide), if_neg (by decide), if_neg (by decide), if_neg (by decide), if_neg (by decide), if_neg (by decide), if_pos (by decide)]
    obtain ⟨q, e⟩ := s94 nm nm 7 7 (vi p) ks (vi p) ks (s := s) (t := t) (by have := hs.1; have := ht.1; omega) (by omega) (hs.2.1 (by omega)) (ht.2.1 (by omega))
    rw [e]
    have eg : gd 7 s t ↔ ∀ i, i < s.length → s.getD i 0 + t.getD i 0 ≤ 4611686018427387904 := by unfold gd; rw [if_neg (by omega), if_pos (by omega)]
    have em : mg 7 s t = List.zipWith (fun a b => a + b) s t := by unfold mg; rw [if_pos (by omega)]
    rw [em]
    by_cases hg : gd 7 s t
    · rw [if_pos (eg.1 hg), if_pos hg]; rfl
    · rw [if_neg (fun k => hg (eg.2 k)), if_neg hg]; rfl
  · rw [if_pos (show Inb 8 (Int.ofNat 10) by decide), if_neg (by decide), if_neg (by decide), if_neg (by decide), if_neg (by decide), if_neg (by decide), if_neg (by decide), if_neg (by decide), if_neg (by decide), if_pos (by decide)]
    obtain ⟨q, e⟩ := s94 nm nm 8 8 (vi p) ks (vi p) ks (s := s) (t := t) (by have := hs.1; have := ht.1; omega) (by omega) (hs.2.1 (by omega)) (ht.2.1 (by omega))
    rw [e]
    have eg : gd 8 s t ↔ ∀ i, i < s.length → s.getD i 0 + t.getD i 0 ≤ 4611686018427387904 := by unfold gd; rw [if_neg (by omega), if_pos (by omega)]
    have em : mg 8 s t = List.zipWith (fun a b => a + b) s t := by unfold mg; rw [if_pos (by omega)]
    rw [em]
    by_cases hg : gd 8 s t
    · rw [if_pos (eg.1 hg), if_pos hg]; rfl
    · rw [if_neg (fun k => hg (eg.2 k)), if_neg hg]; rfl
  · rw [if_pos (show Inb 9 (Int.ofNat 10) by decide), if_neg (by decide), if_neg (by decide), if_neg (by decide), if_neg (by decide), if_neg (by decide), if_neg (by decide), if_neg (by decide), if_neg (by decide), if_neg (by decide)]
    obtain ⟨q, e⟩ := s94 nm nm 9 9 (vi p) ks (vi p) ks (s := s) (t := t) (by have := hs.1; have := ht.1; omega) (by omega) (hs.2.1 (by omega)) (ht.2.1 (by omega))
    rw [e]
    have eg : gd 9 s t ↔ ∀ i, i < s.length → s.getD i 0 + t.getD i 0 ≤ 4611686018427387904 := by unfold gd; rw [if_neg (by omega), if_pos (by omega)]
    have em : mg 9 s t = List.zipWith (fun a b => a + b) s t := by unfold mg; rw [if_pos (by omega)]
    rw [em]
    by_cases hg : gd 9 s t
    · rw [if_pos (eg.1 hg), if_pos hg]; rfl
    · rw [if_neg (fun k => hg (eg.2 k)), if_neg hg]; rfl
theorem s24 (nm : ByteArray) (fn : Int) (p : List Int) (ks : List V) (hp : ∀ x ∈ p, I64 x) (s t : List Int) (hs : s.length ≤ 9223372036854775807) (ht : t.length ≤ 9223372036854775807) :
    d24 nm fn (vi p) ks (vi s) (vi t) = some (if chkS nm fn p ks s = 0 then (if chkS nm fn p ks t = 0 then (if gd fn s t then (vi (mg fn s t), 0) else ([], 2)) else ([], chkS nm fn p ks t)) else ([], chkS nm fn p ks s)) := by
  unfold d24
  rw [s37_2 nm fn p ks hp s t hs ht]
  simp only [Option.bind_some, c_neq]
  by_cases h1 : chkS nm fn p ks s = 0
  · rw [if_pos h1, if_pos h1]
    by_cases h2 : chkS nm fn p ks t = 0
    · rw [if_pos h2, nif h2]
      have hA : okA nm fn p ks := by
        unfold chkS at h1
        apply Classical.byContradiction
        intro h
        rw [if_neg h] at h1; omega
      have v : ∀ l, chkS nm fn p ks l = 0 → valS fn p l := by
        intro l h
        unfold chkS at h
        apply Classical.byContradiction
        intro hv
        rw [if_pos hA, if_neg hv] at h; omega
      rw [s53 hA (v s h1) (v t h2)]
      rfl
    · rw [if_neg h2, nif' h2]
  · rw [if_neg h1, if_neg h1, nif' h1]
theorem chk0 {nm : ByteArray} {fn : Int} {p : List Int} {ks : List V} {s : List Int} : chkS nm fn p ks s = 0 ↔ okA nm fn p ks ∧ valS fn p s := by
  unfold chkS
  by_cases h1 : okA nm fn p ks
  · rw [if_pos h1]
    by_cases h2 : valS fn p s
    · rw [if_pos h2]; exact ⟨fun _ => ⟨h1, h2⟩, fun _ => rfl⟩
    · rw [if_neg h2]; exact ⟨fun h => by omega, fun h => (h2 h.2).elim⟩
  · rw [if_neg h1]; exact ⟨fun h => by omega, fun h => (h1 h.1).elim⟩
open Classical in
/-- SameInts. -/
theorem s17 (s t : List Int) (hs : s.length ≤ 9223372036854775807) : d17 (vi s) (vi t) = some (decide (s = t)) := by
  unfold d17
  rw [lenI_vi, lenI_vi, c_neq]
  by_cases hl : (s.length : Int) = t.length
  · rw [nif hl]
    have go : ∀ j : Nat, (hj : j < s.length) → (hk : j < t.length) → s[j] = t[j] → d17_b1 (vi s) (vi t) (j : Int) = some (.inl ((j + 1 : Nat) : Int)) := by
      intro j hj hk hP
      unfold d17_b1
      rw [lenI_vi, lenI_vi, if_pos (lt_i hj), if_pos (inb_i hj), if_pos (inb_i hk), gI_vi _ _ hj, gI_vi _ _ hk, succ_i hj hs, c_neq]
      exact nif (p := s[j] = t[j]) hP
    rw [show (0 : Int) = ((0 : Nat) : Int) from rfl]
    rcases first_bad (fun i => ∀ h : i < s.length, ∀ h' : i < t.length, s[i] = t[i]) s.length with h | ⟨i, hi, hb, hlt⟩
    · have hall : s = t := List.ext_getElem (by omega) (fun i h1 h2 => h i h1 h1 h2)
      have hI : iter (d17_b1 (vi s) (vi t)) ((0 : Nat) : Int) = some (.inr ()) := by
        refine scan (d17_b1 (vi s) (vi t)) (fun j => (j : Int)) (Nat.zero_le _) (fun j _ hj => go j hj (by omega) (h j hj hj (by omega))) ?_
        unfold d17_b1
        rw [lenI_vi, if_neg (nlt_i _)]
      rw [hI]
      exact someD (p := True) ⟨fun _ => hall, fun _ => trivial⟩
    · have hit : i < t.length := by omega
      have hb' : ¬ s[i] = t[i] := fun h => hb (fun _ _ => h)
      have hI : iter (d17_b1 (vi s) (vi t)) ((0 : Nat) : Int) = some (.inl false) := by
        refine scan (d17_b1 (vi s) (vi t)) (fun j => (j : Int)) (Nat.zero_le i) (fun j _ hj => go j (by omega) (by omega) (hlt j hj (by omega) (by omega))) ?_
        unfold d17_b1
        rw [lenI_vi, lenI_vi, if_pos (lt_i hi), if_pos (inb_i hi), if_pos (inb_i hit), gI_vi _ _ hi, gI_vi _ _ hit, c_neq]
        exact nif' (p := s[i] = t[i]) hb'
      rw [hI]
      exact someF (fun h => hb' (by subst h; rfl))
  · rw [nif' hl]
    exact someF (fun h => hl (by rw [h]))
/-- Zeros. -/
def zer (fn : Int) (p : List Int) : List Int := List.replicate (wd fn p).toNat 0
theorem s18 (nm : ByteArray) (fn : Int) (p : List Int) (ks : List V) (hp : ∀ x ∈ p, I64 x) : d18 nm fn (vi p) ks = some (if okA nm fn p ks then (vi (zer fn p), 0) else ([], 210)) := by
  unfold d18
  rw [s22 nm fn p ks hp]
  simp only [Option.bind_some, c_neq]
  by_cases h : okA nm fn p ks
  · have := wd_rng h
    rw [if_pos h, if_pos h, nif rfl, s34 h]
    simp only [Option.bind_some]
    rw [if_pos (show Ge0 (wd fn p) by unfold Ge0; omega), if_pos (show Room (wd fn p) 8 from ⟨by omega, by omega⟩)]
    unfold repL zer vi
    rw [List.map_replicate]
  · rw [if_neg h, if_neg h, nif' (by omega)]
theorem zer_val {nm : ByteArray} {fn : Int} {p : List Int} {ks : List V} (h : okA nm fn p ks) : valS fn p (zer fn p) := by
  have hw := wd_rng h
  unfold valS zer
  refine ⟨by rw [List.length_replicate]; omega, fun _ x hx => ?_, fun _ _ => ⟨?_, fun _ x hx => List.eq_of_mem_replicate hx⟩⟩
  · rw [List.eq_of_mem_replicate hx]; exact ⟨by omega, by omega⟩
  · rw [getD_get (by rw [List.length_replicate]; omega), List.getElem_replicate]; exact ⟨by omega, by omega⟩
end Go.Proofs.Ytmofhbedamjblaa
end
section
namespace Go.Proofs.Ytmofhbedamjblaa
open Go.Ab Go.RowKit
set_option maxRecDepth 100000

theorem pick3_comm {a x b y : Int} (ha : 0 ≤ a) (hb : 0 ≤ b) (hx : a = 0 → x = 0) (hy : b = 0 → y = 0) : pick 3 a x b y = pick 3 b y a x := by
  unfold pick
  rw [if_pos rfl, if_pos rfl]
  split <;> split <;> omega
theorem pick4_eq (a x b y : Int) : pick 4 a x b y = (if 0 < b ∧ (a = 0 ∨ y > x) then y else x) := by
  unfold pick
  rw [if_neg (by omega), if_pos rfl]
theorem pick5_eq (a x b y : Int) : pick 5 a x b y = wrapK .i64 (x + y) := by
  unfold pick
  rw [if_neg (by omega), if_neg (by omega)]
theorem pick4_comm {a x b y : Int} (ha : 0 ≤ a) (hb : 0 ≤ b) (hx : a = 0 → x = 0) (hy : b = 0 → y = 0) : pick 4 a x b y = pick 4 b y a x := by
  rw [pick4_eq, pick4_eq]
  split <;> split <;> omega
theorem pick_comm {fn a x b y : Int} (hf : 3 ≤ fn ∧ fn ≤ 5) (ha : 0 ≤ a) (hb : 0 ≤ b) (hx : a = 0 → x = 0) (hy : b = 0 → y = 0) : pick fn a x b y = pick fn b y a x := by
  rcases (show fn = 3 ∨ fn = 4 ∨ fn = 5 by omega) with rfl | rfl | rfl
  · exact pick3_comm ha hb hx hy
  · exact pick4_comm ha hb hx hy
  · rw [pick5_eq, pick5_eq, Int.add_comm]
theorem wrap_assoc (x y z : Int) : wrapK .i64 (wrapK .i64 (x + y) + z) = wrapK .i64 (x + wrapK .i64 (y + z)) := by
  rw [wk_i64, wk_i64, wk_i64, wk_i64]; omega
theorem pick_assoc {fn a x b y c z : Int} (hf : 3 ≤ fn ∧ fn ≤ 5) (ha : 0 ≤ a) (hb : 0 ≤ b) (hc : 0 ≤ c) (hx : a = 0 → x = 0) (hy : b = 0 → y = 0) (hz : c = 0 → z = 0) : pick fn (a + b) (pick fn a x b y) c z = pick fn a x (b + c) (pick fn b y c z) := by
  rcases (show fn = 3 ∨ fn = 4 ∨ fn = 5 by omega) with rfl | rfl | rfl
  · unfold pick
    simp only [if_true]
    repeat' split
    all_goals omega
  · simp only [pick4_eq]
    repeat' split
    all_goals omega
  · rw [pick5_eq, pick5_eq, pick5_eq, pick5_eq, wrap_assoc]
theorem pick_zero {fn a x : Int} (hf : 3 ≤ fn ∧ fn ≤ 5) (ha : 0 ≤ a) (hx : I64 x) : pick fn a x 0 0 = x := by
  rcases (show fn = 3 ∨ fn = 4 ∨ fn = 5 by omega) with rfl | rfl | rfl
  · unfold pick
    rw [if_pos rfl, if_neg (by omega)]
  · rw [pick4_eq, if_neg (by omega)]
  · rw [pick5_eq, Int.add_zero, wk_i hx]
theorem pick_i {fn a x b y : Int} (hx : I64 x) (hy : I64 y) : I64 (pick fn a x b y) := by
  unfold pick
  split
  · split <;> assumption
  · split
    · split <;> assumption
    · rw [wk_i64]; exact ⟨by omega, by omega⟩
theorem pick_z {fn a x b y : Int} (hx : x = 0) (hy : y = 0) : pick fn a x b y = 0 := by
  subst hx hy
  unfold pick
  split
  · split <;> rfl
  · split
    · split <;> rfl
    · rw [wk_i64]; omega
def M128 (n : Int) : Prop := 0 ≤ n ∧ n < 340282366920938463463374607431768211456
theorem sq2_r (h l h' l' : Int) : M128 (sq2 h l h' l') := by unfold sq2; exact ⟨by omega, by omega⟩
theorem uw_hi {n : Int} (h : M128 n) : W2 (wrapK .u64 (hi2 n)) (wrapK .u64 (lo2 n)) = n := by
  obtain ⟨h0, h1⟩ := h
  unfold hi2 lo2 W2
  rw [wk_u64, wk_u64, wk_i64, wk_i64]
  omega
theorem hi2_i (n : Int) : I64 (hi2 n) := by unfold hi2; rw [wk_i64]; exact ⟨by omega, by omega⟩
theorem lo2_i (n : Int) : I64 (lo2 n) := by unfold lo2; rw [wk_i64]; exact ⟨by omega, by omega⟩
theorem sq2_comm (h l h' l' : Int) : sq2 h l h' l' = sq2 h' l' h l := by unfold sq2; rw [Int.add_comm]
theorem sq2_assoc (h l h' l' h'' l'' : Int) : sq2 (hi2 (sq2 h l h' l')) (lo2 (sq2 h l h' l')) h'' l'' = sq2 h l (hi2 (sq2 h' l' h'' l'')) (lo2 (sq2 h' l' h'' l'')) := by
  have e1 := uw_hi (sq2_r h l h' l')
  have e2 := uw_hi (sq2_r h' l' h'' l'')
  unfold sq2 at *
  rw [e1, e2]
  omega
theorem sq2_zero {h l : Int} (hh : I64 h) (hl : I64 l) : hi2 (sq2 h l 0 0) = h ∧ lo2 (sq2 h l 0 0) = l := by
  obtain ⟨a, b⟩ := hh
  obtain ⟨c, d⟩ := hl
  unfold sq2 hi2 lo2 W2
  rw [wk_u64, wk_u64, wk_u64, wk_i64, wk_i64]
  constructor <;> omega

theorem gd_comm {fn : Int} {s t : List Int} (h : s.length = t.length) : gd fn s t ↔ gd fn t s := by
  unfold gd
  by_cases h1 : fn = 2
  · rw [if_pos h1, if_pos h1]
  · rw [if_neg h1, if_neg h1]
    by_cases h2 : fn = 1 ∨ 7 ≤ fn
    · rw [if_pos h2, if_pos h2, h]
      constructor
      · intro k i hi; have := k i hi; omega
      · intro k i hi; have := k i hi; omega
    · rw [if_neg h2, if_neg h2, Int.add_comm]
theorem val_eq {fn : Int} {p s t : List Int} (hs : valS fn p s) (ht : valS fn p t) : s.length = t.length := by
  have := hs.1; have := ht.1; omega
theorem zip_comm {f : Int → Int → Int} (hf : ∀ a b, f a b = f b a) : ∀ s t : List Int, List.zipWith f s t = List.zipWith f t s
  | [], [] => rfl
  | [], _ :: _ => rfl
  | _ :: _, [] => rfl
  | a :: s, b :: t => by simp only [List.zipWith_cons_cons]; rw [hf, zip_comm hf]
theorem zip_assoc {f : Int → Int → Int} (hf : ∀ a b c, f (f a b) c = f a (f b c)) : ∀ s t u : List Int, List.zipWith f (List.zipWith f s t) u = List.zipWith f s (List.zipWith f t u)
  | [], t, u => by simp
  | _ :: _, [], u => by simp
  | _ :: _, _ :: _, [] => by simp
  | a :: s, b :: t, c :: u => by simp only [List.zipWith_cons_cons]; rw [hf, zip_assoc hf]
theorem mg_c {fn : Int} (h : fn = 1 ∨ 7 ≤ fn) (s t : List Int) : mg fn s t = List.zipWith (fun a b => a + b) s t := by unfold mg; rw [if_pos h]
theorem mg_2 (s t : List Int) : mg 2 s t = List.zipWith (fun a b => wrapK .i64 (a + b)) s t := by unfold mg; rw [if_neg (by omega), if_pos rfl]
theorem mg_p {fn : Int} (h : 3 ≤ fn ∧ fn ≤ 5) (a x b y : Int) : mg fn [a, x] [b, y] = [a + b, pick fn a x b y] := by
  unfold mg; rw [if_neg (by omega), if_neg (by omega)]
theorem mg_6 (a x h l b y h' l' : Int) : mg 6 [a, x, h, l] [b, y, h', l'] = [a + b, wrapK .i64 (x + y), hi2 (sq2 h l h' l'), lo2 (sq2 h l h' l')] := by
  unfold mg; rw [if_neg (by omega), if_neg (by omega)]
theorem gd_c {fn : Int} (h : fn = 1 ∨ 7 ≤ fn) (s t : List Int) : gd fn s t ↔ ∀ i, i < s.length → s.getD i 0 + t.getD i 0 ≤ 4611686018427387904 := by unfold gd; rw [if_neg (by omega), if_pos h]
theorem gd_p {fn : Int} (h : 3 ≤ fn ∧ fn ≤ 6) (s t : List Int) : gd fn s t ↔ s.getD 0 0 + t.getD 0 0 ≤ 4611686018427387904 := by unfold gd; rw [if_neg (by omega), if_neg (by omega)]
theorem gd_2 (s t : List Int) : gd 2 s t := by unfold gd; rw [if_pos rfl]; trivial
theorem fn4 {fn : Int} (h : 1 ≤ fn ∧ fn ≤ 9) : (fn = 1 ∨ 7 ≤ fn) ∨ fn = 2 ∨ (3 ≤ fn ∧ fn ≤ 5) ∨ fn = 6 := by omega
theorem val_c {fn : Int} (h : fn = 1 ∨ 7 ≤ fn) {p s : List Int} (hs : valS fn p s) : ∀ x ∈ s, Cnt x := by
  rcases h with rfl | h
  · obtain ⟨a, rfl, ha⟩ := v1 hs
    intro x hx
    rw [List.mem_singleton.1 hx]; exact ha
  · exact hs.2.1 h
theorem mg_comm {fn : Int} {p s t : List Int} (hf : 1 ≤ fn ∧ fn ≤ 9) (hs : valS fn p s) (ht : valS fn p t) : mg fn s t = mg fn t s := by
  rcases fn4 hf with h | rfl | h | rfl
  · rw [mg_c h, mg_c h]; exact zip_comm (fun a b => Int.add_comm a b) s t
  · rw [mg_2, mg_2]; exact zip_comm (fun a b => by rw [Int.add_comm]) s t
  · obtain ⟨a, x, rfl, ha, hx⟩ := v345 h hs
    obtain ⟨b, y, rfl, hb, hy⟩ := v345 h ht
    rw [mg_p h, mg_p h, pick_comm h ha.1 hb.1 hx hy, Int.add_comm]
  · obtain ⟨a, x, y, z, rfl, ha, hx⟩ := v6 hs
    obtain ⟨b, x', y', z', rfl, hb, hx'⟩ := v6 ht
    rw [mg_6, mg_6, sq2_comm, Int.add_comm a, Int.add_comm x]
theorem gd_assoc {fn : Int} {p s t u : List Int} (hf : 1 ≤ fn ∧ fn ≤ 9) (hs : valS fn p s) (ht : valS fn p t) (hu : valS fn p u) : (gd fn s t ∧ gd fn (mg fn s t) u) → gd fn s (mg fn t u) := by
  rintro ⟨h1, h2⟩
  have l1 := val_eq hs ht
  have l2 := val_eq ht hu
  rcases fn4 hf with h | rfl | h | rfl
  · rw [gd_c h] at *
    rw [mg_c h] at *
    intro i hi
    have := h2 i (by rw [List.length_zipWith]; omega)
    rw [getD_get (by rw [List.length_zipWith]; omega), List.getElem_zipWith, getD_get (by omega)] at this
    rw [getD_get hi, getD_get (by rw [List.length_zipWith]; omega), List.getElem_zipWith]
    omega
  · exact gd_2 _ _
  · obtain ⟨a, x, rfl, ha, hx⟩ := v345 h hs
    obtain ⟨b, y, rfl, hb, hy⟩ := v345 h ht
    obtain ⟨c, z, rfl, hc, hz⟩ := v345 h hu
    rw [gd_p (by omega)] at *
    rw [mg_p h] at *
    have h2 : a + b + c ≤ 4611686018427387904 := h2
    show a + (b + c) ≤ 4611686018427387904
    omega
  · obtain ⟨a, x, y, z, rfl, ha, hx⟩ := v6 hs
    obtain ⟨b, x', y', z', rfl, hb, hx'⟩ := v6 ht
    obtain ⟨c, x'', y'', z'', rfl, hc, hx''⟩ := v6 hu
    rw [gd_p (by omega)] at *
    rw [mg_6] at *
    have h2 : a + b + c ≤ 4611686018427387904 := h2
    show a + (b + c) ≤ 4611686018427387904
    omega
theorem mg_assoc {fn : Int} {p s t u : List Int} (hf : 1 ≤ fn ∧ fn ≤ 9) (hs : valS fn p s) (ht : valS fn p t) (hu : valS fn p u) : mg fn (mg fn s t) u = mg fn s (mg fn t u) := by
  rcases fn4 hf with h | rfl | h | rfl
  · rw [mg_c h, mg_c h, mg_c h, mg_c h]; exact zip_assoc (fun a b c => Int.add_assoc a b c) s t u
  · rw [mg_2, mg_2, mg_2, mg_2]; exact zip_assoc (fun a b c => wrap_assoc a b c) s t u
  · obtain ⟨a, x, rfl, ha, hx⟩ := v345 h hs
    obtain ⟨b, y, rfl, hb, hy⟩ := v345 h ht
    obtain ⟨c, z, rfl, hc, hz⟩ := v345 h hu
    rw [mg_p h, mg_p h, mg_p h, mg_p h, pick_assoc h ha.1 hb.1 hc.1 hx hy hz, Int.add_assoc]
  · obtain ⟨a, x, y, z, rfl, ha, hx⟩ := v6 hs
    obtain ⟨b, x', y', z', rfl, hb, hx'⟩ := v6 ht
    obtain ⟨c, x'', y'', z'', rfl, hc, hx''⟩ := v6 hu
    rw [mg_6, mg_6, mg_6, mg_6, sq2_assoc, wrap_assoc, Int.add_assoc]
theorem zip_zero : ∀ (s : List Int) (n : Nat), s.length = n → List.zipWith (fun a b => a + b) s (List.replicate n 0) = s
  | [], n, h => by simp
  | a :: s, 0, h => by simp at h
  | a :: s, n + 1, h => by
    rw [List.replicate_succ, List.zipWith_cons_cons, zip_zero s n (by simpa using h), Int.add_zero]
theorem zer_c (fn : Int) (p : List Int) : ∀ i, (zer fn p).getD i 0 = 0 := by
  intro i
  unfold zer
  rw [List.getD_eq_getElem?_getD, List.getElem?_replicate]
  split <;> rfl
theorem mg_zero {fn : Int} {p s : List Int} (hf : 1 ≤ fn ∧ fn ≤ 9) (hs : valS fn p s) (hi : ∀ x ∈ s, I64 x) : gd fn s (zer fn p) ∧ mg fn s (zer fn p) = s := by
  rcases fn4 hf with h | rfl | h | rfl
  · refine ⟨(gd_c h _ _).2 (fun i hl => ?_), ?_⟩
    · rw [zer_c, getD_get hl]
      have := (val_c h hs _ (List.getElem_mem hl)).2
      omega
    · rw [mg_c h]
      exact zip_zero s _ (by have := hs.1; omega)
  · obtain ⟨a, rfl⟩ := v2 hs
    refine ⟨gd_2 _ _, ?_⟩
    rw [mg_2]
    show [wrapK .i64 (a + 0)] = [a]
    rw [Int.add_zero, wk_i (hi a (by simp))]
  · obtain ⟨a, x, rfl, ha, hx⟩ := v345 h hs
    have ez : zer fn p = [0, 0] := by
      unfold zer wd
      rw [if_neg (by omega), if_neg (by omega), if_neg (by omega), if_neg (by omega), if_neg (by omega)]; rfl
    refine ⟨(gd_p (by omega) _ _).2 ?_, ?_⟩
    · rw [zer_c]; have := ha.2; show a + 0 ≤ _; omega
    · rw [ez, mg_p h, pick_zero h ha.1 (hi x (by simp)), Int.add_zero]
  · obtain ⟨a, x, y, z, rfl, ha, hx⟩ := v6 hs
    refine ⟨(gd_p (by omega) _ _).2 ?_, ?_⟩
    · rw [zer_c]; have := ha.2; show a + 0 ≤ _; omega
    · have ez : zer 6 p = [0, 0, 0, 0] := rfl
      have e := sq2_zero (hi y (by simp)) (hi z (by simp))
      rw [ez, mg_6, e.1, e.2, Int.add_zero, Int.add_zero, wk_i (hi x (by simp))]
theorem mg_val {fn : Int} {p s t : List Int} (hf : 1 ≤ fn ∧ fn ≤ 9) (hs : valS fn p s) (ht : valS fn p t) (hg : gd fn s t) : valS fn p (mg fn s t) := by
  have l1 := val_eq hs ht
  rcases fn4 hf with h | rfl | h | rfl
  · rw [gd_c h] at hg
    rw [mg_c h]
    have hc : ∀ x ∈ List.zipWith (fun a b => a + b) s t, Cnt x := by
      intro x hx
      obtain ⟨i, hi, rfl⟩ := List.getElem_of_mem hx
      rw [List.length_zipWith] at hi
      have h1 : i < s.length := by omega
      have h2 : i < t.length := by omega
      have := hg i h1
      rw [getD_get h1, getD_get h2] at this
      have c1 := val_c h hs _ (List.getElem_mem h1)
      have c2 := val_c h ht _ (List.getElem_mem h2)
      rw [List.getElem_zipWith]
      exact ⟨by have := c1.1; have := c2.1; omega, this⟩
    refine ⟨by rw [List.length_zipWith]; have := hs.1; omega, fun _ => hc, fun h1 h2 => ?_⟩
    obtain rfl : fn = 1 := by omega
    obtain ⟨a, rfl, ha⟩ := v1 hs
    obtain ⟨b, rfl, hb⟩ := v1 ht
    exact ⟨hc _ (by simp), fun hz x hx => by rw [List.mem_singleton.1 hx]; exact hz⟩
  · obtain ⟨a, rfl⟩ := v2 hs
    obtain ⟨b, rfl⟩ := v2 ht
    exact ⟨rfl, fun h => by omega, fun h => (h rfl).elim⟩
  · have hl := hs.1
    obtain ⟨a, x, rfl, ha, hx⟩ := v345 h hs
    obtain ⟨b, y, rfl, hb, hy⟩ := v345 h ht
    rw [gd_p (by omega)] at hg
    rw [mg_p h]
    refine ⟨hl, fun h7 => by omega, fun _ _ => ⟨⟨?_, hg⟩, fun hz z hz2 => ?_⟩⟩
    · have := ha.1; have := hb.1; show 0 ≤ a + b; omega
    · have hz : a + b = 0 := hz
      have := ha.1; have := hb.1
      rcases List.mem_cons.1 hz2 with rfl | h3
      · exact hz
      · rw [List.mem_singleton.1 h3]
        exact pick_z (hx (by omega)) (hy (by omega))
  · obtain ⟨a, x, y, z, rfl, ha, hx⟩ := v6 hs
    obtain ⟨b, x', y', z', rfl, hb, hx'⟩ := v6 ht
    rw [gd_p (by omega)] at hg
    rw [mg_6]
    refine ⟨rfl, fun h7 => by omega, fun _ _ => ⟨⟨?_, hg⟩, fun hz w hz2 => ?_⟩⟩
    · have := ha.1; have := hb.1; show 0 ≤ a + b; omega
    · have hz : a + b = 0 := hz
      have := ha.1; have := hb.1
      obtain ⟨rfl, rfl, rfl⟩ := hx (by omega)
      obtain ⟨rfl, rfl, rfl⟩ := hx' (by omega)
      obtain rfl : a = 0 := by omega
      obtain rfl : b = 0 := by omega
      revert w hz2
      decide
theorem mg_i {fn : Int} {p s t : List Int} (hf : 1 ≤ fn ∧ fn ≤ 9) (hs : valS fn p s) (ht : valS fn p t) (hg : gd fn s t) (is : ∀ x ∈ s, I64 x) (it : ∀ x ∈ t, I64 x) : ∀ x ∈ mg fn s t, I64 x := by
  have hv := mg_val hf hs ht hg
  have ci : ∀ x, Cnt x → I64 x := fun x h => ⟨by have := h.1; omega, by have := h.2; omega⟩
  rcases fn4 hf with h | rfl | h | rfl
  · intro x hx; exact ci x (val_c h hv x hx)
  · obtain ⟨a, rfl⟩ := v2 hs
    obtain ⟨b, rfl⟩ := v2 ht
    intro x hx
    rw [mg_2] at hx
    rw [List.mem_singleton.1 hx]
    show I64 (wrapK .i64 (a + b))
    rw [wk_i64]; exact ⟨by omega, by omega⟩
  · obtain ⟨a, x, rfl, ha, hx⟩ := v345 h hs
    obtain ⟨b, y, rfl, hb, hy⟩ := v345 h ht
    have c0 := (hv.2.2 (by omega) (by omega)).1
    rw [mg_p h] at c0 ⊢
    intro z hz
    rcases List.mem_cons.1 hz with rfl | h3
    · exact ci _ c0
    · rw [List.mem_singleton.1 h3]
      exact pick_i (is x (by simp)) (it y (by simp))
  · obtain ⟨a, x, y, z, rfl, ha, hx⟩ := v6 hs
    obtain ⟨b, x', y', z', rfl, hb, hx'⟩ := v6 ht
    have c0 := (hv.2.2 (by omega) (by omega)).1
    rw [mg_6] at c0 ⊢
    intro w hw
    simp only [List.mem_cons, List.not_mem_nil, or_false] at hw
    rcases hw with rfl | rfl | rfl | rfl
    · exact ci _ c0
    · rw [wk_i64]; exact ⟨by omega, by omega⟩
    · exact hi2_i _
    · exact lo2_i _
end Go.Proofs.Ytmofhbedamjblaa
end
section
namespace Go.Proofs.Ytmofhbedamjblaa
open Go.Ab Go.RowKit
set_option maxRecDepth 100000

/-- The number of binary digits. -/
noncomputable def bl (a : Int) : Int := (d63 a).getD 0
theorem s63' {a : Int} (h : U64 a) : d63 a = some (bl a) ∧ Len a (bl a) := by
  obtain ⟨k, e, hk⟩ := s63 h
  unfold bl
  rw [e]
  exact ⟨rfl, hk⟩
theorem two_mono {m n : Nat} (h : m ≤ n) : (2 : Int) ^ m ≤ 2 ^ n := pow_mono (by omega) h
theorem Len.uniq {a k k' : Int} (h : Len a k) (h' : Len a k') : k = k' := by
  have key : ∀ {k k' : Int}, Len a k → Len a k' → ¬ k < k' := by
    intro k k' h h' hlt
    obtain ⟨k0, k1, k2, k3⟩ := h
    obtain ⟨j0, j1, j2, j3⟩ := h'
    have := j3 (by omega)
    have := two_mono (show k.toNat ≤ k'.toNat - 1 by omega)
    omega
  have := key h h'
  have := key h' h
  omega
theorem Len.bl {a k : Int} (ha : U64 a) (h : Len a k) : bl a = k := (s63' ha).2.uniq h

/-- The bucket. -/
noncomputable def bk (fn : Int) (p : List Int) (v : Int) : Int := (d32 (ByteArray.mk #[]) fn (vi p) [] v).getD 0
theorem bk_of {nm : ByteArray} {fn : Int} {p : List Int} {ks : List V} {v r : Int} (h : d32 nm fn (vi p) ks v = some r) : bk fn p v = r := by
  unfold bk
  rw [show d32 (ByteArray.mk #[]) fn (vi p) [] v = d32 nm fn (vi p) ks v from rfl, h]
  rfl
theorem s32_7 {nm : ByteArray} {ks : List V} {v : Int} (hv : I64 v) : d32 nm 7 (vi []) ks v = some (if 0 ≤ v then 63 + bl v else (if 63 - bl (-v) > 0 then 63 - bl (-v) else 0)) := by
  obtain ⟨v0, v1⟩ := hv
  unfold d32
  rw [show d34 nm 7 (vi []) ks = some 127 from rfl]
  simp only [Option.bind_some]
  rw [if_pos (by decide), c_geq]
  by_cases h : 0 ≤ v
  · have hu : U64 v := ⟨h, by omega⟩
    rw [yif h, if_pos h, wk_u hu, (s63' hu).1]
    simp only [Option.bind_some]
    obtain ⟨b0, b1, _⟩ := (s63' hu).2
    rw [ar_add' ⟨by omega, by omega⟩]
  · have hu : U64 (-v) := ⟨by omega, by omega⟩
    have e : unReal .neg .u64 (wrapK .u64 v) = -v := by
      show wrapK .u64 (0 - wrapK .u64 v) = -v
      rw [wk_u64, wk_u64]; omega
    rw [yif' h, if_neg h, e, (s63' hu).1]
    simp only [Option.bind_some]
    obtain ⟨b0, b1, _⟩ := (s63' hu).2
    rw [ar_sub' ⟨by omega, by omega⟩]
    rfl
theorem lin_q {a b c v : Int} (ha : -4611686018427387904 ≤ a) (hb : b ≤ 4611686018427387904) (h1 : a ≤ v) (h2 : v < b) (hc : 1 ≤ c) (hc2 : c ≤ 4611686018427387904) : arReal .quo .u64 (arReal .sub .u64 (wrapK .u64 v) (wrapK .u64 a)) (wrapK .u64 c) = (v - a) / c ∧ 0 ≤ (v - a) / c ∧ (v - a) / c < stp a b c := by
  have e : arReal .sub .u64 (wrapK .u64 v) (wrapK .u64 a) = v - a := by rw [ar_subu, wk_u64, wk_u64, wk_u64]; omega
  rw [e, wk_u (a := c) ⟨by omega, by omega⟩, ar_quou (by omega) (by omega) (by omega)]
  refine ⟨rfl, Int.ediv_nonneg (by omega) (by omega), ?_⟩
  have : (v - a) / c + 1 ≤ stp a b c := by
    unfold stp
    rw [show (v - a) / c + 1 = (v - a + c) / c by rw [Int.add_ediv_of_dvd_right (Int.dvd_refl c), Int.ediv_self (by omega)]]
    exact Int.ediv_le_ediv (by omega) (by omega)
  omega
theorem s32_8 {nm : ByteArray} {a b c : Int} {ks : List V} {v : Int} (h : okA nm 8 [a, b, c] ks) (hv : I64 v) : d32 nm 8 (vi [a, b, c]) ks v = some (if v < a then 0 else if v ≥ b then stp a b c + 1 else 1 + (v - a) / c) := by
  obtain ⟨a', b', c', e, h1, h2, h3, h4, h5, h6⟩ := h.2.2.2.2.2.1.lin
  simp only [List.cons.injEq, and_true] at e
  obtain ⟨rfl, rfl, rfl⟩ := e
  have s0 := (s65 h3 h5 h4 h1 h2).2.1
  unfold d32
  rw [s34 h, wd8]
  simp only [Option.bind_some]
  rw [if_neg (by decide), if_pos (by decide)]
  simp only [iv30, iv31, iv32, ↓reduceIte, g30, g31, g32, c_lss, c_geq]
  by_cases q1 : v < a
  · rw [yif q1, if_pos q1]
  · rw [yif' q1, if_neg q1]
    by_cases q2 : v ≥ b
    · rw [yif q2, if_pos q2, ar_sub' ⟨by omega, by omega⟩]
      congr 1; omega
    · rw [yif' q2, if_neg q2]
      have hq := lin_q h3 h5 (by omega) (by omega) h1 h2 (v := v)
      rw [if_pos (show Ne0 (wrapK .u64 c) by rw [wk_u ⟨by omega, by omega⟩]; unfold Ne0; omega), hq.1, wk_i ⟨by omega, by omega⟩, ar_add' ⟨by omega, by omega⟩]
/-- The exponent of a value. -/
theorem expo {f v : Int} {L H : Nat} (hf : 2 ≤ f) (hLH : L ≤ H) (h1 : f ^ L ≤ v) (h2 : v < f ^ (H + 1)) : ∃ m : Nat, L ≤ m ∧ m ≤ H ∧ f ^ m ≤ v ∧ v < f ^ (m + 1) ∧ ∀ j, L ≤ j → j < m → f ^ (j + 1) ≤ v := by
  rcases first_bad (fun i => f ^ (L + i + 1) ≤ v) (H - L + 1) with h | ⟨i, hi, hb, hlt⟩
  · have := h (H - L) (by omega)
    rw [show L + (H - L) + 1 = H + 1 by omega] at this
    omega
  · refine ⟨L + i, by omega, by omega, ?_, by have hb : ¬ f ^ (L + i + 1) ≤ v := hb; omega, ?_⟩
    · rcases Nat.eq_zero_or_pos i with rfl | h0
      · exact h1
      · have := hlt (i - 1) (by omega)
        rw [show L + (i - 1) + 1 = L + i by omega] at this
        exact this
    · intro j hj1 hj2
      have := hlt (j - L) (by omega)
      rw [show L + (j - L) + 1 = j + 1 by omega] at this
      exact this
theorem pw_small {f : Int} {n H : Nat} (hf : 2 ≤ f) (hn : n ≤ H) (hM : f ^ H ≤ 4611686018427387904) : pw f (n : Int) = f ^ n := by
  have := pow_mono (show 1 ≤ f by omega) hn
  unfold pw
  rw [Int.toNat_natCast, if_pos (by omega)]
theorem s35_small {f : Int} {n H : Nat} (hf : 2 ≤ f) (hf2 : f ≤ 100) (hn : n ≤ H) (hM : f ^ H ≤ 4611686018427387904) (hH : H ≤ 100) : d35 f (n : Int) = some (f ^ n) := by
  rw [s35 (by omega) (by omega) (by omega) (by omega), pw_small hf hn hM]
theorem s64 {f st v : Int} {L H : Nat} (hf : 2 ≤ f) (hf2 : f ≤ 100) (hLH : L ≤ H) (hH : H ≤ 18) (hst : 1 ≤ st) (hst2 : st ≤ 100) (hM : f ^ (H + 1) ≤ 4611686018427387904) (h1 : f ^ L ≤ v) (h2 : v < f ^ (H + 1)) :
    ∃ m : Nat, L ≤ m ∧ m ≤ H ∧ f ^ m ≤ v ∧ v < f ^ (m + 1) ∧ 0 ≤ (v - f ^ m) * st / (f ^ (m + 1) - f ^ m) ∧ (v - f ^ m) * st / (f ^ (m + 1) - f ^ m) < st ∧ d64 (vi [f, (L : Int), (H : Int), st]) v = some (1 + ((m : Int) - L) * st + (v - f ^ m) * st / (f ^ (m + 1) - f ^ m)) := by
  obtain ⟨m, hm1, hm2, hm3, hm4, hm5⟩ := expo hf hLH h1 h2
  have hp1 : 0 < f ^ L := Int.pow_pos (by omega)
  have hpm : 0 < f ^ m := Int.pow_pos (by omega)
  have hmm := pow_mono (show 1 ≤ f by omega) (show m + 1 ≤ H + 1 by omega)
  have q0 : 0 ≤ (v - f ^ m) * st / (f ^ (m + 1) - f ^ m) := Int.ediv_nonneg (Int.mul_nonneg (by omega) (by omega)) (by omega)
  have hsm : (v - f ^ m) * st < st * (f ^ (m + 1) - f ^ m) := by
    rw [Int.mul_comm]
    exact Int.mul_lt_mul_of_pos_left (by omega) (by omega)
  have q1 : (v - f ^ m) * st / (f ^ (m + 1) - f ^ m) < st := Int.ediv_lt_of_lt_mul (by omega) hsm
  refine ⟨m, hm1, hm2, hm3, hm4, q0, q1, ?_⟩
  have hI : iter (d64_b1 (vi [f, (L : Int), (H : Int), st]) v) (L : Int) = some (m : Int) := by
    refine scan (d64_b1 (vi [f, (L : Int), (H : Int), st]) v) (fun j => (j : Int)) hm1 (fun j a b => ?_) ?_
    · unfold d64_b1
      rw [if_pos (iv40 _ _ _ _), g40, succ_i (n := 100) (by omega) (by omega), s35_small hf hf2 (show j + 1 ≤ H + 1 by omega) hM (by omega)]
      simp only [Option.bind_some, c_geq]
      rw [yif (hm5 j a b)]
    · unfold d64_b1
      rw [if_pos (iv40 _ _ _ _), g40, succ_i (n := 100) (by omega) (by omega), s35_small hf hf2 (show m + 1 ≤ H + 1 by omega) hM (by omega)]
      simp only [Option.bind_some, c_geq]
      rw [yif' (by omega)]
  have em1 : arReal .add .i64 (m : Int) 1 = ((m + 1 : Nat) : Int) := succ_i (n := 100) (by omega) (by omega)
  have mr := mul_rng2 (x := v - f ^ m) (y := st) (m := 4611686018427387904) (n := 100) (by omega) (by omega) (by omega) (by omega)
  have mr2 := mul_rng2 (x := (m : Int) - L) (y := st) (m := 18) (n := 100) (by omega) (by omega) (by omega) (by omega)
  unfold d64
  rw [if_pos (iv41 _ _ _ _), g41, hI]
  simp only [Option.bind_some, iv40, iv41, iv43, ↓reduceIte, g40, g43, g41, em1, s35_small hf hf2 (show m ≤ H + 1 by omega) hM (by omega), s35_small hf hf2 (show m + 1 ≤ H + 1 by omega) hM (by omega)]
  rw [ar_sub' (a := v) ⟨by omega, by omega⟩, wk_u (a := v - f ^ m) ⟨by omega, by omega⟩, wk_u (a := st) ⟨by omega, by omega⟩, s67 ⟨by omega, by omega⟩ ⟨by omega, by omega⟩, ar_sub' (a := f ^ (m + 1)) ⟨by omega, by omega⟩, wk_u (a := f ^ (m + 1) - f ^ m) ⟨by omega, by omega⟩]
  simp only [Option.bind_some]
  obtain ⟨r, e⟩ := s69 (hi := (v - f ^ m) * st / 18446744073709551616) (lo := (v - f ^ m) * st % 18446744073709551616) (y := f ^ (m + 1) - f ^ m) (by omega) ⟨by omega, by omega⟩ (by
    refine Int.ediv_lt_of_lt_mul (by omega) ?_
    have : st * (f ^ (m + 1) - f ^ m) ≤ 100 * (f ^ (m + 1) - f ^ m) := Int.mul_le_mul_of_nonneg_right (by omega) (by omega)
    omega) ⟨by omega, by omega⟩
  rw [show (v - f ^ m) * st / 18446744073709551616 * 18446744073709551616 + (v - f ^ m) * st % 18446744073709551616 = (v - f ^ m) * st by omega] at e
  rw [e]
  simp only [Option.bind_some]
  generalize (v - f ^ m) * st / (f ^ (m + 1) - f ^ m) = q at *
  rw [ar_sub' (a := (m : Int)) ⟨by omega, by omega⟩, ar_mul' ⟨by omega, by omega⟩, ar_add' (a := 1) ⟨by omega, by omega⟩, wk_i ⟨by omega, by omega⟩, ar_add' ⟨by omega, by omega⟩]
theorem okP.log' {p : List Int} (h : okP 9 p) : ∃ (f st : Int) (L H : Nat), p = [f, (L : Int), (H : Int), st] ∧ 2 ≤ f ∧ f ≤ 100 ∧ L ≤ H ∧ H ≤ 18 ∧ 1 ≤ st ∧ st ≤ 100 ∧ f ^ (H + 1) ≤ 4611686018427387904 := by
  obtain ⟨f, lo, hi, st, rfl, h1, h2, h3, h4, h5, h6, h7, h8, h9, h10⟩ := h.log
  obtain ⟨L, rfl⟩ := Int.eq_ofNat_of_zero_le h3
  obtain ⟨H, rfl⟩ := Int.eq_ofNat_of_zero_le (show 0 ≤ hi by omega)
  refine ⟨f, st, L, H, rfl, h1, h2, by omega, by omega, h7, h8, ?_⟩
  rw [show ((H : Int) + 1).toNat = H + 1 by omega] at h9
  exact h9
/-- The bucket of a log-linear quantization. -/
theorem s32_9 {nm : ByteArray} {f st : Int} {L H : Nat} {ks : List V} {v : Int} (h : okA nm 9 [f, (L : Int), (H : Int), st] ks) (hv : I64 v) (hf : 2 ≤ f) (hf2 : f ≤ 100) (hLH : L ≤ H) (hH : H ≤ 18) (hst : 1 ≤ st) (hst2 : st ≤ 100) (hM : f ^ (H + 1) ≤ 4611686018427387904) :
    d32 nm 9 (vi [f, (L : Int), (H : Int), st]) ks v = (if v < f ^ L then some 0 else if v ≥ f ^ (H + 1) then some (((H : Int) - L + 1) * st + 1) else d64 (vi [f, (L : Int), (H : Int), st]) v) := by
  have mr := mul_rng2 (x := (H : Int) - L + 1) (y := st) (m := 19) (n := 100) (by omega) (by omega) (by omega) (by omega)
  unfold d32
  rw [s34 h, wd9]
  simp only [Option.bind_some]
  rw [if_neg (by decide), if_neg (by decide)]
  have eH : arReal .add .i64 (H : Int) 1 = ((H + 1 : Nat) : Int) := succ_i (n := 100) (by omega) (by omega)
  simp only [iv40, iv41, iv42, ↓reduceIte, g40, g41, g42, c_lss, c_geq, eH, s35_small hf hf2 (show L ≤ H + 1 by omega) hM (by omega), s35_small hf hf2 (show H + 1 ≤ H + 1 by omega) hM (by omega), Option.bind_some]
  by_cases q1 : v < f ^ L
  · rw [yif q1, if_pos q1]
  · rw [yif' q1, if_neg q1]
    by_cases q2 : v ≥ f ^ (H + 1)
    · rw [yif q2, if_pos q2, ar_sub' ⟨by omega, by omega⟩]
      congr 1; omega
    · rw [yif' q2, if_neg q2]
      cases d64 (vi [f, (L : Int), (H : Int), st]) v <;> rfl
theorem okA.nil {nm : ByteArray} {fn : Int} {p : List Int} {ks : List V} (h : okA nm fn p ks) (hf : fn ≤ 7) : p = [] := by
  have := h.2.2.2.2.2.1
  unfold okP at this
  rwa [if_neg (by omega), if_neg (by omega)] at this
/-- The bucket is told, and is one of the state's. -/
theorem s32 {nm : ByteArray} {fn : Int} {p : List Int} {ks : List V} (h : okA nm fn p ks) (h7 : 7 ≤ fn) {v : Int} (hv : I64 v) : d32 nm fn (vi p) ks v = some (bk fn p v) ∧ 0 ≤ bk fn p v ∧ bk fn p v < wd fn p := by
  suffices H : ∃ r, d32 nm fn (vi p) ks v = some r ∧ 0 ≤ r ∧ r < wd fn p by
    obtain ⟨r, e, h1, h2⟩ := H
    rw [bk_of e]
    exact ⟨e, h1, h2⟩
  have hf := h.fn
  rcases (show fn = 7 ∨ fn = 8 ∨ fn = 9 by omega) with rfl | rfl | rfl
  · obtain rfl := h.nil (by omega)
    refine ⟨_, s32_7 hv, ?_⟩
    show _ ∧ _ < (127 : Int)
    obtain ⟨v0, v1⟩ := hv
    by_cases q : 0 ≤ v
    · rw [if_pos q]
      have hl := (s63' (a := v) ⟨by omega, by omega⟩).2
      obtain ⟨b0, b1, b2, b3⟩ := hl
      refine ⟨by omega, ?_⟩
      apply Classical.byContradiction
      intro hn
      have e64 : bl v = 64 := by omega
      have := b3 (by omega)
      rw [e64] at this
      have : (2 : Int) ^ 63 ≤ v := this
      have e63 : (2 : Int) ^ 63 = 9223372036854775808 := by decide
      omega
    · rw [if_neg q]
      have hl := (s63' (a := -v) ⟨by omega, by omega⟩).2
      obtain ⟨b0, b1, b2, b3⟩ := hl
      split <;> constructor <;> omega
  · obtain ⟨a, b, c, rfl, h1, h2, h3, h4, h5, h6⟩ := h.2.2.2.2.2.1.lin
    refine ⟨_, s32_8 h hv, ?_⟩
    have s0 := (s65 h3 h5 h4 h1 h2).2.1
    rw [wd8]
    by_cases q1 : v < a
    · rw [if_pos q1]; constructor <;> omega
    · rw [if_neg q1]
      by_cases q2 : v ≥ b
      · rw [if_pos q2]; constructor <;> omega
      · rw [if_neg q2]
        have hq := (lin_q h3 h5 (by omega) (by omega) h1 h2 (v := v)).2
        constructor <;> omega
  · obtain ⟨f, st, L, H, rfl, h1, h2, h3, h4, h5, h6, h7⟩ := h.2.2.2.2.2.1.log'
    rw [s32_9 h hv h1 h2 h3 h4 h5 h6 h7, wd9]
    have mr := mul_rng2 (x := (H : Int) - L + 1) (y := st) (m := 19) (n := 100) (by omega) (by omega) (by omega) (by omega)
    by_cases q1 : v < f ^ L
    · rw [if_pos q1]; exact ⟨_, rfl, by omega, by omega⟩
    · rw [if_neg q1]
      by_cases q2 : v ≥ f ^ (H + 1)
      · rw [if_pos q2]; exact ⟨_, rfl, by omega, by omega⟩
      · rw [if_neg q2]
        obtain ⟨m, m1, m2, m3, m4, m5, m6, e⟩ := s64 h1 h2 h3 h4 h5 h6 h7 (v := v) (by omega) (by omega)
        refine ⟨_, e, ?_⟩
        have mr2 := mul_rng2 (x := (m : Int) - L) (y := st) (m := (H : Int) - L) (n := st) (by omega) (by omega) (by omega) (by omega)
        rw [Int.add_mul, Int.one_mul]
        constructor <;> omega
end Go.Proofs.Ytmofhbedamjblaa
end
section
namespace Go.Proofs.Ytmofhbedamjblaa
open Go.Ab Go.RowKit
set_option maxRecDepth 100000

/-- The state of one value. -/
noncomputable def sing (fn : Int) (p : List Int) (v : Int) : List Int :=
  if fn = 1 then [1] else if fn = 2 then [v] else if fn = 6 then [1, v, hi2 (v * v), lo2 (v * v)] else if 7 ≤ fn then (zer fn p).set (bk fn p v).toNat 1 else [1, v]
theorem sing_1 (p : List Int) (v : Int) : sing 1 p v = [1] := by unfold sing; rw [if_pos rfl]
theorem sing_2 (p : List Int) (v : Int) : sing 2 p v = [v] := by unfold sing; rw [if_neg (by omega), if_pos rfl]
theorem sing_p {fn : Int} (h : 3 ≤ fn ∧ fn ≤ 5) (p : List Int) (v : Int) : sing fn p v = [1, v] := by unfold sing; rw [if_neg (by omega), if_neg (by omega), if_neg (by omega), if_neg (by omega)]
theorem sing_6 (p : List Int) (v : Int) : sing 6 p v = [1, v, hi2 (v * v), lo2 (v * v)] := by unfold sing; rw [if_neg (by omega), if_neg (by omega), if_pos rfl]
theorem sing_7 {fn : Int} (h : 7 ≤ fn) (p : List Int) (v : Int) : sing fn p v = (zer fn p).set (bk fn p v).toNat 1 := by unfold sing; rw [if_neg (by omega), if_neg (by omega), if_neg (by omega), if_pos h]
theorem zer_len {nm : ByteArray} {fn : Int} {p : List Int} {ks : List V} (h : okA nm fn p ks) : ((zer fn p).length : Int) = wd fn p := by
  have := wd_rng h
  unfold zer
  rw [List.length_replicate]; omega
theorem sing_val {nm : ByteArray} {fn : Int} {p : List Int} {ks : List V} (h : okA nm fn p ks) {v : Int} (hv : I64 v) : valS fn p (sing fn p v) ∧ ∀ x ∈ sing fn p v, I64 x := by
  have c1 : Cnt 1 := ⟨by omega, by omega⟩
  have i1 : I64 1 := ⟨by omega, by omega⟩
  rcases fn_cases h.fn with rfl | rfl | rfl | rfl | rfl | rfl | h7
  · rw [sing_1]; exact ⟨⟨rfl, fun h => by omega, fun _ _ => ⟨c1, fun hz => by have hz : (1 : Int) = 0 := hz; omega⟩⟩, fun x hx => by rw [List.mem_singleton.1 hx]; exact i1⟩
  · rw [sing_2]; exact ⟨⟨rfl, fun h => by omega, fun h => (h rfl).elim⟩, fun x hx => by rw [List.mem_singleton.1 hx]; exact hv⟩
  · rw [sing_p (by omega)]; exact ⟨⟨rfl, fun h => by omega, fun _ _ => ⟨c1, fun hz => by have hz : (1 : Int) = 0 := hz; omega⟩⟩, fun x hx => by rcases List.mem_cons.1 hx with rfl | hx; exact i1; rw [List.mem_singleton.1 hx]; exact hv⟩
  · rw [sing_p (by omega)]; exact ⟨⟨rfl, fun h => by omega, fun _ _ => ⟨c1, fun hz => by have hz : (1 : Int) = 0 := hz; omega⟩⟩, fun x hx => by rcases List.mem_cons.1 hx with rfl | hx; exact i1; rw [List.mem_singleton.1 hx]; exact hv⟩
  · rw [sing_p (by omega)]; exact ⟨⟨rfl, fun h => by omega, fun _ _ => ⟨c1, fun hz => by have hz : (1 : Int) = 0 := hz; omega⟩⟩, fun x hx => by rcases List.mem_cons.1 hx with rfl | hx; exact i1; rw [List.mem_singleton.1 hx]; exact hv⟩
  · rw [sing_6]
    refine ⟨⟨rfl, fun h => by omega, fun _ _ => ⟨c1, fun hz => by have hz : (1 : Int) = 0 := hz; omega⟩⟩, fun x hx => ?_⟩
    simp only [List.mem_cons, List.not_mem_nil, or_false] at hx
    rcases hx with rfl | rfl | rfl | rfl
    · exact i1
    · exact hv
    · exact hi2_i _
    · exact lo2_i _
  · have h7 : 7 ≤ fn := by omega
    rw [sing_7 h7]
    have hc : ∀ x ∈ (zer fn p).set (bk fn p v).toNat 1, Cnt x := by
      intro x hx
      rcases List.mem_or_eq_of_mem_set hx with hx | rfl
      · rw [List.eq_of_mem_replicate hx]; exact ⟨by omega, by omega⟩
      · exact c1
    exact ⟨⟨by rw [List.length_set]; exact zer_len h, fun _ => hc, fun _ h => by omega⟩, fun x hx => by have := hc x hx; exact ⟨by have := this.1; omega, by have := this.2; omega⟩⟩
theorem zip_set : ∀ (s : List Int) (n i : Nat), s.length = n → (h : i < s.length) → List.zipWith (fun a b => a + b) s ((List.replicate n 0).set i 1) = s.set i (s[i] + 1)
  | [], n, i, _, h => by simp at h
  | a :: s, 0, i, h, _ => by simp at h
  | a :: s, n + 1, 0, h, _ => by
    rw [List.replicate_succ, List.set_cons_zero, List.zipWith_cons_cons, zip_zero s n (by simpa using h), List.set_cons_zero]
    rfl
  | a :: s, n + 1, i + 1, h, hi => by
    have e := zip_set s n i (by simpa using h) (by simpa using hi)
    rw [List.replicate_succ, List.set_cons_succ, List.zipWith_cons_cons, e, List.set_cons_succ, Int.add_zero]
    rfl
theorem ev99 : @d99v1 = fun nm fn p ks nm' fn' p' ks' s t => d99v2 nm fn p ks nm' fn' p' ks' t s := rfl
theorem ev102 : @d102v1 = fun nm fn p ks nm' fn' p' ks' s t => d102v2 nm fn p ks nm' fn' p' ks' t s := rfl
theorem ev104 : @d104v1 = fun nm fn p ks nm' fn' p' ks' s t => d104v2 nm fn p ks nm' fn' p' ks' t s := rfl
theorem ev107 : @d107v1 = fun nm fn p ks nm' fn' p' ks' s t => d107v2 nm fn p ks nm' fn' p' ks' t s := rfl
open Classical in
/-- A value added to a valid state. -/
theorem s52 {nm : ByteArray} {fn : Int} {p : List Int} {ks : List V} (h : okA nm fn p ks) {s : List Int} (hs : valS fn p s) {v : Int} (hv : I64 v) : d52 nm fn (vi p) ks (vi s) v = some (if gd fn s (sing fn p v) then (vi (mg fn s (sing fn p v)), 0) else ([], 2)) := by
  have ls := val_len h hs
  have c1 : Cnt 1 := ⟨by omega, by omega⟩
  unfold d52
  rw [s38 s (by omega), e70]
  simp only [Option.bind_some]
  rcases fn_cases h.fn with rfl | rfl | rfl | rfl | rfl | rfl | rfl | rfl | rfl
  · rw [if_pos (show Inb 1 (Int.ofNat 10) by decide), if_neg (by decide), if_pos (by decide)]
    obtain ⟨a, rfl, ha⟩ := v1 hs
    unfold d93v2
    have e := s123 nm 1 (vi p) ks (l := [a]) (i := 0) (n := 1) (by simp) (by show I64 a; exact ⟨by have := ha.1; omega, by have := ha.2; omega⟩) c1
    rw [show d123v2 nm 1 (vi p) ks 0 1 (vi [a]) = _ from e, sing_1]
    have eg : gd 1 [a] [1] ↔ a + 1 ≤ 4611686018427387904 := by
      rw [gd_c (.inl rfl)]
      exact ⟨fun k => k 0 (by simp), fun k i hi => by obtain rfl : i = 0 := by simpa using hi
                                                      exact k⟩
    by_cases hg : a + 1 ≤ 4611686018427387904
    · rw [if_pos (eg.2 hg), if_pos (show [a][0] + 1 ≤ 4611686018427387904 from hg), mg_c (.inl rfl)]; rfl
    · rw [if_neg (fun k => hg (eg.1 k)), if_neg (show ¬ [a][0] + 1 ≤ 4611686018427387904 from hg)]; rfl
  · rw [if_pos (show Inb 2 (Int.ofNat 10) by decide), if_neg (by decide), if_neg (by decide), if_pos (by decide)]
    obtain ⟨a, rfl⟩ := v2 hs
    rw [s96, sing_2, if_pos (gd_2 _ _)]
    rfl
  · rw [if_pos (show Inb 3 (Int.ofNat 10) by decide), if_neg (by decide), if_neg (by decide), if_neg (by decide), if_pos (by decide)]
    obtain ⟨a, x, rfl, ha, _⟩ := v345 (by omega) hs
    obtain ⟨q, e⟩ := s99 nm nm 3 3 (vi p) ks (vi p) ks (x := x) (y := v) ha c1
    unfold d98v1
    rw [ev99]
    dsimp only
    rw [show [V.i IntKind.i64 1, V.i IntKind.i64 v] = vi [1, v] from rfl, e, sing_p (by omega)]
    have eg : gd 3 [a, x] [1, v] ↔ a + 1 ≤ 4611686018427387904 := gd_p (by omega) _ _
    by_cases hg : a + 1 ≤ 4611686018427387904
    · rw [if_pos hg, if_pos (eg.2 hg)]; rfl
    · rw [if_neg hg, if_neg (fun k => hg (eg.1 k))]; rfl
  · rw [if_pos (show Inb 4 (Int.ofNat 10) by decide), if_neg (by decide), if_neg (by decide), if_neg (by decide), if_neg (by decide), if_pos (by decide)]
    obtain ⟨a, x, rfl, ha, _⟩ := v345 (by omega) hs
    obtain ⟨q, e⟩ := s102 nm nm 4 4 (vi p) ks (vi p) ks (x := x) (y := v) ha c1
    unfold d101v1
    rw [ev102]
    dsimp only
    rw [show [V.i IntKind.i64 1, V.i IntKind.i64 v] = vi [1, v] from rfl, e, sing_p (by omega)]
    have eg : gd 4 [a, x] [1, v] ↔ a + 1 ≤ 4611686018427387904 := gd_p (by omega) _ _
    by_cases hg : a + 1 ≤ 4611686018427387904
    · rw [if_pos hg, if_pos (eg.2 hg)]; rfl
    · rw [if_neg hg, if_neg (fun k => hg (eg.1 k))]; rfl
  · rw [if_pos (show Inb 5 (Int.ofNat 10) by decide), if_neg (by decide), if_neg (by decide), if_neg (by decide), if_neg (by decide), if_neg (by decide), if_pos (by decide)]
    obtain ⟨a, x, rfl, ha, _⟩ := v345 (by omega) hs
    obtain ⟨q, e⟩ := s104 nm nm 5 5 (vi p) ks (vi p) ks (x := x) (y := v) ha c1
    unfold d103v1
    rw [ev104]
    dsimp only
    rw [show [V.i IntKind.i64 1, V.i IntKind.i64 v] = vi [1, v] from rfl, e, sing_p (by omega)]
    have eg : gd 5 [a, x] [1, v] ↔ a + 1 ≤ 4611686018427387904 := gd_p (by omega) _ _
    by_cases hg : a + 1 ≤ 4611686018427387904
    · rw [if_pos hg, if_pos (eg.2 hg)]; rfl
    · rw [if_neg hg, if_neg (fun k => hg (eg.1 k))]; rfl
  · rw [if_pos (show Inb 6 (Int.ofNat 10) by decide), if_neg (by decide), if_neg (by decide), if_neg (by decide), if_neg (by decide), if_neg (by decide), if_neg (by decide), if_pos (by decide)]
    obtain ⟨a, x, y, z, rfl, ha, _⟩ := v6 hs
    obtain ⟨q, e⟩ := s107 nm nm 6 6 (vi p) ks (vi p) ks (x := x) (h := y) (l := z) (y := v) (h' := hi2 (v * v)) (l' := lo2 (v * v)) ha c1
    unfold d106v1
    rw [s124 hv, ev107]
    simp only [Option.bind_some]
    rw [show [V.i IntKind.i64 1, V.i IntKind.i64 v, V.i .i64 (wrapK .i64 (v * v / 18446744073709551616)), V.i .i64 (wrapK .i64 (v * v % 18446744073709551616))] = vi [1, v, hi2 (v * v), lo2 (v * v)] from rfl, e, sing_6]
    have eg : gd 6 [a, x, y, z] [1, v, hi2 (v * v), lo2 (v * v)] ↔ a + 1 ≤ 4611686018427387904 := gd_p (by omega) _ _
    by_cases hg : a + 1 ≤ 4611686018427387904
    · rw [if_pos hg, if_pos (eg.2 hg)]; rfl
    · rw [if_neg hg, if_neg (fun k => hg (eg.1 k))]; rfl
  · rw [if_pos (show Inb 7 (Int.ofNat 10) by decide), if_neg (by decide), if_neg (by decide), if_neg (by decide), if_neg (by decide), if_neg (by decide), if_neg (by decide), if_neg (by decide), if_pos (by decide)]
    obtain ⟨e1, e2, e3⟩ := s32 h (by omega) hv
    obtain ⟨b, hb⟩ := Int.eq_ofNat_of_zero_le e2
    have hbs : b < s.length := by have := hs.1; omega
    have hc := hs.2.1 (by omega)
    have cb := hc _ (List.getElem_mem hbs)
    unfold d109v1
    rw [e1, hb]
    simp only [Option.bind_some]
    rw [s123 nm 7 (vi p) ks (n := 1) hbs ⟨by have := cb.1; omega, by have := cb.2; omega⟩ c1]
    have em : mg 7 s (sing 7 p v) = s.set b (s[b] + 1) := by
      rw [mg_c (by omega), sing_7 (by omega), hb, Int.toNat_natCast]
      exact zip_set s _ b (by have := hs.1; omega) hbs
    have eg : gd 7 s (sing 7 p v) ↔ s[b] + 1 ≤ 4611686018427387904 := by
      rw [gd_c (by omega), sing_7 (by omega), hb, Int.toNat_natCast]
      have hz : b < (zer 7 p).length := by have := zer_len h; omega
      constructor
      · intro k
        have := k b hbs
        rw [getD_get hbs, getD_get (by rw [List.length_set]; exact hz), List.getElem_set_self] at this
        exact this
      · intro k i hi
        have ci := hc _ (List.getElem_mem hi)
        have hzi : i < (zer 7 p).length := by have := zer_len h; have := hs.1; omega
        rw [getD_get hi, getD_get (by rw [List.length_set]; exact hzi)]
        by_cases hib : b = i
        · subst hib
          rw [List.getElem_set_self]; exact k
        · rw [List.getElem_set_ne hib]
          have : (zer 7 p)[i] = 0 := List.eq_of_mem_replicate (List.getElem_mem hzi)
          rw [this]; have := ci.2; omega
    by_cases hg : s[b] + 1 ≤ 4611686018427387904
    · rw [if_pos hg, if_pos (eg.2 hg), em]; rfl
    · rw [if_neg hg, if_neg (fun k => hg (eg.1 k))]; rfl
  · rw [if_pos (show Inb 8 (Int.ofNat 10) by decide), if_neg (by decide), if_neg (by decide), if_neg (by decide), if_neg (by decide), if_neg (by decide), if_neg (by decide), if_neg (by decide), if_neg (by decide), if_pos (by decide)]
    obtain ⟨e1, e2, e3⟩ := s32 h (by omega) hv
    obtain ⟨b, hb⟩ := Int.eq_ofNat_of_zero_le e2
    have hbs : b < s.length := by have := hs.1; omega
    have hc := hs.2.1 (by omega)
    have cb := hc _ (List.getElem_mem hbs)
    unfold d109v1
    rw [e1, hb]
    simp only [Option.bind_some]
    rw [s123 nm 8 (vi p) ks (n := 1) hbs ⟨by have := cb.1; omega, by have := cb.2; omega⟩ c1]
    have em : mg 8 s (sing 8 p v) = s.set b (s[b] + 1) := by
      rw [mg_c (by omega), sing_7 (by omega), hb, Int.toNat_natCast]
      exact zip_set s _ b (by have := hs.1; omega) hbs
    have eg : gd 8 s (sing 8 p v) ↔ s[b] + 1 ≤ 4611686018427387904 := by
      rw [gd_c (by omega), sing_7 (by omega), hb, Int.toNat_natCast]
      have hz : b < (zer 8 p).length := by have := zer_len h; omega
      constructor
      · intro k
        have := k b hbs
        rw [getD_get hbs, getD_get (by rw [List.length_set]; exact hz), List.getElem_set_self] at this
        exact this
      · intro k i hi
        have ci := hc _ (List.getElem_mem hi)
        have hzi : i < (zer 8 p).length := by have := zer_len h; have := hs.1; omega
        rw [getD_get hi, getD_get (by rw [List.length_set]; exact hzi)]
        by_cases hib : b = i
        · subst hib
          rw [List.getElem_set_self]; exact k
        · rw [List.getElem_set_ne hib]
          have : (zer 8 p)[i] = 0 := List.eq_of_mem_replicate (List.getElem_mem hzi)
          rw [this]; have := ci.2; omega
    by_cases hg : s[b] + 1 ≤ 4611686018427387904
    · rw [if_pos hg, if_pos (eg.2 hg), em]; rfl
    · rw [if_neg hg, if_neg (fun k => hg (eg.1 k))]; rfl
  · rw [if_pos (show Inb 9 (Int.ofNat 10) by decide), if_neg (by decide), if_neg (by decide), if_neg (by decide), if_neg (by decide), if_neg (by decide), if_neg (by decide), if_neg (by decide), if_neg (by decide), if_neg (by decide)]
    obtain ⟨e1, e2, e3⟩ := s32 h (by omega) hv
    obtain ⟨b, hb⟩ := Int.eq_ofNat_of_zero_le e2
    have hbs : b < s.length := by have := hs.1; omega
    have hc := hs.2.1 (by omega)
    have cb := hc _ (List.getElem_mem hbs)
    unfold d109v1
    rw [e1, hb]
    simp only [Option.bind_some]
    rw [s123 nm 9 (vi p) ks (n := 1) hbs ⟨by have := cb.1; omega, by have := cb.2; omega⟩ c1]
    have em : mg 9 s (sing 9 p v) = s.set b (s[b] + 1) := by
      rw [mg_c (by omega), sing_7 (by omega), hb, Int.toNat_natCast]
      exact zip_set s _ b (by have := hs.1; omega) hbs
    have eg : gd 9 s (sing 9 p v) ↔ s[b] + 1 ≤ 4611686018427387904 := by
      rw [gd_c (by omega), sing_7 (by omega), hb, Int.toNat_natCast]
      have hz : b < (zer 9 p).length := by have := zer_len h; omega
      constructor
      · intro k
        have := k b hbs
        rw [getD_get hbs, getD_get (by rw [List.length_set]; exact hz), List.getElem_set_self] at this
        exact this
      · intro k i hi
        have ci := hc _ (List.getElem_mem hi)
        have hzi : i < (zer 9 p).length := by have := zer_len h; have := hs.1; omega
        rw [getD_get hi, getD_get (by rw [List.length_set]; exact hzi)]
        by_cases hib : b = i
        · subst hib
          rw [List.getElem_set_self]; exact k
        · rw [List.getElem_set_ne hib]
          have : (zer 9 p)[i] = 0 := List.eq_of_mem_replicate (List.getElem_mem hzi)
          rw [this]; have := ci.2; omega
    by_cases hg : s[b] + 1 ≤ 4611686018427387904
    · rw [if_pos hg, if_pos (eg.2 hg), em]; rfl
    · rw [if_neg hg, if_neg (fun k => hg (eg.1 k))]; rfl
theorem s23 (nm : ByteArray) (fn : Int) (p : List Int) (ks : List V) (hp : ∀ x ∈ p, I64 x) (s : List Int) (hs : s.length ≤ 9223372036854775807) {v : Int} (hv : I64 v) :
    d23 nm fn (vi p) ks (vi s) v = some (if chkS nm fn p ks s = 0 then (if gd fn s (sing fn p v) then (vi (mg fn s (sing fn p v)), 0) else ([], 2)) else ([], chkS nm fn p ks s)) := by
  unfold d23
  rw [s37_1 nm fn p ks hp s hs]
  simp only [Option.bind_some, c_neq]
  by_cases h1 : chkS nm fn p ks s = 0
  · obtain ⟨hA, hV⟩ := chk0.1 h1
    rw [if_pos h1, nif h1, s52 hA hV hv]
    rfl
  · rw [if_neg h1, nif' h1]
end Go.Proofs.Ytmofhbedamjblaa
end
section
namespace Go.Proofs.Ytmofhbedamjblaa
open Go.Ab Go.RowKit
set_option maxRecDepth 100000

theorem lnV1 (a : V) : lenI [a] = 1 := rfl
theorem lnV2 (a b : V) : lenI [a, b] = 2 := rfl
theorem mul64 {x y : Int} (hx : U64 x) (hy : U64 y) : 0 ≤ x * y ∧ x * y ≤ 340282366920938463426481119284349108225 := by
  have := mul_rng2 (x := x) (y := y) (m := 18446744073709551615) (n := 18446744073709551615) hx.1 (by have := hx.2; omega) hy.1 (by have := hy.2; omega)
  omega

theorem st128_0 (a0 a1 : List V) (I K t1 t2 t3 t4 ab o0 o1 o2 o3 x y : Int) (hp : arReal .add .i64 I K = 0) (h1 : cmpLit .lss K (lenI a1) = true) (h2 : Inb K (lenI a1)) (hx : gI a0 I 0 = x) (hy : gI a1 K 0 = y) (ux : U64 x) (uy : U64 y) (uo : U64 o0) (ua : U64 ab) :
    d128_b2 a0 a1 (I, t1, t2, t3, t4) (ab, K, o0, o1, o2, o3) = some (.inl ((x * y + o0 + ab) / 18446744073709551616, arReal .add .i64 K 1, (x * y + o0 + ab) % 18446744073709551616, o1, o2, o3)) := by
  have m := mul64 ux uy
  have uo' := uo
  have ua' := ua
  obtain ⟨u1, u2⟩ := uo'
  obtain ⟨u3, u4⟩ := ua'
  unfold d128_b2
  dsimp only
  rw [if_pos h1, if_pos h2, hx, hy, s67 ux uy, hp]
  simp only [Option.bind_some]
  have c0 : Inb 0 (Int.ofNat 4) := by decide
  rw [if_pos c0]
  rw [if_pos (show cmpLit .eql 0 (Int.ofNat 0) = true by decide)]
  rw [s68 ⟨by omega, by omega⟩ uo (by omega) (by omega)]
  simp only [Option.bind_some]
  rw [s68 ⟨by omega, by omega⟩ ua (by omega) (by omega)]
  simp only [Option.bind_some]
  rw [if_pos c0]
  rw [if_pos (show cmpLit .eql 0 (Int.ofNat 0) = true by decide)]
  generalize x * y = z at *
  rw [ar_addu' (a := z / 18446744073709551616) ⟨by omega, by omega⟩, ar_addu' ⟨by omega, by omega⟩]
  congr 3
  · omega
  · congr 1
    congr 1; omega
theorem st128_1 (a0 a1 : List V) (I K t1 t2 t3 t4 ab o0 o1 o2 o3 x y : Int) (hp : arReal .add .i64 I K = 1) (h1 : cmpLit .lss K (lenI a1) = true) (h2 : Inb K (lenI a1)) (hx : gI a0 I 0 = x) (hy : gI a1 K 0 = y) (ux : U64 x) (uy : U64 y) (uo : U64 o1) (ua : U64 ab) :
    d128_b2 a0 a1 (I, t1, t2, t3, t4) (ab, K, o0, o1, o2, o3) = some (.inl ((x * y + o1 + ab) / 18446744073709551616, arReal .add .i64 K 1, o0, (x * y + o1 + ab) % 18446744073709551616, o2, o3)) := by
  have m := mul64 ux uy
  have uo' := uo
  have ua' := ua
  obtain ⟨u1, u2⟩ := uo'
  obtain ⟨u3, u4⟩ := ua'
  unfold d128_b2
  dsimp only
  rw [if_pos h1, if_pos h2, hx, hy, s67 ux uy, hp]
  simp only [Option.bind_some]
  have c0 : Inb 1 (Int.ofNat 4) := by decide
  rw [if_pos c0]
  rw [if_neg (show ¬ cmpLit .eql 1 (Int.ofNat 0) = true by decide)]
  rw [if_pos (show cmpLit .eql 1 (Int.ofNat 1) = true by decide)]
  rw [s68 ⟨by omega, by omega⟩ uo (by omega) (by omega)]
  simp only [Option.bind_some]
  rw [s68 ⟨by omega, by omega⟩ ua (by omega) (by omega)]
  simp only [Option.bind_some]
  rw [if_pos c0]
  rw [if_neg (show ¬ cmpLit .eql 1 (Int.ofNat 0) = true by decide)]
  rw [if_pos (show cmpLit .eql 1 (Int.ofNat 1) = true by decide)]
  generalize x * y = z at *
  rw [ar_addu' (a := z / 18446744073709551616) ⟨by omega, by omega⟩, ar_addu' ⟨by omega, by omega⟩]
  congr 3
  · omega
  · congr 1
    congr 2; omega
theorem st128_2 (a0 a1 : List V) (I K t1 t2 t3 t4 ab o0 o1 o2 o3 x y : Int) (hp : arReal .add .i64 I K = 2) (h1 : cmpLit .lss K (lenI a1) = true) (h2 : Inb K (lenI a1)) (hx : gI a0 I 0 = x) (hy : gI a1 K 0 = y) (ux : U64 x) (uy : U64 y) (uo : U64 o2) (ua : U64 ab) :
    d128_b2 a0 a1 (I, t1, t2, t3, t4) (ab, K, o0, o1, o2, o3) = some (.inl ((x * y + o2 + ab) / 18446744073709551616, arReal .add .i64 K 1, o0, o1, (x * y + o2 + ab) % 18446744073709551616, o3)) := by
  have m := mul64 ux uy
  have uo' := uo
  have ua' := ua
  obtain ⟨u1, u2⟩ := uo'
  obtain ⟨u3, u4⟩ := ua'
  unfold d128_b2
  dsimp only
  rw [if_pos h1, if_pos h2, hx, hy, s67 ux uy, hp]
  simp only [Option.bind_some]
  have c0 : Inb 2 (Int.ofNat 4) := by decide
  rw [if_pos c0]
  rw [if_neg (show ¬ cmpLit .eql 2 (Int.ofNat 0) = true by decide)]
  rw [if_neg (show ¬ cmpLit .eql 2 (Int.ofNat 1) = true by decide)]
  rw [if_pos (show cmpLit .eql 2 (Int.ofNat 2) = true by decide)]
  rw [s68 ⟨by omega, by omega⟩ uo (by omega) (by omega)]
  simp only [Option.bind_some]
  rw [s68 ⟨by omega, by omega⟩ ua (by omega) (by omega)]
  simp only [Option.bind_some]
  rw [if_pos c0]
  rw [if_neg (show ¬ cmpLit .eql 2 (Int.ofNat 0) = true by decide)]
  rw [if_neg (show ¬ cmpLit .eql 2 (Int.ofNat 1) = true by decide)]
  rw [if_pos (show cmpLit .eql 2 (Int.ofNat 2) = true by decide)]
  generalize x * y = z at *
  rw [ar_addu' (a := z / 18446744073709551616) ⟨by omega, by omega⟩, ar_addu' ⟨by omega, by omega⟩]
  congr 3
  · omega
  · congr 1
    congr 3; omega
theorem s128_11 {x y : Int} (ux : U64 x) (uy : U64 y) : ∃ l0 l1 l2 l3, d128 [.i .u64 x] [.i .u64 y] = some (l0, l1, l2, l3) ∧ U64 l0 ∧ U64 l1 ∧ U64 l2 ∧ U64 l3 ∧ l0 + l1 * 18446744073709551616 + l2 * 340282366920938463463374607431768211456 + l3 * 6277101735386680763835789423207666416102355444464034512896 = (x) * (y) := by
  have mxy := mul64 ux uy
  have z0 : U64 0 := ⟨by omega, by omega⟩
  obtain ⟨c1, hc1⟩ : ∃ zz, zz = (x * y + 0 + 0) / 18446744073709551616 := ⟨_, rfl⟩
  obtain ⟨r1, hr1⟩ : ∃ zz, zz = (x * y + 0 + 0) % 18446744073709551616 := ⟨_, rfl⟩
  have uc1 : U64 c1 := ⟨by omega, by omega⟩
  have ur1 : U64 r1 := ⟨by omega, by omega⟩
  have b1 := st128_0 [.i .u64 x] [.i .u64 y] 0 0 0 0 0 0 0 0 0 0 0 x y (by decide) (by kernel_rfl) ⟨by decide, by rw [lnV1]; decide⟩ rfl rfl ux uy z0 z0
  rw [← hc1, ← hr1, show arReal .add .i64 0 1 = 1 by decide] at b1
  have e0 : d128_b2 [.i .u64 x] [.i .u64 y] (0, 0, 0, 0, 0) (c1, 1, r1, 0, 0, 0) = some (.inr (c1, r1, 0, 0, 0)) := by
    unfold d128_b2
    rw [if_neg (show ¬ cmpLit .lss (1 : Int) (lenI [.i .u64 y]) = true by rw [lnV1]; decide)]
  have w0 : d128_b1 [.i .u64 x] [.i .u64 y] (0, 0, 0, 0, 0) = some (.inl (1, r1, c1, 0, 0)) := by
    unfold d128_b1
    dsimp only
    rw [if_pos (show cmpLit .lss (0 : Int) (lenI [.i .u64 x]) = true by kernel_rfl), if_pos (show Inb (0 : Int) (lenI [.i .u64 x]) from ⟨by decide, by rw [lnV1]; decide⟩)]
    rw [iter_inl b1, iter_inr e0]
    simp only [Option.bind_some]
    rw [show arReal .add .i64 (0 : Int) (lenI [.i .u64 y]) = 1 by kernel_rfl, if_pos (show Inb 1 (Int.ofNat 4) by decide)]
    rw [if_neg (show ¬ cmpLit .eql 1 (Int.ofNat 0) = true by decide)]
    rw [if_pos (show cmpLit .eql 1 (Int.ofNat 1) = true by decide)]
    rfl
  have ee : d128_b1 [.i .u64 x] [.i .u64 y] (1, r1, c1, 0, 0) = some (.inr (r1, c1, 0, 0)) := by
    unfold d128_b1
    rw [if_neg (show ¬ cmpLit .lss (1 : Int) (lenI [.i .u64 x]) = true by rw [lnV1]; decide)]
  refine ⟨r1, c1, 0, 0, ?_, ur1, uc1, z0, z0, ?_⟩
  · unfold d128
    rw [iter_inl w0, iter_inr ee]
    rfl
  · have e : (x) * (y) = x * y := by grind
    rw [e]
    generalize x * y = qxy at *
    omega
theorem s128_12 {x y z : Int} (ux : U64 x) (uy : U64 y) (uz : U64 z) : ∃ l0 l1 l2 l3, d128 [.i .u64 x] [.i .u64 y, .i .u64 z] = some (l0, l1, l2, l3) ∧ U64 l0 ∧ U64 l1 ∧ U64 l2 ∧ U64 l3 ∧ l0 + l1 * 18446744073709551616 + l2 * 340282366920938463463374607431768211456 + l3 * 6277101735386680763835789423207666416102355444464034512896 = (x) * (y + z * 18446744073709551616) := by
  have mxy := mul64 ux uy
  have mxz := mul64 ux uz
  have z0 : U64 0 := ⟨by omega, by omega⟩
  obtain ⟨c1, hc1⟩ : ∃ zz, zz = (x * y + 0 + 0) / 18446744073709551616 := ⟨_, rfl⟩
  obtain ⟨r1, hr1⟩ : ∃ zz, zz = (x * y + 0 + 0) % 18446744073709551616 := ⟨_, rfl⟩
  have uc1 : U64 c1 := ⟨by omega, by omega⟩
  have ur1 : U64 r1 := ⟨by omega, by omega⟩
  have b1 := st128_0 [.i .u64 x] [.i .u64 y, .i .u64 z] 0 0 0 0 0 0 0 0 0 0 0 x y (by decide) (by kernel_rfl) ⟨by decide, by rw [lnV2]; decide⟩ rfl rfl ux uy z0 z0
  rw [← hc1, ← hr1, show arReal .add .i64 0 1 = 1 by decide] at b1
  obtain ⟨c2, hc2⟩ : ∃ zz, zz = (x * z + 0 + c1) / 18446744073709551616 := ⟨_, rfl⟩
  obtain ⟨r2, hr2⟩ : ∃ zz, zz = (x * z + 0 + c1) % 18446744073709551616 := ⟨_, rfl⟩
  have := uc1.1; have := uc1.2
  have uc2 : U64 c2 := ⟨by omega, by omega⟩
  have ur2 : U64 r2 := ⟨by omega, by omega⟩
  have b2 := st128_1 [.i .u64 x] [.i .u64 y, .i .u64 z] 0 1 0 0 0 0 c1 r1 0 0 0 x z (by decide) (by kernel_rfl) ⟨by decide, by rw [lnV2]; decide⟩ rfl rfl ux uz z0 uc1
  rw [← hc2, ← hr2, show arReal .add .i64 1 1 = 2 by decide] at b2
  have e0 : d128_b2 [.i .u64 x] [.i .u64 y, .i .u64 z] (0, 0, 0, 0, 0) (c2, 2, r1, r2, 0, 0) = some (.inr (c2, r1, r2, 0, 0)) := by
    unfold d128_b2
    rw [if_neg (show ¬ cmpLit .lss (2 : Int) (lenI [.i .u64 y, .i .u64 z]) = true by rw [lnV2]; decide)]
  have w0 : d128_b1 [.i .u64 x] [.i .u64 y, .i .u64 z] (0, 0, 0, 0, 0) = some (.inl (1, r1, r2, c2, 0)) := by
    unfold d128_b1
    dsimp only
    rw [if_pos (show cmpLit .lss (0 : Int) (lenI [.i .u64 x]) = true by kernel_rfl), if_pos (show Inb (0 : Int) (lenI [.i .u64 x]) from ⟨by decide, by rw [lnV1]; decide⟩)]
    rw [iter_inl b1, iter_inl b2, iter_inr e0]
    simp only [Option.bind_some]
    rw [show arReal .add .i64 (0 : Int) (lenI [.i .u64 y, .i .u64 z]) = 2 by kernel_rfl, if_pos (show Inb 2 (Int.ofNat 4) by decide)]
    rw [if_neg (show ¬ cmpLit .eql 2 (Int.ofNat 0) = true by decide)]
    rw [if_neg (show ¬ cmpLit .eql 2 (Int.ofNat 1) = true by decide)]
    rw [if_pos (show cmpLit .eql 2 (Int.ofNat 2) = true by decide)]
    rfl
  have ee : d128_b1 [.i .u64 x] [.i .u64 y, .i .u64 z] (1, r1, r2, c2, 0) = some (.inr (r1, r2, c2, 0)) := by
    unfold d128_b1
    rw [if_neg (show ¬ cmpLit .lss (1 : Int) (lenI [.i .u64 x]) = true by rw [lnV1]; decide)]
  refine ⟨r1, r2, c2, 0, ?_, ur1, ur2, uc2, z0, ?_⟩
  · unfold d128
    rw [iter_inl w0, iter_inr ee]
    rfl
  · have e : (x) * (y + z * 18446744073709551616) = x * y + x * z * 18446744073709551616 := by grind
    rw [e]
    generalize x * y = qxy at *
    generalize x * z = qxz at *
    omega
theorem s128_22 {x y z v : Int} (ux : U64 x) (uy : U64 y) (uz : U64 z) (uv : U64 v) : ∃ l0 l1 l2 l3, d128 [.i .u64 x, .i .u64 y] [.i .u64 z, .i .u64 v] = some (l0, l1, l2, l3) ∧ U64 l0 ∧ U64 l1 ∧ U64 l2 ∧ U64 l3 ∧ l0 + l1 * 18446744073709551616 + l2 * 340282366920938463463374607431768211456 + l3 * 6277101735386680763835789423207666416102355444464034512896 = (x + y * 18446744073709551616) * (z + v * 18446744073709551616) := by
  have mxz := mul64 ux uz
  have mxv := mul64 ux uv
  have myz := mul64 uy uz
  have myv := mul64 uy uv
  have z0 : U64 0 := ⟨by omega, by omega⟩
  obtain ⟨c1, hc1⟩ : ∃ zz, zz = (x * z + 0 + 0) / 18446744073709551616 := ⟨_, rfl⟩
  obtain ⟨r1, hr1⟩ : ∃ zz, zz = (x * z + 0 + 0) % 18446744073709551616 := ⟨_, rfl⟩
  have uc1 : U64 c1 := ⟨by omega, by omega⟩
  have ur1 : U64 r1 := ⟨by omega, by omega⟩
  have b1 := st128_0 [.i .u64 x, .i .u64 y] [.i .u64 z, .i .u64 v] 0 0 0 0 0 0 0 0 0 0 0 x z (by decide) (by kernel_rfl) ⟨by decide, by rw [lnV2]; decide⟩ rfl rfl ux uz z0 z0
  rw [← hc1, ← hr1, show arReal .add .i64 0 1 = 1 by decide] at b1
  obtain ⟨c2, hc2⟩ : ∃ zz, zz = (x * v + 0 + c1) / 18446744073709551616 := ⟨_, rfl⟩
  obtain ⟨r2, hr2⟩ : ∃ zz, zz = (x * v + 0 + c1) % 18446744073709551616 := ⟨_, rfl⟩
  have := uc1.1; have := uc1.2
  have uc2 : U64 c2 := ⟨by omega, by omega⟩
  have ur2 : U64 r2 := ⟨by omega, by omega⟩
  have b2 := st128_1 [.i .u64 x, .i .u64 y] [.i .u64 z, .i .u64 v] 0 1 0 0 0 0 c1 r1 0 0 0 x v (by decide) (by kernel_rfl) ⟨by decide, by rw [lnV2]; decide⟩ rfl rfl ux uv z0 uc1
  rw [← hc2, ← hr2, show arReal .add .i64 1 1 = 2 by decide] at b2
  have e0 : d128_b2 [.i .u64 x, .i .u64 y] [.i .u64 z, .i .u64 v] (0, 0, 0, 0, 0) (c2, 2, r1, r2, 0, 0) = some (.inr (c2, r1, r2, 0, 0)) := by
    unfold d128_b2
    rw [if_neg (show ¬ cmpLit .lss (2 : Int) (lenI [.i .u64 z, .i .u64 v]) = true by rw [lnV2]; decide)]
  have w0 : d128_b1 [.i .u64 x, .i .u64 y] [.i .u64 z, .i .u64 v] (0, 0, 0, 0, 0) = some (.inl (1, r1, r2, c2, 0)) := by
    unfold d128_b1
    dsimp only
    rw [if_pos (show cmpLit .lss (0 : Int) (lenI [.i .u64 x, .i .u64 y]) = true by kernel_rfl), if_pos (show Inb (0 : Int) (lenI [.i .u64 x, .i .u64 y]) from ⟨by decide, by rw [lnV2]; decide⟩)]
    rw [iter_inl b1, iter_inl b2, iter_inr e0]
    simp only [Option.bind_some]
    rw [show arReal .add .i64 (0 : Int) (lenI [.i .u64 z, .i .u64 v]) = 2 by kernel_rfl, if_pos (show Inb 2 (Int.ofNat 4) by decide)]
    rw [if_neg (show ¬ cmpLit .eql 2 (Int.ofNat 0) = true by decide)]
    rw [if_neg (show ¬ cmpLit .eql 2 (Int.ofNat 1) = true by decide)]
    rw [if_pos (show cmpLit .eql 2 (Int.ofNat 2) = true by decide)]
    rfl
  obtain ⟨c3, hc3⟩ : ∃ zz, zz = (y * z + r2 + 0) / 18446744073709551616 := ⟨_, rfl⟩
  obtain ⟨r3, hr3⟩ : ∃ zz, zz = (y * z + r2 + 0) % 18446744073709551616 := ⟨_, rfl⟩
  have := ur2.1; have := ur2.2
  have uc3 : U64 c3 := ⟨by omega, by omega⟩
  have ur3 : U64 r3 := ⟨by omega, by omega⟩
  have b3 := st128_1 [.i .u64 x, .i .u64 y] [.i .u64 z, .i .u64 v] 1 0 r1 r2 c2 0 0 r1 r2 c2 0 y z (by decide) (by kernel_rfl) ⟨by decide, by rw [lnV2]; decide⟩ rfl rfl uy uz ur2 z0
  rw [← hc3, ← hr3, show arReal .add .i64 0 1 = 1 by decide] at b3
  obtain ⟨c4, hc4⟩ : ∃ zz, zz = (y * v + c2 + c3) / 18446744073709551616 := ⟨_, rfl⟩
  obtain ⟨r4, hr4⟩ : ∃ zz, zz = (y * v + c2 + c3) % 18446744073709551616 := ⟨_, rfl⟩
  have := uc2.1; have := uc2.2
  have := uc3.1; have := uc3.2
  have uc4 : U64 c4 := ⟨by omega, by omega⟩
  have ur4 : U64 r4 := ⟨by omega, by omega⟩
  have b4 := st128_2 [.i .u64 x, .i .u64 y] [.i .u64 z, .i .u64 v] 1 1 r1 r2 c2 0 c3 r1 r3 c2 0 y v (by decide) (by kernel_rfl) ⟨by decide, by rw [lnV2]; decide⟩ rfl rfl uy uv uc2 uc3
  rw [← hc4, ← hr4, show arReal .add .i64 1 1 = 2 by decide] at b4
  have e1 : d128_b2 [.i .u64 x, .i .u64 y] [.i .u64 z, .i .u64 v] (1, r1, r2, c2, 0) (c4, 2, r1, r3, r4, 0) = some (.inr (c4, r1, r3, r4, 0)) := by
    unfold d128_b2
    rw [if_neg (show ¬ cmpLit .lss (2 : Int) (lenI [.i .u64 z, .i .u64 v]) = true by rw [lnV2]; decide)]
  have w1 : d128_b1 [.i .u64 x, .i .u64 y] [.i .u64 z, .i .u64 v] (1, r1, r2, c2, 0) = some (.inl (2, r1, r3, r4, c4)) := by
    unfold d128_b1
    dsimp only
    rw [if_pos (show cmpLit .lss (1 : Int) (lenI [.i .u64 x, .i .u64 y]) = true by kernel_rfl), if_pos (show Inb (1 : Int) (lenI [.i .u64 x, .i .u64 y]) from ⟨by decide, by rw [lnV2]; decide⟩)]
    rw [iter_inl b3, iter_inl b4, iter_inr e1]
    simp only [Option.bind_some]
    rw [show arReal .add .i64 (1 : Int) (lenI [.i .u64 z, .i .u64 v]) = 3 by kernel_rfl, if_pos (show Inb 3 (Int.ofNat 4) by decide)]
    rw [if_neg (show ¬ cmpLit .eql 3 (Int.ofNat 0) = true by decide)]
    rw [if_neg (show ¬ cmpLit .eql 3 (Int.ofNat 1) = true by decide)]
    rw [if_neg (show ¬ cmpLit .eql 3 (Int.ofNat 2) = true by decide)]
    rfl
  have ee : d128_b1 [.i .u64 x, .i .u64 y] [.i .u64 z, .i .u64 v] (2, r1, r3, r4, c4) = some (.inr (r1, r3, r4, c4)) := by
    unfold d128_b1
    rw [if_neg (show ¬ cmpLit .lss (2 : Int) (lenI [.i .u64 x, .i .u64 y]) = true by rw [lnV2]; decide)]
  refine ⟨r1, r3, r4, c4, ?_, ur1, ur3, ur4, uc4, ?_⟩
  · unfold d128
    rw [iter_inl w0, iter_inl w1, iter_inr ee]
    rfl
  · have e : (x + y * 18446744073709551616) * (z + v * 18446744073709551616) = x * z + x * v * 18446744073709551616 + y * z * 18446744073709551616 + y * v * 340282366920938463463374607431768211456 := by grind
    rw [e]
    generalize x * z = qxz at *
    generalize x * v = qxv at *
    generalize y * z = qyz at *
    generalize y * v = qyv at *
    omega
theorem s129 {a b c d e f g h : Int} (ua : U64 a) (ub : U64 b) (uc : U64 c) (ud : U64 d) (ue : U64 e) (uf : U64 f) (ug : U64 g) (uh : U64 h) (hs : a + b * 18446744073709551616 + c * 340282366920938463463374607431768211456 + d * 6277101735386680763835789423207666416102355444464034512896 + (e + f * 18446744073709551616 + g * 340282366920938463463374607431768211456 + h * 6277101735386680763835789423207666416102355444464034512896) < 115792089237316195423570985008687907853269984665640564039457584007913129639936) : ∃ l0 l1 l2 l3, d129 a b c d e f g h = some (l0, l1, l2, l3) ∧ U64 l0 ∧ U64 l1 ∧ U64 l2 ∧ U64 l3 ∧ l0 + l1 * 18446744073709551616 + l2 * 340282366920938463463374607431768211456 + l3 * 6277101735386680763835789423207666416102355444464034512896 = a + b * 18446744073709551616 + c * 340282366920938463463374607431768211456 + d * 6277101735386680763835789423207666416102355444464034512896 + (e + f * 18446744073709551616 + g * 340282366920938463463374607431768211456 + h * 6277101735386680763835789423207666416102355444464034512896) := by
  have := ua.1; have := ua.2
  have := ub.1; have := ub.2
  have := uc.1; have := uc.2
  have := ud.1; have := ud.2
  have := ue.1; have := ue.2
  have := uf.1; have := uf.2
  have := ug.1; have := ug.2
  have := uh.1; have := uh.2
  obtain ⟨k0, hk0⟩ : ∃ zz, zz = (a + e + 0) / 18446744073709551616 := ⟨_, rfl⟩
  obtain ⟨r0, hr0⟩ : ∃ zz, zz = (a + e + 0) % 18446744073709551616 := ⟨_, rfl⟩
  have b0 : d129_b1 e f g h (0, 0, a, b, c, d) = some (.inl (k0, 1, r0, b, c, d)) := by
    unfold d129_b1
    dsimp only
    rw [if_pos (show cmpLit .lss (0 : Int) 4 = true by decide), if_pos (show Inb 0 (Int.ofNat 4) by decide)]
    rw [if_pos (show cmpLit .eql 0 (Int.ofNat 0) = true by decide)]
    rw [if_pos (show Inb 0 (Int.ofNat 4) by decide)]
    rw [if_pos (show cmpLit .eql 0 (Int.ofNat 0) = true by decide)]
    rw [s68 ua ue (by omega) (by omega)]
    simp only [Option.bind_some]
    rw [if_pos (show Inb 0 (Int.ofNat 4) by decide)]
    rw [if_pos (show cmpLit .eql 0 (Int.ofNat 0) = true by decide)]
    rw [← hk0, ← hr0]
    rfl
  obtain ⟨k1, hk1⟩ : ∃ zz, zz = (b + f + k0) / 18446744073709551616 := ⟨_, rfl⟩
  obtain ⟨r1, hr1⟩ : ∃ zz, zz = (b + f + k0) % 18446744073709551616 := ⟨_, rfl⟩
  have b1 : d129_b1 e f g h (k0, 1, r0, b, c, d) = some (.inl (k1, 2, r0, r1, c, d)) := by
    unfold d129_b1
    dsimp only
    rw [if_pos (show cmpLit .lss (1 : Int) 4 = true by decide), if_pos (show Inb 1 (Int.ofNat 4) by decide)]
    rw [if_neg (show ¬ cmpLit .eql 1 (Int.ofNat 0) = true by decide)]
    rw [if_pos (show cmpLit .eql 1 (Int.ofNat 1) = true by decide)]
    rw [if_pos (show Inb 1 (Int.ofNat 4) by decide)]
    rw [if_neg (show ¬ cmpLit .eql 1 (Int.ofNat 0) = true by decide)]
    rw [if_pos (show cmpLit .eql 1 (Int.ofNat 1) = true by decide)]
    rw [s68 ub uf (by omega) (by omega)]
    simp only [Option.bind_some]
    rw [if_pos (show Inb 1 (Int.ofNat 4) by decide)]
    rw [if_neg (show ¬ cmpLit .eql 1 (Int.ofNat 0) = true by decide)]
    rw [if_pos (show cmpLit .eql 1 (Int.ofNat 1) = true by decide)]
    rw [← hk1, ← hr1]
    rfl
  obtain ⟨k2, hk2⟩ : ∃ zz, zz = (c + g + k1) / 18446744073709551616 := ⟨_, rfl⟩
  obtain ⟨r2, hr2⟩ : ∃ zz, zz = (c + g + k1) % 18446744073709551616 := ⟨_, rfl⟩
  have b2 : d129_b1 e f g h (k1, 2, r0, r1, c, d) = some (.inl (k2, 3, r0, r1, r2, d)) := by
    unfold d129_b1
    dsimp only
    rw [if_pos (show cmpLit .lss (2 : Int) 4 = true by decide), if_pos (show Inb 2 (Int.ofNat 4) by decide)]
    rw [if_neg (show ¬ cmpLit .eql 2 (Int.ofNat 0) = true by decide)]
    rw [if_neg (show ¬ cmpLit .eql 2 (Int.ofNat 1) = true by decide)]
    rw [if_pos (show cmpLit .eql 2 (Int.ofNat 2) = true by decide)]
    rw [if_pos (show Inb 2 (Int.ofNat 4) by decide)]
    rw [if_neg (show ¬ cmpLit .eql 2 (Int.ofNat 0) = true by decide)]
    rw [if_neg (show ¬ cmpLit .eql 2 (Int.ofNat 1) = true by decide)]
    rw [if_pos (show cmpLit .eql 2 (Int.ofNat 2) = true by decide)]
    rw [s68 uc ug (by omega) (by omega)]
    simp only [Option.bind_some]
    rw [if_pos (show Inb 2 (Int.ofNat 4) by decide)]
    rw [if_neg (show ¬ cmpLit .eql 2 (Int.ofNat 0) = true by decide)]
    rw [if_neg (show ¬ cmpLit .eql 2 (Int.ofNat 1) = true by decide)]
    rw [if_pos (show cmpLit .eql 2 (Int.ofNat 2) = true by decide)]
    rw [← hk2, ← hr2]
    rfl
  obtain ⟨k3, hk3⟩ : ∃ zz, zz = (d + h + k2) / 18446744073709551616 := ⟨_, rfl⟩
  obtain ⟨r3, hr3⟩ : ∃ zz, zz = (d + h + k2) % 18446744073709551616 := ⟨_, rfl⟩
  have b3 : d129_b1 e f g h (k2, 3, r0, r1, r2, d) = some (.inl (k3, 4, r0, r1, r2, r3)) := by
    unfold d129_b1
    dsimp only
    rw [if_pos (show cmpLit .lss (3 : Int) 4 = true by decide), if_pos (show Inb 3 (Int.ofNat 4) by decide)]
    rw [if_neg (show ¬ cmpLit .eql 3 (Int.ofNat 0) = true by decide)]
    rw [if_neg (show ¬ cmpLit .eql 3 (Int.ofNat 1) = true by decide)]
    rw [if_neg (show ¬ cmpLit .eql 3 (Int.ofNat 2) = true by decide)]
    rw [if_pos (show Inb 3 (Int.ofNat 4) by decide)]
    rw [if_neg (show ¬ cmpLit .eql 3 (Int.ofNat 0) = true by decide)]
    rw [if_neg (show ¬ cmpLit .eql 3 (Int.ofNat 1) = true by decide)]
    rw [if_neg (show ¬ cmpLit .eql 3 (Int.ofNat 2) = true by decide)]
    rw [s68 ud uh (by omega) (by omega)]
    simp only [Option.bind_some]
    rw [if_pos (show Inb 3 (Int.ofNat 4) by decide)]
    rw [if_neg (show ¬ cmpLit .eql 3 (Int.ofNat 0) = true by decide)]
    rw [if_neg (show ¬ cmpLit .eql 3 (Int.ofNat 1) = true by decide)]
    rw [if_neg (show ¬ cmpLit .eql 3 (Int.ofNat 2) = true by decide)]
    rw [← hk3, ← hr3]
    rfl
  have ee : d129_b1 e f g h (k3, 4, r0, r1, r2, r3) = some (.inr (r0, r1, r2, r3)) := by
    unfold d129_b1
    dsimp only
    rw [if_neg (show ¬ cmpLit .lss (4 : Int) 4 = true by decide)]
  refine ⟨r0, r1, r2, r3, ?_, ⟨by omega, by omega⟩, ⟨by omega, by omega⟩, ⟨by omega, by omega⟩, ⟨by omega, by omega⟩, by omega⟩
  unfold d129
  rw [iter_inl b0, iter_inl b1, iter_inl b2, iter_inl b3, iter_inr ee]
  rfl
theorem s130 {a b c d e f g h : Int} (ua : U64 a) (ub : U64 b) (uc : U64 c) (ud : U64 d) (ue : U64 e) (uf : U64 f) (ug : U64 g) (uh : U64 h) : d130 a b c d e f g h = some (decide (a + b * 18446744073709551616 + c * 340282366920938463463374607431768211456 + d * 6277101735386680763835789423207666416102355444464034512896 < e + f * 18446744073709551616 + g * 340282366920938463463374607431768211456 + h * 6277101735386680763835789423207666416102355444464034512896)) := by
  have := ua.1; have := ua.2
  have := ub.1; have := ub.2
  have := uc.1; have := uc.2
  have := ud.1; have := ud.2
  have := ue.1; have := ue.2
  have := uf.1; have := uf.2
  have := ug.1; have := ug.2
  have := uh.1; have := uh.2
  have n3 : ¬ d = h → d130_b1 a b c d e f g h 3 = some (.inr (.inl (decide (d < h)))) := by
    intro hn
    unfold d130_b1
    rw [if_pos (show cmpLit .geq (3 : Int) 0 = true by decide), if_pos (show Inb 3 (Int.ofNat 4) by decide)]
    rw [if_neg (show ¬ cmpLit .eql 3 (Int.ofNat 0) = true by decide)]
    rw [if_neg (show ¬ cmpLit .eql 3 (Int.ofNat 1) = true by decide)]
    rw [if_neg (show ¬ cmpLit .eql 3 (Int.ofNat 2) = true by decide)]
    rw [if_pos (show Inb 3 (Int.ofNat 4) by decide)]
    rw [if_neg (show ¬ cmpLit .eql 3 (Int.ofNat 0) = true by decide)]
    rw [if_neg (show ¬ cmpLit .eql 3 (Int.ofNat 1) = true by decide)]
    rw [if_neg (show ¬ cmpLit .eql 3 (Int.ofNat 2) = true by decide)]
    rw [c_neq, nif' hn, if_pos (show Inb 3 (Int.ofNat 4) by decide)]
    rw [if_neg (show ¬ cmpLit .eql 3 (Int.ofNat 0) = true by decide)]
    rw [if_neg (show ¬ cmpLit .eql 3 (Int.ofNat 1) = true by decide)]
    rw [if_neg (show ¬ cmpLit .eql 3 (Int.ofNat 2) = true by decide)]
    rw [if_pos (show Inb 3 (Int.ofNat 4) by decide)]
    rw [if_neg (show ¬ cmpLit .eql 3 (Int.ofNat 0) = true by decide)]
    rw [if_neg (show ¬ cmpLit .eql 3 (Int.ofNat 1) = true by decide)]
    rw [if_neg (show ¬ cmpLit .eql 3 (Int.ofNat 2) = true by decide)]
    rw [c_lss]
  have y3 : d = h → d130_b1 a b c d e f g h 3 = some (.inl (2)) := by
    intro hn
    unfold d130_b1
    rw [if_pos (show cmpLit .geq (3 : Int) 0 = true by decide), if_pos (show Inb 3 (Int.ofNat 4) by decide)]
    rw [if_neg (show ¬ cmpLit .eql 3 (Int.ofNat 0) = true by decide)]
    rw [if_neg (show ¬ cmpLit .eql 3 (Int.ofNat 1) = true by decide)]
    rw [if_neg (show ¬ cmpLit .eql 3 (Int.ofNat 2) = true by decide)]
    rw [if_pos (show Inb 3 (Int.ofNat 4) by decide)]
    rw [if_neg (show ¬ cmpLit .eql 3 (Int.ofNat 0) = true by decide)]
    rw [if_neg (show ¬ cmpLit .eql 3 (Int.ofNat 1) = true by decide)]
    rw [if_neg (show ¬ cmpLit .eql 3 (Int.ofNat 2) = true by decide)]
    rw [c_neq, nif hn]
    rfl
  have n2 : ¬ c = g → d130_b1 a b c d e f g h 2 = some (.inr (.inl (decide (c < g)))) := by
    intro hn
    unfold d130_b1
    rw [if_pos (show cmpLit .geq (2 : Int) 0 = true by decide), if_pos (show Inb 2 (Int.ofNat 4) by decide)]
    rw [if_neg (show ¬ cmpLit .eql 2 (Int.ofNat 0) = true by decide)]
    rw [if_neg (show ¬ cmpLit .eql 2 (Int.ofNat 1) = true by decide)]
    rw [if_pos (show cmpLit .eql 2 (Int.ofNat 2) = true by decide)]
    rw [if_pos (show Inb 2 (Int.ofNat 4) by decide)]
    rw [if_neg (show ¬ cmpLit .eql 2 (Int.ofNat 0) = true by decide)]
    rw [if_neg (show ¬ cmpLit .eql 2 (Int.ofNat 1) = true by decide)]
    rw [if_pos (show cmpLit .eql 2 (Int.ofNat 2) = true by decide)]
    rw [c_neq, nif' hn, if_pos (show Inb 2 (Int.ofNat 4) by decide)]
    rw [if_neg (show ¬ cmpLit .eql 2 (Int.ofNat 0) = true by decide)]
    rw [if_neg (show ¬ cmpLit .eql 2 (Int.ofNat 1) = true by decide)]
    rw [if_pos (show cmpLit .eql 2 (Int.ofNat 2) = true by decide)]
    rw [if_pos (show Inb 2 (Int.ofNat 4) by decide)]
    rw [if_neg (show ¬ cmpLit .eql 2 (Int.ofNat 0) = true by decide)]
    rw [if_neg (show ¬ cmpLit .eql 2 (Int.ofNat 1) = true by decide)]
    rw [if_pos (show cmpLit .eql 2 (Int.ofNat 2) = true by decide)]
    rw [c_lss]
  have y2 : c = g → d130_b1 a b c d e f g h 2 = some (.inl (1)) := by
    intro hn
    unfold d130_b1
    rw [if_pos (show cmpLit .geq (2 : Int) 0 = true by decide), if_pos (show Inb 2 (Int.ofNat 4) by decide)]
    rw [if_neg (show ¬ cmpLit .eql 2 (Int.ofNat 0) = true by decide)]
    rw [if_neg (show ¬ cmpLit .eql 2 (Int.ofNat 1) = true by decide)]
    rw [if_pos (show cmpLit .eql 2 (Int.ofNat 2) = true by decide)]
    rw [if_pos (show Inb 2 (Int.ofNat 4) by decide)]
    rw [if_neg (show ¬ cmpLit .eql 2 (Int.ofNat 0) = true by decide)]
    rw [if_neg (show ¬ cmpLit .eql 2 (Int.ofNat 1) = true by decide)]
    rw [if_pos (show cmpLit .eql 2 (Int.ofNat 2) = true by decide)]
    rw [c_neq, nif hn]
    rfl
  have n1 : ¬ b = f → d130_b1 a b c d e f g h 1 = some (.inr (.inl (decide (b < f)))) := by
    intro hn
    unfold d130_b1
    rw [if_pos (show cmpLit .geq (1 : Int) 0 = true by decide), if_pos (show Inb 1 (Int.ofNat 4) by decide)]
    rw [if_neg (show ¬ cmpLit .eql 1 (Int.ofNat 0) = true by decide)]
    rw [if_pos (show cmpLit .eql 1 (Int.ofNat 1) = true by decide)]
    rw [if_pos (show Inb 1 (Int.ofNat 4) by decide)]
    rw [if_neg (show ¬ cmpLit .eql 1 (Int.ofNat 0) = true by decide)]
    rw [if_pos (show cmpLit .eql 1 (Int.ofNat 1) = true by decide)]
    rw [c_neq, nif' hn, if_pos (show Inb 1 (Int.ofNat 4) by decide)]
    rw [if_neg (show ¬ cmpLit .eql 1 (Int.ofNat 0) = true by decide)]
    rw [if_pos (show cmpLit .eql 1 (Int.ofNat 1) = true by decide)]
    rw [if_pos (show Inb 1 (Int.ofNat 4) by decide)]
    rw [if_neg (show ¬ cmpLit .eql 1 (Int.ofNat 0) = true by decide)]
    rw [if_pos (show cmpLit .eql 1 (Int.ofNat 1) = true by decide)]
    rw [c_lss]
  have y1 : b = f → d130_b1 a b c d e f g h 1 = some (.inl (0)) := by
    intro hn
    unfold d130_b1
    rw [if_pos (show cmpLit .geq (1 : Int) 0 = true by decide), if_pos (show Inb 1 (Int.ofNat 4) by decide)]
    rw [if_neg (show ¬ cmpLit .eql 1 (Int.ofNat 0) = true by decide)]
    rw [if_pos (show cmpLit .eql 1 (Int.ofNat 1) = true by decide)]
    rw [if_pos (show Inb 1 (Int.ofNat 4) by decide)]
    rw [if_neg (show ¬ cmpLit .eql 1 (Int.ofNat 0) = true by decide)]
    rw [if_pos (show cmpLit .eql 1 (Int.ofNat 1) = true by decide)]
    rw [c_neq, nif hn]
    rfl
  have n0 : ¬ a = e → d130_b1 a b c d e f g h 0 = some (.inr (.inl (decide (a < e)))) := by
    intro hn
    unfold d130_b1
    rw [if_pos (show cmpLit .geq (0 : Int) 0 = true by decide), if_pos (show Inb 0 (Int.ofNat 4) by decide)]
    rw [if_pos (show cmpLit .eql 0 (Int.ofNat 0) = true by decide)]
    rw [if_pos (show Inb 0 (Int.ofNat 4) by decide)]
    rw [if_pos (show cmpLit .eql 0 (Int.ofNat 0) = true by decide)]
    rw [c_neq, nif' hn, if_pos (show Inb 0 (Int.ofNat 4) by decide)]
    rw [if_pos (show cmpLit .eql 0 (Int.ofNat 0) = true by decide)]
    rw [if_pos (show Inb 0 (Int.ofNat 4) by decide)]
    rw [if_pos (show cmpLit .eql 0 (Int.ofNat 0) = true by decide)]
    rw [c_lss]
  have y0 : a = e → d130_b1 a b c d e f g h 0 = some (.inl (-1)) := by
    intro hn
    unfold d130_b1
    rw [if_pos (show cmpLit .geq (0 : Int) 0 = true by decide), if_pos (show Inb 0 (Int.ofNat 4) by decide)]
    rw [if_pos (show cmpLit .eql 0 (Int.ofNat 0) = true by decide)]
    rw [if_pos (show Inb 0 (Int.ofNat 4) by decide)]
    rw [if_pos (show cmpLit .eql 0 (Int.ofNat 0) = true by decide)]
    rw [c_neq, nif hn]
    rfl
  have ee : d130_b1 a b c d e f g h (-1) = some (.inr (.inr ())) := by
    unfold d130_b1
    rw [if_neg (by decide)]
  unfold d130
  by_cases h3 : d = h
  · rw [iter_inl (y3 h3)]
    by_cases h2 : c = g
    · rw [iter_inl (y2 h2)]
      by_cases h1 : b = f
      · rw [iter_inl (y1 h1)]
        by_cases h0 : a = e
        · rw [iter_inl (y0 h0)]
          rw [iter_inr ee]
          exact someF (by omega)
        · rw [iter_inr (n0 h0)]
          exact someD (by omega)
      · rw [iter_inr (n1 h1)]
        exact someD (by omega)
    · rw [iter_inr (n2 h2)]
      exact someD (by omega)
  · rw [iter_inr (n3 h3)]
    exact someD (by omega)
end Go.Proofs.Ytmofhbedamjblaa
end
section
namespace Go.Proofs.Ytmofhbedamjblaa
open Go.Ab Go.RowKit
set_option maxRecDepth 100000

open Classical in
/-- A number, bit by bit, the greatest bit first. -/
noncomputable def bits (P : Int → Prop) : Nat → Int → Int
  | 0, r => r
  | k + 1, r => if P (r + 2 ^ k) then bits P k (r + 2 ^ k) else bits P k r
theorem two_succ (k : Nat) : (2 : Int) ^ (k + 1) = 2 ^ k + 2 ^ k := by rw [Int.pow_succ]; omega
theorem two_pos (k : Nat) : (0 : Int) < 2 ^ k := Int.pow_pos (by omega)
open Classical in
theorem bits_iter (f : Int × Int → Option ((Int × Int) ⊕ Int)) (P : Int → Prop) (h0 : ∀ r, f (r, -1) = some (.inr r))
    (hf : ∀ (k : Nat) (a : Int), k ≤ 62 → 0 ≤ a → a * 2 ^ (k + 1) + 2 ^ (k + 1) ≤ 9223372036854775808 → f (a * 2 ^ (k + 1), (k : Int)) = some (.inl (if P (a * 2 ^ (k + 1) + 2 ^ k) then a * 2 ^ (k + 1) + 2 ^ k else a * 2 ^ (k + 1), (k : Int) - 1))) :
    ∀ (n : Nat) (a : Int), n ≤ 63 → 0 ≤ a → a * 2 ^ n + 2 ^ n ≤ 9223372036854775808 → iter f (a * 2 ^ n, (n : Int) - 1) = some (bits P n (a * 2 ^ n)) ∧ 0 ≤ bits P n (a * 2 ^ n) ∧ bits P n (a * 2 ^ n) < 9223372036854775808
  | 0, a, _, ha, hb => by
    refine ⟨iter_inr (h0 _), Int.mul_nonneg ha (by decide), ?_⟩
    show a * 2 ^ 0 < _
    have : (2 : Int) ^ 0 = 1 := by decide
    omega
  | n + 1, a, hn, ha, hb => by
    have ep := two_succ n
    have hp := two_pos n
    have e1 : a * 2 ^ (n + 1) = (2 * a) * 2 ^ n := by rw [ep]; grind
    have e2 : a * 2 ^ (n + 1) + 2 ^ n = (2 * a + 1) * 2 ^ n := by rw [ep]; grind
    have hs := hf n a (by omega) ha hb
    have ei : ((n + 1 : Nat) : Int) - 1 = (n : Int) := by omega
    rw [ei, iter_inl hs]
    unfold bits
    by_cases hP : P (a * 2 ^ (n + 1) + 2 ^ n)
    · rw [if_pos hP, if_pos hP, e2]
      exact bits_iter f P h0 hf n (2 * a + 1) (by omega) (by omega) (by omega)
    · rw [if_neg hP, if_neg hP, e1]
      exact bits_iter f P h0 hf n (2 * a) (by omega) (by omega) (by omega)
theorem bits_none {P : Int → Prop} (h : ∀ r, 0 < r → ¬ P r) : ∀ n, bits P n 0 = 0
  | 0 => rfl
  | n + 1 => by
    unfold bits
    rw [if_neg (h _ (by have := two_pos n; omega))]
    exact bits_none h n
theorem bits_congr {P Q : Int → Prop} (h : ∀ r, 0 < r → r < 9223372036854775808 → (P r ↔ Q r)) : ∀ (n : Nat) (a : Int), 0 ≤ a → a * 2 ^ n + 2 ^ n ≤ 9223372036854775808 → bits P n (a * 2 ^ n) = bits Q n (a * 2 ^ n)
  | 0, a, _, _ => rfl
  | n + 1, a, ha, hb => by
    have ep := two_succ n
    have hp := two_pos n
    have e1 : a * 2 ^ (n + 1) = (2 * a) * 2 ^ n := by rw [ep]; grind
    have e2 : a * 2 ^ (n + 1) + 2 ^ n = (2 * a + 1) * 2 ^ n := by rw [ep]; grind
    have hm : 0 ≤ (2 * a) * 2 ^ n := Int.mul_nonneg (by omega) (by omega)
    have hpq := h (a * 2 ^ (n + 1) + 2 ^ n) (by omega) (by omega)
    unfold bits
    by_cases hP : P (a * 2 ^ (n + 1) + 2 ^ n)
    · rw [if_pos hP, if_pos (hpq.1 hP), e2]
      exact bits_congr h n (2 * a + 1) (by omega) (by omega)
    · rw [if_neg hP, if_neg (fun k => hP (hpq.2 k)), e1]
      exact bits_congr h n (2 * a) (by omega) (by omega)

/-- The sum of squares. -/
def Sq (h l : Int) : Int := W2 (wrapK .u64 h) (wrapK .u64 l)
def dvP (n sum S r : Int) : Prop := (r * n) * (r * n) + sum * sum ≤ n * S
/-- The deviation. -/
noncomputable def dv (n sum S : Int) : Int := if n = 0 ∨ S = 0 then 0 else bits (dvP n sum S) 63 0
theorem dv_0 {n sum S : Int} (h : n = 0 ∨ S = 0) : dv n sum S = 0 := by unfold dv; rw [if_pos h]
theorem dv_1 {n sum S : Int} (h : ¬ n = 0) (h2 : ¬ S = 0) : dv n sum S = bits (dvP n sum S) 63 0 := by
  unfold dv; rw [if_neg (by rintro (k | k); exact h k; exact h2 k)]
theorem or_bit {a : Int} {k : Nat} (ha : 0 ≤ a) (hk : k ≤ 62) (hb : a * 2 ^ (k + 1) + 2 ^ (k + 1) ≤ 9223372036854775808) : arReal .or .u64 (a * 2 ^ (k + 1)) (arReal .shl .u64 1 (k : Int)) = a * 2 ^ (k + 1) + 2 ^ k := by
  have ep := two_succ k
  have hp := two_pos k
  have hm : 0 ≤ a * 2 ^ (k + 1) := Int.mul_nonneg ha (by omega)
  have e : ((2 ^ k : Nat) : Int) = (2 : Int) ^ k := by push_cast; rfl
  have e' : ((2 ^ (k + 1) : Nat) : Int) = (2 : Int) ^ (k + 1) := by push_cast; rfl
  have e1 : arReal .shl .u64 1 (k : Int) = 2 ^ k := by
    rw [ar_shlu _ _ (by omega), Int.one_mul, e]
    omega
  rw [e1]
  have := ar_oru (a := a) (b := 2 ^ k) (n := k + 1) ha (by omega) (by omega) (by rw [e']; omega) (by rw [e']; omega)
  rw [e'] at this
  exact this
open Classical in
theorem s108 {nm : ByteArray} {fn : Int} {p ks : List V} {n sum h l : Int} (hn : Cnt n) (hsum : I64 sum) : d108 nm fn p ks (vi [n, sum, h, l]) = some (dv n sum (Sq h l)) ∧ 0 ≤ dv n sum (Sq h l) := by
  obtain ⟨n0, n1⟩ := hn
  have us := wku_u h
  have ul := wku_u l
  have us1 := us.1; have us2 := us.2; have ul1 := ul.1; have ul2 := ul.2
  have hd : d126 nm fn p ks (vi [n, sum, h, l]) = some (wrapK .u64 h, wrapK .u64 l) := by
    unfold d126
    simp only [iv42, iv43, ↓reduceIte, g42, g43]
  unfold d108
  rw [if_pos (iv40 _ _ _ _), g40, c_eql, hd]
  by_cases hz : n = 0
  · rw [yif hz, dv_0 (.inl hz)]; exact ⟨rfl, by omega⟩
  rw [yif' hz]
  simp only [Option.bind_some, c_eql]
  by_cases hS : Sq h l = 0
  · rw [dv_0 (.inr hS)]
    have hz1 : wrapK .u64 h = 0 := by unfold Sq W2 at hS; omega
    have hz2 : wrapK .u64 l = 0 := by unfold Sq W2 at hS; omega
    rw [if_pos (by rw [dT hz1, dT hz2]; rfl)]
    exact ⟨rfl, by omega⟩
  have hnz : ¬ (andB' (decide (wrapK .u64 h = 0)) (decide (wrapK .u64 l = 0)) = true) := by
    intro hh
    unfold andB' at hh
    rw [Bool.and_eq_true, decide_eq_true_eq, decide_eq_true_eq] at hh
    apply hS
    unfold Sq W2; omega
  rw [dv_1 hz hS, if_neg hnz, if_pos (iv40 _ _ _ _)]
  have un : U64 n := ⟨n0, by omega⟩
  rw [wk_u un]
  obtain ⟨a0, a1, a2, a3, ea, ua0, ua1, ua2, ua3, ha⟩ := s128_12 (x := n) (y := wrapK .u64 l) (z := wrapK .u64 h) un ul us
  rw [ea]
  simp only [Option.bind_some]
  rw [if_pos (iv41 _ _ _ _), g41, s124 hsum]
  simp only [Option.bind_some]
  have hall : a0 + a1 * 18446744073709551616 + a2 * 340282366920938463463374607431768211456 + a3 * 6277101735386680763835789423207666416102355444464034512896 = n * Sq h l := by
    rw [ha]; unfold Sq W2; grind
  have hsq : 0 ≤ sum * sum ∧ sum * sum ≤ 85070591730234615865843651857942052864 := by
    obtain ⟨q1, q2⟩ := hsum
    by_cases hs : 0 ≤ sum
    · have := mul_rng2 (x := sum) (y := sum) (m := 9223372036854775808) (n := 9223372036854775808) hs (by omega) hs (by omega)
      omega
    · have := mul_rng2 (x := -sum) (y := -sum) (m := 9223372036854775808) (n := 9223372036854775808) (by omega) (by omega) (by omega) (by omega)
      rw [Int.neg_mul_neg] at this
      omega
  have hb : ∀ (k : Nat) (a : Int), k ≤ 62 → 0 ≤ a → a * 2 ^ (k + 1) + 2 ^ (k + 1) ≤ 9223372036854775808 → d108_b1 (vi [n, sum, h, l]) (a0, a1, a2, a3) (sum * sum / 18446744073709551616, sum * sum % 18446744073709551616) (a * 2 ^ (k + 1), (k : Int)) = some (.inl (if dvP n sum (Sq h l) (a * 2 ^ (k + 1) + 2 ^ k) then a * 2 ^ (k + 1) + 2 ^ k else a * 2 ^ (k + 1), (k : Int) - 1)) := by
    intro k a hk ha0 hab
    have ep := two_succ k
    have hp := two_pos k
    have hm : 0 ≤ a * 2 ^ (k + 1) := Int.mul_nonneg ha0 (by omega)
    have hr1 : 0 ≤ a * 2 ^ (k + 1) + 2 ^ k := by omega
    have hr2 : a * 2 ^ (k + 1) + 2 ^ k < 9223372036854775808 := by omega
    unfold d108_b1
    dsimp only
    rw [if_pos (by rw [c_geq]; exact dT (by omega)), if_pos (show Ge0 (k : Int) by unfold Ge0; omega), or_bit ha0 hk hab, g40, wk_u un]
    have es : arReal .sub .i64 (k : Int) 1 = (k : Int) - 1 := ar_sub' ⟨by omega, by omega⟩
    rw [es, if_pos (show Ge0 (k : Int) by unfold Ge0; omega)]
    generalize a * 2 ^ (k + 1) = r at *
    generalize (2 : Int) ^ k = bb at *
    have ur : U64 (r + bb) := ⟨by omega, by omega⟩
    obtain ⟨l0, l1, l2, l3, e1, u0, u1, u2, u3, h1⟩ := s128_11 (x := r + bb) (y := n) ur un
    rw [e1]
    simp only [Option.bind_some]
    obtain ⟨m0, m1, m2, m3, e2, v0, v1, v2, v3, h2⟩ := s128_22 (x := l0) (y := l1) (z := l0) (v := l1) u0 u1 u0 u1
    rw [e2]
    simp only [Option.bind_some]
    have hrn := mul_rng2 (x := r + bb) (y := n) (m := 9223372036854775808) (n := 4611686018427387904) (by omega) (by omega) n0 n1
    have u0' := u0.1; have u1' := u1.1; have u2' := u2.1; have u3' := u3.1
    have hv : l0 + l1 * 18446744073709551616 = (r + bb) * n := by omega
    rw [hv] at h2
    have hsqr := mul_rng2 (x := (r + bb) * n) (y := (r + bb) * n) (m := 42535295865117307932921825928971026432) (n := 42535295865117307932921825928971026432) (by omega) (by omega) (by omega) (by omega)
    have us1 : U64 (sum * sum % 18446744073709551616) := ⟨by omega, by omega⟩
    have us2 : U64 (sum * sum / 18446744073709551616) := ⟨by omega, by omega⟩
    have z0 : U64 0 := ⟨by omega, by omega⟩
    generalize hqq : (r + bb) * n * ((r + bb) * n) = Q at *
    generalize hss : sum * sum = s2 at *
    obtain ⟨t0, t1, t2, t3, e3, w0, w1, w2, w3, h3⟩ := s129 (a := m0) (b := m1) (c := m2) (d := m3) (e := s2 % 18446744073709551616) (f := s2 / 18446744073709551616) (g := 0) (h := 0) v0 v1 v2 v3 us1 us2 z0 z0 (by omega)
    rw [e3]
    simp only [Option.bind_some]
    rw [s130 ua0 ua1 ua2 ua3 w0 w1 w2 w3, h3, hall, h2]
    simp only [Option.bind_some, notB_dec]
    have hiff : dvP n sum (Sq h l) (r + bb) ↔ ¬ (n * Sq h l < Q + (s2 % 18446744073709551616 + s2 / 18446744073709551616 * 18446744073709551616 + 0 * 340282366920938463463374607431768211456 + 0 * 6277101735386680763835789423207666416102355444464034512896)) := by
      unfold dvP
      rw [hqq, hss]
      generalize n * Sq h l = A
      omega
    by_cases hP : dvP n sum (Sq h l) (r + bb)
    · rw [if_pos hP]
      exact if_pos (dT (hiff.1 hP))
    · rw [if_neg hP]
      exact if_neg (by rw [dF (fun k => hP (hiff.2 k))]; simp)
  have hI := bits_iter (d108_b1 (vi [n, sum, h, l]) (a0, a1, a2, a3) (sum * sum / 18446744073709551616, sum * sum % 18446744073709551616)) (dvP n sum (Sq h l)) (fun r => by unfold d108_b1; rw [if_neg (by dsimp only; decide)]) hb 63 0 (by omega) (by omega) (by decide)
  rw [Int.zero_mul, show ((63 : Nat) : Int) - 1 = 62 by decide] at hI
  rw [hI.1]
  simp only [Option.bind_some]
  rw [wk_i ⟨by have := hI.2.1; omega, by have := hI.2.2; omega⟩]
  exact ⟨rfl, hI.2.1⟩
end Go.Proofs.Ytmofhbedamjblaa
end
section
namespace Go.Proofs.Ytmofhbedamjblaa
open Go.Ab Go.RowKit
set_option maxRecDepth 100000

def tot (s : List Int) : Int := s.foldl (fun n v => wrapK .i64 (n + v)) 0
/-- The number that a valid state stands for. -/
noncomputable def val (fn : Int) (s : List Int) : Int :=
  if fn ≤ 2 then s.getD 0 0 else if fn ≤ 4 then s.getD 1 0 else if fn = 5 then (if s.getD 0 0 = 0 then 0 else arReal .quo .i64 (s.getD 1 0) (s.getD 0 0))
  else if fn = 6 then dv (s.getD 0 0) (s.getD 1 0) (Sq (s.getD 2 0) (s.getD 3 0)) else tot s
theorem s110 (nm : ByteArray) (fn : Int) (p ks : List V) (s : List Int) (hs : s.length ≤ 2000) : d110 nm fn p ks (vi s) = some (tot s) := by
  have hI : iter (d110_b1 (vi s)) ((s.take 0).foldl (fun n v => wrapK .i64 (n + v)) 0, ((0 : Nat) : Int)) = some ((s.take s.length).foldl (fun n v => wrapK .i64 (n + v)) 0) := by
    refine scan (d110_b1 (vi s)) (fun j => ((s.take j).foldl (fun n v => wrapK .i64 (n + v)) 0, (j : Int))) (i := s.length) (Nat.zero_le _) (fun j _ hj => ?_) ?_
    · unfold d110_b1
      dsimp only
      rw [lenI_vi, if_pos (lt_i hj), if_pos (inb_i hj), gI_vi _ _ hj, succ_i hj (by omega), List.take_succ_eq_append_getElem hj, List.foldl_append]
      rfl
    · unfold d110_b1
      dsimp only
      rw [lenI_vi, if_neg (nlt_i _)]
  rw [List.take_length] at hI
  have hI' : iter (d110_b1 (vi s)) (0, 0) = some (tot s) := hI
  unfold d110
  rw [hI']
  rfl
theorem tot_i (s : List Int) : I64 (tot s) := by
  unfold tot
  rcases List.eq_nil_or_concat s with rfl | ⟨l, a, rfl⟩
  · exact ⟨by decide, by decide⟩
  · rw [List.concat_eq_append, List.foldl_append]
    show I64 (wrapK .i64 _)
    rw [wk_i64]; exact ⟨by omega, by omega⟩
theorem iv10 (a : Int) : Inb 0 (lenI (vi [a])) := ⟨by omega, by rw [vi_len]; show (0 : Int) < 1; omega⟩
/-- The number that a state stands for. -/
theorem s39 {nm : ByteArray} {fn : Int} {p : List Int} {ks : List V} (h : okA nm fn p ks) {s : List Int} (hs : valS fn p s) (hi : ∀ x ∈ s, I64 x) : d39 nm fn (vi p) ks (vi s) = some (val fn s) := by
  have ls := val_len h hs
  unfold d39
  rw [e70]
  simp only [Option.bind_some]
  rcases fn_cases h.fn with rfl | rfl | rfl | rfl | rfl | rfl | rfl | rfl | rfl
  · rw [if_pos (show Inb 1 (Int.ofNat 10) by decide), if_neg (by decide), if_pos (by decide)]
    obtain ⟨a, rfl, ha⟩ := v1 hs
    unfold d95
    rw [if_pos (iv10 a)]
    rfl
  · rw [if_pos (show Inb 2 (Int.ofNat 10) by decide), if_neg (by decide), if_neg (by decide), if_pos (by decide)]
    obtain ⟨a, rfl⟩ := v2 hs
    unfold d95
    rw [if_pos (iv10 a)]
    rfl
  · rw [if_pos (show Inb 3 (Int.ofNat 10) by decide), if_neg (by decide), if_neg (by decide), if_neg (by decide), if_pos (by decide)]
    obtain ⟨a, x, rfl, ha, _⟩ := v345 (by omega) hs
    unfold d100
    rw [if_pos (iv21 a x)]
    rfl
  · rw [if_pos (show Inb 4 (Int.ofNat 10) by decide), if_neg (by decide), if_neg (by decide), if_neg (by decide), if_neg (by decide), if_pos (by decide)]
    obtain ⟨a, x, rfl, ha, _⟩ := v345 (by omega) hs
    unfold d100
    rw [if_pos (iv21 a x)]
    rfl
  · rw [if_pos (show Inb 5 (Int.ofNat 10) by decide), if_neg (by decide), if_neg (by decide), if_neg (by decide), if_neg (by decide), if_neg (by decide), if_pos (by decide)]
    obtain ⟨a, x, rfl, ha, _⟩ := v345 (by omega) hs
    unfold d105
    have e : val 5 [a, x] = if a = 0 then 0 else arReal .quo .i64 x a := by unfold val; rw [if_neg (by omega), if_neg (by omega), if_pos rfl]; rfl
    simp only [iv20, iv21, ↓reduceIte, g20, g21, c_eql]
    rw [e]
    by_cases hz : a = 0
    · rw [yif hz, if_pos hz]; rfl
    · rw [yif' hz, if_neg hz, if_pos (show Ne0 a from hz)]; rfl
  · rw [if_pos (show Inb 6 (Int.ofNat 10) by decide), if_neg (by decide), if_neg (by decide), if_neg (by decide), if_neg (by decide), if_neg (by decide), if_neg (by decide), if_pos (by decide)]
    obtain ⟨a, x, y, z, rfl, ha, _⟩ := v6 hs
    rw [(s108 ha (hi x (by simp))).1]
    rfl
  · rw [if_pos (show Inb 7 (Int.ofNat 10) by decide), if_neg (by decide), if_neg (by decide), if_neg (by decide), if_neg (by decide), if_neg (by decide), if_neg (by decide), if_neg (by decide), if_pos (by decide)]
    rw [s110 _ _ _ _ s (by omega)]
    rfl
  · rw [if_pos (show Inb 8 (Int.ofNat 10) by decide), if_neg (by decide), if_neg (by decide), if_neg (by decide), if_neg (by decide), if_neg (by decide), if_neg (by decide), if_neg (by decide), if_neg (by decide), if_pos (by decide)]
    rw [s110 _ _ _ _ s (by omega)]
    rfl
  · rw [if_pos (show Inb 9 (Int.ofNat 10) by decide), if_neg (by decide), if_neg (by decide), if_neg (by decide), if_neg (by decide), if_neg (by decide), if_neg (by decide), if_neg (by decide), if_neg (by decide), if_neg (by decide)]
    rw [s110 _ _ _ _ s (by omega)]
    rfl
theorem s21 (nm : ByteArray) (fn : Int) (p : List Int) (ks : List V) (hp : ∀ x ∈ p, I64 x) (s : List Int) (hs : s.length ≤ 9223372036854775807) (hi : ∀ x ∈ s, I64 x) :
    d21 nm fn (vi p) ks (vi s) = some (if chkS nm fn p ks s = 0 then (val fn s, 0) else (0, chkS nm fn p ks s)) := by
  unfold d21
  rw [s37_1 nm fn p ks hp s hs]
  simp only [Option.bind_some, c_neq]
  by_cases h1 : chkS nm fn p ks s = 0
  · obtain ⟨hA, hV⟩ := chk0.1 h1
    rw [if_pos h1, nif h1, s39 hA hV hi]
    rfl
  · rw [if_neg h1, nif' h1]
/-- A part of a list changed. -/
def part (f : Int → Int) (l : List Int) (j : Nat) : List Int := (l.take j).map f ++ l.drop j
theorem part_get {f : Int → Int} {l : List Int} {j : Nat} (hj : j < l.length) : ∃ h : j < (part f l j).length, (part f l j)[j] = l[j] := by
  have hl : ((l.take j).map f).length = j := by rw [List.length_map, List.length_take]; omega
  have h : j < (part f l j).length := by
    unfold part
    rw [List.length_append, hl, List.length_drop]; omega
  refine ⟨h, ?_⟩
  have : (part f l j)[j]? = some l[j] := by
    unfold part
    rw [List.getElem?_append_right (by omega), hl, Nat.sub_self]
    simp [hj]
  rw [List.getElem?_eq_getElem h] at this
  exact Option.some.inj this
theorem part_step {f : Int → Int} {l : List Int} {j : Nat} (hj : j < l.length) : (part f l j).set j (f l[j]) = part f l (j + 1) := by
  have hl : ((l.take j).map f).length = j := by rw [List.length_map, List.length_take]; omega
  unfold part
  rw [List.set_append_right _ _ (by omega), hl, Nat.sub_self, List.drop_eq_getElem_cons hj, List.set_cons_zero, List.take_succ_eq_append_getElem hj, List.map_append]
  simp
def dq (n x : Int) : Int := arReal .quo .i64 x n
theorem loop13 {n : Int} (hn : 1 ≤ n) (l : List Int) (hl : l.length ≤ 2000) : iter (d13_b1 n (vi l)) (0, vi l) = some (vi (l.map (dq n))) := by
  have hI : iter (d13_b1 n (vi l)) (((0 : Nat) : Int), vi (part (dq n) l 0)) = some (vi (part (dq n) l l.length)) := by
    refine scan (d13_b1 n (vi l)) (fun j => ((j : Int), vi (part (dq n) l j))) (i := l.length) (Nat.zero_le _) (fun j _ hj => ?_) ?_
    · obtain ⟨h, e⟩ := part_get (f := dq n) hj
      unfold d13_b1
      dsimp only
      rw [lenI_vi, if_pos (lt_i hj), if_pos (iv_n h), if_pos (show Ne0 n by unfold Ne0; omega), if_pos (iv_n h), gI_vi _ _ h, e, putL_vi _ _ _ h, succ_i hj (by omega)]
      show some (Sum.inl (_, vi ((part (dq n) l j).set j (dq n l[j])))) = _
      rw [part_step hj]
    · unfold d13_b1
      dsimp only
      rw [lenI_vi, if_neg (nlt_i _)]
  have e0 : part (dq n) l 0 = l := by simp [part]
  have e1 : part (dq n) l l.length = l.map (dq n) := by simp [part]
  rw [e0, e1] at hI
  exact hI
/-- What Normalize shows. -/
noncomputable def shown (fn n : Int) (s : List Int) : List Int := (if fn ≥ 7 then s else [val fn s]).map (dq n)
theorem s13 (nm : ByteArray) (fn : Int) (p : List Int) (ks : List V) (hp : ∀ x ∈ p, I64 x) (s : List Int) (hs : s.length ≤ 9223372036854775807) (hi : ∀ x ∈ s, I64 x) (n : Int) :
    d13 nm fn (vi p) ks (vi s) n = some (if chkS nm fn p ks s = 0 then (if n < 1 then ([], 1) else (vi (shown fn n s), 0)) else ([], chkS nm fn p ks s)) := by
  unfold d13
  rw [s37_1 nm fn p ks hp s hs]
  simp only [Option.bind_some, c_neq]
  by_cases h1 : chkS nm fn p ks s = 0
  · obtain ⟨hA, hV⟩ := chk0.1 h1
    have ls := val_len hA hV
    rw [if_pos h1, nif h1, c_lss]
    by_cases h2 : n < 1
    · rw [if_pos h2, yif h2]
    · rw [if_neg h2, yif' h2, s38 s (by omega), s31, s39 hA hV hi]
      simp only [Option.bind_some, notB_dec]
      unfold shown
      by_cases h7 : fn ≥ 7
      · rw [nif h7, if_pos h7]
        simp only [Option.bind_some]
        rw [loop13 (by omega) s (by omega)]
        rfl
      · rw [nif' h7, if_neg h7]
        simp only [Option.bind_some]
        have e := loop13 (show 1 ≤ n by omega) [val fn s] (by simp)
        rw [show vi [val fn s] = [V.i .i64 (val fn s)] from rfl] at e
        rw [e]
        rfl
  · rw [if_neg h1, nif' h1]
end Go.Proofs.Ytmofhbedamjblaa
end
section
namespace Go.Proofs.Ytmofhbedamjblaa
open Go.Ab Go.RowKit
set_option maxRecDepth 100000

/-- Where a step of a log-linear quantization begins. -/
def sta (f : Int) (L D i : Nat) : Int := f ^ (L + (i - 1) / D) + ((((i - 1) % D : Nat) : Int) * (f ^ (L + (i - 1) / D + 1) - f ^ (L + (i - 1) / D)) + D - 1) / D
/-- Where a bucket begins; the last one's end. -/
def bo (fn : Int) (p : List Int) (i : Nat) : Int :=
  if i = 0 then -9223372036854775808 else if (i : Int) = wd fn p then 9223372036854775808
  else if fn = 7 then (if i ≤ 63 then 1 - 2 ^ (63 - i) else 2 ^ (i - 64))
  else if fn = 8 then min (p.getD 0 0 + ((i : Int) - 1) * p.getD 2 0) (p.getD 1 0)
  else sta (p.getD 0 0) (p.getD 1 0).toNat (p.getD 3 0).toNat i
theorem bo_0 (fn : Int) (p : List Int) : bo fn p 0 = -9223372036854775808 := by unfold bo; rw [if_pos rfl]
theorem bo_w {fn : Int} {p : List Int} {i : Nat} (h0 : i ≠ 0) (h : (i : Int) = wd fn p) : bo fn p i = 9223372036854775808 := by unfold bo; rw [if_neg h0, if_pos h]
theorem bo_7 {p : List Int} {i : Nat} (h0 : i ≠ 0) (h : (i : Int) < wd 7 p) : bo 7 p i = if i ≤ 63 then 1 - 2 ^ (63 - i) else 2 ^ (i - 64) := by unfold bo; rw [if_neg h0, if_neg (by omega), if_pos rfl]
theorem bo_8 {a b c : Int} {i : Nat} (h0 : i ≠ 0) (h : (i : Int) < wd 8 [a, b, c]) : bo 8 [a, b, c] i = min (a + ((i : Int) - 1) * c) b := by
  unfold bo; rw [if_neg h0, if_neg (by omega), if_neg (by omega), if_pos rfl]; rfl
theorem bo_9 {f st : Int} {L H D : Nat} {i : Nat} (hD : st = (D : Int)) (h0 : i ≠ 0) (h : (i : Int) < wd 9 [f, (L : Int), (H : Int), st]) : bo 9 [f, (L : Int), (H : Int), st] i = sta f L D i := by
  subst hD
  unfold bo; rw [if_neg h0, if_neg (by omega), if_neg (by omega), if_neg (by omega)]; rfl
theorem ceil_le {x d y : Int} (hd : 0 < d) : (x + d - 1) / d ≤ y ↔ x ≤ y * d := by
  constructor
  · intro h
    have h2 : (x + d - 1) / d < y + 1 := by omega
    have h3 := Int.lt_mul_of_ediv_lt hd h2
    rw [Int.add_mul, Int.one_mul] at h3
    omega
  · intro h
    have : (x + d - 1) / d < y + 1 := by
      refine Int.ediv_lt_of_lt_mul hd ?_
      rw [Int.add_mul, Int.one_mul]; omega
    omega
theorem len_le {a : Int} (ha : U64 a) {k : Nat} (hk : k ≤ 64) : bl a ≤ k ↔ a < 2 ^ k := by
  obtain ⟨h0, h1, h2, h3⟩ := (s63' ha).2
  constructor
  · intro h
    have := two_mono (show (bl a).toNat ≤ k by omega)
    omega
  · intro h
    apply Classical.byContradiction
    intro hn
    have h4 := h3 (by omega)
    have := two_mono (show k ≤ (bl a).toNat - 1 by omega)
    omega
/-- The step's begin, against a value. -/
theorem sta_le {f v : Int} {L H D i : Nat} (hf : 2 ≤ f) (hD : 1 ≤ D) (hi : 1 ≤ i) {m : Nat} (hm : L ≤ m) (h1 : f ^ m ≤ v) (h2 : v < f ^ (m + 1)) :
    sta f L D i ≤ v ↔ (i : Int) ≤ 1 + ((m : Int) - L) * D + (v - f ^ m) * D / (f ^ (m + 1) - f ^ m) := by
  have hpm : 0 < f ^ m := Int.pow_pos (by omega)
  have hDi : (0 : Int) < D := by omega
  have hdm := Nat.div_add_mod (i - 1) D
  have hml := Nat.mod_lt (i - 1) (show D > 0 by omega)
  unfold sta
  generalize hq : (i - 1) / D = q at *
  generalize hr : (i - 1) % D = r at *
  have hi' : (i : Int) = 1 + (q : Int) * D + r := by
    have : i = 1 + q * D + r := by rw [Nat.mul_comm q D]; omega
    rw [this]; push_cast; rfl
  have hR : 0 < f ^ (L + q + 1) - f ^ (L + q) := by
    have h0 : 0 < f ^ (L + q) := Int.pow_pos (by omega)
    have : f ^ (L + q) * 2 ≤ f ^ (L + q) * f := Int.mul_le_mul_of_nonneg_left hf (by omega)
    rw [Int.pow_succ]; omega
  have hq0 : 0 ≤ (v - f ^ m) * D / (f ^ (m + 1) - f ^ m) := Int.ediv_nonneg (Int.mul_nonneg (by omega) (by omega)) (by omega)
  have hq1 : (v - f ^ m) * D / (f ^ (m + 1) - f ^ m) < D := by
    refine Int.ediv_lt_of_lt_mul (by omega) ?_
    rw [Int.mul_comm]
    exact Int.mul_lt_mul_of_pos_left (by omega) hDi
  generalize hQ : (v - f ^ m) * D / (f ^ (m + 1) - f ^ m) = Q at *
  have hrR : 0 ≤ (r : Int) * (f ^ (L + q + 1) - f ^ (L + q)) := Int.mul_nonneg (by omega) (by omega)
  have hc0 : 0 ≤ ((r : Int) * (f ^ (L + q + 1) - f ^ (L + q)) + D - 1) / D := Int.ediv_nonneg (by omega) (by omega)
  have hc1 : ((r : Int) * (f ^ (L + q + 1) - f ^ (L + q)) + D - 1) / D ≤ f ^ (L + q + 1) - f ^ (L + q) := by
    refine (ceil_le hDi).2 ?_
    rw [Int.mul_comm (f ^ (L + q + 1) - f ^ (L + q))]
    exact Int.mul_le_mul_of_nonneg_right (by omega) (by omega)
  rcases Nat.lt_trichotomy (L + q) m with hlt | heq | hgt
  · have hle := pow_mono (show 1 ≤ f by omega) (show L + q + 1 ≤ m by omega)
    have hmul : ((q : Int) + 1) * D ≤ ((m : Int) - L) * D := Int.mul_le_mul_of_nonneg_right (by omega) (by omega)
    rw [Int.add_mul, Int.one_mul] at hmul
    constructor
    · intro _; omega
    · intro _; omega
  · subst heq
    have hQ2 : (r : Int) ≤ Q ↔ (r : Int) * (f ^ (L + q + 1) - f ^ (L + q)) ≤ (v - f ^ (L + q)) * D := by
      rw [← hQ]; exact Int.le_ediv_iff_mul_le (by omega)
    have e : ((L + q : Nat) : Int) - L = q := by omega
    rw [e]
    constructor
    · intro h
      have := hQ2.2 ((ceil_le hDi).1 (show _ ≤ v - f ^ (L + q) by omega))
      omega
    · intro h
      have := (ceil_le hDi).2 (hQ2.1 (by omega))
      omega
  · have hle := pow_mono (show 1 ≤ f by omega) (show m + 1 ≤ L + q by omega)
    have hmul : ((m : Int) - L + 1) * D ≤ (q : Int) * D := Int.mul_le_mul_of_nonneg_right (by omega) (by omega)
    rw [Int.add_mul, Int.one_mul] at hmul
    constructor
    · intro _; omega
    · intro _; omega
theorem sta_1 (f : Int) (L D : Nat) (hD : 1 ≤ D) : sta f L D 1 = f ^ L := by
  unfold sta
  rw [Nat.sub_self, Nat.zero_div, Nat.zero_mod, Nat.add_zero]
  have : (((0 : Nat) : Int) * (f ^ (L + 1) - f ^ L) + D - 1) / D = 0 := by
    rw [show ((0 : Nat) : Int) = 0 from rfl, Int.zero_mul]
    exact Int.ediv_eq_zero_of_lt (by omega) (by omega)
  rw [this, Int.add_zero]
/-- The next step begins at the next part, rounded up. -/
theorem sta_succ (f : Int) (L D i : Nat) (hD : 1 ≤ D) (hi : 1 ≤ i) : sta f L D (i + 1) = f ^ (L + (i - 1) / D) + (((((i - 1) % D : Nat) : Int) + 1) * (f ^ (L + (i - 1) / D + 1) - f ^ (L + (i - 1) / D)) + D - 1) / D := by
  unfold sta
  obtain ⟨j, rfl⟩ : ∃ j, i = j + 1 := ⟨i - 1, by omega⟩
  simp only [Nat.add_sub_cancel]
  have hdm := Nat.div_add_mod j D
  have hml := Nat.mod_lt j (show D > 0 by omega)
  by_cases hw : j % D + 1 = D
  · have e1 : (j + 1) / D = j / D + 1 := by
      have : j + 1 = (j / D + 1) * D := by rw [Nat.add_mul, Nat.one_mul, Nat.mul_comm]; omega
      rw [this]; exact Nat.mul_div_cancel _ (by omega)
    have e2 : (j + 1) % D = 0 := by
      have : j + 1 = (j / D + 1) * D := by rw [Nat.add_mul, Nat.one_mul, Nat.mul_comm]; omega
      rw [this]; exact Nat.mul_mod_left _ _
    have e3 : ((j % D : Nat) : Int) + 1 = (D : Int) := by omega
    rw [e1, e2, e3, show ((0 : Nat) : Int) = 0 from rfl, Int.zero_mul, show L + (j / D + 1) = L + j / D + 1 by omega]
    have z : ((0 : Int) + D - 1) / D = 0 := Int.ediv_eq_zero_of_lt (by omega) (by omega)
    have y : ((D : Int) * (f ^ (L + j / D + 1) - f ^ (L + j / D)) + D - 1) / D = f ^ (L + j / D + 1) - f ^ (L + j / D) := by
      rw [show (D : Int) * (f ^ (L + j / D + 1) - f ^ (L + j / D)) + D - 1 = (D - 1) + D * (f ^ (L + j / D + 1) - f ^ (L + j / D)) by omega, Int.add_mul_ediv_left _ _ (by omega), Int.ediv_eq_zero_of_lt (by omega) (by omega)]
      omega
    rw [z, y]; omega
  · have e1 : (j + 1) / D = j / D := by
      have : j + 1 = D * (j / D) + (j % D + 1) := by omega
      rw [this, Nat.mul_add_div (by omega), Nat.div_eq_of_lt (show j % D + 1 < D by omega), Nat.add_zero]
    have e2 : (j + 1) % D = j % D + 1 := by
      have : j + 1 = D * (j / D) + (j % D + 1) := by omega
      rw [this, Nat.mul_add_mod, Nat.mod_eq_of_lt (show j % D + 1 < D by omega)]
    rw [e1, e2]; push_cast; rfl
theorem sta_rng {f : Int} {L H D i : Nat} (hf : 2 ≤ f) (hD : 1 ≤ D) (hi : 1 ≤ i) (hi2 : i ≤ (H + 1 - L) * D + 1) (hLH : L ≤ H) : f ^ L ≤ sta f L D i ∧ sta f L D i ≤ f ^ (H + 1) := by
  have hDi : (0 : Int) < D := by omega
  have hdm := Nat.div_add_mod (i - 1) D
  have hml := Nat.mod_lt (i - 1) (show D > 0 by omega)
  have hq : (i - 1) / D ≤ H + 1 - L := by
    have : (i - 1) / D ≤ (H + 1 - L) * D / D := Nat.div_le_div_right (by omega)
    rwa [Nat.mul_div_cancel _ (by omega)] at this
  unfold sta
  generalize hqq : (i - 1) / D = q at *
  generalize hr : (i - 1) % D = r at *
  have h0 : 0 < f ^ (L + q) := Int.pow_pos (by omega)
  have hR : 0 < f ^ (L + q + 1) - f ^ (L + q) := by
    have : f ^ (L + q) * 2 ≤ f ^ (L + q) * f := Int.mul_le_mul_of_nonneg_left hf (by omega)
    rw [Int.pow_succ]; omega
  have hrR : 0 ≤ (r : Int) * (f ^ (L + q + 1) - f ^ (L + q)) := Int.mul_nonneg (by omega) (by omega)
  have hc0 : 0 ≤ ((r : Int) * (f ^ (L + q + 1) - f ^ (L + q)) + D - 1) / D := Int.ediv_nonneg (by omega) (by omega)
  have hle := pow_mono (show 1 ≤ f by omega) (show L ≤ L + q by omega)
  refine ⟨by omega, ?_⟩
  by_cases hz : q = H + 1 - L
  · have hr0 : r = 0 := by
      have : D * q = (H + 1 - L) * D := by rw [hz, Nat.mul_comm]
      omega
    have e : ((r : Int) * (f ^ (L + q + 1) - f ^ (L + q)) + D - 1) / D = 0 := by
      rw [hr0, show ((0 : Nat) : Int) = 0 from rfl, Int.zero_mul]
      exact Int.ediv_eq_zero_of_lt (by omega) (by omega)
    rw [e, show L + q = H + 1 by omega]; omega
  · have hle2 := pow_mono (show 1 ≤ f by omega) (show L + q + 1 ≤ H + 1 by omega)
    have hc1 : ((r : Int) * (f ^ (L + q + 1) - f ^ (L + q)) + D - 1) / D ≤ f ^ (L + q + 1) - f ^ (L + q) := by
      refine (ceil_le hDi).2 ?_
      rw [Int.mul_comm (f ^ (L + q + 1) - f ^ (L + q))]
      exact Int.mul_le_mul_of_nonneg_right (by omega) (by omega)
    omega
theorem okP.log2 {p : List Int} (h : okP 9 p) : ∃ (f : Int) (L H D : Nat), p = [f, (L : Int), (H : Int), (D : Int)] ∧ 2 ≤ f ∧ f ≤ 100 ∧ L ≤ H ∧ H ≤ 18 ∧ 1 ≤ D ∧ D ≤ 100 ∧ f ^ (H + 1) ≤ 4611686018427387904 := by
  obtain ⟨f, st, L, H, rfl, h1, h2, h3, h4, h5, h6, h7⟩ := h.log'
  obtain ⟨D, rfl⟩ := Int.eq_ofNat_of_zero_le (show 0 ≤ st by omega)
  exact ⟨f, L, H, D, rfl, h1, h2, h3, h4, by omega, by omega, h7⟩
theorem wd9n (f : Int) (L H D : Nat) (h : L ≤ H) : wd 9 [f, (L : Int), (H : Int), (D : Int)] = (((H + 1 - L) * D + 2 : Nat) : Int) := by
  rw [wd9]
  have : (H : Int) - L + 1 = ((H + 1 - L : Nat) : Int) := by omega
  rw [this]; push_cast; rfl
/-- A bucket begins at most at a value just if the value's bucket is no earlier one; and within the numbers. -/
theorem bo_key {nm : ByteArray} {fn : Int} {p : List Int} {ks : List V} (h : okA nm fn p ks) (h7 : 7 ≤ fn) {i : Nat} (hi : (i : Int) ≤ wd fn p) : (-9223372036854775808 ≤ bo fn p i ∧ bo fn p i ≤ 9223372036854775808) ∧ ∀ v, I64 v → (bo fn p i ≤ v ↔ (i : Int) ≤ bk fn p v) := by
  have hw := wd_rng h
  by_cases h0 : i = 0
  · subst h0
    rw [bo_0]
    refine ⟨by omega, fun v hv => ?_⟩
    have := (s32 h h7 hv).2.1
    have := hv.1
    constructor
    · intro _; omega
    · intro _; omega
  by_cases hwd : (i : Int) = wd fn p
  · rw [bo_w h0 hwd]
    refine ⟨by omega, fun v hv => ?_⟩
    have := (s32 h h7 hv).2.2
    have := hv.2
    constructor
    · intro _; omega
    · intro _; omega
  have hf := h.fn
  rcases (show fn = 7 ∨ fn = 8 ∨ fn = 9 by omega) with rfl | rfl | rfl
  · obtain rfl := h.nil (by omega)
    have hi127 : i < 127 := by have e : wd 7 [] = 127 := rfl; omega
    rw [bo_7 h0 (by omega)]
    by_cases h63 : i ≤ 63
    · rw [if_pos h63]
      have hp := two_pos (63 - i)
      have hp2 := two_mono (show 63 - i ≤ 63 by omega)
      have e63 : (2 : Int) ^ 63 = 9223372036854775808 := by decide
      refine ⟨by omega, fun v hv => ?_⟩
      rw [bk_of (s32_7 (nm := nm) (ks := ks) hv)]
      obtain ⟨v0, v1⟩ := hv
      by_cases hv0 : 0 ≤ v
      · rw [if_pos hv0]
        have := (s63' (a := v) ⟨by omega, by omega⟩).2.1
        constructor
        · intro _; omega
        · intro _; omega
      · rw [if_neg hv0]
        have hl := len_le (a := -v) ⟨by omega, by omega⟩ (show 63 - i ≤ 64 by omega)
        rw [show ((63 - i : Nat) : Int) = 63 - (i : Int) by omega] at hl
        constructor
        · intro hb
          have := hl.2 (by omega)
          split <;> omega
        · intro hb
          have : bl (-v) ≤ 63 - (i : Int) := by
            split at hb <;> omega
          have := hl.1 this
          omega
    · rw [if_neg h63]
      have hp := two_pos (i - 64)
      have hp2 := two_mono (show i - 64 ≤ 63 by omega)
      have e63 : (2 : Int) ^ 63 = 9223372036854775808 := by decide
      refine ⟨by omega, fun v hv => ?_⟩
      rw [bk_of (s32_7 (nm := nm) (ks := ks) hv)]
      obtain ⟨v0, v1⟩ := hv
      by_cases hv0 : 0 ≤ v
      · rw [if_pos hv0]
        have hl := len_le (a := v) ⟨by omega, by omega⟩ (show i - 64 ≤ 64 by omega)
        rw [show ((i - 64 : Nat) : Int) = (i : Int) - 64 by omega] at hl
        constructor
        · intro hb
          apply Classical.byContradiction
          intro hn
          have := hl.1 (by omega)
          omega
        · intro hb
          apply Classical.byContradiction
          intro hn
          have := hl.2 (by omega)
          omega
      · rw [if_neg hv0]
        have hb0 := (s63' (a := -v) ⟨by omega, by omega⟩).2.1
        constructor
        · intro hb; omega
        · intro hb
          split at hb <;> omega
  · obtain ⟨a, b, c, rfl, h1, h2, h3, h4, h5, h6⟩ := h.2.2.2.2.2.1.lin
    have s0 := (s65 h3 h5 h4 h1 h2).2.1
    have ew := wd8 a b c
    rw [bo_8 h0 (by omega)]
    have hm0 : 0 ≤ ((i : Int) - 1) * c := Int.mul_nonneg (by omega) (by omega)
    refine ⟨by omega, fun v hv => ?_⟩
    rw [bk_of (s32_8 h hv)]
    by_cases q1 : v < a
    · rw [if_pos q1]
      constructor
      · intro hb; omega
      · intro hb; omega
    · rw [if_neg q1]
      by_cases q2 : v ≥ b
      · rw [if_pos q2]
        constructor
        · intro hb; omega
        · intro hb; omega
      · rw [if_neg q2]
        have hq := Int.le_ediv_iff_mul_le (a := (i : Int) - 1) (b := v - a) (show 0 < c by omega)
        constructor
        · intro hb
          have := hq.2 (by omega)
          omega
        · intro hb
          have := hq.1 (by omega)
          omega
  · obtain ⟨f, L, H, D, rfl, h1, h2, h3, h4, h5, h6, h7⟩ := h.2.2.2.2.2.1.log2
    have ew := wd9n f L H D h3
    rw [bo_9 rfl h0 (by omega)]
    have hr := sta_rng (f := f) (L := L) (H := H) (D := D) (i := i) h1 h5 (by omega) (by omega) h3
    have hp0 : 0 < f ^ L := Int.pow_pos (by omega)
    refine ⟨by omega, fun v hv => ?_⟩
    have e := s32_9 h hv h1 h2 h3 h4 (by omega) (by omega) h7
    by_cases q1 : v < f ^ L
    · rw [if_pos q1] at e
      rw [bk_of e]
      constructor
      · intro hb; omega
      · intro hb; omega
    · rw [if_neg q1] at e
      by_cases q2 : v ≥ f ^ (H + 1)
      · rw [if_pos q2] at e
        rw [bk_of e]
        have eD : ((H : Int) - L + 1) * D + 1 = (((H + 1 - L) * D + 1 : Nat) : Int) := by
          have : (H : Int) - L + 1 = ((H + 1 - L : Nat) : Int) := by omega
          rw [this]; push_cast; rfl
        rw [eD]
        constructor
        · intro hb; omega
        · intro hb; omega
      · rw [if_neg q2] at e
        obtain ⟨m, m1, m2, m3, m4, m5, m6, e2⟩ := s64 h1 h2 h3 h4 (st := (D : Int)) (by omega) (by omega) h7 (v := v) (by omega) (by omega)
        rw [e2] at e
        rw [bk_of e]
        exact sta_le (H := H) h1 h5 (by omega) m1 m3 m4
theorem bo_mono {nm : ByteArray} {fn : Int} {p : List Int} {ks : List V} (h : okA nm fn p ks) (h7 : 7 ≤ fn) {i : Nat} (hi : (i : Int) < wd fn p) : bo fn p i ≤ bo fn p (i + 1) := by
  have k1 := bo_key h h7 (i := i) (by omega)
  have k2 := bo_key h h7 (i := i + 1) (by push_cast; omega)
  apply Classical.byContradiction
  intro hn
  have hv : I64 (bo fn p (i + 1)) := ⟨k2.1.1, by omega⟩
  have a1 := (k2.2 _ hv).1 (by omega)
  have a2 := (k1.2 _ hv).2 (by push_cast at a1; omega)
  omega
end Go.Proofs.Ytmofhbedamjblaa
end
section
namespace Go.Proofs.Ytmofhbedamjblaa
open Go.Ab Go.RowKit
set_option maxRecDepth 100000

theorem shl_i {k : Nat} (h : k ≤ 62) : arReal .shl .i64 1 (k : Int) = 2 ^ k := by
  have hp := two_pos k
  have hp2 := two_mono h
  have e62 : (2 : Int) ^ 62 = 4611686018427387904 := by decide
  simp only [arReal]
  rw [show min ((k : Int)).toNat IntKind.i64.bits = k from by
    show min ((k : Int)).toNat 64 = k
    simp; omega]
  show wrapK .i64 _ = _
  rw [wk_i ⟨by omega, by omega⟩, Int.one_mul]
theorem shl_m {k : Nat} (h : k ≤ 62) : arReal .shl .i64 (-1) (k : Int) = -2 ^ k := by
  have hp := two_pos k
  have hp2 := two_mono h
  have e62 : (2 : Int) ^ 62 = 4611686018427387904 := by decide
  simp only [arReal]
  rw [show min ((k : Int)).toNat IntKind.i64.bits = k from by
    show min ((k : Int)).toNat 64 = k
    simp; omega]
  show wrapK .i64 _ = _
  rw [Int.neg_mul, Int.one_mul, wk_i ⟨by omega, by omega⟩]
theorem s36_7 {nm : ByteArray} {p ks : List V} {i : Nat} (h0 : 0 < i) (h1 : i < 127) : d36 nm 7 p ks (i : Int) = some (bo 7 [] i, bo 7 [] (i + 1) - 1) := by
  have ew : wd 7 [] = 127 := rfl
  unfold d36
  rw [if_pos (by decide), bo_7 (by omega) (by omega), c_gtr, c_eql]
  by_cases h : (i : Int) > 63
  · obtain ⟨k, rfl⟩ : ∃ k, i = k + 64 := ⟨i - 64, by omega⟩
    have e : arReal .sub .i64 ((k + 64 : Nat) : Int) 64 = (k : Int) := by rw [ar_sub' ⟨by omega, by omega⟩]; omega
    have hp := two_pos k
    have hp2 := two_mono (show k ≤ 62 by omega)
    have e62 : (2 : Int) ^ 62 = 4611686018427387904 := by decide
    have g : Ge0 (k : Int) := by unfold Ge0; omega
    rw [yif h, e, if_pos g, if_pos g, if_pos g, shl_i (by omega), if_neg (by omega), ar_sub' ⟨by omega, by omega⟩, ar_add' ⟨by omega, by omega⟩, Nat.add_sub_cancel]
    congr 2
    by_cases hk : k = 62
    · subst hk
      rw [bo_w (by omega) (by omega)]; decide
    · rw [bo_7 (by omega) (by omega), if_neg (by omega), show k + 64 + 1 - 64 = k + 1 by omega, two_succ]; omega
  · rw [yif' h]
    by_cases h63 : (i : Int) = 63
    · rw [yif h63]
      obtain rfl : i = 63 := by omega
      rw [bo_7 (by omega) (by omega)]
      decide
    · obtain ⟨k, hk⟩ : ∃ k, k + i = 62 := ⟨62 - i, by omega⟩
      have e : arReal .sub .i64 62 (i : Int) = (k : Int) := by rw [ar_sub' ⟨by omega, by omega⟩]; omega
      have hp := two_pos k
      have hp2 := two_mono (show k ≤ 61 by omega)
      have e61 : (2 : Int) ^ 61 = 2305843009213693952 := by decide
      have g : Ge0 (k : Int) := by unfold Ge0; omega
      rw [yif' h63, e, if_pos g, if_pos g, if_pos g, shl_i (by omega), shl_m (by omega), ar_sub' ⟨by omega, by omega⟩, ar_add' ⟨by omega, by omega⟩]
      rw [if_pos (by omega), bo_7 (by omega) (by omega), if_pos (by omega), show 63 - i = k + 1 by omega, show 63 - (i + 1) = k by omega, two_succ]
      have en : unReal .neg .i64 (2 ^ k - 1 + 2 ^ k) = -(2 ^ k - 1 + 2 ^ k) := by
        show wrapK .i64 (0 - _) = _
        rw [wk_i ⟨by omega, by omega⟩]; omega
      rw [en]
      congr 2 <;> omega
/-- The inner bounds of a linear quantization. -/
theorem lin_edge {a b c : Int} {i : Nat} (h1 : 1 ≤ c) (h2 : c ≤ 4611686018427387904) (h3 : -4611686018427387904 ≤ a) (h4 : a < b) (h5 : b ≤ 4611686018427387904) (h6 : stp a b c ≤ 100) (hi : 1 ≤ i) (hi2 : (i : Int) ≤ stp a b c) :
    wrapK .i64 (arReal .add .u64 (wrapK .u64 a) (arReal .mul .u64 (wrapK .u64 (arReal .sub .i64 (i : Int) 1)) (wrapK .u64 c))) = bo 8 [a, b, c] i ∧
    wrapK .i64 (arReal .sub .u64 (arReal .add .u64 (wrapK .u64 a) (mnI (arReal .add .u64 (arReal .mul .u64 (wrapK .u64 (arReal .sub .i64 (i : Int) 1)) (wrapK .u64 c)) (wrapK .u64 c)) (arReal .sub .u64 (wrapK .u64 b) (wrapK .u64 a)))) 1) = bo 8 [a, b, c] (i + 1) - 1 := by
  have ew := wd8 a b c
  have hm0 : 0 ≤ ((i : Int) - 1) * c := Int.mul_nonneg (by omega) (by omega)
  have hsd : stp a b c * c ≤ b - a + c - 1 := Int.ediv_mul_le _ (by omega)
  have hmm : (i : Int) * c ≤ stp a b c * c := Int.mul_le_mul_of_nonneg_right hi2 (by omega)
  have hmi : ((i : Int) - 1) * c = (i : Int) * c - c := by rw [Int.sub_mul, Int.one_mul]
  have e1 : wrapK .u64 (arReal .sub .i64 (i : Int) 1) = (i : Int) - 1 := by rw [ar_sub' ⟨by omega, by omega⟩, wk_u ⟨by omega, by omega⟩]
  have e2 : wrapK .u64 c = c := wk_u ⟨by omega, by omega⟩
  have e3 : arReal .mul .u64 ((i : Int) - 1) c = ((i : Int) - 1) * c := ar_mulu' ⟨by omega, by omega⟩
  have e4 : arReal .sub .u64 (wrapK .u64 b) (wrapK .u64 a) = b - a := by rw [ar_subu, wk_u64, wk_u64, wk_u64]; omega
  have e5 : arReal .add .u64 (((i : Int) - 1) * c) c = ((i : Int) - 1) * c + c := ar_addu' ⟨by omega, by omega⟩
  rw [e1, e2, e3, e4, e5, bo_8 (by omega) (by omega), bo_8 (by omega) (by push_cast; omega)]
  have em : mnI (((i : Int) - 1) * c + c) (b - a) = min (((i : Int) - 1) * c + c) (b - a) := by
    unfold mnI
    split <;> omega
  rw [em]
  have emi : (((i + 1 : Nat) : Int) - 1) * c = (i : Int) * c := by rw [show ((i + 1 : Nat) : Int) - 1 = (i : Int) by omega]
  rw [emi, hmi]
  have hp : 0 ≤ (i : Int) * c := Int.mul_nonneg (by omega) (by omega)
  generalize (i : Int) * c = X at *
  constructor
  · rw [ar_addu, wk_u64, wk_u64, wk_i64]; omega
  · rw [ar_subu, ar_addu, wk_u64, wk_u64, wk_u64, wk_i64]; omega
theorem s36_8 {nm : ByteArray} {a b c : Int} {ks : List V} {i : Nat} (h1 : 1 ≤ c) (h2 : c ≤ 4611686018427387904) (h3 : -4611686018427387904 ≤ a) (h4 : a < b) (h5 : b ≤ 4611686018427387904) (h6 : stp a b c ≤ 100) (hi : 1 ≤ i) (hi2 : (i : Int) ≤ stp a b c) :
    d36 nm 8 (vi [a, b, c]) ks (i : Int) = some (bo 8 [a, b, c] i, bo 8 [a, b, c] (i + 1) - 1) := by
  have e := lin_edge h1 h2 h3 h4 h5 h6 hi hi2
  unfold d36
  rw [if_neg (by decide), if_pos (by decide)]
  simp only [iv30, iv31, iv32, ↓reduceIte, g30, g31, g32]
  rw [e.1, e.2]
/-- A part of a range, rounded up. -/
theorem s66 {f x rest : Int} {L H D : Nat} (h0 : 0 ≤ x) (h1 : x ≤ D) (hD : 1 ≤ D) (hD2 : D ≤ 100) (hr : 0 ≤ rest) (hr2 : rest ≤ 4611686018427387904) (b : Int) (hb0 : 0 ≤ b) (hb : b + rest ≤ 4611686018427387904) :
    d66v1 x rest (vi [f, (L : Int), (H : Int), (D : Int)]) b = some (b + (x * rest + D - 1) / D) ∧ 0 ≤ (x * rest + D - 1) / D ∧ (x * rest + D - 1) / D ≤ rest := by
  have m := mul_rng2 (x := x) (y := rest) (m := 100) (n := 4611686018427387904) h0 (by omega) hr hr2
  have hDi : (0 : Int) < D := by omega
  have q0 : 0 ≤ (x * rest + D - 1) / D := Int.ediv_nonneg (by omega) (by omega)
  have q1 : (x * rest + D - 1) / D ≤ rest := by
    refine (ceil_le hDi).2 ?_
    rw [Int.mul_comm rest]
    exact Int.mul_le_mul_of_nonneg_right (by omega) (by omega)
  refine ⟨?_, q0, q1⟩
  have eD : wrapK .u64 (D : Int) = (D : Int) := wk_u ⟨by omega, by omega⟩
  unfold d66v1
  rw [s67 ⟨by omega, by omega⟩ ⟨by omega, by omega⟩]
  simp only [Option.bind_some, iv43, ↓reduceIte, g43, eD]
  rw [ar_subu' (a := (D : Int)) ⟨by omega, by omega⟩, s68 ⟨by omega, by omega⟩ ⟨by omega, by omega⟩ (by omega) (by omega)]
  simp only [Option.bind_some]
  rw [ar_addu' (a := x * rest / 18446744073709551616) ⟨by omega, by omega⟩]
  have hmle : x * rest ≤ D * 4611686018427387904 := Int.mul_le_mul (by omega) hr2 hr (by omega)
  obtain ⟨r, e⟩ := s69 (hi := x * rest / 18446744073709551616 + (x * rest % 18446744073709551616 + (D - 1) + 0) / 18446744073709551616) (lo := (x * rest % 18446744073709551616 + (D - 1) + 0) % 18446744073709551616) (y := (D : Int)) (by omega) ⟨by omega, by omega⟩ (by omega) ⟨by omega, by omega⟩
  rw [show (x * rest / 18446744073709551616 + (x * rest % 18446744073709551616 + ((D : Int) - 1) + 0) / 18446744073709551616) * 18446744073709551616 + (x * rest % 18446744073709551616 + (D - 1) + 0) % 18446744073709551616 = x * rest + D - 1 by omega] at e
  rw [e]
  simp only [Option.bind_some]
  rw [wk_i ⟨by omega, by omega⟩, ar_add' ⟨by omega, by omega⟩]
theorem log_idx {L D i : Nat} (hi : 1 ≤ i) (hi2 : i ≤ 100000) (hD : 1 ≤ D) (hD2 : D ≤ 100) (hL : L ≤ 18) :
    arReal .sub .i64 (i : Int) 1 = ((i - 1 : Nat) : Int) ∧ arReal .quo .i64 ((i - 1 : Nat) : Int) (D : Int) = (((i - 1) / D : Nat) : Int) ∧ arReal .rem .i64 ((i - 1 : Nat) : Int) (D : Int) = (((i - 1) % D : Nat) : Int) ∧ arReal .add .i64 (L : Int) (((i - 1) / D : Nat) : Int) = ((L + (i - 1) / D : Nat) : Int) := by
  have : (i - 1) / D ≤ i - 1 := Nat.div_le_self _ _
  refine ⟨?_, ?_, ?_, ?_⟩
  · rw [ar_sub' ⟨by omega, by omega⟩]; omega
  · rw [ar_quo' (by omega) (by omega) (by omega)]; push_cast; rfl
  · rw [ar_rem' (by omega) (by omega) (by omega)]; push_cast; rfl
  · generalize (i - 1) / D = q at *
    rw [ar_add' ⟨by omega, by omega⟩]; push_cast; rfl
theorem s36_9 {nm : ByteArray} {f : Int} {L H D i : Nat} {ks : List V} (hf : 2 ≤ f) (hf2 : f ≤ 100) (hLH : L ≤ H) (hH : H ≤ 18) (hD : 1 ≤ D) (hD2 : D ≤ 100) (hM : f ^ (H + 1) ≤ 4611686018427387904) (hi : 1 ≤ i) (hi2 : i ≤ (H + 1 - L) * D) :
    d36 nm 9 (vi [f, (L : Int), (H : Int), (D : Int)]) ks (i : Int) = some (sta f L D i, sta f L D (i + 1) - 1) := by
  have hmul : (H + 1 - L) * D ≤ 19 * 100 := Nat.mul_le_mul (by omega) hD2
  obtain ⟨e1, e2, e3, e4⟩ := log_idx (L := L) hi (by omega) hD hD2 (by omega)
  have hq : (i - 1) / D < H + 1 - L := by
    rw [Nat.div_lt_iff_lt_mul (by omega)]; omega
  have hml := Nat.mod_lt (i - 1) (show D > 0 by omega)
  have n0 : Ne0 (D : Int) := by unfold Ne0; omega
  rw [sta_succ f L D i hD hi]
  unfold d36 sta
  rw [if_neg (by decide), if_neg (by decide)]
  simp only [iv40, iv41, iv43, ↓reduceIte, g40, g41, g43, e1, e2, e3, e4, if_pos n0]
  generalize (i - 1) / D = q at *
  generalize (i - 1) % D = r at *
  have h0 : 0 < f ^ (L + q) := Int.pow_pos (by omega)
  have hR : 0 < f ^ (L + q + 1) - f ^ (L + q) := by
    have : f ^ (L + q) * 2 ≤ f ^ (L + q) * f := Int.mul_le_mul_of_nonneg_left hf (by omega)
    rw [Int.pow_succ]; omega
  have hle := pow_mono (show 1 ≤ f by omega) (show L + q + 1 ≤ H + 1 by omega)
  have e5 : arReal .add .i64 ((L + q : Nat) : Int) 1 = ((L + q + 1 : Nat) : Int) := succ_i (n := 1000) (by omega) (by omega)
  rw [e5, s35_small hf hf2 (show L + q ≤ H + 1 by omega) hM (by omega)]
  simp only [Option.bind_some]
  rw [s35_small hf hf2 (show L + q + 1 ≤ H + 1 by omega) hM (by omega)]
  simp only [Option.bind_some]
  rw [ar_sub' (a := f ^ (L + q + 1)) ⟨by omega, by omega⟩, wk_u (a := f ^ (L + q + 1) - f ^ (L + q)) ⟨by omega, by omega⟩, wk_u (a := (r : Int)) ⟨by omega, by omega⟩, ar_addu' (a := (r : Int)) ⟨by omega, by omega⟩]
  obtain ⟨u1, u2, u3⟩ := s66 (f := f) (L := L) (H := H) (D := D) (x := (r : Int)) (rest := f ^ (L + q + 1) - f ^ (L + q)) (by omega) (by omega) hD hD2 (by omega) (by omega) (f ^ (L + q)) (by omega) (by omega)
  obtain ⟨w1, w2, w3⟩ := s66 (f := f) (L := L) (H := H) (D := D) (x := (r : Int) + 1) (rest := f ^ (L + q + 1) - f ^ (L + q)) (by omega) (by omega) hD hD2 (by omega) (by omega) (f ^ (L + q)) (by omega) (by omega)
  rw [u1, w1]
  simp only [Option.bind_some]
  rw [ar_sub' ⟨by omega, by omega⟩]
/-- What Bounds tells of a bucket. -/
def rngOf (fn : Int) (p : List Int) (i : Nat) : Int × Int × Bool × Int := if bo fn p i > bo fn p (i + 1) - 1 then (0, 0, false, 0) else (bo fn p i, bo fn p (i + 1) - 1, true, 0)
theorem bo_last8 {a b c : Int} (h1 : 1 ≤ c) (h2 : c ≤ 4611686018427387904) (h3 : -4611686018427387904 ≤ a) (h4 : a < b) (h5 : b ≤ 4611686018427387904) {i : Nat} (hi : (i : Int) = stp a b c + 1) : bo 8 [a, b, c] i = b := by
  have ew := wd8 a b c
  have s0 := (s65 h3 h5 h4 h1 h2).2.1
  rw [bo_8 (by omega) (by omega), show (i : Int) - 1 = stp a b c by omega]
  have : b - a + c - 1 < (stp a b c + 1) * c := by
    have := Int.lt_ediv_add_one_mul_self (b - a + c - 1) (show 0 < c by omega)
    exact this
  rw [Int.add_mul, Int.one_mul] at this
  omega
theorem sta_last {f : Int} {L H D : Nat} (hD : 1 ≤ D) (hLH : L ≤ H) : sta f L D ((H + 1 - L) * D + 1) = f ^ (H + 1) := by
  unfold sta
  rw [Nat.add_sub_cancel, Nat.mul_div_cancel _ (by omega), Nat.mul_mod_left, show ((0 : Nat) : Int) = 0 from rfl, Int.zero_mul, Int.ediv_eq_zero_of_lt (by omega) (by omega), show L + (H + 1 - L) = H + 1 by omega, Int.add_zero]
open Classical in
theorem s12 (nm : ByteArray) (fn : Int) (p : List Int) (ks : List V) (hp : ∀ x ∈ p, I64 x) (i : Int) :
    d12 nm fn (vi p) ks i = some (if okA nm fn p ks then (if 7 ≤ fn ∧ 0 ≤ i ∧ i < wd fn p then rngOf fn p i.toNat else (0, 0, false, 1)) else (0, 0, false, 210)) := by
  unfold d12
  rw [s22 nm fn p ks hp]
  simp only [Option.bind_some, c_neq]
  rcases Classical.em (okA nm fn p ks) with h | h
  rotate_left
  · rw [if_neg h, if_neg h, nif' (by omega)]
  have hw := wd_rng h
  have hf := h.fn
  rw [if_pos h, if_pos h, nif rfl, s31]
  simp only [Option.bind_some, notB_dec]
  rcases Classical.em (fn ≥ 7) with h7 | h7
  rotate_left
  · rw [nif' h7, if_neg (fun k => h7 k.1)]
  rw [nif h7, s34 h]
  simp only [Option.bind_some, e33, s76, notB_dec]
  rw [ar_sub' (a := wd fn p) ⟨by omega, by omega⟩]
  rcases Classical.em (0 ≤ i ∧ i ≤ wd fn p - 1) with hi | hi
  rotate_left
  · have hc : ¬ (7 ≤ fn ∧ 0 ≤ i ∧ i < wd fn p) := fun k => hi ⟨k.2.1, by omega⟩
    rw [nif' hi, if_neg hc]
  have hc : 7 ≤ fn ∧ 0 ≤ i ∧ i < wd fn p := ⟨h7, hi.1, by omega⟩
  rw [nif hi, if_pos hc]
  obtain ⟨n, rfl⟩ := Int.eq_ofNat_of_zero_le hi.1
  rw [Int.toNat_natCast]
  have k1 := (bo_key h h7 (i := n) (by omega)).1
  have k2 := (bo_key h h7 (i := n + 1) (by push_cast; omega)).1
  -- the bounds that are met
  have fin : ∀ x : Int × Int, x = (bo fn p n, bo fn p (n + 1) - 1) → (if cmpLit .gtr x.1 x.2 = true then some ((0 : Int), (0 : Int), false, (0 : Int)) else some (x.1, x.2, true, 0)) = some (rngOf fn p n) := by
    rintro x rfl
    unfold rngOf
    dsimp only
    rw [c_gtr]
    by_cases hg : bo fn p n > bo fn p (n + 1) - 1
    · rw [yif hg, if_pos hg]
    · rw [yif' hg, if_neg hg]
  rcases (show fn = 7 ∨ fn = 8 ∨ fn = 9 by omega) with rfl | rfl | rfl
  · obtain rfl := h.nil (by omega)
    have ew : wd 7 [] = 127 := rfl
    simp only [c_eql, Int.reduceEq, decide_false, decide_true, Bool.false_eq_true, ↓reduceIte, Option.bind_some]
    by_cases hn : (n : Int) = 0
    · obtain rfl : n = 0 := by omega
      rw [yif hn]
      refine bnd1 rfl (fin _ ?_)
      rw [bo_0, bo_7 (by omega) (by omega)]; decide
    · rw [yif' hn, s36_7 (by omega) (by omega)]
      exact bnd1 rfl (fin _ rfl)
  · obtain ⟨a, b, c, rfl, h1, h2, h3, h4, h5, h6⟩ := h.2.2.2.2.2.1.lin
    have s0 := (s65 h3 h5 h4 h1 h2).2.1
    have ew := wd8 a b c
    simp only [c_eql, Int.reduceEq, decide_false, decide_true, Bool.false_eq_true, ↓reduceIte, Option.bind_some, iv30, iv31, g30, g31]
    by_cases hn : (n : Int) = 0
    · obtain rfl : n = 0 := by omega
      rw [yif hn]
      refine bnd1 rfl (fin _ ?_)
      rw [bo_0, bo_8 (by omega) (by push_cast; omega), ar_sub' ⟨by omega, by omega⟩]
      congr 1
      rw [show ((0 + 1 : Nat) : Int) - 1 = 0 by omega, Int.zero_mul]
      omega
    · rw [yif' hn]
      by_cases hl : (n : Int) = wd 8 [a, b, c] - 1
      · rw [yif hl]
        refine bnd1 rfl (fin _ ?_)
        rw [bo_last8 h1 h2 h3 h4 h5 (by omega), bo_w (by omega) (by push_cast; omega)]; rfl
      · rw [yif' hl, s36_8 h1 h2 h3 h4 h5 h6 (by omega) (by omega)]
        exact bnd1 rfl (fin _ rfl)
  · obtain ⟨f, L, H, D, rfl, h1, h2, h3, h4, h5, h6, h7⟩ := h.2.2.2.2.2.1.log2
    have ew := wd9n f L H D h3
    have hp0 : 0 < f ^ L := Int.pow_pos (by omega)
    have hple := pow_mono (show 1 ≤ f by omega) (show L ≤ H + 1 by omega)
    have eH : arReal .add .i64 (H : Int) 1 = ((H + 1 : Nat) : Int) := succ_i (n := 100) (by omega) (by omega)
    simp only [c_eql, Int.reduceEq, decide_false, decide_true, Bool.false_eq_true, ↓reduceIte, Option.bind_some, iv40, iv41, iv42, g40, g41, g42, eH, s35_small h1 h2 (show L ≤ H + 1 by omega) h7 (by omega), s35_small h1 h2 (show H + 1 ≤ H + 1 by omega) h7 (by omega)]
    by_cases hn : (n : Int) = 0
    · obtain rfl : n = 0 := by omega
      rw [yif hn]
      refine bnd1 rfl (fin _ ?_)
      rw [bo_0, bo_9 rfl (by omega) (by push_cast; omega), ar_sub' ⟨by omega, by omega⟩, sta_1 _ _ _ h5]
    · rw [yif' hn]
      by_cases hl : (n : Int) = wd 9 [f, (L : Int), (H : Int), (D : Int)] - 1
      · rw [yif hl]
        refine bnd1 rfl (fin _ ?_)
        have hnn : n = (H + 1 - L) * D + 1 := by omega
        rw [bo_w (i := n + 1) (by omega) (by push_cast; omega), bo_9 rfl (by omega) (by omega), hnn, sta_last h5 h3]; rfl
      · rw [yif' hl, s36_9 h1 h2 h3 h4 h5 h6 h7 (by omega) (by omega)]
        refine bnd1 rfl (fin _ ?_)
        rw [bo_9 rfl (by omega) (by omega), bo_9 rfl (by omega) (by push_cast; omega)]
theorem s11 (nm : ByteArray) (fn : Int) (p : List Int) (ks : List V) (hp : ∀ x ∈ p, I64 x) {v : Int} (hv : I64 v) :
    d11 nm fn (vi p) ks v = some (if okA nm fn p ks then (if 7 ≤ fn then (bk fn p v, 0) else (0, 1)) else (0, 210)) := by
  unfold d11
  rw [s22 nm fn p ks hp]
  simp only [Option.bind_some, c_neq]
  by_cases h : okA nm fn p ks
  · rw [if_pos h, if_pos h, nif rfl, s31]
    simp only [Option.bind_some, notB_dec]
    by_cases h7 : fn ≥ 7
    · rw [nif h7, if_pos h7, (s32 h h7 hv).1]
      rfl
    · rw [nif' h7, if_neg h7]
  · rw [if_neg h, if_neg h, nif' (by omega)]
end Go.Proofs.Ytmofhbedamjblaa
end
section
namespace Go.Proofs.Ytmofhbedamjblaa
open Go.Ab Go.RowKit 
set_option maxRecDepth 100000
set_option maxHeartbeats 40000000
noncomputable def d10 : Option (Bool) :=
 (d20 5 []).bind fun x1 =>
 (d19 x1.1 x1.2.1 x1.2.2.1 x1.2.2.2 [.i .i64 3, .i .i64 4, .i .i64 6]).bind fun x2 =>
 (d20 5 []).bind fun x3 =>
 (d21 x3.1 x3.2.1 x3.2.2.1 x3.2.2.2 x2.1).bind fun x4 =>
 (d20 6 []).bind fun x5 =>
 (d19 x5.1 x5.2.1 x5.2.2.1 x5.2.2.2 [.i .i64 2, .i .i64 4, .i .i64 4, .i .i64 4, .i .i64 5, .i .i64 5, .i .i64 7, .i .i64 9]).bind fun x6 =>
 (d20 6 []).bind fun x7 =>
 (d21 x7.1 x7.2.1 x7.2.2.1 x7.2.2.2 x6.1).bind fun x8 =>
 Option.bind (α := Bool) (
  if (notB' x2.2) = true then
   some true
  else
   if (notB' x6.2) = true then
    some true
   else
    if (cmpLit .neq x4.2 0) = true then
     some true
    else
     if (cmpLit .neq x8.2 0) = true then
      some true
     else
      (d17 x2.1 [.i .i64 3, .i .i64 13]).bind fun x16 =>
      if (notB' x16) = true then
       some true
      else
       if (cmpLit .neq x4.1 4) = true then
        some true
       else
        (d17 x6.1 [.i .i64 8, .i .i64 40, .i .i64 0, .i .i64 232]).bind fun x17 =>
        if (notB' x17) = true then
         some true
        else
         some (cmpLit .neq x8.1 2)) fun y15 =>
 if y15 = true then
  some false
 else
  (d20 7 []).bind fun x19 =>
  (d11 x19.1 x19.2.1 x19.2.2.1 x19.2.2.2 (-8)).bind fun x20 =>
  (d20 8 [.i .i64 0, .i .i64 10, .i .i64 3]).bind fun x21 =>
  (d11 x21.1 x21.2.1 x21.2.2.1 x21.2.2.2 9).bind fun x22 =>
  (d20 9 [.i .i64 10, .i .i64 0, .i .i64 1, .i .i64 5]).bind fun x23 =>
  (d11 x23.1 x23.2.1 x23.2.2.1 x23.2.2.2 99).bind fun x24 =>
  (d20 8 [.i .i64 0, .i .i64 10, .i .i64 3]).bind fun x25 =>
  (d12 x25.1 x25.2.1 x25.2.2.1 x25.2.2.2 4).bind fun x26 =>
  Option.bind (α := Bool) (
   if (cmpLit .neq x20.2 0) = true then
    some true
   else
    if (cmpLit .neq x22.2 0) = true then
     some true
    else
     if (cmpLit .neq x24.2 0) = true then
      some true
     else
      if (cmpLit .neq x26.2.2.2 0) = true then
       some true
      else
       if (cmpLit .neq x20.1 59) = true then
        some true
       else
        if (cmpLit .neq x22.1 4) = true then
         some true
        else
         if (cmpLit .neq x24.1 10) = true then
          some true
         else
          if (cmpLit .neq x26.1 9) = true then
           some true
          else
           if (cmpLit .neq x26.2.1 9) = true then
            some true
           else
            some (notB' x26.2.2.1)) fun y29 =>
  if y29 = true then
   some false
  else
   (d20 2 []).bind fun x31 =>
   (d13 x31.1 x31.2.1 x31.2.2.1 x31.2.2.2 [.i .i64 (-7)] 2).bind fun x32 =>
   if (cmpLit .eql x32.2 0) = true then
    (d17 x32.1 [.i .i64 (-3)]).bind fun x34 =>
    some x34
   else
    some false
noncomputable def d4_b1 (a0_0 : ByteArray) (a0_1 : Int) (a0_2 : List V) (a0_3 : List V) (a1 : Int) (x2 : Int × Int) (x3 : List V × Int) (s61 : Bool × Int × Int) : Option ((Bool × Int × Int) ⊕ ((Bool) ⊕ (Int))) :=
 if (cmpLit .lss s61.2.2 (lenI x3.1)) = true then
  (d12 a0_0 a0_1 a0_2 a0_3 s61.2.2).bind fun x90 =>
  Option.bind (α := Bool) (
   if (cmpLit .neq x90.2.2.2 0) = true then
    some true
   else
    if x90.2.2.1 = true then
     if (cmpLit .leq x90.1 a1) = true then
      some (notB' (beqB (cmpLit .leq a1 x90.2.1) (cmpLit .eql s61.2.2 x2.1)))
     else
      some (notB' (beqB false (cmpLit .eql s61.2.2 x2.1)))
    else
     some (notB' (beqB false (cmpLit .eql s61.2.2 x2.1)))) fun y93 =>
  if y93 = true then
   some (.inr (.inl false))
  else
   if (notB' x90.2.2.1) = true then
    some (.inl (s61.1, s61.2.1, (arReal .add .i64 s61.2.2 1)))
   else
    Option.bind (α := Bool) (
     if (cmpLit .gtr x90.1 x90.2.1) = true then
      some true
     else
      if s61.1 = true then
       if (cmpLit .neq x90.1 (-9223372036854775808)) = true then
        some true
       else
        if (notB' s61.1) = true then
         if (cmpLit .eql s61.2.1 9223372036854775807) = true then
          some true
         else
          some (cmpLit .neq x90.1 (arReal .add .i64 s61.2.1 1))
        else
         some false
      else
       if (notB' s61.1) = true then
        if (cmpLit .eql s61.2.1 9223372036854775807) = true then
         some true
        else
         some (cmpLit .neq x90.1 (arReal .add .i64 s61.2.1 1))
       else
        some false) fun y97 =>
    if y97 = true then
     some (.inr (.inl false))
    else
     some (.inl (false, x90.2.1, (arReal .add .i64 s61.2.2 1)))
 else
  some (.inr (.inr s61.2.1))
noncomputable def d4 (a0_0 : ByteArray) (a0_1 : Int) (a0_2 : List V) (a0_3 : List V) (a1 : Int) : Option (Bool) :=
 (d10).bind fun x1 =>
 (d11 a0_0 a0_1 a0_2 a0_3 a1).bind fun x2 =>
 if (cmpLit .neq x2.2 0) = true then
  some x1
 else
  (d18 a0_0 a0_1 a0_2 a0_3).bind fun x3 =>
  if (cmpLit .neq x3.2 0) = true then
   some false
  else
   if (cmpLit .lss x2.1 0) = true then
    some false
   else
    if (cmpLit .geq x2.1 (lenI x3.1)) = true then
     some false
    else
     Option.bind (α := (Int) ⊕ (Bool)) (
      (iter (d4_b1 a0_0 a0_1 a0_2 a0_3 a1 x2 x3) (true, 0, 0)).bind fun y80 =>
      match y80 with
      | .inl p99 =>
       some (.inr p99)
      | .inr y80r0 =>
       some (.inl y80r0)) fun y42 =>
     match y42 with
     | .inl p101 =>
      if x1 = true then
       some (cmpLit .eql p101 9223372036854775807)
      else
       some false
     | .inr y42r0 =>
      some y42r0
noncomputable def d5_b1 (a0 : List V) (x1 : Bool) (s5 : Bool × Int) : Option ((Bool × Int) ⊕ ((Bool) ⊕ (Bool))) :=
 if (cmpLit .lss s5.2 (lenI a0)) = true then
  if (Inb s5.2 (lenI a0)) then
   if (cmpLit .gtr (gI a0 s5.2 0) 1125899906842624) = true then
    some (.inr (.inl x1))
   else
    if (Inb s5.2 (lenI a0)) then
     if (cmpLit .lss (gI a0 s5.2 0) (-1125899906842624)) = true then
      some (.inr (.inl x1))
     else
      if s5.1 = true then
       if (Inb s5.2 (lenI a0)) then
        if (Inb 0 (lenI a0)) then
         some (.inl ((cmpLit .eql (gI a0 s5.2 0) (gI a0 0 0)), (arReal .add .i64 s5.2 1)))
        else none
       else none
      else
       some (.inl (false, (arReal .add .i64 s5.2 1)))
    else none
  else none
 else
  some (.inr (.inr s5.1))
noncomputable def d5_b2 (a0 : List V) (s53 : Int × List V) : Option ((Int × List V) ⊕ ((Bool) ⊕ (List V))) :=
 if (cmpLit .leq s53.1 7) = true then
  (d20 s53.1 []).bind fun x67 =>
  (d19 x67.1 x67.2.1 x67.2.2.1 x67.2.2.2 a0).bind fun x68 =>
  (d20 s53.1 []).bind fun x69 =>
  (d21 x69.1 x69.2.1 x69.2.2.1 x69.2.2.2 x68.1).bind fun x70 =>
  if (notB' x68.2) = true then
   some (.inr (.inl false))
  else
   if (cmpLit .neq x70.2 0) = true then
    some (.inr (.inl false))
   else
    if (Room (lenI (appL s53.2 [.i .i64 x70.1])) 8) then
     some (.inl ((arReal .add .i64 s53.1 1), (appL s53.2 [.i .i64 x70.1])))
    else none
 else
  some (.inr (.inr s53.2))
noncomputable def d5 (a0 : List V) (a1_0 : Int) (a1_1 : Int) (a1_2 : Int) : Option (Bool) :=
 (d10).bind fun x1 =>
 if (cmpLit .eql (lenI a0) 0) = true then
  some x1
 else
  if (cmpLit .gtr (lenI a0) 200) = true then
   some x1
  else
   Option.bind (α := (Bool) ⊕ (Bool)) (
    (iter (d5_b1 a0 x1) (true, 0)).bind fun y6 =>
    match y6 with
    | .inl p7 =>
     some (.inr p7)
    | .inr y6r0 =>
     some (.inl y6r0)) fun y4 =>
   match y4 with
   | .inl p9 =>
    Option.bind (α := (List V) ⊕ (Bool)) (
     (iter (d5_b2 a0) (1, [])).bind fun y62 =>
     match y62 with
     | .inl p71 =>
      some (.inr p71)
     | .inr y62r0 =>
      some (.inl y62r0)) fun y36 =>
    match y36 with
    | .inl p73 =>
     (d20 8 [.i .i64 a1_0, .i .i64 a1_1, .i .i64 a1_2]).bind fun x74 =>
     Option.bind (α := (Unit) ⊕ (Bool)) (
      (d22 x74.1 x74.2.1 x74.2.2.1 x74.2.2.2).bind fun x79 =>
      if (cmpLit .eql x79 0) = true then
       (d19 x74.1 x74.2.1 x74.2.2.1 x74.2.2.2 a0).bind fun x80 =>
       (d21 x74.1 x74.2.1 x74.2.2.1 x74.2.2.2 x80.1).bind fun x81 =>
       if (notB' x80.2) = true then
        some (.inr false)
       else
        if (cmpLit .neq x81.2 0) = true then
         some (.inr false)
        else
         if (cmpLit .neq x81.1 (lenI a0)) = true then
          some (.inr false)
         else
          some (.inl ())
      else
       some (.inl ())) fun y78 =>
     match y78 with
     | .inl p82 =>
      if (Inb 2 (lenI p73)) then
       if (Inb 3 (lenI p73)) then
        if (Inb 4 (lenI p73)) then
         if x1 = true then
          if (Inb 0 (lenI p73)) then
           if (cmpLit .eql (gI p73 0 0) (lenI a0)) = true then
            if (Inb 6 (lenI p73)) then
             if (cmpLit .eql (gI p73 6 0) (lenI a0)) = true then
              if (cmpLit .leq (gI p73 2 0) (gI p73 4 0)) = true then
               if (cmpLit .leq (gI p73 4 0) (gI p73 3 0)) = true then
                if (Inb 5 (lenI p73)) then
                 if (cmpLit .eql (gI p73 5 0) 0) = true then
                  if (Inb 5 (lenI p73)) then
                   if (cmpLit .geq (gI p73 5 0) 0) = true then
                    if (Inb 1 (lenI p73)) then
                     if (Ne0 (lenI a0)) then
                      some (cmpLit .eql (gI p73 4 0) (arReal .quo .i64 (gI p73 1 0) (lenI a0)))
                     else none
                    else none
                   else
                    some false
                  else none
                 else
                  if (notB' p9) = true then
                   if (Inb 5 (lenI p73)) then
                    if (cmpLit .geq (gI p73 5 0) 0) = true then
                     if (Inb 1 (lenI p73)) then
                      if (Ne0 (lenI a0)) then
                       some (cmpLit .eql (gI p73 4 0) (arReal .quo .i64 (gI p73 1 0) (lenI a0)))
                      else none
                     else none
                    else
                     some false
                   else none
                  else
                   some false
                else none
               else
                some false
              else
               some false
             else
              some false
            else none
           else
            some false
          else none
         else
          some false
        else none
       else none
      else none
     | .inr y78r0 =>
      some y78r0
    | .inr y36r0 =>
     some y36r0
   | .inr y4r0 =>
    some y4r0
noncomputable def d6_b1 (a2_1 : Int) (x21 : List V × Int) (x22 : List V × Int) (s26 : Int) : Option ((Int) ⊕ ((Bool) ⊕ (Unit))) :=
 if (cmpLit .lss s26 (lenI x21.1)) = true then
  if (Inb s26 (lenI x21.1)) then
   if (Ne0 a2_1) then
    if (Inb s26 (lenI x22.1)) then
     if (cmpLit .neq (arReal .quo .i64 (gI x21.1 s26 0) a2_1) (gI x22.1 s26 0)) = true then
      some (.inr (.inl false))
     else
      some (.inl (arReal .add .i64 s26 1))
    else none
   else none
  else none
 else
  some (.inr (.inr ()))
noncomputable def d6 (a0_0 : ByteArray) (a0_1 : Int) (a0_2 : List V) (a0_3 : List V) (a1 : List V) (a2_0 : Int) (a2_1 : Int) : Option (Bool) :=
 (d10).bind fun x1 =>
 (d13 a0_0 a0_1 a0_2 a0_3 a1 1).bind fun x2 =>
 (d21 a0_0 a0_1 a0_2 a0_3 a1).bind fun x3 =>
 if (cmpLit .neq x2.2 x3.2) = true then
  some false
 else
  if (cmpLit .neq x2.2 0) = true then
   some x1
  else
   Option.bind (α := Bool) (
    if (cmpLit .lss a0_1 7) = true then
     (d17 x2.1 [.i .i64 x3.1]).bind fun x13 =>
     if (notB' x13) = true then
      some true
     else
      if (cmpLit .geq a0_1 7) = true then
       (d17 x2.1 a1).bind fun x14 =>
       some (notB' x14)
      else
       some false
    else
     if (cmpLit .geq a0_1 7) = true then
      (d17 x2.1 a1).bind fun x15 =>
      some (notB' x15)
     else
      some false) fun y12 =>
   if y12 = true then
    some false
   else
    Option.bind (α := Bool) (
     if (cmpLit .lss a2_0 1) = true then
      some true
     else
      if (cmpLit .lss a2_1 1) = true then
       some true
      else
       if (cmpLit .gtr a2_0 2147483648) = true then
        some true
       else
        some (cmpLit .gtr a2_1 2147483648)) fun y19 =>
    if y19 = true then
     some x1
    else
     (d13 a0_0 a0_1 a0_2 a0_3 a1 a2_0).bind fun x21 =>
     (d13 a0_0 a0_1 a0_2 a0_3 a1 (arReal .mul .i64 a2_0 a2_1)).bind fun x22 =>
     if (cmpLit .neq x21.2 0) = true then
      some false
     else
      if (cmpLit .neq x22.2 0) = true then
       some false
      else
       if (cmpLit .neq (lenI x21.1) (lenI x22.1)) = true then
        some false
       else
        Option.bind (α := (Unit) ⊕ (Bool)) (
         (iter (d6_b1 a2_1 x21 x22) 0).bind fun y27 =>
         match y27 with
         | .inl p28 =>
          some (.inr p28)
         | .inr y27r0 =>
          some (.inl ())) fun y25 =>
        match y25 with
        | .inl p30 =>
         some x1
        | .inr y25r0 =>
         some y25r0
noncomputable def d7_b1 (a0_0 : ByteArray) (a0_1 : Int) (a0_2 : List V) (a0_3 : List V) (a1 : List V) (a2 : List V) (s46 : List V × Int × List V) : Option ((List V × Int × List V) ⊕ ((Bool) ⊕ (List V × List V))) :=
 if (cmpLit .lss s46.2.1 (lenI a1)) = true then
  Option.bind (α := Int) (
   if (cmpLit .lss s46.2.1 (lenI a2)) = true then
    if (Inb s46.2.1 (lenI a2)) then
     if (Ne0 3) then
      some (arReal .rem .i64 (wrapK .i64 (gI a2 s46.2.1 0)) 3)
     else none
    else none
   else
    some 0) fun y60 =>
  if (Inb y60 (lenI s46.2.2)) then
   if (Inb s46.2.1 (lenI a1)) then
    (d23 a0_0 a0_1 a0_2 a0_3 (gL s46.2.2 y60 0) (gI a1 s46.2.1 0)).bind fun x62 =>
    if (Inb (arReal .sub .i64 (arReal .sub .i64 (lenI a1) 1) s46.2.1) (lenI a1)) then
     (d23 a0_0 a0_1 a0_2 a0_3 s46.1 (gI a1 (arReal .sub .i64 (arReal .sub .i64 (lenI a1) 1) s46.2.1) 0)).bind fun x63 =>
     if (cmpLit .neq x62.2 0) = true then
      some (.inr (.inl false))
     else
      if (cmpLit .neq x63.2 0) = true then
       some (.inr (.inl false))
      else
       if (Inb y60 (lenI s46.2.2)) then
        some (.inl (x63.1, (arReal .add .i64 s46.2.1 1), (putL s46.2.2 y60 0 [.sl 2 x62.1])))
       else none
    else none
   else none
  else none
 else
  some (.inr (.inr (s46.1, s46.2.2)))
noncomputable def d7 (a0_0 : ByteArray) (a0_1 : Int) (a0_2 : List V) (a0_3 : List V) (a1 : List V) (a2 : List V) : Option (Bool) :=
 (d10).bind fun x1 =>
 (d18 a0_0 a0_1 a0_2 a0_3).bind fun x2 =>
 if (cmpLit .neq x2.2 0) = true then
  some x1
 else
  if (cmpLit .gtr (lenI a1) 300) = true then
   some x1
  else
   Option.bind (α := (List V × List V) ⊕ (Bool)) (
    (iter (d7_b1 a0_0 a0_1 a0_2 a0_3 a1 a2) (x2.1, 0, [.sl 2 x2.1, .sl 2 x2.1, .sl 2 x2.1])).bind fun y55 =>
    match y55 with
    | .inl p64 =>
     some (.inr p64)
    | .inr y55r0 =>
     some (.inl (y55r0.1, y55r0.2))) fun y29 =>
   match y29 with
   | .inl p66 =>
    if (Inb 2 (lenI p66.2)) then
     if (Inb 0 (lenI p66.2)) then
      (d24 a0_0 a0_1 a0_2 a0_3 (gL p66.2 2 0) (gL p66.2 0 0)).bind fun x67 =>
      if (Inb 1 (lenI p66.2)) then
       (d24 a0_0 a0_1 a0_2 a0_3 (gL p66.2 1 0) x67.1).bind fun x68 =>
       if x1 = true then
        if (cmpLit .eql x67.2 0) = true then
         if (cmpLit .eql x68.2 0) = true then
          (d17 x68.1 p66.1).bind fun x71 =>
          if x71 = true then
           (d25 a0_0 a0_1 a0_2 a0_3 x68.1).bind fun x72 =>
           some (cmpLit .eql x72 0)
          else
           some false
         else
          some false
        else
         some false
       else
        some false
      else none
     else none
    else none
   | .inr y29r0 =>
    some y29r0
noncomputable def d8 (a0_0 : ByteArray) (a0_1 : Int) (a0_2 : List V) (a0_3 : List V) (a1_0 : List V) (a1_1 : List V) (a1_2 : List V) : Option (Bool) :=
 (d10).bind fun x1 =>
 (d24 a0_0 a0_1 a0_2 a0_3 a1_0 a1_1).bind fun x2 =>
 (d24 a0_0 a0_1 a0_2 a0_3 a1_1 a1_0).bind fun x3 =>
 if (cmpLit .neq x2.2 x3.2) = true then
  some false
 else
  (d17 x2.1 x3.1).bind fun x7 =>
  if (notB' x7) = true then
   some false
  else
   if (cmpLit .neq x2.2 0) = true then
    some x1
   else
    (d18 a0_0 a0_1 a0_2 a0_3).bind fun x8 =>
    (d24 a0_0 a0_1 a0_2 a0_3 a1_0 x8.1).bind fun x9 =>
    if (cmpLit .neq x8.2 0) = true then
     some false
    else
     if (cmpLit .neq x9.2 0) = true then
      some false
     else
      (d17 x9.1 a1_0).bind fun x13 =>
      if (notB' x13) = true then
       some false
      else
       (d24 a0_0 a0_1 a0_2 a0_3 x2.1 a1_2).bind fun x14 =>
       (d24 a0_0 a0_1 a0_2 a0_3 a1_1 a1_2).bind fun x15 =>
       if (cmpLit .neq x14.2 0) = true then
        some x1
       else
        if (cmpLit .neq x15.2 0) = true then
         some x1
        else
         (d24 a0_0 a0_1 a0_2 a0_3 a1_0 x15.1).bind fun x16 =>
         if x1 = true then
          if (cmpLit .eql x16.2 0) = true then
           (d17 x16.1 x14.1).bind fun x18 =>
           some x18
          else
           some false
         else
          some false
end Go.Proofs.Ytmofhbedamjblaa
end
section
namespace Go.Proofs.Ytmofhbedamjblaa
open Go.Ab Go.RowKit
set_option maxRecDepth 100000

/-- No count is greater. -/
def cb (fn : Int) (k : Int) (s : List Int) : Prop := if fn = 2 then True else if fn = 1 ∨ 7 ≤ fn then ∀ x ∈ s, x ≤ k else s.getD 0 0 ≤ k
theorem cb_2 (k : Int) (s : List Int) : cb 2 k s := by unfold cb; rw [if_pos rfl]; trivial
theorem cb_c {fn : Int} (h : fn = 1 ∨ 7 ≤ fn) (k : Int) (s : List Int) : cb fn k s ↔ ∀ x ∈ s, x ≤ k := by unfold cb; rw [if_neg (by omega), if_pos h]
theorem cb_p {fn : Int} (h : 3 ≤ fn ∧ fn ≤ 6) (k : Int) (s : List Int) : cb fn k s ↔ s.getD 0 0 ≤ k := by unfold cb; rw [if_neg (by omega), if_neg (by omega)]
/-- Merging adds the counts. -/
theorem cb_mg {fn : Int} {p s t : List Int} (hf : 1 ≤ fn ∧ fn ≤ 9) (hs : valS fn p s) (ht : valS fn p t) {j k : Int} (h1 : cb fn j s) (h2 : cb fn k t) (hjk : j + k ≤ 4611686018427387904) : gd fn s t ∧ cb fn (j + k) (mg fn s t) := by
  have l1 := val_eq hs ht
  rcases fn4 hf with h | rfl | h | rfl
  · rw [cb_c h] at *
    rw [gd_c h, mg_c h]
    constructor
    · intro i hi
      have hit : i < t.length := by omega
      rw [getD_get hi, getD_get hit]
      have := h1 _ (List.getElem_mem hi)
      have := h2 _ (List.getElem_mem hit)
      omega
    · intro x hx
      obtain ⟨i, hi, rfl⟩ := List.getElem_of_mem hx
      rw [List.length_zipWith] at hi
      have hi1 : i < s.length := by omega
      have hi2 : i < t.length := by omega
      rw [List.getElem_zipWith]
      have := h1 _ (List.getElem_mem hi1)
      have := h2 _ (List.getElem_mem hi2)
      omega
  · exact ⟨gd_2 _ _, cb_2 _ _⟩
  · obtain ⟨a, x, rfl, ha, hx⟩ := v345 h hs
    obtain ⟨b, y, rfl, hb, hy⟩ := v345 h ht
    rw [cb_p (by omega)] at *
    rw [gd_p (by omega), mg_p h]
    have h1 : a ≤ j := h1
    have h2 : b ≤ k := h2
    exact ⟨show a + b ≤ _ by omega, show a + b ≤ _ by omega⟩
  · obtain ⟨a, x, y, z, rfl, ha, hx⟩ := v6 hs
    obtain ⟨b, x', y', z', rfl, hb, hx'⟩ := v6 ht
    rw [cb_p (by omega)] at *
    rw [gd_p (by omega), mg_6]
    have h1 : a ≤ j := h1
    have h2 : b ≤ k := h2
    exact ⟨show a + b ≤ _ by omega, show a + b ≤ _ by omega⟩
theorem cb_zer (fn : Int) (p : List Int) : cb fn 0 (zer fn p) := by
  unfold cb
  split
  · trivial
  · split
    · intro x hx; rw [List.eq_of_mem_replicate hx]; omega
    · rw [zer_c]; omega
theorem cb_sing (fn : Int) (p : List Int) (v : Int) (hf : 1 ≤ fn ∧ fn ≤ 9) : cb fn 1 (sing fn p v) := by
  rcases fn_cases hf with rfl | rfl | rfl | rfl | rfl | rfl | h7
  · rw [sing_1, cb_c (.inl rfl)]; intro x hx; rw [List.mem_singleton.1 hx]; omega
  · exact cb_2 _ _
  · rw [sing_p (by omega), cb_p (by omega)]; exact Int.le_refl _
  · rw [sing_p (by omega), cb_p (by omega)]; exact Int.le_refl _
  · rw [sing_p (by omega), cb_p (by omega)]; exact Int.le_refl _
  · rw [sing_6, cb_p (by omega)]; exact Int.le_refl _
  · rw [sing_7 (by omega), cb_c (by omega)]
    intro x hx
    rcases List.mem_or_eq_of_mem_set hx with hx | rfl
    · rw [List.eq_of_mem_replicate hx]; omega
    · omega
/-- The state of values. -/
noncomputable def stv (fn : Int) (p : List Int) (l : List Int) : List Int := l.foldl (fun s v => mg fn s (sing fn p v)) (zer fn p)
theorem stv_snoc (fn : Int) (p l : List Int) (v : Int) : stv fn p (l ++ [v]) = mg fn (stv fn p l) (sing fn p v) := by
  unfold stv; rw [List.foldl_append]; rfl
theorem zer_i (fn : Int) (p : List Int) : ∀ x ∈ zer fn p, I64 x := fun x hx => by rw [List.eq_of_mem_replicate hx]; exact ⟨by omega, by omega⟩
/-- The states of values are valid, count them, and are what Add tells. -/
theorem stv_ok {nm : ByteArray} {fn : Int} {p : List Int} {ks : List V} (h : okA nm fn p ks) : ∀ (n : Nat) (l : List Int), l.length = n → n ≤ 4611686018427387904 → (∀ v ∈ l, I64 v) → valS fn p (stv fn p l) ∧ (∀ x ∈ stv fn p l, I64 x) ∧ cb fn n (stv fn p l)
  | 0, l, hl, _, _ => by
    obtain rfl := List.length_eq_zero_iff.1 hl
    exact ⟨zer_val h, zer_i fn p, cb_zer fn p⟩
  | n + 1, l, hl, hn, hv => by
    obtain ⟨r, a, rfl⟩ : ∃ r a, l = r ++ [a] := by
      rcases List.eq_nil_or_concat l with rfl | ⟨r, a, rfl⟩
      · simp at hl
      · exact ⟨r, a, by rw [List.concat_eq_append]⟩
    have ih := stv_ok h n r (by simpa using hl) (by omega) (fun v hr => hv v (List.mem_append_left _ hr))
    have ha := hv a (by simp)
    have hs := sing_val h ha
    have hc := cb_mg h.fn ih.1 hs.1 ih.2.2 (cb_sing fn p a h.fn) (by omega)
    rw [stv_snoc]
    refine ⟨mg_val h.fn ih.1 hs.1 hc.1, mg_i h.fn ih.1 hs.1 hc.1 ih.2.1 hs.2, ?_⟩
    push_cast; exact hc.2
theorem add_stv {nm : ByteArray} {fn : Int} {p : List Int} {ks : List V} (h : okA nm fn p ks) (hp : ∀ x ∈ p, I64 x) {l : List Int} {v : Int} (hl : l.length < 4611686018427387904) (hi : ∀ v ∈ l, I64 v) (hv : I64 v) : d23 nm fn (vi p) ks (vi (stv fn p l)) v = some (vi (stv fn p (l ++ [v])), 0) := by
  obtain ⟨k1, k2, k3⟩ := stv_ok h l.length l rfl (by omega) hi
  have hs := sing_val h hv
  have hc := cb_mg h.fn k1 hs.1 k3 (cb_sing fn p v h.fn) (by omega)
  have ls := val_len h k1
  rw [s23 nm fn p ks hp _ (by omega) hv, if_pos (chk0.2 ⟨h, k1⟩), if_pos hc.1, stv_snoc]
open Classical in
/-- filled. -/
theorem s19 {nm : ByteArray} {fn : Int} {p : List Int} {ks : List V} (h : okA nm fn p ks) (hp : ∀ x ∈ p, I64 x) (l : List Int) (hl : l.length ≤ 2000) (hi : ∀ v ∈ l, I64 v) : d19 nm fn (vi p) ks (vi l) = some (vi (stv fn p l), true) := by
  unfold d19
  rw [s18 nm fn p ks hp, if_pos h]
  simp only [Option.bind_some]
  have hI : iter (d19_b1 nm fn (vi p) ks (vi l)) (vi (stv fn p (l.take 0)), (0 : Int), ((0 : Nat) : Int)) = some (vi (stv fn p (l.take l.length)), 0) := by
    refine scan (d19_b1 nm fn (vi p) ks (vi l)) (fun j => (vi (stv fn p (l.take j)), (0 : Int), (j : Int))) (i := l.length) (Nat.zero_le _) (fun j _ hj => ?_) ?_
    · unfold d19_b1
      dsimp only
      rw [lenI_vi, if_pos (lt_i hj), if_pos (by decide), if_pos (inb_i hj), gI_vi _ _ hj, add_stv h hp (by rw [List.length_take]; omega) (fun v hv => hi v (List.mem_of_mem_take hv)) (hi _ (List.getElem_mem hj)), succ_i hj (by omega), List.take_succ_eq_append_getElem hj]
      rfl
    · unfold d19_b1
      dsimp only
      rw [lenI_vi, if_neg (nlt_i _)]
  rw [List.take_length] at hI
  have hI' : iter (d19_b1 nm fn (vi p) ks (vi l)) (vi (zer fn p), 0, 0) = some (vi (stv fn p l), 0) := hI
  rw [hI']
  rfl

abbrev nmA : ByteArray := ByteArray.mk #[97]
theorem okA_s {fn : Int} (h : 1 ≤ fn ∧ fn ≤ 7) : okA nmA fn [] [] :=
  ⟨by decide, by decide, by decide, h.1, by omega, by unfold okP; rw [if_neg (by omega), if_neg (by omega)], fun k hk => by cases hk⟩
theorem okA_l : okA nmA 8 [0, 10, 3] [] :=
  ⟨by decide, by decide, by decide, by decide, by decide, by unfold okP; rw [if_pos rfl]; exact ⟨0, 10, 3, rfl, by decide, by decide, by decide, by decide, by decide, by decide⟩, fun k hk => by cases hk⟩
theorem okA_g : okA nmA 9 [10, 0, 1, 5] [] :=
  ⟨by decide, by decide, by decide, by decide, by decide, by unfold okP; rw [if_neg (by omega), if_pos rfl]; exact ⟨10, 0, 1, 5, rfl, by decide, by decide, by decide, by decide, by decide, by decide, by decide, by decide, by decide, by decide⟩, fun k hk => by cases hk⟩
theorem bits_le {c : Int} : ∀ (n : Nat) (a : Int), a * 2 ^ n ≤ c → c < a * 2 ^ n + 2 ^ n → bits (fun r => r ≤ c) n (a * 2 ^ n) = c
  | 0, a, h1, h2 => by
    have : (2 : Int) ^ 0 = 1 := by decide
    show a * 2 ^ 0 = c
    omega
  | n + 1, a, h1, h2 => by
    have ep := two_succ n
    have e1 : a * 2 ^ (n + 1) = (2 * a) * 2 ^ n := by rw [ep]; grind
    have e2 : a * 2 ^ (n + 1) + 2 ^ n = (2 * a + 1) * 2 ^ n := by rw [ep]; grind
    unfold bits
    by_cases h : a * 2 ^ (n + 1) + 2 ^ n ≤ c
    · rw [if_pos h, e2]
      exact bits_le n (2 * a + 1) (by omega) (by omega)
    · rw [if_neg h, e1]
      exact bits_le n (2 * a) (by omega) (by omega)
theorem dv_ex : dv 8 40 (Sq 0 232) = 2 := by
  rw [dv_1 (by decide) (by decide)]
  have e : Sq 0 232 = 232 := by decide
  rw [e]
  have h := bits_congr (P := dvP 8 40 232) (Q := fun r => r ≤ 2) (fun r h1 h2 => by
    unfold dvP
    have e : r * 8 * (r * 8) = 64 * (r * r) := by grind
    rw [e]
    constructor
    · intro h
      apply Classical.byContradiction
      intro hn
      have : 3 * 3 ≤ r * r := Int.mul_le_mul (by omega) (by omega) (by omega) (by omega)
      omega
    · intro h
      rcases (show r = 1 ∨ r = 2 by omega) with rfl | rfl <;> decide) 63 0 (by omega) (by decide)
  rw [Int.zero_mul] at h
  have h2 := bits_le (c := 2) 63 0 (by decide) (by decide)
  rw [Int.zero_mul] at h2
  rw [h, h2]
instance (a : Int) : Decidable (I64 a) := by unfold I64; infer_instance
theorem val_6 (a x y z : Int) : val 6 [a, x, y, z] = dv a x (Sq y z) := by
  unfold val
  rw [if_neg (by omega), if_neg (by omega), if_neg (by omega), if_pos rfl]
  rfl
theorem nil_i : ∀ x ∈ ([] : List Int), I64 x := fun x hx => by cases hx
theorem sn_e5 : stv 5 [] [3, 4, 6] = [3, 13] := by kernel_rfl
theorem sn_e6 : stv 6 [] [2, 4, 4, 4, 5, 5, 7, 9] = [8, 40, 0, 232] := by kernel_rfl
theorem sn_i3 : ∀ x ∈ ([3, 4, 6] : List Int), I64 x := by decide
theorem sn_i8 : ∀ x ∈ ([2, 4, 4, 4, 5, 5, 7, 9] : List Int), I64 x := by decide
theorem sn_f5 : d19 nmA 5 (vi []) [] (vi [3, 4, 6]) = some (vi [3, 13], true) := by
  rw [s19 (okA_s (by omega)) nil_i [3, 4, 6] (by decide) sn_i3, sn_e5]
theorem sn_f6 : d19 nmA 6 (vi []) [] (vi [2, 4, 4, 4, 5, 5, 7, 9]) = some (vi [8, 40, 0, 232], true) := by
  rw [s19 (okA_s (by omega)) nil_i [2, 4, 4, 4, 5, 5, 7, 9] (by decide) sn_i8, sn_e6]
theorem sn_v5 : d21 nmA 5 (vi []) [] (vi [3, 13]) = some (4, 0) := by
  have k5 := stv_ok (okA_s (fn := 5) (by omega)) _ [3, 4, 6] rfl (by decide) sn_i3
  rw [sn_e5] at k5
  rw [s21 nmA 5 [] [] nil_i [3, 13] (by decide) k5.2.1, if_pos (chk0.2 ⟨okA_s (by omega), k5.1⟩), show val 5 [3, 13] = 4 by kernel_rfl]
theorem sn_v6 : d21 nmA 6 (vi []) [] (vi [8, 40, 0, 232]) = some (2, 0) := by
  have k6 := stv_ok (okA_s (fn := 6) (by omega)) _ [2, 4, 4, 4, 5, 5, 7, 9] rfl (by decide) sn_i8
  rw [sn_e6] at k6
  have ev6 : val 6 [8, 40, 0, 232] = 2 := (val_6 8 40 0 232).trans dv_ex
  rw [s21 nmA 6 [] [] nil_i [8, 40, 0, 232] (by decide) k6.2.1, if_pos (chk0.2 ⟨okA_s (by omega), k6.1⟩), ev6]
theorem sn_b7 : d11 nmA 7 (vi []) [] (-8) = some (59, 0) := by
  have eb7 : bk 7 [] (-8) = 59 := by
    rw [bk_of (s32_7 (nm := nmA) (ks := []) (v := -8) ⟨by decide, by decide⟩), if_neg (by decide), Len.bl (a := - -8) (k := 4) ⟨by decide, by decide⟩ (by decide)]
    decide
  rw [s11 nmA 7 [] [] nil_i (v := -8) ⟨by decide, by decide⟩, if_pos (okA_s (by omega)), if_pos (by decide), eb7]
theorem sn_b8 : d11 nmA 8 (vi [0, 10, 3]) [] 9 = some (4, 0) := by
  have eb8 : bk 8 [0, 10, 3] 9 = 4 := by
    rw [bk_of (s32_8 okA_l (v := 9) ⟨by decide, by decide⟩)]
    decide
  rw [s11 nmA 8 [0, 10, 3] [] (by decide) (v := 9) ⟨by decide, by decide⟩, if_pos okA_l, if_pos (by decide), eb8]
theorem sn_b9 : d11 nmA 9 (vi [10, 0, 1, 5]) [] 99 = some (10, 0) := by
  have eb9 : bk 9 [10, 0, 1, 5] 99 = 10 := by
    have e := s32_9 (f := 10) (L := 0) (H := 1) (st := 5) okA_g (v := 99) ⟨by decide, by decide⟩ (by decide) (by decide) (by decide) (by decide) (by decide) (by decide) (by decide)
    rw [if_neg (by decide), if_neg (by decide)] at e
    obtain ⟨m, m1, m2, m3, m4, m5, m6, e2⟩ := s64 (f := 10) (L := 0) (H := 1) (st := 5) (v := 99) (by decide) (by decide) (by decide) (by decide) (by decide) (by decide) (by decide) (by decide) (by decide)
    rw [e2] at e
    have : m = 0 ∨ m = 1 := by omega
    rcases this with rfl | rfl
    · exact absurd m4 (by decide)
    · exact (bk_of e).trans (by decide)
  rw [s11 nmA 9 [10, 0, 1, 5] [] (by decide) (v := 99) ⟨by decide, by decide⟩, if_pos okA_g, if_pos (by decide), eb9]
theorem sn_r8 : d12 nmA 8 (vi [0, 10, 3]) [] 4 = some (9, 9, true, 0) := by
  rw [s12 nmA 8 [0, 10, 3] [] (by decide) 4, if_pos okA_l, if_pos (by decide), show rngOf 8 [0, 10, 3] (Int.toNat 4) = (9, 9, true, 0) by decide]
theorem sn_n2 : d13 nmA 2 (vi []) [] (vi [-7]) 2 = some (vi [-3], 0) := by
  have hv2 : valS 2 [] [-7] := ⟨rfl, fun h => absurd h (by decide), fun h => absurd rfl h⟩
  rw [s13 nmA 2 [] [] nil_i [-7] (by decide) (by decide) 2, if_pos (chk0.2 ⟨okA_s (by omega), hv2⟩), if_neg (by decide), show shown 2 2 [-7] = [-3] by kernel_rfl]
theorem sn_q (l : List Int) (h : l.length ≤ 9223372036854775807) : d17 (vi l) (vi l) = some true := by rw [s17 l l h, decide_eq_true rfl]
theorem s10 : d10 = some true := by
  unfold d10
  refine bnd1 (a := (nmA, 5, vi [], [])) rfl ?_
  refine bnd1 sn_f5 ?_
  refine bnd1 (a := (nmA, 5, vi [], [])) rfl ?_
  refine bnd1 sn_v5 ?_
  refine bnd1 (a := (nmA, 6, vi [], [])) rfl ?_
  refine bnd1 sn_f6 ?_
  refine bnd1 (a := (nmA, 6, vi [], [])) rfl ?_
  refine bnd1 sn_v6 ?_
  refine bnd1 (a := false) ?_ ?_
  · refine dif0 (by decide) (dif0 (by decide) (dif0 (by decide) (dif0 (by decide) (bnd1 (sn_q [3, 13] (by decide)) ?_))))
    refine dif0 (by decide) (dif0 (by decide) (bnd1 (sn_q [8, 40, 0, 232] (by decide)) ?_))
    exact dif0 (by decide) rfl
  refine dif0 (by decide) ?_
  refine bnd1 (a := (nmA, 7, vi [], [])) rfl ?_
  refine bnd1 sn_b7 ?_
  refine bnd1 (a := (nmA, 8, vi [0, 10, 3], [])) rfl ?_
  refine bnd1 sn_b8 ?_
  refine bnd1 (a := (nmA, 9, vi [10, 0, 1, 5], [])) rfl ?_
  refine bnd1 sn_b9 ?_
  refine bnd1 (a := (nmA, 8, vi [0, 10, 3], [])) rfl ?_
  refine bnd1 sn_r8 ?_
  refine bnd1 (a := false) (by kernel_rfl) ?_
  refine dif0 (by decide) ?_
  refine bnd1 (a := (nmA, 2, vi [], [])) rfl ?_
  refine bnd1 sn_n2 ?_
  refine dif1 (by decide) ?_
  exact bnd1 (sn_q [-3] (by decide)) rfl
end Go.Proofs.Ytmofhbedamjblaa
end
section
namespace Go.Proofs.Ytmofhbedamjblaa
open Go.Ab Go.RowKit
set_option maxRecDepth 100000

/-- What Merge tells. -/
noncomputable def MR (nm : ByteArray) (fn : Int) (p : List Int) (ks : List V) (s t : List Int) : List Int × Int :=
  if chkS nm fn p ks s = 0 then (if chkS nm fn p ks t = 0 then (if gd fn s t then (mg fn s t, 0) else ([], 2)) else ([], chkS nm fn p ks t)) else ([], chkS nm fn p ks s)
theorem s24' (nm : ByteArray) (fn : Int) (p : List Int) (ks : List V) (hp : ∀ x ∈ p, I64 x) (s t : List Int) (hs : s.length ≤ 9223372036854775807) (ht : t.length ≤ 9223372036854775807) :
    d24 nm fn (vi p) ks (vi s) (vi t) = some (vi (MR nm fn p ks s t).1, (MR nm fn p ks s t).2) := by
  rw [s24 nm fn p ks hp s t hs ht]
  unfold MR
  split
  · split
    · split <;> rfl
    · rfl
  · rfl
theorem MR_len {nm : ByteArray} {fn : Int} {p : List Int} {ks : List V} {s t : List Int} : (MR nm fn p ks s t).1.length ≤ 2000 := by
  unfold MR
  split
  · rename_i h1
    split
    · rename_i h2
      split
      · rename_i hg
        obtain ⟨hA, hV⟩ := chk0.1 h1
        have := val_len hA (mg_val hA.fn hV (chk0.1 h2).2 hg)
        exact Nat.le_trans this (by decide)
      · exact Nat.zero_le _
    · exact Nat.zero_le _
  · exact Nat.zero_le _
theorem chk_ne {nm : ByteArray} {fn : Int} {p : List Int} {ks : List V} {s t : List Int} (h1 : chkS nm fn p ks s ≠ 0) (h2 : chkS nm fn p ks t ≠ 0) : chkS nm fn p ks s = chkS nm fn p ks t := by
  unfold chkS at *
  by_cases h : okA nm fn p ks
  · rw [if_pos h] at *
    rw [if_pos h] at *
    by_cases a : valS fn p s
    · rw [if_pos a] at h1; exact (h1 rfl).elim
    · by_cases b : valS fn p t
      · rw [if_pos b] at h2; exact (h2 rfl).elim
      · rw [if_neg a, if_neg b]
  · rw [if_neg h, if_neg h]
theorem MR_ok {nm : ByteArray} {fn : Int} {p : List Int} {ks : List V} {s t : List Int} (h : okA nm fn p ks) (hs : valS fn p s) (ht : valS fn p t) (hg : gd fn s t) : MR nm fn p ks s t = (mg fn s t, 0) := by
  unfold MR
  rw [if_pos (chk0.2 ⟨h, hs⟩), if_pos (chk0.2 ⟨h, ht⟩), if_pos hg]
theorem MR_0 {nm : ByteArray} {fn : Int} {p : List Int} {ks : List V} {s t : List Int} (h : (MR nm fn p ks s t).2 = 0) : okA nm fn p ks ∧ valS fn p s ∧ valS fn p t ∧ gd fn s t := by
  unfold MR at h
  by_cases h1 : chkS nm fn p ks s = 0
  · rw [if_pos h1] at h
    by_cases h2 : chkS nm fn p ks t = 0
    · rw [if_pos h2] at h
      by_cases h3 : gd fn s t
      · exact ⟨(chk0.1 h1).1, (chk0.1 h1).2, (chk0.1 h2).2, h3⟩
      · rw [if_neg h3] at h
        exact absurd h (by decide)
    · rw [if_neg h2] at h; exact (h2 h).elim
  · rw [if_neg h1] at h; exact (h1 h).elim
theorem MR_comm {nm : ByteArray} {fn : Int} {p : List Int} {ks : List V} (s t : List Int) : MR nm fn p ks s t = MR nm fn p ks t s := by
  unfold MR
  by_cases h1 : chkS nm fn p ks s = 0
  · rw [if_pos h1]
    by_cases h2 : chkS nm fn p ks t = 0
    · rw [if_pos h2, if_pos h2, if_pos h1]
      obtain ⟨hA, hV⟩ := chk0.1 h1
      have hW := (chk0.1 h2).2
      have e := gd_comm (fn := fn) (val_eq hV hW)
      by_cases hg : gd fn s t
      · rw [if_pos hg, if_pos (e.1 hg), mg_comm hA.fn hV hW]
      · rw [if_neg hg, if_neg (fun k => hg (e.2 k))]
    · rw [if_neg h2, if_neg h2]
  · rw [if_neg h1]
    by_cases h2 : chkS nm fn p ks t = 0
    · rw [if_pos h2, if_neg h1]
    · rw [if_neg h2, chk_ne h1 h2]
/-- AggrMerged. -/
theorem p8 (nm : ByteArray) (fn : Int) (p : List Int) (ks : List V) (hp : ∀ x ∈ p, I64 x) (s t u : List Int) (hs : s.length ≤ 9223372036854775807) (ht : t.length ≤ 9223372036854775807) (hu : u.length ≤ 9223372036854775807) (is : ∀ x ∈ s, I64 x) :
    d8 nm fn (vi p) ks (vi s) (vi t) (vi u) = some true := by
  unfold d8
  refine bnd1 s10 ?_
  refine bnd1 (s24' nm fn p ks hp s t hs ht) ?_
  refine bnd1 (s24' nm fn p ks hp t s ht hs) ?_
  dsimp only
  rw [MR_comm t s]
  refine dif0 (by rw [c_neq]; simp) ?_
  refine bnd1 (sn_q _ (Nat.le_trans MR_len (by decide))) ?_
  refine dif0 (by decide) ?_
  rw [c_neq]
  by_cases h0 : (MR nm fn p ks s t).2 = 0
  · rw [nif h0]
    obtain ⟨hA, hV, hW, hg⟩ := MR_0 h0
    have hz := mg_zero hA.fn hV is
    have e1 := s18 nm fn p ks hp
    rw [if_pos hA] at e1
    refine bnd1 e1 ?_
    have lz := val_len hA (zer_val hA)
    refine bnd1 (s24' nm fn p ks hp s (zer fn p) hs (by omega)) ?_
    rw [MR_ok hA hV (zer_val hA) hz.1, hz.2]
    dsimp only
    refine dif0 (by decide) ?_
    refine dif0 (by decide) ?_
    refine bnd1 (sn_q s hs) ?_
    refine dif0 (by decide) ?_
    rw [MR_ok hA hV hW hg]
    dsimp only
    have hVm := mg_val hA.fn hV hW hg
    have lm := val_len hA hVm
    refine bnd1 (s24' nm fn p ks hp (mg fn s t) u (by omega) hu) ?_
    refine bnd1 (s24' nm fn p ks hp t u ht hu) ?_
    dsimp only
    rw [c_neq, c_neq]
    by_cases h1 : (MR nm fn p ks (mg fn s t) u).2 = 0
    · rw [nif h1]
      by_cases h2 : (MR nm fn p ks t u).2 = 0
      · rw [nif h2]
        obtain ⟨_, _, hU, hg1⟩ := MR_0 h1
        obtain ⟨_, _, _, hg2⟩ := MR_0 h2
        rw [MR_ok hA hVm hU hg1, MR_ok hA hW hU hg2]
        dsimp only
        have hX := mg_val hA.fn hW hU hg2
        have lx := val_len hA hX
        have hg3 := gd_assoc hA.fn hV hW hU ⟨hg, hg1⟩
        refine bnd1 (s24' nm fn p ks hp s (mg fn t u) hs (by omega)) ?_
        rw [MR_ok hA hV hX hg3, ← mg_assoc hA.fn hV hW hU]
        dsimp only
        refine dif1 rfl ?_
        refine dif1 (by decide) ?_
        have ly := val_len hA (mg_val hA.fn hVm hU hg1)
        exact bnd1 (sn_q _ (by omega)) rfl
      · rw [nif' h2]
    · rw [nif' h1]
  · rw [nif' h0]

/-- Truncated quotients. -/
theorem tdiv_rng {x n : Int} (hx : I64 x) (hn : 1 ≤ n) : dq n x = x.tdiv n ∧ I64 (x.tdiv n) := by
  obtain ⟨h1, h2⟩ := hx
  have h : I64 (x.tdiv n) := by
    rcases Int.lt_or_le x 0 with hx0 | hx0
    · have : x.tdiv n = -((-x).tdiv n) := by rw [Int.neg_tdiv, Int.neg_neg]
      rw [this, Int.tdiv_eq_ediv_of_nonneg (by omega)]
      have a1 : 0 ≤ -x / n := Int.ediv_nonneg (by omega) (by omega)
      have a2 : -x / n ≤ -x := Int.ediv_le_self _ (by omega)
      exact ⟨by omega, by omega⟩
    · rw [Int.tdiv_eq_ediv_of_nonneg hx0]
      have a1 : 0 ≤ x / n := Int.ediv_nonneg (by omega) (by omega)
      have a2 : x / n ≤ x := Int.ediv_le_self _ (by omega)
      exact ⟨by omega, by omega⟩
  exact ⟨wk_i h, h⟩
theorem dq_one {x : Int} (hx : I64 x) : dq 1 x = x := by rw [(tdiv_rng hx (by omega)).1, Int.tdiv_one]
theorem tdiv_tdiv' {x m n : Int} (hm : 1 ≤ m) (hn : 1 ≤ n) : (x.tdiv m).tdiv n = x.tdiv (m * n) := by
  have key : ∀ y : Int, 0 ≤ y → (y.tdiv m).tdiv n = y.tdiv (m * n) := by
    intro y hy
    rw [Int.tdiv_eq_ediv_of_nonneg hy, Int.tdiv_eq_ediv_of_nonneg (Int.ediv_nonneg hy (by omega)), Int.tdiv_eq_ediv_of_nonneg hy, Int.ediv_ediv, if_neg (by omega), Int.sub_zero]
  rcases Int.lt_or_le x 0 with h | h
  · obtain ⟨y, rfl⟩ : ∃ y, x = -y := ⟨-x, by omega⟩
    rw [Int.neg_tdiv, Int.neg_tdiv, Int.neg_tdiv, key y (by omega)]
  · exact key x h
theorem dq_dq {x m n : Int} (hx : I64 x) (hm : 1 ≤ m) (hn : 1 ≤ n) (hmn : 1 ≤ m * n) : dq n (dq m x) = dq (m * n) x := by
  have a := tdiv_rng hx hm
  rw [a.1, (tdiv_rng a.2 hn).1, (tdiv_rng hx hmn).1]
  exact tdiv_tdiv' hm hn
theorem val_i {nm : ByteArray} {fn : Int} {p : List Int} {ks : List V} (h : okA nm fn p ks) {s : List Int} (hs : valS fn p s) (hi : ∀ x ∈ s, I64 x) : I64 (val fn s) := by
  rcases fn_cases h.fn with rfl | rfl | rfl | rfl | rfl | rfl | h7
  · obtain ⟨a, rfl, ha⟩ := v1 hs
    exact hi a (by simp)
  · obtain ⟨a, rfl⟩ := v2 hs
    exact hi a (by simp)
  · obtain ⟨a, x, rfl, ha, hx⟩ := v345 (by omega) hs
    exact hi x (by simp)
  · obtain ⟨a, x, rfl, ha, hx⟩ := v345 (by omega) hs
    exact hi x (by simp)
  · obtain ⟨a, x, rfl, ha, hx⟩ := v345 (by omega) hs
    have e : val 5 [a, x] = if a = 0 then 0 else arReal .quo .i64 x a := by unfold val; rw [if_neg (by omega), if_neg (by omega), if_pos rfl]; rfl
    rw [e]
    split
    · exact ⟨by omega, by omega⟩
    · show I64 (wrapK .i64 _)
      rw [wk_i64]; exact ⟨by omega, by omega⟩
  · obtain ⟨a, x, y, z, rfl, ha, hx⟩ := v6 hs
    rw [val_6]
    unfold dv
    split
    · exact ⟨by omega, by omega⟩
    · have : ∀ (P : Int → Prop) (n : Nat) (b : Int), 0 ≤ b → b * 2 ^ n + 2 ^ n ≤ 9223372036854775808 → 0 ≤ bits P n (b * 2 ^ n) ∧ bits P n (b * 2 ^ n) < 9223372036854775808 := by
        intro P n
        induction n with
        | zero =>
          intro b hb hb2
          have e0 : (2 : Int) ^ 0 = 1 := by decide
          refine ⟨Int.mul_nonneg hb (by decide), ?_⟩
          show b * 2 ^ 0 < _
          omega
        | succ n ih =>
          intro b hb hb2
          have ep := two_succ n
          have e1 : b * 2 ^ (n + 1) = (2 * b) * 2 ^ n := by rw [ep]; grind
          have e2 : b * 2 ^ (n + 1) + 2 ^ n = (2 * b + 1) * 2 ^ n := by rw [ep]; grind
          have hp := two_pos n
          unfold bits
          split
          · rw [e2]; exact ih _ (by omega) (by omega)
          · rw [e1]; exact ih _ (by omega) (by omega)
      have h := this (dvP a x (Sq y z)) 63 0 (by omega) (by decide)
      rw [Int.zero_mul] at h
      exact ⟨by omega, h.2⟩
  · have e : val fn s = tot s := by unfold val; rw [if_neg (by omega), if_neg (by omega), if_neg (by omega), if_neg (by omega)]
    rw [e]; exact tot_i s
theorem shown_len {nm : ByteArray} {fn : Int} {p : List Int} {ks : List V} (h : okA nm fn p ks) {s : List Int} (hs : valS fn p s) (n : Int) : (shown fn n s).length ≤ 2000 := by
  have := val_len h hs
  unfold shown
  rw [List.length_map]
  split
  · omega
  · simp
open Classical in
/-- AggrNormal. -/
theorem p6 (nm : ByteArray) (fn : Int) (p : List Int) (ks : List V) (hp : ∀ x ∈ p, I64 x) (s : List Int) (hs : s.length ≤ 9223372036854775807) (is : ∀ x ∈ s, I64 x) (m n : Int) :
    d6 nm fn (vi p) ks (vi s) m n = some true := by
  unfold d6
  refine bnd1 s10 ?_
  have e1 := s13 nm fn p ks hp s hs is 1
  have e2 := s21 nm fn p ks hp s hs is
  by_cases h0 : chkS nm fn p ks s = 0
  · obtain ⟨hA, hV⟩ := chk0.1 h0
    have ls := val_len hA hV
    rw [if_pos h0] at e1 e2
    rw [if_neg (by decide)] at e1
    refine bnd1 e1 ?_
    refine bnd1 e2 ?_
    refine dif0 (show ¬ cmpLit .neq 0 0 = true by decide) ?_
    refine dif0 (show ¬ cmpLit .neq 0 0 = true by decide) ?_
    have hvi := val_i hA hV is
    refine bnd1 (a := false) ?_ ?_
    · rw [c_lss, c_geq]
      dsimp only
      have s1 : fn < 7 → shown fn 1 s = [val fn s] := by
        intro h; unfold shown; rw [if_neg (by omega)]
        show [dq 1 (val fn s)] = _
        rw [dq_one hvi]
      have s2 : fn ≥ 7 → shown fn 1 s = s := by
        intro h; unfold shown; rw [if_pos h]
        have : s.map (dq 1) = s.map id := List.map_congr_left (fun x hx => dq_one (is x hx))
        rw [this, List.map_id]
      by_cases h7 : fn < 7
      · rw [yif h7, s1 h7, show [V.i .i64 (val fn s)] = vi [val fn s] from rfl]
        refine bnd1 (sn_q [val fn s] (by simp)) ?_
        refine dif0 (by decide) ?_
        exact dif0 (by rw [dF (by omega)]; simp) rfl
      · rw [yif' h7, yif (show fn ≥ 7 by omega), s2 (by omega)]
        exact bnd1 (sn_q s hs) rfl
    refine dif0 (by decide) ?_
    simp only [c_lss, c_gtr]
    by_cases q1 : m < 1
    · rw [yif q1]; rfl
    rw [yif' q1]
    by_cases q2 : n < 1
    · rw [yif q2]; rfl
    rw [yif' q2]
    by_cases q3 : m > 2147483648
    · rw [yif q3]; rfl
    rw [yif' q3]
    simp only [Option.bind_some]
    by_cases q4 : n > 2147483648
    · rw [yif q4]
    rw [yif' q4]
    have mr := mul_rng2 (x := m) (y := n) (m := 2147483648) (n := 2147483648) (by omega) (by omega) (by omega) (by omega)
    have mp : 0 < m * n := Int.mul_pos (by omega) (by omega)
    rw [ar_mul' ⟨by omega, by omega⟩]
    have e3 := s13 nm fn p ks hp s hs is m
    have e4 := s13 nm fn p ks hp s hs is (m * n)
    rw [if_pos h0, if_neg q1] at e3
    rw [if_pos h0, if_neg (by omega)] at e4
    rw [e3, e4]
    simp only [Option.bind_some]
    have l1 := shown_len hA hV m
    have l2 := shown_len hA hV (m * n)
    have ll : (shown fn m s).length = (shown fn (m * n) s).length := by unfold shown; rw [List.length_map, List.length_map]
    refine dif0 (by decide) ?_
    refine dif0 (by decide) ?_
    refine dif0 (by rw [lenI_vi, lenI_vi, ll, c_neq]; simp) ?_
    have hI : iter (d6_b1 n (vi (shown fn m s), 0) (vi (shown fn (m * n) s), 0)) ((0 : Nat) : Int) = some (.inr ()) := by
      refine scan (d6_b1 n (vi (shown fn m s), 0) (vi (shown fn (m * n) s), 0)) (fun j => (j : Int)) (i := (shown fn m s).length) (Nat.zero_le _) (fun j _ hj => ?_) ?_
      · unfold d6_b1
        dsimp only
        rw [lenI_vi, lenI_vi, if_pos (lt_i hj), if_pos (inb_i hj), if_pos (show Ne0 n by unfold Ne0; omega), if_pos (inb_i (by omega)), gI_vi _ _ hj, gI_vi _ _ (by omega), succ_i hj (by omega), c_neq]
        refine nif (p := arReal .quo .i64 (shown fn m s)[j] n = (shown fn (m * n) s)[j]) ?_
        have key : ∀ (l : List Int), (∀ x ∈ l, I64 x) → ∀ (h1 : j < (l.map (dq m)).length) (h2 : j < (l.map (dq (m * n))).length), dq n (l.map (dq m))[j] = (l.map (dq (m * n)))[j] := by
          intro l hl h1 h2
          rw [List.getElem_map, List.getElem_map]
          exact dq_dq (hl _ (List.getElem_mem _)) (by omega) (by omega) (by omega)
        show dq n (shown fn m s)[j] = _
        unfold shown
        refine key _ ?_ _ _
        split
        · exact is
        · intro x hx; rw [List.mem_singleton.1 hx]; exact hvi
      · unfold d6_b1
        dsimp only
        rw [lenI_vi, if_neg (nlt_i _)]
    have hI' : iter (d6_b1 n (vi (shown fn m s), 0) (vi (shown fn (m * n) s), 0)) 0 = some (.inr ()) := hI
    rw [hI']
    rfl
  · rw [if_neg h0] at e1 e2
    refine bnd1 e1 ?_
    refine bnd1 e2 ?_
    refine dif0 (by rw [c_neq]; simp) ?_
    exact dif1 (by rw [c_neq]; exact dT h0) rfl
end Go.Proofs.Ytmofhbedamjblaa
end
section
namespace Go.Proofs.Ytmofhbedamjblaa
open Go.Ab Go.RowKit
set_option maxRecDepth 100000

theorem beq_dec (p q : Prop) [Decidable p] [Decidable q] : beqB (decide p) (decide q) = decide (p ↔ q) := by
  unfold beqB
  by_cases h1 : p <;> by_cases h2 : q <;> simp [h1, h2]
theorem beq_f (q : Prop) [Decidable q] : beqB false (decide q) = decide (¬ q) := by
  unfold beqB
  by_cases h2 : q <;> simp [h2]
def stW (fn : Int) (p : List Int) (j : Nat) : Bool × Int × Int := (decide (bo fn p j = -9223372036854775808), if bo fn p j = -9223372036854775808 then 0 else bo fn p j - 1, (j : Int))
/-- AggrWithin. -/
theorem p4 (nm : ByteArray) (fn : Int) (p : List Int) (ks : List V) (hp : ∀ x ∈ p, I64 x) (v : Int) (hv : I64 v) : d4 nm fn (vi p) ks v = some true := by
  unfold d4
  refine bnd1 s10 ?_
  refine bnd1 (s11 nm fn p ks hp hv) ?_
  rw [c_neq]
  rcases Classical.em (okA nm fn p ks) with hA | hA
  rotate_left
  · rw [if_neg hA]; exact dif1 (by decide) rfl
  rw [if_pos hA]
  rcases Classical.em (7 ≤ fn) with h7 | h7
  rotate_left
  · rw [if_neg h7]; exact dif1 (by decide) rfl
  rw [if_pos h7]
  refine dif0 (show ¬ decide ((0 : Int) ≠ 0) = true by decide) ?_
  have hw := wd_rng hA
  have hk := s32 hA h7 hv
  have e1 := s18 nm fn p ks hp
  rw [if_pos hA] at e1
  refine bnd1 e1 ?_
  have lz := zer_len hA
  refine dif0 (show ¬ cmpLit .neq 0 0 = true by decide) ?_
  refine dif0 (by rw [c_lss, dF (by dsimp only; omega)]; simp) ?_
  refine dif0 (by rw [c_geq, lenI_vi, dF (by dsimp only; omega)]; simp) ?_
  obtain ⟨N, hN⟩ := Int.eq_ofNat_of_zero_le hk.2.1
  have key : ∀ i : Nat, (i : Int) ≤ wd fn p → (bo fn p i ≤ v ↔ i ≤ N) := by
    intro i hi
    rw [(bo_key hA h7 hi).2 v hv, hN]; omega
  have hvN1 := (key N (by omega)).2 (Nat.le_refl _)
  have hvN2 : ¬ bo fn p (N + 1) ≤ v := fun h => by have := (key (N + 1) (by push_cast; omega)).1 h; omega
  have hI : iter (d4_b1 nm fn (vi p) ks v (bk fn p v, 0) (vi (zer fn p), 0)) (stW fn p 0) = some (.inr (stW fn p (zer fn p).length).2.1) := by
    refine scan (d4_b1 nm fn (vi p) ks v (bk fn p v, 0) (vi (zer fn p), 0)) (stW fn p) (i := (zer fn p).length) (Nat.zero_le _) (fun j _ hj => ?_) ?_
    · have hjw : (j : Int) < wd fn p := by omega
      have k1 := (bo_key hA h7 (i := j) (by omega)).1
      have k2 := (bo_key hA h7 (i := j + 1) (by push_cast; omega)).1
      have hm := bo_mono hA h7 hjw
      have y1 := key j (by omega)
      have y2 := key (j + 1) (by push_cast; omega)
      have er := s12 nm fn p ks hp (j : Int)
      rw [if_pos hA, if_pos ⟨h7, by omega, hjw⟩, Int.toNat_natCast] at er
      unfold d4_b1 stW
      dsimp only
      rw [lenI_vi, if_pos (lt_i hj)]
      refine bnd1 er ?_
      rw [hN]
      by_cases hg : bo fn p j > bo fn p (j + 1) - 1
      · have eq : bo fn p (j + 1) = bo fn p j := by omega
        have hjN : ¬ ((j : Int) = (N : Int)) := by
          intro e
          have : j = N := by omega
          subst this
          omega
        have e2 : rngOf fn p j = (0, 0, false, 0) := by unfold rngOf; rw [if_pos hg]
        rw [e2]
        dsimp only
        refine bnd1 (a := false) ?_ ?_
        · refine dif0 (show ¬ cmpLit .neq 0 0 = true by decide) ?_
          refine dif0 (by decide) ?_
          rw [c_eql, beq_f, notB_dec, dF (fun k => k hjN)]
        · refine dif0 (by decide) ?_
          refine dif1 rfl ?_
          rw [succ_i hj (by omega), eq]
      · have e2 : rngOf fn p j = (bo fn p j, bo fn p (j + 1) - 1, true, 0) := by unfold rngOf; rw [if_neg hg]
        rw [e2]
        dsimp only
        refine bnd1 (a := false) ?_ ?_
        · refine dif0 (show ¬ cmpLit .neq 0 0 = true by decide) ?_
          refine dif1 rfl ?_
          rw [c_leq]
          by_cases q : bo fn p j ≤ v
          · have hq : v ≤ bo fn p (j + 1) - 1 ↔ (j : Int) = (N : Int) := by
              have := y1.1 q
              constructor
              · intro h
                have : ¬ j + 1 ≤ N := fun k => by have := y2.2 k; omega
                omega
              · intro h
                have : ¬ bo fn p (j + 1) ≤ v := fun k => by have := y2.1 k; omega
                omega
            rw [yif q, c_leq, c_eql, beq_dec, notB_dec, dF (fun k => k hq)]
          · have hq : ¬ (j : Int) = (N : Int) := fun h => q (y1.2 (by omega))
            rw [yif' q, c_eql, beq_f, notB_dec, dF (fun k => k hq)]
        · refine dif0 (by decide) ?_
          refine dif0 (by decide) ?_
          refine bnd1 (a := false) ?_ ?_
          · refine dif0 (by rw [c_gtr, dF (by omega)]; simp) ?_
            by_cases hb : bo fn p j = -9223372036854775808
            · rw [dT hb]
              refine dif1 rfl ?_
              refine dif0 (by rw [c_neq, hb]; simp) ?_
              exact dif0 (by decide) rfl
            · rw [dF hb, if_neg hb]
              refine dif0 (by decide) ?_
              refine dif1 (by decide) ?_
              refine dif0 (by rw [c_eql, dF (by omega)]; simp) ?_
              rw [ar_add' ⟨by omega, by omega⟩, c_neq, dF (fun k => k (by omega))]
          · refine dif0 (by decide) ?_
            have hb : ¬ bo fn p (j + 1) = -9223372036854775808 := by omega
            rw [succ_i hj (by omega), dF hb, if_neg hb]
    · unfold d4_b1 stW
      dsimp only
      rw [lenI_vi, if_neg (nlt_i _)]
  have e0 : stW fn p 0 = (true, 0, 0) := by unfold stW; rw [bo_0]; rfl
  have e9 : (stW fn p (zer fn p).length).2.1 = 9223372036854775807 := by
    unfold stW
    dsimp only
    rw [bo_w (by omega) lz, if_neg (by omega)]; rfl
  rw [e0, e9] at hI
  rw [hI]
  rfl
end Go.Proofs.Ytmofhbedamjblaa
end
section
namespace Go.Proofs.Ytmofhbedamjblaa
open Go.Ab Go.RowKit
set_option maxRecDepth 100000

/-- Values whose states are told. -/
def okL (l : List Int) : Prop := (∀ v ∈ l, I64 v) ∧ l.length ≤ 1000000
section
variable {nm : ByteArray} {fn : Int} {p : List Int} {ks : List V}
theorem okL.st (h : okA nm fn p ks) {l : List Int} (hl : okL l) : valS fn p (stv fn p l) ∧ (∀ x ∈ stv fn p l, I64 x) ∧ cb fn l.length (stv fn p l) := stv_ok h l.length l rfl (by have := hl.2; omega) hl.1
theorem okL.gd (h : okA nm fn p ks) {a b : List Int} (ha : okL a) (hb : okL b) : gd fn (stv fn p a) (stv fn p b) :=
  (cb_mg h.fn (ha.st h).1 (hb.st h).1 (ha.st h).2.2 (hb.st h).2.2 (by have := ha.2; have := hb.2; omega)).1
theorem stv_app (h : okA nm fn p ks) : ∀ (n : Nat) (a b : List Int), b.length = n → okL a → okL b → stv fn p (a ++ b) = mg fn (stv fn p a) (stv fn p b)
  | 0, a, b, hn, ha, hb => by
    obtain rfl := List.length_eq_zero_iff.1 hn
    rw [List.append_nil]
    exact (mg_zero h.fn (ha.st h).1 (ha.st h).2.1).2.symm
  | n + 1, a, b, hn, ha, hb => by
    obtain ⟨r, x, rfl⟩ : ∃ r x, b = r ++ [x] := by
      rcases List.eq_nil_or_concat b with rfl | ⟨r, a, rfl⟩
      · simp at hn
      · exact ⟨r, a, by rw [List.concat_eq_append]⟩
    have hr : okL r := ⟨fun v hv => hb.1 v (List.mem_append_left _ hv), by have := hb.2; rw [List.length_append] at this; omega⟩
    have hx : I64 x := hb.1 x (by simp)
    have ih := stv_app h n a r (by simpa using hn) ha hr
    rw [← List.append_assoc, stv_snoc, ih, stv_snoc, mg_assoc h.fn (ha.st h).1 (hr.st h).1 (sing_val h hx).1]
theorem stv_comm (h : okA nm fn p ks) {a b : List Int} (ha : okL a) (hb : okL b) : stv fn p (a ++ b) = stv fn p (b ++ a) := by
  rw [stv_app h _ a b rfl ha hb, stv_app h _ b a rfl hb ha, mg_comm h.fn (ha.st h).1 (hb.st h).1]
theorem okL.perm {a b : List Int} (hp : a.Perm b) (h : okL a) : okL b := ⟨fun v hv => h.1 v (hp.mem_iff.2 hv), by rw [← hp.length_eq]; exact h.2⟩
/-- The order of values does not matter. -/
theorem stv_perm (h : okA nm fn p ks) {a b : List Int} (hp : a.Perm b) : okL a → stv fn p a = stv fn p b := by
  have o1 : ∀ {x : Int} {l : List Int}, okL (x :: l) → okL [x] ∧ okL l := fun {x l} hl =>
    ⟨⟨fun v hv => hl.1 v (by rw [List.mem_singleton.1 hv]; simp), by simp⟩, ⟨fun v hv => hl.1 v (List.mem_cons_of_mem _ hv), by have := hl.2; rw [List.length_cons] at this; omega⟩⟩
  induction hp with
  | nil => intro _; rfl
  | cons x hp ih =>
    intro hl
    rename_i l1 l2
    obtain ⟨hx, hl1⟩ := o1 hl
    have e := ih hl1
    rw [show x :: l1 = [x] ++ l1 from rfl, show x :: l2 = [x] ++ l2 from rfl, stv_app h _ [x] l1 rfl hx hl1, stv_app h _ [x] l2 rfl hx (hl1.perm hp), e]
  | swap x y l =>
    intro hl
    obtain ⟨hy, hl1⟩ := o1 hl
    obtain ⟨hx, hl2⟩ := o1 hl1
    have o2 : okL [x, y] := ⟨fun v hv => hl.1 v (by simp at hv ⊢; rcases hv with rfl | rfl; simp; simp), by simp⟩
    have o3 : okL [y, x] := ⟨fun v hv => hl.1 v (by simp at hv ⊢; rcases hv with rfl | rfl; simp; simp), by simp⟩
    have e : stv fn p [x, y] = stv fn p [y, x] := stv_comm h hx hy
    rw [show x :: y :: l = [x, y] ++ l from rfl, show y :: x :: l = [y, x] ++ l from rfl, stv_app h _ [x, y] l rfl o2 hl2, stv_app h _ [y, x] l rfl o3 hl2, e]
  | trans h1 h2 ih1 ih2 =>
    intro hl
    rw [ih1 hl, ih2 (hl.perm h1)]
end
/-- The values that go to a state. -/
def sel (l : List Int) (a : Nat → Int) (k : Int) : Nat → List Int
  | 0 => []
  | j + 1 => if a j = k then sel l a k j ++ [l.getD j 0] else sel l a k j
theorem sel_perm (l : List Int) (a : Nat → Int) (ha : ∀ j, a j = 0 ∨ a j = 1 ∨ a j = 2) : ∀ j, j ≤ l.length → (sel l a 1 j ++ (sel l a 2 j ++ sel l a 0 j)).Perm (l.take j)
  | 0, _ => by simp [sel]
  | j + 1, hj => by
    have ih := sel_perm l a ha j (by omega)
    rw [List.take_succ_eq_append_getElem (by omega), ← getD_get (l := l) (i := j) (by omega)]
    rw [List.perm_iff_count] at ih ⊢
    intro x
    have := ih x
    simp only [List.count_append] at this ⊢
    unfold sel
    rcases ha j with h | h | h
    · rw [if_neg (by omega), if_neg (by omega), if_pos h]
      simp only [List.count_append]; omega
    · rw [if_pos h, if_neg (by omega), if_neg (by omega)]
      simp only [List.count_append]; omega
    · rw [if_neg (by omega), if_pos h, if_neg (by omega)]
      simp only [List.count_append]; omega
theorem sel_mem (l : List Int) (a : Nat → Int) (k : Int) (hl : ∀ v ∈ l, I64 v) : ∀ j, j ≤ l.length → (∀ v ∈ sel l a k j, I64 v) ∧ (sel l a k j).length ≤ j
  | 0, _ => ⟨fun v hv => (by cases hv), Nat.le_refl _⟩
  | j + 1, hj => by
    have ih := sel_mem l a k hl j (by omega)
    unfold sel
    split
    · refine ⟨fun v hv => ?_, by rw [List.length_append]; have := ih.2; simp; omega⟩
      rcases List.mem_append.1 hv with hv | hv
      · exact ih.1 v hv
      · rw [List.mem_singleton.1 hv, getD_get (by omega)]
        exact hl _ (List.getElem_mem _)
    · exact ⟨ih.1, by have := ih.2; omega⟩
/-- Where a value goes to. -/
def asg (a2 : List V) (j : Nat) : Int := if j < a2.length then gI a2 (j : Int) 0 % 3 else 0
theorem asg_3 (a2 : List V) (j : Nat) : asg a2 j = 0 ∨ asg a2 j = 1 ∨ asg a2 j = 2 := by
  unfold asg
  split <;> omega
open Classical in
/-- AggrAny. -/
theorem p7 (nm : ByteArray) (fn : Int) (p : List Int) (ks : List V) (hp : ∀ x ∈ p, I64 x) (l : List Int) (hl : ∀ v ∈ l, I64 v) (a2 : List V) (h2 : ∀ j : Nat, j < a2.length → 0 ≤ gI a2 (j : Int) 0 ∧ gI a2 (j : Int) 0 < 256) : d7 nm fn (vi p) ks (vi l) a2 = some true := by
  unfold d7
  refine bnd1 s10 ?_
  have e1 := s18 nm fn p ks hp
  rcases Classical.em (okA nm fn p ks) with hA | hA
  rotate_left
  · rw [if_neg hA] at e1
    refine bnd1 e1 ?_
    exact dif1 (by decide) rfl
  rw [if_pos hA] at e1
  refine bnd1 e1 ?_
  refine dif0 (show ¬ cmpLit .neq 0 0 = true by decide) ?_
  rw [lenI_vi, c_gtr]
  by_cases hn : (l.length : Int) > 300
  · rw [yif hn]
  rw [yif' hn]
  have hS : ∀ k j, j ≤ l.length → okL (sel l (asg a2) k j) := fun k j hj => ⟨(sel_mem l (asg a2) k hl j hj).1, by have := (sel_mem l (asg a2) k hl j hj).2; omega⟩
  have hR : ∀ j, okL ((l.drop (l.length - j)).reverse) := fun j => ⟨fun v hv => hl v (List.mem_of_mem_drop (List.mem_reverse.1 hv)), by rw [List.length_reverse, List.length_drop]; omega⟩
  have hI : iter (d7_b1 nm fn (vi p) ks (vi l) a2) (vi (stv fn p ((l.drop (l.length - 0)).reverse)), ((0 : Nat) : Int), [.sl 2 (vi (stv fn p (sel l (asg a2) 0 0))), .sl 2 (vi (stv fn p (sel l (asg a2) 1 0))), .sl 2 (vi (stv fn p (sel l (asg a2) 2 0)))]) = some (.inr (vi (stv fn p ((l.drop (l.length - l.length)).reverse)), [.sl 2 (vi (stv fn p (sel l (asg a2) 0 l.length))), .sl 2 (vi (stv fn p (sel l (asg a2) 1 l.length))), .sl 2 (vi (stv fn p (sel l (asg a2) 2 l.length)))])) := by
    refine scan (d7_b1 nm fn (vi p) ks (vi l) a2) (fun j => (vi (stv fn p ((l.drop (l.length - j)).reverse)), (j : Int), [.sl 2 (vi (stv fn p (sel l (asg a2) 0 j))), .sl 2 (vi (stv fn p (sel l (asg a2) 1 j))), .sl 2 (vi (stv fn p (sel l (asg a2) 2 j)))])) (i := l.length) (Nat.zero_le _) (fun j _ hj => ?_) ?_
    · have hjx : I64 l[j] := hl _ (List.getElem_mem hj)
      have hjr : l.length - 1 - j < l.length := by omega
      have hjy : I64 l[l.length - 1 - j] := hl _ (List.getElem_mem hjr)
      unfold d7_b1
      dsimp only
      rw [lenI_vi, if_pos (lt_i hj)]
      have ey : (if cmpLit .lss (j : Int) (lenI a2) = true then (if Inb (j : Int) (lenI a2) then (if Ne0 3 then some (arReal .rem .i64 (wrapK .i64 (gI a2 (j : Int) 0)) 3) else none) else none) else some 0) = some (asg a2 j) := by
        unfold asg
        rw [c_lss, lenI_eq]
        by_cases q : j < a2.length
        · have b := h2 j q
          rw [yif (show (j : Int) < a2.length by omega), if_pos (inb_i q), if_pos (show Ne0 3 by decide), if_pos q, wk_i ⟨by omega, by omega⟩, ar_rem' b.1 (by omega) (by omega)]
        · rw [yif' (show ¬ (j : Int) < a2.length by omega), if_neg q]
      refine bnd1 ey ?_
      have er : arReal .sub .i64 (arReal .sub .i64 (l.length : Int) 1) (j : Int) = ((l.length - 1 - j : Nat) : Int) := by
        rw [ar_sub' (a := (l.length : Int)) ⟨by omega, by omega⟩, ar_sub' ⟨by omega, by omega⟩]; omega
      have eall := add_stv hA hp (l := (l.drop (l.length - j)).reverse) (v := l[l.length - 1 - j]) (by have := (hR j).2; omega) (hR j).1 hjy
      have enext : (l.drop (l.length - j)).reverse ++ [l[l.length - 1 - j]] = (l.drop (l.length - (j + 1))).reverse := by
        rw [show l.length - (j + 1) = l.length - 1 - j by omega, List.drop_eq_getElem_cons hjr, List.reverse_cons, show l.length - 1 - j + 1 = l.length - j by omega]
      rw [enext] at eall
      have eadd : ∀ k, d23 nm fn (vi p) ks (vi (stv fn p (sel l (asg a2) k j))) l[j] = some (vi (stv fn p (sel l (asg a2) k j ++ [l[j]])), 0) := fun k => add_stv hA hp (by have := (hS k j (by omega)).2; omega) (hS k j (by omega)).1 hjx
      have esel : ∀ k, sel l (asg a2) k (j + 1) = if asg a2 j = k then sel l (asg a2) k j ++ [l[j]] else sel l (asg a2) k j := by
        intro k
        rw [← getD_get hj]; rfl
      have i3 : ∀ a b c : V, lenI [a, b, c] = 3 := fun _ _ _ => rfl
      rw [gI_vi _ _ hj, er, gI_vi _ _ hjr, i3, esel 0, esel 1, esel 2, succ_i hj (by omega)]
      rcases asg_3 a2 j with h | h | h
      · rw [h, if_pos (show Inb 0 3 by decide), if_pos (inb_i hj)]
        refine bnd1 (eadd 0) ?_
        rw [if_pos (inb_i hjr)]
        refine bnd1 eall ?_
        rw [if_neg (show ¬ cmpLit .neq 0 0 = true by decide), if_neg (show ¬ cmpLit .neq 0 0 = true by decide), if_pos (show Inb 0 3 by decide), if_pos rfl, if_neg (by decide), if_neg (by decide)]
        rfl
      · rw [h, if_pos (show Inb 1 3 by decide), if_pos (inb_i hj)]
        refine bnd1 (eadd 1) ?_
        rw [if_pos (inb_i hjr)]
        refine bnd1 eall ?_
        rw [if_neg (show ¬ cmpLit .neq 0 0 = true by decide), if_neg (show ¬ cmpLit .neq 0 0 = true by decide), if_pos (show Inb 1 3 by decide), if_neg (by decide), if_pos rfl, if_neg (by decide)]
        rfl
      · rw [h, if_pos (show Inb 2 3 by decide), if_pos (inb_i hj)]
        refine bnd1 (eadd 2) ?_
        rw [if_pos (inb_i hjr)]
        refine bnd1 eall ?_
        rw [if_neg (show ¬ cmpLit .neq 0 0 = true by decide), if_neg (show ¬ cmpLit .neq 0 0 = true by decide), if_pos (show Inb 2 3 by decide), if_neg (by decide), if_neg (by decide), if_pos rfl]
        rfl
    · unfold d7_b1
      dsimp only
      rw [lenI_vi, if_neg (nlt_i _)]
  rw [Nat.sub_zero, List.drop_length, Nat.sub_self, List.drop_zero] at hI
  have hI' : iter (d7_b1 nm fn (vi p) ks (vi l) a2) (vi (zer fn p), 0, [.sl 2 (vi (zer fn p)), .sl 2 (vi (zer fn p)), .sl 2 (vi (zer fn p))]) = _ := hI
  dsimp only
  rw [hI']
  simp only [Option.bind_some]
  have n0 := hS 0 l.length (Nat.le_refl _)
  have n1 := hS 1 l.length (Nat.le_refl _)
  have n2 := hS 2 l.length (Nat.le_refl _)
  have hpm := sel_perm l (asg a2) (asg_3 a2) l.length (Nat.le_refl _)
  rw [List.take_length] at hpm
  have hlen := hpm.length_eq
  rw [List.length_append, List.length_append] at hlen
  have n20 : okL (sel l (asg a2) 2 l.length ++ sel l (asg a2) 0 l.length) := ⟨fun v hv => by rcases List.mem_append.1 hv with h | h; exact n2.1 v h; exact n0.1 v h, by rw [List.length_append]; omega⟩
  have oL : okL l := ⟨hl, by omega⟩
  have ln : ∀ {a : List Int}, okL a → (stv fn p a).length ≤ 1002 := fun ha => val_len hA (ha.st hA).1
  generalize hs0 : sel l (asg a2) 0 l.length = S0 at *
  generalize hs1 : sel l (asg a2) 1 l.length = S1 at *
  generalize hs2 : sel l (asg a2) 2 l.length = S2 at *
  have i3 : ∀ a b c : V, lenI [a, b, c] = 3 := fun _ _ _ => rfl
  rw [i3]
  rw [if_pos (show Inb 2 3 by decide), if_pos (show Inb 0 3 by decide)]
  have q0 := ln n0; have q1 := ln n1; have q2 := ln n2; have q20 := ln n20
  have m1 := s24' nm fn p ks hp (stv fn p S2) (stv fn p S0) (by omega) (by omega)
  rw [MR_ok hA (n2.st hA).1 (n0.st hA).1 (n2.gd hA n0), ← stv_app hA _ S2 S0 rfl n2 n0] at m1
  refine bnd1 m1 ?_
  rw [if_pos (show Inb 1 3 by decide)]
  have m2 := s24' nm fn p ks hp (stv fn p S1) (stv fn p (S2 ++ S0)) (by omega) (by omega)
  rw [MR_ok hA (n1.st hA).1 (n20.st hA).1 (n1.gd hA n20), ← stv_app hA _ S1 (S2 ++ S0) rfl n1 n20, stv_perm hA (hpm.trans (List.reverse_perm l).symm) (oL.perm hpm.symm)] at m2
  refine bnd1 m2 ?_
  dsimp only
  refine dif1 trivial ?_
  refine dif1 (show cmpLit .eql 0 0 = true by decide) ?_
  refine dif1 (show cmpLit .eql 0 0 = true by decide) ?_
  have oR : okL l.reverse := oL.perm (List.reverse_perm l).symm
  have q3 := ln oR
  refine bnd1 (sn_q _ (by omega)) ?_
  refine dif1 rfl ?_
  refine bnd1 (s25 nm fn p ks hp _ (by omega)) ?_
  rw [chk0.2 ⟨hA, (oR.st hA).1⟩]
  rfl
end Go.Proofs.Ytmofhbedamjblaa
end
