/- Texts of this seat, merged in build order. No statement of its own. -/
import Derived.Test.YtmofhbedamjblaaPB4
set_option linter.unusedVariables false
set_option linter.unusedSimpArgs false
section
namespace Go.Proofs.Ytmofhbedamjblaa
open Go.Ab Go.RowKit 
set_option maxRecDepth 100000
set_option maxHeartbeats 40000000
noncomputable def d74_b1 (a1 : List V) (s23 : Int) : Option ((Int) ⊕ ((Bool) ⊕ (Unit))) :=
 if (cmpLit .lss s23 (lenI a1)) = true then
 if (Inb s23 (lenI a1)) then
 (d111 (gI a1 s23 0) 0 4611686018427387904).bind fun x28 =>
 if (notB' x28) = true then
 some (.inr (.inl false))
 else
 some (.inl (arReal .add .i64 s23 1))
 else none
 else
 some (.inr (.inr ()))
noncomputable def d74_b2 (a1 : List V) (s39 : Int) : Option ((Int) ⊕ ((Bool) ⊕ (Unit))) :=
 if (cmpLit .lss s39 (lenI a1)) = true then
 if (Inb 0 (lenI a1)) then
 if (cmpLit .eql (gI a1 0 0) 0) = true then
 if (Inb s39 (lenI a1)) then
 if (cmpLit .neq (gI a1 s39 0) 0) = true then
 some (.inr (.inl false))
 else
 some (.inl (arReal .add .i64 s39 1))
 else none
 else
 some (.inl (arReal .add .i64 s39 1))
 else none
 else
 some (.inr (.inr ()))
noncomputable def d74 (a0_0 : ByteArray) (a0_1 : Int) (a0_2 : List V) (a0_3 : List V) (a1 : List V) : Option (Bool) :=
 (d43 a0_0 a0_1 a0_2 a0_3).bind fun x2 =>
 if (cmpLit .neq (lenI a1) x2) = true then
 some false
 else
 Option.bind (α := (Unit) ⊕ (Bool)) (
 (d41 a0_0 a0_1 a0_2 a0_3).bind fun x13 =>
 if x13 = true then
 Option.bind (α := (Unit) ⊕ (Bool)) (
 (iter (d74_b1 a1) 0).bind fun y26 =>
 match y26 with
 | .inl p29 =>
 some (.inr p29)
 | .inr y26r0 =>
 some (.inl ())) fun y20 =>
 match y20 with
 | .inl p31 =>
 some (.inr true)
 | .inr y20r0 =>
 some (.inr y20r0)
 else
 some (.inl ())) fun y12 =>
 match y12 with
 | .inl p33 =>
 if (cmpLit .eql a0_1 2) = true then
 some true
 else
 if (Inb 0 (lenI a1)) then
 (d111 (gI a1 0 0) 0 4611686018427387904).bind fun x35 =>
 if (notB' x35) = true then
 some false
 else
 Option.bind (α := (Unit) ⊕ (Bool)) (
 (iter (d74_b2 a1) 1).bind fun y40 =>
 match y40 with
 | .inl p41 =>
 some (.inr p41)
 | .inr y40r0 =>
 some (.inl ())) fun y38 =>
 match y38 with
 | .inl p43 =>
 some true
 | .inr y38r0 =>
 some y38r0
 else none
 | .inr y12r0 =>
 some y12r0
noncomputable def w74_c : Code := (Try.f74.body).getD .skip
theorem w74_h : Try.f74.body = some w74_c := by kernel_rfl
theorem w74 (a0_0 : ByteArray) (a0_1 : Int) (a0_2 : List V) (a0_3 : List V) (a1 : List V) (r : Bool) (h : d74 a0_0 a0_1 a0_2 a0_3 a1 = some r) : Ab.Fn Try.prog TT 74 [.agg [.str a0_0, .i .i64 a0_1, .sl 2 a0_2, .sl 74 a0_3], .sl 2 a1] (.b r) [] := by
 refine fn_pure tok W0 Try.func74 (by kernel_rfl) w74_h (by kernel_rfl) ?_
 intro _ _ _ _ _ _ _ _ _ _ _ _ _ _ _ _ _ _ _ _ _ _ _ _ _ _ _ _ _ _ _ _ _ _ _ _ _ _ _ _ _ E R K hK
 have D := E.D
 clear E
 have S := And.intro D.har (And.intro D.hcmp (And.intro D.hgi (And.intro D.hinb (And.intro D.hlen (D.hnt)))))
 unfold d74 at h
 cbv
 refine R.cut' (by kernel_rfl) (by kernel_rfl) ?_
 cbv
 refine R.callD h (fun x2 hx2 h2 => ?_)
 clear h; have h := h2; clear h2
 refine R.call' (w43 _ _ _ _ _ hx2) (by first|(simp only [S]<;>rfl)|rfl) ?_
 clear hx2; cbv
 refine R.brD h (by first|(simp only [S]<;>rfl)|rfl) ?_ ?_<;>clear h<;>intro h<;>cbv
 ·have e := ret_some h; clear h
  refine hK _ _ ?_
  cbv
  try (subst e; simp only [S, and_self, and_true, true_and] <;> (repeat' apply And.intro) <;> rfl)
 ·as_aux_lemma =>
  refine R.cutB Sum.inl (fun _ _ e => Sum.inl.inj e) h [] (fun p33 => []) (fun p33 => []) (by kernel_rfl) (by kernel_rfl) (fun y12 hy hFy12 L hLy12 => ?_) (fun p33 h2 => ?_)
  ·clear h; have h := hy; clear hy; cbv
   refine R.callD h (fun x13 hx13 h2 => ?_)
   clear h; have h := h2; clear h2
   refine R.call' (w41 _ _ _ _ _ hx13) (by first|(simp only [S]<;>rfl)|rfl) ?_
   clear hx13; cbv
   refine R.brD h (by first|(simp only [S]<;>rfl)|rfl) ?_ ?_<;>clear h<;>intro h<;>cbv
   ·refine R.cutB Sum.inl (fun _ _ e => Sum.inl.inj e) h [] (fun p31 => []) (fun p31 => []) (by kernel_rfl) (by kernel_rfl) (fun y20 hy hFy20 L hLy20 => ?_) (fun p31 h2 => ?_)
    ·clear h; have h := hy; clear hy; cbv
     refine R.loopD h (fun s0 y26 e0 hi hFs23 => ?_)
     clear h
     refine R.loopI hi [] (fun s23 => [(5, .i .i64 s23)]) (fun s23 => []) ⟨by kernel_rfl, ?_, ?_, by kernel_rfl, by kernel_rfl⟩ (by kernel_rfl) ?_
     ·cbv; try (subst e0; simp only [S, and_self, and_true, true_and] <;> (repeat' apply And.intro) <;> rfl)
     ·cbv; try (subst e0; simp only [S, and_self, and_true, true_and] <;> (repeat' apply And.intro) <;> rfl)
     clear hi e0
     intro s23 m y' hy hins23 houts23 L hLs23
     have h := hy; clear hy; unfold d74_b1 at h
     cbv
     refine R.cut' (by kernel_rfl) (by kernel_rfl) ?_
     cbv
     refine R.brD h (by first|(simp only [S]<;>rfl)|rfl) ?_ ?_<;>clear h<;>intro h<;>cbv
     ·refine R.cut' (by kernel_rfl) (by kernel_rfl) ?_
      cbv
      refine R.needD h (by first|(simp only [S]<;>rfl)|rfl) ?_
      clear h; intro h; cbv
      refine R.callD h (fun x28 hx28 h2 => ?_)
      clear h; have h := h2; clear h2
      refine R.call' (w111 _ _ _ _ hx28) (by first|(simp only [S]<;>rfl)|rfl) ?_
      clear hx28; cbv
      refine R.brD h (by first|(simp only [S]<;>rfl)|rfl) ?_ ?_<;>clear h<;>intro h<;>cbv
      ·have e := inr_some h houts23; clear h
       have h := hFs23; rw [e] at h; clear e; try dsimp only at h
       cbv
       have e := ret_some h; clear h
       have h := hFy20; rw [e] at h; clear e; try dsimp only at h
       cbv
       have e := ret_some h; clear h
       have h := hFy12; rw [e] at h; clear e; try dsimp only at h
       cbv
       have e := ret_some h; clear h
       refine hK _ _ ?_
       cbv
       try (subst e; simp only [S, and_self, and_true, true_and] <;> (repeat' apply And.intro) <;> rfl)
      ·obtain ⟨s', e, hi⟩ := inl_some h hins23
       refine hLs23 s' _ _ hi ⟨by kernel_rfl, ?_, ?_, by kernel_rfl, by kernel_rfl⟩<;>cbv<;>(try (subst e;simp only [S,and_self,and_true,true_and]<;>(repeat' apply And.intro)<;>rfl))
     ·have e := inr_some h houts23; clear h
      have h := hFs23; rw [e] at h; clear e; try dsimp only at h
      cbv
      obtain ⟨s', e, hi⟩ := jn_some Sum.inl h
      refine hLy20 s' _ _ hi ⟨by kernel_rfl, ?_, ?_, by kernel_rfl, by kernel_rfl⟩<;>cbv<;>(try (subst e;simp only [S,and_self,and_true,true_and]<;>(repeat' apply And.intro)<;>rfl))
    ·clear h; have h := h2; clear h2; try dsimp only at h
     cbv
     have e := ret_some h; clear h
     have h := hFy12; rw [e] at h; clear e; try dsimp only at h
     cbv
     have e := ret_some h; clear h
     refine hK _ _ ?_
     cbv
     try (subst e; simp only [S, and_self, and_true, true_and] <;> (repeat' apply And.intro) <;> rfl)
   ·obtain ⟨s', e, hi⟩ := jn_some Sum.inl h
    refine hLy12 s' _ _ hi ⟨by kernel_rfl, ?_, ?_, by kernel_rfl, by kernel_rfl⟩<;>cbv<;>(try (subst e;simp only [S,and_self,and_true,true_and]<;>(repeat' apply And.intro)<;>rfl))
  ·as_aux_lemma =>
   clear h; have h := h2; clear h2; try dsimp only at h
   cbv
   refine R.cut' (by kernel_rfl) (by kernel_rfl) ?_
   cbv
   refine R.brD h (by first|(simp only [S]<;>rfl)|rfl) ?_ ?_<;>clear h<;>intro h<;>cbv
   ·have e := ret_some h; clear h
    refine hK _ _ ?_
    cbv
    try (subst e; simp only [S, and_self, and_true, true_and] <;> (repeat' apply And.intro) <;> rfl)
   ·refine R.cut' (by kernel_rfl) (by kernel_rfl) ?_
    cbv
    refine R.needD h (by first|(simp only [S]<;>rfl)|rfl) ?_
    clear h; intro h; cbv
    refine R.callD h (fun x35 hx35 h2 => ?_)
    clear h; have h := h2; clear h2
    refine R.call' (w111 _ _ _ _ hx35) (by first|(simp only [S]<;>rfl)|rfl) ?_
    clear hx35; cbv
    refine R.brD h (by first|(simp only [S]<;>rfl)|rfl) ?_ ?_<;>clear h<;>intro h<;>cbv
    ·have e := ret_some h; clear h
     refine hK _ _ ?_
     cbv
     try (subst e; simp only [S, and_self, and_true, true_and] <;> (repeat' apply And.intro) <;> rfl)
    ·refine R.cutB Sum.inl (fun _ _ e => Sum.inl.inj e) h [] (fun p43 => []) (fun p43 => []) (by kernel_rfl) (by kernel_rfl) (fun y38 hy hFy38 L hLy38 => ?_) (fun p43 h2 => ?_)
     ·clear h; have h := hy; clear hy; cbv
      refine R.loopD h (fun s0 y40 e0 hi hFs39 => ?_)
      clear h
      refine R.loopI hi [] (fun s39 => [(6, .i .i64 s39)]) (fun s39 => []) ⟨by kernel_rfl, ?_, ?_, by kernel_rfl, by kernel_rfl⟩ (by kernel_rfl) ?_
      ·cbv; try (subst e0; simp only [S, and_self, and_true, true_and] <;> (repeat' apply And.intro) <;> rfl)
      ·cbv; try (subst e0; simp only [S, and_self, and_true, true_and] <;> (repeat' apply And.intro) <;> rfl)
      clear hi e0
      intro s39 m y' hy hins39 houts39 L hLs39
      have h := hy; clear hy; unfold d74_b2 at h
      cbv
      refine R.cut' (by kernel_rfl) (by kernel_rfl) ?_
      cbv
      refine R.brD h (by first|(simp only [S]<;>rfl)|rfl) ?_ ?_<;>clear h<;>intro h<;>cbv
      ·refine R.cut' (by kernel_rfl) (by kernel_rfl) ?_
       cbv
       refine R.cut' (by kernel_rfl) (by kernel_rfl) ?_
       cbv
       refine R.needD h (by first|(simp only [S]<;>rfl)|rfl) ?_
       clear h; intro h; cbv
       refine R.brD h (by first|(simp only [S]<;>rfl)|rfl) ?_ ?_<;>clear h<;>intro h<;>cbv
       ·refine R.needD h (by first|(simp only [S]<;>rfl)|rfl) ?_
        clear h; intro h; cbv
        refine R.brD h (by first|(simp only [S]<;>rfl)|rfl) ?_ ?_<;>clear h<;>intro h<;>cbv
        ·have e := inr_some h houts39; clear h
         have h := hFs39; rw [e] at h; clear e; try dsimp only at h
         cbv
         have e := ret_some h; clear h
         have h := hFy38; rw [e] at h; clear e; try dsimp only at h
         cbv
         have e := ret_some h; clear h
         refine hK _ _ ?_
         cbv
         try (subst e; simp only [S, and_self, and_true, true_and] <;> (repeat' apply And.intro) <;> rfl)
        ·obtain ⟨s', e, hi⟩ := inl_some h hins39
         refine hLs39 s' _ _ hi ⟨by kernel_rfl, ?_, ?_, by kernel_rfl, by kernel_rfl⟩<;>cbv<;>(try (subst e;simp only [S,and_self,and_true,true_and]<;>(repeat' apply And.intro)<;>rfl))
       ·obtain ⟨s', e, hi⟩ := inl_some h hins39
        refine hLs39 s' _ _ hi ⟨by kernel_rfl, ?_, ?_, by kernel_rfl, by kernel_rfl⟩<;>cbv<;>(try (subst e;simp only [S,and_self,and_true,true_and]<;>(repeat' apply And.intro)<;>rfl))
      ·have e := inr_some h houts39; clear h
       have h := hFs39; rw [e] at h; clear e; try dsimp only at h
       cbv
       obtain ⟨s', e, hi⟩ := jn_some Sum.inl h
       refine hLy38 s' _ _ hi ⟨by kernel_rfl, ?_, ?_, by kernel_rfl, by kernel_rfl⟩<;>cbv<;>(try (subst e;simp only [S,and_self,and_true,true_and]<;>(repeat' apply And.intro)<;>rfl))
     ·clear h; have h := h2; clear h2; try dsimp only at h
      cbv
      have e := ret_some h; clear h
      refine hK _ _ ?_
      cbv
      try (subst e; simp only [S, and_self, and_true, true_and] <;> (repeat' apply And.intro) <;> rfl)
noncomputable def d47 (a0_0 : ByteArray) (a0_1 : Int) (a0_2 : List V) (a0_3 : List V) (a1 : List V) : Option (Int) :=
 (d40 a0_0 a0_1 a0_2 a0_3).bind fun x1 =>
 if (cmpLit .eql x1 0) = true then
 (d74 a0_0 a0_1 a0_2 a0_3 a1).bind fun x5 =>
 if (notB' x5) = true then
 some 211
 else
 some x1
 else
 some x1
noncomputable def w47_c : Code := (Try.f47.body).getD .skip
theorem w47_h : Try.f47.body = some w47_c := by kernel_rfl
theorem w47 (a0_0 : ByteArray) (a0_1 : Int) (a0_2 : List V) (a0_3 : List V) (a1 : List V) (r : Int) (h : d47 a0_0 a0_1 a0_2 a0_3 a1 = some r) : Ab.Fn Try.prog TT 47 [.agg [.str a0_0, .i .i64 a0_1, .sl 2 a0_2, .sl 74 a0_3], .sl 2 a1] (.i .i64 r) [] := by
 refine fn_pure tok W0 Try.func47 (by kernel_rfl) w47_h (by kernel_rfl) ?_
 intro _ _ _ _ _ _ _ _ _ _ _ _ _ _ _ _ _ _ _ _ _ _ _ _ _ _ _ _ _ _ _ _ _ _ _ _ _ _ _ _ _ E R K hK
 have D := E.D
 clear E
 have S := And.intro D.hcmp (D.hnt)
 unfold d47 at h
 cbv
 refine R.callD h (fun x1 hx1 h2 => ?_)
 clear h; have h := h2; clear h2
 refine R.call' (w40 _ _ _ _ _ hx1) (by first|(simp only [S]<;>rfl)|rfl) ?_
 clear hx1; cbv
 refine R.cut' (by kernel_rfl) (by kernel_rfl) ?_
 cbv
 refine R.cut' (by kernel_rfl) (by kernel_rfl) ?_
 cbv
 refine R.brD h (by first|(simp only [S]<;>rfl)|rfl) ?_ ?_<;>clear h<;>intro h<;>cbv
 ·refine R.callD h (fun x5 hx5 h2 => ?_)
  clear h; have h := h2; clear h2
  refine R.call' (w74 _ _ _ _ _ _ hx5) (by first|(simp only [S]<;>rfl)|rfl) ?_
  clear hx5; cbv
  refine R.brD h (by first|(simp only [S]<;>rfl)|rfl) ?_ ?_<;>clear h<;>intro h<;>cbv
  ·have e := ret_some h; clear h
   refine hK _ _ ?_
   cbv
   try (subst e; simp only [S, and_self, and_true, true_and] <;> (repeat' apply And.intro) <;> rfl)
  ·have e := ret_some h; clear h
   refine hK _ _ ?_
   cbv
   try (subst e; simp only [S, and_self, and_true, true_and] <;> (repeat' apply And.intro) <;> rfl)
 ·have e := ret_some h; clear h
  refine hK _ _ ?_
  cbv
  try (subst e; simp only [S, and_self, and_true, true_and] <;> (repeat' apply And.intro) <;> rfl)
noncomputable def d131_b1 (s4 : List V) : Option ((List V) ⊕ (List V)) :=
 if (cmpLit .gtr (lenI s4) 0) = true then
 if (Inb (arReal .sub .i64 (lenI s4) 1) (lenI s4)) then
 if (cmpLit .eql (gI s4 (arReal .sub .i64 (lenI s4) 1) 0) 0) = true then
 if (Bnd 0 (arReal .sub .i64 (lenI s4) 1) (lenI s4)) then
 some (.inl (subL s4 0 (arReal .sub .i64 (lenI s4) 1)))
 else none
 else
 some (.inr s4)
 else none
 else
 some (.inr s4)
noncomputable def d131 (a0 : List V) : Option (List V) :=
 Option.bind (α := List V) (
 (iter (d131_b1) a0).bind fun y5 =>
 some y5) fun y3 =>
 some y3
noncomputable def w131_c : Code := (Try.f131.body).getD .skip
theorem w131_h : Try.f131.body = some w131_c := by kernel_rfl
theorem w131 (a0 : List V) (r : List V) (h : d131 a0 = some r) : Ab.Fn Try.prog TT 131 [.sl 97 a0] (.sl 97 r) [] := by
 refine fn_pure tok W0 Try.func131 (by kernel_rfl) w131_h (by kernel_rfl) ?_
 intro _ _ _ _ _ _ _ _ _ _ _ _ _ _ _ _ _ _ _ _ _ _ _ _ _ _ _ _ _ _ _ _ _ _ _ _ _ _ _ _ _ E R K hK
 have D := E.D
 clear E
 have S := And.intro D.har (And.intro D.hbnd (And.intro D.hcmp (And.intro D.hgi (And.intro D.hinb (And.intro D.hlen (D.hsub))))))
 unfold d131 at h
 cbv
 refine R.cutB (fun p => p) (fun _ _ e => e) h [] (fun p7 => [(0, .sl 97 p7)]) (fun p7 => []) (by kernel_rfl) (by kernel_rfl) (fun y3 hy hFy3 L hLy3 => ?_) (fun p7 h2 => ?_)
 ·clear h; have h := hy; clear hy; cbv
  refine R.loopD h (fun s0 y5 e0 hi hFs4 => ?_)
  clear h
  refine R.loopI hi [] (fun s4 => [(0, .sl 97 s4)]) (fun s4 => []) ⟨by kernel_rfl, ?_, ?_, by kernel_rfl, by kernel_rfl⟩ (by kernel_rfl) ?_
  ·cbv; try (subst e0; simp only [S, and_self, and_true, true_and] <;> (repeat' apply And.intro) <;> rfl)
  ·cbv; try (subst e0; simp only [S, and_self, and_true, true_and] <;> (repeat' apply And.intro) <;> rfl)
  clear hi e0
  intro s4 m y' hy hins4 houts4 L hLs4
  have h := hy; clear hy; unfold d131_b1 at h
  cbv
  refine R.cut' (by kernel_rfl) (by kernel_rfl) ?_
  cbv
  refine R.cut' (by kernel_rfl) (by kernel_rfl) ?_
  cbv
  refine R.brD h (by first|(simp only [S]<;>rfl)|rfl) ?_ ?_<;>clear h<;>intro h<;>cbv
  ·refine R.needD h (by first|(simp only [S]<;>rfl)|rfl) ?_
   clear h; intro h; cbv
   refine R.brD h (by first|(simp only [S]<;>rfl)|rfl) ?_ ?_<;>clear h<;>intro h<;>cbv
   ·refine R.needD h (by first|(simp only [S]<;>rfl)|rfl) ?_
    clear h; intro h; cbv
    obtain ⟨s', e, hi⟩ := inl_some h hins4
    refine hLs4 s' _ _ hi ⟨by kernel_rfl, ?_, ?_, by kernel_rfl, by kernel_rfl⟩<;>cbv<;>(try (subst e;simp only [S,and_self,and_true,true_and]<;>(repeat' apply And.intro)<;>rfl))
   ·have e := inr_some h houts4; clear h
    have h := hFs4; rw [e] at h; clear e; try dsimp only at h
    cbv
    obtain ⟨s', e, hi⟩ := jn_some (fun p => p) h
    refine hLy3 s' _ _ hi ⟨by kernel_rfl, ?_, ?_, by kernel_rfl, by kernel_rfl⟩<;>cbv<;>(try (subst e;simp only [S,and_self,and_true,true_and]<;>(repeat' apply And.intro)<;>rfl))
  ·have e := inr_some h houts4; clear h
   have h := hFs4; rw [e] at h; clear e; try dsimp only at h
   cbv
   obtain ⟨s', e, hi⟩ := jn_some (fun p => p) h
   refine hLy3 s' _ _ hi ⟨by kernel_rfl, ?_, ?_, by kernel_rfl, by kernel_rfl⟩<;>cbv<;>(try (subst e;simp only [S,and_self,and_true,true_and]<;>(repeat' apply And.intro)<;>rfl))
 ·clear h; have h := h2; clear h2; try dsimp only at h
  cbv
  have e := ret_some h; clear h
  refine hK _ _ ?_
  cbv
  try (subst e; simp only [S, and_self, and_true, true_and] <;> (repeat' apply And.intro) <;> rfl)
noncomputable def d112 (a0 : Int) : Option (List V) :=
 if (Ne0 4294967296) then
 if (Ne0 4294967296) then
 (d131 [.i .u64 (arReal .rem .u64 a0 4294967296), .i .u64 (arReal .quo .u64 a0 4294967296)]).bind fun x1 =>
 some x1
 else none
 else none
noncomputable def w112_c : Code := (Try.f112.body).getD .skip
theorem w112_h : Try.f112.body = some w112_c := by kernel_rfl
theorem w112 (a0 : Int) (r : List V) (h : d112 a0 = some r) : Ab.Fn Try.prog TT 112 [.i .u64 a0] (.sl 97 r) [] := by
 refine fn_pure tok W0 Try.func112 (by kernel_rfl) w112_h (by kernel_rfl) ?_
 intro _ _ _ _ _ _ _ _ _ _ _ _ _ _ _ _ _ _ _ _ _ _ _ _ _ _ _ _ _ _ _ _ _ _ _ _ _ _ _ _ _ E R K hK
 have D := E.D
 clear E
 have S := And.intro D.har (D.hne0)
 unfold d112 at h
 cbv
 refine R.needD h (by first|(simp only [S]<;>rfl)|rfl) ?_
 clear h; intro h; cbv
 refine R.needD h (by first|(simp only [S]<;>rfl)|rfl) ?_
 clear h; intro h; cbv
 refine R.callD h (fun x1 hx1 h2 => ?_)
 clear h; have h := h2; clear h2
 refine R.call' (w131 _ _ hx1) (by first|(simp only [S]<;>rfl)|rfl) ?_
 clear hx1; cbv
 have e := ret_some h; clear h
 refine hK _ _ ?_
 cbv
 try (subst e; simp only [S, and_self, and_true, true_and] <;> (repeat' apply And.intro) <;> rfl)
noncomputable def d114 (a0 : Int) (a1 : Int) : Option (List V) :=
 if (Ne0 4294967296) then
 if (Ne0 4294967296) then
 if (Ne0 4294967296) then
 if (Ne0 4294967296) then
 (d131 [.i .u64 (arReal .rem .u64 a1 4294967296), .i .u64 (arReal .quo .u64 a1 4294967296), .i .u64 (arReal .rem .u64 a0 4294967296), .i .u64 (arReal .quo .u64 a0 4294967296)]).bind fun x1 =>
 some x1
 else none
 else none
 else none
 else none
noncomputable def w114_c : Code := (Try.f114.body).getD .skip
theorem w114_h : Try.f114.body = some w114_c := by kernel_rfl
theorem w114 (a0 : Int) (a1 : Int) (r : List V) (h : d114 a0 a1 = some r) : Ab.Fn Try.prog TT 114 [.i .u64 a0, .i .u64 a1] (.sl 97 r) [] := by
 refine fn_pure tok W0 Try.func114 (by kernel_rfl) w114_h (by kernel_rfl) ?_
 intro _ _ _ _ _ _ _ _ _ _ _ _ _ _ _ _ _ _ _ _ _ _ _ _ _ _ _ _ _ _ _ _ _ _ _ _ _ _ _ _ _ E R K hK
 have D := E.D
 clear E
 have S := And.intro D.har (D.hne0)
 unfold d114 at h
 cbv
 refine R.needD h (by first|(simp only [S]<;>rfl)|rfl) ?_
 clear h; intro h; cbv
 refine R.needD h (by first|(simp only [S]<;>rfl)|rfl) ?_
 clear h; intro h; cbv
 refine R.needD h (by first|(simp only [S]<;>rfl)|rfl) ?_
 clear h; intro h; cbv
 refine R.needD h (by first|(simp only [S]<;>rfl)|rfl) ?_
 clear h; intro h; cbv
 refine R.callD h (fun x1 hx1 h2 => ?_)
 clear h; have h := h2; clear h2
 refine R.call' (w131 _ _ hx1) (by first|(simp only [S]<;>rfl)|rfl) ?_
 clear hx1; cbv
 have e := ret_some h; clear h
 refine hK _ _ ?_
 cbv
 try (subst e; simp only [S, and_self, and_true, true_and] <;> (repeat' apply And.intro) <;> rfl)
end Go.Proofs.Ytmofhbedamjblaa
end
section
namespace Go.Proofs.Ytmofhbedamjblaa
open Go.Ab Go.RowKit 
set_option maxRecDepth 100000
set_option maxHeartbeats 40000000
noncomputable def d113_b2 (a0 : List V) (a1 : List V) (s34 : Int × List V) (s50 : Int × Int × List V) : Option ((Int × Int × List V) ⊕ (Int × List V)) :=
 if (cmpLit .lss s50.2.1 (lenI a1)) = true then
 if (Inb (arReal .add .i64 s34.1 s50.2.1) (lenI s50.2.2)) then
 if (Inb s34.1 (lenI a0)) then
 if (Inb s50.2.1 (lenI a1)) then
 if (Ne0 4294967296) then
 if (Inb (arReal .add .i64 s34.1 s50.2.1) (lenI s50.2.2)) then
 if (Ne0 4294967296) then
 some (.inl ((arReal .quo .u64 (arReal .add .u64 (arReal .add .u64 (gI s50.2.2 (arReal .add .i64 s34.1 s50.2.1) 0) (arReal .mul .u64 (gI a0 s34.1 0) (gI a1 s50.2.1 0))) s50.1) 4294967296), (arReal .add .i64 s50.2.1 1), (putL s50.2.2 (arReal .add .i64 s34.1 s50.2.1) 0 [.i .u64 (arReal .rem .u64 (arReal .add .u64 (arReal .add .u64 (gI s50.2.2 (arReal .add .i64 s34.1 s50.2.1) 0) (arReal .mul .u64 (gI a0 s34.1 0) (gI a1 s50.2.1 0))) s50.1) 4294967296)])))
 else none
 else none
 else none
 else none
 else none
 else none
 else
 some (.inr (s50.1, s50.2.2))
noncomputable def d113_b1 (a0 : List V) (a1 : List V) (s34 : Int × List V) : Option ((Int × List V) ⊕ (List V)) :=
 if (cmpLit .lss s34.1 (lenI a0)) = true then
 Option.bind (α := List V) (
 Option.bind (α := Int × List V) (
 (iter (d113_b2 a0 a1 s34) (0, 0, s34.2)).bind fun y51 =>
 some (y51.1, y51.2)) fun y49 =>
 if (Inb (arReal .add .i64 s34.1 (lenI a1)) (lenI y49.2)) then
 some (putL y49.2 (arReal .add .i64 s34.1 (lenI a1)) 0 [.i .u64 y49.1])
 else none) fun y46 =>
 some (.inl ((arReal .add .i64 s34.1 1), y46))
 else
 some (.inr s34.2)
noncomputable def d113 (a0 : List V) (a1 : List V) : Option (List V) :=
 if (Ge0 (arReal .add .i64 (lenI a0) (lenI a1))) then
 if (Room (arReal .add .i64 (lenI a0) (lenI a1)) 8) then
 Option.bind (α := List V) (
 (iter (d113_b1 a0 a1) (0, (repL (arReal .add .i64 (lenI a0) (lenI a1)) (.i .u64 0)))).bind fun y41 =>
 some y41) fun y21 =>
 (d131 y21).bind fun x57 =>
 some x57
 else none
 else none
noncomputable def w113_c : Code := (Try.f113.body).getD .skip
theorem w113_h : Try.f113.body = some w113_c := by kernel_rfl
theorem w113 (a0 : List V) (a1 : List V) (r : List V) (h : d113 a0 a1 = some r) : Ab.Fn Try.prog TT 113 [.sl 97 a0, .sl 97 a1] (.sl 97 r) [] := by
 refine fn_pure tok (fun r => match r with | 9 => [[],[],[],[1,2],[0,1,2,3],[0,1,2,3,4],[],[],[6,7],[6,7,8],[],[],[10,11],[10,11,12],[6,7,8,9,10,11,12,13],[0,1,2,3,4,5,6,7,8,9,10,11,12,13,14],[],[0,1,2,3,4,5,6,7,8,9,10,11,12,13,14,15,16],[0,1,2,3,4,5,6,7,8,9,10,11,12,13,14,15,16,17]] | _ => []) Try.func113 (by kernel_rfl) w113_h (by kernel_rfl) ?_
 intro _ _ _ _ _ _ _ _ _ _ _ _ _ _ _ _ _ _ _ _ _ _ _ _ _ _ _ _ _ _ _ _ _ _ _ _ _ _ _ _ _ E R K hK
 have D := E.D
 clear E
 have S := And.intro D.har (And.intro D.hcmp (And.intro D.hge0 (And.intro D.hgi (And.intro D.hinb (And.intro D.hlen (And.intro D.hne0 (And.intro D.hput (And.intro D.hrep (D.hroom)))))))))
 unfold d113 at h
 cbv
 refine R.needD h (by first|(simp only [S]<;>rfl)|rfl) ?_
 clear h; intro h; cbv
 refine R.needD h (by first|(simp only [S]<;>rfl)|rfl) ?_
 clear h; intro h; cbv
 refine R.cutB (fun p => p) (fun _ _ e => e) h [] (fun p56 => []) (fun p56 => [(240, .row 97 p56)]) (by kernel_rfl) (by kernel_rfl) (fun y21 hy hFy21 L hLy21 => ?_) (fun p56 h2 => ?_)
 ·as_aux_lemma =>
  clear h; have h := hy; clear hy; cbv
  refine R.loopD h (fun s0 y41 e0 hi hFs34 => ?_)
  clear h
  refine R.loopI hi [] (fun s34 => [(6, .i .i64 s34.1)]) (fun s34 => [(240, .row 97 s34.2)]) ⟨by kernel_rfl, ?_, ?_, by kernel_rfl, by kernel_rfl⟩ (by kernel_rfl) ?_
  ·cbv; try (subst e0; simp only [S, and_self, and_true, true_and] <;> (repeat' apply And.intro) <;> rfl)
  ·cbv; try (subst e0; simp only [S, and_self, and_true, true_and] <;> (repeat' apply And.intro) <;> rfl)
  clear hi e0
  intro s34 m y' hy hins34 houts34 L hLs34
  have h := hy; clear hy; unfold d113_b1 at h
  cbv
  refine R.cut' (by kernel_rfl) (by kernel_rfl) ?_
  cbv
  refine R.brD h (by first|(simp only [S]<;>rfl)|rfl) ?_ ?_<;>clear h<;>intro h<;>cbv
  ·refine R.cutB (fun p => p) (fun _ _ e => e) h [] (fun p54 => []) (fun p54 => [(240, .row 97 p54)]) (by kernel_rfl) (by kernel_rfl) (fun y46 hy hFy46 L hLy46 => ?_) (fun p54 h2 => ?_)
   ·clear h; have h := hy; clear hy; cbv
    refine R.cutB (fun p => p) (fun _ _ e => e) h [] (fun p53 => [(7, .i .u64 p53.1)]) (fun p53 => [(240, .row 97 p53.2)]) (by kernel_rfl) (by kernel_rfl) (fun y49 hy hFy49 L hLy49 => ?_) (fun p53 h2 => ?_)
    ·clear h; have h := hy; clear hy; cbv
     refine R.loopD h (fun s0 y51 e0 hi hFs50 => ?_)
     clear h
     refine R.loopI hi [] (fun s50 => [(7, .i .u64 s50.1), (8, .i .i64 s50.2.1)]) (fun s50 => [(240, .row 97 s50.2.2)]) ⟨by kernel_rfl, ?_, ?_, by kernel_rfl, by kernel_rfl⟩ (by kernel_rfl) ?_
     ·cbv; try (subst e0; simp only [S, and_self, and_true, true_and] <;> (repeat' apply And.intro) <;> rfl)
     ·cbv; try (subst e0; simp only [S, and_self, and_true, true_and] <;> (repeat' apply And.intro) <;> rfl)
     clear hi e0
     intro s50 m y' hy hins50 houts50 L hLs50
     have h := hy; clear hy; unfold d113_b2 at h
     cbv
     refine R.cut' (by kernel_rfl) (by kernel_rfl) ?_
     cbv
     refine R.brD h (by first|(simp only [S]<;>rfl)|rfl) ?_ ?_<;>clear h<;>intro h<;>cbv
     ·refine R.cut' (by kernel_rfl) (by kernel_rfl) ?_
      cbv
      refine R.needD h (by first|(simp only [S]<;>rfl)|rfl) ?_
      clear h; intro h; cbv
      refine R.needD h (by first|(simp only [S]<;>rfl)|rfl) ?_
      clear h; intro h; cbv
      refine R.needD h (by first|(simp only [S]<;>rfl)|rfl) ?_
      clear h; intro h; cbv
      refine R.needD h (by first|(simp only [S]<;>rfl)|rfl) ?_
      clear h; intro h; cbv
      refine R.needD h (by first|(simp only [S]<;>rfl)|rfl) ?_
      clear h; intro h; cbv
      refine R.needD h (by first|(simp only [S]<;>rfl)|rfl) ?_
      clear h; intro h; cbv
      obtain ⟨s', e, hi⟩ := inl_some h hins50
      refine hLs50 s' _ _ hi ⟨by kernel_rfl, ?_, ?_, by kernel_rfl, by kernel_rfl⟩<;>cbv<;>(try (subst e;simp only [S,and_self,and_true,true_and]<;>(repeat' apply And.intro)<;>rfl))
     ·have e := inr_some h houts50; clear h
      have h := hFs50; rw [e] at h; clear e; try dsimp only at h
      cbv
      obtain ⟨s', e, hi⟩ := jn_some (fun p => p) h
      refine hLy49 s' _ _ hi ⟨by kernel_rfl, ?_, ?_, by kernel_rfl, by kernel_rfl⟩<;>cbv<;>(try (subst e;simp only [S,and_self,and_true,true_and]<;>(repeat' apply And.intro)<;>rfl))
    ·clear h; have h := h2; clear h2; try dsimp only at h
     cbv
     refine R.needD h (by first|(simp only [S]<;>rfl)|rfl) ?_
     clear h; intro h; cbv
     obtain ⟨s', e, hi⟩ := jn_some (fun p => p) h
     refine hLy46 s' _ _ hi ⟨by kernel_rfl, ?_, ?_, by kernel_rfl, by kernel_rfl⟩<;>cbv<;>(try (subst e;simp only [S,and_self,and_true,true_and]<;>(repeat' apply And.intro)<;>rfl))
   ·clear h; have h := h2; clear h2; try dsimp only at h
    cbv
    obtain ⟨s', e, hi⟩ := inl_some h hins34
    refine hLs34 s' _ _ hi ⟨by kernel_rfl, ?_, ?_, by kernel_rfl, by kernel_rfl⟩<;>cbv<;>(try (subst e;simp only [S,and_self,and_true,true_and]<;>(repeat' apply And.intro)<;>rfl))
  ·have e := inr_some h houts34; clear h
   have h := hFs34; rw [e] at h; clear e; try dsimp only at h
   cbv
   obtain ⟨s', e, hi⟩ := jn_some (fun p => p) h
   refine hLy21 s' _ _ hi ⟨by kernel_rfl, ?_, ?_, by kernel_rfl, by kernel_rfl⟩<;>cbv<;>(try (subst e;simp only [S,and_self,and_true,true_and]<;>(repeat' apply And.intro)<;>rfl))
 ·clear h; have h := h2; clear h2; try dsimp only at h
  cbv
  refine R.callD h (fun x57 hx57 h2 => ?_)
  clear h; have h := h2; clear h2
  refine R.call' (w131 _ _ hx57) (by first|(simp only [S]<;>rfl)|rfl) ?_
  clear hx57; cbv
  have e := ret_some h; clear h
  refine hK _ _ ?_
  cbv
  try (subst e; simp only [S, and_self, and_true, true_and] <;> (repeat' apply And.intro) <;> rfl)
noncomputable def d115 (a0 : Int) : Option (Int) :=
 if (cmpLit .lss a0 0) = true then
 some (unReal .neg .u64 (wrapK .u64 a0))
 else
 some (wrapK .u64 a0)
noncomputable def w115_c : Code := (Try.f115.body).getD .skip
theorem w115_h : Try.f115.body = some w115_c := by kernel_rfl
theorem w115 (a0 : Int) (r : Int) (h : d115 a0 = some r) : Ab.Fn Try.prog TT 115 [.i .i64 a0] (.i .u64 r) [] := by
 refine fn_pure tok W0 Try.func115 (by kernel_rfl) w115_h (by kernel_rfl) ?_
 intro _ _ _ _ _ _ _ _ _ _ _ _ _ _ _ _ _ _ _ _ _ _ _ _ _ _ _ _ _ _ _ _ _ _ _ _ _ _ _ _ _ E R K hK
 have D := E.D
 clear E
 have S := And.intro D.hcmp (And.intro D.hcv (D.hun))
 unfold d115 at h
 cbv
 refine R.cut' (by kernel_rfl) (by kernel_rfl) ?_
 cbv
 refine R.brD h (by first|(simp only [S]<;>rfl)|rfl) ?_ ?_<;>clear h<;>intro h<;>cbv
 ·have e := ret_some h; clear h
  refine hK _ _ ?_
  cbv
  try (subst e; simp only [S, and_self, and_true, true_and] <;> (repeat' apply And.intro) <;> rfl)
 ·have e := ret_some h; clear h
  refine hK _ _ ?_
  cbv
  try (subst e; simp only [S, and_self, and_true, true_and] <;> (repeat' apply And.intro) <;> rfl)
noncomputable def d116_b1 (a0 : List V) (a1 : List V) (s4 : Int) : Option ((Int) ⊕ ((Int) ⊕ (Unit))) :=
 if (cmpLit .geq s4 0) = true then
 if (Inb s4 (lenI a0)) then
 if (Inb s4 (lenI a1)) then
 if (cmpLit .lss (gI a0 s4 0) (gI a1 s4 0)) = true then
 some (.inr (.inl (-1)))
 else
 if (Inb s4 (lenI a0)) then
 if (Inb s4 (lenI a1)) then
 if (cmpLit .gtr (gI a0 s4 0) (gI a1 s4 0)) = true then
 some (.inr (.inl 1))
 else
 some (.inl (arReal .sub .i64 s4 1))
 else none
 else none
 else none
 else none
 else
 some (.inr (.inr ()))
noncomputable def d116 (a0 : List V) (a1 : List V) : Option (Int) :=
 if (cmpLit .neq (lenI a0) (lenI a1)) = true then
 if (cmpLit .lss (lenI a0) (lenI a1)) = true then
 some (-1)
 else
 some 1
 else
 Option.bind (α := (Unit) ⊕ (Int)) (
 (iter (d116_b1 a0 a1) (arReal .sub .i64 (lenI a0) 1)).bind fun y5 =>
 match y5 with
 | .inl p6 =>
 some (.inr p6)
 | .inr y5r0 =>
 some (.inl ())) fun y3 =>
 match y3 with
 | .inl p8 =>
 some 0
 | .inr y3r0 =>
 some y3r0
noncomputable def w116_c : Code := (Try.f116.body).getD .skip
theorem w116_h : Try.f116.body = some w116_c := by kernel_rfl
theorem w116 (a0 : List V) (a1 : List V) (r : Int) (h : d116 a0 a1 = some r) : Ab.Fn Try.prog TT 116 [.sl 97 a0, .sl 97 a1] (.i .i64 r) [] := by
 refine fn_pure tok (fun r => match r with | 8 => [[],[],[0,1],[0,1,2],[],[],[4,5],[4,5,6],[0,1,2,3,4,5,6,7]] | 10 => [[],[],[0,1],[0,1,2],[],[],[4,5],[4,5,6],[0,1,2,3,4,5,6,7]] | _ => []) Try.func116 (by kernel_rfl) w116_h (by kernel_rfl) ?_
 intro _ _ _ _ _ _ _ _ _ _ _ _ _ _ _ _ _ _ _ _ _ _ _ _ _ _ _ _ _ _ _ _ _ _ _ _ _ _ _ _ _ E R K hK
 have D := E.D
 clear E
 have S := And.intro D.har (And.intro D.hcmp (And.intro D.hgi (And.intro D.hinb (D.hlen))))
 unfold d116 at h
 cbv
 refine R.cut' (by kernel_rfl) (by kernel_rfl) ?_
 cbv
 refine R.brD h (by first|(simp only [S]<;>rfl)|rfl) ?_ ?_<;>clear h<;>intro h<;>cbv
 ·refine R.cut' (by kernel_rfl) (by kernel_rfl) ?_
  cbv
  refine R.brD h (by first|(simp only [S]<;>rfl)|rfl) ?_ ?_<;>clear h<;>intro h<;>cbv
  ·have e := ret_some h; clear h
   refine hK _ _ ?_
   cbv
   try (subst e; simp only [S, and_self, and_true, true_and] <;> (repeat' apply And.intro) <;> rfl)
  ·have e := ret_some h; clear h
   refine hK _ _ ?_
   cbv
   try (subst e; simp only [S, and_self, and_true, true_and] <;> (repeat' apply And.intro) <;> rfl)
 ·refine R.cutB Sum.inl (fun _ _ e => Sum.inl.inj e) h [] (fun p8 => []) (fun p8 => []) (by kernel_rfl) (by kernel_rfl) (fun y3 hy hFy3 L hLy3 => ?_) (fun p8 h2 => ?_)
  ·clear h; have h := hy; clear hy; cbv
   refine R.loopD h (fun s0 y5 e0 hi hFs4 => ?_)
   clear h
   refine R.loopI hi [] (fun s4 => [(5, .i .i64 s4)]) (fun s4 => []) ⟨by kernel_rfl, ?_, ?_, by kernel_rfl, by kernel_rfl⟩ (by kernel_rfl) ?_
   ·cbv; try (subst e0; simp only [S, and_self, and_true, true_and] <;> (repeat' apply And.intro) <;> rfl)
   ·cbv; try (subst e0; simp only [S, and_self, and_true, true_and] <;> (repeat' apply And.intro) <;> rfl)
   clear hi e0
   intro s4 m y' hy hins4 houts4 L hLs4
   have h := hy; clear hy; unfold d116_b1 at h
   cbv
   refine R.cut' (by kernel_rfl) (by kernel_rfl) ?_
   cbv
   refine R.brD h (by first|(simp only [S]<;>rfl)|rfl) ?_ ?_<;>clear h<;>intro h<;>cbv
   ·refine R.cut' (by kernel_rfl) (by kernel_rfl) ?_
    cbv
    refine R.cut' (by kernel_rfl) (by kernel_rfl) ?_
    cbv
    refine R.needD h (by first|(simp only [S]<;>rfl)|rfl) ?_
    clear h; intro h; cbv
    refine R.needD h (by first|(simp only [S]<;>rfl)|rfl) ?_
    clear h; intro h; cbv
    refine R.brD h (by first|(simp only [S]<;>rfl)|rfl) ?_ ?_<;>clear h<;>intro h<;>cbv
    ·have e := inr_some h houts4; clear h
     have h := hFs4; rw [e] at h; clear e; try dsimp only at h
     cbv
     have e := ret_some h; clear h
     have h := hFy3; rw [e] at h; clear e; try dsimp only at h
     cbv
     have e := ret_some h; clear h
     refine hK _ _ ?_
     cbv
     try (subst e; simp only [S, and_self, and_true, true_and] <;> (repeat' apply And.intro) <;> rfl)
    ·refine R.needD h (by first|(simp only [S]<;>rfl)|rfl) ?_
     clear h; intro h; cbv
     refine R.needD h (by first|(simp only [S]<;>rfl)|rfl) ?_
     clear h; intro h; cbv
     refine R.brD h (by first|(simp only [S]<;>rfl)|rfl) ?_ ?_<;>clear h<;>intro h<;>cbv
     ·have e := inr_some h houts4; clear h
      have h := hFs4; rw [e] at h; clear e; try dsimp only at h
      cbv
      have e := ret_some h; clear h
      have h := hFy3; rw [e] at h; clear e; try dsimp only at h
      cbv
      have e := ret_some h; clear h
      refine hK _ _ ?_
      cbv
      try (subst e; simp only [S, and_self, and_true, true_and] <;> (repeat' apply And.intro) <;> rfl)
     ·obtain ⟨s', e, hi⟩ := inl_some h hins4
      refine hLs4 s' _ _ hi ⟨by kernel_rfl, ?_, ?_, by kernel_rfl, by kernel_rfl⟩<;>cbv<;>(try (subst e;simp only [S,and_self,and_true,true_and]<;>(repeat' apply And.intro)<;>rfl))
   ·have e := inr_some h houts4; clear h
    have h := hFs4; rw [e] at h; clear e; try dsimp only at h
    cbv
    obtain ⟨s', e, hi⟩ := jn_some Sum.inl h
    refine hLy3 s' _ _ hi ⟨by kernel_rfl, ?_, ?_, by kernel_rfl, by kernel_rfl⟩<;>cbv<;>(try (subst e;simp only [S,and_self,and_true,true_and]<;>(repeat' apply And.intro)<;>rfl))
  ·clear h; have h := h2; clear h2; try dsimp only at h
   cbv
   have e := ret_some h; clear h
   refine hK _ _ ?_
   cbv
   try (subst e; simp only [S, and_self, and_true, true_and] <;> (repeat' apply And.intro) <;> rfl)
noncomputable def d117_b1 (a1 : List V) (s24 : Int × Int × List V) : Option ((Int × Int × List V) ⊕ (List V)) :=
 if (cmpLit .lss s24.2.1 (lenI s24.2.2)) = true then
 Option.bind (α := Int) (
 if (cmpLit .lss s24.2.1 (lenI a1)) = true then
 if (Inb s24.2.1 (lenI a1)) then
 some (arReal .add .u64 s24.1 (gI a1 s24.2.1 0))
 else none
 else
 some s24.1) fun y32 =>
 if (Inb s24.2.1 (lenI s24.2.2)) then
 if (cmpLit .geq (gI s24.2.2 s24.2.1 0) y32) = true then
 if (Inb s24.2.1 (lenI s24.2.2)) then
 if (Inb s24.2.1 (lenI s24.2.2)) then
 some (.inl (0, (arReal .add .i64 s24.2.1 1), (putL s24.2.2 s24.2.1 0 [.i .u64 (arReal .sub .u64 (gI s24.2.2 s24.2.1 0) y32)])))
 else none
 else none
 else
 if (Inb s24.2.1 (lenI s24.2.2)) then
 if (Inb s24.2.1 (lenI s24.2.2)) then
 some (.inl (1, (arReal .add .i64 s24.2.1 1), (putL s24.2.2 s24.2.1 0 [.i .u64 (arReal .sub .u64 (arReal .add .u64 (gI s24.2.2 s24.2.1 0) 4294967296) y32)])))
 else none
 else none
 else none
 else
 some (.inr s24.2.2)
noncomputable def d117 (a0 : List V) (a1 : List V) : Option (List V) :=
 if (Room (lenI (appL [] a0)) 8) then
 Option.bind (α := List V) (
 (iter (d117_b1 a1) (0, 0, (appL [] a0))).bind fun y29 =>
 some y29) fun y15 =>
 (d131 y15).bind fun x36 =>
 some x36
 else none
noncomputable def w117_c : Code := (Try.f117.body).getD .skip
theorem w117_h : Try.f117.body = some w117_c := by kernel_rfl
theorem w117 (a0 : List V) (a1 : List V) (r : List V) (h : d117 a0 a1 = some r) : Ab.Fn Try.prog TT 117 [.sl 97 a0, .sl 97 a1] (.sl 97 r) [] := by
 refine fn_pure tok W0 Try.func117 (by kernel_rfl) w117_h (by kernel_rfl) ?_
 intro _ _ _ _ _ _ _ _ _ _ _ _ _ _ _ _ _ _ _ _ _ _ _ _ _ _ _ _ _ _ _ _ _ _ _ _ _ _ _ _ _ E R K hK
 have D := E.D
 clear E
 have S := And.intro D.happ (And.intro D.har (And.intro D.hcmp (And.intro D.hgi (And.intro D.hinb (And.intro D.hlen (And.intro D.hput (D.hroom)))))))
 unfold d117 at h
 cbv
 refine R.needD h (by first|(simp only [S]<;>rfl)|rfl) ?_
 clear h; intro h; cbv
 refine R.cutB (fun p => p) (fun _ _ e => e) h [144] (fun p35 => []) (fun p35 => [(176, .row 97 p35)]) (by kernel_rfl) (by kernel_rfl) (fun y15 hy hFy15 L hLy15 => ?_) (fun p35 h2 => ?_)
 ·clear h; have h := hy; clear hy; cbv
  refine R.loopD h (fun s0 y29 e0 hi hFs24 => ?_)
  clear h
  refine R.loopI hi [144] (fun s24 => [(6, .i .u64 s24.1), (7, .i .i64 s24.2.1)]) (fun s24 => [(176, .row 97 s24.2.2)]) ⟨by kernel_rfl, ?_, ?_, by kernel_rfl, by kernel_rfl⟩ (by kernel_rfl) ?_
  ·cbv; try (subst e0; simp only [S, and_self, and_true, true_and] <;> (repeat' apply And.intro) <;> rfl)
  ·cbv; try (subst e0; simp only [S, and_self, and_true, true_and] <;> (repeat' apply And.intro) <;> rfl)
  clear hi e0
  intro s24 m y' hy hins24 houts24 L hLs24
  have h := hy; clear hy; unfold d117_b1 at h
  cbv
  refine R.cut' (by kernel_rfl) (by kernel_rfl) ?_
  cbv
  refine R.brD h (by first|(simp only [S]<;>rfl)|rfl) ?_ ?_<;>clear h<;>intro h<;>cbv
  ·refine R.cut' (by kernel_rfl) (by kernel_rfl) ?_
   cbv
   refine R.cutB (fun p => p) (fun _ _ e => e) h [] (fun p33 => [(8, .i .u64 p33)]) (fun p33 => []) (by kernel_rfl) (by kernel_rfl) (fun y32 hy hFy32 L hLy32 => ?_) (fun p33 h2 => ?_)
   ·clear h; have h := hy; clear hy; cbv
    refine R.brD h (by first|(simp only [S]<;>rfl)|rfl) ?_ ?_<;>clear h<;>intro h<;>cbv
    ·refine R.needD h (by first|(simp only [S]<;>rfl)|rfl) ?_
     clear h; intro h; cbv
     obtain ⟨s', e, hi⟩ := jn_some (fun p => p) h
     refine hLy32 s' _ _ hi ⟨by kernel_rfl, ?_, ?_, by kernel_rfl, by kernel_rfl⟩<;>cbv<;>(try (subst e;simp only [S,and_self,and_true,true_and]<;>(repeat' apply And.intro)<;>rfl))
    ·obtain ⟨s', e, hi⟩ := jn_some (fun p => p) h
     refine hLy32 s' _ _ hi ⟨by kernel_rfl, ?_, ?_, by kernel_rfl, by kernel_rfl⟩<;>cbv<;>(try (subst e;simp only [S,and_self,and_true,true_and]<;>(repeat' apply And.intro)<;>rfl))
   ·clear h; have h := h2; clear h2; try dsimp only at h
    cbv
    refine R.needD h (by first|(simp only [S]<;>rfl)|rfl) ?_
    clear h; intro h; cbv
    refine R.brD h (by first|(simp only [S]<;>rfl)|rfl) ?_ ?_<;>clear h<;>intro h<;>cbv
    ·refine R.needD h (by first|(simp only [S]<;>rfl)|rfl) ?_
     clear h; intro h; cbv
     refine R.needD h (by first|(simp only [S]<;>rfl)|rfl) ?_
     clear h; intro h; cbv
     obtain ⟨s', e, hi⟩ := inl_some h hins24
     refine hLs24 s' _ _ hi ⟨by kernel_rfl, ?_, ?_, by kernel_rfl, by kernel_rfl⟩<;>cbv<;>(try (subst e;simp only [S,and_self,and_true,true_and]<;>(repeat' apply And.intro)<;>rfl))
    ·refine R.needD h (by first|(simp only [S]<;>rfl)|rfl) ?_
     clear h; intro h; cbv
     refine R.needD h (by first|(simp only [S]<;>rfl)|rfl) ?_
     clear h; intro h; cbv
     obtain ⟨s', e, hi⟩ := inl_some h hins24
     refine hLs24 s' _ _ hi ⟨by kernel_rfl, ?_, ?_, by kernel_rfl, by kernel_rfl⟩<;>cbv<;>(try (subst e;simp only [S,and_self,and_true,true_and]<;>(repeat' apply And.intro)<;>rfl))
  ·have e := inr_some h houts24; clear h
   have h := hFs24; rw [e] at h; clear e; try dsimp only at h
   cbv
   obtain ⟨s', e, hi⟩ := jn_some (fun p => p) h
   refine hLy15 s' _ _ hi ⟨by kernel_rfl, ?_, ?_, by kernel_rfl, by kernel_rfl⟩<;>cbv<;>(try (subst e;simp only [S,and_self,and_true,true_and]<;>(repeat' apply And.intro)<;>rfl))
 ·clear h; have h := h2; clear h2; try dsimp only at h
  cbv
  refine R.callD h (fun x36 hx36 h2 => ?_)
  clear h; have h := h2; clear h2
  refine R.call' (w131 _ _ hx36) (by first|(simp only [S]<;>rfl)|rfl) ?_
  clear hx36; cbv
  have e := ret_some h; clear h
  refine hK _ _ ?_
  cbv
  try (subst e; simp only [S, and_self, and_true, true_and] <;> (repeat' apply And.intro) <;> rfl)
end Go.Proofs.Ytmofhbedamjblaa
end
section
namespace Go.Proofs.Ytmofhbedamjblaa
open Go.Ab Go.RowKit 
set_option maxRecDepth 100000
set_option maxHeartbeats 40000000
noncomputable def d75_b1 (x11 : List V) (x12 : List V) (s46 : Int × Int) : Option ((Int × Int) ⊕ (Int)) :=
 if (cmpLit .geq s46.2 0) = true then
 if (Ge0 s46.2) then
 (d112 (arReal .add .u64 s46.1 (arReal .shl .u64 1 s46.2))).bind fun x63 =>
 (d112 (arReal .add .u64 s46.1 (arReal .shl .u64 1 s46.2))).bind fun x64 =>
 (d113 x63 x64).bind fun x65 =>
 (d113 x65 x12).bind fun x66 =>
 (d116 x66 x11).bind fun x67 =>
 if (cmpLit .leq x67 0) = true then
 some (.inl ((arReal .add .u64 s46.1 (arReal .shl .u64 1 s46.2)), (arReal .sub .i64 s46.2 1)))
 else
 some (.inl (s46.1, (arReal .sub .i64 s46.2 1)))
 else none
 else
 some (.inr s46.1)
noncomputable def d75 (a0 : Int) (a1 : Int) (a2 : Int) (a3 : Int) : Option (Int) :=
 if (cmpLit .eql a0 0) = true then
 some 0
 else
 (d112 (wrapK .u64 a0)).bind fun x1 =>
 (d114 (wrapK .u64 a2) (wrapK .u64 a3)).bind fun x2 =>
 (d113 x1 x2).bind fun x3 =>
 (d115 a1).bind fun x4 =>
 (d112 x4).bind fun x5 =>
 (d115 a1).bind fun x6 =>
 (d112 x6).bind fun x7 =>
 (d113 x5 x7).bind fun x8 =>
 (d116 x3 x8).bind fun x10 =>
 if (cmpLit .lss x10 0) = true then
 some 0
 else
 (d117 x3 x8).bind fun x11 =>
 (d113 x1 x1).bind fun x12 =>
 Option.bind (α := Int) (
 (iter (d75_b1 x11 x12) (0, 62)).bind fun y57 =>
 some y57) fun y35 =>
 some (wrapK .i64 y35)
noncomputable def w75_c : Code := (Try.f75.body).getD .skip
theorem w75_h : Try.f75.body = some w75_c := by kernel_rfl
theorem w75 (a0 : Int) (a1 : Int) (a2 : Int) (a3 : Int) (r : Int) (h : d75 a0 a1 a2 a3 = some r) : Ab.Fn Try.prog TT 75 [.i .i64 a0, .i .i64 a1, .i .i64 a2, .i .i64 a3] (.i .i64 r) [] := by
 refine fn_pure tok W0 Try.func75 (by kernel_rfl) w75_h (by kernel_rfl) ?_
 intro _ _ _ _ _ _ _ _ _ _ _ _ _ _ _ _ _ _ _ _ _ _ _ _ _ _ _ _ _ _ _ _ _ _ _ _ _ _ _ _ _ E R K hK
 have D := E.D
 clear E
 have S := And.intro D.har (And.intro D.hcmp (And.intro D.hcv (D.hge0)))
 unfold d75 at h
 cbv
 refine R.cut' (by kernel_rfl) (by kernel_rfl) ?_
 cbv
 refine R.brD h (by first|(simp only [S]<;>rfl)|rfl) ?_ ?_<;>clear h<;>intro h<;>cbv
 ·have e := ret_some h; clear h
  refine hK _ _ ?_
  cbv
  try (subst e; simp only [S, and_self, and_true, true_and] <;> (repeat' apply And.intro) <;> rfl)
 ·as_aux_lemma =>
  refine R.callD h (fun x1 hx1 h2 => ?_)
  clear h; have h := h2; clear h2
  refine R.call' (w112 _ _ hx1) (by first|(simp only [S]<;>rfl)|rfl) ?_
  clear hx1; cbv
  refine R.callD h (fun x2 hx2 h2 => ?_)
  clear h; have h := h2; clear h2
  refine R.call' (w114 _ _ _ hx2) (by first|(simp only [S]<;>rfl)|rfl) ?_
  clear hx2; cbv
  refine R.callD h (fun x3 hx3 h2 => ?_)
  clear h; have h := h2; clear h2
  refine R.call' (w113 _ _ _ hx3) (by first|(simp only [S]<;>rfl)|rfl) ?_
  clear hx3; cbv
  refine R.callD h (fun x4 hx4 h2 => ?_)
  clear h; have h := h2; clear h2
  refine R.call' (w115 _ _ hx4) (by first|(simp only [S]<;>rfl)|rfl) ?_
  clear hx4; cbv
  refine R.callD h (fun x5 hx5 h2 => ?_)
  clear h; have h := h2; clear h2
  refine R.call' (w112 _ _ hx5) (by first|(simp only [S]<;>rfl)|rfl) ?_
  clear hx5; cbv
  refine R.callD h (fun x6 hx6 h2 => ?_)
  clear h; have h := h2; clear h2
  refine R.call' (w115 _ _ hx6) (by first|(simp only [S]<;>rfl)|rfl) ?_
  clear hx6; cbv
  refine R.callD h (fun x7 hx7 h2 => ?_)
  clear h; have h := h2; clear h2
  refine R.call' (w112 _ _ hx7) (by first|(simp only [S]<;>rfl)|rfl) ?_
  clear hx7; cbv
  refine R.callD h (fun x8 hx8 h2 => ?_)
  clear h; have h := h2; clear h2
  refine R.call' (w113 _ _ _ hx8) (by first|(simp only [S]<;>rfl)|rfl) ?_
  clear hx8; cbv
  refine R.cut' (by kernel_rfl) (by kernel_rfl) ?_
  cbv
  refine R.callD h (fun x10 hx10 h2 => ?_)
  clear h; have h := h2; clear h2
  refine R.call' (w116 _ _ _ hx10) (by first|(simp only [S]<;>rfl)|rfl) ?_
  clear hx10; cbv
  refine R.brD h (by first|(simp only [S]<;>rfl)|rfl) ?_ ?_<;>clear h<;>intro h<;>cbv
  ·have e := ret_some h; clear h
   refine hK _ _ ?_
   cbv
   try (subst e; simp only [S, and_self, and_true, true_and] <;> (repeat' apply And.intro) <;> rfl)
  ·refine R.callD h (fun x11 hx11 h2 => ?_)
   clear h; have h := h2; clear h2
   refine R.call' (w117 _ _ _ hx11) (by first|(simp only [S]<;>rfl)|rfl) ?_
   clear hx11; cbv
   refine R.callD h (fun x12 hx12 h2 => ?_)
   clear h; have h := h2; clear h2
   refine R.call' (w113 _ _ _ hx12) (by first|(simp only [S]<;>rfl)|rfl) ?_
   clear hx12; cbv
   refine R.cutB (fun p => p) (fun _ _ e => e) h [] (fun p69 => [(14, .i .u64 p69)]) (fun p69 => []) (by kernel_rfl) (by kernel_rfl) (fun y35 hy hFy35 L hLy35 => ?_) (fun p69 h2 => ?_)
   ·clear h; have h := hy; clear hy; cbv
    refine R.loopD h (fun s0 y57 e0 hi hFs46 => ?_)
    clear h
    refine R.loopI hi [] (fun s46 => [(14, .i .u64 s46.1), (15, .i .i64 s46.2)]) (fun s46 => []) ⟨by kernel_rfl, ?_, ?_, by kernel_rfl, by kernel_rfl⟩ (by kernel_rfl) ?_
    ·cbv; try (subst e0; simp only [S, and_self, and_true, true_and] <;> (repeat' apply And.intro) <;> rfl)
    ·cbv; try (subst e0; simp only [S, and_self, and_true, true_and] <;> (repeat' apply And.intro) <;> rfl)
    clear hi e0
    intro s46 m y' hy hins46 houts46 L hLs46
    have h := hy; clear hy; unfold d75_b1 at h
    cbv
    refine R.cut' (by kernel_rfl) (by kernel_rfl) ?_
    cbv
    refine R.brD h (by first|(simp only [S]<;>rfl)|rfl) ?_ ?_<;>clear h<;>intro h<;>cbv
    ·refine R.cut' (by kernel_rfl) (by kernel_rfl) ?_
     cbv
     refine R.needD h (by first|(simp only [S]<;>rfl)|rfl) ?_
     clear h; intro h; cbv
     refine R.callD h (fun x63 hx63 h2 => ?_)
     clear h; have h := h2; clear h2
     refine R.call' (w112 _ _ hx63) (by first|(simp only [S]<;>rfl)|rfl) ?_
     clear hx63; cbv
     refine R.callD h (fun x64 hx64 h2 => ?_)
     clear h; have h := h2; clear h2
     refine R.call' (w112 _ _ hx64) (by first|(simp only [S]<;>rfl)|rfl) ?_
     clear hx64; cbv
     refine R.callD h (fun x65 hx65 h2 => ?_)
     clear h; have h := h2; clear h2
     refine R.call' (w113 _ _ _ hx65) (by first|(simp only [S]<;>rfl)|rfl) ?_
     clear hx65; cbv
     refine R.callD h (fun x66 hx66 h2 => ?_)
     clear h; have h := h2; clear h2
     refine R.call' (w113 _ _ _ hx66) (by first|(simp only [S]<;>rfl)|rfl) ?_
     clear hx66; cbv
     refine R.callD h (fun x67 hx67 h2 => ?_)
     clear h; have h := h2; clear h2
     refine R.call' (w116 _ _ _ hx67) (by first|(simp only [S]<;>rfl)|rfl) ?_
     clear hx67; cbv
     refine R.brD h (by first|(simp only [S]<;>rfl)|rfl) ?_ ?_<;>clear h<;>intro h<;>cbv
     ·obtain ⟨s', e, hi⟩ := inl_some h hins46
      refine hLs46 s' _ _ hi ⟨by kernel_rfl, ?_, ?_, by kernel_rfl, by kernel_rfl⟩<;>cbv<;>(try (subst e;simp only [S,and_self,and_true,true_and]<;>(repeat' apply And.intro)<;>rfl))
     ·obtain ⟨s', e, hi⟩ := inl_some h hins46
      refine hLs46 s' _ _ hi ⟨by kernel_rfl, ?_, ?_, by kernel_rfl, by kernel_rfl⟩<;>cbv<;>(try (subst e;simp only [S,and_self,and_true,true_and]<;>(repeat' apply And.intro)<;>rfl))
    ·have e := inr_some h houts46; clear h
     have h := hFs46; rw [e] at h; clear e; try dsimp only at h
     cbv
     obtain ⟨s', e, hi⟩ := jn_some (fun p => p) h
     refine hLy35 s' _ _ hi ⟨by kernel_rfl, ?_, ?_, by kernel_rfl, by kernel_rfl⟩<;>cbv<;>(try (subst e;simp only [S,and_self,and_true,true_and]<;>(repeat' apply And.intro)<;>rfl))
   ·clear h; have h := h2; clear h2; try dsimp only at h
    cbv
    have e := ret_some h; clear h
    refine hK _ _ ?_
    cbv
    try (subst e; simp only [S, and_self, and_true, true_and] <;> (repeat' apply And.intro) <;> rfl)
noncomputable def d48_b1 (a1 : List V) (s14 : Int × Int) : Option ((Int × Int) ⊕ (Int)) :=
 if (cmpLit .lss s14.2 (lenI a1)) = true then
 if (Inb s14.2 (lenI a1)) then
 some (.inl ((arReal .add .i64 s14.1 (gI a1 s14.2 0)), (arReal .add .i64 s14.2 1)))
 else none
 else
 some (.inr s14.1)
noncomputable def d48 (a0_0 : ByteArray) (a0_1 : Int) (a0_2 : List V) (a0_3 : List V) (a1 : List V) : Option (Int) :=
 Option.bind (α := Bool) (
 if (cmpLit .eql a0_1 1) = true then
 some true
 else
 some (cmpLit .eql a0_1 2)) fun y6 =>
 if y6 = true then
 if (Inb 0 (lenI a1)) then
 some (gI a1 0 0)
 else none
 else
 Option.bind (α := Bool) (
 if (cmpLit .eql a0_1 3) = true then
 some true
 else
 some (cmpLit .eql a0_1 4)) fun y8 =>
 if y8 = true then
 if (Inb 1 (lenI a1)) then
 some (gI a1 1 0)
 else none
 else
 if (cmpLit .eql a0_1 5) = true then
 if (Inb 0 (lenI a1)) then
 if (cmpLit .eql (gI a1 0 0) 0) = true then
 some 0
 else
 if (Inb 1 (lenI a1)) then
 if (Inb 0 (lenI a1)) then
 if (Ne0 (gI a1 0 0)) then
 some (arReal .quo .i64 (gI a1 1 0) (gI a1 0 0))
 else none
 else none
 else none
 else none
 else
 if (cmpLit .eql a0_1 6) = true then
 if (Inb 0 (lenI a1)) then
 if (Inb 1 (lenI a1)) then
 if (Inb 2 (lenI a1)) then
 if (Inb 3 (lenI a1)) then
 (d75 (gI a1 0 0) (gI a1 1 0) (gI a1 2 0) (gI a1 3 0)).bind fun x10 =>
 some x10
 else none
 else none
 else none
 else none
 else
 Option.bind (α := Int) (
 (iter (d48_b1 a1) (0, 0)).bind fun y15 =>
 some y15) fun y13 =>
 some y13
noncomputable def w48_c : Code := (Try.f48.body).getD .skip
theorem w48_h : Try.f48.body = some w48_c := by kernel_rfl
theorem w48 (a0_0 : ByteArray) (a0_1 : Int) (a0_2 : List V) (a0_3 : List V) (a1 : List V) (r : Int) (h : d48 a0_0 a0_1 a0_2 a0_3 a1 = some r) : Ab.Fn Try.prog TT 48 [.agg [.str a0_0, .i .i64 a0_1, .sl 2 a0_2, .sl 74 a0_3], .sl 2 a1] (.i .i64 r) [] := by
 refine fn_pure tok (fun r => match r with | 11 => [[],[0],[0,1],[],[3],[3,4],[0,1,2,3,4,5],[0,1,2,3,4,5,6]] | 13 => [[],[0],[0,1],[],[3],[3,4],[],[6],[6,7],[],[9],[9,10],[0,1,2,3,4,5,6,7,8,9,10,11],[0,1,2,3,4,5,6,7,8,9,10,11,12]] | _ => []) Try.func48 (by kernel_rfl) w48_h (by kernel_rfl) ?_
 intro _ _ _ _ _ _ _ _ _ _ _ _ _ _ _ _ _ _ _ _ _ _ _ _ _ _ _ _ _ _ _ _ _ _ _ _ _ _ _ _ _ E R K hK
 have D := E.D
 clear E
 have S := And.intro D.har (And.intro D.hcmp (And.intro D.hgi (And.intro D.hinb (And.intro D.hlen (D.hne0)))))
 unfold d48 at h
 cbv
 refine R.cut' (by kernel_rfl) (by kernel_rfl) ?_
 cbv
 refine R.cutB (fun p => p) (fun _ _ e => e) h [] (fun p7 => [(9, .b p7)]) (fun p7 => []) (by kernel_rfl) (by kernel_rfl) (fun y6 hy hFy6 L hLy6 => ?_) (fun p7 h2 => ?_)
 ·clear h; have h := hy; clear hy; cbv
  refine R.brD h (by first|(simp only [S]<;>rfl)|rfl) ?_ ?_<;>clear h<;>intro h<;>cbv
  ·obtain ⟨s', e, hi⟩ := jn_some (fun p => p) h
   refine hLy6 s' _ _ hi ⟨by kernel_rfl, ?_, ?_, by kernel_rfl, by kernel_rfl⟩<;>cbv<;>(try (subst e;simp only [S,and_self,and_true,true_and]<;>(repeat' apply And.intro)<;>rfl))
  ·obtain ⟨s', e, hi⟩ := jn_some (fun p => p) h
   refine hLy6 s' _ _ hi ⟨by kernel_rfl, ?_, ?_, by kernel_rfl, by kernel_rfl⟩<;>cbv<;>(try (subst e;simp only [S,and_self,and_true,true_and]<;>(repeat' apply And.intro)<;>rfl))
 ·as_aux_lemma =>
  clear h; have h := h2; clear h2; try dsimp only at h
  cbv
  refine R.brD h (by first|(simp only [S]<;>rfl)|rfl) ?_ ?_<;>clear h<;>intro h<;>cbv
  ·refine R.needD h (by first|(simp only [S]<;>rfl)|rfl) ?_
   clear h; intro h; cbv
   have e := ret_some h; clear h
   refine hK _ _ ?_
   cbv
   try (subst e; simp only [S, and_self, and_true, true_and] <;> (repeat' apply And.intro) <;> rfl)
  ·as_aux_lemma =>
   refine R.cutB (fun p => p) (fun _ _ e => e) h [] (fun p9 => [(15, .b p9)]) (fun p9 => []) (by kernel_rfl) (by kernel_rfl) (fun y8 hy hFy8 L hLy8 => ?_) (fun p9 h2 => ?_)
   ·clear h; have h := hy; clear hy; cbv
    refine R.brD h (by first|(simp only [S]<;>rfl)|rfl) ?_ ?_<;>clear h<;>intro h<;>cbv
    ·obtain ⟨s', e, hi⟩ := jn_some (fun p => p) h
     refine hLy8 s' _ _ hi ⟨by kernel_rfl, ?_, ?_, by kernel_rfl, by kernel_rfl⟩<;>cbv<;>(try (subst e;simp only [S,and_self,and_true,true_and]<;>(repeat' apply And.intro)<;>rfl))
    ·obtain ⟨s', e, hi⟩ := jn_some (fun p => p) h
     refine hLy8 s' _ _ hi ⟨by kernel_rfl, ?_, ?_, by kernel_rfl, by kernel_rfl⟩<;>cbv<;>(try (subst e;simp only [S,and_self,and_true,true_and]<;>(repeat' apply And.intro)<;>rfl))
   ·as_aux_lemma =>
    clear h; have h := h2; clear h2; try dsimp only at h
    cbv
    refine R.brD h (by first|(simp only [S]<;>rfl)|rfl) ?_ ?_<;>clear h<;>intro h<;>cbv
    ·refine R.needD h (by first|(simp only [S]<;>rfl)|rfl) ?_
     clear h; intro h; cbv
     have e := ret_some h; clear h
     refine hK _ _ ?_
     cbv
     try (subst e; simp only [S, and_self, and_true, true_and] <;> (repeat' apply And.intro) <;> rfl)
    ·as_aux_lemma =>
     refine R.brD h (by first|(simp only [S]<;>rfl)|rfl) ?_ ?_<;>clear h<;>intro h<;>cbv
     ·refine R.cut' (by kernel_rfl) (by kernel_rfl) ?_
      cbv
      refine R.needD h (by first|(simp only [S]<;>rfl)|rfl) ?_
      clear h; intro h; cbv
      refine R.brD h (by first|(simp only [S]<;>rfl)|rfl) ?_ ?_<;>clear h<;>intro h<;>cbv
      ·have e := ret_some h; clear h
       refine hK _ _ ?_
       cbv
       try (subst e; simp only [S, and_self, and_true, true_and] <;> (repeat' apply And.intro) <;> rfl)
      ·refine R.needD h (by first|(simp only [S]<;>rfl)|rfl) ?_
       clear h; intro h; cbv
       refine R.needD h (by first|(simp only [S]<;>rfl)|rfl) ?_
       clear h; intro h; cbv
       refine R.needD h (by first|(simp only [S]<;>rfl)|rfl) ?_
       clear h; intro h; cbv
       have e := ret_some h; clear h
       refine hK _ _ ?_
       cbv
       try (subst e; simp only [S, and_self, and_true, true_and] <;> (repeat' apply And.intro) <;> rfl)
     ·refine R.brD h (by first|(simp only [S]<;>rfl)|rfl) ?_ ?_<;>clear h<;>intro h<;>cbv
      ·refine R.needD h (by first|(simp only [S]<;>rfl)|rfl) ?_
       clear h; intro h; cbv
       refine R.needD h (by first|(simp only [S]<;>rfl)|rfl) ?_
       clear h; intro h; cbv
       refine R.needD h (by first|(simp only [S]<;>rfl)|rfl) ?_
       clear h; intro h; cbv
       refine R.needD h (by first|(simp only [S]<;>rfl)|rfl) ?_
       clear h; intro h; cbv
       refine R.callD h (fun x10 hx10 h2 => ?_)
       clear h; have h := h2; clear h2
       refine R.call' (w75 _ _ _ _ _ hx10) (by first|(simp only [S]<;>rfl)|rfl) ?_
       clear hx10; cbv
       have e := ret_some h; clear h
       refine hK _ _ ?_
       cbv
       try (subst e; simp only [S, and_self, and_true, true_and] <;> (repeat' apply And.intro) <;> rfl)
      ·refine R.cutB (fun p => p) (fun _ _ e => e) h [] (fun p17 => [(5, .i .i64 p17)]) (fun p17 => []) (by kernel_rfl) (by kernel_rfl) (fun y13 hy hFy13 L hLy13 => ?_) (fun p17 h2 => ?_)
       ·clear h; have h := hy; clear hy; cbv
        refine R.loopD h (fun s0 y15 e0 hi hFs14 => ?_)
        clear h
        refine R.loopI hi [] (fun s14 => [(5, .i .i64 s14.1), (6, .i .i64 s14.2)]) (fun s14 => []) ⟨by kernel_rfl, ?_, ?_, by kernel_rfl, by kernel_rfl⟩ (by kernel_rfl) ?_
        ·cbv; try (subst e0; simp only [S, and_self, and_true, true_and] <;> (repeat' apply And.intro) <;> rfl)
        ·cbv; try (subst e0; simp only [S, and_self, and_true, true_and] <;> (repeat' apply And.intro) <;> rfl)
        clear hi e0
        intro s14 m y' hy hins14 houts14 L hLs14
        have h := hy; clear hy; unfold d48_b1 at h
        cbv
        refine R.cut' (by kernel_rfl) (by kernel_rfl) ?_
        cbv
        refine R.brD h (by first|(simp only [S]<;>rfl)|rfl) ?_ ?_<;>clear h<;>intro h<;>cbv
        ·refine R.cut' (by kernel_rfl) (by kernel_rfl) ?_
         cbv
         refine R.needD h (by first|(simp only [S]<;>rfl)|rfl) ?_
         clear h; intro h; cbv
         obtain ⟨s', e, hi⟩ := inl_some h hins14
         refine hLs14 s' _ _ hi ⟨by kernel_rfl, ?_, ?_, by kernel_rfl, by kernel_rfl⟩<;>cbv<;>(try (subst e;simp only [S,and_self,and_true,true_and]<;>(repeat' apply And.intro)<;>rfl))
        ·have e := inr_some h houts14; clear h
         have h := hFs14; rw [e] at h; clear e; try dsimp only at h
         cbv
         obtain ⟨s', e, hi⟩ := jn_some (fun p => p) h
         refine hLy13 s' _ _ hi ⟨by kernel_rfl, ?_, ?_, by kernel_rfl, by kernel_rfl⟩<;>cbv<;>(try (subst e;simp only [S,and_self,and_true,true_and]<;>(repeat' apply And.intro)<;>rfl))
       ·clear h; have h := h2; clear h2; try dsimp only at h
        cbv
        have e := ret_some h; clear h
        refine hK _ _ ?_
        cbv
        try (subst e; simp only [S, and_self, and_true, true_and] <;> (repeat' apply And.intro) <;> rfl)
end Go.Proofs.Ytmofhbedamjblaa
end
section
namespace Go.Proofs.Ytmofhbedamjblaa
open Go.Ab Go.RowKit 
set_option maxRecDepth 100000
set_option maxHeartbeats 40000000
noncomputable def d16_b1 (a1 : List V) (a2 : Int) (s11 : Int × List V) : Option ((Int × List V) ⊕ (List V)) :=
 if (cmpLit .lss s11.1 (lenI a1)) = true then
 if (Inb s11.1 (lenI a1)) then
 if (Ne0 a2) then
 if (Room (lenI (appL s11.2 [.i .i64 (arReal .quo .i64 (gI a1 s11.1 0) a2)])) 8) then
 some (.inl ((arReal .add .i64 s11.1 1), (appL s11.2 [.i .i64 (arReal .quo .i64 (gI a1 s11.1 0) a2)])))
 else none
 else none
 else none
 else
 some (.inr s11.2)
noncomputable def d16 (a0_0 : ByteArray) (a0_1 : Int) (a0_2 : List V) (a0_3 : List V) (a1 : List V) (a2 : Int) : Option (List V × Int) :=
 (d47 a0_0 a0_1 a0_2 a0_3 a1).bind fun x1 =>
 Option.bind (α := Int) (
 if (cmpLit .eql x1 0) = true then
 if (cmpLit .lss a2 1) = true then
 some 1
 else
 some x1
 else
 some x1) fun y2 =>
 if (cmpLit .neq y2 0) = true then
 some ([], y2)
 else
 (d41 a0_0 a0_1 a0_2 a0_3).bind fun x6 =>
 if (notB' x6) = true then
 (d48 a0_0 a0_1 a0_2 a0_3 a1).bind fun x7 =>
 if (Ne0 a2) then
 some ([.i .i64 (arReal .quo .i64 x7 a2)], 0)
 else none
 else
 Option.bind (α := List V) (
 (iter (d16_b1 a1 a2) (0, [])).bind fun y12 =>
 some y12) fun y10 =>
 some (y10, 0)
noncomputable def w16_c : Code := (Try.f16.body).getD .skip
theorem w16_h : Try.f16.body = some w16_c := by kernel_rfl
theorem w16 (a0_0 : ByteArray) (a0_1 : Int) (a0_2 : List V) (a0_3 : List V) (a1 : List V) (a2 : Int) (r : List V × Int) (h : d16 a0_0 a0_1 a0_2 a0_3 a1 a2 = some r) : Ab.Fn Try.prog TT 16 [.agg [.str a0_0, .i .i64 a0_1, .sl 2 a0_2, .sl 74 a0_3], .sl 2 a1, .i .i64 a2] (.agg [.row 0, .i .i64 r.2]) [(0, .row 2 r.1)] := by
 refine fn_own tok W0 Try.func16 (by kernel_rfl) w16_h (by kernel_rfl) ?_
 intro _ _ _ _ _ _ _ _ _ _ _ _ _ _ _ _ _ _ _ _ _ _ _ _ _ _ _ _ _ _ _ _ _ _ _ _ _ _ _ _ _ E R K hK
 have D := E.D
 clear E
 have S := And.intro D.happ (And.intro D.har (And.intro D.hcmp (And.intro D.hgi (And.intro D.hinb (And.intro D.hlen (And.intro D.hne0 (And.intro D.hnt (D.hroom))))))))
 unfold d16 at h
 cbv
 refine R.callD h (fun x1 hx1 h2 => ?_)
 clear h; have h := h2; clear h2
 refine R.call' (w47 _ _ _ _ _ _ hx1) (by first|(simp only [S]<;>rfl)|rfl) ?_
 clear hx1; cbv
 refine R.cutB (fun p => p) (fun _ _ e => e) h [] (fun p3 => [(7, .i .i64 p3)]) (fun p3 => []) (by kernel_rfl) (by kernel_rfl) (fun y2 hy hFy2 L hLy2 => ?_) (fun p3 h2 => ?_)
 ·clear h; have h := hy; clear hy; cbv
  refine R.cut' (by kernel_rfl) (by kernel_rfl) ?_
  cbv
  refine R.brD h (by first|(simp only [S]<;>rfl)|rfl) ?_ ?_<;>clear h<;>intro h<;>cbv
  ·refine R.brD h (by first|(simp only [S]<;>rfl)|rfl) ?_ ?_<;>clear h<;>intro h<;>cbv
   ·obtain ⟨s', e, hi⟩ := jn_some (fun p => p) h
    refine hLy2 s' _ _ hi ⟨by kernel_rfl, ?_, ?_, by kernel_rfl, by kernel_rfl⟩<;>cbv<;>(try (subst e;simp only [S,and_self,and_true,true_and]<;>(repeat' apply And.intro)<;>rfl))
   ·obtain ⟨s', e, hi⟩ := jn_some (fun p => p) h
    refine hLy2 s' _ _ hi ⟨by kernel_rfl, ?_, ?_, by kernel_rfl, by kernel_rfl⟩<;>cbv<;>(try (subst e;simp only [S,and_self,and_true,true_and]<;>(repeat' apply And.intro)<;>rfl))
  ·obtain ⟨s', e, hi⟩ := jn_some (fun p => p) h
   refine hLy2 s' _ _ hi ⟨by kernel_rfl, ?_, ?_, by kernel_rfl, by kernel_rfl⟩<;>cbv<;>(try (subst e;simp only [S,and_self,and_true,true_and]<;>(repeat' apply And.intro)<;>rfl))
 ·clear h; have h := h2; clear h2; try dsimp only at h
  cbv
  refine R.cut' (by kernel_rfl) (by kernel_rfl) ?_
  cbv
  refine R.brD h (by first|(simp only [S]<;>rfl)|rfl) ?_ ?_<;>clear h<;>intro h<;>cbv
  ·have e := ret_some h; clear h
   refine hK _ _ ⟨rfl, ⟨?_, rfl, rfl, rfl, ?_⟩⟩<;>cbv<;>(try (subst e;simp only [S,and_self,and_true,true_and]<;>(repeat' apply And.intro)<;>rfl))
  ·refine R.cut' (by kernel_rfl) (by kernel_rfl) ?_
   cbv
   refine R.callD h (fun x6 hx6 h2 => ?_)
   clear h; have h := h2; clear h2
   refine R.call' (w41 _ _ _ _ _ hx6) (by first|(simp only [S]<;>rfl)|rfl) ?_
   clear hx6; cbv
   refine R.brD h (by first|(simp only [S]<;>rfl)|rfl) ?_ ?_<;>clear h<;>intro h<;>cbv
   ·refine R.callD h (fun x7 hx7 h2 => ?_)
    clear h; have h := h2; clear h2
    refine R.call' (w48 _ _ _ _ _ _ hx7) (by first|(simp only [S]<;>rfl)|rfl) ?_
    clear hx7; cbv
    refine R.needD h (by first|(simp only [S]<;>rfl)|rfl) ?_
    clear h; intro h; cbv
    have e := ret_some h; clear h
    refine hK _ _ ⟨rfl, ⟨?_, rfl, rfl, rfl, ?_⟩⟩<;>cbv<;>(try (subst e;simp only [S,and_self,and_true,true_and]<;>(repeat' apply And.intro)<;>rfl))
   ·refine R.cutB (fun p => p) (fun _ _ e => e) h [] (fun p14 => [(8, .row 143)]) (fun p14 => [(143, .row 2 p14)]) (by kernel_rfl) (by kernel_rfl) (fun y10 hy hFy10 L hLy10 => ?_) (fun p14 h2 => ?_)
    ·clear h; have h := hy; clear hy; cbv
     refine R.loopD h (fun s0 y12 e0 hi hFs11 => ?_)
     clear h
     refine R.born' (e := te2) 8 143 2 rfl rfl (by kernel_rfl) (by decide) ?_
     refine R.loopI hi [] (fun s11 => [(8, .row 143), (9, .i .i64 s11.1)]) (fun s11 => [(143, .row 2 s11.2)]) ⟨by kernel_rfl, ?_, ?_, by kernel_rfl, by kernel_rfl⟩ (by kernel_rfl) ?_
     ·cbv; try (subst e0; simp only [S, and_self, and_true, true_and] <;> (repeat' apply And.intro) <;> rfl)
     ·cbv; try (subst e0; simp only [S, and_self, and_true, true_and] <;> (repeat' apply And.intro) <;> rfl)
     clear hi e0
     intro s11 m y' hy hins11 houts11 L hLs11
     have h := hy; clear hy; unfold d16_b1 at h
     cbv
     refine R.cut' (by kernel_rfl) (by kernel_rfl) ?_
     cbv
     refine R.brD h (by first|(simp only [S]<;>rfl)|rfl) ?_ ?_<;>clear h<;>intro h<;>cbv
     ·refine R.cut' (by kernel_rfl) (by kernel_rfl) ?_
      cbv
      refine R.needD h (by first|(simp only [S]<;>rfl)|rfl) ?_
      clear h; intro h; cbv
      refine R.needD h (by first|(simp only [S]<;>rfl)|rfl) ?_
      clear h; intro h; cbv
      refine R.needD h (by first|(simp only [S]<;>rfl)|rfl) ?_
      clear h; intro h; cbv
      obtain ⟨s', e, hi⟩ := inl_some h hins11
      refine hLs11 s' _ _ hi ⟨by kernel_rfl, ?_, ?_, by kernel_rfl, by kernel_rfl⟩<;>cbv<;>(try (subst e;simp only [S,and_self,and_true,true_and]<;>(repeat' apply And.intro)<;>rfl))
     ·have e := inr_some h houts11; clear h
      have h := hFs11; rw [e] at h; clear e; try dsimp only at h
      cbv
      obtain ⟨s', e, hi⟩ := jn_some (fun p => p) h
      refine hLy10 s' _ _ hi ⟨by kernel_rfl, ?_, ?_, by kernel_rfl, by kernel_rfl⟩<;>cbv<;>(try (subst e;simp only [S,and_self,and_true,true_and]<;>(repeat' apply And.intro)<;>rfl))
    ·clear h; have h := h2; clear h2; try dsimp only at h
     cbv
     have e := ret_some h; clear h
     refine hK _ _ ⟨rfl, ⟨?_, rfl, rfl, rfl, ?_⟩⟩<;>cbv<;>(try (subst e;simp only [S,and_self,and_true,true_and]<;>(repeat' apply And.intro)<;>rfl))
theorem w16s (a0_0 : ByteArray) (a0_1 : Int) (a0_2 : List V) (a0_3 : List V) (a1 : List V) (a2 : Int) (r : List V × Int) (h : d16 a0_0 a0_1 a0_2 a0_3 a1 a2 = some r) : Ab.Fn Try.prog TT 16 [.agg [.str a0_0, .i .i64 a0_1, .sl 2 a0_2, .sl 74 a0_3], .sl 2 a1, .i .i64 a2] (.agg [.sl 2 r.1, .i .i64 r.2]) [] :=
 (w16 a0_0 a0_1 a0_2 a0_3 a1 a2 r h).pure (by simp [ple, ple1, ple1L, pleL, pleS, Ab.look])
noncomputable def d80v1 (a0 : Int) : Option (Bool) :=
 (d78 a0).bind fun x2 =>
 some (notB' x2)
noncomputable def w80v1_c : Code := (Try.f80.body).getD .skip
theorem w80v1_h : Try.f80.body = some w80v1_c := by kernel_rfl
theorem w80v1 (a0 : Int) (r : Bool) (h : d80v1 a0 = some r) : Ab.FnB Try.prog TT 80 [.i .i64 a0, .ptr 900000 0] [(900000, .cells 137 [.fn (.func 78) [] []])] [900000] (.b r) [(900000, .cells 137 [.fn (.func 78) [] []])] := by
 refine fnb_rules tok W0 [900000] [.b r] [(900000, .cells 137 [.fn (.func 78) [] []])] [] Try.func80 (by kernel_rfl) w80v1_h (by kernel_rfl) (by rfl) ?_
 intro _ _ _ _ _ _ _ _ _ _ _ _ _ _ _ _ _ _ _ _ _ _ _ _ _ _ _ _ _ _ _ _ _ _ _ _ _ _ _ _ _ E R K hK
 have D := E.D
 clear E
 unfold d80v1 at h
 cbv
 refine R.callD h (fun x2 hx2 h2 => ?_)
 clear h; have h := h2; clear h2
 refine R.call' (w78 _ _ hx2) (by first | (simp only [D.hnt] <;> rfl) | rfl) ?_
 clear hx2; cbv
 have e := ret_some h; clear h
 refine hK _ _ ⟨by kernel_rfl, ?_, ?_, by kernel_rfl, by kernel_rfl⟩ <;> cbv <;> (try (subst e; simp only [D.hnt, and_self, and_true, true_and] <;> (repeat' apply And.intro) <;> rfl))
noncomputable def d118v1_b1 (a0 : List V) (s18 : Int) : Option ((Int) ⊕ ((Int) ⊕ (Unit))) :=
 if (cmpLit .lss s18 (lenI a0)) = true then
 if (Inb s18 (lenI a0)) then
 (d80v1 (gI a0 s18 0)).bind fun x23 =>
 if x23 = true then
 some (.inr (.inl s18))
 else
 some (.inl (arReal .add .i64 s18 1))
 else none
 else
 some (.inr (.inr ()))
noncomputable def d118v1 (a0 : List V) : Option (Int) :=
 Option.bind (α := (Unit) ⊕ (Int)) (
 (iter (d118v1_b1 a0) 0).bind fun y21 =>
 match y21 with
 | .inl p24 =>
 some (.inr p24)
 | .inr y21r0 =>
 some (.inl ())) fun y15 =>
 match y15 with
 | .inl p26 =>
 some (-1)
 | .inr y15r0 =>
 some y15r0
noncomputable def w118v1_c : Code := (Try.f118.body).getD .skip
theorem w118v1_h : Try.f118.body = some w118v1_c := by kernel_rfl
theorem w118v1 (a0 : List V) (r : Int) (h : d118v1 a0 = some r) : Ab.FnB Try.prog TT 118 [.sl 2 a0, .fn (.func 80) [] [.ptr 900000 0]] [(900000, .cells 137 [.fn (.func 78) [] []])] [900000] (.i .i64 r) [(900000, .cells 137 [.fn (.func 78) [] []])] := by
 refine fnb_rules tok W0 [900000] [.i .i64 r] [(900000, .cells 137 [.fn (.func 78) [] []])] [] Try.func118 (by kernel_rfl) w118v1_h (by kernel_rfl) (by rfl) ?_
 intro _ _ _ _ _ _ _ _ _ _ _ _ _ _ _ _ _ _ _ _ _ _ _ _ _ _ _ _ _ _ _ _ _ _ _ _ _ _ _ _ _ E R K hK
 have D := E.D
 clear E
 have S := And.intro D.har (And.intro D.hcmp (And.intro D.hgi (And.intro D.hinb (D.hlen))))
 unfold d118v1 at h
 cbv
 refine R.cutB Sum.inl (fun _ _ e => Sum.inl.inj e) h [] (fun p26 => []) (fun p26 => []) (by kernel_rfl) (by kernel_rfl) (fun y15 hy hFy15 L hLy15 => ?_) (fun p26 h2 => ?_)
 ·clear h; have h := hy; clear hy; cbv
  refine R.loopD h (fun s0 y21 e0 hi hFs18 => ?_)
  clear h
  refine R.loopI hi [] (fun s18 => [(8, .i .i64 s18)]) (fun s18 => []) ⟨by kernel_rfl, ?_, ?_, by kernel_rfl, by kernel_rfl⟩ (by kernel_rfl) ?_
  ·cbv; try (subst e0; simp only [S, and_self, and_true, true_and] <;> (repeat' apply And.intro) <;> rfl)
  ·cbv; try (subst e0; simp only [S, and_self, and_true, true_and] <;> (repeat' apply And.intro) <;> rfl)
  clear hi e0
  intro s18 m y' hy hins18 houts18 L hLs18
  have h := hy; clear hy; unfold d118v1_b1 at h
  cbv
  refine R.cut' (by kernel_rfl) (by kernel_rfl) ?_
  cbv
  refine R.brD h (by first|(simp only [S]<;>rfl)|rfl) ?_ ?_<;>clear h<;>intro h<;>cbv
  ·refine R.cut' (by kernel_rfl) (by kernel_rfl) ?_
   cbv
   refine R.needD h (by first|(simp only [S]<;>rfl)|rfl) ?_
   clear h; intro h; cbv
   refine R.callBD h (fun x23 hx23 h2 => ?_)
   clear h; have h := h2; clear h2
   obtain ⟨bx23_0, ex23_0, hbx23⟩ : ∃ bx23_0, bx23_0 = (gI a0 s18 0) ∧ d80v1 bx23_0 = some x23 := ⟨_, rfl, hx23⟩
   clear hx23; have hx23 := hbx23; clear hbx23
   refine R.callB [(900000, 900000)] (w80v1 bx23_0 _ hx23) ?_ ?_ rfl ?_
   ·cbv <;> (try simp only [S, ex23_0, and_self, and_true, true_and] <;> (repeat' apply And.intro) <;> rfl)
   ·cbv <;> (try simp only [S, ex23_0, and_self, and_true, true_and] <;> (repeat' apply And.intro) <;> rfl)
   clear hx23; cbv
   refine R.brD h (by first | (simp only [S, ex23_0] <;> rfl) | rfl) ?_ ?_<;>clear h<;>intro h<;>cbv
   ·have e := inr_some h houts18; clear h
    have h := hFs18; rw [e] at h; clear e; try dsimp only at h
    cbv
    have e := ret_some h; clear h
    have h := hFy15; rw [e] at h; clear e; try dsimp only at h
    cbv
    have e := ret_some h; clear h
    refine hK _ _ ⟨by kernel_rfl, ?_, ?_, by kernel_rfl, by kernel_rfl⟩ <;> cbv <;> (try (subst e; simp only [S, ex23_0, and_self, and_true, true_and] <;> (repeat' apply And.intro) <;> rfl))
   ·obtain ⟨s', e, hi⟩ := inl_some h hins18
    refine hLs18 s' _ _ hi ⟨by kernel_rfl, ?_, ?_, by kernel_rfl, by kernel_rfl⟩ <;> cbv <;> (try (subst e; simp only [S, ex23_0, and_self, and_true, true_and] <;> (repeat' apply And.intro) <;> rfl))
  ·have e := inr_some h houts18; clear h
   have h := hFs18; rw [e] at h; clear e; try dsimp only at h
   cbv
   obtain ⟨s', e, hi⟩ := jn_some Sum.inl h
   refine hLy15 s' _ _ hi ⟨by kernel_rfl, ?_, ?_, by kernel_rfl, by kernel_rfl⟩<;>cbv<;>(try (subst e;simp only [S,and_self,and_true,true_and]<;>(repeat' apply And.intro)<;>rfl))
 ·clear h; have h := h2; clear h2; try dsimp only at h
  cbv
  have e := ret_some h; clear h
  refine hK _ _ ⟨by kernel_rfl, ?_, ?_, by kernel_rfl, by kernel_rfl⟩<;>cbv<;>(try (subst e;simp only [S,and_self,and_true,true_and]<;>(repeat' apply And.intro)<;>rfl))
noncomputable def d79v1 (a0 : List V) : Option (Bool) :=
 (d118v1 a0).bind fun x2 =>
 some (cmpLit .geq x2 0)
noncomputable def w79v1_c : Code := (Try.f79.body).getD .skip
theorem w79v1_h : Try.f79.body = some w79v1_c := by kernel_rfl
theorem w79v1 (a0 : List V) (r : Bool) (h : d79v1 a0 = some r) : Ab.FnB Try.prog TT 79 [.sl 2 a0, .fn (.func 80) [] [.ptr 900000 0]] [(900000, .cells 137 [.fn (.func 78) [] []])] [900000] (.b r) [(900000, .cells 137 [.fn (.func 78) [] []])] := by
 refine fnb_rules tok W0 [900000] [.b r] [(900000, .cells 137 [.fn (.func 78) [] []])] [] Try.func79 (by kernel_rfl) w79v1_h (by kernel_rfl) (by rfl) ?_
 intro _ _ _ _ _ _ _ _ _ _ _ _ _ _ _ _ _ _ _ _ _ _ _ _ _ _ _ _ _ _ _ _ _ _ _ _ _ _ _ _ _ E R K hK
 have D := E.D
 clear E
 unfold d79v1 at h
 cbv
 refine R.callBD h (fun x2 hx2 h2 => ?_)
 clear h; have h := h2; clear h2
 refine R.callB [(900000, 900000)] (w118v1 a0 _ hx2) ?_ ?_ rfl ?_
 ·cbv <;> (try simp only [D.hcmp, and_self, and_true, true_and] <;> (repeat' apply And.intro) <;> rfl)
 ·cbv <;> (try simp only [D.hcmp, and_self, and_true, true_and] <;> (repeat' apply And.intro) <;> rfl)
 clear hx2; cbv
 have e := ret_some h; clear h
 refine hK _ _ ⟨by kernel_rfl, ?_, ?_, by kernel_rfl, by kernel_rfl⟩ <;> cbv <;> (try (subst e; simp only [D.hcmp, and_self, and_true, true_and] <;> (repeat' apply And.intro) <;> rfl))
end Go.Proofs.Ytmofhbedamjblaa
end
section
namespace Go.Proofs.Ytmofhbedamjblaa
open Go.Ab Go.RowKit 
set_option maxRecDepth 100000
set_option maxHeartbeats 40000000
noncomputable def d54_b1 (p8 : List V) (s18 : Int) : Option ((Int) ⊕ ((Bool) ⊕ (Unit))) :=
 if (cmpLit .lss s18 (lenI p8)) = true then
 if (Inb s18 (lenI p8)) then
 (d76 (gI p8 s18 0) 0 4611686018427387904).bind fun x23 =>
 if (notB' x23) = true then
 some (.inr (.inl false))
 else
 some (.inl (arReal .add .i64 s18 1))
 else none
 else
 some (.inr (.inr ()))
noncomputable def d54 (a0_0 : ByteArray) (a0_1 : Int) (a0_2 : List V) (a0_3 : List V) (a1 : List V) : Option (Bool) :=
 (d34 a0_0 a0_1 a0_2 a0_3).bind fun x2 =>
 if (cmpLit .neq (lenI a1) x2) = true then
 some false
 else
 if (Bnd 0 1 (lenI a1)) then
 Option.bind (α := List V) (
 (d31 a0_0 a0_1 a0_2 a0_3).bind fun x5 =>
 if x5 = true then
 some a1
 else
 some (subL a1 0 1)) fun y4 =>
 Option.bind (α := List V) (
 if (cmpLit .eql a0_1 2) = true then
 some []
 else
 some y4) fun y7 =>
 Option.bind (α := (Unit) ⊕ (Bool)) (
 (iter (d54_b1 y7) 0).bind fun y21 =>
 match y21 with
 | .inl p24 =>
 some (.inr p24)
 | .inr y21r0 =>
 some (.inl ())) fun y15 =>
 match y15 with
 | .inl p26 =>
 (d31 a0_0 a0_1 a0_2 a0_3).bind fun x29 =>
 if x29 = true then
 some true
 else
 if (Inb 0 (lenI a1)) then
 if (cmpLit .neq (gI a1 0 0) 0) = true then
 some true
 else
 if (cmpLit .eql a0_1 2) = true then
 some true
 else
 if (Bnd 1 (lenI a1) (lenI a1)) then
 (d79v1 (subL a1 1 (lenI a1))).bind fun x30 =>
 some (notB' x30)
 else none
 else none
 | .inr y15r0 =>
 some y15r0
 else none
noncomputable def w54_c : Code := (Try.f54.body).getD .skip
theorem w54_h : Try.f54.body = some w54_c := by kernel_rfl
theorem w54 (a0_0 : ByteArray) (a0_1 : Int) (a0_2 : List V) (a0_3 : List V) (a1 : List V) (r : Bool) (h : d54 a0_0 a0_1 a0_2 a0_3 a1 = some r) : Ab.Fn Try.prog TT 54 [.agg [.str a0_0, .i .i64 a0_1, .sl 2 a0_2, .sl 74 a0_3], .sl 2 a1] (.b r) [] := by
 refine fn_pure tok W0 Try.func54 (by kernel_rfl) w54_h (by kernel_rfl) ?_
 intro _ _ _ _ _ _ _ _ _ _ _ _ _ _ _ _ _ _ _ _ _ _ _ _ _ _ _ _ _ _ _ _ _ _ _ _ _ _ _ _ _ E R K hK
 have D := E.D
 clear E
 have S := And.intro D.har (And.intro D.hbnd (And.intro D.hcmp (And.intro D.hgi (And.intro D.hinb (And.intro D.hlen (And.intro D.hnt (D.hsub)))))))
 unfold d54 at h
 cbv
 refine R.cut' (by kernel_rfl) (by kernel_rfl) ?_
 cbv
 refine R.callD h (fun x2 hx2 h2 => ?_)
 clear h; have h := h2; clear h2
 refine R.call' (w34 _ _ _ _ _ hx2) (by first|(simp only [S]<;>rfl)|rfl) ?_
 clear hx2; cbv
 refine R.brD h (by first|(simp only [S]<;>rfl)|rfl) ?_ ?_<;>clear h<;>intro h<;>cbv
 ·have e := ret_some h; clear h
  refine hK _ _ ?_
  cbv
  try (subst e; simp only [S, and_self, and_true, true_and] <;> (repeat' apply And.intro) <;> rfl)
 ·as_aux_lemma =>
  refine R.needD h (by first|(simp only [S]<;>rfl)|rfl) ?_
  clear h; intro h; cbv
  refine R.cutB (fun p => p) (fun _ _ e => e) h [] (fun p6 => [(5, .sl 2 p6)]) (fun p6 => []) (by kernel_rfl) (by kernel_rfl) (fun y4 hy hFy4 L hLy4 => ?_) (fun p6 h2 => ?_)
  ·clear h; have h := hy; clear hy; cbv
   refine R.callD h (fun x5 hx5 h2 => ?_)
   clear h; have h := h2; clear h2
   refine R.call' (w31 _ _ _ _ _ hx5) (by first|(simp only [S]<;>rfl)|rfl) ?_
   clear hx5; cbv
   refine R.brD h (by first|(simp only [S]<;>rfl)|rfl) ?_ ?_<;>clear h<;>intro h<;>cbv
   ·obtain ⟨s', e, hi⟩ := jn_some (fun p => p) h
    refine hLy4 s' _ _ hi ⟨by kernel_rfl, ?_, ?_, by kernel_rfl, by kernel_rfl⟩<;>cbv<;>(try (subst e;simp only [S,and_self,and_true,true_and]<;>(repeat' apply And.intro)<;>rfl))
   ·obtain ⟨s', e, hi⟩ := jn_some (fun p => p) h
    refine hLy4 s' _ _ hi ⟨by kernel_rfl, ?_, ?_, by kernel_rfl, by kernel_rfl⟩<;>cbv<;>(try (subst e;simp only [S,and_self,and_true,true_and]<;>(repeat' apply And.intro)<;>rfl))
  ·as_aux_lemma =>
   clear h; have h := h2; clear h2; try dsimp only at h
   cbv
   refine R.cutB (fun p => p) (fun _ _ e => e) h [] (fun p8 => [(5, .sl 2 p8)]) (fun p8 => []) (by kernel_rfl) (by kernel_rfl) (fun y7 hy hFy7 L hLy7 => ?_) (fun p8 h2 => ?_)
   ·clear h; have h := hy; clear hy; cbv
    refine R.brD h (by first|(simp only [S]<;>rfl)|rfl) ?_ ?_<;>clear h<;>intro h<;>cbv
    ·obtain ⟨s', e, hi⟩ := jn_some (fun p => p) h
     refine hLy7 s' _ _ hi ⟨by kernel_rfl, ?_, ?_, by kernel_rfl, by kernel_rfl⟩<;>cbv<;>(try (subst e;simp only [S,and_self,and_true,true_and]<;>(repeat' apply And.intro)<;>rfl))
    ·obtain ⟨s', e, hi⟩ := jn_some (fun p => p) h
     refine hLy7 s' _ _ hi ⟨by kernel_rfl, ?_, ?_, by kernel_rfl, by kernel_rfl⟩<;>cbv<;>(try (subst e;simp only [S,and_self,and_true,true_and]<;>(repeat' apply And.intro)<;>rfl))
   ·as_aux_lemma =>
    clear h; have h := h2; clear h2; try dsimp only at h
    cbv
    refine R.cutB Sum.inl (fun _ _ e => Sum.inl.inj e) h [] (fun p26 => []) (fun p26 => []) (by kernel_rfl) (by kernel_rfl) (fun y15 hy hFy15 L hLy15 => ?_) (fun p26 h2 => ?_)
    ·clear h; have h := hy; clear hy; cbv
     refine R.loopD h (fun s0 y21 e0 hi hFs18 => ?_)
     clear h
     refine R.loopI hi [] (fun s18 => [(24, .i .i64 s18)]) (fun s18 => []) ⟨by kernel_rfl, ?_, ?_, by kernel_rfl, by kernel_rfl⟩ (by kernel_rfl) ?_
     ·cbv; try (subst e0; simp only [S, and_self, and_true, true_and] <;> (repeat' apply And.intro) <;> rfl)
     ·cbv; try (subst e0; simp only [S, and_self, and_true, true_and] <;> (repeat' apply And.intro) <;> rfl)
     clear hi e0
     intro s18 m y' hy hins18 houts18 L hLs18
     have h := hy; clear hy; unfold d54_b1 at h
     cbv
     refine R.cut' (by kernel_rfl) (by kernel_rfl) ?_
     cbv
     refine R.brD h (by first|(simp only [S]<;>rfl)|rfl) ?_ ?_<;>clear h<;>intro h<;>cbv
     ·refine R.cut' (by kernel_rfl) (by kernel_rfl) ?_
      cbv
      refine R.needD h (by first|(simp only [S]<;>rfl)|rfl) ?_
      clear h; intro h; cbv
      refine R.callD h (fun x23 hx23 h2 => ?_)
      clear h; have h := h2; clear h2
      refine R.call' (w76 _ _ _ _ hx23) (by first|(simp only [S]<;>rfl)|rfl) ?_
      clear hx23; cbv
      refine R.brD h (by first|(simp only [S]<;>rfl)|rfl) ?_ ?_<;>clear h<;>intro h<;>cbv
      ·have e := inr_some h houts18; clear h
       have h := hFs18; rw [e] at h; clear e; try dsimp only at h
       cbv
       have e := ret_some h; clear h
       have h := hFy15; rw [e] at h; clear e; try dsimp only at h
       cbv
       have e := ret_some h; clear h
       refine hK _ _ ?_
       cbv
       try (subst e; simp only [S, and_self, and_true, true_and] <;> (repeat' apply And.intro) <;> rfl)
      ·obtain ⟨s', e, hi⟩ := inl_some h hins18
       refine hLs18 s' _ _ hi ⟨by kernel_rfl, ?_, ?_, by kernel_rfl, by kernel_rfl⟩<;>cbv<;>(try (subst e;simp only [S,and_self,and_true,true_and]<;>(repeat' apply And.intro)<;>rfl))
     ·have e := inr_some h houts18; clear h
      have h := hFs18; rw [e] at h; clear e; try dsimp only at h
      cbv
      obtain ⟨s', e, hi⟩ := jn_some Sum.inl h
      refine hLy15 s' _ _ hi ⟨by kernel_rfl, ?_, ?_, by kernel_rfl, by kernel_rfl⟩<;>cbv<;>(try (subst e;simp only [S,and_self,and_true,true_and]<;>(repeat' apply And.intro)<;>rfl))
    ·clear h; have h := h2; clear h2; try dsimp only at h
     cbv
     refine R.cut' (by kernel_rfl) (by kernel_rfl) ?_
     cbv
     refine R.callD h (fun x29 hx29 h2 => ?_)
     clear h; have h := h2; clear h2
     refine R.call' (w31 _ _ _ _ _ hx29) (by first|(simp only [S]<;>rfl)|rfl) ?_
     clear hx29; cbv
     refine R.brD h (by first|(simp only [S]<;>rfl)|rfl) ?_ ?_<;>clear h<;>intro h<;>cbv
     ·have e := ret_some h; clear h
      refine hK _ _ ?_
      cbv
      try (subst e; simp only [S, and_self, and_true, true_and] <;> (repeat' apply And.intro) <;> rfl)
     ·refine R.needD h (by first|(simp only [S]<;>rfl)|rfl) ?_
      clear h; intro h; cbv
      refine R.brD h (by first|(simp only [S]<;>rfl)|rfl) ?_ ?_<;>clear h<;>intro h<;>cbv
      ·have e := ret_some h; clear h
       refine hK _ _ ?_
       cbv
       try (subst e; simp only [S, and_self, and_true, true_and] <;> (repeat' apply And.intro) <;> rfl)
      ·refine R.brD h (by first|(simp only [S]<;>rfl)|rfl) ?_ ?_<;>clear h<;>intro h<;>cbv
       ·have e := ret_some h; clear h
        refine hK _ _ ?_
        cbv
        try (subst e; simp only [S, and_self, and_true, true_and] <;> (repeat' apply And.intro) <;> rfl)
       ·refine R.needD h (by first|(simp only [S]<;>rfl)|rfl) ?_
        clear h; intro h; cbv
        refine R.callBD h (fun x30 hx30 h2 => ?_)
        clear h; have h := h2; clear h2
        obtain ⟨bx30_0, ex30_0, hbx30⟩ : ∃ bx30_0, bx30_0 = (subL a1 1 (lenI a1)) ∧ d79v1 bx30_0 = some x30 := ⟨_, rfl, hx30⟩
        clear hx30; have hx30 := hbx30; clear hbx30
        refine R.callB [(900000, 128)] (w79v1 bx30_0 _ hx30) ?_ ?_ rfl ?_
        ·cbv <;> (try simp only [S, ex30_0, and_self, and_true, true_and] <;> (repeat' apply And.intro) <;> rfl)
        ·cbv <;> (try simp only [S, ex30_0, and_self, and_true, true_and] <;> (repeat' apply And.intro) <;> rfl)
        clear hx30; cbv
        have e := ret_some h; clear h
        refine hK _ _ ?_
        cbv
        try (subst e; simp only [S, ex30_0, and_self, and_true, true_and] <;> (repeat' apply And.intro) <;> rfl)
noncomputable def d25 (a0_0 : ByteArray) (a0_1 : Int) (a0_2 : List V) (a0_3 : List V) (a1 : List V) : Option (Int) :=
 (d22 a0_0 a0_1 a0_2 a0_3).bind fun x2 =>
 if (cmpLit .neq x2 0) = true then
 some x2
 else
 (d54 a0_0 a0_1 a0_2 a0_3 a1).bind fun x4 =>
 if (notB' x4) = true then
 some 211
 else
 some 0
noncomputable def w25_c : Code := (Try.f25.body).getD .skip
theorem w25_h : Try.f25.body = some w25_c := by kernel_rfl
theorem w25 (a0_0 : ByteArray) (a0_1 : Int) (a0_2 : List V) (a0_3 : List V) (a1 : List V) (r : Int) (h : d25 a0_0 a0_1 a0_2 a0_3 a1 = some r) : Ab.Fn Try.prog TT 25 [.agg [.str a0_0, .i .i64 a0_1, .sl 2 a0_2, .sl 74 a0_3], .sl 2 a1] (.i .i64 r) [] := by
 refine fn_pure tok W0 Try.func25 (by kernel_rfl) w25_h (by kernel_rfl) ?_
 intro _ _ _ _ _ _ _ _ _ _ _ _ _ _ _ _ _ _ _ _ _ _ _ _ _ _ _ _ _ _ _ _ _ _ _ _ _ _ _ _ _ E R K hK
 have D := E.D
 clear E
 have S := And.intro D.hcmp (D.hnt)
 unfold d25 at h
 cbv
 refine R.cut' (by kernel_rfl) (by kernel_rfl) ?_
 cbv
 refine R.callD h (fun x2 hx2 h2 => ?_)
 clear h; have h := h2; clear h2
 refine R.call' (w22 _ _ _ _ _ hx2) (by first|(simp only [S]<;>rfl)|rfl) ?_
 clear hx2; cbv
 refine R.brD h (by first|(simp only [S]<;>rfl)|rfl) ?_ ?_<;>clear h<;>intro h<;>cbv
 ·have e := ret_some h; clear h
  refine hK _ _ ?_
  cbv
  try (subst e; simp only [S, and_self, and_true, true_and] <;> (repeat' apply And.intro) <;> rfl)
 ·refine R.cut' (by kernel_rfl) (by kernel_rfl) ?_
  cbv
  refine R.callD h (fun x4 hx4 h2 => ?_)
  clear h; have h := h2; clear h2
  refine R.call' (w54 _ _ _ _ _ _ hx4) (by first|(simp only [S]<;>rfl)|rfl) ?_
  clear hx4; cbv
  refine R.brD h (by first|(simp only [S]<;>rfl)|rfl) ?_ ?_<;>clear h<;>intro h<;>cbv
  ·have e := ret_some h; clear h
   refine hK _ _ ?_
   cbv
   try (subst e; simp only [S, and_self, and_true, true_and] <;> (repeat' apply And.intro) <;> rfl)
  ·have e := ret_some h; clear h
   refine hK _ _ ?_
   cbv
   try (subst e; simp only [S, and_self, and_true, true_and] <;> (repeat' apply And.intro) <;> rfl)
noncomputable def d37_b1 (a0_0 : ByteArray) (a0_1 : Int) (a0_2 : List V) (a0_3 : List V) (a1 : List V) (s10 : Int) : Option ((Int) ⊕ ((Int) ⊕ (Unit))) :=
 if (cmpLit .lss s10 (lenI a1)) = true then
 if (Inb s10 (lenI a1)) then
 (d25 a0_0 a0_1 a0_2 a0_3 (gL a1 s10 0)).bind fun x15 =>
 if (cmpLit .neq x15 0) = true then
 some (.inr (.inl x15))
 else
 some (.inl (arReal .add .i64 s10 1))
 else none
 else
 some (.inr (.inr ()))
noncomputable def d37 (a0_0 : ByteArray) (a0_1 : Int) (a0_2 : List V) (a0_3 : List V) (a1 : List V) : Option (Int) :=
 Option.bind (α := (Unit) ⊕ (Int)) (
 (iter (d37_b1 a0_0 a0_1 a0_2 a0_3 a1) 0).bind fun y13 =>
 match y13 with
 | .inl p16 =>
 some (.inr p16)
 | .inr y13r0 =>
 some (.inl ())) fun y7 =>
 match y7 with
 | .inl p18 =>
 (d22 a0_0 a0_1 a0_2 a0_3).bind fun x19 =>
 some x19
 | .inr y7r0 =>
 some y7r0
noncomputable def w37_c : Code := (Try.f37.body).getD .skip
theorem w37_h : Try.f37.body = some w37_c := by kernel_rfl
theorem w37 (a0_0 : ByteArray) (a0_1 : Int) (a0_2 : List V) (a0_3 : List V) (a1 : List V) (r : Int) (h : d37 a0_0 a0_1 a0_2 a0_3 a1 = some r) : Ab.Fn Try.prog TT 37 [.agg [.str a0_0, .i .i64 a0_1, .sl 2 a0_2, .sl 74 a0_3], .sl 22 a1] (.i .i64 r) [] := by
 refine fn_pure tok W0 Try.func37 (by kernel_rfl) w37_h (by kernel_rfl) ?_
 intro _ _ _ _ _ _ _ _ _ _ _ _ _ _ _ _ _ _ _ _ _ _ _ _ _ _ _ _ _ _ _ _ _ _ _ _ _ _ _ _ _ E R K hK
 have D := E.D
 clear E
 have S := And.intro D.har (And.intro D.hcmp (And.intro D.hgl (And.intro D.hinb (D.hlen))))
 unfold d37 at h
 cbv
 refine R.cutB Sum.inl (fun _ _ e => Sum.inl.inj e) h [] (fun p18 => []) (fun p18 => []) (by kernel_rfl) (by kernel_rfl) (fun y7 hy hFy7 L hLy7 => ?_) (fun p18 h2 => ?_)
 ·clear h; have h := hy; clear hy; cbv
  refine R.loopD h (fun s0 y13 e0 hi hFs10 => ?_)
  clear h
  refine R.loopI hi [] (fun s10 => [(10, .i .i64 s10)]) (fun s10 => []) ⟨by kernel_rfl, ?_, ?_, by kernel_rfl, by kernel_rfl⟩ (by kernel_rfl) ?_
  ·cbv; try (subst e0; simp only [S, and_self, and_true, true_and] <;> (repeat' apply And.intro) <;> rfl)
  ·cbv; try (subst e0; simp only [S, and_self, and_true, true_and] <;> (repeat' apply And.intro) <;> rfl)
  clear hi e0
  intro s10 m y' hy hins10 houts10 L hLs10
  have h := hy; clear hy; unfold d37_b1 at h
  cbv
  refine R.cut' (by kernel_rfl) (by kernel_rfl) ?_
  cbv
  refine R.brD h (by first|(simp only [S]<;>rfl)|rfl) ?_ ?_<;>clear h<;>intro h<;>cbv
  ·refine R.cut' (by kernel_rfl) (by kernel_rfl) ?_
   cbv
   refine R.needD h (by first|(simp only [S]<;>rfl)|rfl) ?_
   clear h; intro h; cbv
   refine R.callD h (fun x15 hx15 h2 => ?_)
   clear h; have h := h2; clear h2
   refine R.call' (w25 _ _ _ _ _ _ hx15) (by first|(simp only [S]<;>rfl)|rfl) ?_
   clear hx15; cbv
   refine R.brD h (by first|(simp only [S]<;>rfl)|rfl) ?_ ?_<;>clear h<;>intro h<;>cbv
   ·have e := inr_some h houts10; clear h
    have h := hFs10; rw [e] at h; clear e; try dsimp only at h
    cbv
    have e := ret_some h; clear h
    have h := hFy7; rw [e] at h; clear e; try dsimp only at h
    cbv
    have e := ret_some h; clear h
    refine hK _ _ ?_
    cbv
    try (subst e; simp only [S, and_self, and_true, true_and] <;> (repeat' apply And.intro) <;> rfl)
   ·obtain ⟨s', e, hi⟩ := inl_some h hins10
    refine hLs10 s' _ _ hi ⟨by kernel_rfl, ?_, ?_, by kernel_rfl, by kernel_rfl⟩<;>cbv<;>(try (subst e;simp only [S,and_self,and_true,true_and]<;>(repeat' apply And.intro)<;>rfl))
  ·have e := inr_some h houts10; clear h
   have h := hFs10; rw [e] at h; clear e; try dsimp only at h
   cbv
   obtain ⟨s', e, hi⟩ := jn_some Sum.inl h
   refine hLy7 s' _ _ hi ⟨by kernel_rfl, ?_, ?_, by kernel_rfl, by kernel_rfl⟩<;>cbv<;>(try (subst e;simp only [S,and_self,and_true,true_and]<;>(repeat' apply And.intro)<;>rfl))
 ·clear h; have h := h2; clear h2; try dsimp only at h
  cbv
  refine R.callD h (fun x19 hx19 h2 => ?_)
  clear h; have h := h2; clear h2
  refine R.call' (w22 _ _ _ _ _ hx19) (by first|(simp only [S]<;>rfl)|rfl) ?_
  clear hx19; cbv
  have e := ret_some h; clear h
  refine hK _ _ ?_
  cbv
  try (subst e; simp only [S, and_self, and_true, true_and] <;> (repeat' apply And.intro) <;> rfl)
noncomputable def d123v2 (a0 : ByteArray) (a1 : Int) (a2 : List V) (a3 : List V) (a4 : Int) (a5 : Int) (a6 : List V) : Option (Bool × List V) :=
 if (Inb a4 (lenI a6)) then
 if (cmpLit .gtr (gI a6 a4 0) (arReal .sub .i64 4611686018427387904 a5)) = true then
 some (false, a6)
 else
 if (Inb a4 (lenI a6)) then
 if (Inb a4 (lenI a6)) then
 some (true, (putL a6 a4 0 [.i .i64 (arReal .add .i64 (gI a6 a4 0) a5)]))
 else none
 else none
 else none
noncomputable def w123v2_c : Code := (Try.f123.body).getD .skip
theorem w123v2_h : Try.f123.body = some w123v2_c := by kernel_rfl
theorem w123v2 (a0 : ByteArray) (a1 : Int) (a2 : List V) (a3 : List V) (a4 : Int) (a5 : Int) (a6 : List V) (r : Bool × List V) (h : d123v2 a0 a1 a2 a3 a4 a5 a6 = some r) : Ab.FnB Try.prog TT 123 [.agg [.str a0, .i .i64 a1, .sl 2 a2, .sl 74 a3, .row 900000], .i .i64 a4, .i .i64 a5] [(900000, .row 2 a6)] [900000] (.b r.1) [(900000, .row 2 r.2)] := by
 refine fnb_rules tok W0 [900000] [.b r.1] [(900000, .row 2 r.2)] [] Try.func123 (by kernel_rfl) w123v2_h (by kernel_rfl) (by rfl) ?_
 intro _ _ _ _ _ _ _ _ _ _ _ _ _ _ _ _ _ _ _ _ _ _ _ _ _ _ _ _ _ _ _ _ _ _ _ _ _ _ _ _ _ E R K hK
 have D := E.D
 clear E
 have S := And.intro D.har (And.intro D.hcmp (And.intro D.hgi (And.intro D.hinb (And.intro D.hlen (D.hput)))))
 unfold d123v2 at h
 cbv
 refine R.cut' (by kernel_rfl) (by kernel_rfl) ?_
 cbv
 refine R.needD h (by first|(simp only [S]<;>rfl)|rfl) ?_
 clear h; intro h; cbv
 refine R.brD h (by first|(simp only [S]<;>rfl)|rfl) ?_ ?_<;>clear h<;>intro h<;>cbv
 ·have e := ret_some h; clear h
  refine hK _ _ ⟨by kernel_rfl, ?_, ?_, by kernel_rfl, by kernel_rfl⟩<;>cbv<;>(try (subst e;simp only [S,and_self,and_true,true_and]<;>(repeat' apply And.intro)<;>rfl))
 ·refine R.needD h (by first|(simp only [S]<;>rfl)|rfl) ?_
  clear h; intro h; cbv
  refine R.needD h (by first|(simp only [S]<;>rfl)|rfl) ?_
  clear h; intro h; cbv
  have e := ret_some h; clear h
  refine hK _ _ ⟨by kernel_rfl, ?_, ?_, by kernel_rfl, by kernel_rfl⟩<;>cbv<;>(try (subst e;simp only [S,and_self,and_true,true_and]<;>(repeat' apply And.intro)<;>rfl))
noncomputable def d93v2 (a0 : ByteArray) (a1 : Int) (a2 : List V) (a3 : List V) (a4 : Int) (a5 : List V) : Option (Bool × List V) :=
 (d123v2 a0 a1 a2 a3 0 1 a5).bind fun x2 =>
 some (x2.1, x2.2)
noncomputable def w93v2_c : Code := (Try.f93.body).getD .skip
theorem w93v2_h : Try.f93.body = some w93v2_c := by kernel_rfl
theorem w93v2 (a0 : ByteArray) (a1 : Int) (a2 : List V) (a3 : List V) (a4 : Int) (a5 : List V) (r : Bool × List V) (h : d93v2 a0 a1 a2 a3 a4 a5 = some r) : Ab.FnB Try.prog TT 93 [.agg [.str a0, .i .i64 a1, .sl 2 a2, .sl 74 a3, .row 900000], .i .i64 a4] [(900000, .row 2 a5)] [900000] (.b r.1) [(900000, .row 2 r.2)] := by
 refine fnb_rules tok W0 [900000] [.b r.1] [(900000, .row 2 r.2)] [] Try.func93 (by kernel_rfl) w93v2_h (by kernel_rfl) (by rfl) ?_
 intro ar un cv mn mx pl mi cmp nt beq an scmp cat slen sbyte ssub ofB toB len gi gb gs gl sub put app ovl rep ne0 ge0 inb bnd room sroom need br call callb loop cut nl E R K hK
 have D := E.D
 clear E
 unfold d93v2 at h
 cbv
 refine R.callBD h (fun x2 hx2 h2 => ?_)
 clear h; have h := h2; clear h2
 refine R.callB [(900000, 900000)] (w123v2 a0 a1 a2 a3 0 1 a5 _ hx2) ?_ ?_ rfl ?_
 ·cbv <;> (try simp only [and_self, and_true, true_and] <;> (repeat' apply And.intro) <;> rfl)
 ·cbv <;> (try simp only [and_self, and_true, true_and] <;> (repeat' apply And.intro) <;> rfl)
 clear hx2; cbv
 have e := ret_some h; clear h
 refine hK _ _ ⟨by kernel_rfl, ?_, ?_, by kernel_rfl, by kernel_rfl⟩ <;> cbv <;> (try (subst e; simp only [and_self, and_true, true_and] <;> (repeat' apply And.intro) <;> rfl))
noncomputable def d96v1 (a0 : ByteArray) (a1 : Int) (a2 : List V) (a3 : List V) (a4 : Int) (a5 : List V) : Option (List V) :=
 if (Inb 0 (lenI a5)) then
 if (Inb 0 (lenI a5)) then
 some (putL a5 0 0 [.i .i64 (arReal .add .i64 (gI a5 0 0) a4)])
 else none
 else none
noncomputable def w96v1_c : Code := (Try.f96.body).getD .skip
theorem w96v1_h : Try.f96.body = some w96v1_c := by kernel_rfl
theorem w96v1 (a0 : ByteArray) (a1 : Int) (a2 : List V) (a3 : List V) (a4 : Int) (a5 : List V) (r : List V) (h : d96v1 a0 a1 a2 a3 a4 a5 = some r) : Ab.FnB Try.prog TT 96 [.agg [.str a0, .i .i64 a1, .sl 2 a2, .sl 74 a3, .row 900000], .i .i64 a4] [(900000, .row 2 a5)] [900000] (.b true) [(900000, .row 2 r)] := by
 refine fnb_rules tok W0 [900000] [.b true] [(900000, .row 2 r)] [] Try.func96 (by kernel_rfl) w96v1_h (by kernel_rfl) (by rfl) ?_
 intro _ _ _ _ _ _ _ _ _ _ _ _ _ _ _ _ _ _ _ _ _ _ _ _ _ _ _ _ _ _ _ _ _ _ _ _ _ _ _ _ _ E R K hK
 have D := E.D
 clear E
 have S := And.intro D.har (And.intro D.hgi (And.intro D.hinb (And.intro D.hlen (D.hput))))
 unfold d96v1 at h
 cbv
 refine R.needD h (by first|(simp only [S]<;>rfl)|rfl) ?_
 clear h; intro h; cbv
 refine R.needD h (by first|(simp only [S]<;>rfl)|rfl) ?_
 clear h; intro h; cbv
 have e := ret_some h; clear h
 refine hK _ _ ⟨by kernel_rfl, ?_, ?_, by kernel_rfl, by kernel_rfl⟩<;>cbv<;>(try (subst e;simp only [S,and_self,and_true,true_and]<;>(repeat' apply And.intro)<;>rfl))
end Go.Proofs.Ytmofhbedamjblaa
end
section
namespace Go.Proofs.Ytmofhbedamjblaa
open Go.Ab Go.RowKit 
set_option maxRecDepth 100000
set_option maxHeartbeats 40000000
noncomputable def d99v1 (a0 : ByteArray) (a1 : Int) (a2 : List V) (a3 : List V) (a4 : ByteArray) (a5 : Int) (a6 : List V) (a7 : List V) (a8 : List V) (a9 : List V) : Option (Bool × List V) :=
 Option.bind (α := Bool) (
 if (Inb 0 (lenI a9)) then
 if (cmpLit .gtr (gI a9 0 0) 0) = true then
 if (Inb 0 (lenI a8)) then
 if (cmpLit .eql (gI a8 0 0) 0) = true then
 some true
 else
 if (Inb 1 (lenI a9)) then
 if (Inb 1 (lenI a8)) then
 some (cmpLit .lss (gI a9 1 0) (gI a8 1 0))
 else none
 else none
 else none
 else
 some false
 else none) fun y9 =>
 if y9 = true then
 if (Inb 1 (lenI a9)) then
 if (Inb 1 (lenI a8)) then
 if (Inb 0 (lenI a9)) then
 (d123v2 a0 a1 a2 a3 0 (gI a9 0 0) (putL a8 1 0 [.i .i64 (gI a9 1 0)])).bind fun x11 =>
 some (x11.1, x11.2)
 else none
 else none
 else none
 else
 if (Inb 0 (lenI a9)) then
 (d123v2 a0 a1 a2 a3 0 (gI a9 0 0) a8).bind fun x12 =>
 some (x12.1, x12.2)
 else none
noncomputable def w99v1_c : Code := (Try.f99.body).getD .skip
theorem w99v1_h : Try.f99.body = some w99v1_c := by kernel_rfl
theorem w99v1 (a0 : ByteArray) (a1 : Int) (a2 : List V) (a3 : List V) (a4 : ByteArray) (a5 : Int) (a6 : List V) (a7 : List V) (a8 : List V) (a9 : List V) (r : Bool × List V) (h : d99v1 a0 a1 a2 a3 a4 a5 a6 a7 a8 a9 = some r) : Ab.FnB Try.prog TT 99 [.agg [.str a0, .i .i64 a1, .sl 2 a2, .sl 74 a3, .row 900000], .agg [.str a4, .i .i64 a5, .sl 2 a6, .sl 74 a7, .row 900100]] [(900000, .row 2 a8), (900100, .row 2 a9)] [900000,900100] (.b r.1) [(900000, .row 2 r.2), (900100, .row 2 a9)] := by
 refine fnb_rules tok (fun r => match r with | 1 => [[],[0],[0,1],[0,1,2],[0,1,2,3],[0,1,2,3,4],[0,1,2,3,4,5],[0,1,2,3,4,5,6],[0,1,2,3,4,5,6,7],[0,1,2,3,4,5,6,7,8],[0,1,2,3,4,5,6,7,8,9],[0,1,2,3,4,5,6,7,8,9,10],[0,1,2,3,4,5,6,7,8,9,10,11],[0,1,2,3,4,5,6,7,8,9,10,11,12],[0,1,2,3,4,5,6,7,8,9,10,11,12,13],[0,1,2,3,4,5,6,7,8,9,10,11,12,13,14],[0,1,2,3,4,5,6,7,8,9,10,11],[0,1,2,3,4,5,6,7,8,9,10,11,16],[0,1,2,3,4,5,6,7,8,9,10,11,16,17],[0,1,2,3,4,5,6,7,8,9,10,11,16,17,18],[0,1,2,3,4,5,6,7,8,9,10,11,12,13,14,15,16,17,18,19],[0,1,2,3,4,5,6,7,8,9,10,11,12,13,14,15,16,17,18,19,20],[0,1,2,3,4,5,6,7,8,9,10,11,12,13,14,15,16,17,18,19,20,21]] | 2 => [[],[0],[],[2],[2,3],[2,3,4],[0,1,2,3,4,5],[0,1,2,3,4,5,6]] | 3 => [[],[],[1],[1,2],[1,2,3],[0,1,2,3,4],[0,1,2,3,4,5]] | _ => []) [900000,900100] [.b r.1] [(900000, .row 2 r.2), (900100, .row 2 a9)] [] Try.func99 (by kernel_rfl) w99v1_h (by kernel_rfl) (by rfl) ?_
 intro _ _ _ _ _ _ _ _ _ _ _ _ _ _ _ _ _ _ _ _ _ _ _ _ _ _ _ _ _ _ _ _ _ _ _ _ _ _ _ _ _ E R K hK
 have D := E.D
 clear E
 have S := And.intro D.hcmp (And.intro D.hgi (And.intro D.hinb (And.intro D.hlen (D.hput))))
 unfold d99v1 at h
 cbv
 refine R.cut' (by kernel_rfl) (by kernel_rfl) ?_
 cbv
 refine R.cutB (fun p => p) (fun _ _ e => e) h [] (fun p10 => [(27, .b p10)]) (fun p10 => []) (by kernel_rfl) (by kernel_rfl) (fun y9 hy hFy9 L hLy9 => ?_) (fun p10 h2 => ?_)
 ·clear h; have h := hy; clear hy; cbv
  refine R.needD h (by first|(simp only [S]<;>rfl)|rfl) ?_
  clear h; intro h; cbv
  refine R.brD h (by first|(simp only [S]<;>rfl)|rfl) ?_ ?_<;>clear h<;>intro h<;>cbv
  ·refine R.needD h (by first|(simp only [S]<;>rfl)|rfl) ?_
   clear h; intro h; cbv
   refine R.brD h (by first|(simp only [S]<;>rfl)|rfl) ?_ ?_<;>clear h<;>intro h<;>cbv
   ·obtain ⟨s', e, hi⟩ := jn_some (fun p => p) h
    refine hLy9 s' _ _ hi ⟨by kernel_rfl, ?_, ?_, by kernel_rfl, by kernel_rfl⟩<;>cbv<;>(try (subst e;simp only [S,and_self,and_true,true_and]<;>(repeat' apply And.intro)<;>rfl))
   ·refine R.needD h (by first|(simp only [S]<;>rfl)|rfl) ?_
    clear h; intro h; cbv
    refine R.needD h (by first|(simp only [S]<;>rfl)|rfl) ?_
    clear h; intro h; cbv
    obtain ⟨s', e, hi⟩ := jn_some (fun p => p) h
    refine hLy9 s' _ _ hi ⟨by kernel_rfl, ?_, ?_, by kernel_rfl, by kernel_rfl⟩<;>cbv<;>(try (subst e;simp only [S,and_self,and_true,true_and]<;>(repeat' apply And.intro)<;>rfl))
  ·obtain ⟨s', e, hi⟩ := jn_some (fun p => p) h
   refine hLy9 s' _ _ hi ⟨by kernel_rfl, ?_, ?_, by kernel_rfl, by kernel_rfl⟩<;>cbv<;>(try (subst e;simp only [S,and_self,and_true,true_and]<;>(repeat' apply And.intro)<;>rfl))
 ·clear h; have h := h2; clear h2; try dsimp only at h
  cbv
  refine R.brD h (by first|(simp only [S]<;>rfl)|rfl) ?_ ?_<;>clear h<;>intro h<;>cbv
  ·refine R.needD h (by first|(simp only [S]<;>rfl)|rfl) ?_
   clear h; intro h; cbv
   refine R.needD h (by first|(simp only [S]<;>rfl)|rfl) ?_
   clear h; intro h; cbv
   refine R.needD h (by first|(simp only [S]<;>rfl)|rfl) ?_
   clear h; intro h; cbv
   refine R.callBD h (fun x11 hx11 h2 => ?_)
   clear h; have h := h2; clear h2
   obtain ⟨bx11_5, ex11_5, bx11_6, ex11_6, hbx11⟩ : ∃ bx11_5, bx11_5 = (gI a9 0 0) ∧ ∃ bx11_6, bx11_6 = (putL a8 1 0 [.i .i64 (gI a9 1 0)]) ∧ d123v2 a0 a1 a2 a3 0 bx11_5 bx11_6 = some x11 := ⟨_, rfl, _, rfl, hx11⟩
   clear hx11; have hx11 := hbx11; clear hbx11
   refine R.callB [(900000, 900000)] (w123v2 a0 a1 a2 a3 0 bx11_5 bx11_6 _ hx11) ?_ ?_ rfl ?_
   ·cbv <;> (try simp only [S, ex11_5, ex11_6, and_self, and_true, true_and] <;> (repeat' apply And.intro) <;> rfl)
   ·cbv <;> (try simp only [S, ex11_5, ex11_6, and_self, and_true, true_and] <;> (repeat' apply And.intro) <;> rfl)
   clear hx11; cbv
   have e := ret_some h; clear h
   refine hK _ _ ⟨by kernel_rfl, ?_, ?_, by kernel_rfl, by kernel_rfl⟩ <;> cbv <;> (try (subst e; simp only [S, ex11_5, ex11_6, and_self, and_true, true_and] <;> (repeat' apply And.intro) <;> rfl))
  ·refine R.needD h (by first|(simp only [S]<;>rfl)|rfl) ?_
   clear h; intro h; cbv
   refine R.callBD h (fun x12 hx12 h2 => ?_)
   clear h; have h := h2; clear h2
   obtain ⟨bx12_5, ex12_5, hbx12⟩ : ∃ bx12_5, bx12_5 = (gI a9 0 0) ∧ d123v2 a0 a1 a2 a3 0 bx12_5 a8 = some x12 := ⟨_, rfl, hx12⟩
   clear hx12; have hx12 := hbx12; clear hbx12
   refine R.callB [(900000, 900000)] (w123v2 a0 a1 a2 a3 0 bx12_5 a8 _ hx12) ?_ ?_ rfl ?_
   ·cbv <;> (try simp only [S, ex12_5, and_self, and_true, true_and] <;> (repeat' apply And.intro) <;> rfl)
   ·cbv <;> (try simp only [S, ex12_5, and_self, and_true, true_and] <;> (repeat' apply And.intro) <;> rfl)
   clear hx12; cbv
   have e := ret_some h; clear h
   refine hK _ _ ⟨by kernel_rfl, ?_, ?_, by kernel_rfl, by kernel_rfl⟩ <;> cbv <;> (try (subst e; simp only [S, ex12_5, and_self, and_true, true_and] <;> (repeat' apply And.intro) <;> rfl))
noncomputable def d98v1 (a0 : ByteArray) (a1 : Int) (a2 : List V) (a3 : List V) (a4 : Int) (a5 : List V) : Option (Bool × List V) :=
 (d99v1 a0 a1 a2 a3 a0 a1 a2 a3 a5 [.i .i64 1, .i .i64 a4]).bind fun x2 =>
 some (x2.1, x2.2)
noncomputable def w98v1_c : Code := (Try.f98.body).getD .skip
theorem w98v1_h : Try.f98.body = some w98v1_c := by kernel_rfl
theorem w98v1 (a0 : ByteArray) (a1 : Int) (a2 : List V) (a3 : List V) (a4 : Int) (a5 : List V) (r : Bool × List V) (h : d98v1 a0 a1 a2 a3 a4 a5 = some r) : Ab.FnB Try.prog TT 98 [.agg [.str a0, .i .i64 a1, .sl 2 a2, .sl 74 a3, .row 900000], .i .i64 a4] [(900000, .row 2 a5)] [900000] (.b r.1) [(900000, .row 2 r.2)] := by
 refine fnb_rules tok W0 [900000] [.b r.1] [(900000, .row 2 r.2)] [] Try.func98 (by kernel_rfl) w98v1_h (by kernel_rfl) (by rfl) ?_
 intro ar un cv mn mx pl mi cmp nt beq an scmp cat slen sbyte ssub ofB toB len gi gb gs gl sub put app ovl rep ne0 ge0 inb bnd room sroom need br call callb loop cut nl E R K hK
 have D := E.D
 clear E
 unfold d98v1 at h
 cbv
 refine R.callBD h (fun x2 hx2 h2 => ?_)
 clear h; have h := h2; clear h2
 obtain ⟨bx2_9, ex2_9, hbx2⟩ : ∃ bx2_9, bx2_9 = [.i .i64 1, .i .i64 a4] ∧ d99v1 a0 a1 a2 a3 a0 a1 a2 a3 a5 bx2_9 = some x2 := ⟨_, rfl, hx2⟩
 clear hx2; have hx2 := hbx2; clear hbx2
 refine R.callB [(900000, 900000), (900100, 144)] (w99v1 a0 a1 a2 a3 a0 a1 a2 a3 a5 bx2_9 _ hx2) ?_ ?_ rfl ?_
 ·cbv <;> (try simp only [ex2_9, and_self, and_true, true_and] <;> (repeat' apply And.intro) <;> rfl)
 ·cbv <;> (try simp only [ex2_9, and_self, and_true, true_and] <;> (repeat' apply And.intro) <;> rfl)
 clear hx2; cbv
 have e := ret_some h; clear h
 refine hK _ _ ⟨by kernel_rfl, ?_, ?_, by kernel_rfl, by kernel_rfl⟩ <;> cbv <;> (try (subst e; simp only [ex2_9, and_self, and_true, true_and] <;> (repeat' apply And.intro) <;> rfl))
noncomputable def d102v1 (a0 : ByteArray) (a1 : Int) (a2 : List V) (a3 : List V) (a4 : ByteArray) (a5 : Int) (a6 : List V) (a7 : List V) (a8 : List V) (a9 : List V) : Option (Bool × List V) :=
 Option.bind (α := Bool) (
 if (Inb 0 (lenI a9)) then
 if (cmpLit .gtr (gI a9 0 0) 0) = true then
 if (Inb 0 (lenI a8)) then
 if (cmpLit .eql (gI a8 0 0) 0) = true then
 some true
 else
 if (Inb 1 (lenI a9)) then
 if (Inb 1 (lenI a8)) then
 some (cmpLit .gtr (gI a9 1 0) (gI a8 1 0))
 else none
 else none
 else none
 else
 some false
 else none) fun y9 =>
 if y9 = true then
 if (Inb 1 (lenI a9)) then
 if (Inb 1 (lenI a8)) then
 if (Inb 0 (lenI a9)) then
 (d123v2 a0 a1 a2 a3 0 (gI a9 0 0) (putL a8 1 0 [.i .i64 (gI a9 1 0)])).bind fun x11 =>
 some (x11.1, x11.2)
 else none
 else none
 else none
 else
 if (Inb 0 (lenI a9)) then
 (d123v2 a0 a1 a2 a3 0 (gI a9 0 0) a8).bind fun x12 =>
 some (x12.1, x12.2)
 else none
noncomputable def w102v1_c : Code := (Try.f102.body).getD .skip
theorem w102v1_h : Try.f102.body = some w102v1_c := by kernel_rfl
theorem w102v1 (a0 : ByteArray) (a1 : Int) (a2 : List V) (a3 : List V) (a4 : ByteArray) (a5 : Int) (a6 : List V) (a7 : List V) (a8 : List V) (a9 : List V) (r : Bool × List V) (h : d102v1 a0 a1 a2 a3 a4 a5 a6 a7 a8 a9 = some r) : Ab.FnB Try.prog TT 102 [.agg [.str a0, .i .i64 a1, .sl 2 a2, .sl 74 a3, .row 900000], .agg [.str a4, .i .i64 a5, .sl 2 a6, .sl 74 a7, .row 900100]] [(900000, .row 2 a8), (900100, .row 2 a9)] [900000,900100] (.b r.1) [(900000, .row 2 r.2), (900100, .row 2 a9)] := by
 refine fnb_rules tok (fun r => match r with | 1 => [[],[0],[0,1],[0,1,2],[0,1,2,3],[0,1,2,3,4],[0,1,2,3,4,5],[0,1,2,3,4,5,6],[0,1,2,3,4,5,6,7],[0,1,2,3,4,5,6,7,8],[0,1,2,3,4,5,6,7,8,9],[0,1,2,3,4,5,6,7,8,9,10],[0,1,2,3,4,5,6,7,8,9,10,11],[0,1,2,3,4,5,6,7,8,9,10,11,12],[0,1,2,3,4,5,6,7,8,9,10,11,12,13],[0,1,2,3,4,5,6,7,8,9,10,11,12,13,14],[0,1,2,3,4,5,6,7,8,9,10,11],[0,1,2,3,4,5,6,7,8,9,10,11,16],[0,1,2,3,4,5,6,7,8,9,10,11,16,17],[0,1,2,3,4,5,6,7,8,9,10,11,16,17,18],[0,1,2,3,4,5,6,7,8,9,10,11,12,13,14,15,16,17,18,19],[0,1,2,3,4,5,6,7,8,9,10,11,12,13,14,15,16,17,18,19,20],[0,1,2,3,4,5,6,7,8,9,10,11,12,13,14,15,16,17,18,19,20,21]] | 2 => [[],[0],[],[2],[2,3],[2,3,4],[0,1,2,3,4,5],[0,1,2,3,4,5,6]] | 3 => [[],[],[1],[1,2],[1,2,3],[0,1,2,3,4],[0,1,2,3,4,5]] | _ => []) [900000,900100] [.b r.1] [(900000, .row 2 r.2), (900100, .row 2 a9)] [] Try.func102 (by kernel_rfl) w102v1_h (by kernel_rfl) (by rfl) ?_
 intro _ _ _ _ _ _ _ _ _ _ _ _ _ _ _ _ _ _ _ _ _ _ _ _ _ _ _ _ _ _ _ _ _ _ _ _ _ _ _ _ _ E R K hK
 have D := E.D
 clear E
 have S := And.intro D.hcmp (And.intro D.hgi (And.intro D.hinb (And.intro D.hlen (D.hput))))
 unfold d102v1 at h
 cbv
 refine R.cut' (by kernel_rfl) (by kernel_rfl) ?_
 cbv
 refine R.cutB (fun p => p) (fun _ _ e => e) h [] (fun p10 => [(27, .b p10)]) (fun p10 => []) (by kernel_rfl) (by kernel_rfl) (fun y9 hy hFy9 L hLy9 => ?_) (fun p10 h2 => ?_)
 ·clear h; have h := hy; clear hy; cbv
  refine R.needD h (by first|(simp only [S]<;>rfl)|rfl) ?_
  clear h; intro h; cbv
  refine R.brD h (by first|(simp only [S]<;>rfl)|rfl) ?_ ?_<;>clear h<;>intro h<;>cbv
  ·refine R.needD h (by first|(simp only [S]<;>rfl)|rfl) ?_
   clear h; intro h; cbv
   refine R.brD h (by first|(simp only [S]<;>rfl)|rfl) ?_ ?_<;>clear h<;>intro h<;>cbv
   ·obtain ⟨s', e, hi⟩ := jn_some (fun p => p) h
    refine hLy9 s' _ _ hi ⟨by kernel_rfl, ?_, ?_, by kernel_rfl, by kernel_rfl⟩<;>cbv<;>(try (subst e;simp only [S,and_self,and_true,true_and]<;>(repeat' apply And.intro)<;>rfl))
   ·refine R.needD h (by first|(simp only [S]<;>rfl)|rfl) ?_
    clear h; intro h; cbv
    refine R.needD h (by first|(simp only [S]<;>rfl)|rfl) ?_
    clear h; intro h; cbv
    obtain ⟨s', e, hi⟩ := jn_some (fun p => p) h
    refine hLy9 s' _ _ hi ⟨by kernel_rfl, ?_, ?_, by kernel_rfl, by kernel_rfl⟩<;>cbv<;>(try (subst e;simp only [S,and_self,and_true,true_and]<;>(repeat' apply And.intro)<;>rfl))
  ·obtain ⟨s', e, hi⟩ := jn_some (fun p => p) h
   refine hLy9 s' _ _ hi ⟨by kernel_rfl, ?_, ?_, by kernel_rfl, by kernel_rfl⟩<;>cbv<;>(try (subst e;simp only [S,and_self,and_true,true_and]<;>(repeat' apply And.intro)<;>rfl))
 ·clear h; have h := h2; clear h2; try dsimp only at h
  cbv
  refine R.brD h (by first|(simp only [S]<;>rfl)|rfl) ?_ ?_<;>clear h<;>intro h<;>cbv
  ·refine R.needD h (by first|(simp only [S]<;>rfl)|rfl) ?_
   clear h; intro h; cbv
   refine R.needD h (by first|(simp only [S]<;>rfl)|rfl) ?_
   clear h; intro h; cbv
   refine R.needD h (by first|(simp only [S]<;>rfl)|rfl) ?_
   clear h; intro h; cbv
   refine R.callBD h (fun x11 hx11 h2 => ?_)
   clear h; have h := h2; clear h2
   obtain ⟨bx11_5, ex11_5, bx11_6, ex11_6, hbx11⟩ : ∃ bx11_5, bx11_5 = (gI a9 0 0) ∧ ∃ bx11_6, bx11_6 = (putL a8 1 0 [.i .i64 (gI a9 1 0)]) ∧ d123v2 a0 a1 a2 a3 0 bx11_5 bx11_6 = some x11 := ⟨_, rfl, _, rfl, hx11⟩
   clear hx11; have hx11 := hbx11; clear hbx11
   refine R.callB [(900000, 900000)] (w123v2 a0 a1 a2 a3 0 bx11_5 bx11_6 _ hx11) ?_ ?_ rfl ?_
   ·cbv <;> (try simp only [S, ex11_5, ex11_6, and_self, and_true, true_and] <;> (repeat' apply And.intro) <;> rfl)
   ·cbv <;> (try simp only [S, ex11_5, ex11_6, and_self, and_true, true_and] <;> (repeat' apply And.intro) <;> rfl)
   clear hx11; cbv
   have e := ret_some h; clear h
   refine hK _ _ ⟨by kernel_rfl, ?_, ?_, by kernel_rfl, by kernel_rfl⟩ <;> cbv <;> (try (subst e; simp only [S, ex11_5, ex11_6, and_self, and_true, true_and] <;> (repeat' apply And.intro) <;> rfl))
  ·refine R.needD h (by first|(simp only [S]<;>rfl)|rfl) ?_
   clear h; intro h; cbv
   refine R.callBD h (fun x12 hx12 h2 => ?_)
   clear h; have h := h2; clear h2
   obtain ⟨bx12_5, ex12_5, hbx12⟩ : ∃ bx12_5, bx12_5 = (gI a9 0 0) ∧ d123v2 a0 a1 a2 a3 0 bx12_5 a8 = some x12 := ⟨_, rfl, hx12⟩
   clear hx12; have hx12 := hbx12; clear hbx12
   refine R.callB [(900000, 900000)] (w123v2 a0 a1 a2 a3 0 bx12_5 a8 _ hx12) ?_ ?_ rfl ?_
   ·cbv <;> (try simp only [S, ex12_5, and_self, and_true, true_and] <;> (repeat' apply And.intro) <;> rfl)
   ·cbv <;> (try simp only [S, ex12_5, and_self, and_true, true_and] <;> (repeat' apply And.intro) <;> rfl)
   clear hx12; cbv
   have e := ret_some h; clear h
   refine hK _ _ ⟨by kernel_rfl, ?_, ?_, by kernel_rfl, by kernel_rfl⟩ <;> cbv <;> (try (subst e; simp only [S, ex12_5, and_self, and_true, true_and] <;> (repeat' apply And.intro) <;> rfl))
noncomputable def d101v1 (a0 : ByteArray) (a1 : Int) (a2 : List V) (a3 : List V) (a4 : Int) (a5 : List V) : Option (Bool × List V) :=
 (d102v1 a0 a1 a2 a3 a0 a1 a2 a3 a5 [.i .i64 1, .i .i64 a4]).bind fun x2 =>
 some (x2.1, x2.2)
noncomputable def w101v1_c : Code := (Try.f101.body).getD .skip
theorem w101v1_h : Try.f101.body = some w101v1_c := by kernel_rfl
theorem w101v1 (a0 : ByteArray) (a1 : Int) (a2 : List V) (a3 : List V) (a4 : Int) (a5 : List V) (r : Bool × List V) (h : d101v1 a0 a1 a2 a3 a4 a5 = some r) : Ab.FnB Try.prog TT 101 [.agg [.str a0, .i .i64 a1, .sl 2 a2, .sl 74 a3, .row 900000], .i .i64 a4] [(900000, .row 2 a5)] [900000] (.b r.1) [(900000, .row 2 r.2)] := by
 refine fnb_rules tok W0 [900000] [.b r.1] [(900000, .row 2 r.2)] [] Try.func101 (by kernel_rfl) w101v1_h (by kernel_rfl) (by rfl) ?_
 intro ar un cv mn mx pl mi cmp nt beq an scmp cat slen sbyte ssub ofB toB len gi gb gs gl sub put app ovl rep ne0 ge0 inb bnd room sroom need br call callb loop cut nl E R K hK
 have D := E.D
 clear E
 unfold d101v1 at h
 cbv
 refine R.callBD h (fun x2 hx2 h2 => ?_)
 clear h; have h := h2; clear h2
 obtain ⟨bx2_9, ex2_9, hbx2⟩ : ∃ bx2_9, bx2_9 = [.i .i64 1, .i .i64 a4] ∧ d102v1 a0 a1 a2 a3 a0 a1 a2 a3 a5 bx2_9 = some x2 := ⟨_, rfl, hx2⟩
 clear hx2; have hx2 := hbx2; clear hbx2
 refine R.callB [(900000, 900000), (900100, 144)] (w102v1 a0 a1 a2 a3 a0 a1 a2 a3 a5 bx2_9 _ hx2) ?_ ?_ rfl ?_
 ·cbv <;> (try simp only [ex2_9, and_self, and_true, true_and] <;> (repeat' apply And.intro) <;> rfl)
 ·cbv <;> (try simp only [ex2_9, and_self, and_true, true_and] <;> (repeat' apply And.intro) <;> rfl)
 clear hx2; cbv
 have e := ret_some h; clear h
 refine hK _ _ ⟨by kernel_rfl, ?_, ?_, by kernel_rfl, by kernel_rfl⟩ <;> cbv <;> (try (subst e; simp only [ex2_9, and_self, and_true, true_and] <;> (repeat' apply And.intro) <;> rfl))
noncomputable def d104v1 (a0 : ByteArray) (a1 : Int) (a2 : List V) (a3 : List V) (a4 : ByteArray) (a5 : Int) (a6 : List V) (a7 : List V) (a8 : List V) (a9 : List V) : Option (Bool × List V) :=
 if (Inb 1 (lenI a8)) then
 if (Inb 1 (lenI a9)) then
 if (Inb 1 (lenI a8)) then
 if (Inb 0 (lenI a9)) then
 (d123v2 a0 a1 a2 a3 0 (gI a9 0 0) (putL a8 1 0 [.i .i64 (arReal .add .i64 (gI a8 1 0) (gI a9 1 0))])).bind fun x2 =>
 some (x2.1, x2.2)
 else none
 else none
 else none
 else none
noncomputable def w104v1_c : Code := (Try.f104.body).getD .skip
theorem w104v1_h : Try.f104.body = some w104v1_c := by kernel_rfl
theorem w104v1 (a0 : ByteArray) (a1 : Int) (a2 : List V) (a3 : List V) (a4 : ByteArray) (a5 : Int) (a6 : List V) (a7 : List V) (a8 : List V) (a9 : List V) (r : Bool × List V) (h : d104v1 a0 a1 a2 a3 a4 a5 a6 a7 a8 a9 = some r) : Ab.FnB Try.prog TT 104 [.agg [.str a0, .i .i64 a1, .sl 2 a2, .sl 74 a3, .row 900000], .agg [.str a4, .i .i64 a5, .sl 2 a6, .sl 74 a7, .row 900100]] [(900000, .row 2 a8), (900100, .row 2 a9)] [900000,900100] (.b r.1) [(900000, .row 2 r.2), (900100, .row 2 a9)] := by
 refine fnb_rules tok (fun r => match r with | 1 => [[],[0],[0,1],[0,1,2],[],[4],[4,5],[4,5,6],[0,1,2,3,4,5,6,7],[0,1,2,3,4,5,6,7,8],[0,1,2,3,4,5,6,7,8,9]] | 2 => [[],[],[1],[1,2],[1,2,3],[0,1,2,3,4],[0,1,2,3,4,5]] | _ => []) [900000,900100] [.b r.1] [(900000, .row 2 r.2), (900100, .row 2 a9)] [] Try.func104 (by kernel_rfl) w104v1_h (by kernel_rfl) (by rfl) ?_
 intro _ _ _ _ _ _ _ _ _ _ _ _ _ _ _ _ _ _ _ _ _ _ _ _ _ _ _ _ _ _ _ _ _ _ _ _ _ _ _ _ _ E R K hK
 have D := E.D
 clear E
 have S := And.intro D.har (And.intro D.hgi (And.intro D.hinb (And.intro D.hlen (D.hput))))
 unfold d104v1 at h
 cbv
 refine R.needD h (by first|(simp only [S]<;>rfl)|rfl) ?_
 clear h; intro h; cbv
 refine R.needD h (by first|(simp only [S]<;>rfl)|rfl) ?_
 clear h; intro h; cbv
 refine R.needD h (by first|(simp only [S]<;>rfl)|rfl) ?_
 clear h; intro h; cbv
 refine R.needD h (by first|(simp only [S]<;>rfl)|rfl) ?_
 clear h; intro h; cbv
 refine R.callBD h (fun x2 hx2 h2 => ?_)
 clear h; have h := h2; clear h2
 obtain ⟨bx2_5, ex2_5, bx2_6, ex2_6, hbx2⟩ : ∃ bx2_5, bx2_5 = (gI a9 0 0) ∧ ∃ bx2_6, bx2_6 = (putL a8 1 0 [.i .i64 (arReal .add .i64 (gI a8 1 0) (gI a9 1 0))]) ∧ d123v2 a0 a1 a2 a3 0 bx2_5 bx2_6 = some x2 := ⟨_, rfl, _, rfl, hx2⟩
 clear hx2; have hx2 := hbx2; clear hbx2
 refine R.callB [(900000, 900000)] (w123v2 a0 a1 a2 a3 0 bx2_5 bx2_6 _ hx2) ?_ ?_ rfl ?_
 ·cbv <;> (try simp only [S, ex2_5, ex2_6, and_self, and_true, true_and] <;> (repeat' apply And.intro) <;> rfl)
 ·cbv <;> (try simp only [S, ex2_5, ex2_6, and_self, and_true, true_and] <;> (repeat' apply And.intro) <;> rfl)
 clear hx2; cbv
 have e := ret_some h; clear h
 refine hK _ _ ⟨by kernel_rfl, ?_, ?_, by kernel_rfl, by kernel_rfl⟩ <;> cbv <;> (try (subst e; simp only [S, ex2_5, ex2_6, and_self, and_true, true_and] <;> (repeat' apply And.intro) <;> rfl))
noncomputable def d103v1 (a0 : ByteArray) (a1 : Int) (a2 : List V) (a3 : List V) (a4 : Int) (a5 : List V) : Option (Bool × List V) :=
 (d104v1 a0 a1 a2 a3 a0 a1 a2 a3 a5 [.i .i64 1, .i .i64 a4]).bind fun x2 =>
 some (x2.1, x2.2)
noncomputable def w103v1_c : Code := (Try.f103.body).getD .skip
theorem w103v1_h : Try.f103.body = some w103v1_c := by kernel_rfl
theorem w103v1 (a0 : ByteArray) (a1 : Int) (a2 : List V) (a3 : List V) (a4 : Int) (a5 : List V) (r : Bool × List V) (h : d103v1 a0 a1 a2 a3 a4 a5 = some r) : Ab.FnB Try.prog TT 103 [.agg [.str a0, .i .i64 a1, .sl 2 a2, .sl 74 a3, .row 900000], .i .i64 a4] [(900000, .row 2 a5)] [900000] (.b r.1) [(900000, .row 2 r.2)] := by
 refine fnb_rules tok W0 [900000] [.b r.1] [(900000, .row 2 r.2)] [] Try.func103 (by kernel_rfl) w103v1_h (by kernel_rfl) (by rfl) ?_
 intro ar un cv mn mx pl mi cmp nt beq an scmp cat slen sbyte ssub ofB toB len gi gb gs gl sub put app ovl rep ne0 ge0 inb bnd room sroom need br call callb loop cut nl E R K hK
 have D := E.D
 clear E
 unfold d103v1 at h
 cbv
 refine R.callBD h (fun x2 hx2 h2 => ?_)
 clear h; have h := h2; clear h2
 obtain ⟨bx2_9, ex2_9, hbx2⟩ : ∃ bx2_9, bx2_9 = [.i .i64 1, .i .i64 a4] ∧ d104v1 a0 a1 a2 a3 a0 a1 a2 a3 a5 bx2_9 = some x2 := ⟨_, rfl, hx2⟩
 clear hx2; have hx2 := hbx2; clear hbx2
 refine R.callB [(900000, 900000), (900100, 144)] (w104v1 a0 a1 a2 a3 a0 a1 a2 a3 a5 bx2_9 _ hx2) ?_ ?_ rfl ?_
 ·cbv <;> (try simp only [ex2_9, and_self, and_true, true_and] <;> (repeat' apply And.intro) <;> rfl)
 ·cbv <;> (try simp only [ex2_9, and_self, and_true, true_and] <;> (repeat' apply And.intro) <;> rfl)
 clear hx2; cbv
 have e := ret_some h; clear h
 refine hK _ _ ⟨by kernel_rfl, ?_, ?_, by kernel_rfl, by kernel_rfl⟩ <;> cbv <;> (try (subst e; simp only [ex2_9, and_self, and_true, true_and] <;> (repeat' apply And.intro) <;> rfl))
noncomputable def d125v2 (a0 : ByteArray) (a1 : Int) (a2 : List V) (a3 : List V) (a4 : Int) (a5 : Int) (a6 : List V) : Option (List V) :=
 if (Inb 2 (lenI a6)) then
 if (Inb 3 (lenI (putL a6 2 0 [.i .i64 (wrapK .i64 a4)]))) then
 some (putL (putL a6 2 0 [.i .i64 (wrapK .i64 a4)]) 3 0 [.i .i64 (wrapK .i64 a5)])
 else none
 else none
noncomputable def w125v2_c : Code := (Try.f125.body).getD .skip
theorem w125v2_h : Try.f125.body = some w125v2_c := by kernel_rfl
theorem w125v2 (a0 : ByteArray) (a1 : Int) (a2 : List V) (a3 : List V) (a4 : Int) (a5 : Int) (a6 : List V) (r : List V) (h : d125v2 a0 a1 a2 a3 a4 a5 a6 = some r) : Ab.FnB Try.prog TT 125 [.agg [.str a0, .i .i64 a1, .sl 2 a2, .sl 74 a3, .row 900000], .agg [.i .u64 a4, .i .u64 a5]] [(900000, .row 2 a6)] [900000] (.tup []) [(900000, .row 2 r)] := by
 refine fnb_rules tok (fun r => match r with | 1 => [[],[0],[],[2],[],[4],[4,5],[],[7],[7,8],[0,1,4,5,6],[0,1,4,5,6,10],[0,1,2,3,4,5,6,7,8,9,10,11],[0,1,2,3,4,5,6,7,8,9,10,11,12]] | _ => []) [900000] [] [(900000, .row 2 r)] [] Try.func125 (by kernel_rfl) w125v2_h (by kernel_rfl) (by rfl) ?_
 intro _ _ _ _ _ _ _ _ _ _ _ _ _ _ _ _ _ _ _ _ _ _ _ _ _ _ _ _ _ _ _ _ _ _ _ _ _ _ _ _ _ E R K hK
 have D := E.D
 clear E
 have S := And.intro D.hcv (And.intro D.hinb (And.intro D.hlen (D.hput)))
 unfold d125v2 at h
 cbv
 refine R.needD h (by first|(simp only [S]<;>rfl)|rfl) ?_
 clear h; intro h; cbv
 refine R.needD h (by first|(simp only [S]<;>rfl)|rfl) ?_
 clear h; intro h; cbv
 have e := ret_some h; clear h
 refine hK _ _ ⟨by kernel_rfl, ?_, ?_, by kernel_rfl, by kernel_rfl⟩<;>cbv<;>(try (subst e;simp only [S,and_self,and_true,true_and]<;>(repeat' apply And.intro)<;>rfl))
end Go.Proofs.Ytmofhbedamjblaa
end
section
namespace Go.Proofs.Ytmofhbedamjblaa
open Go.Ab Go.RowKit 
set_option maxRecDepth 100000
set_option maxHeartbeats 40000000
noncomputable def d107v1 (a0 : ByteArray) (a1 : Int) (a2 : List V) (a3 : List V) (a4 : ByteArray) (a5 : Int) (a6 : List V) (a7 : List V) (a8 : List V) (a9 : List V) : Option (Bool × List V) :=
 (d126 a0 a1 a2 a3 a8).bind fun x6 =>
 (d126 a4 a5 a6 a7 a9).bind fun x7 =>
 (d127 x6.1 x6.2 x7.1 x7.2).bind fun x8 =>
 (d125v2 a0 a1 a2 a3 x8.1 x8.2 a8).bind fun x9 =>
 (d104v1 a0 a1 a2 a3 a4 a5 a6 a7 x9 a9).bind fun x10 =>
 some (x10.1, x10.2)
noncomputable def w107v1_c : Code := (Try.f107.body).getD .skip
theorem w107v1_h : Try.f107.body = some w107v1_c := by kernel_rfl
theorem w107v1 (a0 : ByteArray) (a1 : Int) (a2 : List V) (a3 : List V) (a4 : ByteArray) (a5 : Int) (a6 : List V) (a7 : List V) (a8 : List V) (a9 : List V) (r : Bool × List V) (h : d107v1 a0 a1 a2 a3 a4 a5 a6 a7 a8 a9 = some r) : Ab.FnB Try.prog TT 107 [.agg [.str a0, .i .i64 a1, .sl 2 a2, .sl 74 a3, .row 900000], .agg [.str a4, .i .i64 a5, .sl 2 a6, .sl 74 a7, .row 900100]] [(900000, .row 2 a8), (900100, .row 2 a9)] [900000,900100] (.b r.1) [(900000, .row 2 r.2), (900100, .row 2 a9)] := by
 refine fnb_rules tok (fun r => match r with | 1 => [[],[],[1],[],[1,2,3],[1,2,3,4],[0,1,2,3,4,5]] | _ => []) [900000,900100] [.b r.1] [(900000, .row 2 r.2), (900100, .row 2 a9)] [] Try.func107 (by kernel_rfl) w107v1_h (by kernel_rfl) (by rfl) ?_
 intro ar un cv mn mx pl mi cmp nt beq an scmp cat slen sbyte ssub ofB toB len gi gb gs gl sub put app ovl rep ne0 ge0 inb bnd room sroom need br call callb loop cut nl E R K hK
 have D := E.D
 clear E
 unfold d107v1 at h
 cbv
 refine R.callD h (fun x6 hx6 h2 => ?_)
 clear h; have h := h2; clear h2
 refine R.call' (w126 _ _ _ _ _ _ hx6) (by rfl) ?_
 clear hx6; cbv
 refine R.callD h (fun x7 hx7 h2 => ?_)
 clear h; have h := h2; clear h2
 refine R.call' (w126 _ _ _ _ _ _ hx7) (by rfl) ?_
 clear hx7; cbv
 refine R.callD h (fun x8 hx8 h2 => ?_)
 clear h; have h := h2; clear h2
 refine R.call' (w127 _ _ _ _ _ hx8) (by rfl) ?_
 clear hx8; cbv
 refine R.callBD h (fun x9 hx9 h2 => ?_)
 clear h; have h := h2; clear h2
 refine R.callB [(900000, 900000)] (w125v2 a0 a1 a2 a3 x8.1 x8.2 a8 _ hx9) ?_ ?_ rfl ?_
 ·cbv <;> (try simp only [and_self, and_true, true_and] <;> (repeat' apply And.intro) <;> rfl)
 ·cbv <;> (try simp only [and_self, and_true, true_and] <;> (repeat' apply And.intro) <;> rfl)
 clear hx9; cbv
 refine R.callBD h (fun x10 hx10 h2 => ?_)
 clear h; have h := h2; clear h2
 refine R.callB [(900000, 900000), (900100, 900100)] (w104v1 a0 a1 a2 a3 a4 a5 a6 a7 x9 a9 _ hx10) ?_ ?_ rfl ?_
 ·cbv <;> (try simp only [and_self, and_true, true_and] <;> (repeat' apply And.intro) <;> rfl)
 ·cbv <;> (try simp only [and_self, and_true, true_and] <;> (repeat' apply And.intro) <;> rfl)
 clear hx10; cbv
 have e := ret_some h; clear h
 refine hK _ _ ⟨by kernel_rfl, ?_, ?_, by kernel_rfl, by kernel_rfl⟩ <;> cbv <;> (try (subst e; simp only [and_self, and_true, true_and] <;> (repeat' apply And.intro) <;> rfl))
noncomputable def d106v1 (a0 : ByteArray) (a1 : Int) (a2 : List V) (a3 : List V) (a4 : Int) (a5 : List V) : Option (Bool × List V) :=
 (d124 a4).bind fun x3 =>
 (d107v1 a0 a1 a2 a3 a0 a1 a2 a3 a5 [.i .i64 1, .i .i64 a4, .i .i64 (wrapK .i64 x3.1), .i .i64 (wrapK .i64 x3.2)]).bind fun x4 =>
 some (x4.1, x4.2)
noncomputable def w106v1_c : Code := (Try.f106.body).getD .skip
theorem w106v1_h : Try.f106.body = some w106v1_c := by kernel_rfl
theorem w106v1 (a0 : ByteArray) (a1 : Int) (a2 : List V) (a3 : List V) (a4 : Int) (a5 : List V) (r : Bool × List V) (h : d106v1 a0 a1 a2 a3 a4 a5 = some r) : Ab.FnB Try.prog TT 106 [.agg [.str a0, .i .i64 a1, .sl 2 a2, .sl 74 a3, .row 900000], .i .i64 a4] [(900000, .row 2 a5)] [900000] (.b r.1) [(900000, .row 2 r.2)] := by
 refine fnb_rules tok W0 [900000] [.b r.1] [(900000, .row 2 r.2)] [] Try.func106 (by kernel_rfl) w106v1_h (by kernel_rfl) (by rfl) ?_
 intro _ _ _ _ _ _ _ _ _ _ _ _ _ _ _ _ _ _ _ _ _ _ _ _ _ _ _ _ _ _ _ _ _ _ _ _ _ _ _ _ _ E R K hK
 have D := E.D
 clear E
 unfold d106v1 at h
 cbv
 refine R.callD h (fun x3 hx3 h2 => ?_)
 clear h; have h := h2; clear h2
 refine R.call' (w124 _ _ hx3) (by first | (simp only [D.hcv] <;> rfl) | rfl) ?_
 clear hx3; cbv
 refine R.callBD h (fun x4 hx4 h2 => ?_)
 clear h; have h := h2; clear h2
 obtain ⟨bx4_9, ex4_9, hbx4⟩ : ∃ bx4_9, bx4_9 = [.i .i64 1, .i .i64 a4, .i .i64 (wrapK .i64 x3.1), .i .i64 (wrapK .i64 x3.2)] ∧ d107v1 a0 a1 a2 a3 a0 a1 a2 a3 a5 bx4_9 = some x4 := ⟨_, rfl, hx4⟩
 clear hx4; have hx4 := hbx4; clear hbx4
 refine R.callB [(900000, 900000), (900100, 288)] (w107v1 a0 a1 a2 a3 a0 a1 a2 a3 a5 bx4_9 _ hx4) ?_ ?_ rfl ?_
 ·cbv <;> (try simp only [D.hcv, ex4_9, and_self, and_true, true_and] <;> (repeat' apply And.intro) <;> rfl)
 ·cbv <;> (try simp only [D.hcv, ex4_9, and_self, and_true, true_and] <;> (repeat' apply And.intro) <;> rfl)
 clear hx4; cbv
 have e := ret_some h; clear h
 refine hK _ _ ⟨by kernel_rfl, ?_, ?_, by kernel_rfl, by kernel_rfl⟩ <;> cbv <;> (try (subst e; simp only [D.hcv, ex4_9, and_self, and_true, true_and] <;> (repeat' apply And.intro) <;> rfl))
noncomputable def d109v1 (a0 : ByteArray) (a1 : Int) (a2 : List V) (a3 : List V) (a4 : Int) (a5 : List V) : Option (Bool × List V) :=
 (d32 a0 a1 a2 a3 a4).bind fun x3 =>
 (d123v2 a0 a1 a2 a3 x3 1 a5).bind fun x4 =>
 some (x4.1, x4.2)
noncomputable def w109v1_c : Code := (Try.f109.body).getD .skip
theorem w109v1_h : Try.f109.body = some w109v1_c := by kernel_rfl
theorem w109v1 (a0 : ByteArray) (a1 : Int) (a2 : List V) (a3 : List V) (a4 : Int) (a5 : List V) (r : Bool × List V) (h : d109v1 a0 a1 a2 a3 a4 a5 = some r) : Ab.FnB Try.prog TT 109 [.agg [.str a0, .i .i64 a1, .sl 2 a2, .sl 74 a3, .row 900000], .i .i64 a4] [(900000, .row 2 a5)] [900000] (.b r.1) [(900000, .row 2 r.2)] := by
 refine fnb_rules tok (fun r => match r with | 1 => [[],[],[1],[],[1,2,3],[0,1,2,3,4],[0,1,2,3,4,5]] | _ => []) [900000] [.b r.1] [(900000, .row 2 r.2)] [] Try.func109 (by kernel_rfl) w109v1_h (by kernel_rfl) (by rfl) ?_
 intro ar un cv mn mx pl mi cmp nt beq an scmp cat slen sbyte ssub ofB toB len gi gb gs gl sub put app ovl rep ne0 ge0 inb bnd room sroom need br call callb loop cut nl E R K hK
 have D := E.D
 clear E
 unfold d109v1 at h
 cbv
 refine R.callD h (fun x3 hx3 h2 => ?_)
 clear h; have h := h2; clear h2
 refine R.call' (w32 _ _ _ _ _ _ hx3) (by rfl) ?_
 clear hx3; cbv
 refine R.callBD h (fun x4 hx4 h2 => ?_)
 clear h; have h := h2; clear h2
 refine R.callB [(900000, 900000)] (w123v2 a0 a1 a2 a3 x3 1 a5 _ hx4) ?_ ?_ rfl ?_
 ·cbv <;> (try simp only [and_self, and_true, true_and] <;> (repeat' apply And.intro) <;> rfl)
 ·cbv <;> (try simp only [and_self, and_true, true_and] <;> (repeat' apply And.intro) <;> rfl)
 clear hx4; cbv
 have e := ret_some h; clear h
 refine hK _ _ ⟨by kernel_rfl, ?_, ?_, by kernel_rfl, by kernel_rfl⟩ <;> cbv <;> (try (subst e; simp only [and_self, and_true, true_and] <;> (repeat' apply And.intro) <;> rfl))
noncomputable def d52 (a0_0 : ByteArray) (a0_1 : Int) (a0_2 : List V) (a0_3 : List V) (a1 : List V) (a2 : Int) : Option (List V × Int) :=
 (d38 a1).bind fun x1 =>
 Option.bind (α := (List V) ⊕ (List V × Int)) (
 (d70).bind fun x13 =>
 if (Inb a0_1 (Int.ofNat 10)) then
 if (cmpLit .eql a0_1 (Int.ofNat 0)) = true then
 none
 else
 if (cmpLit .eql a0_1 (Int.ofNat 1)) = true then
 (d93v2 a0_0 a0_1 a0_2 a0_3 a2 x1).bind fun x14 =>
 if (notB' x14.1) = true then
 some (.inr ([], 2))
 else
 some (.inl x14.2)
 else
 if (cmpLit .eql a0_1 (Int.ofNat 2)) = true then
 (d96v1 a0_0 a0_1 a0_2 a0_3 a2 x1).bind fun x15 =>
 if (notB' true) = true then
 some (.inr ([], 2))
 else
 some (.inl x15)
 else
 if (cmpLit .eql a0_1 (Int.ofNat 3)) = true then
 (d98v1 a0_0 a0_1 a0_2 a0_3 a2 x1).bind fun x16 =>
 if (notB' x16.1) = true then
 some (.inr ([], 2))
 else
 some (.inl x16.2)
 else
 if (cmpLit .eql a0_1 (Int.ofNat 4)) = true then
 (d101v1 a0_0 a0_1 a0_2 a0_3 a2 x1).bind fun x17 =>
 if (notB' x17.1) = true then
 some (.inr ([], 2))
 else
 some (.inl x17.2)
 else
 if (cmpLit .eql a0_1 (Int.ofNat 5)) = true then
 (d103v1 a0_0 a0_1 a0_2 a0_3 a2 x1).bind fun x18 =>
 if (notB' x18.1) = true then
 some (.inr ([], 2))
 else
 some (.inl x18.2)
 else
 if (cmpLit .eql a0_1 (Int.ofNat 6)) = true then
 (d106v1 a0_0 a0_1 a0_2 a0_3 a2 x1).bind fun x19 =>
 if (notB' x19.1) = true then
 some (.inr ([], 2))
 else
 some (.inl x19.2)
 else
 if (cmpLit .eql a0_1 (Int.ofNat 7)) = true then
 (d109v1 a0_0 a0_1 a0_2 a0_3 a2 x1).bind fun x20 =>
 if (notB' x20.1) = true then
 some (.inr ([], 2))
 else
 some (.inl x20.2)
 else
 if (cmpLit .eql a0_1 (Int.ofNat 8)) = true then
 (d109v1 a0_0 a0_1 a0_2 a0_3 a2 x1).bind fun x21 =>
 if (notB' x21.1) = true then
 some (.inr ([], 2))
 else
 some (.inl x21.2)
 else
 (d109v1 a0_0 a0_1 a0_2 a0_3 a2 x1).bind fun x22 =>
 if (notB' x22.1) = true then
 some (.inr ([], 2))
 else
 some (.inl x22.2)
 else none) fun y12 =>
 match y12 with
 | .inl p23 =>
 some (p23, 0)
 | .inr y12r0 =>
 some y12r0
noncomputable def w52_c : Code := (Try.f52.body).getD .skip
theorem w52_h : Try.f52.body = some w52_c := by kernel_rfl
theorem w52 (a0_0 : ByteArray) (a0_1 : Int) (a0_2 : List V) (a0_3 : List V) (a1 : List V) (a2 : Int) (r : List V × Int) (h : d52 a0_0 a0_1 a0_2 a0_3 a1 a2 = some r) : Ab.Fn Try.prog TT 52 [.agg [.str a0_0, .i .i64 a0_1, .sl 2 a0_2, .sl 74 a0_3], .sl 2 a1, .i .i64 a2] (.tup [.row 0, .i .i64 r.2]) [(0, .row 2 r.1)] := by
 refine fn_own tok (fun r => match r with | 1 => [[],[],[1],[0,1,2],[],[0,1,2,3,4]] | 2 => [[],[],[1],[0,1,2],[0,1,2,3],[],[],[0,1,2,3,4,5,6],[0,1,2,3,4,5,6,7]] | _ => []) Try.func52 (by kernel_rfl) w52_h (by kernel_rfl) ?_
 intro _ _ _ _ _ _ _ _ _ _ _ _ _ _ _ _ _ _ _ _ _ _ _ _ _ _ _ _ _ _ _ _ _ _ _ _ _ _ _ _ _ E R K hK
 have D := E.D
 clear E
 have S := And.intro D.hcmp (And.intro D.hinb (D.hnt))
 unfold d52 at h
 cbv
 refine R.callD h (fun x1 hx1 h2 => ?_)
 clear h; have h := h2; clear h2
 refine R.call' (w38 _ _ hx1) (by first|(simp only [S]<;>rfl)|rfl) ?_
 clear hx1; cbv
 refine R.cutB Sum.inl (fun _ _ e => Sum.inl.inj e) h [] (fun p23 => []) (fun p23 => [(176, .row 2 p23)]) (by kernel_rfl) (by kernel_rfl) (fun y12 hy hFy12 L hLy12 => ?_) (fun p23 h2 => ?_)
 ·as_aux_lemma =>
  clear h; have h := hy; clear hy; cbv
  refine R.callD h (fun x13 hx13 h2 => ?_)
  clear h; have h := h2; clear h2
  refine R.call' (w70 _ hx13) (by first|(simp only [S]<;>rfl)|rfl) ?_
  clear hx13; cbv
  refine R.needD h (by first|(simp only [S]<;>rfl)|rfl) ?_
  clear h; intro h; cbv
  refine R.brD h (by first|(simp only [S]<;>rfl)|rfl) ?_ ?_<;>clear h<;>intro h<;>cbv
  ·exact (none_some h).elim
  ·as_aux_lemma =>
   refine R.brD h (by first|(simp only [S]<;>rfl)|rfl) ?_ ?_<;>clear h<;>intro h<;>cbv
   ·refine R.callBD h (fun x14 hx14 h2 => ?_)
    clear h; have h := h2; clear h2
    refine R.callB [(900000, 176)] (w93v2 a0_0 a0_1 a0_2 a0_3 a2 x1 _ hx14) ?_ ?_ rfl ?_
    ·cbv <;> (try simp only [S, and_self, and_true, true_and] <;> (repeat' apply And.intro) <;> rfl)
    ·cbv <;> (try simp only [S, and_self, and_true, true_and] <;> (repeat' apply And.intro) <;> rfl)
    clear hx14; cbv
    refine R.brD h (by first|(simp only [S]<;>rfl)|rfl) ?_ ?_<;>clear h<;>intro h<;>cbv
    ·have e := ret_some h; clear h
     have h := hFy12; rw [e] at h; clear e; try dsimp only at h
     cbv
     have e := ret_some h; clear h
     refine hK _ _ ⟨rfl, ⟨?_, rfl, rfl, rfl, ?_⟩⟩<;>cbv<;>(try (subst e;simp only [S,and_self,and_true,true_and]<;>(repeat' apply And.intro)<;>rfl))
    ·obtain ⟨s', e, hi⟩ := jn_some Sum.inl h
     refine hLy12 s' _ _ hi ⟨by kernel_rfl, ?_, ?_, by kernel_rfl, by kernel_rfl⟩<;>cbv<;>(try (subst e;simp only [S,and_self,and_true,true_and]<;>(repeat' apply And.intro)<;>rfl))
   ·as_aux_lemma =>
    refine R.brD h (by first|(simp only [S]<;>rfl)|rfl) ?_ ?_<;>clear h<;>intro h<;>cbv
    ·refine R.callBD h (fun x15 hx15 h2 => ?_)
     clear h; have h := h2; clear h2
     refine R.callB [(900000, 176)] (w96v1 a0_0 a0_1 a0_2 a0_3 a2 x1 _ hx15) ?_ ?_ rfl ?_
     ·cbv <;> (try simp only [S, and_self, and_true, true_and] <;> (repeat' apply And.intro) <;> rfl)
     ·cbv <;> (try simp only [S, and_self, and_true, true_and] <;> (repeat' apply And.intro) <;> rfl)
     clear hx15; cbv
     refine R.brD h (by first|(simp only [S]<;>rfl)|rfl) ?_ ?_<;>clear h<;>intro h<;>cbv
     ·have e := ret_some h; clear h
      have h := hFy12; rw [e] at h; clear e; try dsimp only at h
      cbv
      have e := ret_some h; clear h
      refine hK _ _ ⟨rfl, ⟨?_, rfl, rfl, rfl, ?_⟩⟩<;>cbv<;>(try (subst e;simp only [S,and_self,and_true,true_and]<;>(repeat' apply And.intro)<;>rfl))
     ·obtain ⟨s', e, hi⟩ := jn_some Sum.inl h
      refine hLy12 s' _ _ hi ⟨by kernel_rfl, ?_, ?_, by kernel_rfl, by kernel_rfl⟩<;>cbv<;>(try (subst e;simp only [S,and_self,and_true,true_and]<;>(repeat' apply And.intro)<;>rfl))
    ·as_aux_lemma =>
     refine R.brD h (by first|(simp only [S]<;>rfl)|rfl) ?_ ?_<;>clear h<;>intro h<;>cbv
     ·refine R.callBD h (fun x16 hx16 h2 => ?_)
      clear h; have h := h2; clear h2
      refine R.callB [(900000, 176)] (w98v1 a0_0 a0_1 a0_2 a0_3 a2 x1 _ hx16) ?_ ?_ rfl ?_
      ·cbv <;> (try simp only [S, and_self, and_true, true_and] <;> (repeat' apply And.intro) <;> rfl)
      ·cbv <;> (try simp only [S, and_self, and_true, true_and] <;> (repeat' apply And.intro) <;> rfl)
      clear hx16; cbv
      refine R.brD h (by first|(simp only [S]<;>rfl)|rfl) ?_ ?_<;>clear h<;>intro h<;>cbv
      ·have e := ret_some h; clear h
       have h := hFy12; rw [e] at h; clear e; try dsimp only at h
       cbv
       have e := ret_some h; clear h
       refine hK _ _ ⟨rfl, ⟨?_, rfl, rfl, rfl, ?_⟩⟩<;>cbv<;>(try (subst e;simp only [S,and_self,and_true,true_and]<;>(repeat' apply And.intro)<;>rfl))
      ·obtain ⟨s', e, hi⟩ := jn_some Sum.inl h
       refine hLy12 s' _ _ hi ⟨by kernel_rfl, ?_, ?_, by kernel_rfl, by kernel_rfl⟩<;>cbv<;>(try (subst e;simp only [S,and_self,and_true,true_and]<;>(repeat' apply And.intro)<;>rfl))
     ·as_aux_lemma =>
      refine R.brD h (by first|(simp only [S]<;>rfl)|rfl) ?_ ?_<;>clear h<;>intro h<;>cbv
      ·refine R.callBD h (fun x17 hx17 h2 => ?_)
       clear h; have h := h2; clear h2
       refine R.callB [(900000, 176)] (w101v1 a0_0 a0_1 a0_2 a0_3 a2 x1 _ hx17) ?_ ?_ rfl ?_
       ·cbv <;> (try simp only [S, and_self, and_true, true_and] <;> (repeat' apply And.intro) <;> rfl)
       ·cbv <;> (try simp only [S, and_self, and_true, true_and] <;> (repeat' apply And.intro) <;> rfl)
       clear hx17; cbv
       refine R.brD h (by first|(simp only [S]<;>rfl)|rfl) ?_ ?_<;>clear h<;>intro h<;>cbv
       ·have e := ret_some h; clear h
        have h := hFy12; rw [e] at h; clear e; try dsimp only at h
        cbv
        have e := ret_some h; clear h
        refine hK _ _ ⟨rfl, ⟨?_, rfl, rfl, rfl, ?_⟩⟩<;>cbv<;>(try (subst e;simp only [S,and_self,and_true,true_and]<;>(repeat' apply And.intro)<;>rfl))
       ·obtain ⟨s', e, hi⟩ := jn_some Sum.inl h
        refine hLy12 s' _ _ hi ⟨by kernel_rfl, ?_, ?_, by kernel_rfl, by kernel_rfl⟩<;>cbv<;>(try (subst e;simp only [S,and_self,and_true,true_and]<;>(repeat' apply And.intro)<;>rfl))
      ·as_aux_lemma =>
       refine R.brD h (by first|(simp only [S]<;>rfl)|rfl) ?_ ?_<;>clear h<;>intro h<;>cbv
       ·refine R.callBD h (fun x18 hx18 h2 => ?_)
        clear h; have h := h2; clear h2
        refine R.callB [(900000, 176)] (w103v1 a0_0 a0_1 a0_2 a0_3 a2 x1 _ hx18) ?_ ?_ rfl ?_
        ·cbv <;> (try simp only [S, and_self, and_true, true_and] <;> (repeat' apply And.intro) <;> rfl)
        ·cbv <;> (try simp only [S, and_self, and_true, true_and] <;> (repeat' apply And.intro) <;> rfl)
        clear hx18; cbv
        refine R.brD h (by first|(simp only [S]<;>rfl)|rfl) ?_ ?_<;>clear h<;>intro h<;>cbv
        ·have e := ret_some h; clear h
         have h := hFy12; rw [e] at h; clear e; try dsimp only at h
         cbv
         have e := ret_some h; clear h
         refine hK _ _ ⟨rfl, ⟨?_, rfl, rfl, rfl, ?_⟩⟩<;>cbv<;>(try (subst e;simp only [S,and_self,and_true,true_and]<;>(repeat' apply And.intro)<;>rfl))
        ·obtain ⟨s', e, hi⟩ := jn_some Sum.inl h
         refine hLy12 s' _ _ hi ⟨by kernel_rfl, ?_, ?_, by kernel_rfl, by kernel_rfl⟩<;>cbv<;>(try (subst e;simp only [S,and_self,and_true,true_and]<;>(repeat' apply And.intro)<;>rfl))
       ·as_aux_lemma =>
        refine R.brD h (by first|(simp only [S]<;>rfl)|rfl) ?_ ?_<;>clear h<;>intro h<;>cbv
        ·refine R.callBD h (fun x19 hx19 h2 => ?_)
         clear h; have h := h2; clear h2
         refine R.callB [(900000, 176)] (w106v1 a0_0 a0_1 a0_2 a0_3 a2 x1 _ hx19) ?_ ?_ rfl ?_
         ·cbv <;> (try simp only [S, and_self, and_true, true_and] <;> (repeat' apply And.intro) <;> rfl)
         ·cbv <;> (try simp only [S, and_self, and_true, true_and] <;> (repeat' apply And.intro) <;> rfl)
         clear hx19; cbv
         refine R.brD h (by first|(simp only [S]<;>rfl)|rfl) ?_ ?_<;>clear h<;>intro h<;>cbv
         ·have e := ret_some h; clear h
          have h := hFy12; rw [e] at h; clear e; try dsimp only at h
          cbv
          have e := ret_some h; clear h
          refine hK _ _ ⟨rfl, ⟨?_, rfl, rfl, rfl, ?_⟩⟩<;>cbv<;>(try (subst e;simp only [S,and_self,and_true,true_and]<;>(repeat' apply And.intro)<;>rfl))
         ·obtain ⟨s', e, hi⟩ := jn_some Sum.inl h
          refine hLy12 s' _ _ hi ⟨by kernel_rfl, ?_, ?_, by kernel_rfl, by kernel_rfl⟩<;>cbv<;>(try (subst e;simp only [S,and_self,and_true,true_and]<;>(repeat' apply And.intro)<;>rfl))
        ·refine R.brD h (by first|(simp only [S]<;>rfl)|rfl) ?_ ?_<;>clear h<;>intro h<;>cbv
         ·refine R.callBD h (fun x20 hx20 h2 => ?_)
          clear h; have h := h2; clear h2
          refine R.callB [(900000, 176)] (w109v1 a0_0 a0_1 a0_2 a0_3 a2 x1 _ hx20) ?_ ?_ rfl ?_
          ·cbv <;> (try simp only [S, and_self, and_true, true_and] <;> (repeat' apply And.intro) <;> rfl)
          ·cbv <;> (try simp only [S, and_self, and_true, true_and] <;> (repeat' apply And.intro) <;> rfl)
          clear hx20; cbv
          refine R.brD h (by first|(simp only [S]<;>rfl)|rfl) ?_ ?_<;>clear h<;>intro h<;>cbv
          ·have e := ret_some h; clear h
           have h := hFy12; rw [e] at h; clear e; try dsimp only at h
           cbv
           have e := ret_some h; clear h
           refine hK _ _ ⟨rfl, ⟨?_, rfl, rfl, rfl, ?_⟩⟩<;>cbv<;>(try (subst e;simp only [S,and_self,and_true,true_and]<;>(repeat' apply And.intro)<;>rfl))
          ·obtain ⟨s', e, hi⟩ := jn_some Sum.inl h
           refine hLy12 s' _ _ hi ⟨by kernel_rfl, ?_, ?_, by kernel_rfl, by kernel_rfl⟩<;>cbv<;>(try (subst e;simp only [S,and_self,and_true,true_and]<;>(repeat' apply And.intro)<;>rfl))
         ·refine R.brD h (by first|(simp only [S]<;>rfl)|rfl) ?_ ?_<;>clear h<;>intro h<;>cbv
          ·refine R.callBD h (fun x21 hx21 h2 => ?_)
           clear h; have h := h2; clear h2
           refine R.callB [(900000, 176)] (w109v1 a0_0 a0_1 a0_2 a0_3 a2 x1 _ hx21) ?_ ?_ rfl ?_
           ·cbv <;> (try simp only [S, and_self, and_true, true_and] <;> (repeat' apply And.intro) <;> rfl)
           ·cbv <;> (try simp only [S, and_self, and_true, true_and] <;> (repeat' apply And.intro) <;> rfl)
           clear hx21; cbv
           refine R.brD h (by first|(simp only [S]<;>rfl)|rfl) ?_ ?_<;>clear h<;>intro h<;>cbv
           ·have e := ret_some h; clear h
            have h := hFy12; rw [e] at h; clear e; try dsimp only at h
            cbv
            have e := ret_some h; clear h
            refine hK _ _ ⟨rfl, ⟨?_, rfl, rfl, rfl, ?_⟩⟩<;>cbv<;>(try (subst e;simp only [S,and_self,and_true,true_and]<;>(repeat' apply And.intro)<;>rfl))
           ·obtain ⟨s', e, hi⟩ := jn_some Sum.inl h
            refine hLy12 s' _ _ hi ⟨by kernel_rfl, ?_, ?_, by kernel_rfl, by kernel_rfl⟩<;>cbv<;>(try (subst e;simp only [S,and_self,and_true,true_and]<;>(repeat' apply And.intro)<;>rfl))
          ·refine R.callBD h (fun x22 hx22 h2 => ?_)
           clear h; have h := h2; clear h2
           refine R.callB [(900000, 176)] (w109v1 a0_0 a0_1 a0_2 a0_3 a2 x1 _ hx22) ?_ ?_ rfl ?_
           ·cbv <;> (try simp only [S, and_self, and_true, true_and] <;> (repeat' apply And.intro) <;> rfl)
           ·cbv <;> (try simp only [S, and_self, and_true, true_and] <;> (repeat' apply And.intro) <;> rfl)
           clear hx22; cbv
           refine R.brD h (by first|(simp only [S]<;>rfl)|rfl) ?_ ?_<;>clear h<;>intro h<;>cbv
           ·have e := ret_some h; clear h
            have h := hFy12; rw [e] at h; clear e; try dsimp only at h
            cbv
            have e := ret_some h; clear h
            refine hK _ _ ⟨rfl, ⟨?_, rfl, rfl, rfl, ?_⟩⟩<;>cbv<;>(try (subst e;simp only [S,and_self,and_true,true_and]<;>(repeat' apply And.intro)<;>rfl))
           ·obtain ⟨s', e, hi⟩ := jn_some Sum.inl h
            refine hLy12 s' _ _ hi ⟨by kernel_rfl, ?_, ?_, by kernel_rfl, by kernel_rfl⟩<;>cbv<;>(try (subst e;simp only [S,and_self,and_true,true_and]<;>(repeat' apply And.intro)<;>rfl))
 ·clear h; have h := h2; clear h2; try dsimp only at h
  cbv
  have e := ret_some h; clear h
  refine hK _ _ ⟨rfl, ⟨?_, rfl, rfl, rfl, ?_⟩⟩<;>cbv<;>(try (subst e;simp only [S,and_self,and_true,true_and]<;>(repeat' apply And.intro)<;>rfl))
theorem w52s (a0_0 : ByteArray) (a0_1 : Int) (a0_2 : List V) (a0_3 : List V) (a1 : List V) (a2 : Int) (r : List V × Int) (h : d52 a0_0 a0_1 a0_2 a0_3 a1 a2 = some r) : Ab.Fn Try.prog TT 52 [.agg [.str a0_0, .i .i64 a0_1, .sl 2 a0_2, .sl 74 a0_3], .sl 2 a1, .i .i64 a2] (.tup [.sl 2 r.1, .i .i64 r.2]) [] :=
 (w52 a0_0 a0_1 a0_2 a0_3 a1 a2 r h).pure (by simp [ple, ple1, ple1L, pleL, pleS, Ab.look])
end Go.Proofs.Ytmofhbedamjblaa
end
section
namespace Go.Proofs.Ytmofhbedamjblaa
open Go.Ab Go.RowKit 
set_option maxRecDepth 100000
set_option maxHeartbeats 40000000
noncomputable def d99v2 (a0 : ByteArray) (a1 : Int) (a2 : List V) (a3 : List V) (a4 : ByteArray) (a5 : Int) (a6 : List V) (a7 : List V) (a8 : List V) (a9 : List V) : Option (Bool × List V) :=
 Option.bind (α := Bool) (
 if (Inb 0 (lenI a8)) then
 if (cmpLit .gtr (gI a8 0 0) 0) = true then
 if (Inb 0 (lenI a9)) then
 if (cmpLit .eql (gI a9 0 0) 0) = true then
 some true
 else
 if (Inb 1 (lenI a8)) then
 if (Inb 1 (lenI a9)) then
 some (cmpLit .lss (gI a8 1 0) (gI a9 1 0))
 else none
 else none
 else none
 else
 some false
 else none) fun y9 =>
 if y9 = true then
 if (Inb 1 (lenI a8)) then
 if (Inb 1 (lenI a9)) then
 if (Inb 0 (lenI a8)) then
 (d123v2 a0 a1 a2 a3 0 (gI a8 0 0) (putL a9 1 0 [.i .i64 (gI a8 1 0)])).bind fun x11 =>
 some (x11.1, x11.2)
 else none
 else none
 else none
 else
 if (Inb 0 (lenI a8)) then
 (d123v2 a0 a1 a2 a3 0 (gI a8 0 0) a9).bind fun x12 =>
 some (x12.1, x12.2)
 else none
noncomputable def d102v2 (a0 : ByteArray) (a1 : Int) (a2 : List V) (a3 : List V) (a4 : ByteArray) (a5 : Int) (a6 : List V) (a7 : List V) (a8 : List V) (a9 : List V) : Option (Bool × List V) :=
 Option.bind (α := Bool) (
 if (Inb 0 (lenI a8)) then
 if (cmpLit .gtr (gI a8 0 0) 0) = true then
 if (Inb 0 (lenI a9)) then
 if (cmpLit .eql (gI a9 0 0) 0) = true then
 some true
 else
 if (Inb 1 (lenI a8)) then
 if (Inb 1 (lenI a9)) then
 some (cmpLit .gtr (gI a8 1 0) (gI a9 1 0))
 else none
 else none
 else none
 else
 some false
 else none) fun y9 =>
 if y9 = true then
 if (Inb 1 (lenI a8)) then
 if (Inb 1 (lenI a9)) then
 if (Inb 0 (lenI a8)) then
 (d123v2 a0 a1 a2 a3 0 (gI a8 0 0) (putL a9 1 0 [.i .i64 (gI a8 1 0)])).bind fun x11 =>
 some (x11.1, x11.2)
 else none
 else none
 else none
 else
 if (Inb 0 (lenI a8)) then
 (d123v2 a0 a1 a2 a3 0 (gI a8 0 0) a9).bind fun x12 =>
 some (x12.1, x12.2)
 else none
noncomputable def d104v2 (a0 : ByteArray) (a1 : Int) (a2 : List V) (a3 : List V) (a4 : ByteArray) (a5 : Int) (a6 : List V) (a7 : List V) (a8 : List V) (a9 : List V) : Option (Bool × List V) :=
 if (Inb 1 (lenI a9)) then
 if (Inb 1 (lenI a8)) then
 if (Inb 1 (lenI a9)) then
 if (Inb 0 (lenI a8)) then
 (d123v2 a0 a1 a2 a3 0 (gI a8 0 0) (putL a9 1 0 [.i .i64 (arReal .add .i64 (gI a9 1 0) (gI a8 1 0))])).bind fun x2 =>
 some (x2.1, x2.2)
 else none
 else none
 else none
 else none
end Go.Proofs.Ytmofhbedamjblaa
end
section
namespace Go.Proofs.Ytmofhbedamjblaa
open Go.Ab Go.RowKit 
set_option maxRecDepth 100000
set_option maxHeartbeats 40000000
noncomputable def d107v2 (a0 : ByteArray) (a1 : Int) (a2 : List V) (a3 : List V) (a4 : ByteArray) (a5 : Int) (a6 : List V) (a7 : List V) (a8 : List V) (a9 : List V) : Option (Bool × List V) :=
 (d126 a0 a1 a2 a3 a9).bind fun x6 =>
 (d126 a4 a5 a6 a7 a8).bind fun x7 =>
 (d127 x6.1 x6.2 x7.1 x7.2).bind fun x8 =>
 (d125v2 a0 a1 a2 a3 x8.1 x8.2 a9).bind fun x9 =>
 (d104v2 a0 a1 a2 a3 a4 a5 a6 a7 a8 x9).bind fun x10 =>
 some (x10.1, x10.2)
end Go.Proofs.Ytmofhbedamjblaa
end
section
namespace Go.Proofs.Ytmofhbedamjblaa
open Go.Ab Go.RowKit 
set_option maxRecDepth 100000
set_option maxHeartbeats 40000000
noncomputable def d39 (a0_0 : ByteArray) (a0_1 : Int) (a0_2 : List V) (a0_3 : List V) (a1 : List V) : Option (Int) :=
 (d70).bind fun x1 =>
 if (Inb a0_1 (Int.ofNat 10)) then
 if (cmpLit .eql a0_1 (Int.ofNat 0)) = true then
 none
 else
 if (cmpLit .eql a0_1 (Int.ofNat 1)) = true then
 (d95 a0_0 a0_1 a0_2 a0_3 a1).bind fun x2 =>
 some x2
 else
 if (cmpLit .eql a0_1 (Int.ofNat 2)) = true then
 (d95 a0_0 a0_1 a0_2 a0_3 a1).bind fun x3 =>
 some x3
 else
 if (cmpLit .eql a0_1 (Int.ofNat 3)) = true then
 (d100 a0_0 a0_1 a0_2 a0_3 a1).bind fun x4 =>
 some x4
 else
 if (cmpLit .eql a0_1 (Int.ofNat 4)) = true then
 (d100 a0_0 a0_1 a0_2 a0_3 a1).bind fun x5 =>
 some x5
 else
 if (cmpLit .eql a0_1 (Int.ofNat 5)) = true then
 (d105 a0_0 a0_1 a0_2 a0_3 a1).bind fun x6 =>
 some x6
 else
 if (cmpLit .eql a0_1 (Int.ofNat 6)) = true then
 (d108 a0_0 a0_1 a0_2 a0_3 a1).bind fun x7 =>
 some x7
 else
 if (cmpLit .eql a0_1 (Int.ofNat 7)) = true then
 (d110 a0_0 a0_1 a0_2 a0_3 a1).bind fun x8 =>
 some x8
 else
 if (cmpLit .eql a0_1 (Int.ofNat 8)) = true then
 (d110 a0_0 a0_1 a0_2 a0_3 a1).bind fun x9 =>
 some x9
 else
 (d110 a0_0 a0_1 a0_2 a0_3 a1).bind fun x10 =>
 some x10
 else none
noncomputable def w39_c : Code := (Try.f39.body).getD .skip
theorem w39_h : Try.f39.body = some w39_c := by kernel_rfl
theorem w39 (a0_0 : ByteArray) (a0_1 : Int) (a0_2 : List V) (a0_3 : List V) (a1 : List V) (r : Int) (h : d39 a0_0 a0_1 a0_2 a0_3 a1 = some r) : Ab.Fn Try.prog TT 39 [.agg [.str a0_0, .i .i64 a0_1, .sl 2 a0_2, .sl 74 a0_3], .sl 2 a1] (.i .i64 r) [] := by
 refine fn_pure tok (fun r => match r with | 1 => [[],[],[1],[0,1,2],[0,1,2,3],[],[],[5,6],[0,1,2,3,4,5,6,7],[0,1,2,3,4,5,6,7,8]] | _ => []) Try.func39 (by kernel_rfl) w39_h (by kernel_rfl) ?_
 intro _ _ _ _ _ _ _ _ _ _ _ _ _ _ _ _ _ _ _ _ _ _ _ _ _ _ _ _ _ _ _ _ _ _ _ _ _ _ _ _ _ E R K hK
 have D := E.D
 clear E
 have S := And.intro D.hcmp (D.hinb)
 unfold d39 at h
 cbv
 refine R.callD h (fun x1 hx1 h2 => ?_)
 clear h; have h := h2; clear h2
 refine R.call' (w70 _ hx1) (by first|(simp only [S]<;>rfl)|rfl) ?_
 clear hx1; cbv
 refine R.needD h (by first|(simp only [S]<;>rfl)|rfl) ?_
 clear h; intro h; cbv
 refine R.brD h (by first|(simp only [S]<;>rfl)|rfl) ?_ ?_<;>clear h<;>intro h<;>cbv
 ·exact (none_some h).elim
 ·as_aux_lemma =>
  refine R.brD h (by first|(simp only [S]<;>rfl)|rfl) ?_ ?_<;>clear h<;>intro h<;>cbv
  ·refine R.callD h (fun x2 hx2 h2 => ?_)
   clear h; have h := h2; clear h2
   refine R.call' (w95 _ _ _ _ _ _ hx2) (by first|(simp only [S]<;>rfl)|rfl) ?_
   clear hx2; cbv
   have e := ret_some h; clear h
   refine hK _ _ ?_
   cbv
   try (subst e; simp only [S, and_self, and_true, true_and] <;> (repeat' apply And.intro) <;> rfl)
  ·as_aux_lemma =>
   refine R.brD h (by first|(simp only [S]<;>rfl)|rfl) ?_ ?_<;>clear h<;>intro h<;>cbv
   ·refine R.callD h (fun x3 hx3 h2 => ?_)
    clear h; have h := h2; clear h2
    refine R.call' (w95 _ _ _ _ _ _ hx3) (by first|(simp only [S]<;>rfl)|rfl) ?_
    clear hx3; cbv
    have e := ret_some h; clear h
    refine hK _ _ ?_
    cbv
    try (subst e; simp only [S, and_self, and_true, true_and] <;> (repeat' apply And.intro) <;> rfl)
   ·refine R.brD h (by first|(simp only [S]<;>rfl)|rfl) ?_ ?_<;>clear h<;>intro h<;>cbv
    ·refine R.callD h (fun x4 hx4 h2 => ?_)
     clear h; have h := h2; clear h2
     refine R.call' (w100 _ _ _ _ _ _ hx4) (by first|(simp only [S]<;>rfl)|rfl) ?_
     clear hx4; cbv
     have e := ret_some h; clear h
     refine hK _ _ ?_
     cbv
     try (subst e; simp only [S, and_self, and_true, true_and] <;> (repeat' apply And.intro) <;> rfl)
    ·refine R.brD h (by first|(simp only [S]<;>rfl)|rfl) ?_ ?_<;>clear h<;>intro h<;>cbv
     ·refine R.callD h (fun x5 hx5 h2 => ?_)
      clear h; have h := h2; clear h2
      refine R.call' (w100 _ _ _ _ _ _ hx5) (by first|(simp only [S]<;>rfl)|rfl) ?_
      clear hx5; cbv
      have e := ret_some h; clear h
      refine hK _ _ ?_
      cbv
      try (subst e; simp only [S, and_self, and_true, true_and] <;> (repeat' apply And.intro) <;> rfl)
     ·refine R.brD h (by first|(simp only [S]<;>rfl)|rfl) ?_ ?_<;>clear h<;>intro h<;>cbv
      ·refine R.callD h (fun x6 hx6 h2 => ?_)
       clear h; have h := h2; clear h2
       refine R.call' (w105 _ _ _ _ _ _ hx6) (by first|(simp only [S]<;>rfl)|rfl) ?_
       clear hx6; cbv
       have e := ret_some h; clear h
       refine hK _ _ ?_
       cbv
       try (subst e; simp only [S, and_self, and_true, true_and] <;> (repeat' apply And.intro) <;> rfl)
      ·refine R.brD h (by first|(simp only [S]<;>rfl)|rfl) ?_ ?_<;>clear h<;>intro h<;>cbv
       ·refine R.callD h (fun x7 hx7 h2 => ?_)
        clear h; have h := h2; clear h2
        refine R.call' (w108 _ _ _ _ _ _ hx7) (by first|(simp only [S]<;>rfl)|rfl) ?_
        clear hx7; cbv
        have e := ret_some h; clear h
        refine hK _ _ ?_
        cbv
        try (subst e; simp only [S, and_self, and_true, true_and] <;> (repeat' apply And.intro) <;> rfl)
       ·refine R.brD h (by first|(simp only [S]<;>rfl)|rfl) ?_ ?_<;>clear h<;>intro h<;>cbv
        ·refine R.callD h (fun x8 hx8 h2 => ?_)
         clear h; have h := h2; clear h2
         refine R.call' (w110 _ _ _ _ _ _ hx8) (by first|(simp only [S]<;>rfl)|rfl) ?_
         clear hx8; cbv
         have e := ret_some h; clear h
         refine hK _ _ ?_
         cbv
         try (subst e; simp only [S, and_self, and_true, true_and] <;> (repeat' apply And.intro) <;> rfl)
        ·refine R.brD h (by first|(simp only [S]<;>rfl)|rfl) ?_ ?_<;>clear h<;>intro h<;>cbv
         ·refine R.callD h (fun x9 hx9 h2 => ?_)
          clear h; have h := h2; clear h2
          refine R.call' (w110 _ _ _ _ _ _ hx9) (by first|(simp only [S]<;>rfl)|rfl) ?_
          clear hx9; cbv
          have e := ret_some h; clear h
          refine hK _ _ ?_
          cbv
          try (subst e; simp only [S, and_self, and_true, true_and] <;> (repeat' apply And.intro) <;> rfl)
         ·refine R.callD h (fun x10 hx10 h2 => ?_)
          clear h; have h := h2; clear h2
          refine R.call' (w110 _ _ _ _ _ _ hx10) (by first|(simp only [S]<;>rfl)|rfl) ?_
          clear hx10; cbv
          have e := ret_some h; clear h
          refine hK _ _ ?_
          cbv
          try (subst e; simp only [S, and_self, and_true, true_and] <;> (repeat' apply And.intro) <;> rfl)
noncomputable def d23 (a0_0 : ByteArray) (a0_1 : Int) (a0_2 : List V) (a0_3 : List V) (a1 : List V) (a2 : Int) : Option (List V × Int) :=
 (d37 a0_0 a0_1 a0_2 a0_3 [.sl 2 a1]).bind fun x2 =>
 if (cmpLit .neq x2 0) = true then
 some ([], x2)
 else
 (d52 a0_0 a0_1 a0_2 a0_3 a1 a2).bind fun x3 =>
 some (x3.1, x3.2)
noncomputable def w23_c : Code := (Try.f23.body).getD .skip
theorem w23_h : Try.f23.body = some w23_c := by kernel_rfl
theorem w23 (a0_0 : ByteArray) (a0_1 : Int) (a0_2 : List V) (a0_3 : List V) (a1 : List V) (a2 : Int) (r : List V × Int) (h : d23 a0_0 a0_1 a0_2 a0_3 a1 a2 = some r) : Ab.Fn Try.prog TT 23 [.agg [.str a0_0, .i .i64 a0_1, .sl 2 a0_2, .sl 74 a0_3], .sl 2 a1, .i .i64 a2] (.tup [.sl 2 r.1, .i .i64 r.2]) [] := by
 refine fn_pure tok W0 Try.func23 (by kernel_rfl) w23_h (by kernel_rfl) ?_
 intro _ _ _ _ _ _ _ _ _ _ _ _ _ _ _ _ _ _ _ _ _ _ _ _ _ _ _ _ _ _ _ _ _ _ _ _ _ _ _ _ _ E R K hK
 have D := E.D
 clear E
 unfold d23 at h
 cbv
 refine R.cut' (by kernel_rfl) (by kernel_rfl) ?_
 cbv
 refine R.callD h (fun x2 hx2 h2 => ?_)
 clear h; have h := h2; clear h2
 refine R.call' (w37 _ _ _ _ _ _ hx2) (by first | (simp only [D.hcmp] <;> rfl) | rfl) ?_
 clear hx2; cbv
 refine R.brD h (by first | (simp only [D.hcmp] <;> rfl) | rfl) ?_ ?_<;>clear h<;>intro h<;>cbv
 ·have e := ret_some h; clear h
  refine hK _ _ ?_
  cbv
  try (subst e; simp only [D.hcmp, and_self, and_true, true_and] <;> (repeat' apply And.intro) <;> rfl)
 ·refine R.callD h (fun x3 hx3 h2 => ?_)
  clear h; have h := h2; clear h2
  refine R.call' (w52s _ _ _ _ _ _ _ hx3) (by first | (simp only [D.hcmp] <;> rfl) | rfl) ?_
  clear hx3; cbv
  have e := ret_some h; clear h
  refine hK _ _ ?_
  cbv
  try (subst e; simp only [D.hcmp, and_self, and_true, true_and] <;> (repeat' apply And.intro) <;> rfl)
noncomputable def d21 (a0_0 : ByteArray) (a0_1 : Int) (a0_2 : List V) (a0_3 : List V) (a1 : List V) : Option (Int × Int) :=
 (d37 a0_0 a0_1 a0_2 a0_3 [.sl 2 a1]).bind fun x2 =>
 if (cmpLit .neq x2 0) = true then
 some (0, x2)
 else
 (d39 a0_0 a0_1 a0_2 a0_3 a1).bind fun x3 =>
 some (x3, 0)
noncomputable def w21_c : Code := (Try.f21.body).getD .skip
theorem w21_h : Try.f21.body = some w21_c := by kernel_rfl
theorem w21 (a0_0 : ByteArray) (a0_1 : Int) (a0_2 : List V) (a0_3 : List V) (a1 : List V) (r : Int × Int) (h : d21 a0_0 a0_1 a0_2 a0_3 a1 = some r) : Ab.Fn Try.prog TT 21 [.agg [.str a0_0, .i .i64 a0_1, .sl 2 a0_2, .sl 74 a0_3], .sl 2 a1] (.tup [.i .i64 r.1, .i .i64 r.2]) [] := by
 refine fn_pure tok W0 Try.func21 (by kernel_rfl) w21_h (by kernel_rfl) ?_
 intro _ _ _ _ _ _ _ _ _ _ _ _ _ _ _ _ _ _ _ _ _ _ _ _ _ _ _ _ _ _ _ _ _ _ _ _ _ _ _ _ _ E R K hK
 have D := E.D
 clear E
 unfold d21 at h
 cbv
 refine R.cut' (by kernel_rfl) (by kernel_rfl) ?_
 cbv
 refine R.callD h (fun x2 hx2 h2 => ?_)
 clear h; have h := h2; clear h2
 refine R.call' (w37 _ _ _ _ _ _ hx2) (by first | (simp only [D.hcmp] <;> rfl) | rfl) ?_
 clear hx2; cbv
 refine R.brD h (by first | (simp only [D.hcmp] <;> rfl) | rfl) ?_ ?_<;>clear h<;>intro h<;>cbv
 ·have e := ret_some h; clear h
  refine hK _ _ ?_
  cbv
  try (subst e; simp only [D.hcmp, and_self, and_true, true_and] <;> (repeat' apply And.intro) <;> rfl)
 ·refine R.callD h (fun x3 hx3 h2 => ?_)
  clear h; have h := h2; clear h2
  refine R.call' (w39 _ _ _ _ _ _ hx3) (by first | (simp only [D.hcmp] <;> rfl) | rfl) ?_
  clear hx3; cbv
  have e := ret_some h; clear h
  refine hK _ _ ?_
  cbv
  try (subst e; simp only [D.hcmp, and_self, and_true, true_and] <;> (repeat' apply And.intro) <;> rfl)
noncomputable def d13_b1 (a2 : Int) (p9 : List V) (s13 : Int × List V) : Option ((Int × List V) ⊕ (List V)) :=
 if (cmpLit .lss s13.1 (lenI p9)) = true then
 if (Inb s13.1 (lenI s13.2)) then
 if (Ne0 a2) then
 if (Inb s13.1 (lenI s13.2)) then
 some (.inl ((arReal .add .i64 s13.1 1), (putL s13.2 s13.1 0 [.i .i64 (arReal .quo .i64 (gI s13.2 s13.1 0) a2)])))
 else none
 else none
 else none
 else
 some (.inr s13.2)
noncomputable def d13 (a0_0 : ByteArray) (a0_1 : Int) (a0_2 : List V) (a0_3 : List V) (a1 : List V) (a2 : Int) : Option (List V × Int) :=
 (d37 a0_0 a0_1 a0_2 a0_3 [.sl 2 a1]).bind fun x2 =>
 if (cmpLit .neq x2 0) = true then
 some ([], x2)
 else
 if (cmpLit .lss a2 1) = true then
 some ([], 1)
 else
 (d38 a1).bind fun x3 =>
 Option.bind (α := List V) (
 (d31 a0_0 a0_1 a0_2 a0_3).bind fun x7 =>
 if (notB' x7) = true then
 (d39 a0_0 a0_1 a0_2 a0_3 a1).bind fun x8 =>
 some [.i .i64 x8]
 else
 some x3) fun y6 =>
 Option.bind (α := List V) (
 (iter (d13_b1 a2 y6) (0, y6)).bind fun y14 =>
 some y14) fun y12 =>
 some (y12, 0)
noncomputable def w13_c : Code := (Try.f13.body).getD .skip
theorem w13_h : Try.f13.body = some w13_c := by kernel_rfl
theorem w13 (a0_0 : ByteArray) (a0_1 : Int) (a0_2 : List V) (a0_3 : List V) (a1 : List V) (a2 : Int) (r : List V × Int) (h : d13 a0_0 a0_1 a0_2 a0_3 a1 a2 = some r) : Ab.Fn Try.prog TT 13 [.agg [.str a0_0, .i .i64 a0_1, .sl 2 a0_2, .sl 74 a0_3], .sl 2 a1, .i .i64 a2] (.tup [.row 0, .i .i64 r.2]) [(0, .row 2 r.1)] := by
 refine fn_own tok W0 Try.func13 (by kernel_rfl) w13_h (by kernel_rfl) ?_
 intro _ _ _ _ _ _ _ _ _ _ _ _ _ _ _ _ _ _ _ _ _ _ _ _ _ _ _ _ _ _ _ _ _ _ _ _ _ _ _ _ _ E R K hK
 have D := E.D
 clear E
 have S := And.intro D.har (And.intro D.hcmp (And.intro D.hgi (And.intro D.hinb (And.intro D.hlen (And.intro D.hne0 (And.intro D.hnt (D.hput)))))))
 unfold d13 at h
 cbv
 refine R.cut' (by kernel_rfl) (by kernel_rfl) ?_
 cbv
 refine R.callD h (fun x2 hx2 h2 => ?_)
 clear h; have h := h2; clear h2
 refine R.call' (w37 _ _ _ _ _ _ hx2) (by first|(simp only [S]<;>rfl)|rfl) ?_
 clear hx2; cbv
 refine R.brD h (by first|(simp only [S]<;>rfl)|rfl) ?_ ?_<;>clear h<;>intro h<;>cbv
 ·have e := ret_some h; clear h
  refine hK _ _ ⟨rfl, ⟨?_, rfl, rfl, rfl, ?_⟩⟩<;>cbv<;>(try (subst e;simp only [S,and_self,and_true,true_and]<;>(repeat' apply And.intro)<;>rfl))
 ·as_aux_lemma =>
  refine R.cut' (by kernel_rfl) (by kernel_rfl) ?_
  cbv
  refine R.brD h (by first|(simp only [S]<;>rfl)|rfl) ?_ ?_<;>clear h<;>intro h<;>cbv
  ·have e := ret_some h; clear h
   refine hK _ _ ⟨rfl, ⟨?_, rfl, rfl, rfl, ?_⟩⟩<;>cbv<;>(try (subst e;simp only [S,and_self,and_true,true_and]<;>(repeat' apply And.intro)<;>rfl))
  ·refine R.callD h (fun x3 hx3 h2 => ?_)
   clear h; have h := h2; clear h2
   refine R.call' (w38 _ _ hx3) (by first|(simp only [S]<;>rfl)|rfl) ?_
   clear hx3; cbv
   refine R.cutB (fun p => p) (fun _ _ e => e) h [] (fun p9 => [(9, .row 336)]) (fun p9 => [(336, .row 2 p9)]) (by kernel_rfl) (by kernel_rfl) (fun y6 hy hFy6 L hLy6 => ?_) (fun p9 h2 => ?_)
   ·clear h; have h := hy; clear hy; cbv
    refine R.callD h (fun x7 hx7 h2 => ?_)
    clear h; have h := h2; clear h2
    refine R.call' (w31 _ _ _ _ _ hx7) (by first|(simp only [S]<;>rfl)|rfl) ?_
    clear hx7; cbv
    refine R.brD h (by first|(simp only [S]<;>rfl)|rfl) ?_ ?_<;>clear h<;>intro h<;>cbv
    ·refine R.callD h (fun x8 hx8 h2 => ?_)
     clear h; have h := h2; clear h2
     refine R.call' (w39 _ _ _ _ _ _ hx8) (by first|(simp only [S]<;>rfl)|rfl) ?_
     clear hx8; cbv
     obtain ⟨s', e, hi⟩ := jn_some (fun p => p) h
     refine hLy6 s' _ _ hi ⟨by kernel_rfl, ?_, ?_, by kernel_rfl, by kernel_rfl⟩<;>cbv<;>(try (subst e;simp only [S,and_self,and_true,true_and]<;>(repeat' apply And.intro)<;>rfl))
    ·obtain ⟨s', e, hi⟩ := jn_some (fun p => p) h
     refine hLy6 s' _ _ hi ⟨by kernel_rfl, ?_, ?_, by kernel_rfl, by kernel_rfl⟩<;>cbv<;>(try (subst e;simp only [S,and_self,and_true,true_and]<;>(repeat' apply And.intro)<;>rfl))
   ·clear h; have h := h2; clear h2; try dsimp only at h
    cbv
    refine R.cutB (fun p => p) (fun _ _ e => e) h [] (fun p16 => []) (fun p16 => [(336, .row 2 p16)]) (by kernel_rfl) (by kernel_rfl) (fun y12 hy hFy12 L hLy12 => ?_) (fun p16 h2 => ?_)
    ·clear h; have h := hy; clear hy; cbv
     refine R.loopD h (fun s0 y14 e0 hi hFs13 => ?_)
     clear h
     refine R.loopI hi [] (fun s13 => [(31, .i .i64 s13.1)]) (fun s13 => [(336, .row 2 s13.2)]) ⟨by kernel_rfl, ?_, ?_, by kernel_rfl, by kernel_rfl⟩ (by kernel_rfl) ?_
     ·cbv; try (subst e0; simp only [S, and_self, and_true, true_and] <;> (repeat' apply And.intro) <;> rfl)
     ·cbv; try (subst e0; simp only [S, and_self, and_true, true_and] <;> (repeat' apply And.intro) <;> rfl)
     clear hi e0
     intro s13 m y' hy hins13 houts13 L hLs13
     have h := hy; clear hy; unfold d13_b1 at h
     cbv
     refine R.cut' (by kernel_rfl) (by kernel_rfl) ?_
     cbv
     refine R.brD h (by first|(simp only [S]<;>rfl)|rfl) ?_ ?_<;>clear h<;>intro h<;>cbv
     ·refine R.cut' (by kernel_rfl) (by kernel_rfl) ?_
      cbv
      refine R.needD h (by first|(simp only [S]<;>rfl)|rfl) ?_
      clear h; intro h; cbv
      refine R.needD h (by first|(simp only [S]<;>rfl)|rfl) ?_
      clear h; intro h; cbv
      refine R.needD h (by first|(simp only [S]<;>rfl)|rfl) ?_
      clear h; intro h; cbv
      obtain ⟨s', e, hi⟩ := inl_some h hins13
      refine hLs13 s' _ _ hi ⟨by kernel_rfl, ?_, ?_, by kernel_rfl, by kernel_rfl⟩<;>cbv<;>(try (subst e;simp only [S,and_self,and_true,true_and]<;>(repeat' apply And.intro)<;>rfl))
     ·have e := inr_some h houts13; clear h
      have h := hFs13; rw [e] at h; clear e; try dsimp only at h
      cbv
      obtain ⟨s', e, hi⟩ := jn_some (fun p => p) h
      refine hLy12 s' _ _ hi ⟨by kernel_rfl, ?_, ?_, by kernel_rfl, by kernel_rfl⟩<;>cbv<;>(try (subst e;simp only [S,and_self,and_true,true_and]<;>(repeat' apply And.intro)<;>rfl))
    ·clear h; have h := h2; clear h2; try dsimp only at h
     cbv
     have e := ret_some h; clear h
     refine hK _ _ ⟨rfl, ⟨?_, rfl, rfl, rfl, ?_⟩⟩<;>cbv<;>(try (subst e;simp only [S,and_self,and_true,true_and]<;>(repeat' apply And.intro)<;>rfl))
theorem w13s (a0_0 : ByteArray) (a0_1 : Int) (a0_2 : List V) (a0_3 : List V) (a1 : List V) (a2 : Int) (r : List V × Int) (h : d13 a0_0 a0_1 a0_2 a0_3 a1 a2 = some r) : Ab.Fn Try.prog TT 13 [.agg [.str a0_0, .i .i64 a0_1, .sl 2 a0_2, .sl 74 a0_3], .sl 2 a1, .i .i64 a2] (.tup [.sl 2 r.1, .i .i64 r.2]) [] :=
 (w13 a0_0 a0_1 a0_2 a0_3 a1 a2 r h).pure (by simp [ple, ple1, ple1L, pleL, pleS, Ab.look])
noncomputable def d19_b1 (a0_0 : ByteArray) (a0_1 : Int) (a0_2 : List V) (a0_3 : List V) (a1 : List V) (s11 : List V × Int × Int) : Option ((List V × Int × Int) ⊕ (List V × Int)) :=
 if (cmpLit .lss s11.2.2 (lenI a1)) = true then
 if (cmpLit .eql s11.2.1 0) = true then
 if (Inb s11.2.2 (lenI a1)) then
 (d23 a0_0 a0_1 a0_2 a0_3 s11.1 (gI a1 s11.2.2 0)).bind fun x16 =>
 some (.inl (x16.1, x16.2, (arReal .add .i64 s11.2.2 1)))
 else none
 else
 some (.inr (s11.1, s11.2.1))
 else
 some (.inr (s11.1, s11.2.1))
noncomputable def d19 (a0_0 : ByteArray) (a0_1 : Int) (a0_2 : List V) (a0_3 : List V) (a1 : List V) : Option (List V × Bool) :=
 (d18 a0_0 a0_1 a0_2 a0_3).bind fun x1 =>
 Option.bind (α := List V × Int) (
 (iter (d19_b1 a0_0 a0_1 a0_2 a0_3 a1) (x1.1, x1.2, 0)).bind fun y14 =>
 some (y14.1, y14.2)) fun y8 =>
 some (y8.1, (cmpLit .eql y8.2 0))
noncomputable def w19_c : Code := (Try.f19.body).getD .skip
theorem w19_h : Try.f19.body = some w19_c := by kernel_rfl
theorem w19 (a0_0 : ByteArray) (a0_1 : Int) (a0_2 : List V) (a0_3 : List V) (a1 : List V) (r : List V × Bool) (h : d19 a0_0 a0_1 a0_2 a0_3 a1 = some r) : Ab.Fn Try.prog TT 19 [.agg [.str a0_0, .i .i64 a0_1, .sl 2 a0_2, .sl 74 a0_3], .sl 2 a1] (.tup [.sl 2 r.1, .b r.2]) [] := by
 refine fn_pure tok (fun r => match r with | 5 => [[],[],[],[],[2,3],[2,3,4],[0,1,2,3,4,5],[0,1,2,3,4,5,6],[0,1,2,3,4,5,6,7],[0,1,2,3,4,5,6,7],[0,1,2,3,4,5,6,7,8],[0,1,2,3,4,5,6,7,8,9,10]] | _ => []) Try.func19 (by kernel_rfl) w19_h (by kernel_rfl) ?_
 intro _ _ _ _ _ _ _ _ _ _ _ _ _ _ _ _ _ _ _ _ _ _ _ _ _ _ _ _ _ _ _ _ _ _ _ _ _ _ _ _ _ E R K hK
 have D := E.D
 clear E
 have S := And.intro D.har (And.intro D.hcmp (And.intro D.hgi (And.intro D.hinb (D.hlen))))
 unfold d19 at h
 cbv
 refine R.callD h (fun x1 hx1 h2 => ?_)
 clear h; have h := h2; clear h2
 refine R.call' (w18s _ _ _ _ _ hx1) (by first|(simp only [S]<;>rfl)|rfl) ?_
 clear hx1; cbv
 refine R.cutB (fun p => p) (fun _ _ e => e) h [] (fun p18 => [(6, .sl 2 p18.1), (7, .i .i64 p18.2)]) (fun p18 => []) (by kernel_rfl) (by kernel_rfl) (fun y8 hy hFy8 L hLy8 => ?_) (fun p18 h2 => ?_)
 ·clear h; have h := hy; clear hy; cbv
  refine R.loopD h (fun s0 y14 e0 hi hFs11 => ?_)
  clear h
  refine R.loopI hi [] (fun s11 => [(6, .sl 2 s11.1), (7, .i .i64 s11.2.1), (8, .i .i64 s11.2.2)]) (fun s11 => []) ⟨by kernel_rfl, ?_, ?_, by kernel_rfl, by kernel_rfl⟩ (by kernel_rfl) ?_
  ·cbv; try (subst e0; simp only [S, and_self, and_true, true_and] <;> (repeat' apply And.intro) <;> rfl)
  ·cbv; try (subst e0; simp only [S, and_self, and_true, true_and] <;> (repeat' apply And.intro) <;> rfl)
  clear hi e0
  intro s11 m y' hy hins11 houts11 L hLs11
  have h := hy; clear hy; unfold d19_b1 at h
  cbv
  refine R.cut' (by kernel_rfl) (by kernel_rfl) ?_
  cbv
  refine R.cut' (by kernel_rfl) (by kernel_rfl) ?_
  cbv
  refine R.brD h (by first|(simp only [S]<;>rfl)|rfl) ?_ ?_<;>clear h<;>intro h<;>cbv
  ·refine R.brD h (by first|(simp only [S]<;>rfl)|rfl) ?_ ?_<;>clear h<;>intro h<;>cbv
   ·refine R.cut' (by kernel_rfl) (by kernel_rfl) ?_
    cbv
    refine R.needD h (by first|(simp only [S]<;>rfl)|rfl) ?_
    clear h; intro h; cbv
    refine R.callD h (fun x16 hx16 h2 => ?_)
    clear h; have h := h2; clear h2
    refine R.call' (w23 _ _ _ _ _ _ _ hx16) (by first|(simp only [S]<;>rfl)|rfl) ?_
    clear hx16; cbv
    obtain ⟨s', e, hi⟩ := inl_some h hins11
    refine hLs11 s' _ _ hi ⟨by kernel_rfl, ?_, ?_, by kernel_rfl, by kernel_rfl⟩<;>cbv<;>(try (subst e;simp only [S,and_self,and_true,true_and]<;>(repeat' apply And.intro)<;>rfl))
   ·have e := inr_some h houts11; clear h
    have h := hFs11; rw [e] at h; clear e; try dsimp only at h
    cbv
    obtain ⟨s', e, hi⟩ := jn_some (fun p => p) h
    refine hLy8 s' _ _ hi ⟨by kernel_rfl, ?_, ?_, by kernel_rfl, by kernel_rfl⟩<;>cbv<;>(try (subst e;simp only [S,and_self,and_true,true_and]<;>(repeat' apply And.intro)<;>rfl))
  ·have e := inr_some h houts11; clear h
   have h := hFs11; rw [e] at h; clear e; try dsimp only at h
   cbv
   obtain ⟨s', e, hi⟩ := jn_some (fun p => p) h
   refine hLy8 s' _ _ hi ⟨by kernel_rfl, ?_, ?_, by kernel_rfl, by kernel_rfl⟩<;>cbv<;>(try (subst e;simp only [S,and_self,and_true,true_and]<;>(repeat' apply And.intro)<;>rfl))
 ·clear h; have h := h2; clear h2; try dsimp only at h
  cbv
  have e := ret_some h; clear h
  refine hK _ _ ?_
  cbv
  try (subst e; simp only [S, and_self, and_true, true_and] <;> (repeat' apply And.intro) <;> rfl)
end Go.Proofs.Ytmofhbedamjblaa
end
section
end
section
namespace Go.Proofs.Ytmofhbedamjblaa
open Go.Ab Go.RowKit
set_option maxRecDepth 100000
def Cnt (x : Int) : Prop := 0 ≤ x ∧ x ≤ 4611686018427387904
def valS (fn : Int) (p : List Int) (s : List Int) : Prop := (s.length : Int) = wd fn p ∧ (7 ≤ fn → ∀ x ∈ s, Cnt x) ∧ (fn ≠ 2 → fn < 7 → Cnt (s.getD 0 0) ∧ (s.getD 0 0 = 0 → ∀ x ∈ s, x = 0))
noncomputable instance (fn : Int) (p : List Int) (s : List Int) : Decidable (valS fn p s) := Classical.propDecidable _
theorem e74b : d74_b1 = d54_b1 := rfl
theorem lenI_vi (l : List Int) : lenI (vi l) = ((l.length : Nat) : Int) := vi_len l
theorem all_geti {ks : List Int} {P : Int → Prop} : (∀ k ∈ ks, P k) ↔ ∀ i, (h : i < ks.length) → P ks[i] := by
 constructor
 ·intro h i hi; exact h _ (List.getElem_mem hi)
 ·intro h k hk
  obtain ⟨i, hi, rfl⟩ := List.getElem_of_mem hk
  exact h i hi
open Classical in
theorem loop54 (l : List Int) (hl : l.length ≤ 9223372036854775807) : iter (d54_b1 (vi l)) 0 = some (if ∀ x ∈ l, Cnt x then (.inr () : Bool ⊕ Unit) else .inl false) := by
 have go : ∀ j : Nat, (hj : j < l.length) → Cnt l[j] → d54_b1 (vi l) (j : Int) = some (.inl ((j + 1 : Nat) : Int)) := by
  intro j hj hP
  unfold d54_b1
  rw [lenI_vi, if_pos (lt_i hj), if_pos (inb_i hj), gI_vi _ _ hj, s76, succ_i hj hl]
  simp only [Option.bind_some, notB_dec]
  exact nif (p := 0 ≤ l[j] ∧ l[j] ≤ 4611686018427387904) hP
 rw [show (0 : Int) = ((0 : Nat) : Int) from rfl]
 rcases first_bad (fun i => ∀ h : i < l.length, Cnt l[i]) l.length with h | ⟨i, hi, hb, hlt⟩
 ·rw [if_pos (all_geti.2 (fun i hi => h i hi hi))]
  refine scan (d54_b1 (vi l)) (fun j => (j : Int)) (Nat.zero_le _) (fun j _ hj => go j hj (h j hj hj)) ?_
  unfold d54_b1
  rw [lenI_vi, if_neg (nlt_i _)]
 ·have hb' : ¬ Cnt l[i] := fun h => hb (fun _ => h)
  rw [if_neg (fun h => hb' (h _ (List.getElem_mem hi)))]
  refine scan (d54_b1 (vi l)) (fun j => (j : Int)) (Nat.zero_le i) (fun j _ hj => go j (by omega) (hlt j hj (by omega))) ?_
  unfold d54_b1
  rw [lenI_vi, if_pos (lt_i hi), if_pos (inb_i hi), gI_vi _ _ hi, s76]
  simp only [Option.bind_some, notB_dec]
  exact nif' (p := 0 ≤ l[i] ∧ l[i] ≤ 4611686018427387904) hb'
open Classical in
theorem s79 (l : List Int) (hl : l.length ≤ 9223372036854775807) : d79v1 (vi l) = some (decide (¬ ∀ x ∈ l, x = 0)) := by
 have go : ∀ j : Nat, (hj : j < l.length) → l[j] = 0 → d118v1_b1 (vi l) (j : Int) = some (.inl ((j + 1 : Nat) : Int)) := by
  intro j hj hP
  unfold d118v1_b1 d80v1 d78
  rw [lenI_vi, if_pos (lt_i hj), if_pos (inb_i hj), gI_vi _ _ hj, succ_i hj hl, c_eql]
  simp only [Option.bind_some, notB_dec]
  exact nif (p := l[j] = 0) hP
 unfold d79v1 d118v1
 rw [show (0 : Int) = ((0 : Nat) : Int) from rfl]
 rcases first_bad (fun i => ∀ h : i < l.length, l[i] = 0) l.length with h | ⟨i, hi, hb, hlt⟩
 ·have hall : ∀ x ∈ l, x = 0 := all_geti.2 (fun i hi => h i hi hi)
  have hI : iter (d118v1_b1 (vi l)) ((0 : Nat) : Int) = some (.inr ()) := by
   refine scan (d118v1_b1 (vi l)) (fun j => (j : Int)) (Nat.zero_le _) (fun j _ hj => go j hj (h j hj hj)) ?_
   unfold d118v1_b1
   rw [lenI_vi, if_neg (nlt_i _)]
  rw [hI]
  simp only [Option.bind_some, c_geq]
  refine someD ⟨fun h => ?_, fun h => (h hall).elim⟩
  omega
 ·have hb' : ¬ l[i] = 0 := fun h => hb (fun _ => h)
  have hI : iter (d118v1_b1 (vi l)) ((0 : Nat) : Int) = some (.inl (i : Int)) := by
   refine scan (d118v1_b1 (vi l)) (fun j => (j : Int)) (Nat.zero_le i) (fun j _ hj => go j (by omega) (hlt j hj (by omega))) ?_
   unfold d118v1_b1 d80v1 d78
   rw [lenI_vi, if_pos (lt_i hi), if_pos (inb_i hi), gI_vi _ _ hi, c_eql]
   simp only [Option.bind_some, notB_dec]
   exact nif' (p := l[i] = 0) hb'
  rw [hI]
  simp only [Option.bind_some, c_geq]
  refine someD ⟨fun _ h => hb' (h _ (List.getElem_mem hi)), fun h => ?_⟩
  omega
open Classical in
theorem loop74 (l : List Int) (hl : l.length ≤ 9223372036854775807) (h0 : 0 < l.length) : iter (d74_b2 (vi l)) 1 = some (if l.getD 0 0 = 0 → ∀ x ∈ l, x = 0 then (.inr () : Bool ⊕ Unit) else .inl false) := by
 have e0 : l.getD 0 0 = l[0] := by simp [List.getD_eq_getElem?_getD, h0]
 rw [e0]
 have g0 : gI (vi l) 0 0 = l[0] := gI_vi l 0 h0
 have i0 : Inb 0 (l.length : Int) := inb_i (j := 0) h0
 have go : ∀ j : Nat, (hj : j < l.length) → (l[0] = 0 → l[j] = 0) → d74_b2 (vi l) (j : Int) = some (.inl ((j + 1 : Nat) : Int)) := by
  intro j hj hP
  unfold d74_b2
  rw [lenI_vi, if_pos (lt_i hj), if_pos i0, g0, c_eql, if_pos (inb_i hj), gI_vi _ _ hj, succ_i hj hl, c_neq]
  by_cases hz : l[0] = 0
  ·rw [yif hz]; exact nif (p := l[j] = 0) (hP hz)
  ·rw [yif' hz]
 rw [show (1 : Int) = ((1 : Nat) : Int) from rfl]
 rcases first_bad (fun i => ∀ h : i < l.length, l[0] = 0 → l[i] = 0) l.length with h | ⟨i, hi, hb, hlt⟩
 ·rw [if_pos (fun hz => all_geti.2 (fun i hi => h i hi hi hz))]
  refine scan (d74_b2 (vi l)) (fun j => (j : Int)) (by omega) (fun j _ hj => go j hj (h j hj hj)) ?_
  unfold d74_b2
  rw [lenI_vi, if_neg (nlt_i _)]
 ·have hz : l[0] = 0 := Classical.byContradiction fun h => hb (fun _ k => (h k).elim)
  have hb' : ¬ l[i] = 0 := fun h => hb (fun _ _ => h)
  have hi0 : 1 ≤ i := by
   rcases Nat.eq_zero_or_pos i with rfl | h
   ·exact (hb' hz).elim
   ·exact h
  rw [if_neg (fun h => hb' (h hz _ (List.getElem_mem hi)))]
  refine scan (d74_b2 (vi l)) (fun j => (j : Int)) hi0 (fun j _ hj => go j (by omega) (hlt j hj (by omega))) ?_
  unfold d74_b2
  rw [lenI_vi, if_pos (lt_i hi), if_pos i0, g0, c_eql, if_pos (inb_i hi), gI_vi _ _ hi, c_neq, yif hz]
  exact nif' (p := l[i] = 0) hb'
theorem vi_take (l : List Int) (n : Nat) : (vi l).take n = vi (l.take n) := by unfold vi; rw [List.map_take]
theorem vi_drop (l : List Int) (n : Nat) : (vi l).drop n = vi (l.drop n) := by unfold vi; rw [List.map_drop]
theorem s31 (nm : ByteArray) (fn : Int) (p ks : List V) : d31 nm fn p ks = some (decide (fn ≥ 7)) := by unfold d31; rw [c_geq]
theorem inb_0 {n : Nat} (h : 0 < n) : Inb 0 (n : Int) := ⟨by omega, by omega⟩
theorem e41 : d41 = d31 := rfl
open Classical in
theorem s54 {nm : ByteArray} {fn : Int} {p : List Int} {ks : List V} (h : okA nm fn p ks) (s : List Int) (hs : s.length ≤ 9223372036854775807) : d54 nm fn (vi p) ks (vi s) = some (decide (valS fn p s)) := by
 have hw := wd_rng h
 unfold d54
 rw [s34 h]
 simp only [Option.bind_some, lenI_vi, c_neq]
 by_cases hl : (s.length : Int) = wd fn p
 ·rw [nif hl, if_pos (show Bnd 0 1 (s.length : Int) from ⟨by omega, by omega, by omega⟩), s31]
  simp only [Option.bind_some]
  have h0 : 0 < s.length := by omega
  have eg : gI (vi s) 0 0 = s.getD 0 0 := by
   rw [show gI (vi s) 0 0 = s[0] from gI_vi s 0 h0]
   simp [List.getD_eq_getElem?_getD, h0]
  by_cases h7 : fn ≥ 7
  ·simp only [yif h7, Option.bind_some]
   have h2 : ¬ fn = 2 := by omega
   simp only [c_eql, yif' h2, Option.bind_some, loop54 s hs]
   by_cases hc : ∀ x ∈ s, Cnt x
   ·rw [if_pos hc]
    exact someD (p := True) ⟨fun _ => ⟨hl, fun _ => hc, fun _ h => by omega⟩, fun _ => trivial⟩
   ·rw [if_neg hc]
    exact someF (fun h => hc (h.2.1 h7))
  ·simp only [yif' h7, Option.bind_some]
   have et : subL (vi s) 0 1 = vi (s.take 1) := by
    unfold subL
    rw [show (1 : Int).toNat = 1 from rfl, show (0 : Int).toNat = 0 from rfl, List.drop_zero, vi_take]
   have ed : subL (vi s) 1 (s.length : Int) = vi (s.drop 1) := by
    unfold subL
    rw [show (1 : Int).toNat = 1 from rfl, Int.toNat_natCast, List.take_of_length_le (by rw [vi_length]; omega), vi_drop]
   simp only [et, ed, c_eql, c_neq, eg]
   by_cases h2 : fn = 2
   ·simp only [yif h2, Option.bind_some]
    have el := loop54 [] (by simp)
    rw [show vi [] = ([] : List V) from rfl] at el
    rw [el, if_pos (by simp)]
    simp only [Option.bind_some]
    rw [if_pos (inb_0 h0)]
    have tr : some true = some (decide (valS fn p s)) := someD (p := True) ⟨fun _ => ⟨hl, fun h => by omega, fun h => (h h2).elim⟩, fun _ => trivial⟩
    by_cases hz : s.getD 0 0 = 0
    ·rw [nif hz]; exact tr
    ·rw [nif' hz]; exact tr
   ·simp only [yif' h2, Option.bind_some, loop54 (s.take 1) (by rw [List.length_take]; omega)]
    have hta : (∀ x ∈ s.take 1, Cnt x) ↔ Cnt (s.getD 0 0) := by
     match s, h0 with
     | x :: r, _ => simp
    by_cases hc : Cnt (s.getD 0 0)
    ·rw [if_pos (hta.2 hc)]
     simp only [Option.bind_some]
     rw [if_pos (inb_0 h0)]
     by_cases hz : s.getD 0 0 = 0
     ·rw [nif hz, if_pos (show Bnd 1 (s.length : Int) (s.length : Int) from ⟨by omega, by omega, by omega⟩), s79 _ (by rw [List.length_drop]; omega)]
      simp only [Option.bind_some, notB_dec]
      refine someD ⟨fun hn => ⟨hl, fun h => (h7 h).elim, fun _ _ => ⟨hc, fun _ => ?_⟩⟩, fun hv hn => hn ?_⟩
      ·have hn := Classical.not_not.1 hn
       match s, h0 with
       | x :: r, _ =>
        intro y hy
        rcases List.mem_cons.1 hy with rfl | hy
        ·exact hz
        ·exact hn y hy
      ·intro x hx
       exact (hv.2.2 h2 (by omega)).2 hz x (List.mem_of_mem_drop hx)
     ·rw [nif' hz]
      exact someD (p := True) ⟨fun _ => ⟨hl, fun h => (h7 h).elim, fun _ _ => ⟨hc, fun h => (hz h).elim⟩⟩, fun _ => trivial⟩
    ·rw [if_neg (fun h => hc (hta.1 h))]
     exact someF (fun h => hc (h.2.2 h2 (by omega)).1)
 ·rw [nif' hl]
  exact someF (fun h => hl h.1)
open Classical in
theorem s74 {nm : ByteArray} {fn : Int} {p : List Int} {ks : List V} (h : okA nm fn p ks) (s : List Int) (hs : s.length ≤ 9223372036854775807) : d74 nm fn (vi p) ks (vi s) = some (decide (valS fn p s)) := by
 have hw := wd_rng h
 unfold d74
 rw [s43 h]
 simp only [Option.bind_some, lenI_vi, c_neq]
 by_cases hl : (s.length : Int) = wd fn p
 ·rw [nif hl, e41, s31]
  simp only [Option.bind_some]
  have h0 : 0 < s.length := by omega
  have eg : gI (vi s) 0 0 = s.getD 0 0 := by
   rw [show gI (vi s) 0 0 = s[0] from gI_vi s 0 h0]
   simp [List.getD_eq_getElem?_getD, h0]
  by_cases h7 : fn ≥ 7
  ·have h2 : ¬ fn = 2 := by omega
   simp only [yif h7, e74b, Option.bind_some, loop54 s hs]
   by_cases hc : ∀ x ∈ s, Cnt x
   ·rw [if_pos hc]
    refine someD (p := True) ⟨fun _ => ⟨hl, fun _ => hc, fun _ h => by omega⟩, fun _ => trivial⟩
   ·rw [if_neg hc]
    exact someF (fun h => hc (h.2.1 h7))
  ·simp only [yif' h7, Option.bind_some, c_eql]
   by_cases h2 : fn = 2
   ·rw [yif h2]
    exact someD (p := True) ⟨fun _ => ⟨hl, fun h => by omega, fun h => (h h2).elim⟩, fun _ => trivial⟩
   ·rw [yif' h2, if_pos (inb_0 h0), e111, s76, eg]
    simp only [Option.bind_some, notB_dec]
    by_cases hc : Cnt (s.getD 0 0)
    ·rw [nif (p := 0 ≤ s.getD 0 0 ∧ s.getD 0 0 ≤ 4611686018427387904) hc, loop74 s hs h0]
     by_cases hz : s.getD 0 0 = 0 → ∀ x ∈ s, x = 0
     ·rw [if_pos hz]
      exact someD (p := True) ⟨fun _ => ⟨hl, fun h => (h7 h).elim, fun _ _ => ⟨hc, hz⟩⟩, fun _ => trivial⟩
     ·rw [if_neg hz]
      exact someF (fun h => hz (h.2.2 h2 (by omega)).2)
    ·rw [nif' (p := 0 ≤ s.getD 0 0 ∧ s.getD 0 0 ≤ 4611686018427387904) hc]
     exact someF (fun h => hc (h.2.2 h2 (by omega)).1)
 ·rw [nif' hl]
  exact someF (fun h => hl h.1)
noncomputable def chkS (nm : ByteArray) (fn : Int) (p : List Int) (ks : List V) (s : List Int) : Int := if okA nm fn p ks then (if valS fn p s then 0 else 211) else 210
theorem s25 (nm : ByteArray) (fn : Int) (p : List Int) (ks : List V) (hp : ∀ x ∈ p, I64 x) (s : List Int) (hs : s.length ≤ 9223372036854775807) : d25 nm fn (vi p) ks (vi s) = some (chkS nm fn p ks s) := by
 unfold d25 chkS
 rw [s22 nm fn p ks hp]
 simp only [Option.bind_some, c_neq]
 by_cases h : okA nm fn p ks
 ·rw [if_pos h, if_pos h, nif rfl, s54 h s hs]
  simp only [Option.bind_some, notB_dec]
  by_cases hv : valS fn p s
  ·rw [nif hv, if_pos hv]
  ·rw [nif' hv, if_neg hv]
 ·rw [if_neg h, if_neg h, nif' (by omega)]
theorem s47 (nm : ByteArray) (fn : Int) (p : List Int) (ks : List V) (hp : ∀ x ∈ p, I64 x) (s : List Int) (hs : s.length ≤ 9223372036854775807) : d47 nm fn (vi p) ks (vi s) = some (chkS nm fn p ks s) := by
 unfold d47 chkS
 rw [s40 nm fn p ks hp]
 simp only [Option.bind_some, c_eql]
 by_cases h : okA nm fn p ks
 ·rw [if_pos h, if_pos h, yif rfl, s74 h s hs]
  simp only [Option.bind_some, notB_dec]
  by_cases hv : valS fn p s
  ·rw [nif hv, if_pos hv]
  ·rw [nif' hv, if_neg hv]
 ·rw [if_neg h, if_neg h, yif' (by omega)]
theorem lenI1 (a : V) : lenI [a] = ((1 : Nat) : Int) := rfl
theorem nlt_ii {i n : Nat} (h : n ≤ i) : ¬ cmpLit .lss (i : Int) (n : Int) = true := by rw [c_lss, dF (by omega)]; simp
theorem s37_1 (nm : ByteArray) (fn : Int) (p : List Int) (ks : List V) (hp : ∀ x ∈ p, I64 x) (s : List Int) (hs : s.length ≤ 9223372036854775807) : d37 nm fn (vi p) ks [.sl 2 (vi s)] = some (chkS nm fn p ks s) := by
  unfold d37
  by_cases hz : chkS nm fn p ks s = 0
  · have hI : iter (d37_b1 nm fn (vi p) ks [.sl 2 (vi s)]) ((0 : Nat) : Int) = some (.inr ()) := by
      refine scan (d37_b1 nm fn (vi p) ks [.sl 2 (vi s)]) (fun j => (j : Int)) (i := 1) (by omega) (fun j _ hj => ?_) ?_
      · obtain rfl : j = 0 := by omega
        unfold d37_b1
        rw [lenI1, if_pos (lt_i (by omega)), if_pos (inb_i (by omega)), show gL [.sl 2 (vi s)] ((0 : Nat) : Int) 0 = vi s from rfl, s25 nm fn p ks hp s hs]
        simp only [Option.bind_some, c_neq]
        rw [nif hz]
        rfl
      · unfold d37_b1
        rw [lenI1, if_neg (nlt_ii (by omega))]
    rw [show (0 : Int) = ((0 : Nat) : Int) from rfl, hI]
    simp only [Option.bind_some]
    rw [s22 nm fn p ks hp, hz]
    unfold chkS at hz
    by_cases h : okA nm fn p ks
    · rw [if_pos h]; rfl
    · rw [if_neg h] at hz; omega
  · have hI : iter (d37_b1 nm fn (vi p) ks [.sl 2 (vi s)]) ((0 : Nat) : Int) = some (.inl (chkS nm fn p ks s)) := by
      refine iter_inr ?_
      unfold d37_b1
      rw [lenI1, if_pos (lt_i (by omega)), if_pos (inb_i (by omega)), show gL [.sl 2 (vi s)] ((0 : Nat) : Int) 0 = vi s from rfl, s25 nm fn p ks hp s hs]
      simp only [Option.bind_some, c_neq]
      rw [nif' hz]
    rw [show (0 : Int) = ((0 : Nat) : Int) from rfl, hI]
    rfl
end Go.Proofs.Ytmofhbedamjblaa
end
section
namespace Go.Proofs.Ytmofhbedamjblaa
open Go.Ab Go.RowKit
set_option maxRecDepth 100000
def sq2 (h l h' l' : Int) : Int := (W2 (wrapK .u64 h) (wrapK .u64 l) + W2 (wrapK .u64 h') (wrapK .u64 l')) % 340282366920938463463374607431768211456
def hi2 (n : Int) : Int := wrapK .i64 (n / 18446744073709551616)
def lo2 (n : Int) : Int := wrapK .i64 (n % 18446744073709551616)
def pick (fn a x b y : Int) : Int :=
  if fn = 3 then (if 0 < b ∧ (a = 0 ∨ y < x) then y else x) else if fn = 4 then (if 0 < b ∧ (a = 0 ∨ y > x) then y else x) else wrapK .i64 (x + y)
def mg (fn : Int) (s t : List Int) : List Int :=
  if fn = 1 ∨ 7 ≤ fn then List.zipWith (fun a b => a + b) s t
  else if fn = 2 then List.zipWith (fun a b => wrapK .i64 (a + b)) s t
  else match s, t with
  | [a, x], [b, y] => [a + b, pick fn a x b y]
  | [a, x, h, l], [b, y, h', l'] => [a + b, wrapK .i64 (x + y), hi2 (sq2 h l h' l'), lo2 (sq2 h l h' l')]
  | _, _ => s
def gd (fn : Int) (s t : List Int) : Prop :=
  if fn = 2 then True else if fn = 1 ∨ 7 ≤ fn then ∀ i, i < s.length → s.getD i 0 + t.getD i 0 ≤ 4611686018427387904 else s.getD 0 0 + t.getD 0 0 ≤ 4611686018427387904
noncomputable instance (fn : Int) (s t : List Int) : Decidable (gd fn s t) := Classical.propDecidable _
theorem iv_n {l : List Int} {i : Nat} (h : i < l.length) : Inb (i : Int) (lenI (vi l)) := by rw [lenI_vi]; exact inb_i h
theorem putL_vi (l : List Int) (j : Nat) (x : Int) (h : j < l.length) : putL (vi l) (j : Int) 0 [.i .i64 x] = vi (l.set j x) := by
  unfold putL
  have : (vi l).getD (Int.toNat (j : Int)) V.dead = .i .i64 l[j] := by
    rw [Int.toNat_natCast, List.getD_eq_getElem?_getD]
    simp [vi, h]
  rw [this, Int.toNat_natCast]
  show (vi l).set j (.i .i64 x) = _
  unfold vi
  rw [List.map_set]
theorem s123 (nm : ByteArray) (fn : Int) (p ks : List V) {l : List Int} {i : Nat} {n : Int} (hi : i < l.length) (hl : I64 l[i]) (hn : Cnt n) : d123v2 nm fn p ks (i : Int) n (vi l) = some (if l[i] + n ≤ 4611686018427387904 then (true, vi (l.set i (l[i] + n))) else (false, vi l)) := by
  obtain ⟨n0, n1⟩ := hn
  obtain ⟨l0, l1⟩ := hl
  unfold d123v2
  rw [if_pos (iv_n hi), gI_vi _ _ hi, ar_sub' ⟨by omega, by omega⟩, c_gtr, if_pos (iv_n hi), if_pos (iv_n hi)]
  by_cases h : l[i] + n ≤ 4611686018427387904
  · rw [if_pos h, yif' (by omega), ar_add' ⟨by omega, by omega⟩, putL_vi _ _ _ hi]
  · rw [if_neg h, yif (by omega)]
theorem s38 (l : List Int) (h : l.length ≤ 2000) : d38 (vi l) = some (vi l) := by
  have hr : Room (lenI (appL [] (vi l))) 8 := by
    show Room (lenI (vi l)) 8
    rw [lenI_vi]
    exact ⟨by omega, by omega⟩
  unfold d38
  rw [if_pos hr]
  by_cases hz : vi l = []
  · rw [hz]; exact nlD_eq rfl
  · rw [nlD_ne hz]; rfl
theorem getD_get {l : List Int} {i : Nat} (h : i < l.length) : l.getD i 0 = l[i] := by simp [List.getD_eq_getElem?_getD, h]
theorem iv20 (a b : Int) : Inb 0 (lenI (vi [a, b])) := ⟨by omega, by rw [vi_len]; show (0 : Int) < 2; omega⟩
theorem iv21 (a b : Int) : Inb 1 (lenI (vi [a, b])) := ⟨by omega, by rw [vi_len]; show (1 : Int) < 2; omega⟩
theorem g20 (a b : Int) : gI (vi [a, b]) 0 0 = a := (rfl)
theorem g21 (a b : Int) : gI (vi [a, b]) 1 0 = b := (rfl)
theorem p21 (a b c : Int) : putL (vi [a, b]) 1 0 [.i .i64 c] = vi [a, c] := (rfl)
theorem p41 (a b c d x : Int) : putL (vi [a, b, c, d]) 1 0 [.i .i64 x] = vi [a, x, c, d] := (rfl)
theorem p42 (a b c d x : Int) : putL (vi [a, b, c, d]) 2 0 [.i .i64 x] = vi [a, b, x, d] := (rfl)
theorem p43 (a b c d x : Int) : putL (vi [a, b, c, d]) 3 0 [.i .i64 x] = vi [a, b, c, x] := (rfl)
theorem grow2 (nm : ByteArray) (fn : Int) (p ks : List V) {a x n : Int} (ha : Cnt a) (hn : Cnt n) : d123v2 nm fn p ks 0 n (vi [a, x]) = some (if a + n ≤ 4611686018427387904 then (true, vi [a + n, x]) else (false, vi [a, x])) :=
  s123 nm fn p ks (l := [a, x]) (i := 0) (by simp) (by obtain ⟨h1, h2⟩ := ha; exact ⟨by show _ ≤ a; omega, by show a < _; omega⟩) hn
theorem grow4 (nm : ByteArray) (fn : Int) (p ks : List V) {a x y z n : Int} (ha : Cnt a) (hn : Cnt n) : d123v2 nm fn p ks 0 n (vi [a, x, y, z]) = some (if a + n ≤ 4611686018427387904 then (true, vi [a + n, x, y, z]) else (false, vi [a, x, y, z])) :=
  s123 nm fn p ks (l := [a, x, y, z]) (i := 0) (by simp) (by obtain ⟨h1, h2⟩ := ha; exact ⟨by show _ ≤ a; omega, by show a < _; omega⟩) hn
theorem s99 (nm nm' : ByteArray) (fn fn' : Int) (p ks p' ks' : List V) {a x b y : Int} (ha : Cnt a) (hb : Cnt b) : ∃ q, d99v2 nm fn p ks nm' fn' p' ks' (vi [b, y]) (vi [a, x]) = some (if a + b ≤ 4611686018427387904 then (true, vi [a + b, pick 3 a x b y]) else (false, q)) := by
  refine ⟨vi [a, pick 3 a x b y], ?_⟩
  unfold d99v2
  simp only [iv20, iv21, ↓reduceIte, g20, g21, p21, c_gtr, c_eql, c_lss, grow2 nm fn p ks ha hb]
  by_cases h1 : b > 0
  · rw [yif h1]
    by_cases h2 : a = 0
    · rw [yif h2]
      have e : pick 3 a x b y = y := by unfold pick; rw [if_pos rfl, if_pos ⟨h1, .inl h2⟩]
      rw [e]
      simp only [Option.bind_some, ↓reduceIte]
    · rw [yif' h2]
      by_cases h3 : y < x
      · have e : pick 3 a x b y = y := by unfold pick; rw [if_pos rfl, if_pos ⟨h1, .inr h3⟩]
        rw [e, dT h3]
        simp only [Option.bind_some, ↓reduceIte]
      · have e : pick 3 a x b y = x := by unfold pick; rw [if_pos rfl, if_neg (by rintro ⟨_, h | h⟩; exact h2 h; exact h3 h)]
        rw [e, dF h3]
        simp only [Option.bind_some, Bool.false_eq_true, ↓reduceIte]
  · rw [yif' h1]
    have e : pick 3 a x b y = x := by unfold pick; rw [if_pos rfl, if_neg (fun h => h1 h.1)]
    rw [e]
    simp only [Option.bind_some, Bool.false_eq_true, ↓reduceIte]
theorem s102 (nm nm' : ByteArray) (fn fn' : Int) (p ks p' ks' : List V) {a x b y : Int} (ha : Cnt a) (hb : Cnt b) : ∃ q, d102v2 nm fn p ks nm' fn' p' ks' (vi [b, y]) (vi [a, x]) = some (if a + b ≤ 4611686018427387904 then (true, vi [a + b, pick 4 a x b y]) else (false, q)) := by
  refine ⟨vi [a, pick 4 a x b y], ?_⟩
  unfold d102v2
  simp only [iv20, iv21, ↓reduceIte, g20, g21, p21, c_gtr, c_eql, c_lss, grow2 nm fn p ks ha hb]
  have p4 : pick 4 a x b y = (if 0 < b ∧ (a = 0 ∨ y > x) then y else x) := by
    unfold pick
    rw [if_neg (by omega), if_pos rfl]
  by_cases h1 : b > 0
  · rw [yif h1]
    by_cases h2 : a = 0
    · rw [yif h2]
      have e : pick 4 a x b y = y := by rw [p4, if_pos ⟨h1, .inl h2⟩]
      rw [e]
      simp only [Option.bind_some, ↓reduceIte]
    · rw [yif' h2]
      by_cases h3 : y > x
      · have e : pick 4 a x b y = y := by rw [p4, if_pos ⟨h1, .inr h3⟩]
        rw [e, dT h3]
        simp only [Option.bind_some, ↓reduceIte]
      · have e : pick 4 a x b y = x := by rw [p4, if_neg (by rintro ⟨_, h | h⟩; exact h2 h; exact h3 h)]
        rw [e, dF h3]
        simp only [Option.bind_some, Bool.false_eq_true, ↓reduceIte]
  · rw [yif' h1]
    have e : pick 4 a x b y = x := by rw [p4, if_neg (fun h => h1 h.1)]
    rw [e]
    simp only [Option.bind_some, Bool.false_eq_true, ↓reduceIte]
theorem s104 (nm nm' : ByteArray) (fn fn' : Int) (p ks p' ks' : List V) {a x b y : Int} (ha : Cnt a) (hb : Cnt b) : ∃ q, d104v2 nm fn p ks nm' fn' p' ks' (vi [b, y]) (vi [a, x]) = some (if a + b ≤ 4611686018427387904 then (true, vi [a + b, wrapK .i64 (x + y)]) else (false, q)) := by
  refine ⟨vi [a, wrapK .i64 (x + y)], ?_⟩
  unfold d104v2
  simp only [iv20, iv21, ↓reduceIte, g20, g21, p21, show arReal .add .i64 x y = wrapK .i64 (x + y) from rfl, grow2 nm fn p ks ha hb]
  by_cases h : a + b ≤ 4611686018427387904
  · rw [if_pos h]; rfl
  · rw [if_neg h]; rfl
theorem s127' {h1 l1 h2 l2 : Int} (a : U64 h1) (b : U64 l1) (c : U64 h2) (d : U64 l2) : d127 h1 l1 h2 l2 = some (((W2 h1 l1 + W2 h2 l2) % 340282366920938463463374607431768211456) / 18446744073709551616, ((W2 h1 l1 + W2 h2 l2) % 340282366920938463463374607431768211456) % 18446744073709551616) := by
  obtain ⟨h, l, e, uh, ul, w⟩ := s127 a b c d
  rw [e, ← w]
  obtain ⟨u1, u2⟩ := uh
  obtain ⟨u3, u4⟩ := ul
  unfold W2
  congr 2 <;> omega
theorem wku_u (a : Int) : U64 (wrapK .u64 a) := by rw [wk_u64]; exact ⟨by omega, by omega⟩
theorem s107 (nm nm' : ByteArray) (fn fn' : Int) (p ks p' ks' : List V) {a x h l b y h' l' : Int} (ha : Cnt a) (hb : Cnt b) : ∃ q, d107v2 nm fn p ks nm' fn' p' ks' (vi [b, y, h', l']) (vi [a, x, h, l]) = some (if a + b ≤ 4611686018427387904 then (true, vi [a + b, wrapK .i64 (x + y), hi2 (sq2 h l h' l'), lo2 (sq2 h l h' l')]) else (false, q)) := by
  refine ⟨vi [a, wrapK .i64 (x + y), hi2 (sq2 h l h' l'), lo2 (sq2 h l h' l')], ?_⟩
  unfold d107v2 d126
  simp only [iv42, iv43, ↓reduceIte, g42, g43, Option.bind_some]
  rw [s127' (wku_u _) (wku_u _) (wku_u _) (wku_u _)]
  simp only [Option.bind_some]
  unfold d125v2
  simp only [iv42, iv43, ↓reduceIte, p42, p43, Option.bind_some]
  unfold d104v2
  simp only [iv40, iv41, ↓reduceIte, g40, g41, p41, show arReal .add .i64 x y = wrapK .i64 (x + y) from rfl, grow4 nm fn p ks ha hb]
  by_cases h : a + b ≤ 4611686018427387904
  · rw [if_pos h, if_pos h]; rfl
  · rw [if_neg h, if_neg h]; rfl
end Go.Proofs.Ytmofhbedamjblaa
end
section
namespace Go.Proofs.Ytmofhbedamjblaa
open Go.Ab Go.RowKit
set_option maxRecDepth 100000
theorem len1 {l : List Int} (h : (l.length : Int) = 1) : ∃ a, l = [a] := by
  match l, h with
  | [a], _ => exact ⟨a, rfl⟩
  | [], h => simp at h
  | a :: b :: r, h => simp at h; omega
theorem len2 {l : List Int} (h : (l.length : Int) = 2) : ∃ a b, l = [a, b] := by
  match l, h with
  | [a, b], _ => exact ⟨a, b, rfl⟩
  | [], h => simp at h
  | [a], h => simp at h
  | a :: b :: c :: r, h => simp at h; omega
theorem len4 {l : List Int} (h : (l.length : Int) = 4) : ∃ a b c d, l = [a, b, c, d] := by
  match l, h with
  | [a, b, c, d], _ => exact ⟨a, b, c, d, rfl⟩
  | [], h => simp at h
  | [a], h => simp at h
  | [a, b], h => simp at h
  | [a, b, c], h => simp at h
  | a :: b :: c :: d :: e :: r, h => simp at h; omega
theorem v1 {p s : List Int} (h : valS 1 p s) : ∃ a, s = [a] ∧ Cnt a := by
  obtain ⟨a, rfl⟩ := len1 (h.1 : (s.length : Int) = 1)
  exact ⟨a, rfl, (h.2.2 (by omega) (by omega)).1⟩
theorem v2 {p s : List Int} (h : valS 2 p s) : ∃ a, s = [a] := len1 (h.1 : (s.length : Int) = 1)
theorem v345 {fn : Int} {p s : List Int} (hf : 3 ≤ fn ∧ fn ≤ 5) (h : valS fn p s) : ∃ a x, s = [a, x] ∧ Cnt a ∧ (a = 0 → x = 0) := by
  have e : wd fn p = 2 := by unfold wd; rw [if_neg (by omega), if_neg (by omega), if_neg (by omega), if_neg (by omega), if_neg (by omega)]
  obtain ⟨a, x, rfl⟩ := len2 (h.1.trans e)
  have h2 := h.2.2 (by omega) (by omega)
  exact ⟨a, x, rfl, h2.1, fun hz => h2.2 hz x (by simp)⟩
theorem v6 {p s : List Int} (h : valS 6 p s) : ∃ a x y z, s = [a, x, y, z] ∧ Cnt a ∧ (a = 0 → x = 0 ∧ y = 0 ∧ z = 0) := by
  obtain ⟨a, x, y, z, rfl⟩ := len4 (h.1 : (s.length : Int) = 4)
  have h2 := h.2.2 (by omega) (by omega)
  exact ⟨a, x, y, z, rfl, h2.1, fun hz => ⟨h2.2 hz x (by simp), h2.2 hz y (by simp), h2.2 hz z (by simp)⟩⟩
theorem val_len {nm : ByteArray} {fn : Int} {p : List Int} {ks : List V} (h : okA nm fn p ks) {s : List Int} (hs : valS fn p s) : s.length ≤ 1002 := by
  have := wd_rng h
  have := hs.1
  omega
theorem s96 (nm : ByteArray) (fn : Int) (p ks : List V) (a x : Int) : d96v1 nm fn p ks x (vi [a]) = some (vi [wrapK .i64 (a + x)]) := by
  unfold d96v1
  have i : Inb 0 (lenI (vi [a])) := ⟨by omega, by rw [vi_len]; show (0 : Int) < 1; omega⟩
  rw [if_pos i, if_pos i]
  rfl
theorem e70 : d70 = some () := rfl
theorem chk0 {nm : ByteArray} {fn : Int} {p : List Int} {ks : List V} {s : List Int} : chkS nm fn p ks s = 0 ↔ okA nm fn p ks ∧ valS fn p s := by
  unfold chkS
  by_cases h1 : okA nm fn p ks
  · rw [if_pos h1]
    by_cases h2 : valS fn p s
    · rw [if_pos h2]; exact ⟨fun _ => ⟨h1, h2⟩, fun _ => rfl⟩
    · rw [if_neg h2]; exact ⟨fun h => by omega, fun h => (h2 h.2).elim⟩
  · rw [if_neg h1]; exact ⟨fun h => by omega, fun h => (h1 h.1).elim⟩
open Classical in
theorem s17 (s t : List Int) (hs : s.length ≤ 9223372036854775807) : d17 (vi s) (vi t) = some (decide (s = t)) := by
  unfold d17
  rw [lenI_vi, lenI_vi, c_neq]
  by_cases hl : (s.length : Int) = t.length
  · rw [nif hl]
    have go : ∀ j : Nat, (hj : j < s.length) → (hk : j < t.length) → s[j] = t[j] → d17_b1 (vi s) (vi t) (j : Int) = some (.inl ((j + 1 : Nat) : Int)) := by
      intro j hj hk hP
      unfold d17_b1
      rw [lenI_vi, lenI_vi, if_pos (lt_i hj), if_pos (inb_i hj), if_pos (inb_i hk), gI_vi _ _ hj, gI_vi _ _ hk, succ_i hj hs, c_neq]
      exact nif (p := s[j] = t[j]) hP
    rw [show (0 : Int) = ((0 : Nat) : Int) from rfl]
    rcases first_bad (fun i => ∀ h : i < s.length, ∀ h' : i < t.length, s[i] = t[i]) s.length with h | ⟨i, hi, hb, hlt⟩
    · have hall : s = t := List.ext_getElem (by omega) (fun i h1 h2 => h i h1 h1 h2)
      have hI : iter (d17_b1 (vi s) (vi t)) ((0 : Nat) : Int) = some (.inr ()) := by
        refine scan (d17_b1 (vi s) (vi t)) (fun j => (j : Int)) (Nat.zero_le _) (fun j _ hj => go j hj (by omega) (h j hj hj (by omega))) ?_
        unfold d17_b1
        rw [lenI_vi, if_neg (nlt_i _)]
      rw [hI]
      exact someD (p := True) ⟨fun _ => hall, fun _ => trivial⟩
    · have hit : i < t.length := by omega
      have hb' : ¬ s[i] = t[i] := fun h => hb (fun _ _ => h)
      have hI : iter (d17_b1 (vi s) (vi t)) ((0 : Nat) : Int) = some (.inl false) := by
        refine scan (d17_b1 (vi s) (vi t)) (fun j => (j : Int)) (Nat.zero_le i) (fun j _ hj => go j (by omega) (by omega) (hlt j hj (by omega) (by omega))) ?_
        unfold d17_b1
        rw [lenI_vi, lenI_vi, if_pos (lt_i hi), if_pos (inb_i hi), if_pos (inb_i hit), gI_vi _ _ hi, gI_vi _ _ hit, c_neq]
        exact nif' (p := s[i] = t[i]) hb'
      rw [hI]
      exact someF (fun h => hb' (by subst h; rfl))
  · rw [nif' hl]
    exact someF (fun h => hl (by rw [h]))
def zer (fn : Int) (p : List Int) : List Int := List.replicate (wd fn p).toNat 0
theorem s18 (nm : ByteArray) (fn : Int) (p : List Int) (ks : List V) (hp : ∀ x ∈ p, I64 x) : d18 nm fn (vi p) ks = some (if okA nm fn p ks then (vi (zer fn p), 0) else ([], 210)) := by
  unfold d18
  rw [s22 nm fn p ks hp]
  simp only [Option.bind_some, c_neq]
  by_cases h : okA nm fn p ks
  · have := wd_rng h
    rw [if_pos h, if_pos h, nif rfl, s34 h]
    simp only [Option.bind_some]
    rw [if_pos (show Ge0 (wd fn p) by unfold Ge0; omega), if_pos (show Room (wd fn p) 8 from ⟨by omega, by omega⟩)]
    unfold repL zer vi
    rw [List.map_replicate]
  · rw [if_neg h, if_neg h, nif' (by omega)]
theorem zer_val {nm : ByteArray} {fn : Int} {p : List Int} {ks : List V} (h : okA nm fn p ks) : valS fn p (zer fn p) := by
  have hw := wd_rng h
  unfold valS zer
  refine ⟨by rw [List.length_replicate]; omega, fun _ x hx => ?_, fun _ _ => ⟨?_, fun _ x hx => List.eq_of_mem_replicate hx⟩⟩
  · rw [List.eq_of_mem_replicate hx]; exact ⟨by omega, by omega⟩
  · rw [getD_get (by rw [List.length_replicate]; omega), List.getElem_replicate]; exact ⟨by omega, by omega⟩
end Go.Proofs.Ytmofhbedamjblaa
end
section
namespace Go.Proofs.Ytmofhbedamjblaa
open Go.Ab Go.RowKit
set_option maxRecDepth 100000
theorem pick_i {fn a x b y : Int} (hx : I64 x) (hy : I64 y) : I64 (pick fn a x b y) := by
  unfold pick
  split
  · split <;> assumption
  · split
    · split <;> assumption
    · rw [wk_i64]; exact ⟨by omega, by omega⟩
theorem pick_z {fn a x b y : Int} (hx : x = 0) (hy : y = 0) : pick fn a x b y = 0 := by
  subst hx hy
  unfold pick
  split
  · split <;> rfl
  · split
    · split <;> rfl
    · rw [wk_i64]; omega
theorem hi2_i (n : Int) : I64 (hi2 n) := by unfold hi2; rw [wk_i64]; exact ⟨by omega, by omega⟩
theorem lo2_i (n : Int) : I64 (lo2 n) := by unfold lo2; rw [wk_i64]; exact ⟨by omega, by omega⟩
theorem val_eq {fn : Int} {p s t : List Int} (hs : valS fn p s) (ht : valS fn p t) : s.length = t.length := by
  have := hs.1; have := ht.1; omega
theorem mg_c {fn : Int} (h : fn = 1 ∨ 7 ≤ fn) (s t : List Int) : mg fn s t = List.zipWith (fun a b => a + b) s t := by unfold mg; rw [if_pos h]
theorem mg_2 (s t : List Int) : mg 2 s t = List.zipWith (fun a b => wrapK .i64 (a + b)) s t := by unfold mg; rw [if_neg (by omega), if_pos rfl]
theorem mg_p {fn : Int} (h : 3 ≤ fn ∧ fn ≤ 5) (a x b y : Int) : mg fn [a, x] [b, y] = [a + b, pick fn a x b y] := by
  unfold mg; rw [if_neg (by omega), if_neg (by omega)]
theorem mg_6 (a x h l b y h' l' : Int) : mg 6 [a, x, h, l] [b, y, h', l'] = [a + b, wrapK .i64 (x + y), hi2 (sq2 h l h' l'), lo2 (sq2 h l h' l')] := by
  unfold mg; rw [if_neg (by omega), if_neg (by omega)]
theorem gd_c {fn : Int} (h : fn = 1 ∨ 7 ≤ fn) (s t : List Int) : gd fn s t ↔ ∀ i, i < s.length → s.getD i 0 + t.getD i 0 ≤ 4611686018427387904 := by unfold gd; rw [if_neg (by omega), if_pos h]
theorem gd_p {fn : Int} (h : 3 ≤ fn ∧ fn ≤ 6) (s t : List Int) : gd fn s t ↔ s.getD 0 0 + t.getD 0 0 ≤ 4611686018427387904 := by unfold gd; rw [if_neg (by omega), if_neg (by omega)]
theorem gd_2 (s t : List Int) : gd 2 s t := by unfold gd; rw [if_pos rfl]; trivial
theorem fn4 {fn : Int} (h : 1 ≤ fn ∧ fn ≤ 9) : (fn = 1 ∨ 7 ≤ fn) ∨ fn = 2 ∨ (3 ≤ fn ∧ fn ≤ 5) ∨ fn = 6 := by omega
theorem val_c {fn : Int} (h : fn = 1 ∨ 7 ≤ fn) {p s : List Int} (hs : valS fn p s) : ∀ x ∈ s, Cnt x := by
  rcases h with rfl | h
  · obtain ⟨a, rfl, ha⟩ := v1 hs
    intro x hx
    rw [List.mem_singleton.1 hx]; exact ha
  · exact hs.2.1 h
theorem zip_zero : ∀ (s : List Int) (n : Nat), s.length = n → List.zipWith (fun a b => a + b) s (List.replicate n 0) = s
  | [], n, h => by simp
  | a :: s, 0, h => by simp at h
  | a :: s, n + 1, h => by
    rw [List.replicate_succ, List.zipWith_cons_cons, zip_zero s n (by simpa using h), Int.add_zero]
theorem zer_c (fn : Int) (p : List Int) : ∀ i, (zer fn p).getD i 0 = 0 := by
  intro i
  unfold zer
  rw [List.getD_eq_getElem?_getD, List.getElem?_replicate]
  split <;> rfl
theorem mg_val {fn : Int} {p s t : List Int} (hf : 1 ≤ fn ∧ fn ≤ 9) (hs : valS fn p s) (ht : valS fn p t) (hg : gd fn s t) : valS fn p (mg fn s t) := by
  have l1 := val_eq hs ht
  rcases fn4 hf with h | rfl | h | rfl
  · rw [gd_c h] at hg
    rw [mg_c h]
    have hc : ∀ x ∈ List.zipWith (fun a b => a + b) s t, Cnt x := by
      intro x hx
      obtain ⟨i, hi, rfl⟩ := List.getElem_of_mem hx
      rw [List.length_zipWith] at hi
      have h1 : i < s.length := by omega
      have h2 : i < t.length := by omega
      have := hg i h1
      rw [getD_get h1, getD_get h2] at this
      have c1 := val_c h hs _ (List.getElem_mem h1)
      have c2 := val_c h ht _ (List.getElem_mem h2)
      rw [List.getElem_zipWith]
      exact ⟨by have := c1.1; have := c2.1; omega, this⟩
    refine ⟨by rw [List.length_zipWith]; have := hs.1; omega, fun _ => hc, fun h1 h2 => ?_⟩
    obtain rfl : fn = 1 := by omega
    obtain ⟨a, rfl, ha⟩ := v1 hs
    obtain ⟨b, rfl, hb⟩ := v1 ht
    exact ⟨hc _ (by simp), fun hz x hx => by rw [List.mem_singleton.1 hx]; exact hz⟩
  · obtain ⟨a, rfl⟩ := v2 hs
    obtain ⟨b, rfl⟩ := v2 ht
    exact ⟨rfl, fun h => by omega, fun h => (h rfl).elim⟩
  · have hl := hs.1
    obtain ⟨a, x, rfl, ha, hx⟩ := v345 h hs
    obtain ⟨b, y, rfl, hb, hy⟩ := v345 h ht
    rw [gd_p (by omega)] at hg
    rw [mg_p h]
    refine ⟨hl, fun h7 => by omega, fun _ _ => ⟨⟨?_, hg⟩, fun hz z hz2 => ?_⟩⟩
    · have := ha.1; have := hb.1; show 0 ≤ a + b; omega
    · have hz : a + b = 0 := hz
      have := ha.1; have := hb.1
      rcases List.mem_cons.1 hz2 with rfl | h3
      · exact hz
      · rw [List.mem_singleton.1 h3]
        exact pick_z (hx (by omega)) (hy (by omega))
  · obtain ⟨a, x, y, z, rfl, ha, hx⟩ := v6 hs
    obtain ⟨b, x', y', z', rfl, hb, hx'⟩ := v6 ht
    rw [gd_p (by omega)] at hg
    rw [mg_6]
    refine ⟨rfl, fun h7 => by omega, fun _ _ => ⟨⟨?_, hg⟩, fun hz w hz2 => ?_⟩⟩
    · have := ha.1; have := hb.1; show 0 ≤ a + b; omega
    · have hz : a + b = 0 := hz
      have := ha.1; have := hb.1
      obtain ⟨rfl, rfl, rfl⟩ := hx (by omega)
      obtain ⟨rfl, rfl, rfl⟩ := hx' (by omega)
      obtain rfl : a = 0 := by omega
      obtain rfl : b = 0 := by omega
      revert w hz2
      decide
theorem mg_i {fn : Int} {p s t : List Int} (hf : 1 ≤ fn ∧ fn ≤ 9) (hs : valS fn p s) (ht : valS fn p t) (hg : gd fn s t) (is : ∀ x ∈ s, I64 x) (it : ∀ x ∈ t, I64 x) : ∀ x ∈ mg fn s t, I64 x := by
  have hv := mg_val hf hs ht hg
  have ci : ∀ x, Cnt x → I64 x := fun x h => ⟨by have := h.1; omega, by have := h.2; omega⟩
  rcases fn4 hf with h | rfl | h | rfl
  · intro x hx; exact ci x (val_c h hv x hx)
  · obtain ⟨a, rfl⟩ := v2 hs
    obtain ⟨b, rfl⟩ := v2 ht
    intro x hx
    rw [mg_2] at hx
    rw [List.mem_singleton.1 hx]
    show I64 (wrapK .i64 (a + b))
    rw [wk_i64]; exact ⟨by omega, by omega⟩
  · obtain ⟨a, x, rfl, ha, hx⟩ := v345 h hs
    obtain ⟨b, y, rfl, hb, hy⟩ := v345 h ht
    have c0 := (hv.2.2 (by omega) (by omega)).1
    rw [mg_p h] at c0 ⊢
    intro z hz
    rcases List.mem_cons.1 hz with rfl | h3
    · exact ci _ c0
    · rw [List.mem_singleton.1 h3]
      exact pick_i (is x (by simp)) (it y (by simp))
  · obtain ⟨a, x, y, z, rfl, ha, hx⟩ := v6 hs
    obtain ⟨b, x', y', z', rfl, hb, hx'⟩ := v6 ht
    have c0 := (hv.2.2 (by omega) (by omega)).1
    rw [mg_6] at c0 ⊢
    intro w hw
    simp only [List.mem_cons, List.not_mem_nil, or_false] at hw
    rcases hw with rfl | rfl | rfl | rfl
    · exact ci _ c0
    · rw [wk_i64]; exact ⟨by omega, by omega⟩
    · exact hi2_i _
    · exact lo2_i _
end Go.Proofs.Ytmofhbedamjblaa
end
section
namespace Go.Proofs.Ytmofhbedamjblaa
open Go.Ab Go.RowKit
set_option maxRecDepth 100000
noncomputable def bl (a : Int) : Int := (d63 a).getD 0
theorem s63' {a : Int} (h : U64 a) : d63 a = some (bl a) ∧ Len a (bl a) := by
  obtain ⟨k, e, hk⟩ := s63 h
  unfold bl
  rw [e]
  exact ⟨rfl, hk⟩
theorem two_mono {m n : Nat} (h : m ≤ n) : (2 : Int) ^ m ≤ 2 ^ n := pow_mono (by omega) h
theorem Len.uniq {a k k' : Int} (h : Len a k) (h' : Len a k') : k = k' := by
  have key : ∀ {k k' : Int}, Len a k → Len a k' → ¬ k < k' := by
    intro k k' h h' hlt
    obtain ⟨k0, k1, k2, k3⟩ := h
    obtain ⟨j0, j1, j2, j3⟩ := h'
    have := j3 (by omega)
    have := two_mono (show k.toNat ≤ k'.toNat - 1 by omega)
    omega
  have := key h h'
  have := key h' h
  omega
theorem Len.bl {a k : Int} (ha : U64 a) (h : Len a k) : bl a = k := (s63' ha).2.uniq h
noncomputable def bk (fn : Int) (p : List Int) (v : Int) : Int := (d32 (ByteArray.mk #[]) fn (vi p) [] v).getD 0
theorem bk_of {nm : ByteArray} {fn : Int} {p : List Int} {ks : List V} {v r : Int} (h : d32 nm fn (vi p) ks v = some r) : bk fn p v = r := by
  unfold bk
  rw [show d32 (ByteArray.mk #[]) fn (vi p) [] v = d32 nm fn (vi p) ks v from rfl, h]
  rfl
theorem s32_7 {nm : ByteArray} {ks : List V} {v : Int} (hv : I64 v) : d32 nm 7 (vi []) ks v = some (if 0 ≤ v then 63 + bl v else (if 63 - bl (-v) > 0 then 63 - bl (-v) else 0)) := by
  obtain ⟨v0, v1⟩ := hv
  unfold d32
  rw [show d34 nm 7 (vi []) ks = some 127 from rfl]
  simp only [Option.bind_some]
  rw [if_pos (by decide), c_geq]
  by_cases h : 0 ≤ v
  · have hu : U64 v := ⟨h, by omega⟩
    rw [yif h, if_pos h, wk_u hu, (s63' hu).1]
    simp only [Option.bind_some]
    obtain ⟨b0, b1, _⟩ := (s63' hu).2
    rw [ar_add' ⟨by omega, by omega⟩]
  · have hu : U64 (-v) := ⟨by omega, by omega⟩
    have e : unReal .neg .u64 (wrapK .u64 v) = -v := by
      show wrapK .u64 (0 - wrapK .u64 v) = -v
      rw [wk_u64, wk_u64]; omega
    rw [yif' h, if_neg h, e, (s63' hu).1]
    simp only [Option.bind_some]
    obtain ⟨b0, b1, _⟩ := (s63' hu).2
    rw [ar_sub' ⟨by omega, by omega⟩]
    rfl
theorem lin_q {a b c v : Int} (ha : -4611686018427387904 ≤ a) (hb : b ≤ 4611686018427387904) (h1 : a ≤ v) (h2 : v < b) (hc : 1 ≤ c) (hc2 : c ≤ 4611686018427387904) : arReal .quo .u64 (arReal .sub .u64 (wrapK .u64 v) (wrapK .u64 a)) (wrapK .u64 c) = (v - a) / c ∧ 0 ≤ (v - a) / c ∧ (v - a) / c < stp a b c := by
  have e : arReal .sub .u64 (wrapK .u64 v) (wrapK .u64 a) = v - a := by rw [ar_subu, wk_u64, wk_u64, wk_u64]; omega
  rw [e, wk_u (a := c) ⟨by omega, by omega⟩, ar_quou (by omega) (by omega) (by omega)]
  refine ⟨rfl, Int.ediv_nonneg (by omega) (by omega), ?_⟩
  have : (v - a) / c + 1 ≤ stp a b c := by
    unfold stp
    rw [show (v - a) / c + 1 = (v - a + c) / c by rw [Int.add_ediv_of_dvd_right (Int.dvd_refl c), Int.ediv_self (by omega)]]
    exact Int.ediv_le_ediv (by omega) (by omega)
  omega
theorem s32_8 {nm : ByteArray} {a b c : Int} {ks : List V} {v : Int} (h : okA nm 8 [a, b, c] ks) (hv : I64 v) : d32 nm 8 (vi [a, b, c]) ks v = some (if v < a then 0 else if v ≥ b then stp a b c + 1 else 1 + (v - a) / c) := by
  obtain ⟨a', b', c', e, h1, h2, h3, h4, h5, h6⟩ := h.2.2.2.2.2.1.lin
  simp only [List.cons.injEq, and_true] at e
  obtain ⟨rfl, rfl, rfl⟩ := e
  have s0 := (s65 h3 h5 h4 h1 h2).2.1
  unfold d32
  rw [s34 h, wd8]
  simp only [Option.bind_some]
  rw [if_neg (by decide), if_pos (by decide)]
  simp only [iv30, iv31, iv32, ↓reduceIte, g30, g31, g32, c_lss, c_geq]
  by_cases q1 : v < a
  · rw [yif q1, if_pos q1]
  · rw [yif' q1, if_neg q1]
    by_cases q2 : v ≥ b
    · rw [yif q2, if_pos q2, ar_sub' ⟨by omega, by omega⟩]
      congr 1; omega
    · rw [yif' q2, if_neg q2]
      have hq := lin_q h3 h5 (by omega) (by omega) h1 h2 (v := v)
      rw [if_pos (show Ne0 (wrapK .u64 c) by rw [wk_u ⟨by omega, by omega⟩]; unfold Ne0; omega), hq.1, wk_i ⟨by omega, by omega⟩, ar_add' ⟨by omega, by omega⟩]
theorem expo {f v : Int} {L H : Nat} (hf : 2 ≤ f) (hLH : L ≤ H) (h1 : f ^ L ≤ v) (h2 : v < f ^ (H + 1)) : ∃ m : Nat, L ≤ m ∧ m ≤ H ∧ f ^ m ≤ v ∧ v < f ^ (m + 1) ∧ ∀ j, L ≤ j → j < m → f ^ (j + 1) ≤ v := by
  rcases first_bad (fun i => f ^ (L + i + 1) ≤ v) (H - L + 1) with h | ⟨i, hi, hb, hlt⟩
  · have := h (H - L) (by omega)
    rw [show L + (H - L) + 1 = H + 1 by omega] at this
    omega
  · refine ⟨L + i, by omega, by omega, ?_, by have hb : ¬ f ^ (L + i + 1) ≤ v := hb; omega, ?_⟩
    · rcases Nat.eq_zero_or_pos i with rfl | h0
      · exact h1
      · have := hlt (i - 1) (by omega)
        rw [show L + (i - 1) + 1 = L + i by omega] at this
        exact this
    · intro j hj1 hj2
      have := hlt (j - L) (by omega)
      rw [show L + (j - L) + 1 = j + 1 by omega] at this
      exact this
theorem pw_small {f : Int} {n H : Nat} (hf : 2 ≤ f) (hn : n ≤ H) (hM : f ^ H ≤ 4611686018427387904) : pw f (n : Int) = f ^ n := by
  have := pow_mono (show 1 ≤ f by omega) hn
  unfold pw
  rw [Int.toNat_natCast, if_pos (by omega)]
theorem s35_small {f : Int} {n H : Nat} (hf : 2 ≤ f) (hf2 : f ≤ 100) (hn : n ≤ H) (hM : f ^ H ≤ 4611686018427387904) (hH : H ≤ 100) : d35 f (n : Int) = some (f ^ n) := by
  rw [s35 (by omega) (by omega) (by omega) (by omega), pw_small hf hn hM]
theorem s64 {f st v : Int} {L H : Nat} (hf : 2 ≤ f) (hf2 : f ≤ 100) (hLH : L ≤ H) (hH : H ≤ 18) (hst : 1 ≤ st) (hst2 : st ≤ 100) (hM : f ^ (H + 1) ≤ 4611686018427387904) (h1 : f ^ L ≤ v) (h2 : v < f ^ (H + 1)) :
    ∃ m : Nat, L ≤ m ∧ m ≤ H ∧ f ^ m ≤ v ∧ v < f ^ (m + 1) ∧ 0 ≤ (v - f ^ m) * st / (f ^ (m + 1) - f ^ m) ∧ (v - f ^ m) * st / (f ^ (m + 1) - f ^ m) < st ∧ d64 (vi [f, (L : Int), (H : Int), st]) v = some (1 + ((m : Int) - L) * st + (v - f ^ m) * st / (f ^ (m + 1) - f ^ m)) := by
  obtain ⟨m, hm1, hm2, hm3, hm4, hm5⟩ := expo hf hLH h1 h2
  have hp1 : 0 < f ^ L := Int.pow_pos (by omega)
  have hpm : 0 < f ^ m := Int.pow_pos (by omega)
  have hmm := pow_mono (show 1 ≤ f by omega) (show m + 1 ≤ H + 1 by omega)
  have q0 : 0 ≤ (v - f ^ m) * st / (f ^ (m + 1) - f ^ m) := Int.ediv_nonneg (Int.mul_nonneg (by omega) (by omega)) (by omega)
  have hsm : (v - f ^ m) * st < st * (f ^ (m + 1) - f ^ m) := by
    rw [Int.mul_comm]
    exact Int.mul_lt_mul_of_pos_left (by omega) (by omega)
  have q1 : (v - f ^ m) * st / (f ^ (m + 1) - f ^ m) < st := Int.ediv_lt_of_lt_mul (by omega) hsm
  refine ⟨m, hm1, hm2, hm3, hm4, q0, q1, ?_⟩
  have hI : iter (d64_b1 (vi [f, (L : Int), (H : Int), st]) v) (L : Int) = some (m : Int) := by
    refine scan (d64_b1 (vi [f, (L : Int), (H : Int), st]) v) (fun j => (j : Int)) hm1 (fun j a b => ?_) ?_
    · unfold d64_b1
      rw [if_pos (iv40 _ _ _ _), g40, succ_i (n := 100) (by omega) (by omega), s35_small hf hf2 (show j + 1 ≤ H + 1 by omega) hM (by omega)]
      simp only [Option.bind_some, c_geq]
      rw [yif (hm5 j a b)]
    · unfold d64_b1
      rw [if_pos (iv40 _ _ _ _), g40, succ_i (n := 100) (by omega) (by omega), s35_small hf hf2 (show m + 1 ≤ H + 1 by omega) hM (by omega)]
      simp only [Option.bind_some, c_geq]
      rw [yif' (by omega)]
  have em1 : arReal .add .i64 (m : Int) 1 = ((m + 1 : Nat) : Int) := succ_i (n := 100) (by omega) (by omega)
  have mr := mul_rng2 (x := v - f ^ m) (y := st) (m := 4611686018427387904) (n := 100) (by omega) (by omega) (by omega) (by omega)
  have mr2 := mul_rng2 (x := (m : Int) - L) (y := st) (m := 18) (n := 100) (by omega) (by omega) (by omega) (by omega)
  unfold d64
  rw [if_pos (iv41 _ _ _ _), g41, hI]
  simp only [Option.bind_some, iv40, iv41, iv43, ↓reduceIte, g40, g43, g41, em1, s35_small hf hf2 (show m ≤ H + 1 by omega) hM (by omega), s35_small hf hf2 (show m + 1 ≤ H + 1 by omega) hM (by omega)]
  rw [ar_sub' (a := v) ⟨by omega, by omega⟩, wk_u (a := v - f ^ m) ⟨by omega, by omega⟩, wk_u (a := st) ⟨by omega, by omega⟩, s67 ⟨by omega, by omega⟩ ⟨by omega, by omega⟩, ar_sub' (a := f ^ (m + 1)) ⟨by omega, by omega⟩, wk_u (a := f ^ (m + 1) - f ^ m) ⟨by omega, by omega⟩]
  simp only [Option.bind_some]
  obtain ⟨r, e⟩ := s69 (hi := (v - f ^ m) * st / 18446744073709551616) (lo := (v - f ^ m) * st % 18446744073709551616) (y := f ^ (m + 1) - f ^ m) (by omega) ⟨by omega, by omega⟩ (by
    refine Int.ediv_lt_of_lt_mul (by omega) ?_
    have : st * (f ^ (m + 1) - f ^ m) ≤ 100 * (f ^ (m + 1) - f ^ m) := Int.mul_le_mul_of_nonneg_right (by omega) (by omega)
    omega) ⟨by omega, by omega⟩
  rw [show (v - f ^ m) * st / 18446744073709551616 * 18446744073709551616 + (v - f ^ m) * st % 18446744073709551616 = (v - f ^ m) * st by omega] at e
  rw [e]
  simp only [Option.bind_some]
  generalize (v - f ^ m) * st / (f ^ (m + 1) - f ^ m) = q at *
  rw [ar_sub' (a := (m : Int)) ⟨by omega, by omega⟩, ar_mul' ⟨by omega, by omega⟩, ar_add' (a := 1) ⟨by omega, by omega⟩, wk_i ⟨by omega, by omega⟩, ar_add' ⟨by omega, by omega⟩]
theorem okP.log' {p : List Int} (h : okP 9 p) : ∃ (f st : Int) (L H : Nat), p = [f, (L : Int), (H : Int), st] ∧ 2 ≤ f ∧ f ≤ 100 ∧ L ≤ H ∧ H ≤ 18 ∧ 1 ≤ st ∧ st ≤ 100 ∧ f ^ (H + 1) ≤ 4611686018427387904 := by
  obtain ⟨f, lo, hi, st, rfl, h1, h2, h3, h4, h5, h6, h7, h8, h9, h10⟩ := h.log
  obtain ⟨L, rfl⟩ := Int.eq_ofNat_of_zero_le h3
  obtain ⟨H, rfl⟩ := Int.eq_ofNat_of_zero_le (show 0 ≤ hi by omega)
  refine ⟨f, st, L, H, rfl, h1, h2, by omega, by omega, h7, h8, ?_⟩
  rw [show ((H : Int) + 1).toNat = H + 1 by omega] at h9
  exact h9
theorem s32_9 {nm : ByteArray} {f st : Int} {L H : Nat} {ks : List V} {v : Int} (h : okA nm 9 [f, (L : Int), (H : Int), st] ks) (hv : I64 v) (hf : 2 ≤ f) (hf2 : f ≤ 100) (hLH : L ≤ H) (hH : H ≤ 18) (hst : 1 ≤ st) (hst2 : st ≤ 100) (hM : f ^ (H + 1) ≤ 4611686018427387904) :
    d32 nm 9 (vi [f, (L : Int), (H : Int), st]) ks v = (if v < f ^ L then some 0 else if v ≥ f ^ (H + 1) then some (((H : Int) - L + 1) * st + 1) else d64 (vi [f, (L : Int), (H : Int), st]) v) := by
  have mr := mul_rng2 (x := (H : Int) - L + 1) (y := st) (m := 19) (n := 100) (by omega) (by omega) (by omega) (by omega)
  unfold d32
  rw [s34 h, wd9]
  simp only [Option.bind_some]
  rw [if_neg (by decide), if_neg (by decide)]
  have eH : arReal .add .i64 (H : Int) 1 = ((H + 1 : Nat) : Int) := succ_i (n := 100) (by omega) (by omega)
  simp only [iv40, iv41, iv42, ↓reduceIte, g40, g41, g42, c_lss, c_geq, eH, s35_small hf hf2 (show L ≤ H + 1 by omega) hM (by omega), s35_small hf hf2 (show H + 1 ≤ H + 1 by omega) hM (by omega), Option.bind_some]
  by_cases q1 : v < f ^ L
  · rw [yif q1, if_pos q1]
  · rw [yif' q1, if_neg q1]
    by_cases q2 : v ≥ f ^ (H + 1)
    · rw [yif q2, if_pos q2, ar_sub' ⟨by omega, by omega⟩]
      congr 1; omega
    · rw [yif' q2, if_neg q2]
      cases d64 (vi [f, (L : Int), (H : Int), st]) v <;> rfl
theorem okA.nil {nm : ByteArray} {fn : Int} {p : List Int} {ks : List V} (h : okA nm fn p ks) (hf : fn ≤ 7) : p = [] := by
  have := h.2.2.2.2.2.1
  unfold okP at this
  rwa [if_neg (by omega), if_neg (by omega)] at this
theorem s32 {nm : ByteArray} {fn : Int} {p : List Int} {ks : List V} (h : okA nm fn p ks) (h7 : 7 ≤ fn) {v : Int} (hv : I64 v) : d32 nm fn (vi p) ks v = some (bk fn p v) ∧ 0 ≤ bk fn p v ∧ bk fn p v < wd fn p := by
  suffices H : ∃ r, d32 nm fn (vi p) ks v = some r ∧ 0 ≤ r ∧ r < wd fn p by
    obtain ⟨r, e, h1, h2⟩ := H
    rw [bk_of e]
    exact ⟨e, h1, h2⟩
  have hf := h.fn
  rcases (show fn = 7 ∨ fn = 8 ∨ fn = 9 by omega) with rfl | rfl | rfl
  · obtain rfl := h.nil (by omega)
    refine ⟨_, s32_7 hv, ?_⟩
    show _ ∧ _ < (127 : Int)
    obtain ⟨v0, v1⟩ := hv
    by_cases q : 0 ≤ v
    · rw [if_pos q]
      have hl := (s63' (a := v) ⟨by omega, by omega⟩).2
      obtain ⟨b0, b1, b2, b3⟩ := hl
      refine ⟨by omega, ?_⟩
      apply Classical.byContradiction
      intro hn
      have e64 : bl v = 64 := by omega
      have := b3 (by omega)
      rw [e64] at this
      have : (2 : Int) ^ 63 ≤ v := this
      have e63 : (2 : Int) ^ 63 = 9223372036854775808 := by decide
      omega
    · rw [if_neg q]
      have hl := (s63' (a := -v) ⟨by omega, by omega⟩).2
      obtain ⟨b0, b1, b2, b3⟩ := hl
      split <;> constructor <;> omega
  · obtain ⟨a, b, c, rfl, h1, h2, h3, h4, h5, h6⟩ := h.2.2.2.2.2.1.lin
    refine ⟨_, s32_8 h hv, ?_⟩
    have s0 := (s65 h3 h5 h4 h1 h2).2.1
    rw [wd8]
    by_cases q1 : v < a
    · rw [if_pos q1]; constructor <;> omega
    · rw [if_neg q1]
      by_cases q2 : v ≥ b
      · rw [if_pos q2]; constructor <;> omega
      · rw [if_neg q2]
        have hq := (lin_q h3 h5 (by omega) (by omega) h1 h2 (v := v)).2
        constructor <;> omega
  · obtain ⟨f, st, L, H, rfl, h1, h2, h3, h4, h5, h6, h7⟩ := h.2.2.2.2.2.1.log'
    rw [s32_9 h hv h1 h2 h3 h4 h5 h6 h7, wd9]
    have mr := mul_rng2 (x := (H : Int) - L + 1) (y := st) (m := 19) (n := 100) (by omega) (by omega) (by omega) (by omega)
    by_cases q1 : v < f ^ L
    · rw [if_pos q1]; exact ⟨_, rfl, by omega, by omega⟩
    · rw [if_neg q1]
      by_cases q2 : v ≥ f ^ (H + 1)
      · rw [if_pos q2]; exact ⟨_, rfl, by omega, by omega⟩
      · rw [if_neg q2]
        obtain ⟨m, m1, m2, m3, m4, m5, m6, e⟩ := s64 h1 h2 h3 h4 h5 h6 h7 (v := v) (by omega) (by omega)
        refine ⟨_, e, ?_⟩
        have mr2 := mul_rng2 (x := (m : Int) - L) (y := st) (m := (H : Int) - L) (n := st) (by omega) (by omega) (by omega) (by omega)
        rw [Int.add_mul, Int.one_mul]
        constructor <;> omega
end Go.Proofs.Ytmofhbedamjblaa
end
section
namespace Go.Proofs.Ytmofhbedamjblaa
open Go.Ab Go.RowKit
set_option maxRecDepth 100000
noncomputable def sing (fn : Int) (p : List Int) (v : Int) : List Int :=
  if fn = 1 then [1] else if fn = 2 then [v] else if fn = 6 then [1, v, hi2 (v * v), lo2 (v * v)] else if 7 ≤ fn then (zer fn p).set (bk fn p v).toNat 1 else [1, v]
theorem sing_1 (p : List Int) (v : Int) : sing 1 p v = [1] := by unfold sing; rw [if_pos rfl]
theorem sing_2 (p : List Int) (v : Int) : sing 2 p v = [v] := by unfold sing; rw [if_neg (by omega), if_pos rfl]
theorem sing_p {fn : Int} (h : 3 ≤ fn ∧ fn ≤ 5) (p : List Int) (v : Int) : sing fn p v = [1, v] := by unfold sing; rw [if_neg (by omega), if_neg (by omega), if_neg (by omega), if_neg (by omega)]
theorem sing_6 (p : List Int) (v : Int) : sing 6 p v = [1, v, hi2 (v * v), lo2 (v * v)] := by unfold sing; rw [if_neg (by omega), if_neg (by omega), if_pos rfl]
theorem sing_7 {fn : Int} (h : 7 ≤ fn) (p : List Int) (v : Int) : sing fn p v = (zer fn p).set (bk fn p v).toNat 1 := by unfold sing; rw [if_neg (by omega), if_neg (by omega), if_neg (by omega), if_pos h]
theorem zer_len {nm : ByteArray} {fn : Int} {p : List Int} {ks : List V} (h : okA nm fn p ks) : ((zer fn p).length : Int) = wd fn p := by
  have := wd_rng h
  unfold zer
  rw [List.length_replicate]; omega
theorem sing_val {nm : ByteArray} {fn : Int} {p : List Int} {ks : List V} (h : okA nm fn p ks) {v : Int} (hv : I64 v) : valS fn p (sing fn p v) ∧ ∀ x ∈ sing fn p v, I64 x := by
  have c1 : Cnt 1 := ⟨by omega, by omega⟩
  have i1 : I64 1 := ⟨by omega, by omega⟩
  rcases fn_cases h.fn with rfl | rfl | rfl | rfl | rfl | rfl | h7
  · rw [sing_1]; exact ⟨⟨rfl, fun h => by omega, fun _ _ => ⟨c1, fun hz => by have hz : (1 : Int) = 0 := hz; omega⟩⟩, fun x hx => by rw [List.mem_singleton.1 hx]; exact i1⟩
  · rw [sing_2]; exact ⟨⟨rfl, fun h => by omega, fun h => (h rfl).elim⟩, fun x hx => by rw [List.mem_singleton.1 hx]; exact hv⟩
  · rw [sing_p (by omega)]; exact ⟨⟨rfl, fun h => by omega, fun _ _ => ⟨c1, fun hz => by have hz : (1 : Int) = 0 := hz; omega⟩⟩, fun x hx => by rcases List.mem_cons.1 hx with rfl | hx; exact i1; rw [List.mem_singleton.1 hx]; exact hv⟩
  · rw [sing_p (by omega)]; exact ⟨⟨rfl, fun h => by omega, fun _ _ => ⟨c1, fun hz => by have hz : (1 : Int) = 0 := hz; omega⟩⟩, fun x hx => by rcases List.mem_cons.1 hx with rfl | hx; exact i1; rw [List.mem_singleton.1 hx]; exact hv⟩
  · rw [sing_p (by omega)]; exact ⟨⟨rfl, fun h => by omega, fun _ _ => ⟨c1, fun hz => by have hz : (1 : Int) = 0 := hz; omega⟩⟩, fun x hx => by rcases List.mem_cons.1 hx with rfl | hx; exact i1; rw [List.mem_singleton.1 hx]; exact hv⟩
  · rw [sing_6]
    refine ⟨⟨rfl, fun h => by omega, fun _ _ => ⟨c1, fun hz => by have hz : (1 : Int) = 0 := hz; omega⟩⟩, fun x hx => ?_⟩
    simp only [List.mem_cons, List.not_mem_nil, or_false] at hx
    rcases hx with rfl | rfl | rfl | rfl
    · exact i1
    · exact hv
    · exact hi2_i _
    · exact lo2_i _
  · have h7 : 7 ≤ fn := by omega
    rw [sing_7 h7]
    have hc : ∀ x ∈ (zer fn p).set (bk fn p v).toNat 1, Cnt x := by
      intro x hx
      rcases List.mem_or_eq_of_mem_set hx with hx | rfl
      · rw [List.eq_of_mem_replicate hx]; exact ⟨by omega, by omega⟩
      · exact c1
    exact ⟨⟨by rw [List.length_set]; exact zer_len h, fun _ => hc, fun _ h => by omega⟩, fun x hx => by have := hc x hx; exact ⟨by have := this.1; omega, by have := this.2; omega⟩⟩
theorem zip_set : ∀ (s : List Int) (n i : Nat), s.length = n → (h : i < s.length) → List.zipWith (fun a b => a + b) s ((List.replicate n 0).set i 1) = s.set i (s[i] + 1)
  | [], n, i, _, h => by simp at h
  | a :: s, 0, i, h, _ => by simp at h
  | a :: s, n + 1, 0, h, _ => by
    rw [List.replicate_succ, List.set_cons_zero, List.zipWith_cons_cons, zip_zero s n (by simpa using h), List.set_cons_zero]
    rfl
  | a :: s, n + 1, i + 1, h, hi => by
    have e := zip_set s n i (by simpa using h) (by simpa using hi)
    rw [List.replicate_succ, List.set_cons_succ, List.zipWith_cons_cons, e, List.set_cons_succ, Int.add_zero]
    rfl
theorem ev99 : @d99v1 = fun nm fn p ks nm' fn' p' ks' s t => d99v2 nm fn p ks nm' fn' p' ks' t s := rfl
theorem ev102 : @d102v1 = fun nm fn p ks nm' fn' p' ks' s t => d102v2 nm fn p ks nm' fn' p' ks' t s := rfl
theorem ev104 : @d104v1 = fun nm fn p ks nm' fn' p' ks' s t => d104v2 nm fn p ks nm' fn' p' ks' t s := rfl
theorem ev107 : @d107v1 = fun nm fn p ks nm' fn' p' ks' s t => d107v2 nm fn p ks nm' fn' p' ks' t s := rfl
open Classical in
theorem s52 {nm : ByteArray} {fn : Int} {p : List Int} {ks : List V} (h : okA nm fn p ks) {s : List Int} (hs : valS fn p s) {v : Int} (hv : I64 v) : d52 nm fn (vi p) ks (vi s) v = some (if gd fn s (sing fn p v) then (vi (mg fn s (sing fn p v)), 0) else ([], 2)) := by
  have ls := val_len h hs
  have c1 : Cnt 1 := ⟨by omega, by omega⟩
  unfold d52
  rw [s38 s (by omega), e70]
  simp only [Option.bind_some]
  rcases fn_cases h.fn with rfl | rfl | rfl | rfl | rfl | rfl | rfl | rfl | rfl
  · rw [if_pos (show Inb 1 (Int.ofNat 10) by decide), if_neg (by decide), if_pos (by decide)]
    obtain ⟨a, rfl, ha⟩ := v1 hs
    unfold d93v2
    have e := s123 nm 1 (vi p) ks (l := [a]) (i := 0) (n := 1) (by simp) (by show I64 a; exact ⟨by have := ha.1; omega, by have := ha.2; omega⟩) c1
    rw [show d123v2 nm 1 (vi p) ks 0 1 (vi [a]) = _ from e, sing_1]
    have eg : gd 1 [a] [1] ↔ a + 1 ≤ 4611686018427387904 := by
      rw [gd_c (.inl rfl)]
      exact ⟨fun k => k 0 (by simp), fun k i hi => by obtain rfl : i = 0 := by simpa using hi
                                                      exact k⟩
    by_cases hg : a + 1 ≤ 4611686018427387904
    · rw [if_pos (eg.2 hg), if_pos (show [a][0] + 1 ≤ 4611686018427387904 from hg), mg_c (.inl rfl)]; rfl
    · rw [if_neg (fun k => hg (eg.1 k)), if_neg (show ¬ [a][0] + 1 ≤ 4611686018427387904 from hg)]; rfl
  · rw [if_pos (show Inb 2 (Int.ofNat 10) by decide), if_neg (by decide), if_neg (by decide), if_pos (by decide)]
    obtain ⟨a, rfl⟩ := v2 hs
    rw [s96, sing_2, if_pos (gd_2 _ _)]
    rfl
  · rw [if_pos (show Inb 3 (Int.ofNat 10) by decide), if_neg (by decide), if_neg (by decide), if_neg (by decide), if_pos (by decide)]
    obtain ⟨a, x, rfl, ha, _⟩ := v345 (by omega) hs
    obtain ⟨q, e⟩ := s99 nm nm 3 3 (vi p) ks (vi p) ks (x := x) (y := v) ha c1
    unfold d98v1
    rw [ev99]
    dsimp only
    rw [show [V.i IntKind.i64 1, V.i IntKind.i64 v] = vi [1, v] from rfl, e, sing_p (by omega)]
    have eg : gd 3 [a, x] [1, v] ↔ a + 1 ≤ 4611686018427387904 := gd_p (by omega) _ _
    by_cases hg : a + 1 ≤ 4611686018427387904
    · rw [if_pos hg, if_pos (eg.2 hg)]; rfl
    · rw [if_neg hg, if_neg (fun k => hg (eg.1 k))]; rfl
  · rw [if_pos (show Inb 4 (Int.ofNat 10) by decide), if_neg (by decide), if_neg (by decide), if_neg (by decide), if_neg (by decide), if_pos (by decide)]
    obtain ⟨a, x, rfl, ha, _⟩ := v345 (by omega) hs
    obtain ⟨q, e⟩ := s102 nm nm 4 4 (vi p) ks (vi p) ks (x := x) (y := v) ha c1
    unfold d101v1
    rw [ev102]
    dsimp only
    rw [show [V.i IntKind.i64 1, V.i IntKind.i64 v] = vi [1, v] from rfl, e, sing_p (by omega)]
    have eg : gd 4 [a, x] [1, v] ↔ a + 1 ≤ 4611686018427387904 := gd_p (by omega) _ _
    by_cases hg : a + 1 ≤ 4611686018427387904
    · rw [if_pos hg, if_pos (eg.2 hg)]; rfl
    · rw [if_neg hg, if_neg (fun k => hg (eg.1 k))]; rfl
  · rw [if_pos (show Inb 5 (Int.ofNat 10) by decide), if_neg (by decide), if_neg (by decide), if_neg (by decide), if_neg (by decide), if_neg (by decide), if_pos (by decide)]
    obtain ⟨a, x, rfl, ha, _⟩ := v345 (by omega) hs
    obtain ⟨q, e⟩ := s104 nm nm 5 5 (vi p) ks (vi p) ks (x := x) (y := v) ha c1
    unfold d103v1
    rw [ev104]
    dsimp only
    rw [show [V.i IntKind.i64 1, V.i IntKind.i64 v] = vi [1, v] from rfl, e, sing_p (by omega)]
    have eg : gd 5 [a, x] [1, v] ↔ a + 1 ≤ 4611686018427387904 := gd_p (by omega) _ _
    by_cases hg : a + 1 ≤ 4611686018427387904
    · rw [if_pos hg, if_pos (eg.2 hg)]; rfl
    · rw [if_neg hg, if_neg (fun k => hg (eg.1 k))]; rfl
  · rw [if_pos (show Inb 6 (Int.ofNat 10) by decide), if_neg (by decide), if_neg (by decide), if_neg (by decide), if_neg (by decide), if_neg (by decide), if_neg (by decide), if_pos (by decide)]
    obtain ⟨a, x, y, z, rfl, ha, _⟩ := v6 hs
    obtain ⟨q, e⟩ := s107 nm nm 6 6 (vi p) ks (vi p) ks (x := x) (h := y) (l := z) (y := v) (h' := hi2 (v * v)) (l' := lo2 (v * v)) ha c1
    unfold d106v1
    rw [s124 hv, ev107]
    simp only [Option.bind_some]
    rw [show [V.i IntKind.i64 1, V.i IntKind.i64 v, V.i .i64 (wrapK .i64 (v * v / 18446744073709551616)), V.i .i64 (wrapK .i64 (v * v % 18446744073709551616))] = vi [1, v, hi2 (v * v), lo2 (v * v)] from rfl, e, sing_6]
    have eg : gd 6 [a, x, y, z] [1, v, hi2 (v * v), lo2 (v * v)] ↔ a + 1 ≤ 4611686018427387904 := gd_p (by omega) _ _
    by_cases hg : a + 1 ≤ 4611686018427387904
    · rw [if_pos hg, if_pos (eg.2 hg)]; rfl
    · rw [if_neg hg, if_neg (fun k => hg (eg.1 k))]; rfl
  · rw [if_pos (show Inb 7 (Int.ofNat 10) by decide), if_neg (by decide), if_neg (by decide), if_neg (by decide), if_neg (by decide), if_neg (by decide), if_neg (by decide), if_neg (by decide), if_pos (by decide)]
    obtain ⟨e1, e2, e3⟩ := s32 h (by omega) hv
    obtain ⟨b, hb⟩ := Int.eq_ofNat_of_zero_le e2
    have hbs : b < s.length := by have := hs.1; omega
    have hc := hs.2.1 (by omega)
    have cb := hc _ (List.getElem_mem hbs)
    unfold d109v1
    rw [e1, hb]
    simp only [Option.bind_some]
    rw [s123 nm 7 (vi p) ks (n := 1) hbs ⟨by have := cb.1; omega, by have := cb.2; omega⟩ c1]
    have em : mg 7 s (sing 7 p v) = s.set b (s[b] + 1) := by
      rw [mg_c (by omega), sing_7 (by omega), hb, Int.toNat_natCast]
      exact zip_set s _ b (by have := hs.1; omega) hbs
    have eg : gd 7 s (sing 7 p v) ↔ s[b] + 1 ≤ 4611686018427387904 := by
      rw [gd_c (by omega), sing_7 (by omega), hb, Int.toNat_natCast]
      have hz : b < (zer 7 p).length := by have := zer_len h; omega
      constructor
      · intro k
        have := k b hbs
        rw [getD_get hbs, getD_get (by rw [List.length_set]; exact hz), List.getElem_set_self] at this
        exact this
      · intro k i hi
        have ci := hc _ (List.getElem_mem hi)
        have hzi : i < (zer 7 p).length := by have := zer_len h; have := hs.1; omega
        rw [getD_get hi, getD_get (by rw [List.length_set]; exact hzi)]
        by_cases hib : b = i
        · subst hib
          rw [List.getElem_set_self]; exact k
        · rw [List.getElem_set_ne hib]
          have : (zer 7 p)[i] = 0 := List.eq_of_mem_replicate (List.getElem_mem hzi)
          rw [this]; have := ci.2; omega
    by_cases hg : s[b] + 1 ≤ 4611686018427387904
    · rw [if_pos hg, if_pos (eg.2 hg), em]; rfl
    · rw [if_neg hg, if_neg (fun k => hg (eg.1 k))]; rfl
  · rw [if_pos (show Inb 8 (Int.ofNat 10) by decide), if_neg (by decide), if_neg (by decide), if_neg (by decide), if_neg (by decide), if_neg (by decide), if_neg (by decide), if_neg (by decide), if_neg (by decide), if_pos (by decide)]
    obtain ⟨e1, e2, e3⟩ := s32 h (by omega) hv
    obtain ⟨b, hb⟩ := Int.eq_ofNat_of_zero_le e2
    have hbs : b < s.length := by have := hs.1; omega
    have hc := hs.2.1 (by omega)
    have cb := hc _ (List.getElem_mem hbs)
    unfold d109v1
    rw [e1, hb]
    simp only [Option.bind_some]
    rw [s123 nm 8 (vi p) ks (n := 1) hbs ⟨by have := cb.1; omega, by have := cb.2; omega⟩ c1]
    have em : mg 8 s (sing 8 p v) = s.set b (s[b] + 1) := by
      rw [mg_c (by omega), sing_7 (by omega), hb, Int.toNat_natCast]
      exact zip_set s _ b (by have := hs.1; omega) hbs
    have eg : gd 8 s (sing 8 p v) ↔ s[b] + 1 ≤ 4611686018427387904 := by
      rw [gd_c (by omega), sing_7 (by omega), hb, Int.toNat_natCast]
      have hz : b < (zer 8 p).length := by have := zer_len h; omega
      constructor
      · intro k
        have := k b hbs
        rw [getD_get hbs, getD_get (by rw [List.length_set]; exact hz), List.getElem_set_self] at this
        exact this
      · intro k i hi
        have ci := hc _ (List.getElem_mem hi)
        have hzi : i < (zer 8 p).length := by have := zer_len h; have := hs.1; omega
        rw [getD_get hi, getD_get (by rw [List.length_set]; exact hzi)]
        by_cases hib : b = i
        · subst hib
          rw [List.getElem_set_self]; exact k
        · rw [List.getElem_set_ne hib]
          have : (zer 8 p)[i] = 0 := List.eq_of_mem_replicate (List.getElem_mem hzi)
          rw [this]; have := ci.2; omega
    by_cases hg : s[b] + 1 ≤ 4611686018427387904
    · rw [if_pos hg, if_pos (eg.2 hg), em]; rfl
    · rw [if_neg hg, if_neg (fun k => hg (eg.1 k))]; rfl
  · rw [if_pos (show Inb 9 (Int.ofNat 10) by decide), if_neg (by decide), if_neg (by decide), if_neg (by decide), if_neg (by decide), if_neg (by decide), if_neg (by decide), if_neg (by decide), if_neg (by decide), if_neg (by decide)]
    obtain ⟨e1, e2, e3⟩ := s32 h (by omega) hv
    obtain ⟨b, hb⟩ := Int.eq_ofNat_of_zero_le e2
    have hbs : b < s.length := by have := hs.1; omega
    have hc := hs.2.1 (by omega)
    have cb := hc _ (List.getElem_mem hbs)
    unfold d109v1
    rw [e1, hb]
    simp only [Option.bind_some]
    rw [s123 nm 9 (vi p) ks (n := 1) hbs ⟨by have := cb.1; omega, by have := cb.2; omega⟩ c1]
    have em : mg 9 s (sing 9 p v) = s.set b (s[b] + 1) := by
      rw [mg_c (by omega), sing_7 (by omega), hb, Int.toNat_natCast]
      exact zip_set s _ b (by have := hs.1; omega) hbs
    have eg : gd 9 s (sing 9 p v) ↔ s[b] + 1 ≤ 4611686018427387904 := by
      rw [gd_c (by omega), sing_7 (by omega), hb, Int.toNat_natCast]
      have hz : b < (zer 9 p).length := by have := zer_len h; omega
      constructor
      · intro k
        have := k b hbs
        rw [getD_get hbs, getD_get (by rw [List.length_set]; exact hz), List.getElem_set_self] at this
        exact this
      · intro k i hi
        have ci := hc _ (List.getElem_mem hi)
        have hzi : i < (zer 9 p).length := by have := zer_len h; have := hs.1; omega
        rw [getD_get hi, getD_get (by rw [List.length_set]; exact hzi)]
        by_cases hib : b = i
        · subst hib
          rw [List.getElem_set_self]; exact k
        · rw [List.getElem_set_ne hib]
          have : (zer 9 p)[i] = 0 := List.eq_of_mem_replicate (List.getElem_mem hzi)
          rw [this]; have := ci.2; omega
    by_cases hg : s[b] + 1 ≤ 4611686018427387904
    · rw [if_pos hg, if_pos (eg.2 hg), em]; rfl
    · rw [if_neg hg, if_neg (fun k => hg (eg.1 k))]; rfl
theorem s23 (nm : ByteArray) (fn : Int) (p : List Int) (ks : List V) (hp : ∀ x ∈ p, I64 x) (s : List Int) (hs : s.length ≤ 9223372036854775807) {v : Int} (hv : I64 v) :
    d23 nm fn (vi p) ks (vi s) v = some (if chkS nm fn p ks s = 0 then (if gd fn s (sing fn p v) then (vi (mg fn s (sing fn p v)), 0) else ([], 2)) else ([], chkS nm fn p ks s)) := by
  unfold d23
  rw [s37_1 nm fn p ks hp s hs]
  simp only [Option.bind_some, c_neq]
  by_cases h1 : chkS nm fn p ks s = 0
  · obtain ⟨hA, hV⟩ := chk0.1 h1
    rw [if_pos h1, nif h1, s52 hA hV hv]
    rfl
  · rw [if_neg h1, nif' h1]
end Go.Proofs.Ytmofhbedamjblaa
end
section
namespace Go.Proofs.Ytmofhbedamjblaa
open Go.Ab Go.RowKit
set_option maxRecDepth 100000
theorem lnV1 (a : V) : lenI [a] = 1 := rfl
theorem lnV2 (a b : V) : lenI [a, b] = 2 := rfl
theorem mul64 {x y : Int} (hx : U64 x) (hy : U64 y) : 0 ≤ x * y ∧ x * y ≤ 340282366920938463426481119284349108225 := by
  have := mul_rng2 (x := x) (y := y) (m := 18446744073709551615) (n := 18446744073709551615) hx.1 (by have := hx.2; omega) hy.1 (by have := hy.2; omega)
  omega
theorem st128_0 (a0 a1 : List V) (I K t1 t2 t3 t4 ab o0 o1 o2 o3 x y : Int) (hp : arReal .add .i64 I K = 0) (h1 : cmpLit .lss K (lenI a1) = true) (h2 : Inb K (lenI a1)) (hx : gI a0 I 0 = x) (hy : gI a1 K 0 = y) (ux : U64 x) (uy : U64 y) (uo : U64 o0) (ua : U64 ab) :
    d128_b2 a0 a1 (I, t1, t2, t3, t4) (ab, K, o0, o1, o2, o3) = some (.inl ((x * y + o0 + ab) / 18446744073709551616, arReal .add .i64 K 1, (x * y + o0 + ab) % 18446744073709551616, o1, o2, o3)) := by
  have m := mul64 ux uy
  have uo' := uo
  have ua' := ua
  obtain ⟨u1, u2⟩ := uo'
  obtain ⟨u3, u4⟩ := ua'
  unfold d128_b2
  dsimp only
  rw [if_pos h1, if_pos h2, hx, hy, s67 ux uy, hp]
  simp only [Option.bind_some]
  have c0 : Inb 0 (Int.ofNat 4) := by decide
  rw [if_pos c0]
  rw [if_pos (show cmpLit .eql 0 (Int.ofNat 0) = true by decide)]
  rw [s68 ⟨by omega, by omega⟩ uo (by omega) (by omega)]
  simp only [Option.bind_some]
  rw [s68 ⟨by omega, by omega⟩ ua (by omega) (by omega)]
  simp only [Option.bind_some]
  rw [if_pos c0]
  rw [if_pos (show cmpLit .eql 0 (Int.ofNat 0) = true by decide)]
  generalize x * y = z at *
  rw [ar_addu' (a := z / 18446744073709551616) ⟨by omega, by omega⟩, ar_addu' ⟨by omega, by omega⟩]
  congr 3
  · omega
  · congr 1
    congr 1; omega
theorem st128_1 (a0 a1 : List V) (I K t1 t2 t3 t4 ab o0 o1 o2 o3 x y : Int) (hp : arReal .add .i64 I K = 1) (h1 : cmpLit .lss K (lenI a1) = true) (h2 : Inb K (lenI a1)) (hx : gI a0 I 0 = x) (hy : gI a1 K 0 = y) (ux : U64 x) (uy : U64 y) (uo : U64 o1) (ua : U64 ab) :
    d128_b2 a0 a1 (I, t1, t2, t3, t4) (ab, K, o0, o1, o2, o3) = some (.inl ((x * y + o1 + ab) / 18446744073709551616, arReal .add .i64 K 1, o0, (x * y + o1 + ab) % 18446744073709551616, o2, o3)) := by
  have m := mul64 ux uy
  have uo' := uo
  have ua' := ua
  obtain ⟨u1, u2⟩ := uo'
  obtain ⟨u3, u4⟩ := ua'
  unfold d128_b2
  dsimp only
  rw [if_pos h1, if_pos h2, hx, hy, s67 ux uy, hp]
  simp only [Option.bind_some]
  have c0 : Inb 1 (Int.ofNat 4) := by decide
  rw [if_pos c0]
  rw [if_neg (show ¬ cmpLit .eql 1 (Int.ofNat 0) = true by decide)]
  rw [if_pos (show cmpLit .eql 1 (Int.ofNat 1) = true by decide)]
  rw [s68 ⟨by omega, by omega⟩ uo (by omega) (by omega)]
  simp only [Option.bind_some]
  rw [s68 ⟨by omega, by omega⟩ ua (by omega) (by omega)]
  simp only [Option.bind_some]
  rw [if_pos c0]
  rw [if_neg (show ¬ cmpLit .eql 1 (Int.ofNat 0) = true by decide)]
  rw [if_pos (show cmpLit .eql 1 (Int.ofNat 1) = true by decide)]
  generalize x * y = z at *
  rw [ar_addu' (a := z / 18446744073709551616) ⟨by omega, by omega⟩, ar_addu' ⟨by omega, by omega⟩]
  congr 3
  · omega
  · congr 1
    congr 2; omega
theorem st128_2 (a0 a1 : List V) (I K t1 t2 t3 t4 ab o0 o1 o2 o3 x y : Int) (hp : arReal .add .i64 I K = 2) (h1 : cmpLit .lss K (lenI a1) = true) (h2 : Inb K (lenI a1)) (hx : gI a0 I 0 = x) (hy : gI a1 K 0 = y) (ux : U64 x) (uy : U64 y) (uo : U64 o2) (ua : U64 ab) :
    d128_b2 a0 a1 (I, t1, t2, t3, t4) (ab, K, o0, o1, o2, o3) = some (.inl ((x * y + o2 + ab) / 18446744073709551616, arReal .add .i64 K 1, o0, o1, (x * y + o2 + ab) % 18446744073709551616, o3)) := by
  have m := mul64 ux uy
  have uo' := uo
  have ua' := ua
  obtain ⟨u1, u2⟩ := uo'
  obtain ⟨u3, u4⟩ := ua'
  unfold d128_b2
  dsimp only
  rw [if_pos h1, if_pos h2, hx, hy, s67 ux uy, hp]
  simp only [Option.bind_some]
  have c0 : Inb 2 (Int.ofNat 4) := by decide
  rw [if_pos c0]
  rw [if_neg (show ¬ cmpLit .eql 2 (Int.ofNat 0) = true by decide)]
  rw [if_neg (show ¬ cmpLit .eql 2 (Int.ofNat 1) = true by decide)]
  rw [if_pos (show cmpLit .eql 2 (Int.ofNat 2) = true by decide)]
  rw [s68 ⟨by omega, by omega⟩ uo (by omega) (by omega)]
  simp only [Option.bind_some]
  rw [s68 ⟨by omega, by omega⟩ ua (by omega) (by omega)]
  simp only [Option.bind_some]
  rw [if_pos c0]
  rw [if_neg (show ¬ cmpLit .eql 2 (Int.ofNat 0) = true by decide)]
  rw [if_neg (show ¬ cmpLit .eql 2 (Int.ofNat 1) = true by decide)]
  rw [if_pos (show cmpLit .eql 2 (Int.ofNat 2) = true by decide)]
  generalize x * y = z at *
  rw [ar_addu' (a := z / 18446744073709551616) ⟨by omega, by omega⟩, ar_addu' ⟨by omega, by omega⟩]
  congr 3
  · omega
  · congr 1
    congr 3; omega
theorem s128_11 {x y : Int} (ux : U64 x) (uy : U64 y) : ∃ l0 l1 l2 l3, d128 [.i .u64 x] [.i .u64 y] = some (l0, l1, l2, l3) ∧ U64 l0 ∧ U64 l1 ∧ U64 l2 ∧ U64 l3 ∧ l0 + l1 * 18446744073709551616 + l2 * 340282366920938463463374607431768211456 + l3 * 6277101735386680763835789423207666416102355444464034512896 = (x) * (y) := by
  have mxy := mul64 ux uy
  have z0 : U64 0 := ⟨by omega, by omega⟩
  obtain ⟨c1, hc1⟩ : ∃ zz, zz = (x * y + 0 + 0) / 18446744073709551616 := ⟨_, rfl⟩
  obtain ⟨r1, hr1⟩ : ∃ zz, zz = (x * y + 0 + 0) % 18446744073709551616 := ⟨_, rfl⟩
  have uc1 : U64 c1 := ⟨by omega, by omega⟩
  have ur1 : U64 r1 := ⟨by omega, by omega⟩
  have b1 := st128_0 [.i .u64 x] [.i .u64 y] 0 0 0 0 0 0 0 0 0 0 0 x y (by decide) (by kernel_rfl) ⟨by decide, by rw [lnV1]; decide⟩ rfl rfl ux uy z0 z0
  rw [← hc1, ← hr1, show arReal .add .i64 0 1 = 1 by decide] at b1
  have e0 : d128_b2 [.i .u64 x] [.i .u64 y] (0, 0, 0, 0, 0) (c1, 1, r1, 0, 0, 0) = some (.inr (c1, r1, 0, 0, 0)) := by
    unfold d128_b2
    rw [if_neg (show ¬ cmpLit .lss (1 : Int) (lenI [.i .u64 y]) = true by rw [lnV1]; decide)]
  have w0 : d128_b1 [.i .u64 x] [.i .u64 y] (0, 0, 0, 0, 0) = some (.inl (1, r1, c1, 0, 0)) := by
    unfold d128_b1
    dsimp only
    rw [if_pos (show cmpLit .lss (0 : Int) (lenI [.i .u64 x]) = true by kernel_rfl), if_pos (show Inb (0 : Int) (lenI [.i .u64 x]) from ⟨by decide, by rw [lnV1]; decide⟩)]
    rw [iter_inl b1, iter_inr e0]
    simp only [Option.bind_some]
    rw [show arReal .add .i64 (0 : Int) (lenI [.i .u64 y]) = 1 by kernel_rfl, if_pos (show Inb 1 (Int.ofNat 4) by decide)]
    rw [if_neg (show ¬ cmpLit .eql 1 (Int.ofNat 0) = true by decide)]
    rw [if_pos (show cmpLit .eql 1 (Int.ofNat 1) = true by decide)]
    rfl
  have ee : d128_b1 [.i .u64 x] [.i .u64 y] (1, r1, c1, 0, 0) = some (.inr (r1, c1, 0, 0)) := by
    unfold d128_b1
    rw [if_neg (show ¬ cmpLit .lss (1 : Int) (lenI [.i .u64 x]) = true by rw [lnV1]; decide)]
  refine ⟨r1, c1, 0, 0, ?_, ur1, uc1, z0, z0, ?_⟩
  · unfold d128
    rw [iter_inl w0, iter_inr ee]
    rfl
  · have e : (x) * (y) = x * y := by grind
    rw [e]
    generalize x * y = qxy at *
    omega
theorem s128_12 {x y z : Int} (ux : U64 x) (uy : U64 y) (uz : U64 z) : ∃ l0 l1 l2 l3, d128 [.i .u64 x] [.i .u64 y, .i .u64 z] = some (l0, l1, l2, l3) ∧ U64 l0 ∧ U64 l1 ∧ U64 l2 ∧ U64 l3 ∧ l0 + l1 * 18446744073709551616 + l2 * 340282366920938463463374607431768211456 + l3 * 6277101735386680763835789423207666416102355444464034512896 = (x) * (y + z * 18446744073709551616) := by
  have mxy := mul64 ux uy
  have mxz := mul64 ux uz
  have z0 : U64 0 := ⟨by omega, by omega⟩
  obtain ⟨c1, hc1⟩ : ∃ zz, zz = (x * y + 0 + 0) / 18446744073709551616 := ⟨_, rfl⟩
  obtain ⟨r1, hr1⟩ : ∃ zz, zz = (x * y + 0 + 0) % 18446744073709551616 := ⟨_, rfl⟩
  have uc1 : U64 c1 := ⟨by omega, by omega⟩
  have ur1 : U64 r1 := ⟨by omega, by omega⟩
  have b1 := st128_0 [.i .u64 x] [.i .u64 y, .i .u64 z] 0 0 0 0 0 0 0 0 0 0 0 x y (by decide) (by kernel_rfl) ⟨by decide, by rw [lnV2]; decide⟩ rfl rfl ux uy z0 z0
  rw [← hc1, ← hr1, show arReal .add .i64 0 1 = 1 by decide] at b1
  obtain ⟨c2, hc2⟩ : ∃ zz, zz = (x * z + 0 + c1) / 18446744073709551616 := ⟨_, rfl⟩
  obtain ⟨r2, hr2⟩ : ∃ zz, zz = (x * z + 0 + c1) % 18446744073709551616 := ⟨_, rfl⟩
  have := uc1.1; have := uc1.2
  have uc2 : U64 c2 := ⟨by omega, by omega⟩
  have ur2 : U64 r2 := ⟨by omega, by omega⟩
  have b2 := st128_1 [.i .u64 x] [.i .u64 y, .i .u64 z] 0 1 0 0 0 0 c1 r1 0 0 0 x z (by decide) (by kernel_rfl) ⟨by decide, by rw [lnV2]; decide⟩ rfl rfl ux uz z0 uc1
  rw [← hc2, ← hr2, show arReal .add .i64 1 1 = 2 by decide] at b2
  have e0 : d128_b2 [.i .u64 x] [.i .u64 y, .i .u64 z] (0, 0, 0, 0, 0) (c2, 2, r1, r2, 0, 0) = some (.inr (c2, r1, r2, 0, 0)) := by
    unfold d128_b2
    rw [if_neg (show ¬ cmpLit .lss (2 : Int) (lenI [.i .u64 y, .i .u64 z]) = true by rw [lnV2]; decide)]
  have w0 : d128_b1 [.i .u64 x] [.i .u64 y, .i .u64 z] (0, 0, 0, 0, 0) = some (.inl (1, r1, r2, c2, 0)) := by
    unfold d128_b1
    dsimp only
    rw [if_pos (show cmpLit .lss (0 : Int) (lenI [.i .u64 x]) = true by kernel_rfl), if_pos (show Inb (0 : Int) (lenI [.i .u64 x]) from ⟨by decide, by rw [lnV1]; decide⟩)]
    rw [iter_inl b1, iter_inl b2, iter_inr e0]
    simp only [Option.bind_some]
    rw [show arReal .add .i64 (0 : Int) (lenI [.i .u64 y, .i .u64 z]) = 2 by kernel_rfl, if_pos (show Inb 2 (Int.ofNat 4) by decide)]
    rw [if_neg (show ¬ cmpLit .eql 2 (Int.ofNat 0) = true by decide)]
    rw [if_neg (show ¬ cmpLit .eql 2 (Int.ofNat 1) = true by decide)]
    rw [if_pos (show cmpLit .eql 2 (Int.ofNat 2) = true by decide)]
    rfl
  have ee : d128_b1 [.i .u64 x] [.i .u64 y, .i .u64 z] (1, r1, r2, c2, 0) = some (.inr (r1, r2, c2, 0)) := by
    unfold d128_b1
    rw [if_neg (show ¬ cmpLit .lss (1 : Int) (lenI [.i .u64 x]) = true by rw [lnV1]; decide)]
  refine ⟨r1, r2, c2, 0, ?_, ur1, ur2, uc2, z0, ?_⟩
  · unfold d128
    rw [iter_inl w0, iter_inr ee]
    rfl
  · have e : (x) * (y + z * 18446744073709551616) = x * y + x * z * 18446744073709551616 := by grind
    rw [e]
    generalize x * y = qxy at *
    generalize x * z = qxz at *
    omega
theorem s128_22 {x y z v : Int} (ux : U64 x) (uy : U64 y) (uz : U64 z) (uv : U64 v) : ∃ l0 l1 l2 l3, d128 [.i .u64 x, .i .u64 y] [.i .u64 z, .i .u64 v] = some (l0, l1, l2, l3) ∧ U64 l0 ∧ U64 l1 ∧ U64 l2 ∧ U64 l3 ∧ l0 + l1 * 18446744073709551616 + l2 * 340282366920938463463374607431768211456 + l3 * 6277101735386680763835789423207666416102355444464034512896 = (x + y * 18446744073709551616) * (z + v * 18446744073709551616) := by
  have mxz := mul64 ux uz
  have mxv := mul64 ux uv
  have myz := mul64 uy uz
  have myv := mul64 uy uv
  have z0 : U64 0 := ⟨by omega, by omega⟩
  obtain ⟨c1, hc1⟩ : ∃ zz, zz = (x * z + 0 + 0) / 18446744073709551616 := ⟨_, rfl⟩
  obtain ⟨r1, hr1⟩ : ∃ zz, zz = (x * z + 0 + 0) % 18446744073709551616 := ⟨_, rfl⟩
  have uc1 : U64 c1 := ⟨by omega, by omega⟩
  have ur1 : U64 r1 := ⟨by omega, by omega⟩
  have b1 := st128_0 [.i .u64 x, .i .u64 y] [.i .u64 z, .i .u64 v] 0 0 0 0 0 0 0 0 0 0 0 x z (by decide) (by kernel_rfl) ⟨by decide, by rw [lnV2]; decide⟩ rfl rfl ux uz z0 z0
  rw [← hc1, ← hr1, show arReal .add .i64 0 1 = 1 by decide] at b1
  obtain ⟨c2, hc2⟩ : ∃ zz, zz = (x * v + 0 + c1) / 18446744073709551616 := ⟨_, rfl⟩
  obtain ⟨r2, hr2⟩ : ∃ zz, zz = (x * v + 0 + c1) % 18446744073709551616 := ⟨_, rfl⟩
  have := uc1.1; have := uc1.2
  have uc2 : U64 c2 := ⟨by omega, by omega⟩
  have ur2 : U64 r2 := ⟨by omega, by omega⟩
  have b2 := st128_1 [.i .u64 x, .i .u64 y] [.i .u64 z, .i .u64 v] 0 1 0 0 0 0 c1 r1 0 0 0 x v (by decide) (by kernel_rfl) ⟨by decide, by rw [lnV2]; decide⟩ rfl rfl ux uv z0 uc1
  rw [← hc2, ← hr2, show arReal .add .i64 1 1 = 2 by decide] at b2
  have e0 : d128_b2 [.i .u64 x, .i .u64 y] [.i .u64 z, .i .u64 v] (0, 0, 0, 0, 0) (c2, 2, r1, r2, 0, 0) = some (.inr (c2, r1, r2, 0, 0)) := by
    unfold d128_b2
    rw [if_neg (show ¬ cmpLit .lss (2 : Int) (lenI [.i .u64 z, .i .u64 v]) = true by rw [lnV2]; decide)]
  have w0 : d128_b1 [.i .u64 x, .i .u64 y] [.i .u64 z, .i .u64 v] (0, 0, 0, 0, 0) = some (.inl (1, r1, r2, c2, 0)) := by
    unfold d128_b1
    dsimp only
    rw [if_pos (show cmpLit .lss (0 : Int) (lenI [.i .u64 x, .i .u64 y]) = true by kernel_rfl), if_pos (show Inb (0 : Int) (lenI [.i .u64 x, .i .u64 y]) from ⟨by decide, by rw [lnV2]; decide⟩)]
    rw [iter_inl b1, iter_inl b2, iter_inr e0]
    simp only [Option.bind_some]
    rw [show arReal .add .i64 (0 : Int) (lenI [.i .u64 z, .i .u64 v]) = 2 by kernel_rfl, if_pos (show Inb 2 (Int.ofNat 4) by decide)]
    rw [if_neg (show ¬ cmpLit .eql 2 (Int.ofNat 0) = true by decide)]
    rw [if_neg (show ¬ cmpLit .eql 2 (Int.ofNat 1) = true by decide)]
    rw [if_pos (show cmpLit .eql 2 (Int.ofNat 2) = true by decide)]
    rfl
  obtain ⟨c3, hc3⟩ : ∃ zz, zz = (y * z + r2 + 0) / 18446744073709551616 := ⟨_, rfl⟩
  obtain ⟨r3, hr3⟩ : ∃ zz, zz = (y * z + r2 + 0) % 18446744073709551616 := ⟨_, rfl⟩
  have := ur2.1; have := ur2.2
  have uc3 : U64 c3 := ⟨by omega, by omega⟩
  have ur3 : U64 r3 := ⟨by omega, by omega⟩
  have b3 := st128_1 [.i .u64 x, .i .u64 y] [.i .u64 z, .i .u64 v] 1 0 r1 r2 c2 0 0 r1 r2 c2 0 y z (by decide) (by kernel_rfl) ⟨by decide, by rw [lnV2]; decide⟩ rfl rfl uy uz ur2 z0
  rw [← hc3, ← hr3, show arReal .add .i64 0 1 = 1 by decide] at b3
  obtain ⟨c4, hc4⟩ : ∃ zz, zz = (y * v + c2 + c3) / 18446744073709551616 := ⟨_, rfl⟩
  obtain ⟨r4, hr4⟩ : ∃ zz, zz = (y * v + c2 + c3) % 18446744073709551616 := ⟨_, rfl⟩
  have := uc2.1; have := uc2.2
  have := uc3.1; have := uc3.2
  have uc4 : U64 c4 := ⟨by omega, by omega⟩
  have ur4 : U64 r4 := ⟨by omega, by omega⟩
  have b4 := st128_2 [.i .u64 x, .i .u64 y] [.i .u64 z, .i .u64 v] 1 1 r1 r2 c2 0 c3 r1 r3 c2 0 y v (by decide) (by kernel_rfl) ⟨by decide, by rw [lnV2]; decide⟩ rfl rfl uy uv uc2 uc3
  rw [← hc4, ← hr4, show arReal .add .i64 1 1 = 2 by decide] at b4
  have e1 : d128_b2 [.i .u64 x, .i .u64 y] [.i .u64 z, .i .u64 v] (1, r1, r2, c2, 0) (c4, 2, r1, r3, r4, 0) = some (.inr (c4, r1, r3, r4, 0)) := by
    unfold d128_b2
    rw [if_neg (show ¬ cmpLit .lss (2 : Int) (lenI [.i .u64 z, .i .u64 v]) = true by rw [lnV2]; decide)]
  have w1 : d128_b1 [.i .u64 x, .i .u64 y] [.i .u64 z, .i .u64 v] (1, r1, r2, c2, 0) = some (.inl (2, r1, r3, r4, c4)) := by
    unfold d128_b1
    dsimp only
    rw [if_pos (show cmpLit .lss (1 : Int) (lenI [.i .u64 x, .i .u64 y]) = true by kernel_rfl), if_pos (show Inb (1 : Int) (lenI [.i .u64 x, .i .u64 y]) from ⟨by decide, by rw [lnV2]; decide⟩)]
    rw [iter_inl b3, iter_inl b4, iter_inr e1]
    simp only [Option.bind_some]
    rw [show arReal .add .i64 (1 : Int) (lenI [.i .u64 z, .i .u64 v]) = 3 by kernel_rfl, if_pos (show Inb 3 (Int.ofNat 4) by decide)]
    rw [if_neg (show ¬ cmpLit .eql 3 (Int.ofNat 0) = true by decide)]
    rw [if_neg (show ¬ cmpLit .eql 3 (Int.ofNat 1) = true by decide)]
    rw [if_neg (show ¬ cmpLit .eql 3 (Int.ofNat 2) = true by decide)]
    rfl
  have ee : d128_b1 [.i .u64 x, .i .u64 y] [.i .u64 z, .i .u64 v] (2, r1, r3, r4, c4) = some (.inr (r1, r3, r4, c4)) := by
    unfold d128_b1
    rw [if_neg (show ¬ cmpLit .lss (2 : Int) (lenI [.i .u64 x, .i .u64 y]) = true by rw [lnV2]; decide)]
  refine ⟨r1, r3, r4, c4, ?_, ur1, ur3, ur4, uc4, ?_⟩
  · unfold d128
    rw [iter_inl w0, iter_inl w1, iter_inr ee]
    rfl
  · have e : (x + y * 18446744073709551616) * (z + v * 18446744073709551616) = x * z + x * v * 18446744073709551616 + y * z * 18446744073709551616 + y * v * 340282366920938463463374607431768211456 := by grind
    rw [e]
    generalize x * z = qxz at *
    generalize x * v = qxv at *
    generalize y * z = qyz at *
    generalize y * v = qyv at *
    omega
theorem s129 {a b c d e f g h : Int} (ua : U64 a) (ub : U64 b) (uc : U64 c) (ud : U64 d) (ue : U64 e) (uf : U64 f) (ug : U64 g) (uh : U64 h) (hs : a + b * 18446744073709551616 + c * 340282366920938463463374607431768211456 + d * 6277101735386680763835789423207666416102355444464034512896 + (e + f * 18446744073709551616 + g * 340282366920938463463374607431768211456 + h * 6277101735386680763835789423207666416102355444464034512896) < 115792089237316195423570985008687907853269984665640564039457584007913129639936) : ∃ l0 l1 l2 l3, d129 a b c d e f g h = some (l0, l1, l2, l3) ∧ U64 l0 ∧ U64 l1 ∧ U64 l2 ∧ U64 l3 ∧ l0 + l1 * 18446744073709551616 + l2 * 340282366920938463463374607431768211456 + l3 * 6277101735386680763835789423207666416102355444464034512896 = a + b * 18446744073709551616 + c * 340282366920938463463374607431768211456 + d * 6277101735386680763835789423207666416102355444464034512896 + (e + f * 18446744073709551616 + g * 340282366920938463463374607431768211456 + h * 6277101735386680763835789423207666416102355444464034512896) := by
  have := ua.1; have := ua.2
  have := ub.1; have := ub.2
  have := uc.1; have := uc.2
  have := ud.1; have := ud.2
  have := ue.1; have := ue.2
  have := uf.1; have := uf.2
  have := ug.1; have := ug.2
  have := uh.1; have := uh.2
  obtain ⟨k0, hk0⟩ : ∃ zz, zz = (a + e + 0) / 18446744073709551616 := ⟨_, rfl⟩
  obtain ⟨r0, hr0⟩ : ∃ zz, zz = (a + e + 0) % 18446744073709551616 := ⟨_, rfl⟩
  have b0 : d129_b1 e f g h (0, 0, a, b, c, d) = some (.inl (k0, 1, r0, b, c, d)) := by
    unfold d129_b1
    dsimp only
    rw [if_pos (show cmpLit .lss (0 : Int) 4 = true by decide), if_pos (show Inb 0 (Int.ofNat 4) by decide)]
    rw [if_pos (show cmpLit .eql 0 (Int.ofNat 0) = true by decide)]
    rw [if_pos (show Inb 0 (Int.ofNat 4) by decide)]
    rw [if_pos (show cmpLit .eql 0 (Int.ofNat 0) = true by decide)]
    rw [s68 ua ue (by omega) (by omega)]
    simp only [Option.bind_some]
    rw [if_pos (show Inb 0 (Int.ofNat 4) by decide)]
    rw [if_pos (show cmpLit .eql 0 (Int.ofNat 0) = true by decide)]
    rw [← hk0, ← hr0]
    rfl
  obtain ⟨k1, hk1⟩ : ∃ zz, zz = (b + f + k0) / 18446744073709551616 := ⟨_, rfl⟩
  obtain ⟨r1, hr1⟩ : ∃ zz, zz = (b + f + k0) % 18446744073709551616 := ⟨_, rfl⟩
  have b1 : d129_b1 e f g h (k0, 1, r0, b, c, d) = some (.inl (k1, 2, r0, r1, c, d)) := by
    unfold d129_b1
    dsimp only
    rw [if_pos (show cmpLit .lss (1 : Int) 4 = true by decide), if_pos (show Inb 1 (Int.ofNat 4) by decide)]
    rw [if_neg (show ¬ cmpLit .eql 1 (Int.ofNat 0) = true by decide)]
    rw [if_pos (show cmpLit .eql 1 (Int.ofNat 1) = true by decide)]
    rw [if_pos (show Inb 1 (Int.ofNat 4) by decide)]
    rw [if_neg (show ¬ cmpLit .eql 1 (Int.ofNat 0) = true by decide)]
    rw [if_pos (show cmpLit .eql 1 (Int.ofNat 1) = true by decide)]
    rw [s68 ub uf (by omega) (by omega)]
    simp only [Option.bind_some]
    rw [if_pos (show Inb 1 (Int.ofNat 4) by decide)]
    rw [if_neg (show ¬ cmpLit .eql 1 (Int.ofNat 0) = true by decide)]
    rw [if_pos (show cmpLit .eql 1 (Int.ofNat 1) = true by decide)]
    rw [← hk1, ← hr1]
    rfl
  obtain ⟨k2, hk2⟩ : ∃ zz, zz = (c + g + k1) / 18446744073709551616 := ⟨_, rfl⟩
  obtain ⟨r2, hr2⟩ : ∃ zz, zz = (c + g + k1) % 18446744073709551616 := ⟨_, rfl⟩
  have b2 : d129_b1 e f g h (k1, 2, r0, r1, c, d) = some (.inl (k2, 3, r0, r1, r2, d)) := by
    unfold d129_b1
    dsimp only
    rw [if_pos (show cmpLit .lss (2 : Int) 4 = true by decide), if_pos (show Inb 2 (Int.ofNat 4) by decide)]
    rw [if_neg (show ¬ cmpLit .eql 2 (Int.ofNat 0) = true by decide)]
    rw [if_neg (show ¬ cmpLit .eql 2 (Int.ofNat 1) = true by decide)]
    rw [if_pos (show cmpLit .eql 2 (Int.ofNat 2) = true by decide)]
    rw [if_pos (show Inb 2 (Int.ofNat 4) by decide)]
    rw [if_neg (show ¬ cmpLit .eql 2 (Int.ofNat 0) = true by decide)]
    rw [if_neg (show ¬ cmpLit .eql 2 (Int.ofNat 1) = true by decide)]
    rw [if_pos (show cmpLit .eql 2 (Int.ofNat 2) = true by decide)]
    rw [s68 uc ug (by omega) (by omega)]
    simp only [Option.bind_some]
    rw [if_pos (show Inb 2 (Int.ofNat 4) by decide)]
    rw [if_neg (show ¬ cmpLit .eql 2 (Int.ofNat 0) = true by decide)]
    rw [if_neg (show ¬ cmpLit .eql 2 (Int.ofNat 1) = true by decide)]
    rw [if_pos (show cmpLit .eql 2 (Int.ofNat 2) = true by decide)]
    rw [← hk2, ← hr2]
    rfl
  obtain ⟨k3, hk3⟩ : ∃ zz, zz = (d + h + k2) / 18446744073709551616 := ⟨_, rfl⟩
  obtain ⟨r3, hr3⟩ : ∃ zz, zz = (d + h + k2) % 18446744073709551616 := ⟨_, rfl⟩
  have b3 : d129_b1 e f g h (k2, 3, r0, r1, r2, d) = some (.inl (k3, 4, r0, r1, r2, r3)) := by
    unfold d129_b1
    dsimp only
    rw [if_pos (show cmpLit .lss (3 : Int) 4 = true by decide), if_pos (show Inb 3 (Int.ofNat 4) by decide)]
    rw [if_neg (show ¬ cmpLit .eql 3 (Int.ofNat 0) = true by decide)]
    rw [if_neg (show ¬ cmpLit .eql 3 (Int.ofNat 1) = true by decide)]
    rw [if_neg (show ¬ cmpLit .eql 3 (Int.ofNat 2) = true by decide)]
    rw [if_pos (show Inb 3 (Int.ofNat 4) by decide)]
    rw [if_neg (show ¬ cmpLit .eql 3 (Int.ofNat 0) = true by decide)]
    rw [if_neg (show ¬ cmpLit .eql 3 (Int.ofNat 1) = true by decide)]
    rw [if_neg (show ¬ cmpLit .eql 3 (Int.ofNat 2) = true by decide)]
    rw [s68 ud uh (by omega) (by omega)]
    simp only [Option.bind_some]
    rw [if_pos (show Inb 3 (Int.ofNat 4) by decide)]
    rw [if_neg (show ¬ cmpLit .eql 3 (Int.ofNat 0) = true by decide)]
    rw [if_neg (show ¬ cmpLit .eql 3 (Int.ofNat 1) = true by decide)]
    rw [if_neg (show ¬ cmpLit .eql 3 (Int.ofNat 2) = true by decide)]
    rw [← hk3, ← hr3]
    rfl
  have ee : d129_b1 e f g h (k3, 4, r0, r1, r2, r3) = some (.inr (r0, r1, r2, r3)) := by
    unfold d129_b1
    dsimp only
    rw [if_neg (show ¬ cmpLit .lss (4 : Int) 4 = true by decide)]
  refine ⟨r0, r1, r2, r3, ?_, ⟨by omega, by omega⟩, ⟨by omega, by omega⟩, ⟨by omega, by omega⟩, ⟨by omega, by omega⟩, by omega⟩
  unfold d129
  rw [iter_inl b0, iter_inl b1, iter_inl b2, iter_inl b3, iter_inr ee]
  rfl
theorem s130 {a b c d e f g h : Int} (ua : U64 a) (ub : U64 b) (uc : U64 c) (ud : U64 d) (ue : U64 e) (uf : U64 f) (ug : U64 g) (uh : U64 h) : d130 a b c d e f g h = some (decide (a + b * 18446744073709551616 + c * 340282366920938463463374607431768211456 + d * 6277101735386680763835789423207666416102355444464034512896 < e + f * 18446744073709551616 + g * 340282366920938463463374607431768211456 + h * 6277101735386680763835789423207666416102355444464034512896)) := by
  have := ua.1; have := ua.2
  have := ub.1; have := ub.2
  have := uc.1; have := uc.2
  have := ud.1; have := ud.2
  have := ue.1; have := ue.2
  have := uf.1; have := uf.2
  have := ug.1; have := ug.2
  have := uh.1; have := uh.2
  have n3 : ¬ d = h → d130_b1 a b c d e f g h 3 = some (.inr (.inl (decide (d < h)))) := by
    intro hn
    unfold d130_b1
    rw [if_pos (show cmpLit .geq (3 : Int) 0 = true by decide), if_pos (show Inb 3 (Int.ofNat 4) by decide)]
    rw [if_neg (show ¬ cmpLit .eql 3 (Int.ofNat 0) = true by decide)]
    rw [if_neg (show ¬ cmpLit .eql 3 (Int.ofNat 1) = true by decide)]
    rw [if_neg (show ¬ cmpLit .eql 3 (Int.ofNat 2) = true by decide)]
    rw [if_pos (show Inb 3 (Int.ofNat 4) by decide)]
    rw [if_neg (show ¬ cmpLit .eql 3 (Int.ofNat 0) = true by decide)]
    rw [if_neg (show ¬ cmpLit .eql 3 (Int.ofNat 1) = true by decide)]
    rw [if_neg (show ¬ cmpLit .eql 3 (Int.ofNat 2) = true by decide)]
    rw [c_neq, nif' hn, if_pos (show Inb 3 (Int.ofNat 4) by decide)]
    rw [if_neg (show ¬ cmpLit .eql 3 (Int.ofNat 0) = true by decide)]
    rw [if_neg (show ¬ cmpLit .eql 3 (Int.ofNat 1) = true by decide)]
    rw [if_neg (show ¬ cmpLit .eql 3 (Int.ofNat 2) = true by decide)]
    rw [if_pos (show Inb 3 (Int.ofNat 4) by decide)]
    rw [if_neg (show ¬ cmpLit .eql 3 (Int.ofNat 0) = true by decide)]
    rw [if_neg (show ¬ cmpLit .eql 3 (Int.ofNat 1) = true by decide)]
    rw [if_neg (show ¬ cmpLit .eql 3 (Int.ofNat 2) = true by decide)]
    rw [c_lss]
  have y3 : d = h → d130_b1 a b c d e f g h 3 = some (.inl (2)) := by
    intro hn
    unfold d130_b1
    rw [if_pos (show cmpLit .geq (3 : Int) 0 = true by decide), if_pos (show Inb 3 (Int.ofNat 4) by decide)]
    rw [if_neg (show ¬ cmpLit .eql 3 (Int.ofNat 0) = true by decide)]
    rw [if_neg (show ¬ cmpLit .eql 3 (Int.ofNat 1) = true by decide)]
    rw [if_neg (show ¬ cmpLit .eql 3 (Int.ofNat 2) = true by decide)]
    rw [if_pos (show Inb 3 (Int.ofNat 4) by decide)]
    rw [if_neg (show ¬ cmpLit .eql 3 (Int.ofNat 0) = true by decide)]
    rw [if_neg (show ¬ cmpLit .eql 3 (Int.ofNat 1) = true by decide)]
    rw [if_neg (show ¬ cmpLit .eql 3 (Int.ofNat 2) = true by decide)]
    rw [c_neq, nif hn]
    rfl
  have n2 : ¬ c = g → d130_b1 a b c d e f g h 2 = some (.inr (.inl (decide (c < g)))) := by
    intro hn
    unfold d130_b1
    rw [if_pos (show cmpLit .geq (2 : Int) 0 = true by decide), if_pos (show Inb 2 (Int.ofNat 4) by decide)]
    rw [if_neg (show ¬ cmpLit .eql 2 (Int.ofNat 0) = true by decide)]
    rw [if_neg (show ¬ cmpLit .eql 2 (Int.ofNat 1) = true by decide)]
    rw [if_pos (show cmpLit .eql 2 (Int.ofNat 2) = true by decide)]
    rw [if_pos (show Inb 2 (Int.ofNat 4) by decide)]
    rw [if_neg (show ¬ cmpLit .eql 2 (Int.ofNat 0) = true by decide)]
    rw [if_neg (show ¬ cmpLit .eql 2 (Int.ofNat 1) = true by decide)]
    rw [if_pos (show cmpLit .eql 2 (Int.ofNat 2) = true by decide)]
    rw [c_neq, nif' hn, if_pos (show Inb 2 (Int.ofNat 4) by decide)]
    rw [if_neg (show ¬ cmpLit .eql 2 (Int.ofNat 0) = true by decide)]
    rw [if_neg (show ¬ cmpLit .eql 2 (Int.ofNat 1) = true by decide)]
    rw [if_pos (show cmpLit .eql 2 (Int.ofNat 2) = true by decide)]
    rw [if_pos (show Inb 2 (Int.ofNat 4) by decide)]
    rw [if_neg (show ¬ cmpLit .eql 2 (Int.ofNat 0) = true by decide)]
    rw [if_neg (show ¬ cmpLit .eql 2 (Int.ofNat 1) = true by decide)]
    rw [if_pos (show cmpLit .eql 2 (Int.ofNat 2) = true by decide)]
    rw [c_lss]
  have y2 : c = g → d130_b1 a b c d e f g h 2 = some (.inl (1)) := by
    intro hn
    unfold d130_b1
    rw [if_pos (show cmpLit .geq (2 : Int) 0 = true by decide), if_pos (show Inb 2 (Int.ofNat 4) by decide)]
    rw [if_neg (show ¬ cmpLit .eql 2 (Int.ofNat 0) = true by decide)]
    rw [if_neg (show ¬ cmpLit .eql 2 (Int.ofNat 1) = true by decide)]
    rw [if_pos (show cmpLit .eql 2 (Int.ofNat 2) = true by decide)]
    rw [if_pos (show Inb 2 (Int.ofNat 4) by decide)]
    rw [if_neg (show ¬ cmpLit .eql 2 (Int.ofNat 0) = true by decide)]
    rw [if_neg (show ¬ cmpLit .eql 2 (Int.ofNat 1) = true by decide)]
    rw [if_pos (show cmpLit .eql 2 (Int.ofNat 2) = true by decide)]
    rw [c_neq, nif hn]
    rfl
  have n1 : ¬ b = f → d130_b1 a b c d e f g h 1 = some (.inr (.inl (decide (b < f)))) := by
    intro hn
    unfold d130_b1
    rw [if_pos (show cmpLit .geq (1 : Int) 0 = true by decide), if_pos (show Inb 1 (Int.ofNat 4) by decide)]
    rw [if_neg (show ¬ cmpLit .eql 1 (Int.ofNat 0) = true by decide)]
    rw [if_pos (show cmpLit .eql 1 (Int.ofNat 1) = true by decide)]
    rw [if_pos (show Inb 1 (Int.ofNat 4) by decide)]
    rw [if_neg (show ¬ cmpLit .eql 1 (Int.ofNat 0) = true by decide)]
    rw [if_pos (show cmpLit .eql 1 (Int.ofNat 1) = true by decide)]
    rw [c_neq, nif' hn, if_pos (show Inb 1 (Int.ofNat 4) by decide)]
    rw [if_neg (show ¬ cmpLit .eql 1 (Int.ofNat 0) = true by decide)]
    rw [if_pos (show cmpLit .eql 1 (Int.ofNat 1) = true by decide)]
    rw [if_pos (show Inb 1 (Int.ofNat 4) by decide)]
    rw [if_neg (show ¬ cmpLit .eql 1 (Int.ofNat 0) = true by decide)]
    rw [if_pos (show cmpLit .eql 1 (Int.ofNat 1) = true by decide)]
    rw [c_lss]
  have y1 : b = f → d130_b1 a b c d e f g h 1 = some (.inl (0)) := by
    intro hn
    unfold d130_b1
    rw [if_pos (show cmpLit .geq (1 : Int) 0 = true by decide), if_pos (show Inb 1 (Int.ofNat 4) by decide)]
    rw [if_neg (show ¬ cmpLit .eql 1 (Int.ofNat 0) = true by decide)]
    rw [if_pos (show cmpLit .eql 1 (Int.ofNat 1) = true by decide)]
    rw [if_pos (show Inb 1 (Int.ofNat 4) by decide)]
    rw [if_neg (show ¬ cmpLit .eql 1 (Int.ofNat 0) = true by decide)]
    rw [if_pos (show cmpLit .eql 1 (Int.ofNat 1) = true by decide)]
    rw [c_neq, nif hn]
    rfl
  have n0 : ¬ a = e → d130_b1 a b c d e f g h 0 = some (.inr (.inl (decide (a < e)))) := by
    intro hn
    unfold d130_b1
    rw [if_pos (show cmpLit .geq (0 : Int) 0 = true by decide), if_pos (show Inb 0 (Int.ofNat 4) by decide)]
    rw [if_pos (show cmpLit .eql 0 (Int.ofNat 0) = true by decide)]
    rw [if_pos (show Inb 0 (Int.ofNat 4) by decide)]
    rw [if_pos (show cmpLit .eql 0 (Int.ofNat 0) = true by decide)]
    rw [c_neq, nif' hn, if_pos (show Inb 0 (Int.ofNat 4) by decide)]
    rw [if_pos (show cmpLit .eql 0 (Int.ofNat 0) = true by decide)]
    rw [if_pos (show Inb 0 (Int.ofNat 4) by decide)]
    rw [if_pos (show cmpLit .eql 0 (Int.ofNat 0) = true by decide)]
    rw [c_lss]
  have y0 : a = e → d130_b1 a b c d e f g h 0 = some (.inl (-1)) := by
    intro hn
    unfold d130_b1
    rw [if_pos (show cmpLit .geq (0 : Int) 0 = true by decide), if_pos (show Inb 0 (Int.ofNat 4) by decide)]
    rw [if_pos (show cmpLit .eql 0 (Int.ofNat 0) = true by decide)]
    rw [if_pos (show Inb 0 (Int.ofNat 4) by decide)]
    rw [if_pos (show cmpLit .eql 0 (Int.ofNat 0) = true by decide)]
    rw [c_neq, nif hn]
    rfl
  have ee : d130_b1 a b c d e f g h (-1) = some (.inr (.inr ())) := by
    unfold d130_b1
    rw [if_neg (by decide)]
  unfold d130
  by_cases h3 : d = h
  · rw [iter_inl (y3 h3)]
    by_cases h2 : c = g
    · rw [iter_inl (y2 h2)]
      by_cases h1 : b = f
      · rw [iter_inl (y1 h1)]
        by_cases h0 : a = e
        · rw [iter_inl (y0 h0)]
          rw [iter_inr ee]
          exact someF (by omega)
        · rw [iter_inr (n0 h0)]
          exact someD (by omega)
      · rw [iter_inr (n1 h1)]
        exact someD (by omega)
    · rw [iter_inr (n2 h2)]
      exact someD (by omega)
  · rw [iter_inr (n3 h3)]
    exact someD (by omega)
end Go.Proofs.Ytmofhbedamjblaa
end
section
namespace Go.Proofs.Ytmofhbedamjblaa
open Go.Ab Go.RowKit
set_option maxRecDepth 100000
open Classical in
noncomputable def bits (P : Int → Prop) : Nat → Int → Int
  | 0, r => r
  | k + 1, r => if P (r + 2 ^ k) then bits P k (r + 2 ^ k) else bits P k r
theorem two_succ (k : Nat) : (2 : Int) ^ (k + 1) = 2 ^ k + 2 ^ k := by rw [Int.pow_succ]; omega
theorem two_pos (k : Nat) : (0 : Int) < 2 ^ k := Int.pow_pos (by omega)
open Classical in
theorem bits_iter (f : Int × Int → Option ((Int × Int) ⊕ Int)) (P : Int → Prop) (h0 : ∀ r, f (r, -1) = some (.inr r))
    (hf : ∀ (k : Nat) (a : Int), k ≤ 62 → 0 ≤ a → a * 2 ^ (k + 1) + 2 ^ (k + 1) ≤ 9223372036854775808 → f (a * 2 ^ (k + 1), (k : Int)) = some (.inl (if P (a * 2 ^ (k + 1) + 2 ^ k) then a * 2 ^ (k + 1) + 2 ^ k else a * 2 ^ (k + 1), (k : Int) - 1))) :
    ∀ (n : Nat) (a : Int), n ≤ 63 → 0 ≤ a → a * 2 ^ n + 2 ^ n ≤ 9223372036854775808 → iter f (a * 2 ^ n, (n : Int) - 1) = some (bits P n (a * 2 ^ n)) ∧ 0 ≤ bits P n (a * 2 ^ n) ∧ bits P n (a * 2 ^ n) < 9223372036854775808
  | 0, a, _, ha, hb => by
    refine ⟨iter_inr (h0 _), Int.mul_nonneg ha (by decide), ?_⟩
    show a * 2 ^ 0 < _
    have : (2 : Int) ^ 0 = 1 := by decide
    omega
  | n + 1, a, hn, ha, hb => by
    have ep := two_succ n
    have hp := two_pos n
    have e1 : a * 2 ^ (n + 1) = (2 * a) * 2 ^ n := by rw [ep]; grind
    have e2 : a * 2 ^ (n + 1) + 2 ^ n = (2 * a + 1) * 2 ^ n := by rw [ep]; grind
    have hs := hf n a (by omega) ha hb
    have ei : ((n + 1 : Nat) : Int) - 1 = (n : Int) := by omega
    rw [ei, iter_inl hs]
    unfold bits
    by_cases hP : P (a * 2 ^ (n + 1) + 2 ^ n)
    · rw [if_pos hP, if_pos hP, e2]
      exact bits_iter f P h0 hf n (2 * a + 1) (by omega) (by omega) (by omega)
    · rw [if_neg hP, if_neg hP, e1]
      exact bits_iter f P h0 hf n (2 * a) (by omega) (by omega) (by omega)
theorem bits_none {P : Int → Prop} (h : ∀ r, 0 < r → ¬ P r) : ∀ n, bits P n 0 = 0
  | 0 => rfl
  | n + 1 => by
    unfold bits
    rw [if_neg (h _ (by have := two_pos n; omega))]
    exact bits_none h n
theorem bits_congr {P Q : Int → Prop} (h : ∀ r, 0 < r → r < 9223372036854775808 → (P r ↔ Q r)) : ∀ (n : Nat) (a : Int), 0 ≤ a → a * 2 ^ n + 2 ^ n ≤ 9223372036854775808 → bits P n (a * 2 ^ n) = bits Q n (a * 2 ^ n)
  | 0, a, _, _ => rfl
  | n + 1, a, ha, hb => by
    have ep := two_succ n
    have hp := two_pos n
    have e1 : a * 2 ^ (n + 1) = (2 * a) * 2 ^ n := by rw [ep]; grind
    have e2 : a * 2 ^ (n + 1) + 2 ^ n = (2 * a + 1) * 2 ^ n := by rw [ep]; grind
    have hm : 0 ≤ (2 * a) * 2 ^ n := Int.mul_nonneg (by omega) (by omega)
    have hpq := h (a * 2 ^ (n + 1) + 2 ^ n) (by omega) (by omega)
    unfold bits
    by_cases hP : P (a * 2 ^ (n + 1) + 2 ^ n)
    · rw [if_pos hP, if_pos (hpq.1 hP), e2]
      exact bits_congr h n (2 * a + 1) (by omega) (by omega)
    · rw [if_neg hP, if_neg (fun k => hP (hpq.2 k)), e1]
      exact bits_congr h n (2 * a) (by omega) (by omega)
def Sq (h l : Int) : Int := W2 (wrapK .u64 h) (wrapK .u64 l)
def dvP (n sum S r : Int) : Prop := (r * n) * (r * n) + sum * sum ≤ n * S
noncomputable def dv (n sum S : Int) : Int := if n = 0 ∨ S = 0 then 0 else bits (dvP n sum S) 63 0
theorem dv_0 {n sum S : Int} (h : n = 0 ∨ S = 0) : dv n sum S = 0 := by unfold dv; rw [if_pos h]
theorem dv_1 {n sum S : Int} (h : ¬ n = 0) (h2 : ¬ S = 0) : dv n sum S = bits (dvP n sum S) 63 0 := by
  unfold dv; rw [if_neg (by rintro (k | k); exact h k; exact h2 k)]
theorem or_bit {a : Int} {k : Nat} (ha : 0 ≤ a) (hk : k ≤ 62) (hb : a * 2 ^ (k + 1) + 2 ^ (k + 1) ≤ 9223372036854775808) : arReal .or .u64 (a * 2 ^ (k + 1)) (arReal .shl .u64 1 (k : Int)) = a * 2 ^ (k + 1) + 2 ^ k := by
  have ep := two_succ k
  have hp := two_pos k
  have hm : 0 ≤ a * 2 ^ (k + 1) := Int.mul_nonneg ha (by omega)
  have e : ((2 ^ k : Nat) : Int) = (2 : Int) ^ k := by push_cast; rfl
  have e' : ((2 ^ (k + 1) : Nat) : Int) = (2 : Int) ^ (k + 1) := by push_cast; rfl
  have e1 : arReal .shl .u64 1 (k : Int) = 2 ^ k := by
    rw [ar_shlu _ _ (by omega), Int.one_mul, e]
    omega
  rw [e1]
  have := ar_oru (a := a) (b := 2 ^ k) (n := k + 1) ha (by omega) (by omega) (by rw [e']; omega) (by rw [e']; omega)
  rw [e'] at this
  exact this
open Classical in
theorem s108 {nm : ByteArray} {fn : Int} {p ks : List V} {n sum h l : Int} (hn : Cnt n) (hsum : I64 sum) : d108 nm fn p ks (vi [n, sum, h, l]) = some (dv n sum (Sq h l)) ∧ 0 ≤ dv n sum (Sq h l) := by
  obtain ⟨n0, n1⟩ := hn
  have us := wku_u h
  have ul := wku_u l
  have us1 := us.1; have us2 := us.2; have ul1 := ul.1; have ul2 := ul.2
  have hd : d126 nm fn p ks (vi [n, sum, h, l]) = some (wrapK .u64 h, wrapK .u64 l) := by
    unfold d126
    simp only [iv42, iv43, ↓reduceIte, g42, g43]
  unfold d108
  rw [if_pos (iv40 _ _ _ _), g40, c_eql, hd]
  by_cases hz : n = 0
  · rw [yif hz, dv_0 (.inl hz)]; exact ⟨rfl, by omega⟩
  rw [yif' hz]
  simp only [Option.bind_some, c_eql]
  by_cases hS : Sq h l = 0
  · rw [dv_0 (.inr hS)]
    have hz1 : wrapK .u64 h = 0 := by unfold Sq W2 at hS; omega
    have hz2 : wrapK .u64 l = 0 := by unfold Sq W2 at hS; omega
    rw [if_pos (by rw [dT hz1, dT hz2]; rfl)]
    exact ⟨rfl, by omega⟩
  have hnz : ¬ (andB' (decide (wrapK .u64 h = 0)) (decide (wrapK .u64 l = 0)) = true) := by
    intro hh
    unfold andB' at hh
    rw [Bool.and_eq_true, decide_eq_true_eq, decide_eq_true_eq] at hh
    apply hS
    unfold Sq W2; omega
  rw [dv_1 hz hS, if_neg hnz, if_pos (iv40 _ _ _ _)]
  have un : U64 n := ⟨n0, by omega⟩
  rw [wk_u un]
  obtain ⟨a0, a1, a2, a3, ea, ua0, ua1, ua2, ua3, ha⟩ := s128_12 (x := n) (y := wrapK .u64 l) (z := wrapK .u64 h) un ul us
  rw [ea]
  simp only [Option.bind_some]
  rw [if_pos (iv41 _ _ _ _), g41, s124 hsum]
  simp only [Option.bind_some]
  have hall : a0 + a1 * 18446744073709551616 + a2 * 340282366920938463463374607431768211456 + a3 * 6277101735386680763835789423207666416102355444464034512896 = n * Sq h l := by
    rw [ha]; unfold Sq W2; grind
  have hsq : 0 ≤ sum * sum ∧ sum * sum ≤ 85070591730234615865843651857942052864 := by
    obtain ⟨q1, q2⟩ := hsum
    by_cases hs : 0 ≤ sum
    · have := mul_rng2 (x := sum) (y := sum) (m := 9223372036854775808) (n := 9223372036854775808) hs (by omega) hs (by omega)
      omega
    · have := mul_rng2 (x := -sum) (y := -sum) (m := 9223372036854775808) (n := 9223372036854775808) (by omega) (by omega) (by omega) (by omega)
      rw [Int.neg_mul_neg] at this
      omega
  have hb : ∀ (k : Nat) (a : Int), k ≤ 62 → 0 ≤ a → a * 2 ^ (k + 1) + 2 ^ (k + 1) ≤ 9223372036854775808 → d108_b1 (vi [n, sum, h, l]) (a0, a1, a2, a3) (sum * sum / 18446744073709551616, sum * sum % 18446744073709551616) (a * 2 ^ (k + 1), (k : Int)) = some (.inl (if dvP n sum (Sq h l) (a * 2 ^ (k + 1) + 2 ^ k) then a * 2 ^ (k + 1) + 2 ^ k else a * 2 ^ (k + 1), (k : Int) - 1)) := by
    intro k a hk ha0 hab
    have ep := two_succ k
    have hp := two_pos k
    have hm : 0 ≤ a * 2 ^ (k + 1) := Int.mul_nonneg ha0 (by omega)
    have hr1 : 0 ≤ a * 2 ^ (k + 1) + 2 ^ k := by omega
    have hr2 : a * 2 ^ (k + 1) + 2 ^ k < 9223372036854775808 := by omega
    unfold d108_b1
    dsimp only
    rw [if_pos (by rw [c_geq]; exact dT (by omega)), if_pos (show Ge0 (k : Int) by unfold Ge0; omega), or_bit ha0 hk hab, g40, wk_u un]
    have es : arReal .sub .i64 (k : Int) 1 = (k : Int) - 1 := ar_sub' ⟨by omega, by omega⟩
    rw [es, if_pos (show Ge0 (k : Int) by unfold Ge0; omega)]
    generalize a * 2 ^ (k + 1) = r at *
    generalize (2 : Int) ^ k = bb at *
    have ur : U64 (r + bb) := ⟨by omega, by omega⟩
    obtain ⟨l0, l1, l2, l3, e1, u0, u1, u2, u3, h1⟩ := s128_11 (x := r + bb) (y := n) ur un
    rw [e1]
    simp only [Option.bind_some]
    obtain ⟨m0, m1, m2, m3, e2, v0, v1, v2, v3, h2⟩ := s128_22 (x := l0) (y := l1) (z := l0) (v := l1) u0 u1 u0 u1
    rw [e2]
    simp only [Option.bind_some]
    have hrn := mul_rng2 (x := r + bb) (y := n) (m := 9223372036854775808) (n := 4611686018427387904) (by omega) (by omega) n0 n1
    have u0' := u0.1; have u1' := u1.1; have u2' := u2.1; have u3' := u3.1
    have hv : l0 + l1 * 18446744073709551616 = (r + bb) * n := by omega
    rw [hv] at h2
    have hsqr := mul_rng2 (x := (r + bb) * n) (y := (r + bb) * n) (m := 42535295865117307932921825928971026432) (n := 42535295865117307932921825928971026432) (by omega) (by omega) (by omega) (by omega)
    have us1 : U64 (sum * sum % 18446744073709551616) := ⟨by omega, by omega⟩
    have us2 : U64 (sum * sum / 18446744073709551616) := ⟨by omega, by omega⟩
    have z0 : U64 0 := ⟨by omega, by omega⟩
    generalize hqq : (r + bb) * n * ((r + bb) * n) = Q at *
    generalize hss : sum * sum = s2 at *
    obtain ⟨t0, t1, t2, t3, e3, w0, w1, w2, w3, h3⟩ := s129 (a := m0) (b := m1) (c := m2) (d := m3) (e := s2 % 18446744073709551616) (f := s2 / 18446744073709551616) (g := 0) (h := 0) v0 v1 v2 v3 us1 us2 z0 z0 (by omega)
    rw [e3]
    simp only [Option.bind_some]
    rw [s130 ua0 ua1 ua2 ua3 w0 w1 w2 w3, h3, hall, h2]
    simp only [Option.bind_some, notB_dec]
    have hiff : dvP n sum (Sq h l) (r + bb) ↔ ¬ (n * Sq h l < Q + (s2 % 18446744073709551616 + s2 / 18446744073709551616 * 18446744073709551616 + 0 * 340282366920938463463374607431768211456 + 0 * 6277101735386680763835789423207666416102355444464034512896)) := by
      unfold dvP
      rw [hqq, hss]
      generalize n * Sq h l = A
      omega
    by_cases hP : dvP n sum (Sq h l) (r + bb)
    · rw [if_pos hP]
      exact if_pos (dT (hiff.1 hP))
    · rw [if_neg hP]
      exact if_neg (by rw [dF (fun k => hP (hiff.2 k))]; simp)
  have hI := bits_iter (d108_b1 (vi [n, sum, h, l]) (a0, a1, a2, a3) (sum * sum / 18446744073709551616, sum * sum % 18446744073709551616)) (dvP n sum (Sq h l)) (fun r => by unfold d108_b1; rw [if_neg (by dsimp only; decide)]) hb 63 0 (by omega) (by omega) (by decide)
  rw [Int.zero_mul, show ((63 : Nat) : Int) - 1 = 62 by decide] at hI
  rw [hI.1]
  simp only [Option.bind_some]
  rw [wk_i ⟨by have := hI.2.1; omega, by have := hI.2.2; omega⟩]
  exact ⟨rfl, hI.2.1⟩
end Go.Proofs.Ytmofhbedamjblaa
end
section
namespace Go.Proofs.Ytmofhbedamjblaa
open Go.Ab Go.RowKit
set_option maxRecDepth 100000
def tot (s : List Int) : Int := s.foldl (fun n v => wrapK .i64 (n + v)) 0
noncomputable def val (fn : Int) (s : List Int) : Int :=
  if fn ≤ 2 then s.getD 0 0 else if fn ≤ 4 then s.getD 1 0 else if fn = 5 then (if s.getD 0 0 = 0 then 0 else arReal .quo .i64 (s.getD 1 0) (s.getD 0 0))
  else if fn = 6 then dv (s.getD 0 0) (s.getD 1 0) (Sq (s.getD 2 0) (s.getD 3 0)) else tot s
theorem s110 (nm : ByteArray) (fn : Int) (p ks : List V) (s : List Int) (hs : s.length ≤ 2000) : d110 nm fn p ks (vi s) = some (tot s) := by
  have hI : iter (d110_b1 (vi s)) ((s.take 0).foldl (fun n v => wrapK .i64 (n + v)) 0, ((0 : Nat) : Int)) = some ((s.take s.length).foldl (fun n v => wrapK .i64 (n + v)) 0) := by
    refine scan (d110_b1 (vi s)) (fun j => ((s.take j).foldl (fun n v => wrapK .i64 (n + v)) 0, (j : Int))) (i := s.length) (Nat.zero_le _) (fun j _ hj => ?_) ?_
    · unfold d110_b1
      dsimp only
      rw [lenI_vi, if_pos (lt_i hj), if_pos (inb_i hj), gI_vi _ _ hj, succ_i hj (by omega), List.take_succ_eq_append_getElem hj, List.foldl_append]
      rfl
    · unfold d110_b1
      dsimp only
      rw [lenI_vi, if_neg (nlt_i _)]
  rw [List.take_length] at hI
  have hI' : iter (d110_b1 (vi s)) (0, 0) = some (tot s) := hI
  unfold d110
  rw [hI']
  rfl
theorem e48b : d48_b1 = d110_b1 := rfl
theorem iv10 (a : Int) : Inb 0 (lenI (vi [a])) := ⟨by omega, by rw [vi_len]; show (0 : Int) < 1; omega⟩
theorem s39 {nm : ByteArray} {fn : Int} {p : List Int} {ks : List V} (h : okA nm fn p ks) {s : List Int} (hs : valS fn p s) (hi : ∀ x ∈ s, I64 x) : d39 nm fn (vi p) ks (vi s) = some (val fn s) := by
  have ls := val_len h hs
  unfold d39
  rw [e70]
  simp only [Option.bind_some]
  rcases fn_cases h.fn with rfl | rfl | rfl | rfl | rfl | rfl | rfl | rfl | rfl
  · rw [if_pos (show Inb 1 (Int.ofNat 10) by decide), if_neg (by decide), if_pos (by decide)]
    obtain ⟨a, rfl, ha⟩ := v1 hs
    unfold d95
    rw [if_pos (iv10 a)]
    rfl
  · rw [if_pos (show Inb 2 (Int.ofNat 10) by decide), if_neg (by decide), if_neg (by decide), if_pos (by decide)]
    obtain ⟨a, rfl⟩ := v2 hs
    unfold d95
    rw [if_pos (iv10 a)]
    rfl
  · rw [if_pos (show Inb 3 (Int.ofNat 10) by decide), if_neg (by decide), if_neg (by decide), if_neg (by decide), if_pos (by decide)]
    obtain ⟨a, x, rfl, ha, _⟩ := v345 (by omega) hs
    unfold d100
    rw [if_pos (iv21 a x)]
    rfl
  · rw [if_pos (show Inb 4 (Int.ofNat 10) by decide), if_neg (by decide), if_neg (by decide), if_neg (by decide), if_neg (by decide), if_pos (by decide)]
    obtain ⟨a, x, rfl, ha, _⟩ := v345 (by omega) hs
    unfold d100
    rw [if_pos (iv21 a x)]
    rfl
  · rw [if_pos (show Inb 5 (Int.ofNat 10) by decide), if_neg (by decide), if_neg (by decide), if_neg (by decide), if_neg (by decide), if_neg (by decide), if_pos (by decide)]
    obtain ⟨a, x, rfl, ha, _⟩ := v345 (by omega) hs
    unfold d105
    have e : val 5 [a, x] = if a = 0 then 0 else arReal .quo .i64 x a := by unfold val; rw [if_neg (by omega), if_neg (by omega), if_pos rfl]; rfl
    simp only [iv20, iv21, ↓reduceIte, g20, g21, c_eql]
    rw [e]
    by_cases hz : a = 0
    · rw [yif hz, if_pos hz]; rfl
    · rw [yif' hz, if_neg hz, if_pos (show Ne0 a from hz)]; rfl
  · rw [if_pos (show Inb 6 (Int.ofNat 10) by decide), if_neg (by decide), if_neg (by decide), if_neg (by decide), if_neg (by decide), if_neg (by decide), if_neg (by decide), if_pos (by decide)]
    obtain ⟨a, x, y, z, rfl, ha, _⟩ := v6 hs
    rw [(s108 ha (hi x (by simp))).1]
    rfl
  · rw [if_pos (show Inb 7 (Int.ofNat 10) by decide), if_neg (by decide), if_neg (by decide), if_neg (by decide), if_neg (by decide), if_neg (by decide), if_neg (by decide), if_neg (by decide), if_pos (by decide)]
    rw [s110 _ _ _ _ s (by omega)]
    rfl
  · rw [if_pos (show Inb 8 (Int.ofNat 10) by decide), if_neg (by decide), if_neg (by decide), if_neg (by decide), if_neg (by decide), if_neg (by decide), if_neg (by decide), if_neg (by decide), if_neg (by decide), if_pos (by decide)]
    rw [s110 _ _ _ _ s (by omega)]
    rfl
  · rw [if_pos (show Inb 9 (Int.ofNat 10) by decide), if_neg (by decide), if_neg (by decide), if_neg (by decide), if_neg (by decide), if_neg (by decide), if_neg (by decide), if_neg (by decide), if_neg (by decide), if_neg (by decide)]
    rw [s110 _ _ _ _ s (by omega)]
    rfl
theorem s21 (nm : ByteArray) (fn : Int) (p : List Int) (ks : List V) (hp : ∀ x ∈ p, I64 x) (s : List Int) (hs : s.length ≤ 9223372036854775807) (hi : ∀ x ∈ s, I64 x) :
    d21 nm fn (vi p) ks (vi s) = some (if chkS nm fn p ks s = 0 then (val fn s, 0) else (0, chkS nm fn p ks s)) := by
  unfold d21
  rw [s37_1 nm fn p ks hp s hs]
  simp only [Option.bind_some, c_neq]
  by_cases h1 : chkS nm fn p ks s = 0
  · obtain ⟨hA, hV⟩ := chk0.1 h1
    rw [if_pos h1, nif h1, s39 hA hV hi]
    rfl
  · rw [if_neg h1, nif' h1]
def part (f : Int → Int) (l : List Int) (j : Nat) : List Int := (l.take j).map f ++ l.drop j
theorem part_get {f : Int → Int} {l : List Int} {j : Nat} (hj : j < l.length) : ∃ h : j < (part f l j).length, (part f l j)[j] = l[j] := by
  have hl : ((l.take j).map f).length = j := by rw [List.length_map, List.length_take]; omega
  have h : j < (part f l j).length := by
    unfold part
    rw [List.length_append, hl, List.length_drop]; omega
  refine ⟨h, ?_⟩
  have : (part f l j)[j]? = some l[j] := by
    unfold part
    rw [List.getElem?_append_right (by omega), hl, Nat.sub_self]
    simp [hj]
  rw [List.getElem?_eq_getElem h] at this
  exact Option.some.inj this
theorem part_step {f : Int → Int} {l : List Int} {j : Nat} (hj : j < l.length) : (part f l j).set j (f l[j]) = part f l (j + 1) := by
  have hl : ((l.take j).map f).length = j := by rw [List.length_map, List.length_take]; omega
  unfold part
  rw [List.set_append_right _ _ (by omega), hl, Nat.sub_self, List.drop_eq_getElem_cons hj, List.set_cons_zero, List.take_succ_eq_append_getElem hj, List.map_append]
  simp
def dq (n x : Int) : Int := arReal .quo .i64 x n
theorem loop13 {n : Int} (hn : 1 ≤ n) (l : List Int) (hl : l.length ≤ 2000) : iter (d13_b1 n (vi l)) (0, vi l) = some (vi (l.map (dq n))) := by
  have hI : iter (d13_b1 n (vi l)) (((0 : Nat) : Int), vi (part (dq n) l 0)) = some (vi (part (dq n) l l.length)) := by
    refine scan (d13_b1 n (vi l)) (fun j => ((j : Int), vi (part (dq n) l j))) (i := l.length) (Nat.zero_le _) (fun j _ hj => ?_) ?_
    · obtain ⟨h, e⟩ := part_get (f := dq n) hj
      unfold d13_b1
      dsimp only
      rw [lenI_vi, if_pos (lt_i hj), if_pos (iv_n h), if_pos (show Ne0 n by unfold Ne0; omega), if_pos (iv_n h), gI_vi _ _ h, e, putL_vi _ _ _ h, succ_i hj (by omega)]
      show some (Sum.inl (_, vi ((part (dq n) l j).set j (dq n l[j])))) = _
      rw [part_step hj]
    · unfold d13_b1
      dsimp only
      rw [lenI_vi, if_neg (nlt_i _)]
  have e0 : part (dq n) l 0 = l := by simp [part]
  have e1 : part (dq n) l l.length = l.map (dq n) := by simp [part]
  rw [e0, e1] at hI
  exact hI
noncomputable def shown (fn n : Int) (s : List Int) : List Int := (if fn ≥ 7 then s else [val fn s]).map (dq n)
theorem s13 (nm : ByteArray) (fn : Int) (p : List Int) (ks : List V) (hp : ∀ x ∈ p, I64 x) (s : List Int) (hs : s.length ≤ 9223372036854775807) (hi : ∀ x ∈ s, I64 x) (n : Int) :
    d13 nm fn (vi p) ks (vi s) n = some (if chkS nm fn p ks s = 0 then (if n < 1 then ([], 1) else (vi (shown fn n s), 0)) else ([], chkS nm fn p ks s)) := by
  unfold d13
  rw [s37_1 nm fn p ks hp s hs]
  simp only [Option.bind_some, c_neq]
  by_cases h1 : chkS nm fn p ks s = 0
  · obtain ⟨hA, hV⟩ := chk0.1 h1
    have ls := val_len hA hV
    rw [if_pos h1, nif h1, c_lss]
    by_cases h2 : n < 1
    · rw [if_pos h2, yif h2]
    · rw [if_neg h2, yif' h2, s38 s (by omega), s31, s39 hA hV hi]
      simp only [Option.bind_some, notB_dec]
      unfold shown
      by_cases h7 : fn ≥ 7
      · rw [nif h7, if_pos h7]
        simp only [Option.bind_some]
        rw [loop13 (by omega) s (by omega)]
        rfl
      · rw [nif' h7, if_neg h7]
        simp only [Option.bind_some]
        have e := loop13 (show 1 ≤ n by omega) [val fn s] (by simp)
        rw [show vi [val fn s] = [V.i .i64 (val fn s)] from rfl] at e
        rw [e]
        rfl
  · rw [if_neg h1, nif' h1]
end Go.Proofs.Ytmofhbedamjblaa
end
