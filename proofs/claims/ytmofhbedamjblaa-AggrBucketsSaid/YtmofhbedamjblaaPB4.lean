/- Texts of this seat, merged in build order. No statement of its own. -/
import Derived.Test.YtmofhbedamjblaaPB3
set_option linter.unusedVariables false
set_option linter.unusedSimpArgs false
section
namespace Go.Proofs.Ytmofhbedamjblaa
open Go.Ab Go.RowKit 
set_option maxRecDepth 100000
set_option maxHeartbeats 40000000
noncomputable def d129_b1 (a1_0 : Int) (a1_1 : Int) (a1_2 : Int) (a1_3 : Int) (s44 : Int × Int × Int × Int × Int × Int) : Option ((Int × Int × Int × Int × Int × Int) ⊕ (Int × Int × Int × Int)) :=
 if (cmpLit .lss s44.2.1 4) = true then
 if (Inb s44.2.1 (Int.ofNat 4)) then
 if (cmpLit .eql s44.2.1 (Int.ofNat 0)) = true then
 if (Inb s44.2.1 (Int.ofNat 4)) then
 if (cmpLit .eql s44.2.1 (Int.ofNat 0)) = true then
 (d68 s44.2.2.1 a1_0 s44.1).bind fun x58 =>
 if (Inb s44.2.1 (Int.ofNat 4)) then
 if (cmpLit .eql s44.2.1 (Int.ofNat 0)) = true then
 some (.inl (x58.2, (arReal .add .i64 s44.2.1 1), x58.1, s44.2.2.2.1, s44.2.2.2.2.1, s44.2.2.2.2.2))
 else
 none
 else none
 else
 none
 else none
 else
 if (cmpLit .eql s44.2.1 (Int.ofNat 1)) = true then
 if (Inb s44.2.1 (Int.ofNat 4)) then
 if (cmpLit .eql s44.2.1 (Int.ofNat 0)) = true then
 none
 else
 if (cmpLit .eql s44.2.1 (Int.ofNat 1)) = true then
 (d68 s44.2.2.2.1 a1_1 s44.1).bind fun x59 =>
 if (Inb s44.2.1 (Int.ofNat 4)) then
 if (cmpLit .eql s44.2.1 (Int.ofNat 0)) = true then
 none
 else
 if (cmpLit .eql s44.2.1 (Int.ofNat 1)) = true then
 some (.inl (x59.2, (arReal .add .i64 s44.2.1 1), s44.2.2.1, x59.1, s44.2.2.2.2.1, s44.2.2.2.2.2))
 else
 none
 else none
 else
 none
 else none
 else
 if (cmpLit .eql s44.2.1 (Int.ofNat 2)) = true then
 if (Inb s44.2.1 (Int.ofNat 4)) then
 if (cmpLit .eql s44.2.1 (Int.ofNat 0)) = true then
 none
 else
 if (cmpLit .eql s44.2.1 (Int.ofNat 1)) = true then
 none
 else
 if (cmpLit .eql s44.2.1 (Int.ofNat 2)) = true then
 (d68 s44.2.2.2.2.1 a1_2 s44.1).bind fun x60 =>
 if (Inb s44.2.1 (Int.ofNat 4)) then
 if (cmpLit .eql s44.2.1 (Int.ofNat 0)) = true then
 none
 else
 if (cmpLit .eql s44.2.1 (Int.ofNat 1)) = true then
 none
 else
 if (cmpLit .eql s44.2.1 (Int.ofNat 2)) = true then
 some (.inl (x60.2, (arReal .add .i64 s44.2.1 1), s44.2.2.1, s44.2.2.2.1, x60.1, s44.2.2.2.2.2))
 else
 none
 else none
 else
 none
 else none
 else
 if (Inb s44.2.1 (Int.ofNat 4)) then
 if (cmpLit .eql s44.2.1 (Int.ofNat 0)) = true then
 none
 else
 if (cmpLit .eql s44.2.1 (Int.ofNat 1)) = true then
 none
 else
 if (cmpLit .eql s44.2.1 (Int.ofNat 2)) = true then
 none
 else
 (d68 s44.2.2.2.2.2 a1_3 s44.1).bind fun x61 =>
 if (Inb s44.2.1 (Int.ofNat 4)) then
 if (cmpLit .eql s44.2.1 (Int.ofNat 0)) = true then
 none
 else
 if (cmpLit .eql s44.2.1 (Int.ofNat 1)) = true then
 none
 else
 if (cmpLit .eql s44.2.1 (Int.ofNat 2)) = true then
 none
 else
 some (.inl (x61.2, (arReal .add .i64 s44.2.1 1), s44.2.2.1, s44.2.2.2.1, s44.2.2.2.2.1, x61.1))
 else none
 else none
 else none
 else
 some (.inr (s44.2.2.1, s44.2.2.2.1, s44.2.2.2.2.1, s44.2.2.2.2.2))
noncomputable def d129 (a0_0 : Int) (a0_1 : Int) (a0_2 : Int) (a0_3 : Int) (a1_0 : Int) (a1_1 : Int) (a1_2 : Int) (a1_3 : Int) : Option (Int × Int × Int × Int) :=
 Option.bind (α := Int × Int × Int × Int) (
 (iter (d129_b1 a1_0 a1_1 a1_2 a1_3) (0, 0, a0_0, a0_1, a0_2, a0_3)).bind fun y53 =>
 some (y53.1, y53.2.1, y53.2.2.1, y53.2.2.2)) fun y27 =>
 some (y27.1, y27.2.1, y27.2.2.1, y27.2.2.2)
noncomputable def w129_c : Code := (Try.f129.body).getD .skip
theorem w129_h : Try.f129.body = some w129_c := by kernel_rfl
theorem w129 (a0_0 : Int) (a0_1 : Int) (a0_2 : Int) (a0_3 : Int) (a1_0 : Int) (a1_1 : Int) (a1_2 : Int) (a1_3 : Int) (r : Int × Int × Int × Int) (h : d129 a0_0 a0_1 a0_2 a0_3 a1_0 a1_1 a1_2 a1_3 = some r) : Ab.Fn Try.prog TT 129 [.agg [.i .u64 a0_0, .i .u64 a0_1, .i .u64 a0_2, .i .u64 a0_3], .agg [.i .u64 a1_0, .i .u64 a1_1, .i .u64 a1_2, .i .u64 a1_3]] (.agg [.i .u64 r.1, .i .u64 r.2.1, .i .u64 r.2.2.1, .i .u64 r.2.2.2]) [] := by
 refine fn_pure tok (fun r => match r with | 5 => [[],[],[1],[1,2],[],[4],[4,5],[],[1,2,3,4,5,6,7],[1,2,3,4,5,6,7,8],[1,2,3,4,5,6,7,8,9],[1,2,3,4,5,6,7,8,9],[0,1,2,3,4,5,6,7,8,9,10],[0,1,2,3,4,5,6,7,8,9,10,12],[0,1,2,3,4,5,6,7,8,9,10,11,12,13]] | _ => []) Try.func129 (by kernel_rfl) w129_h (by kernel_rfl) ?_
 intro _ _ _ _ _ _ _ _ _ _ _ _ _ _ _ _ _ _ _ _ _ _ _ _ _ _ _ _ _ _ _ _ _ _ _ _ _ _ _ _ _ E R K hK
 have D := E.D
 clear E
 have S := And.intro D.har (And.intro D.hcmp (D.hinb))
 unfold d129 at h
 cbv
 refine R.cutB (fun p => p) (fun _ _ e => e) h [] (fun p63 => []) (fun p63 => [(32, .cells 172 [.i .u64 p63.1, .i .u64 p63.2.1, .i .u64 p63.2.2.1, .i .u64 p63.2.2.2])]) (by kernel_rfl) (by kernel_rfl) (fun y27 hy hFy27 L hLy27 => ?_) (fun p63 h2 => ?_)
 ·as_aux_lemma =>
  clear h; have h := hy; clear hy; cbv
  refine R.loopD h (fun s0 y53 e0 hi hFs44 => ?_)
  clear h
  refine R.loopI hi [] (fun s44 => [(5, .i .u64 s44.1), (7, .i .i64 s44.2.1)]) (fun s44 => [(32, .cells 172 [.i .u64 s44.2.2.1, .i .u64 s44.2.2.2.1, .i .u64 s44.2.2.2.2.1, .i .u64 s44.2.2.2.2.2])]) ⟨by kernel_rfl, ?_, ?_, by kernel_rfl, by kernel_rfl⟩ (by kernel_rfl) ?_
  ·cbv; try (subst e0; simp only [S, and_self, and_true, true_and] <;> (repeat' apply And.intro) <;> rfl)
  ·cbv; try (subst e0; simp only [S, and_self, and_true, true_and] <;> (repeat' apply And.intro) <;> rfl)
  clear hi e0
  intro s44 m y' hy hins44 houts44 L hLs44
  have h := hy; clear hy; unfold d129_b1 at h
  cbv
  refine R.cut' (by kernel_rfl) (by kernel_rfl) ?_
  cbv
  refine R.brD h (by first|(simp only [S]<;>rfl)|rfl) ?_ ?_<;>clear h<;>intro h<;>cbv
  ·as_aux_lemma =>
   refine R.cut' (by kernel_rfl) (by kernel_rfl) ?_
   cbv
   refine R.needD h (by first|(simp only [S]<;>rfl)|rfl) ?_
   clear h; intro h; cbv
   refine R.brD h (by first|(simp only [S]<;>rfl)|rfl) ?_ ?_<;>clear h<;>intro h<;>cbv
   ·refine R.needD h (by first|(simp only [S]<;>rfl)|rfl) ?_
    clear h; intro h; cbv
    refine R.brD h (by first|(simp only [S]<;>rfl)|rfl) ?_ ?_<;>clear h<;>intro h<;>cbv
    ·refine R.callD h (fun x58 hx58 h2 => ?_)
     clear h; have h := h2; clear h2
     refine R.call' (w68 _ _ _ _ hx58) (by first|(simp only [S]<;>rfl)|rfl) ?_
     clear hx58; cbv
     refine R.needD h (by first|(simp only [S]<;>rfl)|rfl) ?_
     clear h; intro h; cbv
     refine R.brD h (by first|(simp only [S]<;>rfl)|rfl) ?_ ?_<;>clear h<;>intro h<;>cbv
     ·obtain ⟨s', e, hi⟩ := inl_some h hins44
      refine hLs44 s' _ _ hi ⟨by kernel_rfl, ?_, ?_, by kernel_rfl, by kernel_rfl⟩<;>cbv<;>(try (subst e;simp only [S,and_self,and_true,true_and]<;>(repeat' apply And.intro)<;>rfl))
     ·exact (none_some h).elim
    ·exact (none_some h).elim
   ·as_aux_lemma =>
    refine R.brD h (by first|(simp only [S]<;>rfl)|rfl) ?_ ?_<;>clear h<;>intro h<;>cbv
    ·refine R.needD h (by first|(simp only [S]<;>rfl)|rfl) ?_
     clear h; intro h; cbv
     refine R.brD h (by first|(simp only [S]<;>rfl)|rfl) ?_ ?_<;>clear h<;>intro h<;>cbv
     ·exact (none_some h).elim
     ·refine R.brD h (by first|(simp only [S]<;>rfl)|rfl) ?_ ?_<;>clear h<;>intro h<;>cbv
      ·refine R.callD h (fun x59 hx59 h2 => ?_)
       clear h; have h := h2; clear h2
       refine R.call' (w68 _ _ _ _ hx59) (by first|(simp only [S]<;>rfl)|rfl) ?_
       clear hx59; cbv
       refine R.needD h (by first|(simp only [S]<;>rfl)|rfl) ?_
       clear h; intro h; cbv
       refine R.brD h (by first|(simp only [S]<;>rfl)|rfl) ?_ ?_<;>clear h<;>intro h<;>cbv
       ·exact (none_some h).elim
       ·refine R.brD h (by first|(simp only [S]<;>rfl)|rfl) ?_ ?_<;>clear h<;>intro h<;>cbv
        ·obtain ⟨s', e, hi⟩ := inl_some h hins44
         refine hLs44 s' _ _ hi ⟨by kernel_rfl, ?_, ?_, by kernel_rfl, by kernel_rfl⟩<;>cbv<;>(try (subst e;simp only [S,and_self,and_true,true_and]<;>(repeat' apply And.intro)<;>rfl))
        ·exact (none_some h).elim
      ·exact (none_some h).elim
    ·refine R.brD h (by first|(simp only [S]<;>rfl)|rfl) ?_ ?_<;>clear h<;>intro h<;>cbv
     ·refine R.needD h (by first|(simp only [S]<;>rfl)|rfl) ?_
      clear h; intro h; cbv
      refine R.brD h (by first|(simp only [S]<;>rfl)|rfl) ?_ ?_<;>clear h<;>intro h<;>cbv
      ·exact (none_some h).elim
      ·refine R.brD h (by first|(simp only [S]<;>rfl)|rfl) ?_ ?_<;>clear h<;>intro h<;>cbv
       ·exact (none_some h).elim
       ·refine R.brD h (by first|(simp only [S]<;>rfl)|rfl) ?_ ?_<;>clear h<;>intro h<;>cbv
        ·refine R.callD h (fun x60 hx60 h2 => ?_)
         clear h; have h := h2; clear h2
         refine R.call' (w68 _ _ _ _ hx60) (by first|(simp only [S]<;>rfl)|rfl) ?_
         clear hx60; cbv
         refine R.needD h (by first|(simp only [S]<;>rfl)|rfl) ?_
         clear h; intro h; cbv
         refine R.brD h (by first|(simp only [S]<;>rfl)|rfl) ?_ ?_<;>clear h<;>intro h<;>cbv
         ·exact (none_some h).elim
         ·refine R.brD h (by first|(simp only [S]<;>rfl)|rfl) ?_ ?_<;>clear h<;>intro h<;>cbv
          ·exact (none_some h).elim
          ·refine R.brD h (by first|(simp only [S]<;>rfl)|rfl) ?_ ?_<;>clear h<;>intro h<;>cbv
           ·obtain ⟨s', e, hi⟩ := inl_some h hins44
            refine hLs44 s' _ _ hi ⟨by kernel_rfl, ?_, ?_, by kernel_rfl, by kernel_rfl⟩<;>cbv<;>(try (subst e;simp only [S,and_self,and_true,true_and]<;>(repeat' apply And.intro)<;>rfl))
           ·exact (none_some h).elim
        ·exact (none_some h).elim
     ·refine R.needD h (by first|(simp only [S]<;>rfl)|rfl) ?_
      clear h; intro h; cbv
      refine R.brD h (by first|(simp only [S]<;>rfl)|rfl) ?_ ?_<;>clear h<;>intro h<;>cbv
      ·exact (none_some h).elim
      ·refine R.brD h (by first|(simp only [S]<;>rfl)|rfl) ?_ ?_<;>clear h<;>intro h<;>cbv
       ·exact (none_some h).elim
       ·refine R.brD h (by first|(simp only [S]<;>rfl)|rfl) ?_ ?_<;>clear h<;>intro h<;>cbv
        ·exact (none_some h).elim
        ·refine R.callD h (fun x61 hx61 h2 => ?_)
         clear h; have h := h2; clear h2
         refine R.call' (w68 _ _ _ _ hx61) (by first|(simp only [S]<;>rfl)|rfl) ?_
         clear hx61; cbv
         refine R.needD h (by first|(simp only [S]<;>rfl)|rfl) ?_
         clear h; intro h; cbv
         refine R.brD h (by first|(simp only [S]<;>rfl)|rfl) ?_ ?_<;>clear h<;>intro h<;>cbv
         ·exact (none_some h).elim
         ·refine R.brD h (by first|(simp only [S]<;>rfl)|rfl) ?_ ?_<;>clear h<;>intro h<;>cbv
          ·exact (none_some h).elim
          ·refine R.brD h (by first|(simp only [S]<;>rfl)|rfl) ?_ ?_<;>clear h<;>intro h<;>cbv
           ·exact (none_some h).elim
           ·obtain ⟨s', e, hi⟩ := inl_some h hins44
            refine hLs44 s' _ _ hi ⟨by kernel_rfl, ?_, ?_, by kernel_rfl, by kernel_rfl⟩<;>cbv<;>(try (subst e;simp only [S,and_self,and_true,true_and]<;>(repeat' apply And.intro)<;>rfl))
  ·have e := inr_some h houts44; clear h
   have h := hFs44; rw [e] at h; clear e; try dsimp only at h
   cbv
   obtain ⟨s', e, hi⟩ := jn_some (fun p => p) h
   refine hLy27 s' _ _ hi ⟨by kernel_rfl, ?_, ?_, by kernel_rfl, by kernel_rfl⟩<;>cbv<;>(try (subst e;simp only [S,and_self,and_true,true_and]<;>(repeat' apply And.intro)<;>rfl))
 ·clear h; have h := h2; clear h2; try dsimp only at h
  cbv
  have e := ret_some h; clear h
  refine hK _ _ ?_
  cbv
  try (subst e; simp only [S, and_self, and_true, true_and] <;> (repeat' apply And.intro) <;> rfl)
end Go.Proofs.Ytmofhbedamjblaa
end
section
namespace Go.Proofs.Ytmofhbedamjblaa
open Go.Ab Go.RowKit 
set_option maxRecDepth 100000
set_option maxHeartbeats 40000000
noncomputable def d108_b1 (a0_4 : List V) (x6 : Int × Int × Int × Int) (x7 : Int × Int) (s35 : Int × Int) : Option ((Int × Int) ⊕ (Int)) :=
 if (cmpLit .geq s35.2 0) = true then
 if (Ge0 s35.2) then
 (d128 [.i .u64 (arReal .or .u64 s35.1 (arReal .shl .u64 1 s35.2))] [.i .u64 (wrapK .u64 (gI a0_4 0 0))]).bind fun x49 =>
 (d128 [.i .u64 x49.1, .i .u64 x49.2.1] [.i .u64 x49.1, .i .u64 x49.2.1]).bind fun x50 =>
 (d129 x50.1 x50.2.1 x50.2.2.1 x50.2.2.2 x7.2 x7.1 0 0).bind fun x51 =>
 (d130 x6.1 x6.2.1 x6.2.2.1 x6.2.2.2 x51.1 x51.2.1 x51.2.2.1 x51.2.2.2).bind fun x52 =>
 if (notB' x52) = true then
 if (Ge0 s35.2) then
 some (.inl ((arReal .or .u64 s35.1 (arReal .shl .u64 1 s35.2)), (arReal .sub .i64 s35.2 1)))
 else none
 else
 some (.inl (s35.1, (arReal .sub .i64 s35.2 1)))
 else none
 else
 some (.inr s35.1)
noncomputable def d108 (a0_0 : ByteArray) (a0_1 : Int) (a0_2 : List V) (a0_3 : List V) (a0_4 : List V) : Option (Int) :=
 if (Inb 0 (lenI a0_4)) then
 if (cmpLit .eql (gI a0_4 0 0) 0) = true then
 some 0
 else
 (d126 a0_0 a0_1 a0_2 a0_3 a0_4).bind fun x4 =>
 if (andB' (cmpLit .eql x4.1 0) (cmpLit .eql x4.2 0)) = true then
 some 0
 else
 if (Inb 0 (lenI a0_4)) then
 (d126 a0_0 a0_1 a0_2 a0_3 a0_4).bind fun x5 =>
 (d128 [.i .u64 (wrapK .u64 (gI a0_4 0 0))] [.i .u64 x5.2, .i .u64 x5.1]).bind fun x6 =>
 if (Inb 1 (lenI a0_4)) then
 (d124 (gI a0_4 1 0)).bind fun x7 =>
 Option.bind (α := Int) (
 (iter (d108_b1 a0_4 x6 x7) (0, 62)).bind fun y44 =>
 some y44) fun y26 =>
 some (wrapK .i64 y26)
 else none
 else none
 else none
noncomputable def w108_c : Code := (Try.f108.body).getD .skip
theorem w108_h : Try.f108.body = some w108_c := by kernel_rfl
theorem w108 (a0_0 : ByteArray) (a0_1 : Int) (a0_2 : List V) (a0_3 : List V) (a0_4 : List V) (r : Int) (h : d108 a0_0 a0_1 a0_2 a0_3 a0_4 = some r) : Ab.Fn Try.prog TT 108 [.agg [.str a0_0, .i .i64 a0_1, .sl 2 a0_2, .sl 74 a0_3, .sl 2 a0_4]] (.i .i64 r) [] := by
 refine fn_pure tok (fun r => match r with | 3 => [[],[0],[0,1],[0,1,2],[0,1,2,3],[],[5],[],[0,1,2,3,4,5,6,7],[0,1,2,3,4,5,6,7,8]] | 11 => [[],[],[0,1],[],[3],[],[5],[3,4,5,6],[0,1,2,3,4,5,6,7],[0,1,2,3,4,5,6,7,8]] | _ => []) Try.func108 (by kernel_rfl) w108_h (by kernel_rfl) ?_
 intro _ _ _ _ _ _ _ _ _ _ _ _ _ _ _ _ _ _ _ _ _ _ _ _ _ _ _ _ _ _ _ _ _ _ _ _ _ _ _ _ _ E R K hK
 have D := E.D
 clear E
 have S := And.intro D.han (And.intro D.har (And.intro D.hcmp (And.intro D.hcv (And.intro D.hge0 (And.intro D.hgi (And.intro D.hinb (And.intro D.hlen (D.hnt))))))))
 unfold d108 at h
 cbv
 refine R.cut' (by kernel_rfl) (by kernel_rfl) ?_
 cbv
 refine R.cut' (by kernel_rfl) (by kernel_rfl) ?_
 cbv
 refine R.needD h (by first|(simp only [S]<;>rfl)|rfl) ?_
 clear h; intro h; cbv
 refine R.brD h (by first|(simp only [S]<;>rfl)|rfl) ?_ ?_<;>clear h<;>intro h<;>cbv
 ·have e := ret_some h; clear h
  refine hK _ _ ?_
  cbv
  try (subst e; simp only [S, and_self, and_true, true_and] <;> (repeat' apply And.intro) <;> rfl)
 ·as_aux_lemma =>
  refine R.callD h (fun x4 hx4 h2 => ?_)
  clear h; have h := h2; clear h2
  refine R.call' (w126 _ _ _ _ _ _ hx4) (by first|(simp only [S]<;>rfl)|rfl) ?_
  clear hx4; cbv
  refine R.brD h (by first|(simp only [S]<;>rfl)|rfl) ?_ ?_<;>clear h<;>intro h<;>cbv
  ·have e := ret_some h; clear h
   refine hK _ _ ?_
   cbv
   try (subst e; simp only [S, and_self, and_true, true_and] <;> (repeat' apply And.intro) <;> rfl)
  ·as_aux_lemma =>
   refine R.needD h (by first|(simp only [S]<;>rfl)|rfl) ?_
   clear h; intro h; cbv
   refine R.callD h (fun x5 hx5 h2 => ?_)
   clear h; have h := h2; clear h2
   refine R.call' (w126 _ _ _ _ _ _ hx5) (by first|(simp only [S]<;>rfl)|rfl) ?_
   clear hx5; cbv
   refine R.callD h (fun x6 hx6 h2 => ?_)
   clear h; have h := h2; clear h2
   refine R.call' (w128 _ _ _ hx6) (by first|(simp only [S]<;>rfl)|rfl) ?_
   clear hx6; cbv
   refine R.needD h (by first|(simp only [S]<;>rfl)|rfl) ?_
   clear h; intro h; cbv
   refine R.callD h (fun x7 hx7 h2 => ?_)
   clear h; have h := h2; clear h2
   refine R.call' (w124 _ _ hx7) (by first|(simp only [S]<;>rfl)|rfl) ?_
   clear hx7; cbv
   refine R.cutB (fun p => p) (fun _ _ e => e) h [] (fun p54 => [(7, .i .u64 p54)]) (fun p54 => []) (by kernel_rfl) (by kernel_rfl) (fun y26 hy hFy26 L hLy26 => ?_) (fun p54 h2 => ?_)
   ·clear h; have h := hy; clear hy; cbv
    refine R.loopD h (fun s0 y44 e0 hi hFs35 => ?_)
    clear h
    refine R.loopI hi [] (fun s35 => [(7, .i .u64 s35.1), (8, .i .i64 s35.2)]) (fun s35 => []) ⟨by kernel_rfl, ?_, ?_, by kernel_rfl, by kernel_rfl⟩ (by kernel_rfl) ?_
    ·cbv; try (subst e0; simp only [S, and_self, and_true, true_and] <;> (repeat' apply And.intro) <;> rfl)
    ·cbv; try (subst e0; simp only [S, and_self, and_true, true_and] <;> (repeat' apply And.intro) <;> rfl)
    clear hi e0
    intro s35 m y' hy hins35 houts35 L hLs35
    have h := hy; clear hy; unfold d108_b1 at h
    cbv
    refine R.cut' (by kernel_rfl) (by kernel_rfl) ?_
    cbv
    refine R.brD h (by first|(simp only [S]<;>rfl)|rfl) ?_ ?_<;>clear h<;>intro h<;>cbv
    ·refine R.cut' (by kernel_rfl) (by kernel_rfl) ?_
     cbv
     refine R.needD h (by first|(simp only [S]<;>rfl)|rfl) ?_
     clear h; intro h; cbv
     refine R.callD h (fun x49 hx49 h2 => ?_)
     clear h; have h := h2; clear h2
     refine R.call' (w128 _ _ _ hx49) (by first|(simp only [S]<;>rfl)|rfl) ?_
     clear hx49; cbv
     refine R.callD h (fun x50 hx50 h2 => ?_)
     clear h; have h := h2; clear h2
     refine R.call' (w128 _ _ _ hx50) (by first|(simp only [S]<;>rfl)|rfl) ?_
     clear hx50; cbv
     refine R.callD h (fun x51 hx51 h2 => ?_)
     clear h; have h := h2; clear h2
     refine R.call' (w129 _ _ _ _ _ _ _ _ _ hx51) (by first|(simp only [S]<;>rfl)|rfl) ?_
     clear hx51; cbv
     refine R.callD h (fun x52 hx52 h2 => ?_)
     clear h; have h := h2; clear h2
     refine R.call' (w130 _ _ _ _ _ _ _ _ _ hx52) (by first|(simp only [S]<;>rfl)|rfl) ?_
     clear hx52; cbv
     refine R.brD h (by first|(simp only [S]<;>rfl)|rfl) ?_ ?_<;>clear h<;>intro h<;>cbv
     ·refine R.needD h (by first|(simp only [S]<;>rfl)|rfl) ?_
      clear h; intro h; cbv
      obtain ⟨s', e, hi⟩ := inl_some h hins35
      refine hLs35 s' _ _ hi ⟨by kernel_rfl, ?_, ?_, by kernel_rfl, by kernel_rfl⟩<;>cbv<;>(try (subst e;simp only [S,and_self,and_true,true_and]<;>(repeat' apply And.intro)<;>rfl))
     ·obtain ⟨s', e, hi⟩ := inl_some h hins35
      refine hLs35 s' _ _ hi ⟨by kernel_rfl, ?_, ?_, by kernel_rfl, by kernel_rfl⟩<;>cbv<;>(try (subst e;simp only [S,and_self,and_true,true_and]<;>(repeat' apply And.intro)<;>rfl))
    ·have e := inr_some h houts35; clear h
     have h := hFs35; rw [e] at h; clear e; try dsimp only at h
     cbv
     obtain ⟨s', e, hi⟩ := jn_some (fun p => p) h
     refine hLy26 s' _ _ hi ⟨by kernel_rfl, ?_, ?_, by kernel_rfl, by kernel_rfl⟩<;>cbv<;>(try (subst e;simp only [S,and_self,and_true,true_and]<;>(repeat' apply And.intro)<;>rfl))
   ·clear h; have h := h2; clear h2; try dsimp only at h
    cbv
    have e := ret_some h; clear h
    refine hK _ _ ?_
    cbv
    try (subst e; simp only [S, and_self, and_true, true_and] <;> (repeat' apply And.intro) <;> rfl)
noncomputable def d20 (a0 : Int) (a1 : List V) : Option (ByteArray × Int × List V × List V) :=
 some ((ByteArray.mk #[97]), a0, a1, [])
noncomputable def w20_c : Code := (Try.f20.body).getD .skip
theorem w20_h : Try.f20.body = some w20_c := by kernel_rfl
theorem w20 (a0 : Int) (a1 : List V) (r : ByteArray × Int × List V × List V) (h : d20 a0 a1 = some r) : Ab.Fn Try.prog TT 20 [.i .i64 a0, .sl 2 a1] (.agg [.str r.1, .i .i64 r.2.1, .sl 2 r.2.2.1, .sl 74 r.2.2.2]) [] := by
 refine fn_pure tok W0 Try.func20 (by kernel_rfl) w20_h (by kernel_rfl) ?_
 intro ar un cv mn mx pl mi cmp nt beq an scmp cat slen sbyte ssub ofB toB len gi gb gs gl sub put app ovl rep ne0 ge0 inb bnd room sroom need br call callb loop cut nl E R K hK
 have D := E.D
 clear E
 unfold d20 at h
 cbv
 have e := ret_some h; clear h
 refine hK _ _ ?_
 cbv
 try (subst e; simp only [and_self, and_true, true_and] <;> (repeat' apply And.intro) <;> rfl)
noncomputable def d33 (a0 : Int) (a1 : Int) (a2 : Int) : Option (Bool) :=
 if (cmpLit .geq a0 a1) = true then
 some (cmpLit .leq a0 a2)
 else
 some false
noncomputable def w33_c : Code := (Try.f33.body).getD .skip
theorem w33_h : Try.f33.body = some w33_c := by kernel_rfl
theorem w33 (a0 : Int) (a1 : Int) (a2 : Int) (r : Bool) (h : d33 a0 a1 a2 = some r) : Ab.Fn Try.prog TT 33 [.i .i64 a0, .i .i64 a1, .i .i64 a2] (.b r) [] := by
 refine fn_pure tok W0 Try.func33 (by kernel_rfl) w33_h (by kernel_rfl) ?_
 intro _ _ _ _ _ _ _ _ _ _ _ _ _ _ _ _ _ _ _ _ _ _ _ _ _ _ _ _ _ _ _ _ _ _ _ _ _ _ _ _ _ E R K hK
 have D := E.D
 clear E
 unfold d33 at h
 cbv
 refine R.cut' (by kernel_rfl) (by kernel_rfl) ?_
 cbv
 refine R.brD h (by first | (simp only [D.hcmp] <;> rfl) | rfl) ?_ ?_<;>clear h<;>intro h<;>cbv
 ·have e := ret_some h; clear h
  refine hK _ _ ?_
  cbv
  try (subst e; simp only [D.hcmp, and_self, and_true, true_and] <;> (repeat' apply And.intro) <;> rfl)
 ·have e := ret_some h; clear h
  refine hK _ _ ?_
  cbv
  try (subst e; simp only [D.hcmp, and_self, and_true, true_and] <;> (repeat' apply And.intro) <;> rfl)
noncomputable def d76 (a0 : Int) (a1 : Int) (a2 : Int) : Option (Bool) :=
 if (cmpLit .geq a0 a1) = true then
 some (cmpLit .leq a0 a2)
 else
 some false
noncomputable def w76_c : Code := (Try.f76.body).getD .skip
theorem w76_h : Try.f76.body = some w76_c := by kernel_rfl
theorem w76 (a0 : Int) (a1 : Int) (a2 : Int) (r : Bool) (h : d76 a0 a1 a2 = some r) : Ab.Fn Try.prog TT 76 [.i .i64 a0, .i .i64 a1, .i .i64 a2] (.b r) [] := by
 refine fn_pure tok W0 Try.func76 (by kernel_rfl) w76_h (by kernel_rfl) ?_
 intro _ _ _ _ _ _ _ _ _ _ _ _ _ _ _ _ _ _ _ _ _ _ _ _ _ _ _ _ _ _ _ _ _ _ _ _ _ _ _ _ _ E R K hK
 have D := E.D
 clear E
 unfold d76 at h
 cbv
 refine R.cut' (by kernel_rfl) (by kernel_rfl) ?_
 cbv
 refine R.brD h (by first | (simp only [D.hcmp] <;> rfl) | rfl) ?_ ?_<;>clear h<;>intro h<;>cbv
 ·have e := ret_some h; clear h
  refine hK _ _ ?_
  cbv
  try (subst e; simp only [D.hcmp, and_self, and_true, true_and] <;> (repeat' apply And.intro) <;> rfl)
 ·have e := ret_some h; clear h
  refine hK _ _ ?_
  cbv
  try (subst e; simp only [D.hcmp, and_self, and_true, true_and] <;> (repeat' apply And.intro) <;> rfl)
noncomputable def d65 (a0 : Int) (a1 : Int) (a2 : Int) : Option (Int) :=
 if (Ne0 (wrapK .u64 a2)) then
 some (arReal .quo .u64 (arReal .sub .u64 (arReal .add .u64 (arReal .sub .u64 (wrapK .u64 a1) (wrapK .u64 a0)) (wrapK .u64 a2)) 1) (wrapK .u64 a2))
 else none
noncomputable def w65_c : Code := (Try.f65.body).getD .skip
theorem w65_h : Try.f65.body = some w65_c := by kernel_rfl
theorem w65 (a0 : Int) (a1 : Int) (a2 : Int) (r : Int) (h : d65 a0 a1 a2 = some r) : Ab.Fn Try.prog TT 65 [.i .i64 a0, .i .i64 a1, .i .i64 a2] (.i .u64 r) [] := by
 refine fn_pure tok W0 Try.func65 (by kernel_rfl) w65_h (by kernel_rfl) ?_
 intro _ _ _ _ _ _ _ _ _ _ _ _ _ _ _ _ _ _ _ _ _ _ _ _ _ _ _ _ _ _ _ _ _ _ _ _ _ _ _ _ _ E R K hK
 have D := E.D
 clear E
 have S := And.intro D.har (And.intro D.hcv (D.hne0))
 unfold d65 at h
 cbv
 refine R.needD h (by first|(simp only [S]<;>rfl)|rfl) ?_
 clear h; intro h; cbv
 have e := ret_some h; clear h
 refine hK _ _ ?_
 cbv
 try (subst e; simp only [S, and_self, and_true, true_and] <;> (repeat' apply And.intro) <;> rfl)
noncomputable def d35_b1 (a0 : Int) (a1 : Int) (s4 : Int × Int) : Option ((Int × Int) ⊕ ((Int) ⊕ (Int))) :=
 if (cmpLit .lss s4.2 a1) = true then
 if (Ne0 a0) then
 if (cmpLit .gtr s4.1 (arReal .quo .i64 4611686018427387904 a0)) = true then
 some (.inr (.inl 4611686018427387905))
 else
 some (.inl ((arReal .mul .i64 s4.1 a0), (arReal .add .i64 s4.2 1)))
 else none
 else
 some (.inr (.inr s4.1))
noncomputable def d35 (a0 : Int) (a1 : Int) : Option (Int) :=
 Option.bind (α := (Int) ⊕ (Int)) (
 (iter (d35_b1 a0 a1) (1, 0)).bind fun y5 =>
 match y5 with
 | .inl p6 =>
 some (.inr p6)
 | .inr y5r0 =>
 some (.inl y5r0)) fun y3 =>
 match y3 with
 | .inl p8 =>
 some p8
 | .inr y3r0 =>
 some y3r0
noncomputable def w35_c : Code := (Try.f35.body).getD .skip
theorem w35_h : Try.f35.body = some w35_c := by kernel_rfl
theorem w35 (a0 : Int) (a1 : Int) (r : Int) (h : d35 a0 a1 = some r) : Ab.Fn Try.prog TT 35 [.i .i64 a0, .i .i64 a1] (.i .i64 r) [] := by
 refine fn_pure tok W0 Try.func35 (by kernel_rfl) w35_h (by kernel_rfl) ?_
 intro _ _ _ _ _ _ _ _ _ _ _ _ _ _ _ _ _ _ _ _ _ _ _ _ _ _ _ _ _ _ _ _ _ _ _ _ _ _ _ _ _ E R K hK
 have D := E.D
 clear E
 have S := And.intro D.har (And.intro D.hcmp (D.hne0))
 unfold d35 at h
 cbv
 refine R.cutB Sum.inl (fun _ _ e => Sum.inl.inj e) h [] (fun p8 => [(5, .i .i64 p8)]) (fun p8 => []) (by kernel_rfl) (by kernel_rfl) (fun y3 hy hFy3 L hLy3 => ?_) (fun p8 h2 => ?_)
 ·clear h; have h := hy; clear hy; cbv
  refine R.loopD h (fun s0 y5 e0 hi hFs4 => ?_)
  clear h
  refine R.loopI hi [] (fun s4 => [(5, .i .i64 s4.1), (7, .i .i64 s4.2)]) (fun s4 => []) ⟨by kernel_rfl, ?_, ?_, by kernel_rfl, by kernel_rfl⟩ (by kernel_rfl) ?_
  ·cbv; try (subst e0; simp only [S, and_self, and_true, true_and] <;> (repeat' apply And.intro) <;> rfl)
  ·cbv; try (subst e0; simp only [S, and_self, and_true, true_and] <;> (repeat' apply And.intro) <;> rfl)
  clear hi e0
  intro s4 m y' hy hins4 houts4 L hLs4
  have h := hy; clear hy; unfold d35_b1 at h
  cbv
  refine R.cut' (by kernel_rfl) (by kernel_rfl) ?_
  cbv
  refine R.brD h (by first|(simp only [S]<;>rfl)|rfl) ?_ ?_<;>clear h<;>intro h<;>cbv
  ·refine R.cut' (by kernel_rfl) (by kernel_rfl) ?_
   cbv
   refine R.cut' (by kernel_rfl) (by kernel_rfl) ?_
   cbv
   refine R.needD h (by first|(simp only [S]<;>rfl)|rfl) ?_
   clear h; intro h; cbv
   refine R.brD h (by first|(simp only [S]<;>rfl)|rfl) ?_ ?_<;>clear h<;>intro h<;>cbv
   ·have e := inr_some h houts4; clear h
    have h := hFs4; rw [e] at h; clear e; try dsimp only at h
    cbv
    have e := ret_some h; clear h
    have h := hFy3; rw [e] at h; clear e; try dsimp only at h
    cbv
    have e := ret_some h; clear h
    refine hK _ _ ?_
    cbv
    try (subst e; simp only [S, and_self, and_true, true_and] <;> (repeat' apply And.intro) <;> rfl)
   ·obtain ⟨s', e, hi⟩ := inl_some h hins4
    refine hLs4 s' _ _ hi ⟨by kernel_rfl, ?_, ?_, by kernel_rfl, by kernel_rfl⟩<;>cbv<;>(try (subst e;simp only [S,and_self,and_true,true_and]<;>(repeat' apply And.intro)<;>rfl))
  ·have e := inr_some h houts4; clear h
   have h := hFs4; rw [e] at h; clear e; try dsimp only at h
   cbv
   obtain ⟨s', e, hi⟩ := jn_some Sum.inl h
   refine hLy3 s' _ _ hi ⟨by kernel_rfl, ?_, ?_, by kernel_rfl, by kernel_rfl⟩<;>cbv<;>(try (subst e;simp only [S,and_self,and_true,true_and]<;>(repeat' apply And.intro)<;>rfl))
 ·clear h; have h := h2; clear h2; try dsimp only at h
  cbv
  have e := ret_some h; clear h
  refine hK _ _ ?_
  cbv
  try (subst e; simp only [S, and_self, and_true, true_and] <;> (repeat' apply And.intro) <;> rfl)
end Go.Proofs.Ytmofhbedamjblaa
end
section
namespace Go.Proofs.Ytmofhbedamjblaa
open Go.Ab Go.RowKit 
set_option maxRecDepth 100000
set_option maxHeartbeats 40000000
noncomputable def d50 (a0_0 : ByteArray) (a0_1 : Int) (a0_2 : List V) (a0_3 : List V) : Option (Bool) :=
 if (cmpLit .eql a0_1 8) = true then
 if (cmpLit .eql (lenI a0_2) 3) = true then
 if (Inb 2 (lenI a0_2)) then
 (d76 (gI a0_2 2 0) 1 4611686018427387904).bind fun x23 =>
 if x23 = true then
 if (Inb 0 (lenI a0_2)) then
 (d76 (gI a0_2 0 0) (-4611686018427387904) 4611686018427387904).bind fun x24 =>
 if x24 = true then
 if (Inb 1 (lenI a0_2)) then
 if (Inb 0 (lenI a0_2)) then
 (d76 (gI a0_2 1 0) (arReal .add .i64 (gI a0_2 0 0) 1) 4611686018427387904).bind fun x25 =>
 if x25 = true then
 if (Inb 0 (lenI a0_2)) then
 if (Inb 1 (lenI a0_2)) then
 if (Inb 2 (lenI a0_2)) then
 (d65 (gI a0_2 0 0) (gI a0_2 1 0) (gI a0_2 2 0)).bind fun x26 =>
 some (cmpLit .leq x26 100)
 else none
 else none
 else none
 else
 some false
 else none
 else none
 else
 some false
 else none
 else
 some false
 else none
 else
 some false
 else
 if (cmpLit .eql a0_1 9) = true then
 if (cmpLit .eql (lenI a0_2) 4) = true then
 if (Inb 0 (lenI a0_2)) then
 (d76 (gI a0_2 0 0) 2 100).bind fun x32 =>
 if x32 = true then
 if (Inb 1 (lenI a0_2)) then
 (d76 (gI a0_2 1 0) 0 18).bind fun x33 =>
 if x33 = true then
 if (Inb 2 (lenI a0_2)) then
 if (Inb 1 (lenI a0_2)) then
 (d76 (gI a0_2 2 0) (gI a0_2 1 0) 18).bind fun x34 =>
 if x34 = true then
 if (Inb 3 (lenI a0_2)) then
 (d76 (gI a0_2 3 0) 1 100).bind fun x35 =>
 if x35 = true then
 if (Inb 0 (lenI a0_2)) then
 if (Inb 2 (lenI a0_2)) then
 (d35 (gI a0_2 0 0) (arReal .add .i64 (gI a0_2 2 0) 1)).bind fun x36 =>
 if (cmpLit .leq x36 4611686018427387904) = true then
 if (Inb 2 (lenI a0_2)) then
 if (Inb 1 (lenI a0_2)) then
 if (Inb 3 (lenI a0_2)) then
 some (cmpLit .leq (arReal .mul .i64 (arReal .add .i64 (arReal .sub .i64 (gI a0_2 2 0) (gI a0_2 1 0)) 1) (gI a0_2 3 0)) 1000)
 else none
 else none
 else none
 else
 some false
 else none
 else none
 else
 some false
 else none
 else
 some false
 else none
 else none
 else
 some false
 else none
 else
 some false
 else none
 else
 some false
 else
 some (cmpLit .eql (lenI a0_2) 0)
noncomputable def w50_c : Code := (Try.f50.body).getD .skip
theorem w50_h : Try.f50.body = some w50_c := by kernel_rfl
theorem w50 (a0_0 : ByteArray) (a0_1 : Int) (a0_2 : List V) (a0_3 : List V) (r : Bool) (h : d50 a0_0 a0_1 a0_2 a0_3 = some r) : Ab.Fn Try.prog TT 50 [.agg [.str a0_0, .i .i64 a0_1, .sl 2 a0_2, .sl 74 a0_3]] (.b r) [] := by
 refine fn_pure tok (fun r => match r with | 4 => [[],[0],[0,1],[0,1,2],[0,1,2,3],[0,1,2,3,4],[0,1,2,3,4,5],[0,1,2,3,4,5,6],[0,1,2,3,4,5,6,7],[0,1,2,3,4,5,6,7,8],[0,1,2,3,4,5,6,7,8,9],[0,1,2,3,4,5,6,7,8,9,10],[0,1,2,3,4,5,6,7,8,9,10,11],[0,1,2,3,4,5,6,7,8,9,10,11,12],[0,1,2,3,4,5,6,7,8,9,10,11,12,13],[0,1,2,3,4,5,6,7,8,9,10,11,12,13,14],[0,1,2,3,4,5,6,7,8,9,10,11,12,13,14,15],[0,1,2,3,4,5,6,7,8,9,10,11,12,13,14,15,16],[0,1,2,3,4,5,6,7,8,9,10,11,12,13,14,15,16,17],[0,1,2,3,4,5,6,7,8,9,10,11,12,13,14,15],[0,1,2,3,4,5,6,7,8,9,10,11,12,13,14,15,19],[0,1,2,3,4,5,6,7,8,9,10,11,12,13,14,15,19,20],[0,1,2,3,4,5,6,7,8,9,10,11,12,13,14,15,19,20,21],[0,1,2,3,4,5,6,7,8,9,10,11,12,13,14,15,16,17,18,19,20,21,22],[0,1,2,3,4,5,6,7,8,9,10,11,12,13,14,15,16,17,18,19,20,21,22,23],[0,1,2,3,4,5,6,7,8,9,10,11,12,13,14,15,16,17,18,19,20,21,22,23,24],[0,1,2,3,4,5,6,7,8,9,10,11,12,13,14,15,16,17,18,19,20,21,22,23,24,25],[0,1,2,3,4,5,6,7,8,9,10,11,12,13,14,15,16,17,18,19,20,21,22,23,24,25,26],[0,1,2,3,4,5,6,7,8,9,10,11,12,13,14,15,16,17,18,19,20,21,22,23,24,25,26,27],[0,1,2,3,4,5,6,7,8,9,10,11,12,13,14,15,16,17,18,19,20,21,22,23,24,25],[0,1,2,3,4,5,6,7,8,9,10,11,12,13,14,15,16,17,18,19,20,21,22,23,24,25,29],[0,1,2,3,4,5,6,7,8,9,10,11,12,13,14,15,16,17,18,19,20,21,22,23,24,25,29,30],[0,1,2,3,4,5,6,7,8,9,10,11,12,13,14,15,16,17,18,19,20,21,22,23,24,25],[0,1,2,3,4,5,6,7,8,9,10,11,12,13,14,15,16,17,18,19,20,21,22,23,24,25,32],[0,1,2,3,4,5,6,7,8,9,10,11,12,13,14,15,16,17,18,19,20,21,22,23,24,25,32,33],[0,1,2,3,4,5,6,7,8,9,10,11,12,13,14,15,16,17,18,19,20,21,22,23,24,25,26,27,28,29,30,31,32,33,34],[0,1,2,3,4,5,6,7,8,9,10,11,12,13,14,15,16,17,18,19,20,21,22,23,24,25,26,27,28,29,30,31,32,33,34,35],[0,1,2,3,4,5,6,7,8,9,10,11,12,13,14,15,16,17,18,19,20,21,22,23,24,25,26,27,28,29,30,31,32,33,34,35,36],[0,1,2,3,4,5,6,7,8,9,10,11,12,13,14,15,16,17,18,19,20,21,22,23,24,25,26,27,28,29,30,31,32,33,34,35,36,37]] | 6 => [[],[0],[0,1],[0,1,2],[0,1,2,3],[0,1,2,3,4],[0,1,2,3,4,5],[0,1,2,3,4,5,6],[0,1,2,3,4,5,6,7],[0,1,2,3,4,5,6,7,8],[0,1,2,3,4,5,6,7,8,9],[0,1,2,3,4,5,6,7,8,9,10],[0,1,2,3,4,5,6,7,8,9,10,11],[0,1,2,3,4,5,6,7,8,9,10,11,12],[0,1,2,3,4,5,6,7,8,9,10,11,12,13],[0,1,2,3,4,5,6,7,8,9,10,11,12,13,14],[0,1,2,3,4,5,6,7,8,9,10,11,12,13,14,15],[0,1,2,3,4,5,6,7,8,9,10,11,12,13,14,15,16],[0,1,2,3,4,5,6,7,8,9,10,11,12,13,14,15,16,17],[0,1,2,3,4,5,6,7,8,9,10,11,12,13,14,15],[0,1,2,3,4,5,6,7,8,9,10,11,12,13,14,15,19],[0,1,2,3,4,5,6,7,8,9,10,11,12,13,14,15,19,20],[0,1,2,3,4,5,6,7,8,9,10,11,12,13,14,15,16,17,18,19,20,21],[0,1,2,3,4,5,6,7,8,9,10,11,12,13,14,15,16,17,18,19,20,21,22],[0,1,2,3,4,5,6,7,8,9,10,11,12,13,14,15,16,17,18,19,20,21,22,23],[0,1,2,3,4,5,6,7,8,9,10,11,12,13,14,15,16,17,18,19,20,21,22,23,24],[0,1,2,3,4,5,6,7,8,9,10,11,12,13,14,15,16,17,18,19,20,21,22,23,24,25],[0,1,2,3,4,5,6,7,8,9,10,11,12,13,14,15,16,17,18,19,20,21,22,23,24,25,26],[0,1,2,3,4,5,6,7,8,9,10,11,12,13,14,15,16,17,18,19,20,21,22,23,24,25,26,27],[0,1,2,3,4,5,6,7,8,9,10,11,12,13,14,15,16,17,18,19,20,21,22,23,24,25,26,27,28],[0,1,2,3,4,5,6,7,8,9,10,11,12,13,14,15,16,17,18,19,20,21,22,23,24,25,26,27,28,29],[0,1,2,3,4,5,6,7,8,9,10,11,12,13,14,15,16,17,18,19,20,21,22,23,24,25,26,27,28,29,30],[0,1,2,3,4,5,6,7,8,9,10,11,12,13,14,15,16,17,18,19,20,21,22,23,24,25,26,27,28,29,30,31],[0,1,2,3,4,5,6,7,8,9,10,11,12,13,14,15,16,17,18,19,20,21,22,23,24,25,26,27,28,29,30,31,32],[0,1,2,3,4,5,6,7,8,9,10,11,12,13,14,15,16,17,18,19,20,21,22,23,24,25,26,27,28,29,30],[0,1,2,3,4,5,6,7,8,9,10,11,12,13,14,15,16,17,18,19,20,21,22,23,24,25,26,27,28,29,30,34],[0,1,2,3,4,5,6,7,8,9,10,11,12,13,14,15,16,17,18,19,20,21,22,23,24,25,26,27,28,29,30,34,35],[0,1,2,3,4,5,6,7,8,9,10,11,12,13,14,15,16,17,18,19,20,21,22,23,24,25,26,27,28,29,30,34,35,36],[0,1,2,3,4,5,6,7,8,9,10,11,12,13,14,15,16,17,18,19,20,21,22,23,24,25,26,27,28,29,30,31,32,33,34,35,36,37],[0,1,2,3,4,5,6,7,8,9,10,11,12,13,14,15,16,17,18,19,20,21,22,23,24,25,26,27,28,29,30,31,32,33,34,35,36,37,38],[0,1,2,3,4,5,6,7,8,9,10,11,12,13,14,15,16,17,18,19,20,21,22,23,24,25,26,27,28,29,30,31,32,33,34,35,36,37,38,39],[0,1,2,3,4,5,6,7,8,9,10,11,12,13,14,15,16,17,18,19,20,21,22,23,24,25,26,27,28,29,30,31,32,33,34,35,36,37,38,39,40],[0,1,2,3,4,5,6,7,8,9,10,11,12,13,14,15,16,17,18,19,20,21,22,23,24,25,26,27,28,29,30,31,32,33,34,35,36,37,38,39,40,41],[0,1,2,3,4,5,6,7,8,9,10,11,12,13,14,15,16,17,18,19,20,21,22,23,24,25,26,27,28,29,30,31,32,33,34,35,36,37,38,39,40,41,42],[0,1,2,3,4,5,6,7,8,9,10,11,12,13,14,15,16,17,18,19,20,21,22,23,24,25,26,27,28,29,30,31,32,33,34,35,36,37,38,39,40,41,42,43],[0,1,2,3,4,5,6,7,8,9,10,11,12,13,14,15,16,17,18,19,20,21,22,23,24,25,26,27,28,29,30,31,32,33,34,35,36,37,38,39,40,41],[0,1,2,3,4,5,6,7,8,9,10,11,12,13,14,15,16,17,18,19,20,21,22,23,24,25,26,27,28,29,30,31,32,33,34,35,36,37,38,39,40,41,45],[0,1,2,3,4,5,6,7,8,9,10,11,12,13,14,15,16,17,18,19,20,21,22,23,24,25,26,27,28,29,30,31,32,33,34,35,36,37,38,39,40,41,45,46],[0,1,2,3,4,5,6,7,8,9,10,11,12,13,14,15,16,17,18,19,20,21,22,23,24,25,26,27,28,29,30,31,32,33,34,35,36,37,38,39,40,41,42,43,44,45,46,47],[0,1,2,3,4,5,6,7,8,9,10,11,12,13,14,15,16,17,18,19,20,21,22,23,24,25,26,27,28,29,30,31,32,33,34,35,36,37,38,39,40,41,42,43,44,45,46,47,48],[0,1,2,3,4,5,6,7,8,9,10,11,12,13,14,15,16,17,18,19,20,21,22,23,24,25,26,27,28,29,30,31,32,33,34,35,36,37,38,39,40,41],[0,1,2,3,4,5,6,7,8,9,10,11,12,13,14,15,16,17,18,19,20,21,22,23,24,25,26,27,28,29,30,31,32,33,34,35,36,37,38,39,40,41,50],[0,1,2,3,4,5,6,7,8,9,10,11,12,13,14,15,16,17,18,19,20,21,22,23,24,25,26,27,28,29,30,31,32,33,34,35,36,37,38,39,40,41,50,51],[0,1,2,3,4,5,6,7,8,9,10,11,12,13,14,15,16,17,18,19,20,21,22,23,24,25,26,27,28,29,30,31,32,33,34,35,36,37,38,39,40,41,42,43,44,45,46,47,48,49,50,51,52],[0,1,2,3,4,5,6,7,8,9,10,11,12,13,14,15,16,17,18,19,20,21,22,23,24,25,26,27,28,29,30,31,32,33,34,35,36,37,38,39,40,41,42,43,44,45,46,47,48,49,50,51,52,53],[0,1,2,3,4,5,6,7,8,9,10,11,12,13,14,15,16,17,18,19,20,21,22,23,24,25,26,27,28,29,30,31,32,33,34,35,36,37,38,39,40,41,42,43,44,45,46,47,48,49,50,51,52,53,54],[0,1,2,3,4,5,6,7,8,9,10,11,12,13,14,15,16,17,18,19,20,21,22,23,24,25,26,27,28,29,30,31,32,33,34,35,36,37,38,39,40,41,42,43,44,45,46,47,48,49,50,51,52,53,54,55]] | _ => []) Try.func50 (by kernel_rfl) w50_h (by kernel_rfl) ?_
 intro _ _ _ _ _ _ _ _ _ _ _ _ _ _ _ _ _ _ _ _ _ _ _ _ _ _ _ _ _ _ _ _ _ _ _ _ _ _ _ _ _ E R K hK
 have D := E.D
 clear E
 have S := And.intro D.har (And.intro D.hcmp (And.intro D.hgi (And.intro D.hinb (D.hlen))))
 unfold d50 at h
 cbv
 refine R.cut' (by kernel_rfl) (by kernel_rfl) ?_
 cbv
 refine R.brD h (by first|(simp only [S]<;>rfl)|rfl) ?_ ?_<;>clear h<;>intro h<;>cbv
 ·refine R.cut' (by kernel_rfl) (by kernel_rfl) ?_
  cbv
  refine R.brD h (by first|(simp only [S]<;>rfl)|rfl) ?_ ?_<;>clear h<;>intro h<;>cbv
  ·refine R.needD h (by first|(simp only [S]<;>rfl)|rfl) ?_
   clear h; intro h; cbv
   refine R.callD h (fun x23 hx23 h2 => ?_)
   clear h; have h := h2; clear h2
   refine R.call' (w76 _ _ _ _ hx23) (by first|(simp only [S]<;>rfl)|rfl) ?_
   clear hx23; cbv
   refine R.brD h (by first|(simp only [S]<;>rfl)|rfl) ?_ ?_<;>clear h<;>intro h<;>cbv
   ·refine R.needD h (by first|(simp only [S]<;>rfl)|rfl) ?_
    clear h; intro h; cbv
    refine R.callD h (fun x24 hx24 h2 => ?_)
    clear h; have h := h2; clear h2
    refine R.call' (w76 _ _ _ _ hx24) (by first|(simp only [S]<;>rfl)|rfl) ?_
    clear hx24; cbv
    refine R.brD h (by first|(simp only [S]<;>rfl)|rfl) ?_ ?_<;>clear h<;>intro h<;>cbv
    ·refine R.needD h (by first|(simp only [S]<;>rfl)|rfl) ?_
     clear h; intro h; cbv
     refine R.needD h (by first|(simp only [S]<;>rfl)|rfl) ?_
     clear h; intro h; cbv
     refine R.callD h (fun x25 hx25 h2 => ?_)
     clear h; have h := h2; clear h2
     refine R.call' (w76 _ _ _ _ hx25) (by first|(simp only [S]<;>rfl)|rfl) ?_
     clear hx25; cbv
     refine R.brD h (by first|(simp only [S]<;>rfl)|rfl) ?_ ?_<;>clear h<;>intro h<;>cbv
     ·refine R.needD h (by first|(simp only [S]<;>rfl)|rfl) ?_
      clear h; intro h; cbv
      refine R.needD h (by first|(simp only [S]<;>rfl)|rfl) ?_
      clear h; intro h; cbv
      refine R.needD h (by first|(simp only [S]<;>rfl)|rfl) ?_
      clear h; intro h; cbv
      refine R.callD h (fun x26 hx26 h2 => ?_)
      clear h; have h := h2; clear h2
      refine R.call' (w65 _ _ _ _ hx26) (by first|(simp only [S]<;>rfl)|rfl) ?_
      clear hx26; cbv
      have e := ret_some h; clear h
      refine hK _ _ ?_
      cbv
      try (subst e; simp only [S, and_self, and_true, true_and] <;> (repeat' apply And.intro) <;> rfl)
     ·have e := ret_some h; clear h
      refine hK _ _ ?_
      cbv
      try (subst e; simp only [S, and_self, and_true, true_and] <;> (repeat' apply And.intro) <;> rfl)
    ·have e := ret_some h; clear h
     refine hK _ _ ?_
     cbv
     try (subst e; simp only [S, and_self, and_true, true_and] <;> (repeat' apply And.intro) <;> rfl)
   ·have e := ret_some h; clear h
    refine hK _ _ ?_
    cbv
    try (subst e; simp only [S, and_self, and_true, true_and] <;> (repeat' apply And.intro) <;> rfl)
  ·have e := ret_some h; clear h
   refine hK _ _ ?_
   cbv
   try (subst e; simp only [S, and_self, and_true, true_and] <;> (repeat' apply And.intro) <;> rfl)
 ·as_aux_lemma =>
  refine R.brD h (by first|(simp only [S]<;>rfl)|rfl) ?_ ?_<;>clear h<;>intro h<;>cbv
  ·as_aux_lemma =>
   refine R.cut' (by kernel_rfl) (by kernel_rfl) ?_
   cbv
   refine R.brD h (by first|(simp only [S]<;>rfl)|rfl) ?_ ?_<;>clear h<;>intro h<;>cbv
   ·refine R.needD h (by first|(simp only [S]<;>rfl)|rfl) ?_
    clear h; intro h; cbv
    refine R.callD h (fun x32 hx32 h2 => ?_)
    clear h; have h := h2; clear h2
    refine R.call' (w76 _ _ _ _ hx32) (by first|(simp only [S]<;>rfl)|rfl) ?_
    clear hx32; cbv
    refine R.brD h (by first|(simp only [S]<;>rfl)|rfl) ?_ ?_<;>clear h<;>intro h<;>cbv
    ·refine R.needD h (by first|(simp only [S]<;>rfl)|rfl) ?_
     clear h; intro h; cbv
     refine R.callD h (fun x33 hx33 h2 => ?_)
     clear h; have h := h2; clear h2
     refine R.call' (w76 _ _ _ _ hx33) (by first|(simp only [S]<;>rfl)|rfl) ?_
     clear hx33; cbv
     refine R.brD h (by first|(simp only [S]<;>rfl)|rfl) ?_ ?_<;>clear h<;>intro h<;>cbv
     ·refine R.needD h (by first|(simp only [S]<;>rfl)|rfl) ?_
      clear h; intro h; cbv
      refine R.needD h (by first|(simp only [S]<;>rfl)|rfl) ?_
      clear h; intro h; cbv
      refine R.callD h (fun x34 hx34 h2 => ?_)
      clear h; have h := h2; clear h2
      refine R.call' (w76 _ _ _ _ hx34) (by first|(simp only [S]<;>rfl)|rfl) ?_
      clear hx34; cbv
      refine R.brD h (by first|(simp only [S]<;>rfl)|rfl) ?_ ?_<;>clear h<;>intro h<;>cbv
      ·refine R.needD h (by first|(simp only [S]<;>rfl)|rfl) ?_
       clear h; intro h; cbv
       refine R.callD h (fun x35 hx35 h2 => ?_)
       clear h; have h := h2; clear h2
       refine R.call' (w76 _ _ _ _ hx35) (by first|(simp only [S]<;>rfl)|rfl) ?_
       clear hx35; cbv
       refine R.brD h (by first|(simp only [S]<;>rfl)|rfl) ?_ ?_<;>clear h<;>intro h<;>cbv
       ·refine R.needD h (by first|(simp only [S]<;>rfl)|rfl) ?_
        clear h; intro h; cbv
        refine R.needD h (by first|(simp only [S]<;>rfl)|rfl) ?_
        clear h; intro h; cbv
        refine R.callD h (fun x36 hx36 h2 => ?_)
        clear h; have h := h2; clear h2
        refine R.call' (w35 _ _ _ hx36) (by first|(simp only [S]<;>rfl)|rfl) ?_
        clear hx36; cbv
        refine R.brD h (by first|(simp only [S]<;>rfl)|rfl) ?_ ?_<;>clear h<;>intro h<;>cbv
        ·refine R.needD h (by first|(simp only [S]<;>rfl)|rfl) ?_
         clear h; intro h; cbv
         refine R.needD h (by first|(simp only [S]<;>rfl)|rfl) ?_
         clear h; intro h; cbv
         refine R.needD h (by first|(simp only [S]<;>rfl)|rfl) ?_
         clear h; intro h; cbv
         have e := ret_some h; clear h
         refine hK _ _ ?_
         cbv
         try (subst e; simp only [S, and_self, and_true, true_and] <;> (repeat' apply And.intro) <;> rfl)
        ·have e := ret_some h; clear h
         refine hK _ _ ?_
         cbv
         try (subst e; simp only [S, and_self, and_true, true_and] <;> (repeat' apply And.intro) <;> rfl)
       ·have e := ret_some h; clear h
        refine hK _ _ ?_
        cbv
        try (subst e; simp only [S, and_self, and_true, true_and] <;> (repeat' apply And.intro) <;> rfl)
      ·have e := ret_some h; clear h
       refine hK _ _ ?_
       cbv
       try (subst e; simp only [S, and_self, and_true, true_and] <;> (repeat' apply And.intro) <;> rfl)
     ·have e := ret_some h; clear h
      refine hK _ _ ?_
      cbv
      try (subst e; simp only [S, and_self, and_true, true_and] <;> (repeat' apply And.intro) <;> rfl)
    ·have e := ret_some h; clear h
     refine hK _ _ ?_
     cbv
     try (subst e; simp only [S, and_self, and_true, true_and] <;> (repeat' apply And.intro) <;> rfl)
   ·have e := ret_some h; clear h
    refine hK _ _ ?_
    cbv
    try (subst e; simp only [S, and_self, and_true, true_and] <;> (repeat' apply And.intro) <;> rfl)
  ·have e := ret_some h; clear h
   refine hK _ _ ?_
   cbv
   try (subst e; simp only [S, and_self, and_true, true_and] <;> (repeat' apply And.intro) <;> rfl)
noncomputable def d49 (a0_0 : Int) (a0_1 : Int) (a0_2 : Bool) (a0_3 : Int) : Option (Bool) :=
 if (cmpLit .neq a0_0 1) = true then
 some (cmpLit .neq a0_0 2)
 else
 some false
noncomputable def w49_c : Code := (Try.f49.body).getD .skip
theorem w49_h : Try.f49.body = some w49_c := by kernel_rfl
theorem w49 (a0_0 : Int) (a0_1 : Int) (a0_2 : Bool) (a0_3 : Int) (r : Bool) (h : d49 a0_0 a0_1 a0_2 a0_3 = some r) : Ab.Fn Try.prog TT 49 [.agg [.i .i64 a0_0, .i .i64 a0_1, .b a0_2, .i .i64 a0_3]] (.b r) [] := by
 refine fn_pure tok W0 Try.func49 (by kernel_rfl) w49_h (by kernel_rfl) ?_
 intro _ _ _ _ _ _ _ _ _ _ _ _ _ _ _ _ _ _ _ _ _ _ _ _ _ _ _ _ _ _ _ _ _ _ _ _ _ _ _ _ _ E R K hK
 have D := E.D
 clear E
 unfold d49 at h
 cbv
 refine R.cut' (by kernel_rfl) (by kernel_rfl) ?_
 cbv
 refine R.brD h (by first | (simp only [D.hcmp] <;> rfl) | rfl) ?_ ?_<;>clear h<;>intro h<;>cbv
 ·have e := ret_some h; clear h
  refine hK _ _ ?_
  cbv
  try (subst e; simp only [D.hcmp, and_self, and_true, true_and] <;> (repeat' apply And.intro) <;> rfl)
 ·have e := ret_some h; clear h
  refine hK _ _ ?_
  cbv
  try (subst e; simp only [D.hcmp, and_self, and_true, true_and] <;> (repeat' apply And.intro) <;> rfl)
noncomputable def d77f49_b1 (a0 : List V) (s10 : Int) : Option ((Int) ⊕ ((Int) ⊕ (Unit))) :=
 if (cmpLit .lss s10 (lenI a0)) = true then
 if (Inb s10 (lenI a0)) then
 (d49 (gI a0 s10 0) (gI a0 s10 1) (gB a0 s10 2) (gI a0 s10 3)).bind fun x15 =>
 if x15 = true then
 some (.inr (.inl s10))
 else
 some (.inl (arReal .add .i64 s10 1))
 else none
 else
 some (.inr (.inr ()))
noncomputable def d77f49 (a0 : List V) : Option (Int) :=
 Option.bind (α := (Unit) ⊕ (Int)) (
 (iter (d77f49_b1 a0) 0).bind fun y13 =>
 match y13 with
 | .inl p16 =>
 some (.inr p16)
 | .inr y13r0 =>
 some (.inl ())) fun y7 =>
 match y7 with
 | .inl p18 =>
 some (-1)
 | .inr y7r0 =>
 some y7r0
noncomputable def w77f49_c : Code := (Try.f77.body).getD .skip
theorem w77f49_h : Try.f77.body = some w77f49_c := by kernel_rfl
theorem w77f49 (a0 : List V) (r : Int) (h : d77f49 a0 = some r) : Ab.Fn Try.prog TT 77 [.sl 74 a0, .fn (.func 49) [] []] (.i .i64 r) [] := by
 refine fn_pure tok W0 Try.func77 (by kernel_rfl) w77f49_h (by kernel_rfl) ?_
 intro _ _ _ _ _ _ _ _ _ _ _ _ _ _ _ _ _ _ _ _ _ _ _ _ _ _ _ _ _ _ _ _ _ _ _ _ _ _ _ _ _ E R K hK
 have D := E.D
 clear E
 have S := And.intro D.har (And.intro D.hcmp (And.intro D.hgb (And.intro D.hgi (And.intro D.hinb (D.hlen)))))
 unfold d77f49 at h
 cbv
 refine R.cutB Sum.inl (fun _ _ e => Sum.inl.inj e) h [] (fun p18 => []) (fun p18 => []) (by kernel_rfl) (by kernel_rfl) (fun y7 hy hFy7 L hLy7 => ?_) (fun p18 h2 => ?_)
 ·clear h; have h := hy; clear hy; cbv
  refine R.loopD h (fun s0 y13 e0 hi hFs10 => ?_)
  clear h
  refine R.loopI hi [] (fun s10 => [(8, .i .i64 s10)]) (fun s10 => []) ⟨by kernel_rfl, ?_, ?_, by kernel_rfl, by kernel_rfl⟩ (by kernel_rfl) ?_
  ·cbv; try (subst e0; simp only [S, and_self, and_true, true_and] <;> (repeat' apply And.intro) <;> rfl)
  ·cbv; try (subst e0; simp only [S, and_self, and_true, true_and] <;> (repeat' apply And.intro) <;> rfl)
  clear hi e0
  intro s10 m y' hy hins10 houts10 L hLs10
  have h := hy; clear hy; unfold d77f49_b1 at h
  cbv
  refine R.cut' (by kernel_rfl) (by kernel_rfl) ?_
  cbv
  refine R.brD h (by first|(simp only [S]<;>rfl)|rfl) ?_ ?_<;>clear h<;>intro h<;>cbv
  ·refine R.cut' (by kernel_rfl) (by kernel_rfl) ?_
   cbv
   refine R.needD h (by first|(simp only [S]<;>rfl)|rfl) ?_
   clear h; intro h; cbv
   refine R.callD h (fun x15 hx15 h2 => ?_)
   clear h; have h := h2; clear h2
   refine R.call' (w49 _ _ _ _ _ hx15) (by first|(simp only [S]<;>rfl)|rfl) ?_
   clear hx15; cbv
   refine R.brD h (by first|(simp only [S]<;>rfl)|rfl) ?_ ?_<;>clear h<;>intro h<;>cbv
   ·have e := inr_some h houts10; clear h
    have h := hFs10; rw [e] at h; clear e; try dsimp only at h
    cbv
    have e := ret_some h; clear h
    have h := hFy7; rw [e] at h; clear e; try dsimp only at h
    cbv
    have e := ret_some h; clear h
    refine hK _ _ ?_
    cbv
    try (subst e; simp only [S, and_self, and_true, true_and] <;> (repeat' apply And.intro) <;> rfl)
   ·obtain ⟨s', e, hi⟩ := inl_some h hins10
    refine hLs10 s' _ _ hi ⟨by kernel_rfl, ?_, ?_, by kernel_rfl, by kernel_rfl⟩<;>cbv<;>(try (subst e;simp only [S,and_self,and_true,true_and]<;>(repeat' apply And.intro)<;>rfl))
  ·have e := inr_some h houts10; clear h
   have h := hFs10; rw [e] at h; clear e; try dsimp only at h
   cbv
   obtain ⟨s', e, hi⟩ := jn_some Sum.inl h
   refine hLy7 s' _ _ hi ⟨by kernel_rfl, ?_, ?_, by kernel_rfl, by kernel_rfl⟩<;>cbv<;>(try (subst e;simp only [S,and_self,and_true,true_and]<;>(repeat' apply And.intro)<;>rfl))
 ·clear h; have h := h2; clear h2; try dsimp only at h
  cbv
  have e := ret_some h; clear h
  refine hK _ _ ?_
  cbv
  try (subst e; simp only [S, and_self, and_true, true_and] <;> (repeat' apply And.intro) <;> rfl)
noncomputable def d51f49 (a0 : List V) : Option (Bool) :=
 (d77f49 a0).bind fun x1 =>
 some (cmpLit .geq x1 0)
noncomputable def w51f49_c : Code := (Try.f51.body).getD .skip
theorem w51f49_h : Try.f51.body = some w51f49_c := by kernel_rfl
theorem w51f49 (a0 : List V) (r : Bool) (h : d51f49 a0 = some r) : Ab.Fn Try.prog TT 51 [.sl 74 a0, .fn (.func 49) [] []] (.b r) [] := by
 refine fn_pure tok W0 Try.func51 (by kernel_rfl) w51f49_h (by kernel_rfl) ?_
 intro _ _ _ _ _ _ _ _ _ _ _ _ _ _ _ _ _ _ _ _ _ _ _ _ _ _ _ _ _ _ _ _ _ _ _ _ _ _ _ _ _ E R K hK
 have D := E.D
 clear E
 unfold d51f49 at h
 cbv
 refine R.callD h (fun x1 hx1 h2 => ?_)
 clear h; have h := h2; clear h2
 refine R.call' (w77f49 _ _ hx1) (by first | (simp only [D.hcmp] <;> rfl) | rfl) ?_
 clear hx1; cbv
 have e := ret_some h; clear h
 refine hK _ _ ?_
 cbv
 try (subst e; simp only [D.hcmp, and_self, and_true, true_and] <;> (repeat' apply And.intro) <;> rfl)
end Go.Proofs.Ytmofhbedamjblaa
end
section
namespace Go.Proofs.Ytmofhbedamjblaa
open Go.Ab Go.RowKit 
set_option maxRecDepth 100000
set_option maxHeartbeats 40000000
noncomputable def d22 (a0_0 : ByteArray) (a0_1 : Int) (a0_2 : List V) (a0_3 : List V) : Option (Int) :=
 Option.bind (α := Bool) (
 (d33 (slenI a0_0) 1 31).bind fun x12 =>
 if (notB' x12) = true then
 some true
 else
 if (cmpLit .gtr (lenI a0_3) 4) = true then
 some true
 else
 (d33 a0_1 1 9).bind fun x13 =>
 if (notB' x13) = true then
 some true
 else
 (d50 a0_0 a0_1 a0_2 a0_3).bind fun x14 =>
 if (notB' x14) = true then
 some true
 else
 (d51f49 a0_3).bind fun x15 =>
 some x15) fun y11 =>
 if y11 = true then
 some 210
 else
 some 0
noncomputable def w22_c : Code := (Try.f22.body).getD .skip
theorem w22_h : Try.f22.body = some w22_c := by kernel_rfl
theorem w22 (a0_0 : ByteArray) (a0_1 : Int) (a0_2 : List V) (a0_3 : List V) (r : Int) (h : d22 a0_0 a0_1 a0_2 a0_3 = some r) : Ab.Fn Try.prog TT 22 [.agg [.str a0_0, .i .i64 a0_1, .sl 2 a0_2, .sl 74 a0_3]] (.i .i64 r) [] := by
 refine fn_pure tok W0 Try.func22 (by kernel_rfl) w22_h (by kernel_rfl) ?_
 intro _ _ _ _ _ _ _ _ _ _ _ _ _ _ _ _ _ _ _ _ _ _ _ _ _ _ _ _ _ _ _ _ _ _ _ _ _ _ _ _ _ E R K hK
 have D := E.D
 clear E
 have S := And.intro D.hcmp (And.intro D.hlen (And.intro D.hnt (D.hslen)))
 unfold d22 at h
 cbv
 refine R.cut' (by kernel_rfl) (by kernel_rfl) ?_
 cbv
 refine R.cutB (fun p => p) (fun _ _ e => e) h [] (fun p16 => [(31, .b p16)]) (fun p16 => []) (by kernel_rfl) (by kernel_rfl) (fun y11 hy hFy11 L hLy11 => ?_) (fun p16 h2 => ?_)
 ·clear h; have h := hy; clear hy; cbv
  refine R.callD h (fun x12 hx12 h2 => ?_)
  clear h; have h := h2; clear h2
  refine R.call' (w33 _ _ _ _ hx12) (by first|(simp only [S]<;>rfl)|rfl) ?_
  clear hx12; cbv
  refine R.brD h (by first|(simp only [S]<;>rfl)|rfl) ?_ ?_<;>clear h<;>intro h<;>cbv
  ·obtain ⟨s', e, hi⟩ := jn_some (fun p => p) h
   refine hLy11 s' _ _ hi ⟨by kernel_rfl, ?_, ?_, by kernel_rfl, by kernel_rfl⟩<;>cbv<;>(try (subst e;simp only [S,and_self,and_true,true_and]<;>(repeat' apply And.intro)<;>rfl))
  ·refine R.brD h (by first|(simp only [S]<;>rfl)|rfl) ?_ ?_<;>clear h<;>intro h<;>cbv
   ·obtain ⟨s', e, hi⟩ := jn_some (fun p => p) h
    refine hLy11 s' _ _ hi ⟨by kernel_rfl, ?_, ?_, by kernel_rfl, by kernel_rfl⟩<;>cbv<;>(try (subst e;simp only [S,and_self,and_true,true_and]<;>(repeat' apply And.intro)<;>rfl))
   ·refine R.callD h (fun x13 hx13 h2 => ?_)
    clear h; have h := h2; clear h2
    refine R.call' (w33 _ _ _ _ hx13) (by first|(simp only [S]<;>rfl)|rfl) ?_
    clear hx13; cbv
    refine R.brD h (by first|(simp only [S]<;>rfl)|rfl) ?_ ?_<;>clear h<;>intro h<;>cbv
    ·obtain ⟨s', e, hi⟩ := jn_some (fun p => p) h
     refine hLy11 s' _ _ hi ⟨by kernel_rfl, ?_, ?_, by kernel_rfl, by kernel_rfl⟩<;>cbv<;>(try (subst e;simp only [S,and_self,and_true,true_and]<;>(repeat' apply And.intro)<;>rfl))
    ·refine R.callD h (fun x14 hx14 h2 => ?_)
     clear h; have h := h2; clear h2
     refine R.call' (w50 _ _ _ _ _ hx14) (by first|(simp only [S]<;>rfl)|rfl) ?_
     clear hx14; cbv
     refine R.brD h (by first|(simp only [S]<;>rfl)|rfl) ?_ ?_<;>clear h<;>intro h<;>cbv
     ·obtain ⟨s', e, hi⟩ := jn_some (fun p => p) h
      refine hLy11 s' _ _ hi ⟨by kernel_rfl, ?_, ?_, by kernel_rfl, by kernel_rfl⟩<;>cbv<;>(try (subst e;simp only [S,and_self,and_true,true_and]<;>(repeat' apply And.intro)<;>rfl))
     ·refine R.callD h (fun x15 hx15 h2 => ?_)
      clear h; have h := h2; clear h2
      refine R.call' (w51f49 _ _ hx15) (by first|(simp only [S]<;>rfl)|rfl) ?_
      clear hx15; cbv
      obtain ⟨s', e, hi⟩ := jn_some (fun p => p) h
      refine hLy11 s' _ _ hi ⟨by kernel_rfl, ?_, ?_, by kernel_rfl, by kernel_rfl⟩<;>cbv<;>(try (subst e;simp only [S,and_self,and_true,true_and]<;>(repeat' apply And.intro)<;>rfl))
 ·clear h; have h := h2; clear h2; try dsimp only at h
  cbv
  refine R.brD h (by first|(simp only [S]<;>rfl)|rfl) ?_ ?_<;>clear h<;>intro h<;>cbv
  ·have e := ret_some h; clear h
   refine hK _ _ ?_
   cbv
   try (subst e; simp only [S, and_self, and_true, true_and] <;> (repeat' apply And.intro) <;> rfl)
  ·have e := ret_some h; clear h
   refine hK _ _ ?_
   cbv
   try (subst e; simp only [S, and_self, and_true, true_and] <;> (repeat' apply And.intro) <;> rfl)
noncomputable def d34 (a0_0 : ByteArray) (a0_1 : Int) (a0_2 : List V) (a0_3 : List V) : Option (Int) :=
 if (cmpLit .eql a0_1 8) = true then
 if (Inb 0 (lenI a0_2)) then
 if (Inb 1 (lenI a0_2)) then
 if (Inb 2 (lenI a0_2)) then
 (d65 (gI a0_2 0 0) (gI a0_2 1 0) (gI a0_2 2 0)).bind fun x2 =>
 some (arReal .add .i64 (wrapK .i64 x2) 2)
 else none
 else none
 else none
 else
 if (cmpLit .eql a0_1 9) = true then
 if (Inb 2 (lenI a0_2)) then
 if (Inb 1 (lenI a0_2)) then
 if (Inb 3 (lenI a0_2)) then
 some (arReal .add .i64 (arReal .mul .i64 (arReal .add .i64 (arReal .sub .i64 (gI a0_2 2 0) (gI a0_2 1 0)) 1) (gI a0_2 3 0)) 2)
 else none
 else none
 else none
 else
 if (Inb a0_1 (Int.ofNat 8)) then
 some (gI [.i .i64 0, .i .i64 1, .i .i64 1, .i .i64 2, .i .i64 2, .i .i64 2, .i .i64 4, .i .i64 127] a0_1 0)
 else none
noncomputable def w34_c : Code := (Try.f34.body).getD .skip
theorem w34_h : Try.f34.body = some w34_c := by kernel_rfl
theorem w34 (a0_0 : ByteArray) (a0_1 : Int) (a0_2 : List V) (a0_3 : List V) (r : Int) (h : d34 a0_0 a0_1 a0_2 a0_3 = some r) : Ab.Fn Try.prog TT 34 [.agg [.str a0_0, .i .i64 a0_1, .sl 2 a0_2, .sl 74 a0_3]] (.i .i64 r) [] := by
 refine fn_pure tok (fun r => match r with | 4 => [[],[0],[0,1],[],[3],[3,4],[],[6],[6,7],[0,1,2,3,4,5,6,7,8],[0,1,2,3,4,5,6,7,8,9],[0,1,2,3,4,5,6,7,8,9,10],[0,1,2,3,4,5,6,7,8,9,10,11]] | 6 => [[],[0],[0,1],[],[3],[3,4],[0,1,2,3,4,5],[0,1,2,3,4,5,6],[],[8],[8,9],[0,1,2,3,4,5,6,7,8,9,10],[0,1,2,3,4,5,6,7,8,9,10,11],[0,1,2,3,4,5,6,7,8,9,10,11,12]] | _ => []) Try.func34 (by kernel_rfl) w34_h (by kernel_rfl) ?_
 intro _ _ _ _ _ _ _ _ _ _ _ _ _ _ _ _ _ _ _ _ _ _ _ _ _ _ _ _ _ _ _ _ _ _ _ _ _ _ _ _ _ E R K hK
 have D := E.D
 clear E
 have S := And.intro D.har (And.intro D.hcmp (And.intro D.hcv (And.intro D.hgi (And.intro D.hinb (D.hlen)))))
 unfold d34 at h
 cbv
 refine R.cut' (by kernel_rfl) (by kernel_rfl) ?_
 cbv
 refine R.brD h (by first|(simp only [S]<;>rfl)|rfl) ?_ ?_<;>clear h<;>intro h<;>cbv
 ·refine R.needD h (by first|(simp only [S]<;>rfl)|rfl) ?_
  clear h; intro h; cbv
  refine R.needD h (by first|(simp only [S]<;>rfl)|rfl) ?_
  clear h; intro h; cbv
  refine R.needD h (by first|(simp only [S]<;>rfl)|rfl) ?_
  clear h; intro h; cbv
  refine R.callD h (fun x2 hx2 h2 => ?_)
  clear h; have h := h2; clear h2
  refine R.call' (w65 _ _ _ _ hx2) (by first|(simp only [S]<;>rfl)|rfl) ?_
  clear hx2; cbv
  have e := ret_some h; clear h
  refine hK _ _ ?_
  cbv
  try (subst e; simp only [S, and_self, and_true, true_and] <;> (repeat' apply And.intro) <;> rfl)
 ·refine R.brD h (by first|(simp only [S]<;>rfl)|rfl) ?_ ?_<;>clear h<;>intro h<;>cbv
  ·refine R.needD h (by first|(simp only [S]<;>rfl)|rfl) ?_
   clear h; intro h; cbv
   refine R.needD h (by first|(simp only [S]<;>rfl)|rfl) ?_
   clear h; intro h; cbv
   refine R.needD h (by first|(simp only [S]<;>rfl)|rfl) ?_
   clear h; intro h; cbv
   have e := ret_some h; clear h
   refine hK _ _ ?_
   cbv
   try (subst e; simp only [S, and_self, and_true, true_and] <;> (repeat' apply And.intro) <;> rfl)
  ·refine R.needD h (by first|(simp only [S]<;>rfl)|rfl) ?_
   clear h; intro h; cbv
   have e := ret_some h; clear h
   refine hK _ _ ?_
   cbv
   try (subst e; simp only [S, and_self, and_true, true_and] <;> (repeat' apply And.intro) <;> rfl)
noncomputable def d18 (a0_0 : ByteArray) (a0_1 : Int) (a0_2 : List V) (a0_3 : List V) : Option (List V × Int) :=
 (d22 a0_0 a0_1 a0_2 a0_3).bind fun x2 =>
 if (cmpLit .neq x2 0) = true then
 some ([], x2)
 else
 (d34 a0_0 a0_1 a0_2 a0_3).bind fun x3 =>
 if (Ge0 x3) then
 if (Room x3 8) then
 some ((repL x3 (.i .i64 0)), 0)
 else none
 else none
noncomputable def w18_c : Code := (Try.f18.body).getD .skip
theorem w18_h : Try.f18.body = some w18_c := by kernel_rfl
theorem w18 (a0_0 : ByteArray) (a0_1 : Int) (a0_2 : List V) (a0_3 : List V) (r : List V × Int) (h : d18 a0_0 a0_1 a0_2 a0_3 = some r) : Ab.Fn Try.prog TT 18 [.agg [.str a0_0, .i .i64 a0_1, .sl 2 a0_2, .sl 74 a0_3]] (.tup [.row 0, .i .i64 r.2]) [(0, .row 2 r.1)] := by
 refine fn_own tok W0 Try.func18 (by kernel_rfl) w18_h (by kernel_rfl) ?_
 intro _ _ _ _ _ _ _ _ _ _ _ _ _ _ _ _ _ _ _ _ _ _ _ _ _ _ _ _ _ _ _ _ _ _ _ _ _ _ _ _ _ E R K hK
 have D := E.D
 clear E
 have S := And.intro D.hcmp (And.intro D.hge0 (And.intro D.hrep (D.hroom)))
 unfold d18 at h
 cbv
 refine R.cut' (by kernel_rfl) (by kernel_rfl) ?_
 cbv
 refine R.callD h (fun x2 hx2 h2 => ?_)
 clear h; have h := h2; clear h2
 refine R.call' (w22 _ _ _ _ _ hx2) (by first|(simp only [S]<;>rfl)|rfl) ?_
 clear hx2; cbv
 refine R.brD h (by first|(simp only [S]<;>rfl)|rfl) ?_ ?_<;>clear h<;>intro h<;>cbv
 ·have e := ret_some h; clear h
  refine hK _ _ ⟨rfl, ⟨?_, rfl, rfl, rfl, ?_⟩⟩<;>cbv<;>(try (subst e;simp only [S,and_self,and_true,true_and]<;>(repeat' apply And.intro)<;>rfl))
 ·refine R.callD h (fun x3 hx3 h2 => ?_)
  clear h; have h := h2; clear h2
  refine R.call' (w34 _ _ _ _ _ hx3) (by first|(simp only [S]<;>rfl)|rfl) ?_
  clear hx3; cbv
  refine R.needD h (by first|(simp only [S]<;>rfl)|rfl) ?_
  clear h; intro h; cbv
  refine R.needD h (by first|(simp only [S]<;>rfl)|rfl) ?_
  clear h; intro h; cbv
  have e := ret_some h; clear h
  refine hK _ _ ⟨rfl, ⟨?_, rfl, rfl, rfl, ?_⟩⟩<;>cbv<;>(try (subst e;simp only [S,and_self,and_true,true_and]<;>(repeat' apply And.intro)<;>rfl))
theorem w18s (a0_0 : ByteArray) (a0_1 : Int) (a0_2 : List V) (a0_3 : List V) (r : List V × Int) (h : d18 a0_0 a0_1 a0_2 a0_3 = some r) : Ab.Fn Try.prog TT 18 [.agg [.str a0_0, .i .i64 a0_1, .sl 2 a0_2, .sl 74 a0_3]] (.tup [.sl 2 r.1, .i .i64 r.2]) [] :=
 (w18 a0_0 a0_1 a0_2 a0_3 r h).pure (by simp [ple, ple1, ple1L, pleL, pleS, Ab.look])
noncomputable def d31 (a0_0 : ByteArray) (a0_1 : Int) (a0_2 : List V) (a0_3 : List V) : Option (Bool) :=
 some (cmpLit .geq a0_1 7)
noncomputable def w31_c : Code := (Try.f31.body).getD .skip
theorem w31_h : Try.f31.body = some w31_c := by kernel_rfl
theorem w31 (a0_0 : ByteArray) (a0_1 : Int) (a0_2 : List V) (a0_3 : List V) (r : Bool) (h : d31 a0_0 a0_1 a0_2 a0_3 = some r) : Ab.Fn Try.prog TT 31 [.agg [.str a0_0, .i .i64 a0_1, .sl 2 a0_2, .sl 74 a0_3]] (.b r) [] := by
 refine fn_pure tok W0 Try.func31 (by kernel_rfl) w31_h (by kernel_rfl) ?_
 intro _ _ _ _ _ _ _ _ _ _ _ _ _ _ _ _ _ _ _ _ _ _ _ _ _ _ _ _ _ _ _ _ _ _ _ _ _ _ _ _ _ E R K hK
 have D := E.D
 clear E
 unfold d31 at h
 cbv
 have e := ret_some h; clear h
 refine hK _ _ ?_
 cbv
 try (subst e; simp only [D.hcmp, and_self, and_true, true_and] <;> (repeat' apply And.intro) <;> rfl)
noncomputable def d38 (a0 : List V) : Option (List V) :=
 nlD a0
 (
 some [])
 (
 if (Room (lenI (appL [] a0)) 8) then
 some (appL [] a0)
 else none)
noncomputable def w38_c : Code := (Try.f38.body).getD .skip
theorem w38_h : Try.f38.body = some w38_c := by kernel_rfl
theorem w38 (a0 : List V) (r : List V) (h : d38 a0 = some r) : Ab.Fn Try.prog TT 38 [.sl 2 a0] (.row 0) [(0, .row 2 r)] := by
 refine fn_own tok W0 Try.func38 (by kernel_rfl) w38_h (by kernel_rfl) ?_
 intro _ _ _ _ _ _ _ _ _ _ _ _ _ _ _ _ _ _ _ _ _ _ _ _ _ _ _ _ _ _ _ _ _ _ _ _ _ _ _ _ _ E R K hK
 have D := E.D
 clear E
 have S := And.intro D.happ (And.intro D.hlen (D.hroom))
 unfold d38 at h
 cbv
 refine R.cut' (by kernel_rfl) (by kernel_rfl) ?_
 cbv
 refine R.nlD h (by first|(simp only [S]<;>rfl)|rfl) (fun hn h2 => ?_) (fun h2 => ?_) <;> clear h <;> have h := h2 <;> clear h2 <;> cbv
 ·have e := ret_some h; clear h
  refine hK _ _ ⟨rfl, ⟨?_, rfl, rfl, rfl, ?_⟩⟩<;>cbv<;>(try (subst e;simp only [S,and_self,and_true,true_and]<;>(repeat' apply And.intro)<;>rfl))
 ·refine R.needD h (by first|(simp only [S]<;>rfl)|rfl) ?_
  clear h; intro h; cbv
  have e := ret_some h; clear h
  refine hK _ _ ⟨rfl, ⟨?_, rfl, rfl, rfl, ?_⟩⟩<;>cbv<;>(try (subst e;simp only [S,and_self,and_true,true_and]<;>(repeat' apply And.intro)<;>rfl))
noncomputable def d17_b1 (a0 : List V) (a1 : List V) (s4 : Int) : Option ((Int) ⊕ ((Bool) ⊕ (Unit))) :=
 if (cmpLit .lss s4 (lenI a0)) = true then
 if (Inb s4 (lenI a0)) then
 if (Inb s4 (lenI a1)) then
 if (cmpLit .neq (gI a0 s4 0) (gI a1 s4 0)) = true then
 some (.inr (.inl false))
 else
 some (.inl (arReal .add .i64 s4 1))
 else none
 else none
 else
 some (.inr (.inr ()))
noncomputable def d17 (a0 : List V) (a1 : List V) : Option (Bool) :=
 if (cmpLit .neq (lenI a0) (lenI a1)) = true then
 some false
 else
 Option.bind (α := (Unit) ⊕ (Bool)) (
 (iter (d17_b1 a0 a1) 0).bind fun y5 =>
 match y5 with
 | .inl p6 =>
 some (.inr p6)
 | .inr y5r0 =>
 some (.inl ())) fun y3 =>
 match y3 with
 | .inl p8 =>
 some true
 | .inr y3r0 =>
 some y3r0
noncomputable def w17_c : Code := (Try.f17.body).getD .skip
theorem w17_h : Try.f17.body = some w17_c := by kernel_rfl
theorem w17 (a0 : List V) (a1 : List V) (r : Bool) (h : d17 a0 a1 = some r) : Ab.Fn Try.prog TT 17 [.sl 2 a0, .sl 2 a1] (.b r) [] := by
 refine fn_pure tok (fun r => match r with | 6 => [[],[],[0,1],[0,1,2],[],[],[4,5],[4,5,6],[0,1,2,3,4,5,6,7]] | _ => []) Try.func17 (by kernel_rfl) w17_h (by kernel_rfl) ?_
 intro _ _ _ _ _ _ _ _ _ _ _ _ _ _ _ _ _ _ _ _ _ _ _ _ _ _ _ _ _ _ _ _ _ _ _ _ _ _ _ _ _ E R K hK
 have D := E.D
 clear E
 have S := And.intro D.har (And.intro D.hcmp (And.intro D.hgi (And.intro D.hinb (D.hlen))))
 unfold d17 at h
 cbv
 refine R.cut' (by kernel_rfl) (by kernel_rfl) ?_
 cbv
 refine R.brD h (by first|(simp only [S]<;>rfl)|rfl) ?_ ?_<;>clear h<;>intro h<;>cbv
 ·have e := ret_some h; clear h
  refine hK _ _ ?_
  cbv
  try (subst e; simp only [S, and_self, and_true, true_and] <;> (repeat' apply And.intro) <;> rfl)
 ·refine R.cutB Sum.inl (fun _ _ e => Sum.inl.inj e) h [] (fun p8 => []) (fun p8 => []) (by kernel_rfl) (by kernel_rfl) (fun y3 hy hFy3 L hLy3 => ?_) (fun p8 h2 => ?_)
  ·clear h; have h := hy; clear hy; cbv
   refine R.loopD h (fun s0 y5 e0 hi hFs4 => ?_)
   clear h
   refine R.loopI hi [] (fun s4 => [(5, .i .i64 s4)]) (fun s4 => []) ⟨by kernel_rfl, ?_, ?_, by kernel_rfl, by kernel_rfl⟩ (by kernel_rfl) ?_
   ·cbv; try (subst e0; simp only [S, and_self, and_true, true_and] <;> (repeat' apply And.intro) <;> rfl)
   ·cbv; try (subst e0; simp only [S, and_self, and_true, true_and] <;> (repeat' apply And.intro) <;> rfl)
   clear hi e0
   intro s4 m y' hy hins4 houts4 L hLs4
   have h := hy; clear hy; unfold d17_b1 at h
   cbv
   refine R.cut' (by kernel_rfl) (by kernel_rfl) ?_
   cbv
   refine R.brD h (by first|(simp only [S]<;>rfl)|rfl) ?_ ?_<;>clear h<;>intro h<;>cbv
   ·refine R.cut' (by kernel_rfl) (by kernel_rfl) ?_
    cbv
    refine R.needD h (by first|(simp only [S]<;>rfl)|rfl) ?_
    clear h; intro h; cbv
    refine R.needD h (by first|(simp only [S]<;>rfl)|rfl) ?_
    clear h; intro h; cbv
    refine R.brD h (by first|(simp only [S]<;>rfl)|rfl) ?_ ?_<;>clear h<;>intro h<;>cbv
    ·have e := inr_some h houts4; clear h
     have h := hFs4; rw [e] at h; clear e; try dsimp only at h
     cbv
     have e := ret_some h; clear h
     have h := hFy3; rw [e] at h; clear e; try dsimp only at h
     cbv
     have e := ret_some h; clear h
     refine hK _ _ ?_
     cbv
     try (subst e; simp only [S, and_self, and_true, true_and] <;> (repeat' apply And.intro) <;> rfl)
    ·obtain ⟨s', e, hi⟩ := inl_some h hins4
     refine hLs4 s' _ _ hi ⟨by kernel_rfl, ?_, ?_, by kernel_rfl, by kernel_rfl⟩<;>cbv<;>(try (subst e;simp only [S,and_self,and_true,true_and]<;>(repeat' apply And.intro)<;>rfl))
   ·have e := inr_some h houts4; clear h
    have h := hFs4; rw [e] at h; clear e; try dsimp only at h
    cbv
    obtain ⟨s', e, hi⟩ := jn_some Sum.inl h
    refine hLy3 s' _ _ hi ⟨by kernel_rfl, ?_, ?_, by kernel_rfl, by kernel_rfl⟩<;>cbv<;>(try (subst e;simp only [S,and_self,and_true,true_and]<;>(repeat' apply And.intro)<;>rfl))
  ·clear h; have h := h2; clear h2; try dsimp only at h
   cbv
   have e := ret_some h; clear h
   refine hK _ _ ?_
   cbv
   try (subst e; simp only [S, and_self, and_true, true_and] <;> (repeat' apply And.intro) <;> rfl)
noncomputable def d63 (a0 : Int) : Option (Int) :=
 Option.bind (α := Int × Int) (
 if (cmpLit .geq a0 4294967296) = true then
 if (Ge0 32) then
 some ((arReal .shr .u64 a0 32), 32)
 else none
 else
 some (a0, 0)) fun y1 =>
 Option.bind (α := Int × Int) (
 if (cmpLit .geq y1.1 65536) = true then
 if (Ge0 16) then
 some ((arReal .shr .u64 y1.1 16), (arReal .add .i64 y1.2 16))
 else none
 else
 some (y1.1, y1.2)) fun y3 =>
 if (cmpLit .geq y3.1 256) = true then
 if (Ge0 8) then
 if (Inb (wrapK .u8 (arReal .shr .u64 y3.1 8)) (slenI (ByteArray.mk #[0, 1, 2, 2, 3, 3, 3, 3, 4, 4, 4, 4, 4, 4, 4, 4, 5, 5, 5, 5, 5, 5, 5, 5, 5, 5, 5, 5, 5, 5, 5, 5, 6, 6, 6, 6, 6, 6, 6, 6, 6, 6, 6, 6, 6, 6, 6, 6, 6, 6, 6, 6, 6, 6, 6, 6, 6, 6, 6, 6, 6, 6, 6, 6, 7, 7, 7, 7, 7, 7, 7, 7, 7, 7, 7, 7, 7, 7, 7, 7, 7, 7, 7, 7, 7, 7, 7, 7, 7, 7, 7, 7, 7, 7, 7, 7, 7, 7, 7, 7, 7, 7, 7, 7, 7, 7, 7, 7, 7, 7, 7, 7, 7, 7, 7, 7, 7, 7, 7, 7, 7, 7, 7, 7, 7, 7, 7, 7, 8, 8, 8, 8, 8, 8, 8, 8, 8, 8, 8, 8, 8, 8, 8, 8, 8, 8, 8, 8, 8, 8, 8, 8, 8, 8, 8, 8, 8, 8, 8, 8, 8, 8, 8, 8, 8, 8, 8, 8, 8, 8, 8, 8, 8, 8, 8, 8, 8, 8, 8, 8, 8, 8, 8, 8, 8, 8, 8, 8, 8, 8, 8, 8, 8, 8, 8, 8, 8, 8, 8, 8, 8, 8, 8, 8, 8, 8, 8, 8, 8, 8, 8, 8, 8, 8, 8, 8, 8, 8, 8, 8, 8, 8, 8, 8, 8, 8, 8, 8, 8, 8, 8, 8, 8, 8, 8, 8, 8, 8, 8, 8, 8, 8, 8, 8, 8, 8, 8, 8, 8, 8, 8, 8, 8, 8, 8, 8]))) then
 some (arReal .add .i64 (arReal .add .i64 y3.2 8) (wrapK .i64 (sbyteI (ByteArray.mk #[0, 1, 2, 2, 3, 3, 3, 3, 4, 4, 4, 4, 4, 4, 4, 4, 5, 5, 5, 5, 5, 5, 5, 5, 5, 5, 5, 5, 5, 5, 5, 5, 6, 6, 6, 6, 6, 6, 6, 6, 6, 6, 6, 6, 6, 6, 6, 6, 6, 6, 6, 6, 6, 6, 6, 6, 6, 6, 6, 6, 6, 6, 6, 6, 7, 7, 7, 7, 7, 7, 7, 7, 7, 7, 7, 7, 7, 7, 7, 7, 7, 7, 7, 7, 7, 7, 7, 7, 7, 7, 7, 7, 7, 7, 7, 7, 7, 7, 7, 7, 7, 7, 7, 7, 7, 7, 7, 7, 7, 7, 7, 7, 7, 7, 7, 7, 7, 7, 7, 7, 7, 7, 7, 7, 7, 7, 7, 7, 8, 8, 8, 8, 8, 8, 8, 8, 8, 8, 8, 8, 8, 8, 8, 8, 8, 8, 8, 8, 8, 8, 8, 8, 8, 8, 8, 8, 8, 8, 8, 8, 8, 8, 8, 8, 8, 8, 8, 8, 8, 8, 8, 8, 8, 8, 8, 8, 8, 8, 8, 8, 8, 8, 8, 8, 8, 8, 8, 8, 8, 8, 8, 8, 8, 8, 8, 8, 8, 8, 8, 8, 8, 8, 8, 8, 8, 8, 8, 8, 8, 8, 8, 8, 8, 8, 8, 8, 8, 8, 8, 8, 8, 8, 8, 8, 8, 8, 8, 8, 8, 8, 8, 8, 8, 8, 8, 8, 8, 8, 8, 8, 8, 8, 8, 8, 8, 8, 8, 8, 8, 8, 8, 8, 8, 8, 8, 8]) (wrapK .u8 (arReal .shr .u64 y3.1 8)))))
 else none
 else none
 else
 if (Inb (wrapK .u8 y3.1) (slenI (ByteArray.mk #[0, 1, 2, 2, 3, 3, 3, 3, 4, 4, 4, 4, 4, 4, 4, 4, 5, 5, 5, 5, 5, 5, 5, 5, 5, 5, 5, 5, 5, 5, 5, 5, 6, 6, 6, 6, 6, 6, 6, 6, 6, 6, 6, 6, 6, 6, 6, 6, 6, 6, 6, 6, 6, 6, 6, 6, 6, 6, 6, 6, 6, 6, 6, 6, 7, 7, 7, 7, 7, 7, 7, 7, 7, 7, 7, 7, 7, 7, 7, 7, 7, 7, 7, 7, 7, 7, 7, 7, 7, 7, 7, 7, 7, 7, 7, 7, 7, 7, 7, 7, 7, 7, 7, 7, 7, 7, 7, 7, 7, 7, 7, 7, 7, 7, 7, 7, 7, 7, 7, 7, 7, 7, 7, 7, 7, 7, 7, 7, 8, 8, 8, 8, 8, 8, 8, 8, 8, 8, 8, 8, 8, 8, 8, 8, 8, 8, 8, 8, 8, 8, 8, 8, 8, 8, 8, 8, 8, 8, 8, 8, 8, 8, 8, 8, 8, 8, 8, 8, 8, 8, 8, 8, 8, 8, 8, 8, 8, 8, 8, 8, 8, 8, 8, 8, 8, 8, 8, 8, 8, 8, 8, 8, 8, 8, 8, 8, 8, 8, 8, 8, 8, 8, 8, 8, 8, 8, 8, 8, 8, 8, 8, 8, 8, 8, 8, 8, 8, 8, 8, 8, 8, 8, 8, 8, 8, 8, 8, 8, 8, 8, 8, 8, 8, 8, 8, 8, 8, 8, 8, 8, 8, 8, 8, 8, 8, 8, 8, 8, 8, 8, 8, 8, 8, 8, 8, 8]))) then
 some (arReal .add .i64 y3.2 (wrapK .i64 (sbyteI (ByteArray.mk #[0, 1, 2, 2, 3, 3, 3, 3, 4, 4, 4, 4, 4, 4, 4, 4, 5, 5, 5, 5, 5, 5, 5, 5, 5, 5, 5, 5, 5, 5, 5, 5, 6, 6, 6, 6, 6, 6, 6, 6, 6, 6, 6, 6, 6, 6, 6, 6, 6, 6, 6, 6, 6, 6, 6, 6, 6, 6, 6, 6, 6, 6, 6, 6, 7, 7, 7, 7, 7, 7, 7, 7, 7, 7, 7, 7, 7, 7, 7, 7, 7, 7, 7, 7, 7, 7, 7, 7, 7, 7, 7, 7, 7, 7, 7, 7, 7, 7, 7, 7, 7, 7, 7, 7, 7, 7, 7, 7, 7, 7, 7, 7, 7, 7, 7, 7, 7, 7, 7, 7, 7, 7, 7, 7, 7, 7, 7, 7, 8, 8, 8, 8, 8, 8, 8, 8, 8, 8, 8, 8, 8, 8, 8, 8, 8, 8, 8, 8, 8, 8, 8, 8, 8, 8, 8, 8, 8, 8, 8, 8, 8, 8, 8, 8, 8, 8, 8, 8, 8, 8, 8, 8, 8, 8, 8, 8, 8, 8, 8, 8, 8, 8, 8, 8, 8, 8, 8, 8, 8, 8, 8, 8, 8, 8, 8, 8, 8, 8, 8, 8, 8, 8, 8, 8, 8, 8, 8, 8, 8, 8, 8, 8, 8, 8, 8, 8, 8, 8, 8, 8, 8, 8, 8, 8, 8, 8, 8, 8, 8, 8, 8, 8, 8, 8, 8, 8, 8, 8, 8, 8, 8, 8, 8, 8, 8, 8, 8, 8, 8, 8, 8, 8, 8, 8, 8, 8]) (wrapK .u8 y3.1))))
 else none
noncomputable def w63_c : Code := (Try.f63.body).getD .skip
theorem w63_h : Try.f63.body = some w63_c := by kernel_rfl
theorem w63 (a0 : Int) (r : Int) (h : d63 a0 = some r) : Ab.Fn Try.prog TT 63 [.i .u64 a0] (.i .i64 r) [] := by
 refine fn_pure tok W0 Try.func63 (by kernel_rfl) w63_h (by kernel_rfl) ?_
 intro _ _ _ _ _ _ _ _ _ _ _ _ _ _ _ _ _ _ _ _ _ _ _ _ _ _ _ _ _ _ _ _ _ _ _ _ _ _ _ _ _ E R K hK
 have D := E.D
 clear E
 have S := And.intro D.har (And.intro D.hcmp (And.intro D.hcv (And.intro D.hge0 (And.intro D.hinb (And.intro D.hsbyte (D.hslen))))))
 unfold d63 at h
 cbv
 refine R.cutB (fun p => p) (fun _ _ e => e) h [] (fun p2 => [(0, .i .u64 p2.1), (2, .i .i64 p2.2)]) (fun p2 => []) (by kernel_rfl) (by kernel_rfl) (fun y1 hy hFy1 L hLy1 => ?_) (fun p2 h2 => ?_)
 ·clear h; have h := hy; clear hy; cbv
  refine R.brD h (by first|(simp only [S]<;>rfl)|rfl) ?_ ?_<;>clear h<;>intro h<;>cbv
  ·refine R.needD h (by first|(simp only [S]<;>rfl)|rfl) ?_
   clear h; intro h; cbv
   obtain ⟨s', e, hi⟩ := jn_some (fun p => p) h
   refine hLy1 s' _ _ hi ⟨by kernel_rfl, ?_, ?_, by kernel_rfl, by kernel_rfl⟩<;>cbv<;>(try (subst e;simp only [S,and_self,and_true,true_and]<;>(repeat' apply And.intro)<;>rfl))
  ·obtain ⟨s', e, hi⟩ := jn_some (fun p => p) h
   refine hLy1 s' _ _ hi ⟨by kernel_rfl, ?_, ?_, by kernel_rfl, by kernel_rfl⟩<;>cbv<;>(try (subst e;simp only [S,and_self,and_true,true_and]<;>(repeat' apply And.intro)<;>rfl))
 ·clear h; have h := h2; clear h2; try dsimp only at h
  cbv
  refine R.cutB (fun p => p) (fun _ _ e => e) h [] (fun p4 => [(0, .i .u64 p4.1), (2, .i .i64 p4.2)]) (fun p4 => []) (by kernel_rfl) (by kernel_rfl) (fun y3 hy hFy3 L hLy3 => ?_) (fun p4 h2 => ?_)
  ·clear h; have h := hy; clear hy; cbv
   refine R.brD h (by first|(simp only [S]<;>rfl)|rfl) ?_ ?_<;>clear h<;>intro h<;>cbv
   ·refine R.needD h (by first|(simp only [S]<;>rfl)|rfl) ?_
    clear h; intro h; cbv
    obtain ⟨s', e, hi⟩ := jn_some (fun p => p) h
    refine hLy3 s' _ _ hi ⟨by kernel_rfl, ?_, ?_, by kernel_rfl, by kernel_rfl⟩<;>cbv<;>(try (subst e;simp only [S,and_self,and_true,true_and]<;>(repeat' apply And.intro)<;>rfl))
   ·obtain ⟨s', e, hi⟩ := jn_some (fun p => p) h
    refine hLy3 s' _ _ hi ⟨by kernel_rfl, ?_, ?_, by kernel_rfl, by kernel_rfl⟩<;>cbv<;>(try (subst e;simp only [S,and_self,and_true,true_and]<;>(repeat' apply And.intro)<;>rfl))
  ·clear h; have h := h2; clear h2; try dsimp only at h
   cbv
   refine R.cut' (by kernel_rfl) (by kernel_rfl) ?_
   cbv
   refine R.brD h (by first|(simp only [S]<;>rfl)|rfl) ?_ ?_<;>clear h<;>intro h<;>cbv
   ·refine R.needD h (by first|(simp only [S]<;>rfl)|rfl) ?_
    clear h; intro h; cbv
    refine R.needD h (by first|(simp only [S]<;>rfl)|rfl) ?_
    clear h; intro h; cbv
    have e := ret_some h; clear h
    refine hK _ _ ?_
    cbv
    try (subst e; simp only [S, and_self, and_true, true_and] <;> (repeat' apply And.intro) <;> rfl)
   ·refine R.needD h (by first|(simp only [S]<;>rfl)|rfl) ?_
    clear h; intro h; cbv
    have e := ret_some h; clear h
    refine hK _ _ ?_
    cbv
    try (subst e; simp only [S, and_self, and_true, true_and] <;> (repeat' apply And.intro) <;> rfl)
end Go.Proofs.Ytmofhbedamjblaa
end
section
namespace Go.Proofs.Ytmofhbedamjblaa
open Go.Ab Go.RowKit
set_option maxRecDepth 100000
def lenTab : ByteArray := (ByteArray.mk #[0, 1, 2, 2, 3, 3, 3, 3, 4, 4, 4, 4, 4, 4, 4, 4, 5, 5, 5, 5, 5, 5, 5, 5, 5, 5, 5, 5, 5, 5, 5, 5, 6, 6, 6, 6, 6, 6, 6, 6, 6, 6, 6, 6, 6, 6, 6, 6, 6, 6, 6, 6, 6, 6, 6, 6, 6, 6, 6, 6, 6, 6, 6, 6, 7, 7, 7, 7, 7, 7, 7, 7, 7, 7, 7, 7, 7, 7, 7, 7, 7, 7, 7, 7, 7, 7, 7, 7, 7, 7, 7, 7, 7, 7, 7, 7, 7, 7, 7, 7, 7, 7, 7, 7, 7, 7, 7, 7, 7, 7, 7, 7, 7, 7, 7, 7, 7, 7, 7, 7, 7, 7, 7, 7, 7, 7, 7, 7, 8, 8, 8, 8, 8, 8, 8, 8, 8, 8, 8, 8, 8, 8, 8, 8, 8, 8, 8, 8, 8, 8, 8, 8, 8, 8, 8, 8, 8, 8, 8, 8, 8, 8, 8, 8, 8, 8, 8, 8, 8, 8, 8, 8, 8, 8, 8, 8, 8, 8, 8, 8, 8, 8, 8, 8, 8, 8, 8, 8, 8, 8, 8, 8, 8, 8, 8, 8, 8, 8, 8, 8, 8, 8, 8, 8, 8, 8, 8, 8, 8, 8, 8, 8, 8, 8, 8, 8, 8, 8, 8, 8, 8, 8, 8, 8, 8, 8, 8, 8, 8, 8, 8, 8, 8, 8, 8, 8, 8, 8, 8, 8, 8, 8, 8, 8, 8, 8, 8, 8, 8, 8, 8, 8, 8, 8, 8, 8])
noncomputable def d63q (a0 : Int) : Option (Int) :=
  Option.bind (α := Int × Int) (
    if (cmpLit .geq a0 4294967296) = true then
      if (Ge0 32) then
        some ((arReal .shr .u64 a0 32), 32)
      else none
    else
      some (a0, 0)) fun y1 =>
  Option.bind (α := Int × Int) (
    if (cmpLit .geq y1.1 65536) = true then
      if (Ge0 16) then
        some ((arReal .shr .u64 y1.1 16), (arReal .add .i64 y1.2 16))
      else none
    else
      some (y1.1, y1.2)) fun y3 =>
  if (cmpLit .geq y3.1 256) = true then
    if (Ge0 8) then
      if (Inb (wrapK .u8 (arReal .shr .u64 y3.1 8)) (slenI lenTab)) then
        some (arReal .add .i64 (arReal .add .i64 y3.2 8) (wrapK .i64 (sbyteI lenTab (wrapK .u8 (arReal .shr .u64 y3.1 8)))))
      else none
    else none
  else
    if (Inb (wrapK .u8 y3.1) (slenI lenTab)) then
      some (arReal .add .i64 y3.2 (wrapK .i64 (sbyteI lenTab (wrapK .u8 y3.1))))
    else none
theorem d63_q (a : Int) : d63 a = d63q a := rfl
def Len (a k : Int) : Prop := 0 ≤ k ∧ k ≤ 64 ∧ a < 2 ^ k.toNat ∧ (0 < k → 2 ^ (k.toNat - 1) ≤ a)
theorem lenTab_size : lenTab.size = 256 := by decide +kernel
end Go.Proofs.Ytmofhbedamjblaa
end
section
namespace Go.Proofs.Ytmofhbedamjblaa
open Go.Ab Go.RowKit
set_option maxRecDepth 100000
instance (a k : Int) : Decidable (Len a k) := by unfold Len; infer_instance
theorem tab_all : ∀ x : Fin 256, Len (x.1 : Int) (sbyteI lenTab (x.1 : Int)) ∧ sbyteI lenTab (x.1 : Int) ≤ 8 := by decide +kernel
theorem tab_ok {x : Int} (h0 : 0 ≤ x) (h1 : x < 256) : Inb x (slenI lenTab) ∧ Len x (sbyteI lenTab x) ∧ sbyteI lenTab x ≤ 8 := by
  obtain ⟨n, rfl⟩ := Int.eq_ofNat_of_zero_le h0
  have hn : n < 256 := by omega
  exact ⟨⟨by omega, by rw [slenI_eq, lenTab_size]; omega⟩, tab_all ⟨n, hn⟩⟩
theorem Len.shift {a k : Int} {m : Nat} (h : Len (a / (2 ^ m : Nat)) k) (ha : (2 ^ m : Nat) ≤ a) (hm : k + m ≤ 64) : Len a (k + m) := by
  obtain ⟨k0, k1, k2, k3⟩ := h
  have hp : (0 : Int) < (2 ^ m : Nat) := by exact_mod_cast Nat.pow_pos (by omega)
  obtain ⟨n, rfl⟩ := Int.eq_ofNat_of_zero_le k0
  have hk : 0 < (n : Int) := by
    rcases Nat.eq_zero_or_pos n with e | e
    · subst e
      have : (1 : Int) ≤ a / (2 ^ m : Nat) := (Int.le_ediv_iff_mul_le hp).2 (by omega)
      have k2' : a / (2 ^ m : Nat) < 1 := k2
      omega
    · omega
  have k3 := k3 hk
  have e1 : ((n : Int) + (m : Int)).toNat = n + m := by omega
  refine ⟨by omega, hm, ?_, fun _ => ?_⟩
  · rw [e1]
    have := Int.lt_mul_of_ediv_lt hp k2
    rw [Int.pow_add]; push_cast at this; exact this
  · rw [e1]
    have := (Int.le_ediv_iff_mul_le hp).1 k3
    simp only [Int.toNat_natCast] at this
    rw [show n + m - 1 = (n - 1) + m from by omega, Int.pow_add]; push_cast at this; exact this
theorem wk_u8 (a : Int) : wrapK .u8 a = a % 256 := by simp [wrapK, IntKind.wrap, IntKind.bits, IntKind.signed]
theorem wk_i64 (a : Int) : wrapK .i64 a = (a + 9223372036854775808) % 18446744073709551616 - 9223372036854775808 := by
  simp [wrapK, IntKind.wrap, IntKind.bits, IntKind.signed]; omega
theorem sh_n {a : Int} (n : Nat) (h : n ≤ 64) : arReal .shr .u64 a n = a / (2 ^ n : Nat) := ar_shru (k := .u64) a n h rfl
theorem add_8 {m : Nat} {b : Int} (hm : m ≤ 48) (h0 : 0 ≤ b) (h1 : b ≤ 8) : arReal .add .i64 (arReal .add .i64 (m : Int) 8) (wrapK .i64 b) = b + 8 + m := by
  show wrapK .i64 (wrapK .i64 ((m : Int) + 8) + wrapK .i64 b) = _
  rw [wk_i64, wk_i64, wk_i64]; omega
theorem add_0 {m : Nat} {b : Int} (hm : m ≤ 48) (h0 : 0 ≤ b) (h1 : b ≤ 8) : arReal .add .i64 (m : Int) (wrapK .i64 b) = b + m := by
  show wrapK .i64 ((m : Int) + wrapK .i64 b) = _
  rw [wk_i64, wk_i64]; omega
theorem s63 {a : Int} (ha : U64 a) : ∃ k, d63 a = some k ∧ Len a k := by
  obtain ⟨h0, h1⟩ := ha
  rw [d63_q]
  unfold d63q
  have g32 : Ge0 32 := by unfold Ge0; omega
  have g16 : Ge0 16 := by unfold Ge0; omega
  have g8 : Ge0 8 := by unfold Ge0; omega
  -- the first two steps: a rest, and what was left out
  obtain ⟨y, n, hy, hy0, hy1, hn, hl⟩ : ∃ (y : Int) (n : Nat), (if (cmpLit .geq a 4294967296) = true then (if (Ge0 32) then some ((arReal .shr .u64 a 32), (32 : Int)) else none) else some (a, 0)) = some (y, (n : Int)) ∧ 0 ≤ y ∧ y < 4294967296 ∧ n ≤ 32 ∧ ∀ k, Len y k → k + n ≤ 64 → Len a (k + n) := by
    by_cases h : a ≥ 4294967296
    · rw [if_pos (by simp [cmpLit, h]), if_pos g32, ar_shr32]
      refine ⟨_, 32, rfl, by omega, by omega, by omega, fun k hk hk2 => Len.shift (m := 32) hk (by omega) hk2⟩
    · rw [if_neg (by simp [cmpLit]; omega)]
      exact ⟨a, 0, rfl, h0, by omega, by omega, fun k hk _ => by simpa using hk⟩
  rw [hy]
  simp only [Option.bind_some]
  obtain ⟨z, m, hz, hz0, hz1, hm, hl2⟩ : ∃ (z : Int) (m : Nat), (if (cmpLit .geq y 65536) = true then (if (Ge0 16) then some ((arReal .shr .u64 y 16), (arReal .add .i64 (n : Int) 16)) else none) else some (y, (n : Int))) = some (z, (m : Int)) ∧ 0 ≤ z ∧ z < 65536 ∧ m ≤ 48 ∧ ∀ k, Len z k → k + m ≤ 64 → Len a (k + m) := by
    by_cases h : y ≥ 65536
    · rw [if_pos (by simp [cmpLit, h]), if_pos g16]
      have e : arReal .add .i64 (n : Int) 16 = ((n + 16 : Nat) : Int) := by
        show wrapK .i64 ((n : Int) + 16) = _
        rw [wk_i64]; omega
      have e2 : arReal .shr .u64 y 16 = y / (2 ^ 16 : Nat) := by have := sh_n (a := y) 16 (by omega); simpa using this
      rw [e, e2]
      refine ⟨_, n + 16, rfl, by omega, by omega, by omega, fun k hk hk2 => ?_⟩
      have := hl (k + 16) (Len.shift (m := 16) hk (by omega) (by omega)) (by omega)
      rw [show k + ((n + 16 : Nat) : Int) = k + 16 + n from by omega]; exact this
    · rw [if_neg (by simp [cmpLit]; omega)]
      exact ⟨y, n, rfl, hy0, by omega, by omega, fun k hk hk2 => hl k hk hk2⟩
  rw [hz]
  simp only [Option.bind_some]
  by_cases h : z ≥ 256
  · rw [if_pos (by simp [cmpLit, h]), if_pos g8]
    have e2 : arReal .shr .u64 z 8 = z / (2 ^ 8 : Nat) := by have := sh_n (a := z) 8 (by omega); simpa using this
    rw [e2]
    have e3 : wrapK .u8 (z / (2 ^ 8 : Nat)) = z / (2 ^ 8 : Nat) := by
      rw [wk_u8]; omega
    rw [e3]
    obtain ⟨t1, t2, t3⟩ := tab_ok (x := z / (2 ^ 8 : Nat)) (by omega) (by omega)
    rw [if_pos t1]
    obtain ⟨q0, q1, q2⟩ := id t2
    refine ⟨_, rfl, ?_⟩
    generalize sbyteI lenTab (z / (2 ^ 8 : Nat)) = b at *
    rw [add_8 hm q0 t3]
    exact hl2 (b + 8) (Len.shift (m := 8) t2 (by omega) (by omega)) (by omega)
  · rw [if_neg (by simp [cmpLit]; omega)]
    have e3 : wrapK .u8 z = z := by rw [wk_u8]; omega
    rw [e3]
    obtain ⟨t1, t2, t3⟩ := tab_ok (x := z) (by omega) (by omega)
    rw [if_pos t1]
    obtain ⟨q0, q1, q2⟩ := id t2
    refine ⟨_, rfl, ?_⟩
    generalize sbyteI lenTab z = b at *
    rw [add_0 hm q0 t3]
    exact hl2 b t2 (by omega)
end Go.Proofs.Ytmofhbedamjblaa
end
section
namespace Go.Proofs.Ytmofhbedamjblaa
open Go.Ab Go.RowKit 
set_option maxRecDepth 100000
set_option maxHeartbeats 40000000
noncomputable def d92 (a0 : Int) : Option (Int) :=
 (d63 a0).bind fun x1 =>
 some (arReal .sub .i64 64 x1)
noncomputable def w92_c : Code := (Try.f92.body).getD .skip
theorem w92_h : Try.f92.body = some w92_c := by kernel_rfl
theorem w92 (a0 : Int) (r : Int) (h : d92 a0 = some r) : Ab.Fn Try.prog TT 92 [.i .u64 a0] (.i .i64 r) [] := by
 refine fn_pure tok W0 Try.func92 (by kernel_rfl) w92_h (by kernel_rfl) ?_
 intro _ _ _ _ _ _ _ _ _ _ _ _ _ _ _ _ _ _ _ _ _ _ _ _ _ _ _ _ _ _ _ _ _ _ _ _ _ _ _ _ _ E R K hK
 have D := E.D
 clear E
 unfold d92 at h
 cbv
 refine R.callD h (fun x1 hx1 h2 => ?_)
 clear h; have h := h2; clear h2
 refine R.call' (w63 _ _ hx1) (by first | (simp only [D.har] <;> rfl) | rfl) ?_
 clear hx1; cbv
 have e := ret_some h; clear h
 refine hK _ _ ?_
 cbv
 try (subst e; simp only [D.har, and_self, and_true, true_and] <;> (repeat' apply And.intro) <;> rfl)
noncomputable def d69_b1 (a1 : Int) (a2 : Int) (x1 : Int) (s14 : Int × Int) : Option ((Int × Int) ⊕ (Int)) :=
 Option.bind (α := (Unit) ⊕ (Unit)) (
 if (cmpLit .geq s14.1 4294967296) = true then
 some (.inl ())
 else
 if (cmpLit .gtr (arReal .mul .u64 s14.1 (arReal .and .u64 (arReal .shl .u64 a2 (wrapK .u64 x1)) 4294967295)) (arReal .add .u64 (arReal .mul .u64 4294967296 s14.2) (arReal .shr .u64 (arReal .shl .u64 a1 (wrapK .u64 x1)) 32))) = true then
 some (.inl ())
 else
 some (.inr ())) fun y19 =>
 match y19 with
 | .inl p20 =>
 if (cmpLit .geq (arReal .add .u64 s14.2 (arReal .shr .u64 (arReal .shl .u64 a2 (wrapK .u64 x1)) 32)) 4294967296) = true then
 some (.inr (arReal .sub .u64 s14.1 1))
 else
 some (.inl ((arReal .sub .u64 s14.1 1), (arReal .add .u64 s14.2 (arReal .shr .u64 (arReal .shl .u64 a2 (wrapK .u64 x1)) 32))))
 | .inr y19r0 =>
 some (.inr s14.1)
noncomputable def d69_b2 (a1 : Int) (a2 : Int) (x1 : Int) (s36 : Int × Int) : Option ((Int × Int) ⊕ (Int)) :=
 Option.bind (α := (Unit) ⊕ (Unit)) (
 if (cmpLit .geq s36.2 4294967296) = true then
 some (.inl ())
 else
 if (cmpLit .gtr (arReal .mul .u64 s36.2 (arReal .and .u64 (arReal .shl .u64 a2 (wrapK .u64 x1)) 4294967295)) (arReal .add .u64 (arReal .mul .u64 4294967296 s36.1) (arReal .and .u64 (arReal .shl .u64 a1 (wrapK .u64 x1)) 4294967295))) = true then
 some (.inl ())
 else
 some (.inr ())) fun y41 =>
 match y41 with
 | .inl p42 =>
 if (cmpLit .geq (arReal .add .u64 s36.1 (arReal .shr .u64 (arReal .shl .u64 a2 (wrapK .u64 x1)) 32)) 4294967296) = true then
 some (.inr (arReal .sub .u64 s36.2 1))
 else
 some (.inl ((arReal .add .u64 s36.1 (arReal .shr .u64 (arReal .shl .u64 a2 (wrapK .u64 x1)) 32)), (arReal .sub .u64 s36.2 1)))
 | .inr y41r0 =>
 some (.inr s36.2)
noncomputable def d69 (a0 : Int) (a1 : Int) (a2 : Int) : Option (Int × Int) :=
 if (cmpLit .eql a2 0) = true then
 none
 else
 if (cmpLit .leq a2 a0) = true then
 none
 else
 if (cmpLit .eql a0 0) = true then
 if (Ne0 a2) then
 if (Ne0 a2) then
 some ((arReal .quo .u64 a1 a2), (arReal .rem .u64 a1 a2))
 else none
 else none
 else
 (d92 a2).bind fun x1 =>
 if (Ge0 (wrapK .u64 x1)) then
 if (Ge0 32) then
 if (Ge0 (wrapK .u64 x1)) then
 if (Ge0 (arReal .sub .u64 64 (wrapK .u64 x1))) then
 if (Ge0 (wrapK .u64 x1)) then
 if (Ge0 32) then
 if (Ne0 (arReal .shr .u64 (arReal .shl .u64 a2 (wrapK .u64 x1)) 32)) then
 Option.bind (α := Int) (
 (iter (d69_b1 a1 a2 x1) ((arReal .quo .u64 (arReal .or .u64 (arReal .shl .u64 a0 (wrapK .u64 x1)) (arReal .shr .u64 a1 (arReal .sub .u64 64 (wrapK .u64 x1)))) (arReal .shr .u64 (arReal .shl .u64 a2 (wrapK .u64 x1)) 32)), (arReal .sub .u64 (arReal .or .u64 (arReal .shl .u64 a0 (wrapK .u64 x1)) (arReal .shr .u64 a1 (arReal .sub .u64 64 (wrapK .u64 x1)))) (arReal .mul .u64 (arReal .quo .u64 (arReal .or .u64 (arReal .shl .u64 a0 (wrapK .u64 x1)) (arReal .shr .u64 a1 (arReal .sub .u64 64 (wrapK .u64 x1)))) (arReal .shr .u64 (arReal .shl .u64 a2 (wrapK .u64 x1)) 32)) (arReal .shr .u64 (arReal .shl .u64 a2 (wrapK .u64 x1)) 32))))).bind fun y18 =>
 some y18) fun y10 =>
 if (Ne0 (arReal .shr .u64 (arReal .shl .u64 a2 (wrapK .u64 x1)) 32)) then
 Option.bind (α := Int) (
 (iter (d69_b2 a1 a2 x1) ((arReal .sub .u64 (arReal .sub .u64 (arReal .add .u64 (arReal .mul .u64 (arReal .or .u64 (arReal .shl .u64 a0 (wrapK .u64 x1)) (arReal .shr .u64 a1 (arReal .sub .u64 64 (wrapK .u64 x1)))) 4294967296) (arReal .shr .u64 (arReal .shl .u64 a1 (wrapK .u64 x1)) 32)) (arReal .mul .u64 y10 (arReal .shl .u64 a2 (wrapK .u64 x1)))) (arReal .mul .u64 (arReal .quo .u64 (arReal .sub .u64 (arReal .add .u64 (arReal .mul .u64 (arReal .or .u64 (arReal .shl .u64 a0 (wrapK .u64 x1)) (arReal .shr .u64 a1 (arReal .sub .u64 64 (wrapK .u64 x1)))) 4294967296) (arReal .shr .u64 (arReal .shl .u64 a1 (wrapK .u64 x1)) 32)) (arReal .mul .u64 y10 (arReal .shl .u64 a2 (wrapK .u64 x1)))) (arReal .shr .u64 (arReal .shl .u64 a2 (wrapK .u64 x1)) 32)) (arReal .shr .u64 (arReal .shl .u64 a2 (wrapK .u64 x1)) 32))), (arReal .quo .u64 (arReal .sub .u64 (arReal .add .u64 (arReal .mul .u64 (arReal .or .u64 (arReal .shl .u64 a0 (wrapK .u64 x1)) (arReal .shr .u64 a1 (arReal .sub .u64 64 (wrapK .u64 x1)))) 4294967296) (arReal .shr .u64 (arReal .shl .u64 a1 (wrapK .u64 x1)) 32)) (arReal .mul .u64 y10 (arReal .shl .u64 a2 (wrapK .u64 x1)))) (arReal .shr .u64 (arReal .shl .u64 a2 (wrapK .u64 x1)) 32)))).bind fun y40 =>
 some y40) fun y32 =>
 if (Ge0 (wrapK .u64 x1)) then
 some ((arReal .add .u64 (arReal .mul .u64 y10 4294967296) y32), (arReal .shr .u64 (arReal .sub .u64 (arReal .add .u64 (arReal .mul .u64 (arReal .sub .u64 (arReal .add .u64 (arReal .mul .u64 (arReal .or .u64 (arReal .shl .u64 a0 (wrapK .u64 x1)) (arReal .shr .u64 a1 (arReal .sub .u64 64 (wrapK .u64 x1)))) 4294967296) (arReal .shr .u64 (arReal .shl .u64 a1 (wrapK .u64 x1)) 32)) (arReal .mul .u64 y10 (arReal .shl .u64 a2 (wrapK .u64 x1)))) 4294967296) (arReal .and .u64 (arReal .shl .u64 a1 (wrapK .u64 x1)) 4294967295)) (arReal .mul .u64 y32 (arReal .shl .u64 a2 (wrapK .u64 x1)))) (wrapK .u64 x1)))
 else none
 else none
 else none
 else none
 else none
 else none
 else none
 else none
 else none
noncomputable def w69_c : Code := (Try.f69.body).getD .skip
theorem w69_h : Try.f69.body = some w69_c := by kernel_rfl
theorem w69 (a0 : Int) (a1 : Int) (a2 : Int) (r : Int × Int) (h : d69 a0 a1 a2 = some r) : Ab.Fn Try.prog TT 69 [.i .u64 a0, .i .u64 a1, .i .u64 a2] (.tup [.i .u64 r.1, .i .u64 r.2]) [] := by
 refine fn_pure tok (fun r => match r with | 6 => [[],[],[0,1],[],[],[3,4],[0,1,2],[0,1,2,3,4,5,6]] | _ => []) Try.func69 (by kernel_rfl) w69_h (by kernel_rfl) ?_
 intro _ _ _ _ _ _ _ _ _ _ _ _ _ _ _ _ _ _ _ _ _ _ _ _ _ _ _ _ _ _ _ _ _ _ _ _ _ _ _ _ _ E R K hK
 have D := E.D
 clear E
 have S := And.intro D.har (And.intro D.hcmp (And.intro D.hcv (And.intro D.hge0 (D.hne0))))
 unfold d69 at h
 cbv
 refine R.cut' (by kernel_rfl) (by kernel_rfl) ?_
 cbv
 refine R.brD h (by first|(simp only [S]<;>rfl)|rfl) ?_ ?_<;>clear h<;>intro h<;>cbv
 ·exact (none_some h).elim
 ·as_aux_lemma =>
  refine R.cut' (by kernel_rfl) (by kernel_rfl) ?_
  cbv
  refine R.brD h (by first|(simp only [S]<;>rfl)|rfl) ?_ ?_<;>clear h<;>intro h<;>cbv
  ·exact (none_some h).elim
  ·as_aux_lemma =>
   refine R.cut' (by kernel_rfl) (by kernel_rfl) ?_
   cbv
   refine R.brD h (by first|(simp only [S]<;>rfl)|rfl) ?_ ?_<;>clear h<;>intro h<;>cbv
   ·refine R.needD h (by first|(simp only [S]<;>rfl)|rfl) ?_
    clear h; intro h; cbv
    refine R.needD h (by first|(simp only [S]<;>rfl)|rfl) ?_
    clear h; intro h; cbv
    have e := ret_some h; clear h
    refine hK _ _ ?_
    cbv
    try (subst e; simp only [S, and_self, and_true, true_and] <;> (repeat' apply And.intro) <;> rfl)
   ·as_aux_lemma =>
    refine R.callD h (fun x1 hx1 h2 => ?_)
    clear h; have h := h2; clear h2
    refine R.call' (w92 _ _ hx1) (by first|(simp only [S]<;>rfl)|rfl) ?_
    clear hx1; cbv
    refine R.needD h (by first|(simp only [S]<;>rfl)|rfl) ?_
    clear h; intro h; cbv
    refine R.needD h (by first|(simp only [S]<;>rfl)|rfl) ?_
    clear h; intro h; cbv
    refine R.needD h (by first|(simp only [S]<;>rfl)|rfl) ?_
    clear h; intro h; cbv
    refine R.needD h (by first|(simp only [S]<;>rfl)|rfl) ?_
    clear h; intro h; cbv
    refine R.needD h (by first|(simp only [S]<;>rfl)|rfl) ?_
    clear h; intro h; cbv
    refine R.needD h (by first|(simp only [S]<;>rfl)|rfl) ?_
    clear h; intro h; cbv
    refine R.needD h (by first|(simp only [S]<;>rfl)|rfl) ?_
    clear h; intro h; cbv
    refine R.cutB (fun p => p) (fun _ _ e => e) h [] (fun p23 => [(15, .i .u64 p23)]) (fun p23 => []) (by kernel_rfl) (by kernel_rfl) (fun y10 hy hFy10 L hLy10 => ?_) (fun p23 h2 => ?_)
    ·clear h; have h := hy; clear hy; cbv
     refine R.loopD h (fun s0 y18 e0 hi hFs14 => ?_)
     clear h
     refine R.loopI hi [] (fun s14 => [(15, .i .u64 s14.1), (16, .i .u64 s14.2)]) (fun s14 => []) ⟨by kernel_rfl, ?_, ?_, by kernel_rfl, by kernel_rfl⟩ (by kernel_rfl) ?_
     ·cbv; try (subst e0; simp only [S, and_self, and_true, true_and] <;> (repeat' apply And.intro) <;> rfl)
     ·cbv; try (subst e0; simp only [S, and_self, and_true, true_and] <;> (repeat' apply And.intro) <;> rfl)
     clear hi e0
     intro s14 m y' hy hins14 houts14 L hLs14
     have h := hy; clear hy; unfold d69_b1 at h
     cbv
     refine R.cutB Sum.inl (fun _ _ e => Sum.inl.inj e) h [] (fun p20 => []) (fun p20 => []) (by kernel_rfl) (by kernel_rfl) (fun y19 hy hFy19 L hLy19 => ?_) (fun p20 h2 => ?_)
     ·clear h; have h := hy; clear hy; cbv
      refine R.cut' (by kernel_rfl) (by kernel_rfl) ?_
      cbv
      refine R.brD h (by first|(simp only [S]<;>rfl)|rfl) ?_ ?_<;>clear h<;>intro h<;>cbv
      ·obtain ⟨s', e, hi⟩ := jn_some Sum.inl h
       refine hLy19 s' _ _ hi ⟨by kernel_rfl, ?_, ?_, by kernel_rfl, by kernel_rfl⟩<;>cbv<;>(try (subst e;simp only [S,and_self,and_true,true_and]<;>(repeat' apply And.intro)<;>rfl))
      ·refine R.brD h (by first|(simp only [S]<;>rfl)|rfl) ?_ ?_<;>clear h<;>intro h<;>cbv
       ·obtain ⟨s', e, hi⟩ := jn_some Sum.inl h
        refine hLy19 s' _ _ hi ⟨by kernel_rfl, ?_, ?_, by kernel_rfl, by kernel_rfl⟩<;>cbv<;>(try (subst e;simp only [S,and_self,and_true,true_and]<;>(repeat' apply And.intro)<;>rfl))
       ·have e := ret_some h; clear h
        have h := hFy19; rw [e] at h; clear e; try dsimp only at h
        cbv
        have e := inr_some h houts14; clear h
        have h := hFs14; rw [e] at h; clear e; try dsimp only at h
        cbv
        obtain ⟨s', e, hi⟩ := jn_some (fun p => p) h
        refine hLy10 s' _ _ hi ⟨by kernel_rfl, ?_, ?_, by kernel_rfl, by kernel_rfl⟩<;>cbv<;>(try (subst e;simp only [S,and_self,and_true,true_and]<;>(repeat' apply And.intro)<;>rfl))
     ·clear h; have h := h2; clear h2; try dsimp only at h
      cbv
      refine R.brD h (by first|(simp only [S]<;>rfl)|rfl) ?_ ?_<;>clear h<;>intro h<;>cbv
      ·have e := inr_some h houts14; clear h
       have h := hFs14; rw [e] at h; clear e; try dsimp only at h
       cbv
       obtain ⟨s', e, hi⟩ := jn_some (fun p => p) h
       refine hLy10 s' _ _ hi ⟨by kernel_rfl, ?_, ?_, by kernel_rfl, by kernel_rfl⟩<;>cbv<;>(try (subst e;simp only [S,and_self,and_true,true_and]<;>(repeat' apply And.intro)<;>rfl))
      ·obtain ⟨s', e, hi⟩ := inl_some h hins14
       refine hLs14 s' _ _ hi ⟨by kernel_rfl, ?_, ?_, by kernel_rfl, by kernel_rfl⟩<;>cbv<;>(try (subst e;simp only [S,and_self,and_true,true_and]<;>(repeat' apply And.intro)<;>rfl))
    ·clear h; have h := h2; clear h2; try dsimp only at h
     cbv
     refine R.needD h (by first|(simp only [S]<;>rfl)|rfl) ?_
     clear h; intro h; cbv
     refine R.cutB (fun p => p) (fun _ _ e => e) h [] (fun p45 => [(18, .i .u64 p45)]) (fun p45 => []) (by kernel_rfl) (by kernel_rfl) (fun y32 hy hFy32 L hLy32 => ?_) (fun p45 h2 => ?_)
     ·clear h; have h := hy; clear hy; cbv
      refine R.loopD h (fun s0 y40 e0 hi hFs36 => ?_)
      clear h
      refine R.loopI hi [] (fun s36 => [(16, .i .u64 s36.1), (18, .i .u64 s36.2)]) (fun s36 => []) ⟨by kernel_rfl, ?_, ?_, by kernel_rfl, by kernel_rfl⟩ (by kernel_rfl) ?_
      ·cbv; try (subst e0; simp only [S, and_self, and_true, true_and] <;> (repeat' apply And.intro) <;> rfl)
      ·cbv; try (subst e0; simp only [S, and_self, and_true, true_and] <;> (repeat' apply And.intro) <;> rfl)
      clear hi e0
      intro s36 m y' hy hins36 houts36 L hLs36
      have h := hy; clear hy; unfold d69_b2 at h
      cbv
      refine R.cutB Sum.inl (fun _ _ e => Sum.inl.inj e) h [] (fun p42 => []) (fun p42 => []) (by kernel_rfl) (by kernel_rfl) (fun y41 hy hFy41 L hLy41 => ?_) (fun p42 h2 => ?_)
      ·clear h; have h := hy; clear hy; cbv
       refine R.cut' (by kernel_rfl) (by kernel_rfl) ?_
       cbv
       refine R.brD h (by first|(simp only [S]<;>rfl)|rfl) ?_ ?_<;>clear h<;>intro h<;>cbv
       ·obtain ⟨s', e, hi⟩ := jn_some Sum.inl h
        refine hLy41 s' _ _ hi ⟨by kernel_rfl, ?_, ?_, by kernel_rfl, by kernel_rfl⟩<;>cbv<;>(try (subst e;simp only [S,and_self,and_true,true_and]<;>(repeat' apply And.intro)<;>rfl))
       ·refine R.brD h (by first|(simp only [S]<;>rfl)|rfl) ?_ ?_<;>clear h<;>intro h<;>cbv
        ·obtain ⟨s', e, hi⟩ := jn_some Sum.inl h
         refine hLy41 s' _ _ hi ⟨by kernel_rfl, ?_, ?_, by kernel_rfl, by kernel_rfl⟩<;>cbv<;>(try (subst e;simp only [S,and_self,and_true,true_and]<;>(repeat' apply And.intro)<;>rfl))
        ·have e := ret_some h; clear h
         have h := hFy41; rw [e] at h; clear e; try dsimp only at h
         cbv
         have e := inr_some h houts36; clear h
         have h := hFs36; rw [e] at h; clear e; try dsimp only at h
         cbv
         obtain ⟨s', e, hi⟩ := jn_some (fun p => p) h
         refine hLy32 s' _ _ hi ⟨by kernel_rfl, ?_, ?_, by kernel_rfl, by kernel_rfl⟩<;>cbv<;>(try (subst e;simp only [S,and_self,and_true,true_and]<;>(repeat' apply And.intro)<;>rfl))
      ·clear h; have h := h2; clear h2; try dsimp only at h
       cbv
       refine R.brD h (by first|(simp only [S]<;>rfl)|rfl) ?_ ?_<;>clear h<;>intro h<;>cbv
       ·have e := inr_some h houts36; clear h
        have h := hFs36; rw [e] at h; clear e; try dsimp only at h
        cbv
        obtain ⟨s', e, hi⟩ := jn_some (fun p => p) h
        refine hLy32 s' _ _ hi ⟨by kernel_rfl, ?_, ?_, by kernel_rfl, by kernel_rfl⟩<;>cbv<;>(try (subst e;simp only [S,and_self,and_true,true_and]<;>(repeat' apply And.intro)<;>rfl))
       ·obtain ⟨s', e, hi⟩ := inl_some h hins36
        refine hLs36 s' _ _ hi ⟨by kernel_rfl, ?_, ?_, by kernel_rfl, by kernel_rfl⟩<;>cbv<;>(try (subst e;simp only [S,and_self,and_true,true_and]<;>(repeat' apply And.intro)<;>rfl))
     ·clear h; have h := h2; clear h2; try dsimp only at h
      cbv
      refine R.needD h (by first|(simp only [S]<;>rfl)|rfl) ?_
      clear h; intro h; cbv
      have e := ret_some h; clear h
      refine hK _ _ ?_
      cbv
      try (subst e; simp only [S, and_self, and_true, true_and] <;> (repeat' apply And.intro) <;> rfl)
noncomputable def d64_b1 (a0 : List V) (a1 : Int) (s10 : Int) : Option ((Int) ⊕ (Int)) :=
 if (Inb 0 (lenI a0)) then
 (d35 (gI a0 0 0) (arReal .add .i64 s10 1)).bind fun x15 =>
 if (cmpLit .geq a1 x15) = true then
 some (.inl (arReal .add .i64 s10 1))
 else
 some (.inr s10)
 else none
noncomputable def d64 (a0 : List V) (a1 : Int) : Option (Int) :=
 if (Inb 1 (lenI a0)) then
 Option.bind (α := Int) (
 (iter (d64_b1 a0 a1) (gI a0 1 0)).bind fun y13 =>
 some y13) fun y7 =>
 if (Inb 0 (lenI a0)) then
 (d35 (gI a0 0 0) y7).bind fun x18 =>
 if (Inb 3 (lenI a0)) then
 (d67 (wrapK .u64 (arReal .sub .i64 a1 x18)) (wrapK .u64 (gI a0 3 0))).bind fun x19 =>
 if (Inb 0 (lenI a0)) then
 (d35 (gI a0 0 0) (arReal .add .i64 y7 1)).bind fun x20 =>
 (d69 x19.1 x19.2 (wrapK .u64 (arReal .sub .i64 x20 x18))).bind fun x21 =>
 if (Inb 1 (lenI a0)) then
 if (Inb 3 (lenI a0)) then
 some (arReal .add .i64 (arReal .add .i64 1 (arReal .mul .i64 (arReal .sub .i64 y7 (gI a0 1 0)) (gI a0 3 0))) (wrapK .i64 x21.1))
 else none
 else none
 else none
 else none
 else none
 else none
noncomputable def w64_c : Code := (Try.f64.body).getD .skip
theorem w64_h : Try.f64.body = some w64_c := by kernel_rfl
theorem w64 (a0 : List V) (a1 : Int) (r : Int) (h : d64 a0 a1 = some r) : Ab.Fn Try.prog TT 64 [.sl 2 a0, .i .i64 a1] (.i .i64 r) [] := by
 refine fn_pure tok (fun r => match r with | 7 => [[],[],[1],[1,2],[0,1,2,3],[],[5],[5,6],[0,1,2,3,4,5,6,7],[0,1,2,3,4,5,6,7,8],[],[10],[0,1,2,3,4,5,6,7,8,9,10,11],[0,1,2,3,4,5,6,7,8,9,10,11,12]] | _ => []) Try.func64 (by kernel_rfl) w64_h (by kernel_rfl) ?_
 intro _ _ _ _ _ _ _ _ _ _ _ _ _ _ _ _ _ _ _ _ _ _ _ _ _ _ _ _ _ _ _ _ _ _ _ _ _ _ _ _ _ E R K hK
 have D := E.D
 clear E
 have S := And.intro D.har (And.intro D.hcmp (And.intro D.hcv (And.intro D.hgi (And.intro D.hinb (D.hlen)))))
 unfold d64 at h
 cbv
 refine R.needD h (by first|(simp only [S]<;>rfl)|rfl) ?_
 clear h; intro h; cbv
 refine R.cutB (fun p => p) (fun _ _ e => e) h [] (fun p17 => [(5, .i .i64 p17)]) (fun p17 => []) (by kernel_rfl) (by kernel_rfl) (fun y7 hy hFy7 L hLy7 => ?_) (fun p17 h2 => ?_)
 ·clear h; have h := hy; clear hy; cbv
  refine R.loopD h (fun s0 y13 e0 hi hFs10 => ?_)
  clear h
  refine R.loopI hi [] (fun s10 => [(5, .i .i64 s10)]) (fun s10 => []) ⟨by kernel_rfl, ?_, ?_, by kernel_rfl, by kernel_rfl⟩ (by kernel_rfl) ?_
  ·cbv; try (subst e0; simp only [S, and_self, and_true, true_and] <;> (repeat' apply And.intro) <;> rfl)
  ·cbv; try (subst e0; simp only [S, and_self, and_true, true_and] <;> (repeat' apply And.intro) <;> rfl)
  clear hi e0
  intro s10 m y' hy hins10 houts10 L hLs10
  have h := hy; clear hy; unfold d64_b1 at h
  cbv
  refine R.cut' (by kernel_rfl) (by kernel_rfl) ?_
  cbv
  refine R.needD h (by first|(simp only [S]<;>rfl)|rfl) ?_
  clear h; intro h; cbv
  refine R.callD h (fun x15 hx15 h2 => ?_)
  clear h; have h := h2; clear h2
  refine R.call' (w35 _ _ _ hx15) (by first|(simp only [S]<;>rfl)|rfl) ?_
  clear hx15; cbv
  refine R.brD h (by first|(simp only [S]<;>rfl)|rfl) ?_ ?_<;>clear h<;>intro h<;>cbv
  ·obtain ⟨s', e, hi⟩ := inl_some h hins10
   refine hLs10 s' _ _ hi ⟨by kernel_rfl, ?_, ?_, by kernel_rfl, by kernel_rfl⟩<;>cbv<;>(try (subst e;simp only [S,and_self,and_true,true_and]<;>(repeat' apply And.intro)<;>rfl))
  ·have e := inr_some h houts10; clear h
   have h := hFs10; rw [e] at h; clear e; try dsimp only at h
   cbv
   obtain ⟨s', e, hi⟩ := jn_some (fun p => p) h
   refine hLy7 s' _ _ hi ⟨by kernel_rfl, ?_, ?_, by kernel_rfl, by kernel_rfl⟩<;>cbv<;>(try (subst e;simp only [S,and_self,and_true,true_and]<;>(repeat' apply And.intro)<;>rfl))
 ·clear h; have h := h2; clear h2; try dsimp only at h
  cbv
  refine R.needD h (by first|(simp only [S]<;>rfl)|rfl) ?_
  clear h; intro h; cbv
  refine R.callD h (fun x18 hx18 h2 => ?_)
  clear h; have h := h2; clear h2
  refine R.call' (w35 _ _ _ hx18) (by first|(simp only [S]<;>rfl)|rfl) ?_
  clear hx18; cbv
  refine R.needD h (by first|(simp only [S]<;>rfl)|rfl) ?_
  clear h; intro h; cbv
  refine R.callD h (fun x19 hx19 h2 => ?_)
  clear h; have h := h2; clear h2
  refine R.call' (w67 _ _ _ hx19) (by first|(simp only [S]<;>rfl)|rfl) ?_
  clear hx19; cbv
  refine R.needD h (by first|(simp only [S]<;>rfl)|rfl) ?_
  clear h; intro h; cbv
  refine R.callD h (fun x20 hx20 h2 => ?_)
  clear h; have h := h2; clear h2
  refine R.call' (w35 _ _ _ hx20) (by first|(simp only [S]<;>rfl)|rfl) ?_
  clear hx20; cbv
  refine R.callD h (fun x21 hx21 h2 => ?_)
  clear h; have h := h2; clear h2
  refine R.call' (w69 _ _ _ _ hx21) (by first|(simp only [S]<;>rfl)|rfl) ?_
  clear hx21; cbv
  refine R.needD h (by first|(simp only [S]<;>rfl)|rfl) ?_
  clear h; intro h; cbv
  refine R.needD h (by first|(simp only [S]<;>rfl)|rfl) ?_
  clear h; intro h; cbv
  have e := ret_some h; clear h
  refine hK _ _ ?_
  cbv
  try (subst e; simp only [S, and_self, and_true, true_and] <;> (repeat' apply And.intro) <;> rfl)
end Go.Proofs.Ytmofhbedamjblaa
end
section
namespace Go.Proofs.Ytmofhbedamjblaa
open Go.Ab Go.RowKit
set_option maxRecDepth 100000
theorem c_eql (a b : Int) : cmpLit .eql a b = decide (a = b) := by
  show (a == b) = _
  by_cases h : a = b <;> simp [h]
theorem c_neq (a b : Int) : cmpLit .neq a b = decide (a ≠ b) := by
  show (a != b) = _
  by_cases h : a = b <;> simp [h]
theorem c_lss (a b : Int) : cmpLit .lss a b = decide (a < b) := (rfl)
theorem c_leq (a b : Int) : cmpLit .leq a b = decide (a ≤ b) := (rfl)
theorem c_gtr (a b : Int) : cmpLit .gtr a b = decide (a > b) := (rfl)
theorem c_geq (a b : Int) : cmpLit .geq a b = decide (a ≥ b) := (rfl)
theorem notB_dec (p : Prop) [i : Decidable p] : notB' (decide p) = decide (¬ p) := by
  unfold notB'
  by_cases h : p <;> simp [h]
theorem bnd1 {α β : Type} {x : Option α} {a : α} {f : α → Option β} {r : Option β} (h : x = some a) (h2 : f a = r) : x.bind f = r := by
  rw [h]; exact h2
theorem dT {p : Prop} {i : Decidable p} (h : p) : @decide p i = true := decide_eq_true h
theorem dF {p : Prop} {i : Decidable p} (h : ¬ p) : @decide p i = false := decide_eq_false h
theorem dif1 {α : Type} {p : Prop} [Decidable p] {x y r : α} (h : p) (h2 : x = r) : (if p then x else y) = r := by rw [if_pos h]; exact h2
theorem dif0 {α : Type} {p : Prop} [Decidable p] {x y r : α} (h : ¬ p) (h2 : y = r) : (if p then x else y) = r := by rw [if_neg h]; exact h2
theorem ar_subu' {a b : Int} (h : U64 (a - b)) : arReal .sub .u64 a b = a - b := wk_u h
theorem ar_quou {a b : Int} (ha : 0 ≤ a) (ha2 : a < 18446744073709551616) (hb : 0 < b) : arReal .quo .u64 a b = a / b := by
  show wrapK .u64 (a.tdiv b) = _
  rw [Int.tdiv_eq_ediv_of_nonneg ha]
  have h1 : 0 ≤ a / b := Int.ediv_nonneg ha (by omega)
  have h2 : a / b ≤ a := Int.ediv_le_self _ ha
  exact wk_u ⟨h1, by omega⟩
theorem ar_remu {a b : Int} (ha : 0 ≤ a) (ha2 : a < 18446744073709551616) (hb : 0 < b) : arReal .rem .u64 a b = a % b := by
  show a.tmod b = _
  rw [Int.tmod_eq_emod_of_nonneg ha]
theorem ar_shlu (a : Int) (n : Nat) (h : n ≤ 64) : arReal .shl .u64 a n = (a * (2 ^ n : Nat)) % 18446744073709551616 := by
  simp only [arReal]
  rw [show min ((n : Int)).toNat IntKind.u64.bits = n from by
    show min ((n : Int)).toNat 64 = n
    simp; omega]
  show wrapK .u64 _ = _
  rw [wk_u64]
  push_cast; rfl
theorem ar_oru {a b : Int} {n : Nat} (ha : 0 ≤ a) (hb : 0 ≤ b) (hn : n ≤ 64) (hb2 : b < (2 ^ n : Nat)) (h : a * (2 ^ n : Nat) + b < 18446744073709551616) : arReal .or .u64 (a * (2 ^ n : Nat)) b = a * (2 ^ n : Nat) + b := by
  obtain ⟨x, rfl⟩ := Int.eq_ofNat_of_zero_le ha
  obtain ⟨y, rfl⟩ := Int.eq_ofNat_of_zero_le hb
  have hx : ((x : Int) * (2 ^ n : Nat)) = ((x * 2 ^ n : Nat) : Int) := by push_cast; rfl
  have hy : y < 2 ^ n := by exact_mod_cast hb2
  have hz : x * 2 ^ n + y < 2 ^ 64 := by
    have : ((x * 2 ^ n + y : Nat) : Int) < 18446744073709551616 := by push_cast; push_cast at h; exact h
    have e : (18446744073709551616 : Int) = ((2 ^ 64 : Nat) : Int) := by decide
    rw [e] at this; exact_mod_cast this
  simp only [arReal]
  show wrapK .u64 ((BitVec.ofInt 64 ((x : Int) * (2 ^ n : Nat)) ||| BitVec.ofInt 64 (y : Int)).toNat : Int) = _
  rw [hx, BitVec.ofInt_natCast, BitVec.ofInt_natCast]
  have : (BitVec.ofNat 64 (x * 2 ^ n) ||| BitVec.ofNat 64 y).toNat = x * 2 ^ n + y := by
    rw [BitVec.toNat_or, BitVec.toNat_ofNat, BitVec.toNat_ofNat, Nat.mod_eq_of_lt (by omega), Nat.mod_eq_of_lt (by omega)]
    have := Nat.two_pow_add_eq_or_of_lt hy x
    rw [Nat.mul_comm x, ← this]
  have hz' : ((x * 2 ^ n + y : Nat) : Int) < 18446744073709551616 := by
    have e : (18446744073709551616 : Int) = ((2 ^ 64 : Nat) : Int) := by decide
    rw [e]; exact Int.ofNat_lt.2 hz
  rw [this, wk_u ⟨Int.natCast_nonneg _, hz'⟩]
  push_cast; rfl
theorem digit {S : Type} (f : S → Option (S ⊕ Int)) (mk : Int → Int → S) {y1 y0 un u1 : Int} (h1 : 2147483648 ≤ y1) (h2 : y1 < 4294967296) (h3 : 0 ≤ y0) (h4 : y0 < 4294967296) (h5 : 0 ≤ u1) (h6 : u1 < 4294967296) (h7 : 0 ≤ un) (h8 : un < y1 * 4294967296 + y0)
    (hf : ∀ q r : Int, 0 ≤ q → q ≤ 8589934592 → 0 ≤ r → r < 4294967296 → f (mk q r) = if 4294967296 ≤ q ∨ q * y0 > 4294967296 * r + u1 then (if 4294967296 ≤ r + y1 then some (.inr (q - 1)) else some (.inl (mk (q - 1) (r + y1)))) else some (.inr q)) :
    iter f (mk (un / y1) (un - un / y1 * y1)) = some ((un * 4294967296 + u1) / (y1 * 4294967296 + y0)) := by
  generalize hY : y1 * 4294967296 + y0 = Y at *
  generalize hN : un * 4294967296 + u1 = N at *
  have hY0 : 0 < Y := by omega
  have hfl : N / Y < 4294967296 := Int.ediv_lt_of_lt_mul hY0 (by omega)
  have hfl0 : 0 ≤ N / Y := Int.ediv_nonneg (by omega) (by omega)
  have key : ∀ q r : Int, q * y1 + r = un → N - q * Y = r * 4294967296 + u1 - q * y0 := by
    intro q r h
    have : q * Y = q * y1 * 4294967296 + q * y0 := by rw [← hY]; grind
    omega
  suffices H : ∀ n : Nat, ∀ q r : Int, q.toNat = n → 0 ≤ q → q ≤ 8589934592 → 0 ≤ r → r < 4294967296 → q * y1 + r = un → N / Y ≤ q → iter f (mk q r) = some (N / Y) by
    have hq0 : 0 ≤ un / y1 := Int.ediv_nonneg h7 (by omega)
    have hd := Int.emod_add_mul_ediv un y1
    have hm0 := Int.emod_nonneg un (show y1 ≠ 0 by omega)
    have hm1 := Int.emod_lt_of_pos un (show 0 < y1 by omega)
    have e : un / y1 * y1 = y1 * (un / y1) := Int.mul_comm _ _
    refine H _ _ _ rfl hq0 ?_ (by omega) (by omega) (by omega) ?_
    · have : un / y1 < 8589934593 := Int.ediv_lt_of_lt_mul (by omega) (by omega)
      omega
    · have hk := key (un / y1) (un - un / y1 * y1) (by omega)
      have : N / Y < un / y1 + 1 := by
        refine Int.ediv_lt_of_lt_mul hY0 ?_
        rw [Int.add_mul, Int.one_mul]
        have : 0 ≤ un / y1 * y0 := Int.mul_nonneg hq0 h3
        omega
      omega
  intro n
  induction n with
  | zero =>
    intro q r hn hq0 hq1 hr0 hr1 hun hle
    obtain rfl : q = 0 := by omega
    refine iter_inr ?_
    rw [hf 0 r hq0 hq1 hr0 hr1, if_neg (by omega)]
    rw [show N / Y = 0 from by omega]
  | succ n ih =>
    intro q r hn hq0 hq1 hr0 hr1 hun hle
    have hk := key q r hun
    by_cases hc : 4294967296 ≤ q ∨ q * y0 > 4294967296 * r + u1
    · have hle2 : N / Y ≤ q - 1 := by
        rcases hc with hc | hc
        · omega
        · have : N / Y < q := Int.ediv_lt_of_lt_mul hY0 (by omega)
          omega
      have hs : (q - 1) * y1 + (r + y1) = un := by rw [Int.sub_mul]; omega
      by_cases hr : 4294967296 ≤ r + y1
      · refine iter_inr ?_
        rw [hf q r hq0 hq1 hr0 hr1, if_pos hc, if_pos hr]
        have hk2 := key (q - 1) (r + y1) hs
        have hqB : q - 1 < 4294967296 := by
          apply Classical.byContradiction
          intro hq
          have : 4294967296 * y1 ≤ (q - 1) * y1 := Int.mul_le_mul_of_nonneg_right (by omega) (by omega)
          omega
        have hp : (q - 1) * y0 ≤ 4294967295 * 4294967295 := Int.mul_le_mul (by omega) (by omega) h3 (by omega)
        have : q - 1 ≤ N / Y := (Int.le_ediv_iff_mul_le hY0).2 (by omega)
        rw [show N / Y = q - 1 from by omega]
      · rw [← ih (q - 1) (r + y1) (by omega) (by omega) (by omega) (by omega) (by omega) hs hle2]
        refine iter_inl ?_
        rw [hf q r hq0 hq1 hr0 hr1, if_pos hc, if_neg hr]
    · refine iter_inr ?_
      rw [hf q r hq0 hq1 hr0 hr1, if_neg hc]
      have : q ≤ N / Y := (Int.le_ediv_iff_mul_le hY0).2 (by omega)
      rw [show N / Y = q from by omega]
end Go.Proofs.Ytmofhbedamjblaa
end
section
namespace Go.Proofs.Ytmofhbedamjblaa
open Go.Ab Go.RowKit
set_option maxRecDepth 100000
theorem s92 {a : Int} (ha : U64 a) : ∃ k, d92 a = some (64 - k) ∧ Len a k := by
  obtain ⟨k, h1, h2⟩ := s63 ha
  refine ⟨k, ?_, h2⟩
  unfold d92
  rw [h1]
  simp only [Option.bind_some]
  have := h2.1; have := h2.2.1
  have e : arReal .sub .i64 64 k = 64 - k := by
    show wrapK .i64 (64 - k) = _
    rw [wk_i64]; omega
  rw [e]
theorem two_digits {N1 u0 Y : Int} (hY : 0 < Y) : (N1 * 4294967296 + u0) / Y = N1 / Y * 4294967296 + ((N1 - N1 / Y * Y) * 4294967296 + u0) / Y := by
  have : N1 * 4294967296 + u0 = ((N1 - N1 / Y * Y) * 4294967296 + u0) + Y * (N1 / Y * 4294967296) := by
    generalize N1 / Y = q
    grind
  rw [this, Int.add_mul_ediv_left _ _ (by omega)]
  generalize N1 / Y = q
  omega
theorem pow_split {k n : Nat} (h : k + n = 64) : (2 ^ k : Nat) * (2 ^ n : Nat) = (18446744073709551616 : Int) := by
  have e : (18446744073709551616 : Int) = ((2 ^ 64 : Nat) : Int) := by decide
  rw [e, ← Int.natCast_mul, ← Nat.pow_add, h]
theorem div_sub {U Y : Int} (hU : 0 ≤ U) (hY : 0 < Y) : 0 ≤ U / Y ∧ U / Y ≤ U ∧ 0 ≤ U / Y * Y ∧ U / Y * Y ≤ U ∧ U - U / Y * Y < Y := by
  have h1 := Int.emod_add_mul_ediv U Y
  have h2 := Int.emod_nonneg U (show Y ≠ 0 by omega)
  have h3 := Int.emod_lt_of_pos U hY
  have h4 : 0 ≤ U / Y := Int.ediv_nonneg hU (by omega)
  have h5 : U / Y ≤ U := Int.ediv_le_self _ hU
  have h6 : 0 ≤ U / Y * Y := Int.mul_nonneg h4 (by omega)
  have h7 : U / Y * Y = Y * (U / Y) := Int.mul_comm _ _
  omega
theorem dig1 (lo y sh Y L : Int) (ew : wrapK .u64 sh = sh) (eY : arReal .shl .u64 y sh = Y) (eL : arReal .shl .u64 lo sh = L) (hY0 : 9223372036854775808 ≤ Y) (hY1 : Y < 18446744073709551616) (hl0 : 0 ≤ L) (hl1 : L < 18446744073709551616) (q r : Int) (h1 : 0 ≤ q) (h2 : q ≤ 8589934592) (h3 : 0 ≤ r) (h4 : r < 4294967296) :
    d69_b1 lo y sh (q, r) = if 4294967296 ≤ q ∨ q * (Y % 4294967296) > 4294967296 * r + L / 4294967296 then (if 4294967296 ≤ r + Y / 4294967296 then some (.inr (q - 1)) else some (.inl (q - 1, r + Y / 4294967296))) else some (.inr q) := by
  unfold d69_b1
  rw [ew, eY, eL, ar_shr32 Y, ar_shr32 L, ar_and32 ⟨by omega, hY1⟩]
  dsimp only
  have ea : arReal .add .u64 r (Y / 4294967296) = r + Y / 4294967296 := ar_addu' ⟨by omega, by omega⟩
  have es : 1 ≤ q → arReal .sub .u64 q 1 = q - 1 := fun h => ar_subu' ⟨by omega, by omega⟩
  have tail : 1 ≤ q → (if (cmpLit .geq (r + Y / 4294967296) 4294967296) = true then some (.inr (arReal .sub .u64 q 1) : (Int × Int) ⊕ Int) else some (.inl (arReal .sub .u64 q 1, r + Y / 4294967296))) = (if 4294967296 ≤ r + Y / 4294967296 then some (.inr (q - 1)) else some (.inl (q - 1, r + Y / 4294967296))) := by
    intro hq
    rw [es hq, c_geq]
    by_cases h : 4294967296 ≤ r + Y / 4294967296
    · rw [if_pos h, if_pos (dT h)]
    · rw [if_neg h, if_neg (by rw [dF h]; simp)]
  rw [ea]
  by_cases hq : 4294967296 ≤ q
  · have hor : 4294967296 ≤ q ∨ q * (Y % 4294967296) > 4294967296 * r + L / 4294967296 := .inl hq
    rw [if_pos (show cmpLit .geq q 4294967296 = true by rw [c_geq]; exact dT hq), if_pos hor]
    exact tail (by omega)
  · rw [if_neg (show ¬ cmpLit .geq q 4294967296 = true by rw [c_geq, dF (by omega)]; simp)]
    have p0 := mul_rng (x := q) (y := Y % 4294967296) h1 (by omega) (by omega) (by omega)
    rw [ar_mulu' (a := q) ⟨by omega, by omega⟩, ar_mulu' (b := r) ⟨by omega, by omega⟩, ar_addu' (a := 4294967296 * r) ⟨by omega, by omega⟩, c_gtr]
    by_cases ht : q * (Y % 4294967296) > 4294967296 * r + L / 4294967296
    · have hq1 : 1 ≤ q := by
        apply Classical.byContradiction
        intro h
        obtain rfl : q = 0 := by omega
        rw [Int.zero_mul] at ht; omega
      rw [if_pos (dT ht)]
      refine Eq.trans ?_ (if_pos (Or.inr ht)).symm
      exact tail hq1
    · rw [if_neg (by rw [dF ht]; simp)]
      refine Eq.trans ?_ (if_neg (by rintro (h | h); exact hq h; exact ht h)).symm
      rfl
theorem dig2 (lo y sh Y L : Int) (ew : wrapK .u64 sh = sh) (eY : arReal .shl .u64 y sh = Y) (eL : arReal .shl .u64 lo sh = L) (hY0 : 9223372036854775808 ≤ Y) (hY1 : Y < 18446744073709551616) (hl0 : 0 ≤ L) (hl1 : L < 18446744073709551616) (q r : Int) (h1 : 0 ≤ q) (h2 : q ≤ 8589934592) (h3 : 0 ≤ r) (h4 : r < 4294967296) :
    d69_b2 lo y sh (r, q) = if 4294967296 ≤ q ∨ q * (Y % 4294967296) > 4294967296 * r + L % 4294967296 then (if 4294967296 ≤ r + Y / 4294967296 then some (.inr (q - 1)) else some (.inl (r + Y / 4294967296, q - 1))) else some (.inr q) := by
  unfold d69_b2
  rw [ew, eY, eL, ar_shr32 Y, ar_and32 ⟨hl0, hl1⟩, ar_and32 ⟨by omega, hY1⟩]
  dsimp only
  have ea : arReal .add .u64 r (Y / 4294967296) = r + Y / 4294967296 := ar_addu' ⟨by omega, by omega⟩
  have es : 1 ≤ q → arReal .sub .u64 q 1 = q - 1 := fun h => ar_subu' ⟨by omega, by omega⟩
  have tail : 1 ≤ q → (if (cmpLit .geq (r + Y / 4294967296) 4294967296) = true then some (.inr (arReal .sub .u64 q 1) : (Int × Int) ⊕ Int) else some (.inl (r + Y / 4294967296, arReal .sub .u64 q 1))) = (if 4294967296 ≤ r + Y / 4294967296 then some (.inr (q - 1)) else some (.inl (r + Y / 4294967296, q - 1))) := by
    intro hq
    rw [es hq, c_geq]
    by_cases h : 4294967296 ≤ r + Y / 4294967296
    · rw [if_pos h, if_pos (dT h)]
    · rw [if_neg h, if_neg (by rw [dF h]; simp)]
  rw [ea]
  by_cases hq : 4294967296 ≤ q
  · have hor : 4294967296 ≤ q ∨ q * (Y % 4294967296) > 4294967296 * r + L % 4294967296 := .inl hq
    rw [if_pos (show cmpLit .geq q 4294967296 = true by rw [c_geq]; exact dT hq), if_pos hor]
    exact tail (by omega)
  · rw [if_neg (show ¬ cmpLit .geq q 4294967296 = true by rw [c_geq, dF (by omega)]; simp)]
    have p0 := mul_rng (x := q) (y := Y % 4294967296) h1 (by omega) (by omega) (by omega)
    rw [ar_mulu' (a := q) ⟨by omega, by omega⟩, ar_mulu' (b := r) ⟨by omega, by omega⟩, ar_addu' (a := 4294967296 * r) ⟨by omega, by omega⟩, c_gtr]
    by_cases ht : q * (Y % 4294967296) > 4294967296 * r + L % 4294967296
    · have hq1 : 1 ≤ q := by
        apply Classical.byContradiction
        intro h
        obtain rfl : q = 0 := by omega
        rw [Int.zero_mul] at ht; omega
      rw [if_pos (dT ht)]
      refine Eq.trans ?_ (if_pos (Or.inr ht)).symm
      exact tail hq1
    · rw [if_neg (by rw [dF ht]; simp)]
      refine Eq.trans ?_ (if_neg (by rintro (h | h); exact hq h; exact ht h)).symm
      rfl
theorem s69 {hi lo y : Int} (h1 : 0 ≤ hi) (h2 : U64 lo) (h3 : hi < y) (h4 : U64 y) : ∃ r, d69 hi lo y = some ((hi * 18446744073709551616 + lo) / y, r) := by
  obtain ⟨l0, l1⟩ := h2
  obtain ⟨y0, y1⟩ := id h4
  unfold d69
  rw [if_neg (by rw [c_eql]; simp; omega), if_neg (by rw [c_leq]; simp; omega)]
  by_cases hz : hi = 0
  · subst hz
    have n0 : Ne0 y := by unfold Ne0; omega
    rw [if_pos (by rw [c_eql]; simp), if_pos n0, if_pos n0, ar_quou l0 l1 (by omega)]
    exact ⟨_, by rw [Int.zero_mul, Int.zero_add]⟩
  rw [if_neg (by rw [c_eql]; simp; exact hz)]
  obtain ⟨k, hk, hL⟩ := s92 h4
  rw [hk]
  simp only [Option.bind_some]
  obtain ⟨k0, k1, k2, k3⟩ := hL
  obtain ⟨m, rfl⟩ := Int.eq_ofNat_of_zero_le k0
  have hm : 0 < m := by
    rcases Nat.eq_zero_or_pos m with e | e
    · subst e
      have k2' : y < 1 := k2
      omega
    · exact e
  have k3 := k3 (by omega)
  obtain ⟨s, hs⟩ : ∃ s : Nat, m + s = 64 := ⟨64 - m, by omega⟩
  have es : (64 : Int) - (m : Int) = (s : Int) := by omega
  rw [es]
  have ew : wrapK .u64 (s : Int) = (s : Int) := wk_u ⟨by omega, by omega⟩
  have em : arReal .sub .u64 64 (s : Int) = (m : Int) := by rw [ar_subu' ⟨by omega, by omega⟩]; omega
  simp only [Int.toNat_natCast] at k2 k3
  have hp : (0 : Int) < (2 ^ s : Nat) := by exact_mod_cast Nat.pow_pos (by omega)
  have hpm : (0 : Int) < (2 ^ m : Nat) := by exact_mod_cast Nat.pow_pos (by omega)
  have hpm1 : (2 ^ m : Nat) = (2 : Int) * (2 ^ (m - 1) : Nat) := by
    obtain ⟨j, rfl⟩ : ∃ j, m = j + 1 := ⟨m - 1, by omega⟩
    rw [Nat.add_sub_cancel, Nat.pow_succ]; push_cast; omega
  have hsp := pow_split hs
  have k2' : y < (2 ^ m : Nat) := by push_cast; exact k2
  have k3' : ((2 ^ (m - 1) : Nat) : Int) ≤ y := by push_cast; exact k3
  -- the divisor, shifted
  have hY1 : y * (2 ^ s : Nat) < 18446744073709551616 := by
    rw [← hsp]; exact Int.mul_lt_mul_of_pos_right k2' hp
  have hY0 : 9223372036854775808 ≤ y * (2 ^ s : Nat) := by
    have : ((2 ^ (m - 1) : Nat) : Int) * (2 ^ s : Nat) ≤ y * (2 ^ s : Nat) := Int.mul_le_mul_of_nonneg_right k3' (by omega)
    rw [hpm1, Int.mul_assoc] at hsp
    omega
  have eY : arReal .shl .u64 y (s : Int) = y * (2 ^ s : Nat) := by
    rw [ar_shlu _ _ (by omega)]; omega
  -- the dividend, shifted
  have hH : hi * (2 ^ s : Nat) < y * (2 ^ s : Nat) := Int.mul_lt_mul_of_pos_right h3 hp
  have hH0 : 0 ≤ hi * (2 ^ s : Nat) := Int.mul_nonneg h1 (by omega)
  have hq0 : 0 ≤ lo / (2 ^ m : Nat) := Int.ediv_nonneg l0 (by omega)
  have hq1 : lo / (2 ^ m : Nat) < (2 ^ s : Nat) := Int.ediv_lt_of_lt_mul hpm (by rw [Int.mul_comm, hsp]; exact l1)
  have hHq : hi * (2 ^ s : Nat) + lo / (2 ^ m : Nat) < y * (2 ^ s : Nat) := by
    have : (hi + 1) * (2 ^ s : Nat) ≤ y * (2 ^ s : Nat) := Int.mul_le_mul_of_nonneg_right (by omega) (by omega)
    rw [Int.add_mul, Int.one_mul] at this
    omega
  have eH : arReal .shl .u64 hi (s : Int) = hi * (2 ^ s : Nat) := by
    rw [ar_shlu _ _ (by omega)]; omega
  have eQ : arReal .shr .u64 lo (m : Int) = lo / (2 ^ m : Nat) := sh_n m (by omega)
  have eU : arReal .or .u64 (hi * (2 ^ s : Nat)) (lo / (2 ^ m : Nat)) = hi * (2 ^ s : Nat) + lo / (2 ^ m : Nat) := ar_oru h1 hq0 (by omega) hq1 (by omega)
  have eL : arReal .shl .u64 lo (s : Int) = (lo * (2 ^ s : Nat)) % 18446744073709551616 := ar_shlu _ _ (by omega)
  have hlo : lo * (2 ^ s : Nat) / 18446744073709551616 = lo / (2 ^ m : Nat) := by
    rw [← hsp, Int.mul_ediv_mul_of_pos_left _ _ hp]
  have hN : (hi * 18446744073709551616 + lo) * (2 ^ s : Nat) = (hi * (2 ^ s : Nat) + lo / (2 ^ m : Nat)) * 18446744073709551616 + (lo * (2 ^ s : Nat)) % 18446744073709551616 := by
    rw [← hlo]
    have := Int.emod_add_mul_ediv (lo * (2 ^ s : Nat)) 18446744073709551616
    generalize (2 ^ s : Nat) = p at *
    rw [Int.add_mul]
    have e : hi * 18446744073709551616 * (p : Int) = hi * p * 18446744073709551616 := by grind
    omega
  have hD : (hi * 18446744073709551616 + lo) / y = ((hi * 18446744073709551616 + lo) * (2 ^ s : Nat)) / (y * (2 ^ s : Nat)) := by
    rw [Int.mul_ediv_mul_of_pos_left _ _ hp]
  rw [hD, hN]
  have hl0 : 0 ≤ (lo * (2 ^ s : Nat)) % 18446744073709551616 := Int.emod_nonneg _ (by omega)
  have hl1 : (lo * (2 ^ s : Nat)) % 18446744073709551616 < 18446744073709551616 := Int.emod_lt_of_pos _ (by omega)
  have hb1 := dig1 lo y (s : Int) (y * (2 ^ s : Nat)) ((lo * (2 ^ s : Nat)) % 18446744073709551616) ew eY eL hY0 hY1 hl0 hl1
  have hb2 := dig2 lo y (s : Int) (y * (2 ^ s : Nat)) ((lo * (2 ^ s : Nat)) % 18446744073709551616) ew eY eL hY0 hY1 hl0 hl1
  rw [ew, em, eY, eH, eQ, eU, eL]
  have g32 : Ge0 32 := by unfold Ge0; omega
  have gs : Ge0 (s : Int) := by unfold Ge0; omega
  have gm : Ge0 (m : Int) := by unfold Ge0; omega
  rw [if_pos gs, if_pos g32, if_pos gs, if_pos gm, if_pos gs, if_pos g32]
  have hU0 : 0 ≤ hi * (2 ^ s : Nat) + lo / (2 ^ m : Nat) := by omega
  generalize hi * (2 ^ s : Nat) + lo / (2 ^ m : Nat) = U at *
  generalize y * (2 ^ s : Nat) = Y at *
  generalize (lo * (2 ^ s : Nat)) % 18446744073709551616 = L at *
  rw [ar_shr32 Y, ar_shr32 L, ar_and32 ⟨hl0, hl1⟩]
  have n1 : Ne0 (Y / 4294967296) := by unfold Ne0; omega
  rw [if_pos n1]
  have hd1 := div_sub hU0 (show 0 < Y / 4294967296 by omega)
  have i1 := digit (d69_b1 lo y (s : Int)) Prod.mk (y1 := Y / 4294967296) (y0 := Y % 4294967296) (un := U) (u1 := L / 4294967296) (by omega) (by omega) (by omega) (by omega) (by omega) (by omega) hU0 (by omega) hb1
  have eYY : Y / 4294967296 * 4294967296 + Y % 4294967296 = Y := by omega
  rw [eYY] at i1
  have hd2 := div_sub (show 0 ≤ U * 4294967296 + L / 4294967296 by omega) (show 0 < Y by omega)
  have hq1 : (U * 4294967296 + L / 4294967296) / Y < 4294967296 := Int.ediv_lt_of_lt_mul (by omega) (by omega)
  have hq1' : 0 ≤ (U * 4294967296 + L / 4294967296) / Y := Int.ediv_nonneg (by omega) (by omega)
  rw [ar_quou hU0 (by omega) (by omega), ar_mulu' ⟨by omega, by omega⟩, ar_subu' ⟨by omega, by omega⟩, i1]
  simp only [Option.bind_some]
  rw [if_pos n1]
  have e21 : arReal .sub .u64 (arReal .add .u64 (arReal .mul .u64 U 4294967296) (L / 4294967296)) (arReal .mul .u64 ((U * 4294967296 + L / 4294967296) / Y) Y) = U * 4294967296 + L / 4294967296 - (U * 4294967296 + L / 4294967296) / Y * Y := by
    rw [ar_subu, ar_addu, ar_mulu, ar_mulu, wk_u64, wk_u64, wk_u64, wk_u64]
    generalize (U * 4294967296 + L / 4294967296) / Y * Y = Q at *
    omega
  rw [e21]
  generalize hV : U * 4294967296 + L / 4294967296 - (U * 4294967296 + L / 4294967296) / Y * Y = V at *
  have i2 := digit (d69_b2 lo y (s : Int)) (fun q r => (r, q)) (y1 := Y / 4294967296) (y0 := Y % 4294967296) (un := V) (u1 := L % 4294967296) (by omega) (by omega) (by omega) (by omega) (by omega) (by omega) (by omega) (by omega) hb2
  rw [eYY] at i2
  have hd3 := div_sub (show 0 ≤ V by omega) (show 0 < Y / 4294967296 by omega)
  have hq2 : (V * 4294967296 + L % 4294967296) / Y < 4294967296 := Int.ediv_lt_of_lt_mul (by omega) (by omega)
  have hq2' : 0 ≤ (V * 4294967296 + L % 4294967296) / Y := Int.ediv_nonneg (by omega) (by omega)
  rw [ar_quou (a := V) (by omega) (by omega) (by omega), ar_mulu' (a := V / (Y / 4294967296)) ⟨by omega, by omega⟩, ar_subu' (a := V) ⟨by omega, by omega⟩, i2]
  simp only [Option.bind_some]
  rw [if_pos gs]
  have hND : U * 18446744073709551616 + L = (U * 4294967296 + L / 4294967296) * 4294967296 + L % 4294967296 := by omega
  rw [hND, two_digits (N1 := U * 4294967296 + L / 4294967296) (u0 := L % 4294967296) (by omega), hV, ar_mulu' (a := (U * 4294967296 + L / 4294967296) / Y) ⟨by omega, by omega⟩, ar_addu' ⟨by omega, by omega⟩]
  exact ⟨_, rfl⟩
end Go.Proofs.Ytmofhbedamjblaa
end
section
namespace Go.Proofs.Ytmofhbedamjblaa
open Go.Ab Go.RowKit 
set_option maxRecDepth 100000
set_option maxHeartbeats 40000000
noncomputable def d32 (a0_0 : ByteArray) (a0_1 : Int) (a0_2 : List V) (a0_3 : List V) (a1 : Int) : Option (Int) :=
 (d34 a0_0 a0_1 a0_2 a0_3).bind fun x1 =>
 if (cmpLit .eql a0_1 7) = true then
 if (cmpLit .geq a1 0) = true then
 (d63 (wrapK .u64 a1)).bind fun x6 =>
 some (arReal .add .i64 63 x6)
 else
 (d63 (unReal .neg .u64 (wrapK .u64 a1))).bind fun x7 =>
 some (mxI 0 (arReal .sub .i64 63 x7))
 else
 if (cmpLit .eql a0_1 8) = true then
 if (Inb 0 (lenI a0_2)) then
 if (cmpLit .lss a1 (gI a0_2 0 0)) = true then
 some 0
 else
 if (Inb 1 (lenI a0_2)) then
 if (cmpLit .geq a1 (gI a0_2 1 0)) = true then
 some (arReal .sub .i64 x1 1)
 else
 if (Inb 0 (lenI a0_2)) then
 if (Inb 2 (lenI a0_2)) then
 if (Ne0 (wrapK .u64 (gI a0_2 2 0))) then
 some (arReal .add .i64 1 (wrapK .i64 (arReal .quo .u64 (arReal .sub .u64 (wrapK .u64 a1) (wrapK .u64 (gI a0_2 0 0))) (wrapK .u64 (gI a0_2 2 0)))))
 else none
 else none
 else none
 else none
 else none
 else
 if (Inb 0 (lenI a0_2)) then
 if (Inb 1 (lenI a0_2)) then
 (d35 (gI a0_2 0 0) (gI a0_2 1 0)).bind fun x10 =>
 if (cmpLit .lss a1 x10) = true then
 some 0
 else
 if (Inb 0 (lenI a0_2)) then
 if (Inb 2 (lenI a0_2)) then
 (d35 (gI a0_2 0 0) (arReal .add .i64 (gI a0_2 2 0) 1)).bind fun x11 =>
 if (cmpLit .geq a1 x11) = true then
 some (arReal .sub .i64 x1 1)
 else
 (d64 a0_2 a1).bind fun x12 =>
 some x12
 else none
 else none
 else none
 else none
noncomputable def w32_c : Code := (Try.f32.body).getD .skip
theorem w32_h : Try.f32.body = some w32_c := by kernel_rfl
theorem w32 (a0_0 : ByteArray) (a0_1 : Int) (a0_2 : List V) (a0_3 : List V) (a1 : Int) (r : Int) (h : d32 a0_0 a0_1 a0_2 a0_3 a1 = some r) : Ab.Fn Try.prog TT 32 [.agg [.str a0_0, .i .i64 a0_1, .sl 2 a0_2, .sl 74 a0_3], .i .i64 a1] (.i .i64 r) [] := by
 refine fn_pure tok (fun r => match r with | 13 => [[],[0],[],[2],[2,3],[2,3,4],[0,1,2,3,4,5],[],[7],[7,8],[7,8,9],[0,1,2,3,4,5,6,7,8,9,10],[0,1,2,3,4,5,6,7,8,9,10,11],[0,1,2,3,4,5,6,7,8,9,10,11,12],[0,1,2,3,4,5,6,7,8,9,10,11,12,13]] | 14 => [[],[],[1],[1,2],[],[4],[4,5],[1,2,3,4,5,6],[0,1,2,3,4,5,6,7],[0,1,2,3,4,5,6,7,8]] | 16 => [[],[],[1],[1,2],[],[4],[4,5],[4,5,6],[1,2,3,4,5,6,7],[0,1,2,3,4,5,6,7,8],[0,1,2,3,4,5,6,7,8,9]] | _ => []) Try.func32 (by kernel_rfl) w32_h (by kernel_rfl) ?_
 intro _ _ _ _ _ _ _ _ _ _ _ _ _ _ _ _ _ _ _ _ _ _ _ _ _ _ _ _ _ _ _ _ _ _ _ _ _ _ _ _ _ E R K hK
 have D := E.D
 clear E
 have S := And.intro D.har (And.intro D.hcmp (And.intro D.hcv (And.intro D.hgi (And.intro D.hinb (And.intro D.hlen (And.intro D.hmx (And.intro D.hne0 (D.hun))))))))
 unfold d32 at h
 cbv
 refine R.callD h (fun x1 hx1 h2 => ?_)
 clear h; have h := h2; clear h2
 refine R.call' (w34 _ _ _ _ _ hx1) (by first|(simp only [S]<;>rfl)|rfl) ?_
 clear hx1; cbv
 refine R.cut' (by kernel_rfl) (by kernel_rfl) ?_
 cbv
 refine R.brD h (by first|(simp only [S]<;>rfl)|rfl) ?_ ?_<;>clear h<;>intro h<;>cbv
 ·refine R.cut' (by kernel_rfl) (by kernel_rfl) ?_
  cbv
  refine R.brD h (by first|(simp only [S]<;>rfl)|rfl) ?_ ?_<;>clear h<;>intro h<;>cbv
  ·refine R.callD h (fun x6 hx6 h2 => ?_)
   clear h; have h := h2; clear h2
   refine R.call' (w63 _ _ hx6) (by first|(simp only [S]<;>rfl)|rfl) ?_
   clear hx6; cbv
   have e := ret_some h; clear h
   refine hK _ _ ?_
   cbv
   try (subst e; simp only [S, and_self, and_true, true_and] <;> (repeat' apply And.intro) <;> rfl)
  ·refine R.callD h (fun x7 hx7 h2 => ?_)
   clear h; have h := h2; clear h2
   refine R.call' (w63 _ _ hx7) (by first|(simp only [S]<;>rfl)|rfl) ?_
   clear hx7; cbv
   have e := ret_some h; clear h
   refine hK _ _ ?_
   cbv
   try (subst e; simp only [S, and_self, and_true, true_and] <;> (repeat' apply And.intro) <;> rfl)
 ·refine R.brD h (by first|(simp only [S]<;>rfl)|rfl) ?_ ?_<;>clear h<;>intro h<;>cbv
  ·refine R.cut' (by kernel_rfl) (by kernel_rfl) ?_
   cbv
   refine R.needD h (by first|(simp only [S]<;>rfl)|rfl) ?_
   clear h; intro h; cbv
   refine R.brD h (by first|(simp only [S]<;>rfl)|rfl) ?_ ?_<;>clear h<;>intro h<;>cbv
   ·have e := ret_some h; clear h
    refine hK _ _ ?_
    cbv
    try (subst e; simp only [S, and_self, and_true, true_and] <;> (repeat' apply And.intro) <;> rfl)
   ·refine R.needD h (by first|(simp only [S]<;>rfl)|rfl) ?_
    clear h; intro h; cbv
    refine R.brD h (by first|(simp only [S]<;>rfl)|rfl) ?_ ?_<;>clear h<;>intro h<;>cbv
    ·have e := ret_some h; clear h
     refine hK _ _ ?_
     cbv
     try (subst e; simp only [S, and_self, and_true, true_and] <;> (repeat' apply And.intro) <;> rfl)
    ·refine R.needD h (by first|(simp only [S]<;>rfl)|rfl) ?_
     clear h; intro h; cbv
     refine R.needD h (by first|(simp only [S]<;>rfl)|rfl) ?_
     clear h; intro h; cbv
     refine R.needD h (by first|(simp only [S]<;>rfl)|rfl) ?_
     clear h; intro h; cbv
     have e := ret_some h; clear h
     refine hK _ _ ?_
     cbv
     try (subst e; simp only [S, and_self, and_true, true_and] <;> (repeat' apply And.intro) <;> rfl)
  ·refine R.cut' (by kernel_rfl) (by kernel_rfl) ?_
   cbv
   refine R.needD h (by first|(simp only [S]<;>rfl)|rfl) ?_
   clear h; intro h; cbv
   refine R.needD h (by first|(simp only [S]<;>rfl)|rfl) ?_
   clear h; intro h; cbv
   refine R.callD h (fun x10 hx10 h2 => ?_)
   clear h; have h := h2; clear h2
   refine R.call' (w35 _ _ _ hx10) (by first|(simp only [S]<;>rfl)|rfl) ?_
   clear hx10; cbv
   refine R.brD h (by first|(simp only [S]<;>rfl)|rfl) ?_ ?_<;>clear h<;>intro h<;>cbv
   ·have e := ret_some h; clear h
    refine hK _ _ ?_
    cbv
    try (subst e; simp only [S, and_self, and_true, true_and] <;> (repeat' apply And.intro) <;> rfl)
   ·refine R.needD h (by first|(simp only [S]<;>rfl)|rfl) ?_
    clear h; intro h; cbv
    refine R.needD h (by first|(simp only [S]<;>rfl)|rfl) ?_
    clear h; intro h; cbv
    refine R.callD h (fun x11 hx11 h2 => ?_)
    clear h; have h := h2; clear h2
    refine R.call' (w35 _ _ _ hx11) (by first|(simp only [S]<;>rfl)|rfl) ?_
    clear hx11; cbv
    refine R.brD h (by first|(simp only [S]<;>rfl)|rfl) ?_ ?_<;>clear h<;>intro h<;>cbv
    ·have e := ret_some h; clear h
     refine hK _ _ ?_
     cbv
     try (subst e; simp only [S, and_self, and_true, true_and] <;> (repeat' apply And.intro) <;> rfl)
    ·refine R.callD h (fun x12 hx12 h2 => ?_)
     clear h; have h := h2; clear h2
     refine R.call' (w64 _ _ _ hx12) (by first|(simp only [S]<;>rfl)|rfl) ?_
     clear hx12; cbv
     have e := ret_some h; clear h
     refine hK _ _ ?_
     cbv
     try (subst e; simp only [S, and_self, and_true, true_and] <;> (repeat' apply And.intro) <;> rfl)
noncomputable def d11 (a0_0 : ByteArray) (a0_1 : Int) (a0_2 : List V) (a0_3 : List V) (a1 : Int) : Option (Int × Int) :=
 (d22 a0_0 a0_1 a0_2 a0_3).bind fun x2 =>
 if (cmpLit .neq x2 0) = true then
 some (0, x2)
 else
 (d31 a0_0 a0_1 a0_2 a0_3).bind fun x4 =>
 if (notB' x4) = true then
 some (0, 1)
 else
 (d32 a0_0 a0_1 a0_2 a0_3 a1).bind fun x5 =>
 some (x5, 0)
noncomputable def w11_c : Code := (Try.f11.body).getD .skip
theorem w11_h : Try.f11.body = some w11_c := by kernel_rfl
theorem w11 (a0_0 : ByteArray) (a0_1 : Int) (a0_2 : List V) (a0_3 : List V) (a1 : Int) (r : Int × Int) (h : d11 a0_0 a0_1 a0_2 a0_3 a1 = some r) : Ab.Fn Try.prog TT 11 [.agg [.str a0_0, .i .i64 a0_1, .sl 2 a0_2, .sl 74 a0_3], .i .i64 a1] (.tup [.i .i64 r.1, .i .i64 r.2]) [] := by
 refine fn_pure tok W0 Try.func11 (by kernel_rfl) w11_h (by kernel_rfl) ?_
 intro _ _ _ _ _ _ _ _ _ _ _ _ _ _ _ _ _ _ _ _ _ _ _ _ _ _ _ _ _ _ _ _ _ _ _ _ _ _ _ _ _ E R K hK
 have D := E.D
 clear E
 have S := And.intro D.hcmp (D.hnt)
 unfold d11 at h
 cbv
 refine R.cut' (by kernel_rfl) (by kernel_rfl) ?_
 cbv
 refine R.callD h (fun x2 hx2 h2 => ?_)
 clear h; have h := h2; clear h2
 refine R.call' (w22 _ _ _ _ _ hx2) (by first|(simp only [S]<;>rfl)|rfl) ?_
 clear hx2; cbv
 refine R.brD h (by first|(simp only [S]<;>rfl)|rfl) ?_ ?_<;>clear h<;>intro h<;>cbv
 ·have e := ret_some h; clear h
  refine hK _ _ ?_
  cbv
  try (subst e; simp only [S, and_self, and_true, true_and] <;> (repeat' apply And.intro) <;> rfl)
 ·refine R.cut' (by kernel_rfl) (by kernel_rfl) ?_
  cbv
  refine R.callD h (fun x4 hx4 h2 => ?_)
  clear h; have h := h2; clear h2
  refine R.call' (w31 _ _ _ _ _ hx4) (by first|(simp only [S]<;>rfl)|rfl) ?_
  clear hx4; cbv
  refine R.brD h (by first|(simp only [S]<;>rfl)|rfl) ?_ ?_<;>clear h<;>intro h<;>cbv
  ·have e := ret_some h; clear h
   refine hK _ _ ?_
   cbv
   try (subst e; simp only [S, and_self, and_true, true_and] <;> (repeat' apply And.intro) <;> rfl)
  ·refine R.callD h (fun x5 hx5 h2 => ?_)
   clear h; have h := h2; clear h2
   refine R.call' (w32 _ _ _ _ _ _ hx5) (by first|(simp only [S]<;>rfl)|rfl) ?_
   clear hx5; cbv
   have e := ret_some h; clear h
   refine hK _ _ ?_
   cbv
   try (subst e; simp only [S, and_self, and_true, true_and] <;> (repeat' apply And.intro) <;> rfl)
noncomputable def d66v1 (a0 : Int) (a1 : Int) (a2 : List V) (a3 : Int) : Option (Int) :=
 (d67 a0 a1).bind fun x4 =>
 if (Inb 3 (lenI a2)) then
 (d68 x4.2 (arReal .sub .u64 (wrapK .u64 (gI a2 3 0)) 1) 0).bind fun x5 =>
 if (Inb 3 (lenI a2)) then
 (d69 (arReal .add .u64 x4.1 x5.2) x5.1 (wrapK .u64 (gI a2 3 0))).bind fun x6 =>
 some (arReal .add .i64 a3 (wrapK .i64 x6.1))
 else none
 else none
noncomputable def w66v1_c : Code := (Try.f66.body).getD .skip
theorem w66v1_h : Try.f66.body = some w66v1_c := by kernel_rfl
theorem w66v1 (a0 : Int) (a1 : Int) (a2 : List V) (a3 : Int) (r : Int) (h : d66v1 a0 a1 a2 a3 = some r) : Ab.FnB Try.prog TT 66 [.i .u64 a0, .ptr 900000 0, .ptr 900100 0, .ptr 900200 0] [(900000, .cells 97 [.i .u64 a1]), (900100, .cells 22 [.sl 2 a2]), (900200, .cells 2 [.i .i64 a3])] [900000,900100,900200] (.i .i64 r) [(900000, .cells 97 [.i .u64 a1]), (900100, .cells 22 [.sl 2 a2]), (900200, .cells 2 [.i .i64 a3])] := by
 refine fnb_rules tok W0 [900000,900100,900200] [.i .i64 r] [(900000, .cells 97 [.i .u64 a1]), (900100, .cells 22 [.sl 2 a2]), (900200, .cells 2 [.i .i64 a3])] [] Try.func66 (by kernel_rfl) w66v1_h (by kernel_rfl) (by rfl) ?_
 intro _ _ _ _ _ _ _ _ _ _ _ _ _ _ _ _ _ _ _ _ _ _ _ _ _ _ _ _ _ _ _ _ _ _ _ _ _ _ _ _ _ E R K hK
 have D := E.D
 clear E
 have S := And.intro D.har (And.intro D.hcv (And.intro D.hgi (And.intro D.hinb (D.hlen))))
 unfold d66v1 at h
 cbv
 refine R.callD h (fun x4 hx4 h2 => ?_)
 clear h; have h := h2; clear h2
 refine R.call' (w67 _ _ _ hx4) (by first|(simp only [S]<;>rfl)|rfl) ?_
 clear hx4; cbv
 refine R.needD h (by first|(simp only [S]<;>rfl)|rfl) ?_
 clear h; intro h; cbv
 refine R.callD h (fun x5 hx5 h2 => ?_)
 clear h; have h := h2; clear h2
 refine R.call' (w68 _ _ _ _ hx5) (by first|(simp only [S]<;>rfl)|rfl) ?_
 clear hx5; cbv
 refine R.needD h (by first|(simp only [S]<;>rfl)|rfl) ?_
 clear h; intro h; cbv
 refine R.callD h (fun x6 hx6 h2 => ?_)
 clear h; have h := h2; clear h2
 refine R.call' (w69 _ _ _ _ hx6) (by first|(simp only [S]<;>rfl)|rfl) ?_
 clear hx6; cbv
 have e := ret_some h; clear h
 refine hK _ _ ⟨by kernel_rfl, ?_, ?_, by kernel_rfl, by kernel_rfl⟩<;>cbv<;>(try (subst e;simp only [S,and_self,and_true,true_and]<;>(repeat' apply And.intro)<;>rfl))
end Go.Proofs.Ytmofhbedamjblaa
end
section
namespace Go.Proofs.Ytmofhbedamjblaa
open Go.Ab Go.RowKit 
set_option maxRecDepth 100000
set_option maxHeartbeats 40000000
noncomputable def d36 (a0_0 : ByteArray) (a0_1 : Int) (a0_2 : List V) (a0_3 : List V) (a1 : Int) : Option (Int × Int) :=
 if (cmpLit .eql a0_1 7) = true then
 if (cmpLit .gtr a1 63) = true then
 if (Ge0 (arReal .sub .i64 a1 64)) then
 if (Ge0 (arReal .sub .i64 a1 64)) then
 if (Ge0 (arReal .sub .i64 a1 64)) then
 some ((arReal .shl .i64 1 (arReal .sub .i64 a1 64)), (arReal .add .i64 (arReal .sub .i64 (arReal .shl .i64 1 (arReal .sub .i64 a1 64)) 1) (arReal .shl .i64 1 (arReal .sub .i64 a1 64))))
 else none
 else none
 else none
 else
 if (cmpLit .eql a1 63) = true then
 some (0, 0)
 else
 if (Ge0 (arReal .sub .i64 62 a1)) then
 if (Ge0 (arReal .sub .i64 62 a1)) then
 if (Ge0 (arReal .sub .i64 62 a1)) then
 some ((unReal .neg .i64 (arReal .add .i64 (arReal .sub .i64 (arReal .shl .i64 1 (arReal .sub .i64 62 a1)) 1) (arReal .shl .i64 1 (arReal .sub .i64 62 a1)))), (arReal .shl .i64 (-1) (arReal .sub .i64 62 a1)))
 else none
 else none
 else none
 else
 if (cmpLit .eql a0_1 8) = true then
 if (Inb 2 (lenI a0_2)) then
 if (Inb 1 (lenI a0_2)) then
 if (Inb 0 (lenI a0_2)) then
 if (Inb 0 (lenI a0_2)) then
 if (Inb 0 (lenI a0_2)) then
 if (Inb 2 (lenI a0_2)) then
 some ((wrapK .i64 (arReal .add .u64 (wrapK .u64 (gI a0_2 0 0)) (arReal .mul .u64 (wrapK .u64 (arReal .sub .i64 a1 1)) (wrapK .u64 (gI a0_2 2 0))))), (wrapK .i64 (arReal .sub .u64 (arReal .add .u64 (wrapK .u64 (gI a0_2 0 0)) (mnI (arReal .add .u64 (arReal .mul .u64 (wrapK .u64 (arReal .sub .i64 a1 1)) (wrapK .u64 (gI a0_2 2 0))) (wrapK .u64 (gI a0_2 2 0))) (arReal .sub .u64 (wrapK .u64 (gI a0_2 1 0)) (wrapK .u64 (gI a0_2 0 0))))) 1)))
 else none
 else none
 else none
 else none
 else none
 else none
 else
 if (Inb 1 (lenI a0_2)) then
 if (Inb 3 (lenI a0_2)) then
 if (Ne0 (gI a0_2 3 0)) then
 if (Inb 3 (lenI a0_2)) then
 if (Ne0 (gI a0_2 3 0)) then
 if (Inb 0 (lenI a0_2)) then
 (d35 (gI a0_2 0 0) (arReal .add .i64 (gI a0_2 1 0) (arReal .quo .i64 (arReal .sub .i64 a1 1) (gI a0_2 3 0)))).bind fun x1 =>
 if (Inb 0 (lenI a0_2)) then
 (d35 (gI a0_2 0 0) (arReal .add .i64 (arReal .add .i64 (gI a0_2 1 0) (arReal .quo .i64 (arReal .sub .i64 a1 1) (gI a0_2 3 0))) 1)).bind fun x2 =>
 (d66v1 (wrapK .u64 (arReal .rem .i64 (arReal .sub .i64 a1 1) (gI a0_2 3 0))) (wrapK .u64 (arReal .sub .i64 x2 x1)) a0_2 x1).bind fun x3 =>
 (d66v1 (arReal .add .u64 (wrapK .u64 (arReal .rem .i64 (arReal .sub .i64 a1 1) (gI a0_2 3 0))) 1) (wrapK .u64 (arReal .sub .i64 x2 x1)) a0_2 x1).bind fun x4 =>
 some (x3, (arReal .sub .i64 x4 1))
 else none
 else none
 else none
 else none
 else none
 else none
 else none
noncomputable def w36_c : Code := (Try.f36.body).getD .skip
theorem w36_h : Try.f36.body = some w36_c := by kernel_rfl
theorem w36 (a0_0 : ByteArray) (a0_1 : Int) (a0_2 : List V) (a0_3 : List V) (a1 : Int) (r : Int × Int) (h : d36 a0_0 a0_1 a0_2 a0_3 a1 = some r) : Ab.Fn Try.prog TT 36 [.agg [.str a0_0, .i .i64 a0_1, .sl 2 a0_2, .sl 74 a0_3], .i .i64 a1] (.tup [.i .i64 r.1, .i .i64 r.2]) [] := by
 refine fn_pure tok (fun r => match r with | 5 => [[],[0],[0,1],[],[3],[3,4],[3,4,5],[],[7],[7,8],[3,4,5,6,7,8,9],[0,1,2],[0,1,2,3,4,5,6,7,8,9,10,11]] | 8 => [[],[0],[0,1],[0,1,2],[],[4],[4,5],[0,1,2,3,4,5,6],[0,1,2,3,4,5,6,7],[],[9],[9,10],[0,1,2,3,4,5,6,7,8],[0,1,2,3,4,5,6,7,8,9,10,11,12]] | 11 => [[],[0],[0,1],[0,1,2],[],[4],[4,5],[4,5,6],[0,1,2,3,4,5,6,7],[0,1,2,3,4,5,6,7,8]] | 12 => [[],[0],[0,1],[0,1,2],[],[0,1,2,3,4],[0,1,2,3,4,5],[],[7],[7,8],[7,8,9],[],[],[12],[12,13],[12,13,14],[11,12,13,14,15],[],[11,12,13,14,15,16,17],[7,8,9,10,11,12,13,14,15,16,17,18],[7,8,9,10,11,12,13,14,15,16,17,18,19],[7,8,9,10,11,12,13,14,15,16,17,18,19,20],[0,1,2,3,4,5,6],[0,1,2,3,4,5,6,7,8,9,10,11,12,13,14,15,16,17,18,19,20,21,22]] | 13 => [[],[0],[0,1],[],[3],[],[5],[5,6],[3,4,5,6,7],[0,1,2,3,4,5,6,7,8],[],[10],[],[12],[12,13],[10,11,12,13,14],[10,11,12,13,14,15],[0,1,2,3,4,5,6,7,8,9],[0,1,2,3,4,5,6,7,8,9,10,11,12,13,14,15,16,17]] | 15 => [[],[0],[0,1],[],[3],[0,1,2,3,4],[],[0,1,2,3,4,5,6],[0,1,2,3,4,5,6,7],[],[0,1,2,3,4,5,6,7,8,9]] | _ => []) Try.func36 (by kernel_rfl) w36_h (by kernel_rfl) ?_
 intro _ _ _ _ _ _ _ _ _ _ _ _ _ _ _ _ _ _ _ _ _ _ _ _ _ _ _ _ _ _ _ _ _ _ _ _ _ _ _ _ _ E R K hK
 have D := E.D
 clear E
 have S := And.intro D.har (And.intro D.hcmp (And.intro D.hcv (And.intro D.hge0 (And.intro D.hgi (And.intro D.hinb (And.intro D.hlen (And.intro D.hmn (And.intro D.hne0 (D.hun)))))))))
 unfold d36 at h
 cbv
 refine R.cut' (by kernel_rfl) (by kernel_rfl) ?_
 cbv
 refine R.brD h (by first|(simp only [S]<;>rfl)|rfl) ?_ ?_<;>clear h<;>intro h<;>cbv
 ·refine R.cut' (by kernel_rfl) (by kernel_rfl) ?_
  cbv
  refine R.brD h (by first|(simp only [S]<;>rfl)|rfl) ?_ ?_<;>clear h<;>intro h<;>cbv
  ·refine R.needD h (by first|(simp only [S]<;>rfl)|rfl) ?_
   clear h; intro h; cbv
   refine R.needD h (by first|(simp only [S]<;>rfl)|rfl) ?_
   clear h; intro h; cbv
   refine R.needD h (by first|(simp only [S]<;>rfl)|rfl) ?_
   clear h; intro h; cbv
   have e := ret_some h; clear h
   refine hK _ _ ?_
   cbv
   try (subst e; simp only [S, and_self, and_true, true_and] <;> (repeat' apply And.intro) <;> rfl)
  ·refine R.brD h (by first|(simp only [S]<;>rfl)|rfl) ?_ ?_<;>clear h<;>intro h<;>cbv
   ·have e := ret_some h; clear h
    refine hK _ _ ?_
    cbv
    try (subst e; simp only [S, and_self, and_true, true_and] <;> (repeat' apply And.intro) <;> rfl)
   ·refine R.needD h (by first|(simp only [S]<;>rfl)|rfl) ?_
    clear h; intro h; cbv
    refine R.needD h (by first|(simp only [S]<;>rfl)|rfl) ?_
    clear h; intro h; cbv
    refine R.needD h (by first|(simp only [S]<;>rfl)|rfl) ?_
    clear h; intro h; cbv
    have e := ret_some h; clear h
    refine hK _ _ ?_
    cbv
    try (subst e; simp only [S, and_self, and_true, true_and] <;> (repeat' apply And.intro) <;> rfl)
 ·refine R.brD h (by first|(simp only [S]<;>rfl)|rfl) ?_ ?_<;>clear h<;>intro h<;>cbv
  ·refine R.needD h (by first|(simp only [S]<;>rfl)|rfl) ?_
   clear h; intro h; cbv
   refine R.needD h (by first|(simp only [S]<;>rfl)|rfl) ?_
   clear h; intro h; cbv
   refine R.needD h (by first|(simp only [S]<;>rfl)|rfl) ?_
   clear h; intro h; cbv
   refine R.needD h (by first|(simp only [S]<;>rfl)|rfl) ?_
   clear h; intro h; cbv
   refine R.needD h (by first|(simp only [S]<;>rfl)|rfl) ?_
   clear h; intro h; cbv
   refine R.needD h (by first|(simp only [S]<;>rfl)|rfl) ?_
   clear h; intro h; cbv
   have e := ret_some h; clear h
   refine hK _ _ ?_
   cbv
   try (subst e; simp only [S, and_self, and_true, true_and] <;> (repeat' apply And.intro) <;> rfl)
  ·refine R.needD h (by first|(simp only [S]<;>rfl)|rfl) ?_
   clear h; intro h; cbv
   refine R.needD h (by first|(simp only [S]<;>rfl)|rfl) ?_
   clear h; intro h; cbv
   refine R.needD h (by first|(simp only [S]<;>rfl)|rfl) ?_
   clear h; intro h; cbv
   refine R.needD h (by first|(simp only [S]<;>rfl)|rfl) ?_
   clear h; intro h; cbv
   refine R.needD h (by first|(simp only [S]<;>rfl)|rfl) ?_
   clear h; intro h; cbv
   refine R.needD h (by first|(simp only [S]<;>rfl)|rfl) ?_
   clear h; intro h; cbv
   refine R.callD h (fun x1 hx1 h2 => ?_)
   clear h; have h := h2; clear h2
   refine R.call' (w35 _ _ _ hx1) (by first|(simp only [S]<;>rfl)|rfl) ?_
   clear hx1; cbv
   refine R.needD h (by first|(simp only [S]<;>rfl)|rfl) ?_
   clear h; intro h; cbv
   refine R.callD h (fun x2 hx2 h2 => ?_)
   clear h; have h := h2; clear h2
   refine R.call' (w35 _ _ _ hx2) (by first|(simp only [S]<;>rfl)|rfl) ?_
   clear hx2; cbv
   refine R.callBD h (fun x3 hx3 h2 => ?_)
   clear h; have h := h2; clear h2
   obtain ⟨bx3_0, ex3_0, bx3_1, ex3_1, hbx3⟩ : ∃ bx3_0, bx3_0 = (wrapK .u64 (arReal .rem .i64 (arReal .sub .i64 a1 1) (gI a0_2 3 0))) ∧ ∃ bx3_1, bx3_1 = (wrapK .u64 (arReal .sub .i64 x2 x1)) ∧ d66v1 bx3_0 bx3_1 a0_2 x1 = some x3 := ⟨_, rfl, _, rfl, hx3⟩
   clear hx3; have hx3 := hbx3; clear hbx3
   refine R.callB [(900000, 192), (900100, 96), (900200, 176)] (w66v1 bx3_0 bx3_1 a0_2 x1 _ hx3) ?_ ?_ rfl ?_
   ·cbv <;> (try simp only [S, ex3_0, ex3_1, and_self, and_true, true_and] <;> (repeat' apply And.intro) <;> rfl)
   ·cbv <;> (try simp only [S, ex3_0, ex3_1, and_self, and_true, true_and] <;> (repeat' apply And.intro) <;> rfl)
   clear hx3; cbv
   refine R.callBD h (fun x4 hx4 h2 => ?_)
   clear h; have h := h2; clear h2
   obtain ⟨bx4_0, ex4_0, bx4_1, ex4_1, hbx4⟩ : ∃ bx4_0, bx4_0 = (arReal .add .u64 (wrapK .u64 (arReal .rem .i64 (arReal .sub .i64 a1 1) (gI a0_2 3 0))) 1) ∧ ∃ bx4_1, bx4_1 = (wrapK .u64 (arReal .sub .i64 x2 x1)) ∧ d66v1 bx4_0 bx4_1 a0_2 x1 = some x4 := ⟨_, rfl, _, rfl, hx4⟩
   clear hx4; have hx4 := hbx4; clear hbx4
   refine R.callB [(900000, 192), (900100, 96), (900200, 176)] (w66v1 bx4_0 bx4_1 a0_2 x1 _ hx4) ?_ ?_ rfl ?_
   ·cbv <;> (try simp only [S, ex3_0, ex3_1, ex4_0, ex4_1, and_self, and_true, true_and] <;> (repeat' apply And.intro) <;> rfl)
   ·cbv <;> (try simp only [S, ex3_0, ex3_1, ex4_0, ex4_1, and_self, and_true, true_and] <;> (repeat' apply And.intro) <;> rfl)
   clear hx4; cbv
   have e := ret_some h; clear h
   refine hK _ _ ?_
   cbv
   try (subst e; simp only [S, ex3_0, ex3_1, ex4_0, ex4_1, and_self, and_true, true_and] <;> (repeat' apply And.intro) <;> rfl)
end Go.Proofs.Ytmofhbedamjblaa
end
section
namespace Go.Proofs.Ytmofhbedamjblaa
open Go.Ab Go.RowKit 
set_option maxRecDepth 100000
set_option maxHeartbeats 40000000
noncomputable def d12 (a0_0 : ByteArray) (a0_1 : Int) (a0_2 : List V) (a0_3 : List V) (a1 : Int) : Option (Int × Int × Bool × Int) :=
 (d22 a0_0 a0_1 a0_2 a0_3).bind fun x2 =>
 if (cmpLit .neq x2 0) = true then
 some (0, 0, false, x2)
 else
 (d31 a0_0 a0_1 a0_2 a0_3).bind fun x12 =>
 if (notB' x12) = true then
 some (0, 0, false, 1)
 else
 (d34 a0_0 a0_1 a0_2 a0_3).bind fun x13 =>
 (d33 a1 0 (arReal .sub .i64 x13 1)).bind fun x14 =>
 if (notB' x14) = true then
 some (0, 0, false, 1)
 else
 (d34 a0_0 a0_1 a0_2 a0_3).bind fun x15 =>
 Option.bind (α := Int × Int) (
 Option.bind (α := Bool) (
 if (cmpLit .eql a0_1 7) = true then
 some (cmpLit .eql a1 0)
 else
 some false) fun y30 =>
 if y30 = true then
 some ((-9223372036854775808), (-4611686018427387904))
 else
 Option.bind (α := Bool) (
 if (cmpLit .eql a0_1 8) = true then
 some (cmpLit .eql a1 0)
 else
 some false) fun y32 =>
 if y32 = true then
 if (Inb 0 (lenI a0_2)) then
 some ((-9223372036854775808), (arReal .sub .i64 (gI a0_2 0 0) 1))
 else none
 else
 Option.bind (α := Bool) (
 if (cmpLit .eql a0_1 8) = true then
 some (cmpLit .eql a1 (arReal .sub .i64 x15 1))
 else
 some false) fun y34 =>
 if y34 = true then
 if (Inb 1 (lenI a0_2)) then
 some ((gI a0_2 1 0), 9223372036854775807)
 else none
 else
 Option.bind (α := Bool) (
 if (cmpLit .eql a0_1 9) = true then
 some (cmpLit .eql a1 0)
 else
 some false) fun y36 =>
 if y36 = true then
 if (Inb 0 (lenI a0_2)) then
 if (Inb 1 (lenI a0_2)) then
 (d35 (gI a0_2 0 0) (gI a0_2 1 0)).bind fun x38 =>
 some ((-9223372036854775808), (arReal .sub .i64 x38 1))
 else none
 else none
 else
 Option.bind (α := Bool) (
 if (cmpLit .eql a0_1 9) = true then
 some (cmpLit .eql a1 (arReal .sub .i64 x15 1))
 else
 some false) fun y39 =>
 if y39 = true then
 if (Inb 0 (lenI a0_2)) then
 if (Inb 2 (lenI a0_2)) then
 (d35 (gI a0_2 0 0) (arReal .add .i64 (gI a0_2 2 0) 1)).bind fun x41 =>
 some (x41, 9223372036854775807)
 else none
 else none
 else
 (d36 a0_0 a0_1 a0_2 a0_3 a1).bind fun x42 =>
 some (x42.1, x42.2)) fun y29 =>
 if (cmpLit .gtr y29.1 y29.2) = true then
 some (0, 0, false, 0)
 else
 some (y29.1, y29.2, true, 0)
noncomputable def w12_c : Code := (Try.f12.body).getD .skip
theorem w12_h : Try.f12.body = some w12_c := by kernel_rfl
theorem w12 (a0_0 : ByteArray) (a0_1 : Int) (a0_2 : List V) (a0_3 : List V) (a1 : Int) (r : Int × Int × Bool × Int) (h : d12 a0_0 a0_1 a0_2 a0_3 a1 = some r) : Ab.Fn Try.prog TT 12 [.agg [.str a0_0, .i .i64 a0_1, .sl 2 a0_2, .sl 74 a0_3], .i .i64 a1] (.tup [.i .i64 r.1, .i .i64 r.2.1, .b r.2.2.1, .i .i64 r.2.2.2]) [] := by
 refine fn_pure tok (fun r => match r with | 17 => [[],[0],[0,1],[],[3],[3,4],[0,1,2,3,4,5],[0,1,2,3,4,5,6],[0,1,2,3,4,5,6,7]] | 19 => [[],[0],[0,1],[],[3],[3,4],[3,4,5],[0,1,2,3,4,5,6],[0,1,2,3,4,5,6,7]] | _ => []) Try.func12 (by kernel_rfl) w12_h (by kernel_rfl) ?_
 intro _ _ _ _ _ _ _ _ _ _ _ _ _ _ _ _ _ _ _ _ _ _ _ _ _ _ _ _ _ _ _ _ _ _ _ _ _ _ _ _ _ E R K hK
 have D := E.D
 clear E
 have S := And.intro D.har (And.intro D.hcmp (And.intro D.hgi (And.intro D.hinb (And.intro D.hlen (D.hnt)))))
 unfold d12 at h
 cbv
 refine R.cut' (by kernel_rfl) (by kernel_rfl) ?_
 cbv
 refine R.callD h (fun x2 hx2 h2 => ?_)
 clear h; have h := h2; clear h2
 refine R.call' (w22 _ _ _ _ _ hx2) (by first|(simp only [S]<;>rfl)|rfl) ?_
 clear hx2; cbv
 refine R.brD h (by first|(simp only [S]<;>rfl)|rfl) ?_ ?_<;>clear h<;>intro h<;>cbv
 ·have e := ret_some h; clear h
  refine hK _ _ ?_
  cbv
  try (subst e; simp only [S, and_self, and_true, true_and] <;> (repeat' apply And.intro) <;> rfl)
 ·as_aux_lemma =>
  refine R.cut' (by kernel_rfl) (by kernel_rfl) ?_
  cbv
  refine R.cut' (by kernel_rfl) (by kernel_rfl) ?_
  cbv
  refine R.callD h (fun x12 hx12 h2 => ?_)
  clear h; have h := h2; clear h2
  refine R.call' (w31 _ _ _ _ _ hx12) (by first|(simp only [S]<;>rfl)|rfl) ?_
  clear hx12; cbv
  refine R.brD h (by first|(simp only [S]<;>rfl)|rfl) ?_ ?_<;>clear h<;>intro h<;>cbv
  ·have e := ret_some h; clear h
   refine hK _ _ ?_
   cbv
   try (subst e; simp only [S, and_self, and_true, true_and] <;> (repeat' apply And.intro) <;> rfl)
  ·as_aux_lemma =>
   refine R.callD h (fun x13 hx13 h2 => ?_)
   clear h; have h := h2; clear h2
   refine R.call' (w34 _ _ _ _ _ hx13) (by first|(simp only [S]<;>rfl)|rfl) ?_
   clear hx13; cbv
   refine R.callD h (fun x14 hx14 h2 => ?_)
   clear h; have h := h2; clear h2
   refine R.call' (w33 _ _ _ _ hx14) (by first|(simp only [S]<;>rfl)|rfl) ?_
   clear hx14; cbv
   refine R.brD h (by first|(simp only [S]<;>rfl)|rfl) ?_ ?_<;>clear h<;>intro h<;>cbv
   ·have e := ret_some h; clear h
    refine hK _ _ ?_
    cbv
    try (subst e; simp only [S, and_self, and_true, true_and] <;> (repeat' apply And.intro) <;> rfl)
   ·as_aux_lemma =>
    refine R.callD h (fun x15 hx15 h2 => ?_)
    clear h; have h := h2; clear h2
    refine R.call' (w34 _ _ _ _ _ hx15) (by first|(simp only [S]<;>rfl)|rfl) ?_
    clear hx15; cbv
    refine R.cutB (fun p => p) (fun _ _ e => e) h [] (fun p43 => [(11, .i .i64 p43.1), (12, .i .i64 p43.2)]) (fun p43 => []) (by kernel_rfl) (by kernel_rfl) (fun y29 hy hFy29 L hLy29 => ?_) (fun p43 h2 => ?_)
    ·as_aux_lemma =>
     clear h; have h := hy; clear hy; cbv
     refine R.cutB (fun p => p) (fun _ _ e => e) h [] (fun p31 => [(40, .b p31)]) (fun p31 => []) (by kernel_rfl) (by kernel_rfl) (fun y30 hy hFy30 L hLy30 => ?_) (fun p31 h2 => ?_)
     ·clear h; have h := hy; clear hy; cbv
      refine R.brD h (by first|(simp only [S]<;>rfl)|rfl) ?_ ?_<;>clear h<;>intro h<;>cbv
      ·obtain ⟨s', e, hi⟩ := jn_some (fun p => p) h
       refine hLy30 s' _ _ hi ⟨by kernel_rfl, ?_, ?_, by kernel_rfl, by kernel_rfl⟩<;>cbv<;>(try (subst e;simp only [S,and_self,and_true,true_and]<;>(repeat' apply And.intro)<;>rfl))
      ·obtain ⟨s', e, hi⟩ := jn_some (fun p => p) h
       refine hLy30 s' _ _ hi ⟨by kernel_rfl, ?_, ?_, by kernel_rfl, by kernel_rfl⟩<;>cbv<;>(try (subst e;simp only [S,and_self,and_true,true_and]<;>(repeat' apply And.intro)<;>rfl))
     ·as_aux_lemma =>
      clear h; have h := h2; clear h2; try dsimp only at h
      cbv
      refine R.brD h (by first|(simp only [S]<;>rfl)|rfl) ?_ ?_<;>clear h<;>intro h<;>cbv
      ·obtain ⟨s', e, hi⟩ := jn_some (fun p => p) h
       refine hLy29 s' _ _ hi ⟨by kernel_rfl, ?_, ?_, by kernel_rfl, by kernel_rfl⟩<;>cbv<;>(try (subst e;simp only [S,and_self,and_true,true_and]<;>(repeat' apply And.intro)<;>rfl))
      ·as_aux_lemma =>
       refine R.cutB (fun p => p) (fun _ _ e => e) h [] (fun p33 => [(48, .b p33)]) (fun p33 => []) (by kernel_rfl) (by kernel_rfl) (fun y32 hy hFy32 L hLy32 => ?_) (fun p33 h2 => ?_)
       ·clear h; have h := hy; clear hy; cbv
        refine R.brD h (by first|(simp only [S]<;>rfl)|rfl) ?_ ?_<;>clear h<;>intro h<;>cbv
        ·obtain ⟨s', e, hi⟩ := jn_some (fun p => p) h
         refine hLy32 s' _ _ hi ⟨by kernel_rfl, ?_, ?_, by kernel_rfl, by kernel_rfl⟩<;>cbv<;>(try (subst e;simp only [S,and_self,and_true,true_and]<;>(repeat' apply And.intro)<;>rfl))
        ·obtain ⟨s', e, hi⟩ := jn_some (fun p => p) h
         refine hLy32 s' _ _ hi ⟨by kernel_rfl, ?_, ?_, by kernel_rfl, by kernel_rfl⟩<;>cbv<;>(try (subst e;simp only [S,and_self,and_true,true_and]<;>(repeat' apply And.intro)<;>rfl))
       ·as_aux_lemma =>
        clear h; have h := h2; clear h2; try dsimp only at h
        cbv
        refine R.brD h (by first|(simp only [S]<;>rfl)|rfl) ?_ ?_<;>clear h<;>intro h<;>cbv
        ·refine R.needD h (by first|(simp only [S]<;>rfl)|rfl) ?_
         clear h; intro h; cbv
         obtain ⟨s', e, hi⟩ := jn_some (fun p => p) h
         refine hLy29 s' _ _ hi ⟨by kernel_rfl, ?_, ?_, by kernel_rfl, by kernel_rfl⟩<;>cbv<;>(try (subst e;simp only [S,and_self,and_true,true_and]<;>(repeat' apply And.intro)<;>rfl))
        ·as_aux_lemma =>
         refine R.cutB (fun p => p) (fun _ _ e => e) h [] (fun p35 => [(60, .b p35)]) (fun p35 => []) (by kernel_rfl) (by kernel_rfl) (fun y34 hy hFy34 L hLy34 => ?_) (fun p35 h2 => ?_)
         ·clear h; have h := hy; clear hy; cbv
          refine R.brD h (by first|(simp only [S]<;>rfl)|rfl) ?_ ?_<;>clear h<;>intro h<;>cbv
          ·obtain ⟨s', e, hi⟩ := jn_some (fun p => p) h
           refine hLy34 s' _ _ hi ⟨by kernel_rfl, ?_, ?_, by kernel_rfl, by kernel_rfl⟩<;>cbv<;>(try (subst e;simp only [S,and_self,and_true,true_and]<;>(repeat' apply And.intro)<;>rfl))
          ·obtain ⟨s', e, hi⟩ := jn_some (fun p => p) h
           refine hLy34 s' _ _ hi ⟨by kernel_rfl, ?_, ?_, by kernel_rfl, by kernel_rfl⟩<;>cbv<;>(try (subst e;simp only [S,and_self,and_true,true_and]<;>(repeat' apply And.intro)<;>rfl))
         ·as_aux_lemma =>
          clear h; have h := h2; clear h2; try dsimp only at h
          cbv
          refine R.brD h (by first|(simp only [S]<;>rfl)|rfl) ?_ ?_<;>clear h<;>intro h<;>cbv
          ·refine R.needD h (by first|(simp only [S]<;>rfl)|rfl) ?_
           clear h; intro h; cbv
           obtain ⟨s', e, hi⟩ := jn_some (fun p => p) h
           refine hLy29 s' _ _ hi ⟨by kernel_rfl, ?_, ?_, by kernel_rfl, by kernel_rfl⟩<;>cbv<;>(try (subst e;simp only [S,and_self,and_true,true_and]<;>(repeat' apply And.intro)<;>rfl))
          ·as_aux_lemma =>
           refine R.cutB (fun p => p) (fun _ _ e => e) h [] (fun p37 => [(72, .b p37)]) (fun p37 => []) (by kernel_rfl) (by kernel_rfl) (fun y36 hy hFy36 L hLy36 => ?_) (fun p37 h2 => ?_)
           ·clear h; have h := hy; clear hy; cbv
            refine R.brD h (by first|(simp only [S]<;>rfl)|rfl) ?_ ?_<;>clear h<;>intro h<;>cbv
            ·obtain ⟨s', e, hi⟩ := jn_some (fun p => p) h
             refine hLy36 s' _ _ hi ⟨by kernel_rfl, ?_, ?_, by kernel_rfl, by kernel_rfl⟩<;>cbv<;>(try (subst e;simp only [S,and_self,and_true,true_and]<;>(repeat' apply And.intro)<;>rfl))
            ·obtain ⟨s', e, hi⟩ := jn_some (fun p => p) h
             refine hLy36 s' _ _ hi ⟨by kernel_rfl, ?_, ?_, by kernel_rfl, by kernel_rfl⟩<;>cbv<;>(try (subst e;simp only [S,and_self,and_true,true_and]<;>(repeat' apply And.intro)<;>rfl))
           ·clear h; have h := h2; clear h2; try dsimp only at h
            cbv
            refine R.brD h (by first|(simp only [S]<;>rfl)|rfl) ?_ ?_<;>clear h<;>intro h<;>cbv
            ·refine R.needD h (by first|(simp only [S]<;>rfl)|rfl) ?_
             clear h; intro h; cbv
             refine R.needD h (by first|(simp only [S]<;>rfl)|rfl) ?_
             clear h; intro h; cbv
             refine R.callD h (fun x38 hx38 h2 => ?_)
             clear h; have h := h2; clear h2
             refine R.call' (w35 _ _ _ hx38) (by first|(simp only [S]<;>rfl)|rfl) ?_
             clear hx38; cbv
             obtain ⟨s', e, hi⟩ := jn_some (fun p => p) h
             refine hLy29 s' _ _ hi ⟨by kernel_rfl, ?_, ?_, by kernel_rfl, by kernel_rfl⟩<;>cbv<;>(try (subst e;simp only [S,and_self,and_true,true_and]<;>(repeat' apply And.intro)<;>rfl))
            ·refine R.cutB (fun p => p) (fun _ _ e => e) h [] (fun p40 => [(88, .b p40)]) (fun p40 => []) (by kernel_rfl) (by kernel_rfl) (fun y39 hy hFy39 L hLy39 => ?_) (fun p40 h2 => ?_)
             ·clear h; have h := hy; clear hy; cbv
              refine R.brD h (by first|(simp only [S]<;>rfl)|rfl) ?_ ?_<;>clear h<;>intro h<;>cbv
              ·obtain ⟨s', e, hi⟩ := jn_some (fun p => p) h
               refine hLy39 s' _ _ hi ⟨by kernel_rfl, ?_, ?_, by kernel_rfl, by kernel_rfl⟩<;>cbv<;>(try (subst e;simp only [S,and_self,and_true,true_and]<;>(repeat' apply And.intro)<;>rfl))
              ·obtain ⟨s', e, hi⟩ := jn_some (fun p => p) h
               refine hLy39 s' _ _ hi ⟨by kernel_rfl, ?_, ?_, by kernel_rfl, by kernel_rfl⟩<;>cbv<;>(try (subst e;simp only [S,and_self,and_true,true_and]<;>(repeat' apply And.intro)<;>rfl))
             ·clear h; have h := h2; clear h2; try dsimp only at h
              cbv
              refine R.brD h (by first|(simp only [S]<;>rfl)|rfl) ?_ ?_<;>clear h<;>intro h<;>cbv
              ·refine R.needD h (by first|(simp only [S]<;>rfl)|rfl) ?_
               clear h; intro h; cbv
               refine R.needD h (by first|(simp only [S]<;>rfl)|rfl) ?_
               clear h; intro h; cbv
               refine R.callD h (fun x41 hx41 h2 => ?_)
               clear h; have h := h2; clear h2
               refine R.call' (w35 _ _ _ hx41) (by first|(simp only [S]<;>rfl)|rfl) ?_
               clear hx41; cbv
               obtain ⟨s', e, hi⟩ := jn_some (fun p => p) h
               refine hLy29 s' _ _ hi ⟨by kernel_rfl, ?_, ?_, by kernel_rfl, by kernel_rfl⟩<;>cbv<;>(try (subst e;simp only [S,and_self,and_true,true_and]<;>(repeat' apply And.intro)<;>rfl))
              ·refine R.callD h (fun x42 hx42 h2 => ?_)
               clear h; have h := h2; clear h2
               refine R.call' (w36 _ _ _ _ _ _ hx42) (by first|(simp only [S]<;>rfl)|rfl) ?_
               clear hx42; cbv
               obtain ⟨s', e, hi⟩ := jn_some (fun p => p) h
               refine hLy29 s' _ _ hi ⟨by kernel_rfl, ?_, ?_, by kernel_rfl, by kernel_rfl⟩<;>cbv<;>(try (subst e;simp only [S,and_self,and_true,true_and]<;>(repeat' apply And.intro)<;>rfl))
    ·clear h; have h := h2; clear h2; try dsimp only at h
     cbv
     refine R.cut' (by kernel_rfl) (by kernel_rfl) ?_
     cbv
     refine R.brD h (by first|(simp only [S]<;>rfl)|rfl) ?_ ?_<;>clear h<;>intro h<;>cbv
     ·have e := ret_some h; clear h
      refine hK _ _ ?_
      cbv
      try (subst e; simp only [S, and_self, and_true, true_and] <;> (repeat' apply And.intro) <;> rfl)
     ·have e := ret_some h; clear h
      refine hK _ _ ?_
      cbv
      try (subst e; simp only [S, and_self, and_true, true_and] <;> (repeat' apply And.intro) <;> rfl)
noncomputable def d111 (a0 : Int) (a1 : Int) (a2 : Int) : Option (Bool) :=
 if (cmpLit .geq a0 a1) = true then
 some (cmpLit .leq a0 a2)
 else
 some false
noncomputable def w111_c : Code := (Try.f111.body).getD .skip
theorem w111_h : Try.f111.body = some w111_c := by kernel_rfl
theorem w111 (a0 : Int) (a1 : Int) (a2 : Int) (r : Bool) (h : d111 a0 a1 a2 = some r) : Ab.Fn Try.prog TT 111 [.i .i64 a0, .i .i64 a1, .i .i64 a2] (.b r) [] := by
 refine fn_pure tok W0 Try.func111 (by kernel_rfl) w111_h (by kernel_rfl) ?_
 intro _ _ _ _ _ _ _ _ _ _ _ _ _ _ _ _ _ _ _ _ _ _ _ _ _ _ _ _ _ _ _ _ _ _ _ _ _ _ _ _ _ E R K hK
 have D := E.D
 clear E
 unfold d111 at h
 cbv
 refine R.cut' (by kernel_rfl) (by kernel_rfl) ?_
 cbv
 refine R.brD h (by first | (simp only [D.hcmp] <;> rfl) | rfl) ?_ ?_<;>clear h<;>intro h<;>cbv
 ·have e := ret_some h; clear h
  refine hK _ _ ?_
  cbv
  try (subst e; simp only [D.hcmp, and_self, and_true, true_and] <;> (repeat' apply And.intro) <;> rfl)
 ·have e := ret_some h; clear h
  refine hK _ _ ?_
  cbv
  try (subst e; simp only [D.hcmp, and_self, and_true, true_and] <;> (repeat' apply And.intro) <;> rfl)
noncomputable def d73 (a0 : Int) (a1 : Int) (a2 : Int) : Option (Int) :=
 if (Ne0 (wrapK .u64 a2)) then
 some (arReal .quo .u64 (arReal .sub .u64 (arReal .add .u64 (arReal .sub .u64 (wrapK .u64 a1) (wrapK .u64 a0)) (wrapK .u64 a2)) 1) (wrapK .u64 a2))
 else none
noncomputable def w73_c : Code := (Try.f73.body).getD .skip
theorem w73_h : Try.f73.body = some w73_c := by kernel_rfl
theorem w73 (a0 : Int) (a1 : Int) (a2 : Int) (r : Int) (h : d73 a0 a1 a2 = some r) : Ab.Fn Try.prog TT 73 [.i .i64 a0, .i .i64 a1, .i .i64 a2] (.i .u64 r) [] := by
 refine fn_pure tok W0 Try.func73 (by kernel_rfl) w73_h (by kernel_rfl) ?_
 intro _ _ _ _ _ _ _ _ _ _ _ _ _ _ _ _ _ _ _ _ _ _ _ _ _ _ _ _ _ _ _ _ _ _ _ _ _ _ _ _ _ E R K hK
 have D := E.D
 clear E
 have S := And.intro D.har (And.intro D.hcv (D.hne0))
 unfold d73 at h
 cbv
 refine R.needD h (by first|(simp only [S]<;>rfl)|rfl) ?_
 clear h; intro h; cbv
 have e := ret_some h; clear h
 refine hK _ _ ?_
 cbv
 try (subst e; simp only [S, and_self, and_true, true_and] <;> (repeat' apply And.intro) <;> rfl)
noncomputable def d45_b1 (a0 : Int) (a1 : Int) (s4 : Int × Int) : Option ((Int × Int) ⊕ ((Int) ⊕ (Int))) :=
 if (cmpLit .lss s4.2 a1) = true then
 if (Ne0 a0) then
 if (cmpLit .gtr s4.1 (arReal .quo .i64 4611686018427387904 a0)) = true then
 some (.inr (.inl 4611686018427387905))
 else
 some (.inl ((arReal .mul .i64 s4.1 a0), (arReal .add .i64 s4.2 1)))
 else none
 else
 some (.inr (.inr s4.1))
noncomputable def d45 (a0 : Int) (a1 : Int) : Option (Int) :=
 Option.bind (α := (Int) ⊕ (Int)) (
 (iter (d45_b1 a0 a1) (1, 0)).bind fun y5 =>
 match y5 with
 | .inl p6 =>
 some (.inr p6)
 | .inr y5r0 =>
 some (.inl y5r0)) fun y3 =>
 match y3 with
 | .inl p8 =>
 some p8
 | .inr y3r0 =>
 some y3r0
noncomputable def w45_c : Code := (Try.f45.body).getD .skip
theorem w45_h : Try.f45.body = some w45_c := by kernel_rfl
theorem w45 (a0 : Int) (a1 : Int) (r : Int) (h : d45 a0 a1 = some r) : Ab.Fn Try.prog TT 45 [.i .i64 a0, .i .i64 a1] (.i .i64 r) [] := by
 refine fn_pure tok W0 Try.func45 (by kernel_rfl) w45_h (by kernel_rfl) ?_
 intro _ _ _ _ _ _ _ _ _ _ _ _ _ _ _ _ _ _ _ _ _ _ _ _ _ _ _ _ _ _ _ _ _ _ _ _ _ _ _ _ _ E R K hK
 have D := E.D
 clear E
 have S := And.intro D.har (And.intro D.hcmp (D.hne0))
 unfold d45 at h
 cbv
 refine R.cutB Sum.inl (fun _ _ e => Sum.inl.inj e) h [] (fun p8 => [(5, .i .i64 p8)]) (fun p8 => []) (by kernel_rfl) (by kernel_rfl) (fun y3 hy hFy3 L hLy3 => ?_) (fun p8 h2 => ?_)
 ·clear h; have h := hy; clear hy; cbv
  refine R.loopD h (fun s0 y5 e0 hi hFs4 => ?_)
  clear h
  refine R.loopI hi [] (fun s4 => [(5, .i .i64 s4.1), (6, .i .i64 s4.2)]) (fun s4 => []) ⟨by kernel_rfl, ?_, ?_, by kernel_rfl, by kernel_rfl⟩ (by kernel_rfl) ?_
  ·cbv; try (subst e0; simp only [S, and_self, and_true, true_and] <;> (repeat' apply And.intro) <;> rfl)
  ·cbv; try (subst e0; simp only [S, and_self, and_true, true_and] <;> (repeat' apply And.intro) <;> rfl)
  clear hi e0
  intro s4 m y' hy hins4 houts4 L hLs4
  have h := hy; clear hy; unfold d45_b1 at h
  cbv
  refine R.cut' (by kernel_rfl) (by kernel_rfl) ?_
  cbv
  refine R.brD h (by first|(simp only [S]<;>rfl)|rfl) ?_ ?_<;>clear h<;>intro h<;>cbv
  ·refine R.cut' (by kernel_rfl) (by kernel_rfl) ?_
   cbv
   refine R.cut' (by kernel_rfl) (by kernel_rfl) ?_
   cbv
   refine R.needD h (by first|(simp only [S]<;>rfl)|rfl) ?_
   clear h; intro h; cbv
   refine R.brD h (by first|(simp only [S]<;>rfl)|rfl) ?_ ?_<;>clear h<;>intro h<;>cbv
   ·have e := inr_some h houts4; clear h
    have h := hFs4; rw [e] at h; clear e; try dsimp only at h
    cbv
    have e := ret_some h; clear h
    have h := hFy3; rw [e] at h; clear e; try dsimp only at h
    cbv
    have e := ret_some h; clear h
    refine hK _ _ ?_
    cbv
    try (subst e; simp only [S, and_self, and_true, true_and] <;> (repeat' apply And.intro) <;> rfl)
   ·obtain ⟨s', e, hi⟩ := inl_some h hins4
    refine hLs4 s' _ _ hi ⟨by kernel_rfl, ?_, ?_, by kernel_rfl, by kernel_rfl⟩<;>cbv<;>(try (subst e;simp only [S,and_self,and_true,true_and]<;>(repeat' apply And.intro)<;>rfl))
  ·have e := inr_some h houts4; clear h
   have h := hFs4; rw [e] at h; clear e; try dsimp only at h
   cbv
   obtain ⟨s', e, hi⟩ := jn_some Sum.inl h
   refine hLy3 s' _ _ hi ⟨by kernel_rfl, ?_, ?_, by kernel_rfl, by kernel_rfl⟩<;>cbv<;>(try (subst e;simp only [S,and_self,and_true,true_and]<;>(repeat' apply And.intro)<;>rfl))
 ·clear h; have h := h2; clear h2; try dsimp only at h
  cbv
  have e := ret_some h; clear h
  refine hK _ _ ?_
  cbv
  try (subst e; simp only [S, and_self, and_true, true_and] <;> (repeat' apply And.intro) <;> rfl)
end Go.Proofs.Ytmofhbedamjblaa
end
section
namespace Go.Proofs.Ytmofhbedamjblaa
open Go.Ab Go.RowKit 
set_option maxRecDepth 100000
set_option maxHeartbeats 40000000
noncomputable def d71 (a0_0 : ByteArray) (a0_1 : Int) (a0_2 : List V) (a0_3 : List V) : Option (Bool) :=
 if (cmpLit .eql a0_1 8) = true then
 Option.bind (α := Bool) (
 if (cmpLit .neq (lenI a0_2) 3) = true then
 some true
 else
 if (Inb 2 (lenI a0_2)) then
 (d111 (gI a0_2 2 0) 1 4611686018427387904).bind fun x21 =>
 if (notB' x21) = true then
 some true
 else
 if (Inb 0 (lenI a0_2)) then
 (d111 (gI a0_2 0 0) (-4611686018427387904) 4611686018427387904).bind fun x22 =>
 if (notB' x22) = true then
 some true
 else
 if (Inb 1 (lenI a0_2)) then
 (d111 (gI a0_2 1 0) (-4611686018427387904) 4611686018427387904).bind fun x23 =>
 if (notB' x23) = true then
 some true
 else
 if (Inb 1 (lenI a0_2)) then
 if (Inb 0 (lenI a0_2)) then
 some (cmpLit .leq (gI a0_2 1 0) (gI a0_2 0 0))
 else none
 else none
 else none
 else none
 else none) fun y20 =>
 if y20 = true then
 some false
 else
 if (Inb 0 (lenI a0_2)) then
 if (Inb 1 (lenI a0_2)) then
 if (Inb 2 (lenI a0_2)) then
 (d73 (gI a0_2 0 0) (gI a0_2 1 0) (gI a0_2 2 0)).bind fun x25 =>
 some (cmpLit .leq x25 100)
 else none
 else none
 else none
 else
 if (cmpLit .eql a0_1 9) = true then
 Option.bind (α := Bool) (
 if (cmpLit .neq (lenI a0_2) 4) = true then
 some true
 else
 if (Inb 0 (lenI a0_2)) then
 (d111 (gI a0_2 0 0) 2 100).bind fun x51 =>
 if (notB' x51) = true then
 some true
 else
 if (Inb 1 (lenI a0_2)) then
 (d111 (gI a0_2 1 0) 0 18).bind fun x52 =>
 if (notB' x52) = true then
 some true
 else
 if (Inb 2 (lenI a0_2)) then
 if (Inb 1 (lenI a0_2)) then
 (d111 (gI a0_2 2 0) (gI a0_2 1 0) 18).bind fun x53 =>
 if (notB' x53) = true then
 some true
 else
 if (Inb 3 (lenI a0_2)) then
 (d111 (gI a0_2 3 0) 1 100).bind fun x54 =>
 some (notB' x54)
 else none
 else none
 else none
 else none
 else none) fun y50 =>
 if y50 = true then
 some false
 else
 if (Inb 0 (lenI a0_2)) then
 if (Inb 2 (lenI a0_2)) then
 (d45 (gI a0_2 0 0) (arReal .add .i64 (gI a0_2 2 0) 1)).bind fun x57 =>
 if (cmpLit .leq x57 4611686018427387904) = true then
 if (Inb 2 (lenI a0_2)) then
 if (Inb 1 (lenI a0_2)) then
 if (Inb 3 (lenI a0_2)) then
 some (cmpLit .leq (arReal .mul .i64 (arReal .add .i64 (arReal .sub .i64 (gI a0_2 2 0) (gI a0_2 1 0)) 1) (gI a0_2 3 0)) 1000)
 else none
 else none
 else none
 else
 some false
 else none
 else none
 else
 some (cmpLit .eql (lenI a0_2) 0)
noncomputable def w71_c : Code := (Try.f71.body).getD .skip
theorem w71_h : Try.f71.body = some w71_c := by kernel_rfl
theorem w71 (a0_0 : ByteArray) (a0_1 : Int) (a0_2 : List V) (a0_3 : List V) (r : Bool) (h : d71 a0_0 a0_1 a0_2 a0_3 = some r) : Ab.Fn Try.prog TT 71 [.agg [.str a0_0, .i .i64 a0_1, .sl 2 a0_2, .sl 74 a0_3]] (.b r) [] := by
 refine fn_pure tok (fun r => match r with | 3 => [[],[0],[0,1],[0,1,2],[0,1,2,3],[0,1,2,3,4],[0,1,2,3,4,5],[0,1,2,3,4,5,6],[0,1,2,3,4,5,6,7],[0,1,2,3,4,5,6,7,8],[0,1,2,3,4,5,6,7,8,9],[0,1,2,3,4,5,6,7,8,9,10],[0,1,2,3,4,5,6,7,8,9,10,11],[0,1,2,3,4,5,6,7,8,9,10,11,12],[0,1,2,3,4,5,6,7,8,9,10,11,12,13],[0,1,2,3,4,5,6,7,8,9,10,11,12,13,14],[0,1,2,3,4,5,6,7,8,9,10,11,12,13,14,15],[0,1,2,3,4,5,6,7,8,9,10,11,12,13,14,15,16],[0,1,2,3,4,5,6,7,8,9,10,11,12,13,14,15,16,17],[0,1,2,3,4,5,6,7,8,9,10,11,12,13,14,15,16,17,18],[0,1,2,3,4,5,6,7,8,9,10,11,12,13,14,15,16,17,18,19],[0,1,2,3,4,5,6,7,8,9,10,11,12,13,14,15,16,17,18,19,20],[0,1,2,3,4,5,6,7,8,9,10,11,12,13,14,15,16,17,18,19,20,21],[0,1,2,3,4,5,6,7,8,9,10,11,12,13,14,15,16,17,18,19,20,21,22],[0,1,2,3,4,5,6,7,8,9,10,11,12,13,14,15,16,17,18,19,20,21,22,23],[0,1,2,3,4,5,6,7,8,9,10,11,12,13,14,15,16,17,18,19,20,21,22,23,24],[0,1,2,3,4,5,6,7,8,9,10,11,12,13,14,15,16,17,18,19,20,21,22,23,24,25],[0,1,2,3,4,5,6,7,8,9,10,11,12,13,14,15,16,17,18,19,20,21,22,23,24,25,26],[0,1,2,3,4,5,6,7,8,9,10,11,12,13,14,15,16,17,18,19,20,21,22,23,24],[0,1,2,3,4,5,6,7,8,9,10,11,12,13,14,15,16,17,18,19,20,21,22,23,24,28],[0,1,2,3,4,5,6,7,8,9,10,11,12,13,14,15,16,17,18,19,20,21,22,23,24,28,29],[0,1,2,3,4,5,6,7,8,9,10,11,12,13,14,15,16,17,18,19,20,21,22,23,24,25,26,27,28,29,30],[0,1,2,3,4,5,6,7,8,9,10,11,12,13,14,15,16,17,18,19,20,21,22,23,24,25,26,27,28,29,30,31]] | 5 => [[],[0],[0,1],[],[3],[3,4],[],[6],[6,7],[0,1,2,3,4,5,6,7,8],[0,1,2,3,4,5,6,7,8,9],[0,1,2,3,4,5,6,7,8,9,10]] | 7 => [[],[0],[0,1],[0,1,2],[0,1,2,3],[0,1,2,3,4],[0,1,2,3,4,5],[0,1,2,3,4,5,6],[0,1,2,3,4,5,6,7],[0,1,2,3,4,5,6,7,8],[0,1,2,3,4,5,6,7,8,9],[0,1,2,3,4,5,6,7,8,9,10],[0,1,2,3,4,5,6,7,8,9,10,11],[0,1,2,3,4,5,6,7,8,9,10,11,12],[0,1,2,3,4,5,6,7,8,9,10,11,12,13],[0,1,2,3,4,5,6,7,8,9,10,11,12,13,14],[0,1,2,3,4,5,6,7,8,9,10,11,12,13,14,15],[0,1,2,3,4,5,6,7,8,9,10,11,12,13,14,15,16],[0,1,2,3,4,5,6,7,8,9,10,11,12,13,14,15,16,17],[0,1,2,3,4,5,6,7,8,9,10,11,12,13,14,15,16,17,18],[0,1,2,3,4,5,6,7,8,9,10,11,12,13,14,15,16,17,18,19],[0,1,2,3,4,5,6,7,8,9,10,11,12,13,14,15,16,17],[0,1,2,3,4,5,6,7,8,9,10,11,12,13,14,15,16,17,21],[0,1,2,3,4,5,6,7,8,9,10,11,12,13,14,15,16,17,21,22],[0,1,2,3,4,5,6,7,8,9,10,11,12,13,14,15,16,17,18,19,20,21,22,23],[0,1,2,3,4,5,6,7,8,9,10,11,12,13,14,15,16,17,18,19,20,21,22,23,24],[0,1,2,3,4,5,6,7,8,9,10,11,12,13,14,15,16,17,18,19,20,21,22,23,24,25],[0,1,2,3,4,5,6,7,8,9,10,11,12,13,14,15,16,17,18,19,20,21,22,23,24,25,26],[0,1,2,3,4,5,6,7,8,9,10,11,12,13,14,15,16,17,18,19,20,21,22,23,24,25,26,27],[0,1,2,3,4,5,6,7,8,9,10,11,12,13,14,15,16,17,18,19,20,21,22,23,24,25,26,27,28],[0,1,2,3,4,5,6,7,8,9,10,11,12,13,14,15,16,17,18,19,20,21,22,23,24,25,26,27,28,29],[0,1,2,3,4,5,6,7,8,9,10,11,12,13,14,15,16,17,18,19,20,21,22,23,24,25,26,27,28,29,30],[0,1,2,3,4,5,6,7,8,9,10,11,12,13,14,15,16,17,18,19,20,21,22,23,24,25,26,27,28,29,30,31],[0,1,2,3,4,5,6,7,8,9,10,11,12,13,14,15,16,17,18,19,20,21,22,23,24,25,26,27,28,29,30,31,32]] | 9 => [[],[0],[0,1],[],[3],[3,4],[3,4,5],[0,1,2,3,4,5,6],[0,1,2,3,4,5,6,7],[0,1,2,3,4,5,6,7,8],[0,1,2,3,4,5,6,7,8,9],[0,1,2,3,4,5,6,7,8,9,10],[0,1,2,3,4,5,6,7,8,9,10,11],[0,1,2,3,4,5,6,7,8,9],[0,1,2,3,4,5,6,7,8,9,13],[0,1,2,3,4,5,6,7,8,9,13,14],[0,1,2,3,4,5,6,7,8,9,10,11,12,13,14,15],[0,1,2,3,4,5,6,7,8,9,10,11,12,13,14,15,16],[0,1,2,3,4,5,6,7,8,9],[0,1,2,3,4,5,6,7,8,9,18],[0,1,2,3,4,5,6,7,8,9,18,19],[0,1,2,3,4,5,6,7,8,9,10,11,12,13,14,15,16,17,18,19,20],[0,1,2,3,4,5,6,7,8,9,10,11,12,13,14,15,16,17,18,19,20,21],[0,1,2,3,4,5,6,7,8,9,10,11,12,13,14,15,16,17,18,19,20,21,22],[0,1,2,3,4,5,6,7,8,9,10,11,12,13,14,15,16,17,18,19,20,21,22,23]] | _ => []) Try.func71 (by kernel_rfl) w71_h (by kernel_rfl) ?_
 intro _ _ _ _ _ _ _ _ _ _ _ _ _ _ _ _ _ _ _ _ _ _ _ _ _ _ _ _ _ _ _ _ _ _ _ _ _ _ _ _ _ E R K hK
 have D := E.D
 clear E
 have S := And.intro D.har (And.intro D.hcmp (And.intro D.hgi (And.intro D.hinb (And.intro D.hlen (D.hnt)))))
 unfold d71 at h
 cbv
 refine R.cut' (by kernel_rfl) (by kernel_rfl) ?_
 cbv
 refine R.brD h (by first|(simp only [S]<;>rfl)|rfl) ?_ ?_<;>clear h<;>intro h<;>cbv
 ·refine R.cut' (by kernel_rfl) (by kernel_rfl) ?_
  cbv
  refine R.cutB (fun p => p) (fun _ _ e => e) h [] (fun p24 => [(41, .b p24)]) (fun p24 => []) (by kernel_rfl) (by kernel_rfl) (fun y20 hy hFy20 L hLy20 => ?_) (fun p24 h2 => ?_)
  ·clear h; have h := hy; clear hy; cbv
   refine R.brD h (by first|(simp only [S]<;>rfl)|rfl) ?_ ?_<;>clear h<;>intro h<;>cbv
   ·obtain ⟨s', e, hi⟩ := jn_some (fun p => p) h
    refine hLy20 s' _ _ hi ⟨by kernel_rfl, ?_, ?_, by kernel_rfl, by kernel_rfl⟩<;>cbv<;>(try (subst e;simp only [S,and_self,and_true,true_and]<;>(repeat' apply And.intro)<;>rfl))
   ·refine R.needD h (by first|(simp only [S]<;>rfl)|rfl) ?_
    clear h; intro h; cbv
    refine R.callD h (fun x21 hx21 h2 => ?_)
    clear h; have h := h2; clear h2
    refine R.call' (w111 _ _ _ _ hx21) (by first|(simp only [S]<;>rfl)|rfl) ?_
    clear hx21; cbv
    refine R.brD h (by first|(simp only [S]<;>rfl)|rfl) ?_ ?_<;>clear h<;>intro h<;>cbv
    ·obtain ⟨s', e, hi⟩ := jn_some (fun p => p) h
     refine hLy20 s' _ _ hi ⟨by kernel_rfl, ?_, ?_, by kernel_rfl, by kernel_rfl⟩<;>cbv<;>(try (subst e;simp only [S,and_self,and_true,true_and]<;>(repeat' apply And.intro)<;>rfl))
    ·refine R.needD h (by first|(simp only [S]<;>rfl)|rfl) ?_
     clear h; intro h; cbv
     refine R.callD h (fun x22 hx22 h2 => ?_)
     clear h; have h := h2; clear h2
     refine R.call' (w111 _ _ _ _ hx22) (by first|(simp only [S]<;>rfl)|rfl) ?_
     clear hx22; cbv
     refine R.brD h (by first|(simp only [S]<;>rfl)|rfl) ?_ ?_<;>clear h<;>intro h<;>cbv
     ·obtain ⟨s', e, hi⟩ := jn_some (fun p => p) h
      refine hLy20 s' _ _ hi ⟨by kernel_rfl, ?_, ?_, by kernel_rfl, by kernel_rfl⟩<;>cbv<;>(try (subst e;simp only [S,and_self,and_true,true_and]<;>(repeat' apply And.intro)<;>rfl))
     ·refine R.needD h (by first|(simp only [S]<;>rfl)|rfl) ?_
      clear h; intro h; cbv
      refine R.callD h (fun x23 hx23 h2 => ?_)
      clear h; have h := h2; clear h2
      refine R.call' (w111 _ _ _ _ hx23) (by first|(simp only [S]<;>rfl)|rfl) ?_
      clear hx23; cbv
      refine R.brD h (by first|(simp only [S]<;>rfl)|rfl) ?_ ?_<;>clear h<;>intro h<;>cbv
      ·obtain ⟨s', e, hi⟩ := jn_some (fun p => p) h
       refine hLy20 s' _ _ hi ⟨by kernel_rfl, ?_, ?_, by kernel_rfl, by kernel_rfl⟩<;>cbv<;>(try (subst e;simp only [S,and_self,and_true,true_and]<;>(repeat' apply And.intro)<;>rfl))
      ·refine R.needD h (by first|(simp only [S]<;>rfl)|rfl) ?_
       clear h; intro h; cbv
       refine R.needD h (by first|(simp only [S]<;>rfl)|rfl) ?_
       clear h; intro h; cbv
       obtain ⟨s', e, hi⟩ := jn_some (fun p => p) h
       refine hLy20 s' _ _ hi ⟨by kernel_rfl, ?_, ?_, by kernel_rfl, by kernel_rfl⟩<;>cbv<;>(try (subst e;simp only [S,and_self,and_true,true_and]<;>(repeat' apply And.intro)<;>rfl))
  ·clear h; have h := h2; clear h2; try dsimp only at h
   cbv
   refine R.brD h (by first|(simp only [S]<;>rfl)|rfl) ?_ ?_<;>clear h<;>intro h<;>cbv
   ·have e := ret_some h; clear h
    refine hK _ _ ?_
    cbv
    try (subst e; simp only [S, and_self, and_true, true_and] <;> (repeat' apply And.intro) <;> rfl)
   ·refine R.needD h (by first|(simp only [S]<;>rfl)|rfl) ?_
    clear h; intro h; cbv
    refine R.needD h (by first|(simp only [S]<;>rfl)|rfl) ?_
    clear h; intro h; cbv
    refine R.needD h (by first|(simp only [S]<;>rfl)|rfl) ?_
    clear h; intro h; cbv
    refine R.callD h (fun x25 hx25 h2 => ?_)
    clear h; have h := h2; clear h2
    refine R.call' (w73 _ _ _ _ hx25) (by first|(simp only [S]<;>rfl)|rfl) ?_
    clear hx25; cbv
    have e := ret_some h; clear h
    refine hK _ _ ?_
    cbv
    try (subst e; simp only [S, and_self, and_true, true_and] <;> (repeat' apply And.intro) <;> rfl)
 ·as_aux_lemma =>
  refine R.cut' (by kernel_rfl) (by kernel_rfl) ?_
  cbv
  refine R.brD h (by first|(simp only [S]<;>rfl)|rfl) ?_ ?_<;>clear h<;>intro h<;>cbv
  ·as_aux_lemma =>
   refine R.cut' (by kernel_rfl) (by kernel_rfl) ?_
   cbv
   refine R.cutB (fun p => p) (fun _ _ e => e) h [] (fun p55 => [(89, .b p55)]) (fun p55 => []) (by kernel_rfl) (by kernel_rfl) (fun y50 hy hFy50 L hLy50 => ?_) (fun p55 h2 => ?_)
   ·clear h; have h := hy; clear hy; cbv
    refine R.brD h (by first|(simp only [S]<;>rfl)|rfl) ?_ ?_<;>clear h<;>intro h<;>cbv
    ·obtain ⟨s', e, hi⟩ := jn_some (fun p => p) h
     refine hLy50 s' _ _ hi ⟨by kernel_rfl, ?_, ?_, by kernel_rfl, by kernel_rfl⟩<;>cbv<;>(try (subst e;simp only [S,and_self,and_true,true_and]<;>(repeat' apply And.intro)<;>rfl))
    ·refine R.needD h (by first|(simp only [S]<;>rfl)|rfl) ?_
     clear h; intro h; cbv
     refine R.callD h (fun x51 hx51 h2 => ?_)
     clear h; have h := h2; clear h2
     refine R.call' (w111 _ _ _ _ hx51) (by first|(simp only [S]<;>rfl)|rfl) ?_
     clear hx51; cbv
     refine R.brD h (by first|(simp only [S]<;>rfl)|rfl) ?_ ?_<;>clear h<;>intro h<;>cbv
     ·obtain ⟨s', e, hi⟩ := jn_some (fun p => p) h
      refine hLy50 s' _ _ hi ⟨by kernel_rfl, ?_, ?_, by kernel_rfl, by kernel_rfl⟩<;>cbv<;>(try (subst e;simp only [S,and_self,and_true,true_and]<;>(repeat' apply And.intro)<;>rfl))
     ·refine R.needD h (by first|(simp only [S]<;>rfl)|rfl) ?_
      clear h; intro h; cbv
      refine R.callD h (fun x52 hx52 h2 => ?_)
      clear h; have h := h2; clear h2
      refine R.call' (w111 _ _ _ _ hx52) (by first|(simp only [S]<;>rfl)|rfl) ?_
      clear hx52; cbv
      refine R.brD h (by first|(simp only [S]<;>rfl)|rfl) ?_ ?_<;>clear h<;>intro h<;>cbv
      ·obtain ⟨s', e, hi⟩ := jn_some (fun p => p) h
       refine hLy50 s' _ _ hi ⟨by kernel_rfl, ?_, ?_, by kernel_rfl, by kernel_rfl⟩<;>cbv<;>(try (subst e;simp only [S,and_self,and_true,true_and]<;>(repeat' apply And.intro)<;>rfl))
      ·refine R.needD h (by first|(simp only [S]<;>rfl)|rfl) ?_
       clear h; intro h; cbv
       refine R.needD h (by first|(simp only [S]<;>rfl)|rfl) ?_
       clear h; intro h; cbv
       refine R.callD h (fun x53 hx53 h2 => ?_)
       clear h; have h := h2; clear h2
       refine R.call' (w111 _ _ _ _ hx53) (by first|(simp only [S]<;>rfl)|rfl) ?_
       clear hx53; cbv
       refine R.brD h (by first|(simp only [S]<;>rfl)|rfl) ?_ ?_<;>clear h<;>intro h<;>cbv
       ·obtain ⟨s', e, hi⟩ := jn_some (fun p => p) h
        refine hLy50 s' _ _ hi ⟨by kernel_rfl, ?_, ?_, by kernel_rfl, by kernel_rfl⟩<;>cbv<;>(try (subst e;simp only [S,and_self,and_true,true_and]<;>(repeat' apply And.intro)<;>rfl))
       ·refine R.needD h (by first|(simp only [S]<;>rfl)|rfl) ?_
        clear h; intro h; cbv
        refine R.callD h (fun x54 hx54 h2 => ?_)
        clear h; have h := h2; clear h2
        refine R.call' (w111 _ _ _ _ hx54) (by first|(simp only [S]<;>rfl)|rfl) ?_
        clear hx54; cbv
        obtain ⟨s', e, hi⟩ := jn_some (fun p => p) h
        refine hLy50 s' _ _ hi ⟨by kernel_rfl, ?_, ?_, by kernel_rfl, by kernel_rfl⟩<;>cbv<;>(try (subst e;simp only [S,and_self,and_true,true_and]<;>(repeat' apply And.intro)<;>rfl))
   ·clear h; have h := h2; clear h2; try dsimp only at h
    cbv
    refine R.brD h (by first|(simp only [S]<;>rfl)|rfl) ?_ ?_<;>clear h<;>intro h<;>cbv
    ·have e := ret_some h; clear h
     refine hK _ _ ?_
     cbv
     try (subst e; simp only [S, and_self, and_true, true_and] <;> (repeat' apply And.intro) <;> rfl)
    ·refine R.cut' (by kernel_rfl) (by kernel_rfl) ?_
     cbv
     refine R.needD h (by first|(simp only [S]<;>rfl)|rfl) ?_
     clear h; intro h; cbv
     refine R.needD h (by first|(simp only [S]<;>rfl)|rfl) ?_
     clear h; intro h; cbv
     refine R.callD h (fun x57 hx57 h2 => ?_)
     clear h; have h := h2; clear h2
     refine R.call' (w45 _ _ _ hx57) (by first|(simp only [S]<;>rfl)|rfl) ?_
     clear hx57; cbv
     refine R.brD h (by first|(simp only [S]<;>rfl)|rfl) ?_ ?_<;>clear h<;>intro h<;>cbv
     ·refine R.needD h (by first|(simp only [S]<;>rfl)|rfl) ?_
      clear h; intro h; cbv
      refine R.needD h (by first|(simp only [S]<;>rfl)|rfl) ?_
      clear h; intro h; cbv
      refine R.needD h (by first|(simp only [S]<;>rfl)|rfl) ?_
      clear h; intro h; cbv
      have e := ret_some h; clear h
      refine hK _ _ ?_
      cbv
      try (subst e; simp only [S, and_self, and_true, true_and] <;> (repeat' apply And.intro) <;> rfl)
     ·have e := ret_some h; clear h
      refine hK _ _ ?_
      cbv
      try (subst e; simp only [S, and_self, and_true, true_and] <;> (repeat' apply And.intro) <;> rfl)
  ·have e := ret_some h; clear h
   refine hK _ _ ?_
   cbv
   try (subst e; simp only [S, and_self, and_true, true_and] <;> (repeat' apply And.intro) <;> rfl)
end Go.Proofs.Ytmofhbedamjblaa
end
section
namespace Go.Proofs.Ytmofhbedamjblaa
open Go.Ab Go.RowKit
set_option maxRecDepth 100000
def vi (l : List Int) : List V := l.map (fun x : Int => V.i .i64 x)
theorem vi_len (l : List Int) : lenI (vi l) = l.length := by unfold lenI vi; rw [List.length_map]
theorem vi_length (l : List Int) : (vi l).length = l.length := by unfold vi; rw [List.length_map]
theorem gI_nat (l : List V) (i : Nat) (h : i < l.length) : gI l (i : Int) 0 = Ab.asInt (cellAt l[i] 0) := by
 unfold gI elAt
 have : l.getD (Int.toNat (i : Int)) V.dead = l[i] := by simp [List.getD_eq_getElem?_getD, h]
 rw [this]
theorem gI_vi (l : List Int) (i : Nat) (h : i < l.length) : gI (vi l) (i : Int) 0 = l[i] := by
 rw [gI_nat _ _ (by rw [vi_length]; exact h)]
 unfold vi
 rw [List.getElem_map]
 rfl
theorem l3 (a b c : Int) : lenI (vi [a, b, c]) = 3 := (rfl)
theorem g30 (a b c : Int) : gI (vi [a, b, c]) 0 0 = a := (rfl)
theorem g31 (a b c : Int) : gI (vi [a, b, c]) 1 0 = b := (rfl)
theorem g32 (a b c : Int) : gI (vi [a, b, c]) 2 0 = c := (rfl)
theorem l4 (a b c d : Int) : lenI (vi [a, b, c, d]) = 4 := (rfl)
theorem g40 (a b c d : Int) : gI (vi [a, b, c, d]) 0 0 = a := (rfl)
theorem g41 (a b c d : Int) : gI (vi [a, b, c, d]) 1 0 = b := (rfl)
theorem g42 (a b c d : Int) : gI (vi [a, b, c, d]) 2 0 = c := (rfl)
theorem g43 (a b c d : Int) : gI (vi [a, b, c, d]) 3 0 = d := (rfl)
theorem iv30 (a b c : Int) : Inb 0 (lenI (vi [a, b, c])) := ⟨by omega, by rw [vi_len]; show (0 : Int) < 3; omega⟩
theorem iv31 (a b c : Int) : Inb 1 (lenI (vi [a, b, c])) := ⟨by omega, by rw [vi_len]; show (1 : Int) < 3; omega⟩
theorem iv32 (a b c : Int) : Inb 2 (lenI (vi [a, b, c])) := ⟨by omega, by rw [vi_len]; show (2 : Int) < 3; omega⟩
theorem iv40 (a b c d : Int) : Inb 0 (lenI (vi [a, b, c, d])) := ⟨by omega, by rw [vi_len]; show (0 : Int) < 4; omega⟩
theorem iv41 (a b c d : Int) : Inb 1 (lenI (vi [a, b, c, d])) := ⟨by omega, by rw [vi_len]; show (1 : Int) < 4; omega⟩
theorem iv42 (a b c d : Int) : Inb 2 (lenI (vi [a, b, c, d])) := ⟨by omega, by rw [vi_len]; show (2 : Int) < 4; omega⟩
theorem iv43 (a b c d : Int) : Inb 3 (lenI (vi [a, b, c, d])) := ⟨by omega, by rw [vi_len]; show (3 : Int) < 4; omega⟩
theorem wk_i {a : Int} (h : I64 a) : wrapK .i64 a = a := by obtain ⟨h1, h2⟩ := h; rw [wk_i64]; omega
theorem ar_add' {a b : Int} (h : I64 (a + b)) : arReal .add .i64 a b = a + b := wk_i h
theorem ar_sub' {a b : Int} (h : I64 (a - b)) : arReal .sub .i64 a b = a - b := wk_i h
theorem ar_mul' {a b : Int} (h : I64 (a * b)) : arReal .mul .i64 a b = a * b := wk_i h
theorem ar_quo' {a b : Int} (ha : 0 ≤ a) (ha2 : a < 9223372036854775808) (hb : 0 < b) : arReal .quo .i64 a b = a / b := by
 show wrapK .i64 (a.tdiv b) = _
 rw [Int.tdiv_eq_ediv_of_nonneg ha]
 have h1 : 0 ≤ a / b := Int.ediv_nonneg ha (by omega)
 have h2 : a / b ≤ a := Int.ediv_le_self _ ha
 exact wk_i ⟨by omega, by omega⟩
theorem ar_rem' {a b : Int} (ha : 0 ≤ a) (ha2 : a < 9223372036854775808) (hb : 0 < b) : arReal .rem .i64 a b = a % b := by
 show a.tmod b = _
 rw [Int.tmod_eq_emod_of_nonneg ha]
theorem andd (p q : Prop) [Decidable p] [Decidable q] : (if decide p = true then some (decide q) else some false) = some (decide (p ∧ q)) := by
 by_cases h : p <;> simp [h]
theorem s76 (a b c : Int) : d76 a b c = some (decide (b ≤ a ∧ a ≤ c)) := by
 unfold d76
 rw [c_geq, c_leq]
 exact andd _ _
theorem e33 : d33 = d76 := rfl
theorem e111 : d111 = d76 := rfl
theorem e73 : d73 = d65 := rfl
theorem e45 : d45 = d35 := rfl
def pw (f n : Int) : Int := if f ^ n.toNat ≤ 4611686018427387904 then f ^ n.toNat else 4611686018427387904 + 1
theorem pow_mono {f : Int} (hf : 1 ≤ f) {m n : Nat} (h : m ≤ n) : f ^ m ≤ f ^ n := by
 induction h with
 | refl => exact Int.le_refl _
 | step h ih =>
  rename_i k
  rw [Int.pow_succ]
  have : 0 ≤ f ^ k := Int.le_of_lt (Int.pow_pos (by omega))
  have := Int.mul_le_mul_of_nonneg_left hf this
  rw [Int.mul_one] at this
  omega
theorem s35 {f n : Int} (hf : 1 ≤ f) (hf2 : f ≤ 4611686018427387904) (hn : 0 ≤ n) (hn2 : n < 9223372036854775808) : d35 f n = some (pw f n) := by
 have hI : iter (d35_b1 f n) (1, 0) = some (if f ^ n.toNat ≤ 4611686018427387904 then (.inr (f ^ n.toNat) : Int ⊕ Int) else .inl 4611686018427387905) := by
  refine iter_fun (fun s => ∃ i : Nat, (i : Int) ≤ n ∧ s = (f ^ i, (i : Int)) ∧ f ^ i ≤ 4611686018427387904) (fun s => (n - s.2).toNat) (fun _ => _) ?_ _ ⟨0, hn, by simp, by simp⟩
  rintro s ⟨i, hi, rfl, hm⟩
  have hp : 0 < f ^ i := Int.pow_pos (by omega)
  by_cases hlt : (i : Int) < n
  ·have q1 : arReal .quo .i64 4611686018427387904 f = 4611686018427387904 / f := ar_quo' (by omega) (by omega) (by omega)
   have n0 : Ne0 f := by unfold Ne0; omega
   have hs : f ^ (i + 1) = f ^ i * f := Int.pow_succ _ _
   by_cases hg : f ^ i > 4611686018427387904 / f
   ·right
    unfold d35_b1
    rw [if_pos (by rw [c_lss]; exact dT hlt), if_pos n0, q1, if_pos (by rw [c_gtr]; exact dT hg)]
    have h1 : 4611686018427387904 < f ^ i * f := Int.lt_mul_of_ediv_lt (by omega) hg
    have h2 := pow_mono hf (show i + 1 ≤ n.toNat by omega)
    rw [if_neg (by omega)]
   ·left
    have h1 : f ^ i * f ≤ 4611686018427387904 := Int.mul_le_of_le_ediv (by omega) (by omega)
    refine ⟨(f ^ (i + 1), ((i + 1 : Nat) : Int)), ?_, ⟨i + 1, by omega, rfl, by omega⟩, by simp; omega, rfl⟩
    unfold d35_b1
    rw [if_pos (by rw [c_lss]; exact dT hlt), if_pos n0, q1, if_neg (by rw [c_gtr, dF hg]; simp)]
    have : 0 < f ^ i * f := Int.mul_pos hp (by omega)
    rw [ar_mul' ⟨by dsimp only; omega, by dsimp only; omega⟩, ar_add' ⟨by dsimp only; omega, by dsimp only; omega⟩, hs]
    push_cast; rfl
  ·right
   obtain rfl : n = (i : Int) := by omega
   unfold d35_b1
   rw [if_neg (by rw [c_lss, dF (by dsimp only; omega)]; simp)]
   rw [Int.toNat_natCast, if_pos hm]
 unfold d35
 rw [hI]
 unfold pw
 by_cases h : f ^ n.toNat ≤ 4611686018427387904
 ·rw [if_pos h, if_pos h]; rfl
 ·rw [if_neg h, if_neg h]; rfl
def stp (a b c : Int) : Int := (b - a + c - 1) / c
theorem s65 {a b c : Int} (ha : -4611686018427387904 ≤ a) (hb : b ≤ 4611686018427387904) (hab : a < b) (hc : 1 ≤ c) (hc2 : c ≤ 4611686018427387904) : d65 a b c = some (stp a b c) ∧ 1 ≤ stp a b c ∧ stp a b c < 18446744073709551616 := by
 have hc' : wrapK .u64 c = c := wk_u ⟨by omega, by omega⟩
 have n0 : Ne0 c := by unfold Ne0; omega
 have e : arReal .sub .u64 (arReal .add .u64 (arReal .sub .u64 (wrapK .u64 b) (wrapK .u64 a)) c) 1 = b - a + c - 1 := by
  rw [ar_subu, ar_addu, ar_subu, wk_u64, wk_u64, wk_u64, wk_u64, wk_u64]; omega
 refine ⟨?_, ?_, ?_⟩
 ·unfold d65
  rw [hc', if_pos n0, e, ar_quou (by omega) (by omega) (by omega)]
  rfl
 ·exact (Int.le_ediv_iff_mul_le (by omega)).2 (by omega)
 ·have : stp a b c ≤ b - a + c - 1 := Int.ediv_le_self _ (by omega)
  omega
def okP (fn : Int) (p : List Int) : Prop :=
  if fn = 8 then ∃ a b c, p = [a, b, c] ∧ 1 ≤ c ∧ c ≤ 4611686018427387904 ∧ -4611686018427387904 ≤ a ∧ a < b ∧ b ≤ 4611686018427387904 ∧ stp a b c ≤ 100
  else if fn = 9 then ∃ f lo hi st, p = [f, lo, hi, st] ∧ 2 ≤ f ∧ f ≤ 100 ∧ 0 ≤ lo ∧ lo ≤ 18 ∧ lo ≤ hi ∧ hi ≤ 18 ∧ 1 ≤ st ∧ st ≤ 100 ∧ f ^ (hi + 1).toNat ≤ 4611686018427387904 ∧ (hi - lo + 1) * st ≤ 1000
  else p = []
noncomputable instance (fn : Int) (p : List Int) : Decidable (okP fn p) := Classical.propDecidable _
theorem pw_le (f n : Int) : pw f n ≤ 4611686018427387904 ↔ f ^ n.toNat ≤ 4611686018427387904 := by
 unfold pw
 by_cases h : f ^ n.toNat ≤ 4611686018427387904
 ·rw [if_pos h]
 ·rw [if_neg h]; constructor
  ·intro h2; omega
  ·intro h2; exact (h h2).elim
theorem mul_rng2 {x y m n : Int} (hx : 0 ≤ x) (hx2 : x ≤ m) (hy : 0 ≤ y) (hy2 : y ≤ n) : 0 ≤ x * y ∧ x * y ≤ m * n :=
 ⟨Int.mul_nonneg hx hy, Int.mul_le_mul hx2 hy2 hy (by omega)⟩
theorem someD {p q : Prop} [i : Decidable p] [j : Decidable q] (h : p ↔ q) : some (decide p) = some (decide q) := by rw [decide_eq_decide.2 h]
theorem someF {q : Prop} [j : Decidable q] (h : ¬ q) : some false = some (decide q) := by rw [decide_eq_false h]
theorem vl3 (a b c : Int) : cmpLit .eql (lenI (vi [a, b, c])) 3 = true := by rw [l3]; decide
theorem vl4 (a b c d : Int) : cmpLit .eql (lenI (vi [a, b, c, d])) 4 = true := by rw [l4]; decide
theorem s50 (nm : ByteArray) (fn : Int) (p : List Int) (ks : List V) (hp : ∀ x ∈ p, I64 x) : d50 nm fn (vi p) ks = some (decide (okP fn p)) := by
 unfold d50
 by_cases h8 : fn = 8
 ·subst h8
  rw [if_pos (by rw [c_eql]; exact dT rfl)]
  by_cases hl : p.length = 3
  ·match p, hl with
   | [a, b, c], _ =>
    simp only [iv30, iv31, iv32, ↓reduceIte, g30, g31, g32, s76, Option.bind_some, vl3]
    have ka := hp a (by simp)
    have kb := hp b (by simp)
    have kc := hp c (by simp)
    by_cases h1 : 1 ≤ c ∧ c ≤ 4611686018427387904
    ·rw [if_pos (dT h1)]
     by_cases h2 : -4611686018427387904 ≤ a ∧ a ≤ 4611686018427387904
     ·rw [if_pos (dT h2)]
      rw [ar_add' (a := a) ⟨by omega, by omega⟩]
      by_cases h3 : a + 1 ≤ b ∧ b ≤ 4611686018427387904
      ·rw [if_pos (dT h3), (s65 (by omega) h3.2 (by omega) h1.1 h1.2).1]
       simp only [Option.bind_some, c_leq]
       refine someD ?_
       unfold okP
       rw [if_pos rfl]
       constructor
       ·intro h; exact ⟨a, b, c, rfl, h1.1, h1.2, by omega, by omega, h3.2, h⟩
       ·rintro ⟨a', b', c', e, _, _, _, _, _, h⟩
        simp only [List.cons.injEq, and_true] at e
        obtain ⟨rfl, rfl, rfl⟩ := e
        exact h
      ·rw [if_neg (by rw [dF h3]; simp)]
       refine someF ?_
       unfold okP
       rw [if_pos rfl]
       rintro ⟨a', b', c', e, _, _, _, _, _, h⟩
       simp only [List.cons.injEq, and_true] at e
       obtain ⟨rfl, rfl, rfl⟩ := e
       omega
     ·rw [if_neg (by rw [dF h2]; simp)]
      refine someF ?_
      unfold okP
      rw [if_pos rfl]
      rintro ⟨a', b', c', e, _, _, _, _, _, h⟩
      simp only [List.cons.injEq, and_true] at e
      obtain ⟨rfl, rfl, rfl⟩ := e
      omega
    ·rw [if_neg (by rw [dF h1]; simp)]
     refine someF ?_
     unfold okP
     rw [if_pos rfl]
     rintro ⟨a', b', c', e, _, _, _, _, _, h⟩
     simp only [List.cons.injEq, and_true] at e
     obtain ⟨rfl, rfl, rfl⟩ := e
     omega
  ·rw [if_neg (by rw [c_eql, vi_len, dF (by omega)]; simp)]
   refine someF ?_
   unfold okP
   rw [if_pos rfl]
   rintro ⟨a', b', c', rfl, _⟩
   exact hl rfl
 rw [if_neg (by rw [c_eql, dF h8]; simp)]
 by_cases h9 : fn = 9
 ·subst h9
  rw [if_pos (by rw [c_eql]; exact dT rfl)]
  by_cases hl : p.length = 4
  ·match p, hl with
   | [f, lo, hi, st], _ =>
    simp only [iv40, iv41, iv42, iv43, ↓reduceIte, g40, g41, g42, g43, s76, Option.bind_some, vl4]
    have kf := hp f (by simp)
    have kl := hp lo (by simp)
    have kh := hp hi (by simp)
    have ks := hp st (by simp)
    have no : ∀ (h : ¬ (2 ≤ f ∧ f ≤ 100 ∧ 0 ≤ lo ∧ lo ≤ 18 ∧ lo ≤ hi ∧ hi ≤ 18 ∧ 1 ≤ st ∧ st ≤ 100 ∧ f ^ (hi + 1).toNat ≤ 4611686018427387904 ∧ (hi - lo + 1) * st ≤ 1000)), ¬ okP 9 [f, lo, hi, st] := by
     intro h
     unfold okP
     rw [if_neg (by omega), if_pos rfl]
     rintro ⟨a', b', c', d', e, h2⟩
     simp only [List.cons.injEq, and_true] at e
     obtain ⟨rfl, rfl, rfl, rfl⟩ := e
     exact h h2
    by_cases h1 : 2 ≤ f ∧ f ≤ 100
    ·rw [if_pos (dT h1)]
     by_cases h2 : 0 ≤ lo ∧ lo ≤ 18
     ·rw [if_pos (dT h2)]
      by_cases h3 : lo ≤ hi ∧ hi ≤ 18
      ·rw [if_pos (dT h3)]
       by_cases h4 : 1 ≤ st ∧ st ≤ 100
       ·rw [if_pos (dT h4)]
        rw [ar_add' (a := hi) ⟨by omega, by omega⟩, s35 (by omega) (by omega) (by omega) (by omega)]
        simp only [Option.bind_some, c_leq]
        by_cases h5 : f ^ (hi + 1).toNat ≤ 4611686018427387904
        ·rw [if_pos (dT ((pw_le _ _).2 h5))]
         have m := mul_rng2 (x := hi - lo + 1) (y := st) (m := 19) (n := 100) (by omega) (by omega) (by omega) (by omega)
         rw [ar_sub' (a := hi) ⟨by omega, by omega⟩, ar_add' (a := hi - lo) ⟨by omega, by omega⟩, ar_mul' ⟨by omega, by omega⟩]
         refine someD ⟨fun h => ?_, fun h => ?_⟩
         ·unfold okP
          rw [if_neg (by omega), if_pos rfl]
          exact ⟨f, lo, hi, st, rfl, h1.1, h1.2, h2.1, h2.2, h3.1, h3.2, h4.1, h4.2, h5, h⟩
         ·apply Classical.byContradiction
          intro h6
          exact no (by rintro ⟨_, _, _, _, _, _, _, _, _, k⟩; exact h6 k) h
        ·rw [if_neg (by rw [dF (fun h => h5 ((pw_le _ _).1 h))]; simp)]
         exact someF (no (by rintro ⟨_, _, _, _, _, _, _, _, k, _⟩; exact h5 k))
       ·rw [if_neg (by rw [dF h4]; simp)]
        exact someF (no (by omega))
      ·rw [if_neg (by rw [dF h3]; simp)]
       exact someF (no (by omega))
     ·rw [if_neg (by rw [dF h2]; simp)]
      exact someF (no (by omega))
    ·rw [if_neg (by rw [dF h1]; simp)]
     exact someF (no (by omega))
  ·rw [if_neg (by rw [c_eql, vi_len, dF (by omega)]; simp)]
   refine someF ?_
   unfold okP
   rw [if_neg (by omega), if_pos rfl]
   rintro ⟨a', b', c', d', rfl, _⟩
   exact hl rfl
 rw [if_neg (by rw [c_eql, dF h9]; simp), c_eql, vi_len]
 refine someD ?_
 unfold okP
 rw [if_neg h8, if_neg h9]
 constructor
 ·intro h; exact List.length_eq_zero_iff.1 (by omega)
 ·rintro rfl; rfl
end Go.Proofs.Ytmofhbedamjblaa
end
section
namespace Go.Proofs.Ytmofhbedamjblaa
open Go.Ab Go.RowKit 
set_option maxRecDepth 100000
set_option maxHeartbeats 40000000
noncomputable def d40_b1 (a0_3 : List V) (s11 : Int) : Option ((Int) ⊕ ((Int) ⊕ (Unit))) :=
 if (cmpLit .lss s11 (lenI a0_3)) = true then
 if (Inb s11 (lenI a0_3)) then
 if (cmpLit .neq (gI a0_3 s11 0) 1) = true then
 if (Inb s11 (lenI a0_3)) then
 if (cmpLit .neq (gI a0_3 s11 0) 2) = true then
 some (.inr (.inl 210))
 else
 some (.inl (arReal .add .i64 s11 1))
 else none
 else
 some (.inl (arReal .add .i64 s11 1))
 else none
 else
 some (.inr (.inr ()))
noncomputable def d40 (a0_0 : ByteArray) (a0_1 : Int) (a0_2 : List V) (a0_3 : List V) : Option (Int) :=
 Option.bind (α := Bool) (
 if (cmpLit .eql (slenI a0_0) 0) = true then
 some true
 else
 if (cmpLit .gtr (slenI a0_0) 31) = true then
 some true
 else
 if (cmpLit .gtr (lenI a0_3) 4) = true then
 some true
 else
 if (cmpLit .lss a0_1 1) = true then
 some true
 else
 if (cmpLit .gtr a0_1 9) = true then
 some true
 else
 (d71 a0_0 a0_1 a0_2 a0_3).bind fun x6 =>
 some (notB' x6)) fun y5 =>
 if y5 = true then
 some 210
 else
 Option.bind (α := (Unit) ⊕ (Int)) (
 (iter (d40_b1 a0_3) 0).bind fun y12 =>
 match y12 with
 | .inl p13 =>
 some (.inr p13)
 | .inr y12r0 =>
 some (.inl ())) fun y10 =>
 match y10 with
 | .inl p15 =>
 some 0
 | .inr y10r0 =>
 some y10r0
noncomputable def w40_c : Code := (Try.f40.body).getD .skip
theorem w40_h : Try.f40.body = some w40_c := by kernel_rfl
theorem w40 (a0_0 : ByteArray) (a0_1 : Int) (a0_2 : List V) (a0_3 : List V) (r : Int) (h : d40 a0_0 a0_1 a0_2 a0_3 = some r) : Ab.Fn Try.prog TT 40 [.agg [.str a0_0, .i .i64 a0_1, .sl 2 a0_2, .sl 74 a0_3]] (.i .i64 r) [] := by
 refine fn_pure tok W0 Try.func40 (by kernel_rfl) w40_h (by kernel_rfl) ?_
 intro _ _ _ _ _ _ _ _ _ _ _ _ _ _ _ _ _ _ _ _ _ _ _ _ _ _ _ _ _ _ _ _ _ _ _ _ _ _ _ _ _ E R K hK
 have D := E.D
 clear E
 have S := And.intro D.har (And.intro D.hcmp (And.intro D.hgi (And.intro D.hinb (And.intro D.hlen (And.intro D.hnt (D.hslen))))))
 unfold d40 at h
 cbv
 refine R.cut' (by kernel_rfl) (by kernel_rfl) ?_
 cbv
 refine R.cutB (fun p => p) (fun _ _ e => e) h [] (fun p7 => [(34, .b p7)]) (fun p7 => []) (by kernel_rfl) (by kernel_rfl) (fun y5 hy hFy5 L hLy5 => ?_) (fun p7 h2 => ?_)
 ·clear h; have h := hy; clear hy; cbv
  refine R.brD h (by first|(simp only [S]<;>rfl)|rfl) ?_ ?_<;>clear h<;>intro h<;>cbv
  ·obtain ⟨s', e, hi⟩ := jn_some (fun p => p) h
   refine hLy5 s' _ _ hi ⟨by kernel_rfl, ?_, ?_, by kernel_rfl, by kernel_rfl⟩<;>cbv<;>(try (subst e;simp only [S,and_self,and_true,true_and]<;>(repeat' apply And.intro)<;>rfl))
  ·refine R.brD h (by first|(simp only [S]<;>rfl)|rfl) ?_ ?_<;>clear h<;>intro h<;>cbv
   ·obtain ⟨s', e, hi⟩ := jn_some (fun p => p) h
    refine hLy5 s' _ _ hi ⟨by kernel_rfl, ?_, ?_, by kernel_rfl, by kernel_rfl⟩<;>cbv<;>(try (subst e;simp only [S,and_self,and_true,true_and]<;>(repeat' apply And.intro)<;>rfl))
   ·refine R.brD h (by first|(simp only [S]<;>rfl)|rfl) ?_ ?_<;>clear h<;>intro h<;>cbv
    ·obtain ⟨s', e, hi⟩ := jn_some (fun p => p) h
     refine hLy5 s' _ _ hi ⟨by kernel_rfl, ?_, ?_, by kernel_rfl, by kernel_rfl⟩<;>cbv<;>(try (subst e;simp only [S,and_self,and_true,true_and]<;>(repeat' apply And.intro)<;>rfl))
    ·refine R.brD h (by first|(simp only [S]<;>rfl)|rfl) ?_ ?_<;>clear h<;>intro h<;>cbv
     ·obtain ⟨s', e, hi⟩ := jn_some (fun p => p) h
      refine hLy5 s' _ _ hi ⟨by kernel_rfl, ?_, ?_, by kernel_rfl, by kernel_rfl⟩<;>cbv<;>(try (subst e;simp only [S,and_self,and_true,true_and]<;>(repeat' apply And.intro)<;>rfl))
     ·refine R.brD h (by first|(simp only [S]<;>rfl)|rfl) ?_ ?_<;>clear h<;>intro h<;>cbv
      ·obtain ⟨s', e, hi⟩ := jn_some (fun p => p) h
       refine hLy5 s' _ _ hi ⟨by kernel_rfl, ?_, ?_, by kernel_rfl, by kernel_rfl⟩<;>cbv<;>(try (subst e;simp only [S,and_self,and_true,true_and]<;>(repeat' apply And.intro)<;>rfl))
      ·refine R.callD h (fun x6 hx6 h2 => ?_)
       clear h; have h := h2; clear h2
       refine R.call' (w71 _ _ _ _ _ hx6) (by first|(simp only [S]<;>rfl)|rfl) ?_
       clear hx6; cbv
       obtain ⟨s', e, hi⟩ := jn_some (fun p => p) h
       refine hLy5 s' _ _ hi ⟨by kernel_rfl, ?_, ?_, by kernel_rfl, by kernel_rfl⟩<;>cbv<;>(try (subst e;simp only [S,and_self,and_true,true_and]<;>(repeat' apply And.intro)<;>rfl))
 ·clear h; have h := h2; clear h2; try dsimp only at h
  cbv
  refine R.brD h (by first|(simp only [S]<;>rfl)|rfl) ?_ ?_<;>clear h<;>intro h<;>cbv
  ·have e := ret_some h; clear h
   refine hK _ _ ?_
   cbv
   try (subst e; simp only [S, and_self, and_true, true_and] <;> (repeat' apply And.intro) <;> rfl)
  ·refine R.cutB Sum.inl (fun _ _ e => Sum.inl.inj e) h [] (fun p15 => []) (fun p15 => []) (by kernel_rfl) (by kernel_rfl) (fun y10 hy hFy10 L hLy10 => ?_) (fun p15 h2 => ?_)
   ·clear h; have h := hy; clear hy; cbv
    refine R.loopD h (fun s0 y12 e0 hi hFs11 => ?_)
    clear h
    refine R.loopI hi [] (fun s11 => [(3, .i .i64 s11)]) (fun s11 => []) ⟨by kernel_rfl, ?_, ?_, by kernel_rfl, by kernel_rfl⟩ (by kernel_rfl) ?_
    ·cbv; try (subst e0; simp only [S, and_self, and_true, true_and] <;> (repeat' apply And.intro) <;> rfl)
    ·cbv; try (subst e0; simp only [S, and_self, and_true, true_and] <;> (repeat' apply And.intro) <;> rfl)
    clear hi e0
    intro s11 m y' hy hins11 houts11 L hLs11
    have h := hy; clear hy; unfold d40_b1 at h
    cbv
    refine R.cut' (by kernel_rfl) (by kernel_rfl) ?_
    cbv
    refine R.brD h (by first|(simp only [S]<;>rfl)|rfl) ?_ ?_<;>clear h<;>intro h<;>cbv
    ·refine R.cut' (by kernel_rfl) (by kernel_rfl) ?_
     cbv
     refine R.cut' (by kernel_rfl) (by kernel_rfl) ?_
     cbv
     refine R.needD h (by first|(simp only [S]<;>rfl)|rfl) ?_
     clear h; intro h; cbv
     refine R.brD h (by first|(simp only [S]<;>rfl)|rfl) ?_ ?_<;>clear h<;>intro h<;>cbv
     ·refine R.needD h (by first|(simp only [S]<;>rfl)|rfl) ?_
      clear h; intro h; cbv
      refine R.brD h (by first|(simp only [S]<;>rfl)|rfl) ?_ ?_<;>clear h<;>intro h<;>cbv
      ·have e := inr_some h houts11; clear h
       have h := hFs11; rw [e] at h; clear e; try dsimp only at h
       cbv
       have e := ret_some h; clear h
       have h := hFy10; rw [e] at h; clear e; try dsimp only at h
       cbv
       have e := ret_some h; clear h
       refine hK _ _ ?_
       cbv
       try (subst e; simp only [S, and_self, and_true, true_and] <;> (repeat' apply And.intro) <;> rfl)
      ·obtain ⟨s', e, hi⟩ := inl_some h hins11
       refine hLs11 s' _ _ hi ⟨by kernel_rfl, ?_, ?_, by kernel_rfl, by kernel_rfl⟩<;>cbv<;>(try (subst e;simp only [S,and_self,and_true,true_and]<;>(repeat' apply And.intro)<;>rfl))
     ·obtain ⟨s', e, hi⟩ := inl_some h hins11
      refine hLs11 s' _ _ hi ⟨by kernel_rfl, ?_, ?_, by kernel_rfl, by kernel_rfl⟩<;>cbv<;>(try (subst e;simp only [S,and_self,and_true,true_and]<;>(repeat' apply And.intro)<;>rfl))
    ·have e := inr_some h houts11; clear h
     have h := hFs11; rw [e] at h; clear e; try dsimp only at h
     cbv
     obtain ⟨s', e, hi⟩ := jn_some Sum.inl h
     refine hLy10 s' _ _ hi ⟨by kernel_rfl, ?_, ?_, by kernel_rfl, by kernel_rfl⟩<;>cbv<;>(try (subst e;simp only [S,and_self,and_true,true_and]<;>(repeat' apply And.intro)<;>rfl))
   ·clear h; have h := h2; clear h2; try dsimp only at h
    cbv
    have e := ret_some h; clear h
    refine hK _ _ ?_
    cbv
    try (subst e; simp only [S, and_self, and_true, true_and] <;> (repeat' apply And.intro) <;> rfl)
noncomputable def d41 (a0_0 : ByteArray) (a0_1 : Int) (a0_2 : List V) (a0_3 : List V) : Option (Bool) :=
 some (cmpLit .geq a0_1 7)
noncomputable def w41_c : Code := (Try.f41.body).getD .skip
theorem w41_h : Try.f41.body = some w41_c := by kernel_rfl
theorem w41 (a0_0 : ByteArray) (a0_1 : Int) (a0_2 : List V) (a0_3 : List V) (r : Bool) (h : d41 a0_0 a0_1 a0_2 a0_3 = some r) : Ab.Fn Try.prog TT 41 [.agg [.str a0_0, .i .i64 a0_1, .sl 2 a0_2, .sl 74 a0_3]] (.b r) [] := by
 refine fn_pure tok W0 Try.func41 (by kernel_rfl) w41_h (by kernel_rfl) ?_
 intro _ _ _ _ _ _ _ _ _ _ _ _ _ _ _ _ _ _ _ _ _ _ _ _ _ _ _ _ _ _ _ _ _ _ _ _ _ _ _ _ _ E R K hK
 have D := E.D
 clear E
 unfold d41 at h
 cbv
 have e := ret_some h; clear h
 refine hK _ _ ?_
 cbv
 try (subst e; simp only [D.hcmp, and_self, and_true, true_and] <;> (repeat' apply And.intro) <;> rfl)
noncomputable def d72_b1 (s9 : Int × Int) : Option ((Int × Int) ⊕ (Int)) :=
 if (cmpLit .gtr s9.1 0) = true then
 if (Ne0 2) then
 some (.inl ((arReal .quo .i64 s9.1 2), (arReal .add .i64 s9.2 1)))
 else none
 else
 some (.inr s9.2)
noncomputable def d72F (D72 : (Int) → Option (Int)) (a0 : Int) : Option (Int) :=
 if (cmpLit .eql a0 0) = true then
 some 63
 else
 Option.bind (α := (Unit) ⊕ (Int)) (
 if (cmpLit .gtr a0 0) = true then
 Option.bind (α := Int) (
 (iter (d72_b1) (a0, 0)).bind fun y10 =>
 some y10) fun y8 =>
 some (.inr (arReal .add .i64 63 y8))
 else
 some (.inl ())) fun y5 =>
 match y5 with
 | .inl p13 =>
 if (cmpLit .leq a0 (-4611686018427387904)) = true then
 some 0
 else
 (D72 (unReal .neg .i64 a0)).bind fun x14 =>
 some (arReal .sub .i64 126 x14)
 | .inr y5r0 =>
 some y5r0
noncomputable def w72_c : Code := (Try.f72.body).getD .skip
theorem w72_h : Try.f72.body = some w72_c := by kernel_rfl
theorem w72F (D72 : (Int) → Option (Int)) (W72 : ∀ (a0 : Int) (r : Int) (h : D72 a0 = some r), Ab.Fn Try.prog TT 72 [.i .i64 a0] (.i .i64 r) []) (a0 : Int) (r : Int) (h : d72F D72 a0 = some r) : Ab.Fn Try.prog TT 72 [.i .i64 a0] (.i .i64 r) [] := by
 refine fn_pure tok W0 Try.func72 (by kernel_rfl) w72_h (by kernel_rfl) ?_
 intro _ _ _ _ _ _ _ _ _ _ _ _ _ _ _ _ _ _ _ _ _ _ _ _ _ _ _ _ _ _ _ _ _ _ _ _ _ _ _ _ _ E R K hK
 have D := E.D
 clear E
 have S := And.intro D.har (And.intro D.hcmp (And.intro D.hne0 (D.hun)))
 unfold d72F at h
 cbv
 refine R.cut' (by kernel_rfl) (by kernel_rfl) ?_
 cbv
 refine R.brD h (by first|(simp only [S]<;>rfl)|rfl) ?_ ?_<;>clear h<;>intro h<;>cbv
 ·have e := ret_some h; clear h
  refine hK _ _ ?_
  cbv
  try (subst e; simp only [S, and_self, and_true, true_and] <;> (repeat' apply And.intro) <;> rfl)
 ·refine R.cutB Sum.inl (fun _ _ e => Sum.inl.inj e) h [] (fun p13 => [(0, .i .i64 a0)]) (fun p13 => []) (by kernel_rfl) (by kernel_rfl) (fun y5 hy hFy5 L hLy5 => ?_) (fun p13 h2 => ?_)
  ·clear h; have h := hy; clear hy; cbv
   refine R.brD h (by first|(simp only [S]<;>rfl)|rfl) ?_ ?_<;>clear h<;>intro h<;>cbv
   ·refine R.cutB (fun p => p) (fun _ _ e => e) h [] (fun p12 => [(3, .i .i64 p12)]) (fun p12 => []) (by kernel_rfl) (by kernel_rfl) (fun y8 hy hFy8 L hLy8 => ?_) (fun p12 h2 => ?_)
    ·clear h; have h := hy; clear hy; cbv
     refine R.loopD h (fun s0 y10 e0 hi hFs9 => ?_)
     clear h
     refine R.loopI hi [] (fun s9 => [(0, .i .i64 s9.1), (3, .i .i64 s9.2)]) (fun s9 => []) ⟨by kernel_rfl, ?_, ?_, by kernel_rfl, by kernel_rfl⟩ (by kernel_rfl) ?_
     ·cbv; try (subst e0; simp only [S, and_self, and_true, true_and] <;> (repeat' apply And.intro) <;> rfl)
     ·cbv; try (subst e0; simp only [S, and_self, and_true, true_and] <;> (repeat' apply And.intro) <;> rfl)
     clear hi e0
     intro s9 m y' hy hins9 houts9 L hLs9
     have h := hy; clear hy; unfold d72_b1 at h
     cbv
     refine R.cut' (by kernel_rfl) (by kernel_rfl) ?_
     cbv
     refine R.brD h (by first|(simp only [S]<;>rfl)|rfl) ?_ ?_<;>clear h<;>intro h<;>cbv
     ·refine R.needD h (by first|(simp only [S]<;>rfl)|rfl) ?_
      clear h; intro h; cbv
      obtain ⟨s', e, hi⟩ := inl_some h hins9
      refine hLs9 s' _ _ hi ⟨by kernel_rfl, ?_, ?_, by kernel_rfl, by kernel_rfl⟩<;>cbv<;>(try (subst e;simp only [S,and_self,and_true,true_and]<;>(repeat' apply And.intro)<;>rfl))
     ·have e := inr_some h houts9; clear h
      have h := hFs9; rw [e] at h; clear e; try dsimp only at h
      cbv
      obtain ⟨s', e, hi⟩ := jn_some (fun p => p) h
      refine hLy8 s' _ _ hi ⟨by kernel_rfl, ?_, ?_, by kernel_rfl, by kernel_rfl⟩<;>cbv<;>(try (subst e;simp only [S,and_self,and_true,true_and]<;>(repeat' apply And.intro)<;>rfl))
    ·clear h; have h := h2; clear h2; try dsimp only at h
     cbv
     have e := ret_some h; clear h
     have h := hFy5; rw [e] at h; clear e; try dsimp only at h
     cbv
     have e := ret_some h; clear h
     refine hK _ _ ?_
     cbv
     try (subst e; simp only [S, and_self, and_true, true_and] <;> (repeat' apply And.intro) <;> rfl)
   ·obtain ⟨s', e, hi⟩ := jn_some Sum.inl h
    refine hLy5 s' _ _ hi ⟨by kernel_rfl, ?_, ?_, by kernel_rfl, by kernel_rfl⟩<;>cbv<;>(try (subst e;simp only [S,and_self,and_true,true_and]<;>(repeat' apply And.intro)<;>rfl))
  ·clear h; have h := h2; clear h2; try dsimp only at h
   cbv
   refine R.cut' (by kernel_rfl) (by kernel_rfl) ?_
   cbv
   refine R.brD h (by first|(simp only [S]<;>rfl)|rfl) ?_ ?_<;>clear h<;>intro h<;>cbv
   ·have e := ret_some h; clear h
    refine hK _ _ ?_
    cbv
    try (subst e; simp only [S, and_self, and_true, true_and] <;> (repeat' apply And.intro) <;> rfl)
   ·refine R.callD h (fun x14 hx14 h2 => ?_)
    clear h; have h := h2; clear h2
    refine R.call' (W72 _ _ hx14) (by first|(simp only [S]<;>rfl)|rfl) ?_
    clear hx14; cbv
    have e := ret_some h; clear h
    refine hK _ _ ?_
    cbv
    try (subst e; simp only [S, and_self, and_true, true_and] <;> (repeat' apply And.intro) <;> rfl)
noncomputable def d72R : Nat → (Int) → Option (Int)
 | 0 => fun _ => none
 | n + 1 => d72F (d72R n)
theorem w72R (n : Nat) : ∀ (a0 : Int) (r : Int) (h : d72R n a0 = some r), Ab.Fn Try.prog TT 72 [.i .i64 a0] (.i .i64 r) [] := by
 induction n with
 | zero => intro a0 r h; cases h
 | succ n ih => exact w72F (d72R n) ih
noncomputable def d72 (a0 : Int) : Option (Int) := d72R 2 a0
theorem w72 (a0 : Int) (r : Int) (h : d72 a0 = some r) : Ab.Fn Try.prog TT 72 [.i .i64 a0] (.i .i64 r) [] := w72R 2 a0 r h
noncomputable def d43 (a0_0 : ByteArray) (a0_1 : Int) (a0_2 : List V) (a0_3 : List V) : Option (Int) :=
 Option.bind (α := Bool) (
 if (cmpLit .eql a0_1 1) = true then
 some true
 else
 some (cmpLit .eql a0_1 2)) fun y6 =>
 if y6 = true then
 some 1
 else
 Option.bind (α := Bool) (
 if (cmpLit .eql a0_1 3) = true then
 some true
 else
 if (cmpLit .eql a0_1 4) = true then
 some true
 else
 some (cmpLit .eql a0_1 5)) fun y8 =>
 if y8 = true then
 some 2
 else
 if (cmpLit .eql a0_1 6) = true then
 some 4
 else
 if (cmpLit .eql a0_1 7) = true then
 some 127
 else
 if (cmpLit .eql a0_1 8) = true then
 if (Inb 0 (lenI a0_2)) then
 if (Inb 1 (lenI a0_2)) then
 if (Inb 2 (lenI a0_2)) then
 (d73 (gI a0_2 0 0) (gI a0_2 1 0) (gI a0_2 2 0)).bind fun x10 =>
 some (arReal .add .i64 (wrapK .i64 x10) 2)
 else none
 else none
 else none
 else
 if (Inb 2 (lenI a0_2)) then
 if (Inb 1 (lenI a0_2)) then
 if (Inb 3 (lenI a0_2)) then
 some (arReal .add .i64 (arReal .mul .i64 (arReal .add .i64 (arReal .sub .i64 (gI a0_2 2 0) (gI a0_2 1 0)) 1) (gI a0_2 3 0)) 2)
 else none
 else none
 else none
noncomputable def w43_c : Code := (Try.f43.body).getD .skip
theorem w43_h : Try.f43.body = some w43_c := by kernel_rfl
theorem w43 (a0_0 : ByteArray) (a0_1 : Int) (a0_2 : List V) (a0_3 : List V) (r : Int) (h : d43 a0_0 a0_1 a0_2 a0_3 = some r) : Ab.Fn Try.prog TT 43 [.agg [.str a0_0, .i .i64 a0_1, .sl 2 a0_2, .sl 74 a0_3]] (.i .i64 r) [] := by
 refine fn_pure tok (fun r => match r with | 14 => [[],[0],[0,1],[0,1,2],[],[4],[4,5],[4,5,6],[],[8],[8,9],[8,9,10],[0,1,2,3,4,5,6,7,8,9,10,11],[0,1,2,3,4,5,6,7,8,9,10,11,12],[0,1,2,3,4,5,6,7,8,9,10,11,12,13],[0,1,2,3,4,5,6,7,8,9,10,11,12,13,14]] | 15 => [[],[0],[0,1],[0,1,2],[],[4],[4,5],[4,5,6],[0,1,2,3,4,5,6,7],[0,1,2,3,4,5,6,7,8],[],[10],[10,11],[10,11,12],[0,1,2,3,4,5,6,7,8,9,10,11,12,13],[0,1,2,3,4,5,6,7,8,9,10,11,12,13,14],[0,1,2,3,4,5,6,7,8,9,10,11,12,13,14,15]] | _ => []) Try.func43 (by kernel_rfl) w43_h (by kernel_rfl) ?_
 intro _ _ _ _ _ _ _ _ _ _ _ _ _ _ _ _ _ _ _ _ _ _ _ _ _ _ _ _ _ _ _ _ _ _ _ _ _ _ _ _ _ E R K hK
 have D := E.D
 clear E
 have S := And.intro D.har (And.intro D.hcmp (And.intro D.hcv (And.intro D.hgi (And.intro D.hinb (D.hlen)))))
 unfold d43 at h
 cbv
 refine R.cut' (by kernel_rfl) (by kernel_rfl) ?_
 cbv
 refine R.cutB (fun p => p) (fun _ _ e => e) h [] (fun p7 => [(5, .b p7)]) (fun p7 => []) (by kernel_rfl) (by kernel_rfl) (fun y6 hy hFy6 L hLy6 => ?_) (fun p7 h2 => ?_)
 ·clear h; have h := hy; clear hy; cbv
  refine R.brD h (by first|(simp only [S]<;>rfl)|rfl) ?_ ?_<;>clear h<;>intro h<;>cbv
  ·obtain ⟨s', e, hi⟩ := jn_some (fun p => p) h
   refine hLy6 s' _ _ hi ⟨by kernel_rfl, ?_, ?_, by kernel_rfl, by kernel_rfl⟩<;>cbv<;>(try (subst e;simp only [S,and_self,and_true,true_and]<;>(repeat' apply And.intro)<;>rfl))
  ·obtain ⟨s', e, hi⟩ := jn_some (fun p => p) h
   refine hLy6 s' _ _ hi ⟨by kernel_rfl, ?_, ?_, by kernel_rfl, by kernel_rfl⟩<;>cbv<;>(try (subst e;simp only [S,and_self,and_true,true_and]<;>(repeat' apply And.intro)<;>rfl))
 ·clear h; have h := h2; clear h2; try dsimp only at h
  cbv
  refine R.brD h (by first|(simp only [S]<;>rfl)|rfl) ?_ ?_<;>clear h<;>intro h<;>cbv
  ·have e := ret_some h; clear h
   refine hK _ _ ?_
   cbv
   try (subst e; simp only [S, and_self, and_true, true_and] <;> (repeat' apply And.intro) <;> rfl)
  ·refine R.cutB (fun p => p) (fun _ _ e => e) h [] (fun p9 => [(8, .b p9)]) (fun p9 => []) (by kernel_rfl) (by kernel_rfl) (fun y8 hy hFy8 L hLy8 => ?_) (fun p9 h2 => ?_)
   ·clear h; have h := hy; clear hy; cbv
    refine R.brD h (by first|(simp only [S]<;>rfl)|rfl) ?_ ?_<;>clear h<;>intro h<;>cbv
    ·obtain ⟨s', e, hi⟩ := jn_some (fun p => p) h
     refine hLy8 s' _ _ hi ⟨by kernel_rfl, ?_, ?_, by kernel_rfl, by kernel_rfl⟩<;>cbv<;>(try (subst e;simp only [S,and_self,and_true,true_and]<;>(repeat' apply And.intro)<;>rfl))
    ·refine R.brD h (by first|(simp only [S]<;>rfl)|rfl) ?_ ?_<;>clear h<;>intro h<;>cbv
     ·obtain ⟨s', e, hi⟩ := jn_some (fun p => p) h
      refine hLy8 s' _ _ hi ⟨by kernel_rfl, ?_, ?_, by kernel_rfl, by kernel_rfl⟩<;>cbv<;>(try (subst e;simp only [S,and_self,and_true,true_and]<;>(repeat' apply And.intro)<;>rfl))
     ·obtain ⟨s', e, hi⟩ := jn_some (fun p => p) h
      refine hLy8 s' _ _ hi ⟨by kernel_rfl, ?_, ?_, by kernel_rfl, by kernel_rfl⟩<;>cbv<;>(try (subst e;simp only [S,and_self,and_true,true_and]<;>(repeat' apply And.intro)<;>rfl))
   ·clear h; have h := h2; clear h2; try dsimp only at h
    cbv
    refine R.brD h (by first|(simp only [S]<;>rfl)|rfl) ?_ ?_<;>clear h<;>intro h<;>cbv
    ·have e := ret_some h; clear h
     refine hK _ _ ?_
     cbv
     try (subst e; simp only [S, and_self, and_true, true_and] <;> (repeat' apply And.intro) <;> rfl)
    ·refine R.brD h (by first|(simp only [S]<;>rfl)|rfl) ?_ ?_<;>clear h<;>intro h<;>cbv
     ·have e := ret_some h; clear h
      refine hK _ _ ?_
      cbv
      try (subst e; simp only [S, and_self, and_true, true_and] <;> (repeat' apply And.intro) <;> rfl)
     ·refine R.brD h (by first|(simp only [S]<;>rfl)|rfl) ?_ ?_<;>clear h<;>intro h<;>cbv
      ·have e := ret_some h; clear h
       refine hK _ _ ?_
       cbv
       try (subst e; simp only [S, and_self, and_true, true_and] <;> (repeat' apply And.intro) <;> rfl)
      ·refine R.brD h (by first|(simp only [S]<;>rfl)|rfl) ?_ ?_<;>clear h<;>intro h<;>cbv
       ·refine R.needD h (by first|(simp only [S]<;>rfl)|rfl) ?_
        clear h; intro h; cbv
        refine R.needD h (by first|(simp only [S]<;>rfl)|rfl) ?_
        clear h; intro h; cbv
        refine R.needD h (by first|(simp only [S]<;>rfl)|rfl) ?_
        clear h; intro h; cbv
        refine R.callD h (fun x10 hx10 h2 => ?_)
        clear h; have h := h2; clear h2
        refine R.call' (w73 _ _ _ _ hx10) (by first|(simp only [S]<;>rfl)|rfl) ?_
        clear hx10; cbv
        have e := ret_some h; clear h
        refine hK _ _ ?_
        cbv
        try (subst e; simp only [S, and_self, and_true, true_and] <;> (repeat' apply And.intro) <;> rfl)
       ·refine R.needD h (by first|(simp only [S]<;>rfl)|rfl) ?_
        clear h; intro h; cbv
        refine R.needD h (by first|(simp only [S]<;>rfl)|rfl) ?_
        clear h; intro h; cbv
        refine R.needD h (by first|(simp only [S]<;>rfl)|rfl) ?_
        clear h; intro h; cbv
        have e := ret_some h; clear h
        refine hK _ _ ?_
        cbv
        try (subst e; simp only [S, and_self, and_true, true_and] <;> (repeat' apply And.intro) <;> rfl)
end Go.Proofs.Ytmofhbedamjblaa
end
section
namespace Go.Proofs.Ytmofhbedamjblaa
open Go.Ab Go.RowKit
set_option maxRecDepth 100000
theorem scan {S R : Type} (f : S → Option (S ⊕ R)) (st : Nat → S) {k i : Nat} {x : R} (hki : k ≤ i) (h2 : ∀ j : Nat, k ≤ j → j < i → f (st j) = some (.inl (st (j + 1)))) (h1 : f (st i) = some (.inr x)) : iter f (st k) = some x := by
  obtain ⟨m, rfl⟩ : ∃ m, i = k + m := ⟨i - k, by omega⟩
  induction m generalizing k with
  | zero => exact iter_inr h1
  | succ m ih =>
    rw [iter_inl (h2 k (Nat.le_refl _) (by omega))]
    have e : k + (m + 1) = k + 1 + m := by omega
    rw [e] at h1 h2
    exact ih (by omega) (fun j a b => h2 j (by omega) b) h1
theorem first_bad (P : Nat → Prop) : ∀ n : Nat, (∀ i, i < n → P i) ∨ ∃ i, i < n ∧ ¬ P i ∧ ∀ j, j < i → P j
 | 0 => .inl (fun i h => by omega)
 | n + 1 => by
  rcases first_bad P n with h | ⟨i, h1, h2, h3⟩
  ·by_cases hn : P n
   ·left
    intro i hi
    rcases Nat.lt_succ_iff_lt_or_eq.1 hi with h4 | rfl
    ·exact h i h4
    ·exact hn
   ·exact .inr ⟨n, by omega, hn, h⟩
  ·exact .inr ⟨i, by omega, h2, h3⟩
theorem succ_i {j n : Nat} (h : j < n) (hn : n ≤ 9223372036854775807) : arReal .add .i64 (j : Int) 1 = ((j + 1 : Nat) : Int) := by
 rw [ar_add' ⟨by omega, by omega⟩]; push_cast; rfl
theorem lt_i {j n : Nat} (h : j < n) : cmpLit .lss (j : Int) (n : Int) = true := by rw [c_lss]; exact dT (by omega)
theorem nlt_i (n : Nat) : ¬ cmpLit .lss (n : Int) (n : Int) = true := by rw [c_lss, dF (by omega)]; simp
theorem inb_i {j n : Nat} (h : j < n) : Inb (j : Int) (n : Int) := ⟨by omega, by omega⟩
theorem nif {α : Type} {p : Prop} [Decidable p] {x y : α} (h : p) : (if decide (¬ p) = true then x else y) = y := if_neg (by simp [h])
theorem nif' {α : Type} {p : Prop} [Decidable p] {x y : α} (h : ¬ p) : (if decide (¬ p) = true then x else y) = x := if_pos (by simp [h])
theorem yif {α : Type} {p : Prop} [Decidable p] {x y : α} (h : p) : (if decide p = true then x else y) = x := if_pos (by simp [h])
theorem yif' {α : Type} {p : Prop} [Decidable p] {x y : α} (h : ¬ p) : (if decide p = true then x else y) = y := if_neg (by simp [h])
theorem s71 (nm : ByteArray) (fn : Int) (p : List Int) (ks : List V) (hp : ∀ x ∈ p, I64 x) : d71 nm fn (vi p) ks = some (decide (okP fn p)) := by
 unfold d71
 by_cases h8 : fn = 8
 ·subst h8
  rw [if_pos (by rw [c_eql]; exact dT rfl)]
  by_cases hl : p.length = 3
  ·match p, hl with
   | [a, b, c], _ =>
    have no : ∀ (h : ¬ (1 ≤ c ∧ c ≤ 4611686018427387904 ∧ -4611686018427387904 ≤ a ∧ a < b ∧ b ≤ 4611686018427387904 ∧ stp a b c ≤ 100)), ¬ okP 8 [a, b, c] := by
     intro h
     unfold okP
     rw [if_pos rfl]
     rintro ⟨a', b', c', e, h2⟩
     simp only [List.cons.injEq, and_true] at e
     obtain ⟨rfl, rfl, rfl⟩ := e
     exact h h2
    have hn : ¬ cmpLit .neq (lenI (vi [a, b, c])) 3 = true := by rw [l3]; decide
    simp only [hn, iv30, iv31, iv32, ↓reduceIte, g30, g31, g32, e111, e73, s76, notB_dec, c_leq, Option.bind_some]
    have ka := hp a (by simp)
    have kb := hp b (by simp)
    have kc := hp c (by simp)
    by_cases h1 : 1 ≤ c ∧ c ≤ 4611686018427387904
    ·rw [nif h1]
     by_cases h2 : -4611686018427387904 ≤ a ∧ a ≤ 4611686018427387904
     ·rw [nif h2]
      by_cases h3 : -4611686018427387904 ≤ b ∧ b ≤ 4611686018427387904
      ·rw [nif h3]
       show (if decide (b ≤ a) = true then some false else _) = _
       by_cases h4 : b ≤ a
       ·rw [yif h4]
        exact someF (no (by omega))
       ·rw [yif' h4, (s65 (by omega) h3.2 (by omega) h1.1 h1.2).1]
        simp only [Option.bind_some]
        refine someD ⟨fun h => ?_, fun h => ?_⟩
        ·unfold okP
         rw [if_pos rfl]
         exact ⟨a, b, c, rfl, h1.1, h1.2, h2.1, by omega, h3.2, h⟩
        ·apply Classical.byContradiction
         intro h6
         exact no (by rintro ⟨_, _, _, _, _, k⟩; exact h6 k) h
      ·rw [nif' h3]
       exact someF (no (by omega))
     ·rw [nif' h2]
      exact someF (no (by omega))
    ·rw [nif' h1]
     exact someF (no (by omega))
  ·have hn : cmpLit .neq (lenI (vi p)) 3 = true := by rw [c_neq, vi_len]; exact dT (by omega)
   simp only [hn, ↓reduceIte, Option.bind_some]
   refine someF ?_
   unfold okP
   rw [if_pos rfl]
   rintro ⟨a', b', c', rfl, _⟩
   exact hl rfl
 rw [if_neg (by rw [c_eql, dF h8]; simp)]
 by_cases h9 : fn = 9
 ·subst h9
  rw [if_pos (by rw [c_eql]; exact dT rfl)]
  by_cases hl : p.length = 4
  ·match p, hl with
   | [f, lo, hi, st], _ =>
    have kf := hp f (by simp)
    have kl := hp lo (by simp)
    have kh := hp hi (by simp)
    have ks := hp st (by simp)
    have no : ∀ (h : ¬ (2 ≤ f ∧ f ≤ 100 ∧ 0 ≤ lo ∧ lo ≤ 18 ∧ lo ≤ hi ∧ hi ≤ 18 ∧ 1 ≤ st ∧ st ≤ 100 ∧ f ^ (hi + 1).toNat ≤ 4611686018427387904 ∧ (hi - lo + 1) * st ≤ 1000)), ¬ okP 9 [f, lo, hi, st] := by
     intro h
     unfold okP
     rw [if_neg (by omega), if_pos rfl]
     rintro ⟨a', b', c', d', e, h2⟩
     simp only [List.cons.injEq, and_true] at e
     obtain ⟨rfl, rfl, rfl, rfl⟩ := e
     exact h h2
    have hn : ¬ cmpLit .neq (lenI (vi [f, lo, hi, st])) 4 = true := by rw [l4]; decide
    simp only [hn, iv40, iv41, iv42, iv43, ↓reduceIte, g40, g41, g42, g43, e111, e45, s76, notB_dec, c_leq, Option.bind_some]
    by_cases h1 : 2 ≤ f ∧ f ≤ 100
    ·rw [nif h1]
     by_cases h2 : 0 ≤ lo ∧ lo ≤ 18
     ·rw [nif h2]
      by_cases h3 : lo ≤ hi ∧ hi ≤ 18
      ·rw [nif h3]
       show (if decide (¬ (1 ≤ st ∧ st ≤ 100)) = true then some false else _) = _
       by_cases h4 : 1 ≤ st ∧ st ≤ 100
       ·rw [nif h4]
        rw [ar_add' (a := hi) ⟨by omega, by omega⟩, s35 (by omega) (by omega) (by omega) (by omega)]
        simp only [Option.bind_some]
        by_cases h5 : f ^ (hi + 1).toNat ≤ 4611686018427387904
        ·rw [yif ((pw_le _ _).2 h5)]
         have m := mul_rng2 (x := hi - lo + 1) (y := st) (m := 19) (n := 100) (by omega) (by omega) (by omega) (by omega)
         rw [ar_sub' (a := hi) ⟨by omega, by omega⟩, ar_add' (a := hi - lo) ⟨by omega, by omega⟩, ar_mul' ⟨by omega, by omega⟩]
         refine someD ⟨fun h => ?_, fun h => ?_⟩
         ·unfold okP
          rw [if_neg (by omega), if_pos rfl]
          exact ⟨f, lo, hi, st, rfl, h1.1, h1.2, h2.1, h2.2, h3.1, h3.2, h4.1, h4.2, h5, h⟩
         ·apply Classical.byContradiction
          intro h6
          exact no (by rintro ⟨_, _, _, _, _, _, _, _, _, k⟩; exact h6 k) h
        ·rw [yif' (fun h => h5 ((pw_le _ _).1 h))]
         exact someF (no (by rintro ⟨_, _, _, _, _, _, _, _, k, _⟩; exact h5 k))
       ·rw [nif' h4]
        exact someF (no (by omega))
      ·rw [nif' h3]
       exact someF (no (by omega))
     ·rw [nif' h2]
      exact someF (no (by omega))
    ·rw [nif' h1]
     exact someF (no (by omega))
  ·have hn : cmpLit .neq (lenI (vi p)) 4 = true := by rw [c_neq, vi_len]; exact dT (by omega)
   simp only [hn, ↓reduceIte, Option.bind_some]
   refine someF ?_
   unfold okP
   rw [if_neg (by omega), if_pos rfl]
   rintro ⟨a', b', c', d', rfl, _⟩
   exact hl rfl
 rw [if_neg (by rw [c_eql, dF h9]; simp), c_eql, vi_len]
 refine someD ?_
 unfold okP
 rw [if_neg h8, if_neg h9]
 constructor
 ·intro h; exact List.length_eq_zero_iff.1 (by omega)
 ·rintro rfl; rfl
def kd (v : V) : Int := Ab.asInt (cellAt v 0)
def okK (v : V) : Prop := kd v = 1 ∨ kd v = 2
theorem gI_kd (l : List V) (i : Nat) (h : i < l.length) : gI l (i : Int) 0 = kd l[i] := gI_nat l i h
def okA (nm : ByteArray) (fn : Int) (p : List Int) (ks : List V) : Prop := 1 ≤ nm.size ∧ nm.size ≤ 31 ∧ ks.length ≤ 4 ∧ 1 ≤ fn ∧ fn ≤ 9 ∧ okP fn p ∧ ∀ k ∈ ks, okK k
noncomputable instance (nm : ByteArray) (fn : Int) (p : List Int) (ks : List V) : Decidable (okA nm fn p ks) := Classical.propDecidable _
theorem s49 (a : Int) (b : Int) (c : Bool) (d : Int) : d49 a b c d = some (decide (¬ (a = 1 ∨ a = 2))) := by
 unfold d49
 rw [c_neq, c_neq]
 by_cases h1 : a = 1
 ·simp [h1]
 ·simp [h1]
theorem all_get {ks : List V} {P : V → Prop} : (∀ k ∈ ks, P k) ↔ ∀ i, (h : i < ks.length) → P ks[i] := by
 constructor
 ·intro h i hi; exact h _ (List.getElem_mem hi)
 ·intro h k hk
  obtain ⟨i, hi, rfl⟩ := List.getElem_of_mem hk
  exact h i hi
open Classical in
theorem s51f (ks : List V) (hk : ks.length ≤ 4) : d51f49 ks = some (decide (¬ ∀ k ∈ ks, okK k)) := by
 have e : lenI ks = ((ks.length : Nat) : Int) := rfl
 have go : ∀ j : Nat, (hj : j < ks.length) → okK ks[j] → d77f49_b1 ks (j : Int) = some (.inl ((j + 1 : Nat) : Int)) := by
  intro j hj hP
  unfold d77f49_b1
  rw [e, if_pos (lt_i hj), if_pos (inb_i hj), gI_kd _ _ hj, s49, succ_i hj (by omega)]
  simp only [Option.bind_some]
  exact nif (p := kd ks[j] = 1 ∨ kd ks[j] = 2) hP
 rcases first_bad (fun i => ∀ h : i < ks.length, okK ks[i]) ks.length with h | ⟨i, hi, hb, hlt⟩
 ·have hall : ∀ k ∈ ks, okK k := all_get.2 (fun i hi => h i hi hi)
  have hI : iter (d77f49_b1 ks) ((0 : Nat) : Int) = some (.inr ()) := by
   refine scan (d77f49_b1 ks) (fun j => (j : Int)) (Nat.zero_le _) (fun j _ hj => go j hj (h j hj hj)) ?_
   unfold d77f49_b1
   rw [e, if_neg (nlt_i _)]
  unfold d51f49 d77f49
  rw [show (0 : Int) = ((0 : Nat) : Int) from rfl, hI]
  simp only [Option.bind_some, c_geq]
  refine someD ⟨fun h => ?_, fun h => (h hall).elim⟩
  omega
 ·have hb' : ¬ okK ks[i] := fun h => hb (fun _ => h)
  have hI : iter (d77f49_b1 ks) ((0 : Nat) : Int) = some (.inl (i : Int)) := by
   refine scan (d77f49_b1 ks) (fun j => (j : Int)) (Nat.zero_le i) (fun j _ hj => go j (by omega) (hlt j hj (by omega))) ?_
   unfold d77f49_b1
   rw [e, if_pos (lt_i hi), if_pos (inb_i hi), gI_kd _ _ hi, s49]
   simp only [Option.bind_some]
   exact nif' (p := kd ks[i] = 1 ∨ kd ks[i] = 2) hb'
  unfold d51f49 d77f49
  rw [show (0 : Int) = ((0 : Nat) : Int) from rfl, hI]
  simp only [Option.bind_some, c_geq]
  refine someD ⟨fun _ h => hb' (h _ (List.getElem_mem hi)), fun h => ?_⟩
  omega
open Classical in
theorem s22 (nm : ByteArray) (fn : Int) (p : List Int) (ks : List V) (hp : ∀ x ∈ p, I64 x) : d22 nm fn (vi p) ks = some (if okA nm fn p ks then 0 else 210) := by
 have no : ¬ okA nm fn p ks → some (210 : Int) = some (if okA nm fn p ks then 0 else 210) := fun h => by rw [if_neg h]
 unfold d22
 simp only [e33, s76, notB_dec, Option.bind_some, slenI_eq, lenI_eq, c_gtr]
 by_cases h1 : (1 : Int) ≤ nm.size ∧ (nm.size : Int) ≤ 31
 ·rw [nif h1]
  by_cases h2 : (ks.length : Int) > 4
  ·rw [yif h2]
   exact no (fun h => by have := h.2.2.1; omega)
  ·rw [yif' h2]
   by_cases h3 : 1 ≤ fn ∧ fn ≤ 9
   ·rw [nif h3, s50 nm fn p ks hp]
    simp only [notB_dec, Option.bind_some]
    by_cases h4 : okP fn p
    ·rw [nif h4, s51f ks (by omega)]
     simp only [Option.bind_some]
     by_cases h5 : ∀ k ∈ ks, okK k
     ·rw [nif h5, if_pos ⟨by omega, by omega, by omega, h3.1, h3.2, h4, h5⟩]
     ·rw [nif' h5]
      exact no (fun h => h5 h.2.2.2.2.2.2)
    ·rw [nif' h4]
     exact no (fun h => h4 h.2.2.2.2.2.1)
   ·rw [nif' h3]
    exact no (fun h => h3 ⟨h.2.2.2.1, h.2.2.2.2.1⟩)
 ·rw [nif' h1]
  exact no (fun h => h1 (by have := h.1; have := h.2.1; omega))
theorem s40 (nm : ByteArray) (fn : Int) (p : List Int) (ks : List V) (hp : ∀ x ∈ p, I64 x) : d40 nm fn (vi p) ks = some (if okA nm fn p ks then 0 else 210) := by
 have no : ¬ okA nm fn p ks → some (210 : Int) = some (if okA nm fn p ks then 0 else 210) := fun h => by rw [if_neg h]
 unfold d40
 simp only [slenI_eq, lenI_eq, c_gtr, c_eql, c_lss]
 by_cases h1 : (nm.size : Int) = 0
 ·rw [yif h1]
  exact no (fun h => by have := h.1; omega)
 rw [yif' h1]
 by_cases h2 : (nm.size : Int) > 31
 ·rw [yif h2]
  exact no (fun h => by have := h.2.1; omega)
 rw [yif' h2]
 by_cases h3 : (ks.length : Int) > 4
 ·rw [yif h3]
  exact no (fun h => by have := h.2.2.1; omega)
 rw [yif' h3]
 by_cases h4 : fn < 1
 ·rw [yif h4]
  exact no (fun h => by have := h.2.2.2.1; omega)
 rw [yif' h4]
 by_cases h5 : fn > 9
 ·rw [yif h5]
  exact no (fun h => by have := h.2.2.2.2.1; omega)
 rw [yif' h5, s71 nm fn p ks hp]
 simp only [notB_dec, Option.bind_some]
 by_cases h6 : okP fn p
 ·rw [nif h6]
  have e : lenI ks = ((ks.length : Nat) : Int) := rfl
  have go : ∀ j : Nat, (hj : j < ks.length) → okK ks[j] → d40_b1 ks (j : Int) = some (.inl ((j + 1 : Nat) : Int)) := by
   intro j hj hP
   unfold d40_b1
   rw [e, if_pos (lt_i hj), if_pos (inb_i hj), gI_kd _ _ hj, succ_i hj (by omega), c_neq, c_neq]
   by_cases q : kd ks[j] = 1
   ·rw [nif q]
   ·rw [nif' q, if_pos (inb_i hj)]
    rcases hP with hP | hP
    ·exact (q hP).elim
    ·rw [nif hP]
  rcases first_bad (fun i => ∀ h : i < ks.length, okK ks[i]) ks.length with h | ⟨i, hi, hb, hlt⟩
  ·have hall : ∀ k ∈ ks, okK k := all_get.2 (fun i hi => h i hi hi)
   have hI : iter (d40_b1 ks) ((0 : Nat) : Int) = some (.inr ()) := by
    refine scan (d40_b1 ks) (fun j => (j : Int)) (Nat.zero_le _) (fun j _ hj => go j hj (h j hj hj)) ?_
    unfold d40_b1
    rw [e, if_neg (nlt_i _)]
   rw [show (0 : Int) = ((0 : Nat) : Int) from rfl, hI, if_pos ⟨by omega, by omega, by omega, by omega, by omega, h6, hall⟩]
   rfl
  ·have hb' : ¬ okK ks[i] := fun h => hb (fun _ => h)
   have hI : iter (d40_b1 ks) ((0 : Nat) : Int) = some (.inl 210) := by
    refine scan (d40_b1 ks) (fun j => (j : Int)) (Nat.zero_le i) (fun j _ hj => go j (by omega) (hlt j hj (by omega))) ?_
    unfold d40_b1
    rw [e, if_pos (lt_i hi), if_pos (inb_i hi), gI_kd _ _ hi, c_neq, c_neq, nif' (fun q => hb' (.inl q)), if_pos (inb_i hi), nif' (fun q => hb' (.inr q))]
   rw [show (0 : Int) = ((0 : Nat) : Int) from rfl, hI, if_neg (fun h => hb' (h.2.2.2.2.2.2 _ (List.getElem_mem hi)))]
   rfl
 ·rw [nif' h6]
  exact no (fun h => h6 h.2.2.2.2.2.1)
def wd (fn : Int) (p : List Int) : Int :=
  if fn = 8 then stp (p.getD 0 0) (p.getD 1 0) (p.getD 2 0) + 2
  else if fn = 9 then (p.getD 2 0 - p.getD 1 0 + 1) * p.getD 3 0 + 2
  else if fn = 7 then 127 else if fn = 6 then 4 else if fn ≤ 2 then 1 else 2
theorem okA.fn {nm : ByteArray} {fn : Int} {p : List Int} {ks : List V} (h : okA nm fn p ks) : 1 ≤ fn ∧ fn ≤ 9 := ⟨h.2.2.2.1, h.2.2.2.2.1⟩
theorem okP.lin {p : List Int} (h : okP 8 p) : ∃ a b c, p = [a, b, c] ∧ 1 ≤ c ∧ c ≤ 4611686018427387904 ∧ -4611686018427387904 ≤ a ∧ a < b ∧ b ≤ 4611686018427387904 ∧ stp a b c ≤ 100 := by
 unfold okP at h; rwa [if_pos rfl] at h
theorem okP.log {p : List Int} (h : okP 9 p) : ∃ f lo hi st, p = [f, lo, hi, st] ∧ 2 ≤ f ∧ f ≤ 100 ∧ 0 ≤ lo ∧ lo ≤ 18 ∧ lo ≤ hi ∧ hi ≤ 18 ∧ 1 ≤ st ∧ st ≤ 100 ∧ f ^ (hi + 1).toNat ≤ 4611686018427387904 ∧ (hi - lo + 1) * st ≤ 1000 := by
 unfold okP at h; rwa [if_neg (by omega), if_pos rfl] at h
theorem fn_cases {fn : Int} (h : 1 ≤ fn ∧ fn ≤ 9) : fn = 1 ∨ fn = 2 ∨ fn = 3 ∨ fn = 4 ∨ fn = 5 ∨ fn = 6 ∨ fn = 7 ∨ fn = 8 ∨ fn = 9 := by omega
theorem wd_rng {nm : ByteArray} {fn : Int} {p : List Int} {ks : List V} (h : okA nm fn p ks) : 1 ≤ wd fn p ∧ wd fn p ≤ 1002 := by
 have hP := h.2.2.2.2.2.1
 rcases fn_cases h.fn with rfl | rfl | rfl | rfl | rfl | rfl | rfl | rfl | rfl
 ·exact (show 1 ≤ (1 : Int) ∧ (1 : Int) ≤ 1002 by omega)
 ·exact (show 1 ≤ (1 : Int) ∧ (1 : Int) ≤ 1002 by omega)
 ·exact (show 1 ≤ (2 : Int) ∧ (2 : Int) ≤ 1002 by omega)
 ·exact (show 1 ≤ (2 : Int) ∧ (2 : Int) ≤ 1002 by omega)
 ·exact (show 1 ≤ (2 : Int) ∧ (2 : Int) ≤ 1002 by omega)
 ·exact (show 1 ≤ (4 : Int) ∧ (4 : Int) ≤ 1002 by omega)
 ·exact (show 1 ≤ (127 : Int) ∧ (127 : Int) ≤ 1002 by omega)
 ·obtain ⟨a, b, c, rfl, h1, h2, h3, h4, h5, h6⟩ := hP.lin
  have := (s65 h3 h5 h4 h1 h2).2.1
  show 1 ≤ stp a b c + 2 ∧ stp a b c + 2 ≤ 1002
  omega
 ·obtain ⟨f, lo, hi, st, rfl, h1, h2, h3, h4, h5, h6, h7, h8, h9, h10⟩ := hP.log
  have m := mul_rng2 (x := hi - lo + 1) (y := st) (m := 19) (n := 100) (by omega) (by omega) (by omega) (by omega)
  show 1 ≤ (hi - lo + 1) * st + 2 ∧ (hi - lo + 1) * st + 2 ≤ 1002
  omega
theorem wd8 (a b c : Int) : wd 8 [a, b, c] = stp a b c + 2 := (rfl)
theorem wd9 (f lo hi st : Int) : wd 9 [f, lo, hi, st] = (hi - lo + 1) * st + 2 := (rfl)
theorem s34 {nm : ByteArray} {fn : Int} {p : List Int} {ks : List V} (h : okA nm fn p ks) : d34 nm fn (vi p) ks = some (wd fn p) := by
 have hP := h.2.2.2.2.2.1
 rcases fn_cases h.fn with rfl | rfl | rfl | rfl | rfl | rfl | rfl | rfl | rfl
 ·rfl
 ·rfl
 ·rfl
 ·rfl
 ·rfl
 ·rfl
 ·rfl
 ·obtain ⟨a, b, c, rfl, h1, h2, h3, h4, h5, h6⟩ := hP.lin
  obtain ⟨e, e2, e3⟩ := s65 h3 h5 h4 h1 h2
  unfold d34
  rw [if_pos (by decide)]
  simp only [iv30, iv31, iv32, ↓reduceIte, g30, g31, g32, e, Option.bind_some]
  rw [wk_i ⟨by omega, by omega⟩, ar_add' ⟨by omega, by omega⟩, wd8]
 ·obtain ⟨f, lo, hi, st, rfl, h1, h2, h3, h4, h5, h6, h7, h8, h9, h10⟩ := hP.log
  have m := mul_rng2 (x := hi - lo + 1) (y := st) (m := 19) (n := 100) (by omega) (by omega) (by omega) (by omega)
  unfold d34
  rw [if_neg (by decide), if_pos (by decide)]
  simp only [iv40, iv41, iv42, iv43, ↓reduceIte, g40, g41, g42, g43]
  rw [ar_sub' (a := hi) ⟨by omega, by omega⟩, ar_add' (a := hi - lo) ⟨by omega, by omega⟩, ar_mul' ⟨by omega, by omega⟩, ar_add' ⟨by omega, by omega⟩, wd9]
theorem s43 {nm : ByteArray} {fn : Int} {p : List Int} {ks : List V} (h : okA nm fn p ks) : d43 nm fn (vi p) ks = some (wd fn p) := by
 have hP := h.2.2.2.2.2.1
 rcases fn_cases h.fn with rfl | rfl | rfl | rfl | rfl | rfl | rfl | rfl | rfl
 ·rfl
 ·rfl
 ·rfl
 ·rfl
 ·rfl
 ·rfl
 ·rfl
 ·obtain ⟨a, b, c, rfl, h1, h2, h3, h4, h5, h6⟩ := hP.lin
  obtain ⟨e, e2, e3⟩ := s65 h3 h5 h4 h1 h2
  unfold d43
  simp only [c_eql, Int.reduceEq, decide_false, decide_true, Bool.false_eq_true, Option.bind_some, iv30, iv31, iv32, ↓reduceIte, g30, g31, g32, e73, e, Option.bind_some]
  rw [wk_i ⟨by omega, by omega⟩, ar_add' ⟨by omega, by omega⟩, wd8]
 ·obtain ⟨f, lo, hi, st, rfl, h1, h2, h3, h4, h5, h6, h7, h8, h9, h10⟩ := hP.log
  have m := mul_rng2 (x := hi - lo + 1) (y := st) (m := 19) (n := 100) (by omega) (by omega) (by omega) (by omega)
  unfold d43
  simp only [c_eql, Int.reduceEq, decide_false, decide_true, Bool.false_eq_true, Option.bind_some, iv40, iv41, iv42, iv43, ↓reduceIte, g40, g41, g42, g43]
  rw [ar_sub' (a := hi) ⟨by omega, by omega⟩, ar_add' (a := hi - lo) ⟨by omega, by omega⟩, ar_mul' ⟨by omega, by omega⟩, ar_add' ⟨by omega, by omega⟩, wd9]
end Go.Proofs.Ytmofhbedamjblaa
end
section
namespace Go.Proofs.Ytmofhbedamjblaa
open Go.Ab Go.RowKit 
set_option maxRecDepth 100000
set_option maxHeartbeats 40000000
noncomputable def d46 (a0_0 : ByteArray) (a0_1 : Int) (a0_2 : List V) (a0_3 : List V) (a1 : Int) : Option (Int) :=
 if (Inb 1 (lenI a0_2)) then
 if (Inb 3 (lenI a0_2)) then
 if (Ne0 (gI a0_2 3 0)) then
 if (Inb 3 (lenI a0_2)) then
 if (Ne0 (gI a0_2 3 0)) then
 if (Inb 0 (lenI a0_2)) then
 (d45 (gI a0_2 0 0) (arReal .add .i64 (gI a0_2 1 0) (arReal .quo .i64 (arReal .sub .i64 a1 1) (gI a0_2 3 0)))).bind fun x1 =>
 if (Inb 0 (lenI a0_2)) then
 (d45 (gI a0_2 0 0) (arReal .add .i64 (arReal .add .i64 (gI a0_2 1 0) (arReal .quo .i64 (arReal .sub .i64 a1 1) (gI a0_2 3 0))) 1)).bind fun x2 =>
 if (Inb 3 (lenI a0_2)) then
 if (Ne0 (gI a0_2 3 0)) then
 if (Inb 3 (lenI a0_2)) then
 if (Ne0 (gI a0_2 3 0)) then
 if (Inb 3 (lenI a0_2)) then
 if (Inb 3 (lenI a0_2)) then
 if (Ne0 (gI a0_2 3 0)) then
 some (arReal .add .i64 (arReal .add .i64 x1 (arReal .mul .i64 (arReal .rem .i64 (arReal .sub .i64 a1 1) (gI a0_2 3 0)) (arReal .quo .i64 (arReal .sub .i64 x2 x1) (gI a0_2 3 0)))) (arReal .quo .i64 (arReal .sub .i64 (arReal .add .i64 (arReal .mul .i64 (arReal .rem .i64 (arReal .sub .i64 a1 1) (gI a0_2 3 0)) (arReal .rem .i64 (arReal .sub .i64 x2 x1) (gI a0_2 3 0))) (gI a0_2 3 0)) 1) (gI a0_2 3 0)))
 else none
 else none
 else none
 else none
 else none
 else none
 else none
 else none
 else none
 else none
 else none
 else none
 else none
 else none
noncomputable def w46_c : Code := (Try.f46.body).getD .skip
theorem w46_h : Try.f46.body = some w46_c := by kernel_rfl
theorem w46 (a0_0 : ByteArray) (a0_1 : Int) (a0_2 : List V) (a0_3 : List V) (a1 : Int) (r : Int) (h : d46 a0_0 a0_1 a0_2 a0_3 a1 = some r) : Ab.Fn Try.prog TT 46 [.agg [.str a0_0, .i .i64 a0_1, .sl 2 a0_2, .sl 74 a0_3], .i .i64 a1] (.i .i64 r) [] := by
 refine fn_pure tok (fun r => match r with | 2 => [[],[0],[0,1],[],[3],[],[5],[5,6],[3,4,5,6,7],[0,1,2,3,4,5,6,7,8],[0,1,2,3,4,5,6,7,8,9]] | 6 => [[],[],[],[],[3],[3,4],[2,3,4,5],[1,2,3,4,5,6],[0,1,2,3,4,5,6,7],[],[],[],[11],[11,12],[10,11,12,13],[9,10,11,12,13,14],[],[16],[16,17],[9,10,11,12,13,14,15,16,17,18],[9,10,11,12,13,14,15,16,17,18,19],[],[21],[21,22],[9,10,11,12,13,14,15,16,17,18,19,20,21,22,23],[0,1,2,3,4,5,6,7,8,9,10,11,12,13,14,15,16,17,18,19,20,21,22,23,24],[0,1,2,3,4,5,6,7,8,9,10,11,12,13,14,15,16,17,18,19,20,21,22,23,24,25]] | _ => []) Try.func46 (by kernel_rfl) w46_h (by kernel_rfl) ?_
 intro _ _ _ _ _ _ _ _ _ _ _ _ _ _ _ _ _ _ _ _ _ _ _ _ _ _ _ _ _ _ _ _ _ _ _ _ _ _ _ _ _ E R K hK
 have D := E.D
 clear E
 have S := And.intro D.har (And.intro D.hgi (And.intro D.hinb (And.intro D.hlen (D.hne0))))
 unfold d46 at h
 cbv
 refine R.needD h (by first|(simp only [S]<;>rfl)|rfl) ?_
 clear h; intro h; cbv
 refine R.needD h (by first|(simp only [S]<;>rfl)|rfl) ?_
 clear h; intro h; cbv
 refine R.needD h (by first|(simp only [S]<;>rfl)|rfl) ?_
 clear h; intro h; cbv
 refine R.needD h (by first|(simp only [S]<;>rfl)|rfl) ?_
 clear h; intro h; cbv
 refine R.needD h (by first|(simp only [S]<;>rfl)|rfl) ?_
 clear h; intro h; cbv
 refine R.needD h (by first|(simp only [S]<;>rfl)|rfl) ?_
 clear h; intro h; cbv
 refine R.callD h (fun x1 hx1 h2 => ?_)
 clear h; have h := h2; clear h2
 refine R.call' (w45 _ _ _ hx1) (by first|(simp only [S]<;>rfl)|rfl) ?_
 clear hx1; cbv
 refine R.needD h (by first|(simp only [S]<;>rfl)|rfl) ?_
 clear h; intro h; cbv
 refine R.callD h (fun x2 hx2 h2 => ?_)
 clear h; have h := h2; clear h2
 refine R.call' (w45 _ _ _ hx2) (by first|(simp only [S]<;>rfl)|rfl) ?_
 clear hx2; cbv
 refine R.needD h (by first|(simp only [S]<;>rfl)|rfl) ?_
 clear h; intro h; cbv
 refine R.needD h (by first|(simp only [S]<;>rfl)|rfl) ?_
 clear h; intro h; cbv
 refine R.needD h (by first|(simp only [S]<;>rfl)|rfl) ?_
 clear h; intro h; cbv
 refine R.needD h (by first|(simp only [S]<;>rfl)|rfl) ?_
 clear h; intro h; cbv
 refine R.needD h (by first|(simp only [S]<;>rfl)|rfl) ?_
 clear h; intro h; cbv
 refine R.needD h (by first|(simp only [S]<;>rfl)|rfl) ?_
 clear h; intro h; cbv
 refine R.needD h (by first|(simp only [S]<;>rfl)|rfl) ?_
 clear h; intro h; cbv
 have e := ret_some h; clear h
 refine hK _ _ ?_
 cbv
 try (subst e; simp only [S, and_self, and_true, true_and] <;> (repeat' apply And.intro) <;> rfl)
noncomputable def d42_b1 (a0_0 : ByteArray) (a0_1 : Int) (a0_2 : List V) (a0_3 : List V) (a1 : Int) (s40 : Int) : Option ((Int) ⊕ (Int)) :=
 (d43 a0_0 a0_1 a0_2 a0_3).bind fun x56 =>
 if (cmpLit .lss s40 (arReal .sub .i64 x56 2)) = true then
 (d46 a0_0 a0_1 a0_2 a0_3 (arReal .add .i64 s40 1)).bind fun x57 =>
 if (cmpLit .geq a1 x57) = true then
 some (.inl (arReal .add .i64 s40 1))
 else
 some (.inr s40)
 else
 some (.inr s40)
noncomputable def d42 (a0_0 : ByteArray) (a0_1 : Int) (a0_2 : List V) (a0_3 : List V) (a1 : Int) : Option (Int) :=
 if (cmpLit .eql a0_1 7) = true then
 (d72 a1).bind fun x4 =>
 some x4
 else
 if (cmpLit .eql a0_1 8) = true then
 if (Inb 0 (lenI a0_2)) then
 if (cmpLit .lss a1 (gI a0_2 0 0)) = true then
 some 0
 else
 if (Inb 1 (lenI a0_2)) then
 if (cmpLit .geq a1 (gI a0_2 1 0)) = true then
 (d43 a0_0 a0_1 a0_2 a0_3).bind fun x6 =>
 some (arReal .sub .i64 x6 1)
 else
 if (Inb 0 (lenI a0_2)) then
 if (Inb 2 (lenI a0_2)) then
 if (Ne0 (wrapK .u64 (gI a0_2 2 0))) then
 some (arReal .add .i64 (wrapK .i64 (arReal .quo .u64 (arReal .sub .u64 (wrapK .u64 a1) (wrapK .u64 (gI a0_2 0 0))) (wrapK .u64 (gI a0_2 2 0)))) 1)
 else none
 else none
 else none
 else none
 else none
 else
 if (Inb 0 (lenI a0_2)) then
 if (Inb 1 (lenI a0_2)) then
 (d45 (gI a0_2 0 0) (gI a0_2 1 0)).bind fun x8 =>
 if (cmpLit .lss a1 x8) = true then
 some 0
 else
 if (Inb 0 (lenI a0_2)) then
 if (Inb 2 (lenI a0_2)) then
 (d45 (gI a0_2 0 0) (arReal .add .i64 (gI a0_2 2 0) 1)).bind fun x11 =>
 if (cmpLit .geq a1 x11) = true then
 (d43 a0_0 a0_1 a0_2 a0_3).bind fun x12 =>
 some (arReal .sub .i64 x12 1)
 else
 Option.bind (α := Int) (
 (iter (d42_b1 a0_0 a0_1 a0_2 a0_3 a1) 1).bind fun y49 =>
 some y49) fun y31 =>
 some y31
 else none
 else none
 else none
 else none
noncomputable def w42_c : Code := (Try.f42.body).getD .skip
theorem w42_h : Try.f42.body = some w42_c := by kernel_rfl
theorem w42 (a0_0 : ByteArray) (a0_1 : Int) (a0_2 : List V) (a0_3 : List V) (a1 : Int) (r : Int) (h : d42 a0_0 a0_1 a0_2 a0_3 a1 = some r) : Ab.Fn Try.prog TT 42 [.agg [.str a0_0, .i .i64 a0_1, .sl 2 a0_2, .sl 74 a0_3], .i .i64 a1] (.i .i64 r) [] := by
 refine fn_pure tok (fun r => match r with | 10 => [[],[0],[],[2],[2,3],[2,3,4],[0,1,2,3,4,5],[],[7],[7,8],[7,8,9],[0,1,2,3,4,5,6,7,8,9,10],[0,1,2,3,4,5,6,7,8,9,10,11],[0,1,2,3,4,5,6,7,8,9,10,11,12],[0,1,2,3,4,5,6,7,8,9,10,11,12,13]] | 11 => [[],[],[1],[1,2],[],[4],[4,5],[1,2,3,4,5,6],[0,1,2,3,4,5,6,7]] | 13 => [[],[],[1],[1,2],[],[4],[4,5],[4,5,6],[1,2,3,4,5,6,7],[0,1,2,3,4,5,6,7,8]] | _ => []) Try.func42 (by kernel_rfl) w42_h (by kernel_rfl) ?_
 intro _ _ _ _ _ _ _ _ _ _ _ _ _ _ _ _ _ _ _ _ _ _ _ _ _ _ _ _ _ _ _ _ _ _ _ _ _ _ _ _ _ E R K hK
 have D := E.D
 clear E
 have S := And.intro D.har (And.intro D.hcmp (And.intro D.hcv (And.intro D.hgi (And.intro D.hinb (And.intro D.hlen (D.hne0))))))
 unfold d42 at h
 cbv
 refine R.cut' (by kernel_rfl) (by kernel_rfl) ?_
 cbv
 refine R.brD h (by first|(simp only [S]<;>rfl)|rfl) ?_ ?_<;>clear h<;>intro h<;>cbv
 ·refine R.callD h (fun x4 hx4 h2 => ?_)
  clear h; have h := h2; clear h2
  refine R.call' (w72 _ _ hx4) (by first|(simp only [S]<;>rfl)|rfl) ?_
  clear hx4; cbv
  have e := ret_some h; clear h
  refine hK _ _ ?_
  cbv
  try (subst e; simp only [S, and_self, and_true, true_and] <;> (repeat' apply And.intro) <;> rfl)
 ·as_aux_lemma =>
  refine R.brD h (by first|(simp only [S]<;>rfl)|rfl) ?_ ?_<;>clear h<;>intro h<;>cbv
  ·refine R.cut' (by kernel_rfl) (by kernel_rfl) ?_
   cbv
   refine R.needD h (by first|(simp only [S]<;>rfl)|rfl) ?_
   clear h; intro h; cbv
   refine R.brD h (by first|(simp only [S]<;>rfl)|rfl) ?_ ?_<;>clear h<;>intro h<;>cbv
   ·have e := ret_some h; clear h
    refine hK _ _ ?_
    cbv
    try (subst e; simp only [S, and_self, and_true, true_and] <;> (repeat' apply And.intro) <;> rfl)
   ·refine R.cut' (by kernel_rfl) (by kernel_rfl) ?_
    cbv
    refine R.needD h (by first|(simp only [S]<;>rfl)|rfl) ?_
    clear h; intro h; cbv
    refine R.brD h (by first|(simp only [S]<;>rfl)|rfl) ?_ ?_<;>clear h<;>intro h<;>cbv
    ·refine R.callD h (fun x6 hx6 h2 => ?_)
     clear h; have h := h2; clear h2
     refine R.call' (w43 _ _ _ _ _ hx6) (by first|(simp only [S]<;>rfl)|rfl) ?_
     clear hx6; cbv
     have e := ret_some h; clear h
     refine hK _ _ ?_
     cbv
     try (subst e; simp only [S, and_self, and_true, true_and] <;> (repeat' apply And.intro) <;> rfl)
    ·refine R.needD h (by first|(simp only [S]<;>rfl)|rfl) ?_
     clear h; intro h; cbv
     refine R.needD h (by first|(simp only [S]<;>rfl)|rfl) ?_
     clear h; intro h; cbv
     refine R.needD h (by first|(simp only [S]<;>rfl)|rfl) ?_
     clear h; intro h; cbv
     have e := ret_some h; clear h
     refine hK _ _ ?_
     cbv
     try (subst e; simp only [S, and_self, and_true, true_and] <;> (repeat' apply And.intro) <;> rfl)
  ·as_aux_lemma =>
   refine R.cut' (by kernel_rfl) (by kernel_rfl) ?_
   cbv
   refine R.needD h (by first|(simp only [S]<;>rfl)|rfl) ?_
   clear h; intro h; cbv
   refine R.needD h (by first|(simp only [S]<;>rfl)|rfl) ?_
   clear h; intro h; cbv
   refine R.callD h (fun x8 hx8 h2 => ?_)
   clear h; have h := h2; clear h2
   refine R.call' (w45 _ _ _ hx8) (by first|(simp only [S]<;>rfl)|rfl) ?_
   clear hx8; cbv
   refine R.brD h (by first|(simp only [S]<;>rfl)|rfl) ?_ ?_<;>clear h<;>intro h<;>cbv
   ·have e := ret_some h; clear h
    refine hK _ _ ?_
    cbv
    try (subst e; simp only [S, and_self, and_true, true_and] <;> (repeat' apply And.intro) <;> rfl)
   ·as_aux_lemma =>
    refine R.cut' (by kernel_rfl) (by kernel_rfl) ?_
    cbv
    refine R.needD h (by first|(simp only [S]<;>rfl)|rfl) ?_
    clear h; intro h; cbv
    refine R.needD h (by first|(simp only [S]<;>rfl)|rfl) ?_
    clear h; intro h; cbv
    refine R.callD h (fun x11 hx11 h2 => ?_)
    clear h; have h := h2; clear h2
    refine R.call' (w45 _ _ _ hx11) (by first|(simp only [S]<;>rfl)|rfl) ?_
    clear hx11; cbv
    refine R.brD h (by first|(simp only [S]<;>rfl)|rfl) ?_ ?_<;>clear h<;>intro h<;>cbv
    ·refine R.callD h (fun x12 hx12 h2 => ?_)
     clear h; have h := h2; clear h2
     refine R.call' (w43 _ _ _ _ _ hx12) (by first|(simp only [S]<;>rfl)|rfl) ?_
     clear hx12; cbv
     have e := ret_some h; clear h
     refine hK _ _ ?_
     cbv
     try (subst e; simp only [S, and_self, and_true, true_and] <;> (repeat' apply And.intro) <;> rfl)
    ·refine R.cutB (fun p => p) (fun _ _ e => e) h [] (fun p59 => [(6, .i .i64 p59)]) (fun p59 => []) (by kernel_rfl) (by kernel_rfl) (fun y31 hy hFy31 L hLy31 => ?_) (fun p59 h2 => ?_)
     ·clear h; have h := hy; clear hy; cbv
      refine R.loopD h (fun s0 y49 e0 hi hFs40 => ?_)
      clear h
      refine R.loopI hi [] (fun s40 => [(6, .i .i64 s40)]) (fun s40 => []) ⟨by kernel_rfl, ?_, ?_, by kernel_rfl, by kernel_rfl⟩ (by kernel_rfl) ?_
      ·cbv; try (subst e0; simp only [S, and_self, and_true, true_and] <;> (repeat' apply And.intro) <;> rfl)
      ·cbv; try (subst e0; simp only [S, and_self, and_true, true_and] <;> (repeat' apply And.intro) <;> rfl)
      clear hi e0
      intro s40 m y' hy hins40 houts40 L hLs40
      have h := hy; clear hy; unfold d42_b1 at h
      cbv
      refine R.cut' (by kernel_rfl) (by kernel_rfl) ?_
      cbv
      refine R.cut' (by kernel_rfl) (by kernel_rfl) ?_
      cbv
      refine R.callD h (fun x56 hx56 h2 => ?_)
      clear h; have h := h2; clear h2
      refine R.call' (w43 _ _ _ _ _ hx56) (by first|(simp only [S]<;>rfl)|rfl) ?_
      clear hx56; cbv
      refine R.brD h (by first|(simp only [S]<;>rfl)|rfl) ?_ ?_<;>clear h<;>intro h<;>cbv
      ·refine R.callD h (fun x57 hx57 h2 => ?_)
       clear h; have h := h2; clear h2
       refine R.call' (w46 _ _ _ _ _ _ hx57) (by first|(simp only [S]<;>rfl)|rfl) ?_
       clear hx57; cbv
       refine R.brD h (by first|(simp only [S]<;>rfl)|rfl) ?_ ?_<;>clear h<;>intro h<;>cbv
       ·obtain ⟨s', e, hi⟩ := inl_some h hins40
        refine hLs40 s' _ _ hi ⟨by kernel_rfl, ?_, ?_, by kernel_rfl, by kernel_rfl⟩<;>cbv<;>(try (subst e;simp only [S,and_self,and_true,true_and]<;>(repeat' apply And.intro)<;>rfl))
       ·have e := inr_some h houts40; clear h
        have h := hFs40; rw [e] at h; clear e; try dsimp only at h
        cbv
        obtain ⟨s', e, hi⟩ := jn_some (fun p => p) h
        refine hLy31 s' _ _ hi ⟨by kernel_rfl, ?_, ?_, by kernel_rfl, by kernel_rfl⟩<;>cbv<;>(try (subst e;simp only [S,and_self,and_true,true_and]<;>(repeat' apply And.intro)<;>rfl))
      ·have e := inr_some h houts40; clear h
       have h := hFs40; rw [e] at h; clear e; try dsimp only at h
       cbv
       obtain ⟨s', e, hi⟩ := jn_some (fun p => p) h
       refine hLy31 s' _ _ hi ⟨by kernel_rfl, ?_, ?_, by kernel_rfl, by kernel_rfl⟩<;>cbv<;>(try (subst e;simp only [S,and_self,and_true,true_and]<;>(repeat' apply And.intro)<;>rfl))
     ·clear h; have h := h2; clear h2; try dsimp only at h
      cbv
      have e := ret_some h; clear h
      refine hK _ _ ?_
      cbv
      try (subst e; simp only [S, and_self, and_true, true_and] <;> (repeat' apply And.intro) <;> rfl)
noncomputable def d14 (a0_0 : ByteArray) (a0_1 : Int) (a0_2 : List V) (a0_3 : List V) (a1 : Int) : Option (Int × Int) :=
 (d40 a0_0 a0_1 a0_2 a0_3).bind fun x1 =>
 Option.bind (α := Int) (
 if (cmpLit .eql x1 0) = true then
 (d41 a0_0 a0_1 a0_2 a0_3).bind fun x6 =>
 if (notB' x6) = true then
 some 1
 else
 some x1
 else
 some x1) fun y4 =>
 if (cmpLit .neq y4 0) = true then
 some (0, y4)
 else
 (d42 a0_0 a0_1 a0_2 a0_3 a1).bind fun x8 =>
 some (x8, 0)
noncomputable def w14_c : Code := (Try.f14.body).getD .skip
theorem w14_h : Try.f14.body = some w14_c := by kernel_rfl
theorem w14 (a0_0 : ByteArray) (a0_1 : Int) (a0_2 : List V) (a0_3 : List V) (a1 : Int) (r : Int × Int) (h : d14 a0_0 a0_1 a0_2 a0_3 a1 = some r) : Ab.Fn Try.prog TT 14 [.agg [.str a0_0, .i .i64 a0_1, .sl 2 a0_2, .sl 74 a0_3], .i .i64 a1] (.agg [.i .i64 r.1, .i .i64 r.2]) [] := by
 refine fn_pure tok W0 Try.func14 (by kernel_rfl) w14_h (by kernel_rfl) ?_
 intro _ _ _ _ _ _ _ _ _ _ _ _ _ _ _ _ _ _ _ _ _ _ _ _ _ _ _ _ _ _ _ _ _ _ _ _ _ _ _ _ _ E R K hK
 have D := E.D
 clear E
 have S := And.intro D.hcmp (D.hnt)
 unfold d14 at h
 cbv
 refine R.callD h (fun x1 hx1 h2 => ?_)
 clear h; have h := h2; clear h2
 refine R.call' (w40 _ _ _ _ _ hx1) (by first|(simp only [S]<;>rfl)|rfl) ?_
 clear hx1; cbv
 refine R.cutB (fun p => p) (fun _ _ e => e) h [] (fun p7 => [(5, .i .i64 p7)]) (fun p7 => []) (by kernel_rfl) (by kernel_rfl) (fun y4 hy hFy4 L hLy4 => ?_) (fun p7 h2 => ?_)
 ·clear h; have h := hy; clear hy; cbv
  refine R.cut' (by kernel_rfl) (by kernel_rfl) ?_
  cbv
  refine R.brD h (by first|(simp only [S]<;>rfl)|rfl) ?_ ?_<;>clear h<;>intro h<;>cbv
  ·refine R.callD h (fun x6 hx6 h2 => ?_)
   clear h; have h := h2; clear h2
   refine R.call' (w41 _ _ _ _ _ hx6) (by first|(simp only [S]<;>rfl)|rfl) ?_
   clear hx6; cbv
   refine R.brD h (by first|(simp only [S]<;>rfl)|rfl) ?_ ?_<;>clear h<;>intro h<;>cbv
   ·obtain ⟨s', e, hi⟩ := jn_some (fun p => p) h
    refine hLy4 s' _ _ hi ⟨by kernel_rfl, ?_, ?_, by kernel_rfl, by kernel_rfl⟩<;>cbv<;>(try (subst e;simp only [S,and_self,and_true,true_and]<;>(repeat' apply And.intro)<;>rfl))
   ·obtain ⟨s', e, hi⟩ := jn_some (fun p => p) h
    refine hLy4 s' _ _ hi ⟨by kernel_rfl, ?_, ?_, by kernel_rfl, by kernel_rfl⟩<;>cbv<;>(try (subst e;simp only [S,and_self,and_true,true_and]<;>(repeat' apply And.intro)<;>rfl))
  ·obtain ⟨s', e, hi⟩ := jn_some (fun p => p) h
   refine hLy4 s' _ _ hi ⟨by kernel_rfl, ?_, ?_, by kernel_rfl, by kernel_rfl⟩<;>cbv<;>(try (subst e;simp only [S,and_self,and_true,true_and]<;>(repeat' apply And.intro)<;>rfl))
 ·clear h; have h := h2; clear h2; try dsimp only at h
  cbv
  refine R.cut' (by kernel_rfl) (by kernel_rfl) ?_
  cbv
  refine R.brD h (by first|(simp only [S]<;>rfl)|rfl) ?_ ?_<;>clear h<;>intro h<;>cbv
  ·have e := ret_some h; clear h
   refine hK _ _ ?_
   cbv
   try (subst e; simp only [S, and_self, and_true, true_and] <;> (repeat' apply And.intro) <;> rfl)
  ·refine R.callD h (fun x8 hx8 h2 => ?_)
   clear h; have h := h2; clear h2
   refine R.call' (w42 _ _ _ _ _ _ hx8) (by first|(simp only [S]<;>rfl)|rfl) ?_
   clear hx8; cbv
   have e := ret_some h; clear h
   refine hK _ _ ?_
   cbv
   try (subst e; simp only [S, and_self, and_true, true_and] <;> (repeat' apply And.intro) <;> rfl)
noncomputable def d44F (D44 : (Int) → Option (Int × Int × Bool × Int)) (a0 : Int) : Option (Int × Int × Bool × Int) :=
 if (cmpLit .eql a0 63) = true then
 some (0, 0, true, 0)
 else
 if (cmpLit .eql a0 0) = true then
 some ((-9223372036854775808), (-4611686018427387904), true, 0)
 else
 if (cmpLit .lss a0 63) = true then
 (D44 (arReal .sub .i64 126 a0)).bind fun x2 =>
 some ((unReal .neg .i64 x2.2.1), (unReal .neg .i64 x2.1), true, 0)
 else
 if (Ge0 (arReal .sub .i64 a0 64)) then
 if (Ge0 (arReal .sub .i64 a0 64)) then
 if (Ge0 (arReal .sub .i64 a0 64)) then
 some ((arReal .shl .i64 1 (arReal .sub .i64 a0 64)), (arReal .add .i64 (arReal .sub .i64 (arReal .shl .i64 1 (arReal .sub .i64 a0 64)) 1) (arReal .shl .i64 1 (arReal .sub .i64 a0 64))), true, 0)
 else none
 else none
 else none
noncomputable def w44_c : Code := (Try.f44.body).getD .skip
theorem w44_h : Try.f44.body = some w44_c := by kernel_rfl
theorem w44F (D44 : (Int) → Option (Int × Int × Bool × Int)) (W44 : ∀ (a0 : Int) (r : Int × Int × Bool × Int) (h : D44 a0 = some r), Ab.Fn Try.prog TT 44 [.i .i64 a0] (.agg [.i .i64 r.1, .i .i64 r.2.1, .b r.2.2.1, .i .i64 r.2.2.2]) []) (a0 : Int) (r : Int × Int × Bool × Int) (h : d44F D44 a0 = some r) : Ab.Fn Try.prog TT 44 [.i .i64 a0] (.agg [.i .i64 r.1, .i .i64 r.2.1, .b r.2.2.1, .i .i64 r.2.2.2]) [] := by
 refine fn_pure tok (fun r => match r with | 9 => [[],[0],[],[2],[2,3],[],[5],[2,3,4,5,6],[0,1,2,3,4,5,6,7],[0,1,2,3,4,5,6,7,8]] | _ => []) Try.func44 (by kernel_rfl) w44_h (by kernel_rfl) ?_
 intro _ _ _ _ _ _ _ _ _ _ _ _ _ _ _ _ _ _ _ _ _ _ _ _ _ _ _ _ _ _ _ _ _ _ _ _ _ _ _ _ _ E R K hK
 have D := E.D
 clear E
 have S := And.intro D.har (And.intro D.hcmp (And.intro D.hge0 (D.hun)))
 unfold d44F at h
 cbv
 refine R.cut' (by kernel_rfl) (by kernel_rfl) ?_
 cbv
 refine R.brD h (by first|(simp only [S]<;>rfl)|rfl) ?_ ?_<;>clear h<;>intro h<;>cbv
 ·have e := ret_some h; clear h
  refine hK _ _ ?_
  cbv
  try (subst e; simp only [S, and_self, and_true, true_and] <;> (repeat' apply And.intro) <;> rfl)
 ·refine R.cut' (by kernel_rfl) (by kernel_rfl) ?_
  cbv
  refine R.brD h (by first|(simp only [S]<;>rfl)|rfl) ?_ ?_<;>clear h<;>intro h<;>cbv
  ·have e := ret_some h; clear h
   refine hK _ _ ?_
   cbv
   try (subst e; simp only [S, and_self, and_true, true_and] <;> (repeat' apply And.intro) <;> rfl)
  ·refine R.cut' (by kernel_rfl) (by kernel_rfl) ?_
   cbv
   refine R.brD h (by first|(simp only [S]<;>rfl)|rfl) ?_ ?_<;>clear h<;>intro h<;>cbv
   ·refine R.callD h (fun x2 hx2 h2 => ?_)
    clear h; have h := h2; clear h2
    refine R.call' (W44 _ _ hx2) (by first|(simp only [S]<;>rfl)|rfl) ?_
    clear hx2; cbv
    have e := ret_some h; clear h
    refine hK _ _ ?_
    cbv
    try (subst e; simp only [S, and_self, and_true, true_and] <;> (repeat' apply And.intro) <;> rfl)
   ·refine R.needD h (by first|(simp only [S]<;>rfl)|rfl) ?_
    clear h; intro h; cbv
    refine R.needD h (by first|(simp only [S]<;>rfl)|rfl) ?_
    clear h; intro h; cbv
    refine R.needD h (by first|(simp only [S]<;>rfl)|rfl) ?_
    clear h; intro h; cbv
    have e := ret_some h; clear h
    refine hK _ _ ?_
    cbv
    try (subst e; simp only [S, and_self, and_true, true_and] <;> (repeat' apply And.intro) <;> rfl)
noncomputable def d44R : Nat → (Int) → Option (Int × Int × Bool × Int)
 | 0 => fun _ => none
 | n + 1 => d44F (d44R n)
theorem w44R (n : Nat) : ∀ (a0 : Int) (r : Int × Int × Bool × Int) (h : d44R n a0 = some r), Ab.Fn Try.prog TT 44 [.i .i64 a0] (.agg [.i .i64 r.1, .i .i64 r.2.1, .b r.2.2.1, .i .i64 r.2.2.2]) [] := by
 induction n with
 | zero => intro a0 r h; cases h
 | succ n ih => exact w44F (d44R n) ih
noncomputable def d44 (a0 : Int) : Option (Int × Int × Bool × Int) := d44R 2 a0
theorem w44 (a0 : Int) (r : Int × Int × Bool × Int) (h : d44 a0 = some r) : Ab.Fn Try.prog TT 44 [.i .i64 a0] (.agg [.i .i64 r.1, .i .i64 r.2.1, .b r.2.2.1, .i .i64 r.2.2.2]) [] := w44R 2 a0 r h
end Go.Proofs.Ytmofhbedamjblaa
end
section
namespace Go.Proofs.Ytmofhbedamjblaa
open Go.Ab Go.RowKit 
set_option maxRecDepth 100000
set_option maxHeartbeats 40000000
noncomputable def d15 (a0_0 : ByteArray) (a0_1 : Int) (a0_2 : List V) (a0_3 : List V) (a1 : Int) : Option (Int × Int × Bool × Int) :=
 (d40 a0_0 a0_1 a0_2 a0_3).bind fun x1 =>
 Option.bind (α := Int) (
 Option.bind (α := Bool) (
 if (cmpLit .eql x1 0) = true then
 (d41 a0_0 a0_1 a0_2 a0_3).bind fun x10 =>
 if (notB' x10) = true then
 some true
 else
 if (cmpLit .lss a1 0) = true then
 some true
 else
 (d43 a0_0 a0_1 a0_2 a0_3).bind fun x11 =>
 some (cmpLit .geq a1 x11)
 else
 some false) fun y9 =>
 if y9 = true then
 some 1
 else
 some x1) fun y6 =>
 if (cmpLit .neq y6 0) = true then
 some (0, 0, false, y6)
 else
 (d43 a0_0 a0_1 a0_2 a0_3).bind fun x14 =>
 if (cmpLit .eql a0_1 7) = true then
 (d44 a1).bind fun x16 =>
 some (x16.1, x16.2.1, x16.2.2.1, x16.2.2.2)
 else
 if (cmpLit .eql a0_1 8) = true then
 if (cmpLit .eql a1 0) = true then
 if (Inb 0 (lenI a0_2)) then
 some ((-9223372036854775808), (arReal .sub .i64 (gI a0_2 0 0) 1), true, 0)
 else none
 else
 if (cmpLit .eql a1 (arReal .sub .i64 x14 1)) = true then
 if (Inb 1 (lenI a0_2)) then
 some ((gI a0_2 1 0), 9223372036854775807, true, 0)
 else none
 else
 if (Inb 1 (lenI a0_2)) then
 if (Inb 0 (lenI a0_2)) then
 if (Inb 2 (lenI a0_2)) then
 if (Inb 2 (lenI a0_2)) then
 if (Inb 0 (lenI a0_2)) then
 if (Inb 0 (lenI a0_2)) then
 some ((wrapK .i64 (arReal .add .u64 (wrapK .u64 (gI a0_2 0 0)) (arReal .mul .u64 (wrapK .u64 (arReal .sub .i64 a1 1)) (wrapK .u64 (gI a0_2 2 0))))), (wrapK .i64 (arReal .sub .u64 (arReal .add .u64 (wrapK .u64 (gI a0_2 0 0)) (mnI (arReal .add .u64 (arReal .mul .u64 (wrapK .u64 (arReal .sub .i64 a1 1)) (wrapK .u64 (gI a0_2 2 0))) (wrapK .u64 (gI a0_2 2 0))) (arReal .sub .u64 (wrapK .u64 (gI a0_2 1 0)) (wrapK .u64 (gI a0_2 0 0))))) 1)), true, 0)
 else none
 else none
 else none
 else none
 else none
 else none
 else
 if (cmpLit .eql a1 0) = true then
 if (Inb 0 (lenI a0_2)) then
 if (Inb 1 (lenI a0_2)) then
 (d45 (gI a0_2 0 0) (gI a0_2 1 0)).bind fun x18 =>
 some ((-9223372036854775808), (arReal .sub .i64 x18 1), true, 0)
 else none
 else none
 else
 if (cmpLit .eql a1 (arReal .sub .i64 x14 1)) = true then
 if (Inb 0 (lenI a0_2)) then
 if (Inb 2 (lenI a0_2)) then
 (d45 (gI a0_2 0 0) (arReal .add .i64 (gI a0_2 2 0) 1)).bind fun x20 =>
 some (x20, 9223372036854775807, true, 0)
 else none
 else none
 else
 (d46 a0_0 a0_1 a0_2 a0_3 a1).bind fun x21 =>
 if (Inb 0 (lenI a0_2)) then
 if (Inb 2 (lenI a0_2)) then
 (d45 (gI a0_2 0 0) (arReal .add .i64 (gI a0_2 2 0) 1)).bind fun x22 =>
 Option.bind (α := Int) (
 (d43 a0_0 a0_1 a0_2 a0_3).bind fun x26 =>
 if (cmpLit .lss a1 (arReal .sub .i64 x26 2)) = true then
 (d46 a0_0 a0_1 a0_2 a0_3 (arReal .add .i64 a1 1)).bind fun x27 =>
 some x27
 else
 some x22) fun y25 =>
 if (cmpLit .geq x21 y25) = true then
 some (0, 0, false, 0)
 else
 some (x21, (arReal .sub .i64 y25 1), true, 0)
 else none
 else none
noncomputable def w15_c : Code := (Try.f15.body).getD .skip
theorem w15_h : Try.f15.body = some w15_c := by kernel_rfl
theorem w15 (a0_0 : ByteArray) (a0_1 : Int) (a0_2 : List V) (a0_3 : List V) (a1 : Int) (r : Int × Int × Bool × Int) (h : d15 a0_0 a0_1 a0_2 a0_3 a1 = some r) : Ab.Fn Try.prog TT 15 [.agg [.str a0_0, .i .i64 a0_1, .sl 2 a0_2, .sl 74 a0_3], .i .i64 a1] (.agg [.i .i64 r.1, .i .i64 r.2.1, .b r.2.2.1, .i .i64 r.2.2.2]) [] := by
 refine fn_pure tok (fun r => match r with | 16 => [[],[0],[0,1],[0,1,2],[],[4],[4,5],[4,5,6],[0,1,2,3,4,5,6,7],[0,1,2,3,4,5,6,7,8]] | 19 => [[],[0],[0,1],[0,1,2],[],[0,1,2,3,4],[0,1,2,3,4,5],[],[7],[7,8],[7,8,9],[],[7,8,9,10,11],[7,8,9,10,11,12],[7,8,9,10,11,12,13],[0,1,2,3,4,5,6,7,8,9,10,11,12,13,14],[0,1,2,3,4,5,6,7,8,9,10,11,12,13,14,15]] | 21 => [[],[0],[0,1],[],[3],[3,4],[0,1,2,3,4,5],[0,1,2,3,4,5,6],[0,1,2,3,4,5,6,7],[0,1,2,3,4,5,6,7,8]] | 23 => [[],[0],[0,1],[],[3],[3,4],[3,4,5],[0,1,2,3,4,5,6],[0,1,2,3,4,5,6,7],[0,1,2,3,4,5,6,7,8]] | 25 => [[],[0],[0,1],[],[3],[3,4],[3,4,5],[0,1,2,3,4,5,6],[0,1,2,3,4,5,6,7]] | _ => []) Try.func15 (by kernel_rfl) w15_h (by kernel_rfl) ?_
 intro _ _ _ _ _ _ _ _ _ _ _ _ _ _ _ _ _ _ _ _ _ _ _ _ _ _ _ _ _ _ _ _ _ _ _ _ _ _ _ _ _ E R K hK
 have D := E.D
 clear E
 have S := And.intro D.har (And.intro D.hcmp (And.intro D.hcv (And.intro D.hgi (And.intro D.hinb (And.intro D.hlen (And.intro D.hmn (D.hnt)))))))
 unfold d15 at h
 cbv
 refine R.callD h (fun x1 hx1 h2 => ?_)
 clear h; have h := h2; clear h2
 refine R.call' (w40 _ _ _ _ _ hx1) (by first|(simp only [S]<;>rfl)|rfl) ?_
 clear hx1; cbv
 refine R.cutB (fun p => p) (fun _ _ e => e) h [] (fun p13 => [(5, .i .i64 p13)]) (fun p13 => []) (by kernel_rfl) (by kernel_rfl) (fun y6 hy hFy6 L hLy6 => ?_) (fun p13 h2 => ?_)
 ·clear h; have h := hy; clear hy; cbv
  refine R.cutB (fun p => p) (fun _ _ e => e) h [] (fun p12 => [(31, .b p12)]) (fun p12 => []) (by kernel_rfl) (by kernel_rfl) (fun y9 hy hFy9 L hLy9 => ?_) (fun p12 h2 => ?_)
  ·clear h; have h := hy; clear hy; cbv
   refine R.brD h (by first|(simp only [S]<;>rfl)|rfl) ?_ ?_<;>clear h<;>intro h<;>cbv
   ·refine R.callD h (fun x10 hx10 h2 => ?_)
    clear h; have h := h2; clear h2
    refine R.call' (w41 _ _ _ _ _ hx10) (by first|(simp only [S]<;>rfl)|rfl) ?_
    clear hx10; cbv
    refine R.brD h (by first|(simp only [S]<;>rfl)|rfl) ?_ ?_<;>clear h<;>intro h<;>cbv
    ·obtain ⟨s', e, hi⟩ := jn_some (fun p => p) h
     refine hLy9 s' _ _ hi ⟨by kernel_rfl, ?_, ?_, by kernel_rfl, by kernel_rfl⟩<;>cbv<;>(try (subst e;simp only [S,and_self,and_true,true_and]<;>(repeat' apply And.intro)<;>rfl))
    ·refine R.brD h (by first|(simp only [S]<;>rfl)|rfl) ?_ ?_<;>clear h<;>intro h<;>cbv
     ·obtain ⟨s', e, hi⟩ := jn_some (fun p => p) h
      refine hLy9 s' _ _ hi ⟨by kernel_rfl, ?_, ?_, by kernel_rfl, by kernel_rfl⟩<;>cbv<;>(try (subst e;simp only [S,and_self,and_true,true_and]<;>(repeat' apply And.intro)<;>rfl))
     ·refine R.callD h (fun x11 hx11 h2 => ?_)
      clear h; have h := h2; clear h2
      refine R.call' (w43 _ _ _ _ _ hx11) (by first|(simp only [S]<;>rfl)|rfl) ?_
      clear hx11; cbv
      obtain ⟨s', e, hi⟩ := jn_some (fun p => p) h
      refine hLy9 s' _ _ hi ⟨by kernel_rfl, ?_, ?_, by kernel_rfl, by kernel_rfl⟩<;>cbv<;>(try (subst e;simp only [S,and_self,and_true,true_and]<;>(repeat' apply And.intro)<;>rfl))
   ·obtain ⟨s', e, hi⟩ := jn_some (fun p => p) h
    refine hLy9 s' _ _ hi ⟨by kernel_rfl, ?_, ?_, by kernel_rfl, by kernel_rfl⟩<;>cbv<;>(try (subst e;simp only [S,and_self,and_true,true_and]<;>(repeat' apply And.intro)<;>rfl))
  ·clear h; have h := h2; clear h2; try dsimp only at h
   cbv
   refine R.brD h (by first|(simp only [S]<;>rfl)|rfl) ?_ ?_<;>clear h<;>intro h<;>cbv
   ·obtain ⟨s', e, hi⟩ := jn_some (fun p => p) h
    refine hLy6 s' _ _ hi ⟨by kernel_rfl, ?_, ?_, by kernel_rfl, by kernel_rfl⟩<;>cbv<;>(try (subst e;simp only [S,and_self,and_true,true_and]<;>(repeat' apply And.intro)<;>rfl))
   ·obtain ⟨s', e, hi⟩ := jn_some (fun p => p) h
    refine hLy6 s' _ _ hi ⟨by kernel_rfl, ?_, ?_, by kernel_rfl, by kernel_rfl⟩<;>cbv<;>(try (subst e;simp only [S,and_self,and_true,true_and]<;>(repeat' apply And.intro)<;>rfl))
 ·as_aux_lemma =>
  clear h; have h := h2; clear h2; try dsimp only at h
  cbv
  refine R.cut' (by kernel_rfl) (by kernel_rfl) ?_
  cbv
  refine R.brD h (by first|(simp only [S]<;>rfl)|rfl) ?_ ?_<;>clear h<;>intro h<;>cbv
  ·have e := ret_some h; clear h
   refine hK _ _ ?_
   cbv
   try (subst e; simp only [S, and_self, and_true, true_and] <;> (repeat' apply And.intro) <;> rfl)
  ·as_aux_lemma =>
   refine R.callD h (fun x14 hx14 h2 => ?_)
   clear h; have h := h2; clear h2
   refine R.call' (w43 _ _ _ _ _ hx14) (by first|(simp only [S]<;>rfl)|rfl) ?_
   clear hx14; cbv
   refine R.cut' (by kernel_rfl) (by kernel_rfl) ?_
   cbv
   refine R.brD h (by first|(simp only [S]<;>rfl)|rfl) ?_ ?_<;>clear h<;>intro h<;>cbv
   ·refine R.callD h (fun x16 hx16 h2 => ?_)
    clear h; have h := h2; clear h2
    refine R.call' (w44 _ _ hx16) (by first|(simp only [S]<;>rfl)|rfl) ?_
    clear hx16; cbv
    have e := ret_some h; clear h
    refine hK _ _ ?_
    cbv
    try (subst e; simp only [S, and_self, and_true, true_and] <;> (repeat' apply And.intro) <;> rfl)
   ·as_aux_lemma =>
    refine R.brD h (by first|(simp only [S]<;>rfl)|rfl) ?_ ?_<;>clear h<;>intro h<;>cbv
    ·refine R.cut' (by kernel_rfl) (by kernel_rfl) ?_
     cbv
     refine R.brD h (by first|(simp only [S]<;>rfl)|rfl) ?_ ?_<;>clear h<;>intro h<;>cbv
     ·refine R.needD h (by first|(simp only [S]<;>rfl)|rfl) ?_
      clear h; intro h; cbv
      have e := ret_some h; clear h
      refine hK _ _ ?_
      cbv
      try (subst e; simp only [S, and_self, and_true, true_and] <;> (repeat' apply And.intro) <;> rfl)
     ·refine R.cut' (by kernel_rfl) (by kernel_rfl) ?_
      cbv
      refine R.brD h (by first|(simp only [S]<;>rfl)|rfl) ?_ ?_<;>clear h<;>intro h<;>cbv
      ·refine R.needD h (by first|(simp only [S]<;>rfl)|rfl) ?_
       clear h; intro h; cbv
       have e := ret_some h; clear h
       refine hK _ _ ?_
       cbv
       try (subst e; simp only [S, and_self, and_true, true_and] <;> (repeat' apply And.intro) <;> rfl)
      ·refine R.needD h (by first|(simp only [S]<;>rfl)|rfl) ?_
       clear h; intro h; cbv
       refine R.needD h (by first|(simp only [S]<;>rfl)|rfl) ?_
       clear h; intro h; cbv
       refine R.needD h (by first|(simp only [S]<;>rfl)|rfl) ?_
       clear h; intro h; cbv
       refine R.needD h (by first|(simp only [S]<;>rfl)|rfl) ?_
       clear h; intro h; cbv
       refine R.needD h (by first|(simp only [S]<;>rfl)|rfl) ?_
       clear h; intro h; cbv
       refine R.needD h (by first|(simp only [S]<;>rfl)|rfl) ?_
       clear h; intro h; cbv
       have e := ret_some h; clear h
       refine hK _ _ ?_
       cbv
       try (subst e; simp only [S, and_self, and_true, true_and] <;> (repeat' apply And.intro) <;> rfl)
    ·as_aux_lemma =>
     refine R.cut' (by kernel_rfl) (by kernel_rfl) ?_
     cbv
     refine R.brD h (by first|(simp only [S]<;>rfl)|rfl) ?_ ?_<;>clear h<;>intro h<;>cbv
     ·refine R.needD h (by first|(simp only [S]<;>rfl)|rfl) ?_
      clear h; intro h; cbv
      refine R.needD h (by first|(simp only [S]<;>rfl)|rfl) ?_
      clear h; intro h; cbv
      refine R.callD h (fun x18 hx18 h2 => ?_)
      clear h; have h := h2; clear h2
      refine R.call' (w45 _ _ _ hx18) (by first|(simp only [S]<;>rfl)|rfl) ?_
      clear hx18; cbv
      have e := ret_some h; clear h
      refine hK _ _ ?_
      cbv
      try (subst e; simp only [S, and_self, and_true, true_and] <;> (repeat' apply And.intro) <;> rfl)
     ·refine R.cut' (by kernel_rfl) (by kernel_rfl) ?_
      cbv
      refine R.brD h (by first|(simp only [S]<;>rfl)|rfl) ?_ ?_<;>clear h<;>intro h<;>cbv
      ·refine R.needD h (by first|(simp only [S]<;>rfl)|rfl) ?_
       clear h; intro h; cbv
       refine R.needD h (by first|(simp only [S]<;>rfl)|rfl) ?_
       clear h; intro h; cbv
       refine R.callD h (fun x20 hx20 h2 => ?_)
       clear h; have h := h2; clear h2
       refine R.call' (w45 _ _ _ hx20) (by first|(simp only [S]<;>rfl)|rfl) ?_
       clear hx20; cbv
       have e := ret_some h; clear h
       refine hK _ _ ?_
       cbv
       try (subst e; simp only [S, and_self, and_true, true_and] <;> (repeat' apply And.intro) <;> rfl)
      ·refine R.callD h (fun x21 hx21 h2 => ?_)
       clear h; have h := h2; clear h2
       refine R.call' (w46 _ _ _ _ _ _ hx21) (by first|(simp only [S]<;>rfl)|rfl) ?_
       clear hx21; cbv
       refine R.needD h (by first|(simp only [S]<;>rfl)|rfl) ?_
       clear h; intro h; cbv
       refine R.needD h (by first|(simp only [S]<;>rfl)|rfl) ?_
       clear h; intro h; cbv
       refine R.callD h (fun x22 hx22 h2 => ?_)
       clear h; have h := h2; clear h2
       refine R.call' (w45 _ _ _ hx22) (by first|(simp only [S]<;>rfl)|rfl) ?_
       clear hx22; cbv
       refine R.cutB (fun p => p) (fun _ _ e => e) h [] (fun p28 => [(12, .i .i64 p28)]) (fun p28 => []) (by kernel_rfl) (by kernel_rfl) (fun y25 hy hFy25 L hLy25 => ?_) (fun p28 h2 => ?_)
       ·clear h; have h := hy; clear hy; cbv
        refine R.callD h (fun x26 hx26 h2 => ?_)
        clear h; have h := h2; clear h2
        refine R.call' (w43 _ _ _ _ _ hx26) (by first|(simp only [S]<;>rfl)|rfl) ?_
        clear hx26; cbv
        refine R.brD h (by first|(simp only [S]<;>rfl)|rfl) ?_ ?_<;>clear h<;>intro h<;>cbv
        ·refine R.callD h (fun x27 hx27 h2 => ?_)
         clear h; have h := h2; clear h2
         refine R.call' (w46 _ _ _ _ _ _ hx27) (by first|(simp only [S]<;>rfl)|rfl) ?_
         clear hx27; cbv
         obtain ⟨s', e, hi⟩ := jn_some (fun p => p) h
         refine hLy25 s' _ _ hi ⟨by kernel_rfl, ?_, ?_, by kernel_rfl, by kernel_rfl⟩<;>cbv<;>(try (subst e;simp only [S,and_self,and_true,true_and]<;>(repeat' apply And.intro)<;>rfl))
        ·obtain ⟨s', e, hi⟩ := jn_some (fun p => p) h
         refine hLy25 s' _ _ hi ⟨by kernel_rfl, ?_, ?_, by kernel_rfl, by kernel_rfl⟩<;>cbv<;>(try (subst e;simp only [S,and_self,and_true,true_and]<;>(repeat' apply And.intro)<;>rfl))
       ·clear h; have h := h2; clear h2; try dsimp only at h
        cbv
        refine R.cut' (by kernel_rfl) (by kernel_rfl) ?_
        cbv
        refine R.brD h (by first|(simp only [S]<;>rfl)|rfl) ?_ ?_<;>clear h<;>intro h<;>cbv
        ·have e := ret_some h; clear h
         refine hK _ _ ?_
         cbv
         try (subst e; simp only [S, and_self, and_true, true_and] <;> (repeat' apply And.intro) <;> rfl)
        ·have e := ret_some h; clear h
         refine hK _ _ ?_
         cbv
         try (subst e; simp only [S, and_self, and_true, true_and] <;> (repeat' apply And.intro) <;> rfl)
end Go.Proofs.Ytmofhbedamjblaa
end
