/- A text of the proof of MemDiffs: what of it that proof uses. No statement of its own. -/
import Derived.Test.YtmpdimigpaogkaaV9GR
import Derived.Test.YtmpdimigpaogkaaV9G2
import Derived.Laws.Rows
import Derived.LoopIn
import Derived.LoopNIn
import Derived.Outline
import Derived.OwnWalkIn
import Derived.Shelf.RegionOpen
import Derived.TacticsInMore
namespace Go.Proofs.Ytmpdimigpaogkaa.G
open Go.RowKit Go.Proofs.YtmpdimigpaogkaaW.PrintWords Go.Proofs.YtmpdimigpaogkaaW.PrintLast Go.Proofs.YtmpdimigpaogkaaW.PrintMore
set_option linter.unusedVariables false
set_option linter.unusedSimpArgs false
attribute [local go_sem] Oper.semAt_some

theorem mem_pages.calls (v : Value) (v2 : Value) (w : World) : Calls Try.prog 71 #[.agg #[v, v2]] w fun e w' => e = .returned (.func (.func 81) #[] #[.pointer (some ⟨w.heap.size, 0, none⟩)]) ∧ w' = w.alloc (.cells #[v, v2] 25) := by
  have hmf : ∀ (fn : Fn) (first cap : Array Value) (w : World), (Instr.makeFunc fn first cap).run Try.prog w = .ok (.func fn first cap) w := fun _ _ _ _ => rfl
  go_enter Try.func71, Try.ntmps71
  go_wp2
  go_ret
  exact ⟨rfl, rfl⟩

/-- A whole variable of several cells, read from the middle of a block. -/
theorem run_loadVar_list {P : Program} (w : World) (ad : Addr) (ty : TypeId) (cs : List Value) (d : TypeDesc) (hc : ∀ j v, cs[j]? = some v → w.cell? (ad.add j) = some v)
    (hu : P.underlying ty = some d) (hd : (match d with | .struct _ | .array _ _ => true | _ => false) = true) (hi : (P.info? ty).map (·.size) = some cs.length) :
    (loadVar ty ad).run P w = .ok (.agg cs.toArray) w := by
  have hl : (loadCells ad cs.length).run P w = .ok cs.toArray w := run_loadCells_list (P := P) w ad cs hc
  cases hq : P.info? ty with
  | none => simp [hq] at hi
  | some i =>
    have hs : i.size = cs.length := by simpa [hq] using hi
    have hagg : (isAgg ty).run P w = .ok true w := by
      unfold isAgg
      rw [Sem.run_bind, run_underlying hu w]
      cases d <;> simp_all
    simp [loadVar, hagg, sizeOf, typeInfo, hq, hs, hl, Result.andThen]

section
variable {F : Fence} {n : Nat} {P : Program} {ops : Array Oper} {rest : List Oper} {o : Oper} {a : Act} {Q : Exit → Act → World → Prop} {w : World}
theorem gateIn {N : Tmp} (_hN : o.dst = some N) (h : wpListIn F n P ops Q (o :: rest) a w) : wpListIn F n P ops Q (o :: rest) a w := h
theorem wpListIn_run {w1 : World} {v : Value} (hg : o.guard = none) (hd : ∀ c, o.op ≠ .defer c) (habout : o.about P w a.eval = none) (hrun : (execOp a.eval o).run P w = .ok (.value v) w1)
    (h : wpListIn F n P ops Q rest (a.put o.dst v) w1) : wpListIn F n P ops Q (o :: rest) a w := by
  refine wpListIn_plain hg fun K hK => ?_
  unfold Oper.wpIn
  refine ⟨fun f hf => (by rw [habout] at hf; cases hf), ?_⟩
  rw [Oper.semAt_plain F _ _ hd, hrun]
  exact hK _ _ h
theorem wpListIn_load {ty : TypeId} {x : Operand} {ad : Addr} {v : Value} (hg : o.guard = none) (ho : o.op = .load ty x) (hx : a.eval x = .pointer (some ad)) (hl : (loadVar ty ad).run P w = .ok v w)
    (h : wpListIn F n P ops Q rest (a.put o.dst v) w) : wpListIn F n P ops Q (o :: rest) a w := by
  refine wpListIn_run hg (by rw [ho]; intro c hc; cases hc) (by simp [Oper.about, ho]) ?_ h
  unfold execOp
  simp only [ho, hx, Instr.loadAt, Instr.sureAddr, Sem.run_bind, Sem.run_pure, Result.andThen_ok, hl]
end
/-- A page as it is yielded: its number and its bytes. -/
def pageV (x : Nat × List Int) : Array Value := #[.int .i64 x.1, .agg (x.2.map (Value.int .u8)).toArray]
def pageAt (l : List Int) (i : Nat) : List Int := (l.drop (64 * i)).take 64
def PagesR (Bn : Nat) (A0 : Option Addr) (n0 c0 : Nat) (A1 : Option Addr) (c1 : Nat) (l1 : List Int) (W : World) : Prop :=
  W.heap[Bn]? = some (.cells #[.slice A0 n0 c0, .slice A1 l1.length c1] 25 (0, 0)) ∧ Kd.C (Kd.int .u8) W A1 l1.length l1

set_option maxRecDepth 100000 in
set_option maxHeartbeats 1000000 in
theorem pages1_gives (m : Nat) (hm : 1 ≤ m) (Bn : Nat) (A0 : Option Addr) (n0 c0 : Nat) (A1 : Option Addr) (c1 : Nat) (l1 : List Int) (hn : n0 ≤ 32) (hl : l1.length = 64 * n0) (hc : l1.length ≤ c1) :
    IterGives Fence.wide m Try.prog 81 #[.pointer (some ⟨Bn, 0, none⟩)] pageV (PagesR Bn A0 n0 c0 A1 c1 l1) (fun pre x => pre.length < n0 ∧ x = (pre.length, pageAt l1 pre.length)) (fun xs => xs = (List.range n0).map fun i => (i, pageAt l1 i)) (fun _ _ => False) := by
  intro l J Jx W hR hst hY h0
  refine callsIn_of_wp Try.func81 rfl trivial ?_ rfl
  simp only [Try.ntmps81, List.size_toArray, List.length_cons, List.length_nil, Nat.reduceAdd, Nat.reduceSub, Array.replicate_succ, Array.replicate_zero, List.push_toArray, List.append_toArray, List.nil_append, List.cons_append]
  have hB := hR _ _ h0
  have hz0 : W.cell? ⟨Bn, 0, none⟩ = some (.slice A0 n0 c0) := (blk_cell hB.1 0).trans rfl
  gi_wp2
  gi_loopw [7, 8] (fun i _ wr => ∃ k : Nat, k ≤ n0 ∧ i = .int .i64 k ∧ J ((List.range k).map fun i => (i, pageAt l1 i)) wr) (fun i _ _ => n0 - (intOf i).toNat)
  case atStart => exact ⟨0, Nat.zero_le _, rfl, h0⟩
  case round =>
    obtain ⟨k, hk, rfl, hJ⟩ := hrel
    have hB' := hR _ _ hJ
    have hz1 : wr.cell? ⟨Bn, 1, none⟩ = some (.slice A1 l1.length c1) := (blk_cell hB'.1 1).trans rfl
    by_cases hlt : k < n0
    · obtain ⟨ad, hA, _⟩ := hB'.2.2.2 (by omega)
      subst hA
      obtain ⟨fn, tmps, assign, body, hy, hRd⟩ := hY _ (k, pageAt l1 k) wr hJ ⟨by simpa using hlt, by simp⟩
      have b1 : (k : Int) * 64 ≤ 2048 := by omega
      have b2 : (k : Int) < 32 := by omega
      have hpl : ∀ j v, ((pageAt l1 k).map (Value.int .u8))[j]? = some v → wr.cell? ((ad.add (k * 64)).add j) = some v := by
        intro j v hv
        rw [List.getElem?_map] at hv
        obtain ⟨x, hx, rfl⟩ := Option.map_eq_some_iff.1 hv
        obtain ⟨ad', he, hcell⟩ := hB'.2.2.2 (by omega)
        cases he
        have hj : j < 64 := by
          have := (List.getElem?_eq_some_iff.1 hx).1
          simp [pageAt] at this
          omega
        have hx2 : l1[64 * k + j]? = some x := by
          unfold pageAt at hx
          rw [List.getElem?_take_of_lt hj, List.getElem?_drop] at hx
          exact hx
        obtain ⟨cs, hcs, hK, hcc⟩ := hcell _ x hx2
        have hK' : cs = [.int .u8 x] := hK
        subst hK'
        have h3 := hcc 0 _ rfl
        rw [show (ad.add (k * 64)).add j = ad.add ((64 * k + j) * 1 + 0) from by rw [Addr.add_add]; congr 1; omega]
        exact h3
      have hlen : ((pageAt l1 k).map (Value.int .u8)).length = 64 := by
        simp [pageAt]
        omega
      have hload := run_loadVar_list (P := Try.prog) wr (ad.add (k * 64)) 121 _ _ hpl Try.underlying121 rfl (by rw [hlen]; kernel_rfl)
      have harr : ∀ w, (Instr.arrayAt 121 (.slice (some (ad.add (k * 64))) ((k + 1) * 64 - k * 64) (c1 - k * 64))).run Try.prog w = .ok (.pointer (some (ad.add (k * 64)))) w := by
        intro w
        have : ¬ ((k + 1) * 64 - k * 64 < 64) := by omega
        simp only [Instr.arrayAt, Sem.run_bind, run_underlying Try.underlying121, Result.andThen_ok]
        rw [if_neg this]
        rfl
      have HL := Aside0.mk hload
      clear hB hz0 h0 hY hst hR hpl hlen hload
      gi_wp2_with ((with_reducible refine gateIn (N := 21) rfl ?_); refine wpListIn_load rfl rfl rfl HL.out ?_)
      unfold pageV at hy
      gi_wp2
      refine hRd.mono ?_
      rintro e W3 (⟨rfl, hJ3⟩ | ⟨rfl, hJx3⟩)
      · gi_wp2
        go_roundw
        case rel => exact ⟨k + 1, by omega, by go_num, by rw [List.range_succ, List.map_append]; exact hJ3⟩
        case measure => simp [intOf]; omega
      · gi_wp2
        refine bodyPost_ret (results_none rfl _ _ _) rfl ?_
        exact .inr (.inl ⟨_, rfl, _, _, hJx3, Below.refl _ _⟩)
    · obtain rfl : k = n0 := by omega
      gi_wp2
      go_end0
      exact .inl ⟨_, rfl, _, rfl, hJ⟩
end Go.Proofs.Ytmpdimigpaogkaa.G
