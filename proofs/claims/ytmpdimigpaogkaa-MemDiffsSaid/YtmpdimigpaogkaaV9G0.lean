/- A text of the proof of MemDiffs: what of it that proof uses. No statement of its own. -/
import Derived.Test.YtmpdimigpaogkaaV9WInv
import Derived.Test.YtmpdimigpaogkaaV9WN
import Derived.Test.YtmpdimigpaogkaaV9WMore
import Derived.Below
import Derived.Laws.StructEq
import Derived.Maps.Own
import Derived.WideMake
namespace Go.Proofs.Ytmpdimigpaogkaa.G
open Go.RowKit Go.Proofs.YtmpdimigpaogkaaW.PrintWords Go.Proofs.YtmpdimigpaogkaaW.PrintLast Go.ChangeMaps

/-- The first entry whose key meets eqv. -/
def firstBy (eqv : Value → Bool) : List MapEntry → Nat → Option (Nat × Value)
  | [], _ => none
  | e :: es, i => if eqv e.key = true then some (i, e.val) else firstBy eqv es (i + 1)

/-- Looking x up among keys of K goes by eqv. -/
def Finds (P : Program) (kt : TypeId) (x : Value) (eqv : Value → Bool) (K : Value → Prop) : Prop :=
  (∀ w em, (Instr.checkKey em 10000 kt x).run P w = .ok () w) ∧
  ∀ (w : World) (es : List MapEntry), (∀ e ∈ es, K e.key) → (Instr.findKey kt x es).run P w = .ok (firstBy eqv es 0) w

theorem findAsking_by {P : Program} {kt : TypeId} {x : Value} {eqv : Value → Bool} {w : World} : ∀ (es : List MapEntry) (i : Nat), (∀ e ∈ es, (Op.equal kt x e.key).run P w = .ok (eqv e.key) w) →
    (Instr.findAsking kt x es i).run P w = .ok (firstBy eqv es i) w
  | [], _, _ => by simp [Instr.findAsking, firstBy]
  | e :: es, i, h => by
    have h1 := h e (by simp)
    have ih := findAsking_by es (i + 1) (fun e' he => h e' (by simp [he]))
    unfold Instr.findAsking firstBy
    simp only [Sem.run_bind, h1, Result.andThen_ok]
    cases hb : eqv e.key
    · simp [ih]
    · simp

theorem finds_struct {P : Program} {kt : TypeId} {x : Value} {eqv : Value → Bool} {K : Value → Prop} {fs : Array Field} (hk : P.underlying kt = some (.struct fs)) (hc : ∀ w em, (Instr.checkKey em 10000 kt x).run P w = .ok () w)
    (heq : ∀ w k, K k → (Op.equal kt x k).run P w = .ok (eqv k) w) : Finds P kt x eqv K := by
  refine ⟨hc, fun w es hes => ?_⟩
  unfold Instr.findKey
  simp only [Sem.run_bind, run_underlying hk, Result.andThen_ok]
  cases es with
  | nil => simp [Instr.findNow, firstBy]
  | cons e es =>
    have : Instr.findNow (.struct fs) x (e :: es) 0 = none := by
      unfold Instr.findNow
      rfl
    rw [this]
    exact findAsking_by _ _ (fun e' he => heq w _ (hes e' he))

/-- Is it this number? -/
def isInt (x : Int) : Value → Bool
  | .int _ n => x == n
  | _ => false

theorem findNow_by {k : IntKind} {x : Int} : ∀ (es : List MapEntry) (i : Nat), (∀ e ∈ es, ∃ n, e.key = .int k n) → Instr.findNow (.int k) (.int k x) es i = some (firstBy (isInt x) es i)
  | [], _, _ => rfl
  | e :: es, i, h => by
    obtain ⟨n, hn⟩ := h e (by simp)
    have ih := findNow_by (x := x) es (i + 1) (fun e' he => h e' (by simp [he]))
    have e1 : Instr.sameNow (.int k) (.int k x) (.int k n) = some (isInt x (.int k n)) := by simp [Instr.sameNow, isInt]
    unfold Instr.findNow firstBy
    rw [hn, e1]
    cases isInt x (.int k n) <;> simp [ih]

theorem finds_int {P : Program} {kt : TypeId} {k : IntKind} {x : Int} {K : Value → Prop} (hk : P.underlying kt = some (.int k)) (hK : ∀ v, K v → ∃ n, v = .int k n) : Finds P kt (.int k x) (isInt x) K := by
  refine ⟨fun w em => ?_, fun w es hes => ?_⟩
  · unfold Instr.checkKey
    simp [run_underlying hk]
  · unfold Instr.findKey
    simp only [Sem.run_bind, run_underlying hk, Result.andThen_ok]
    rw [findNow_by es 0 (fun e he => hK _ (hes e he))]
    simp

/-- Block g of w is a map that holds just the rows of L whose number is listed in b: (number, key, value). -/
def MapOf (w : World) (g : Nat) (L : List (Nat × Value × Value)) (b : Nat → Bool) : Prop :=
  ∃ es clock, w.heap[g]? = some (.map es clock) ∧ (∀ e ∈ es.toList, ∃ l ∈ L, b l.1 = true ∧ l.2 = (e.key, e.val)) ∧ ∀ l ∈ L, b l.1 = true → ∃ e ∈ es.toList, l.2 = (e.key, e.val)

theorem MapOf.block {w w' : World} {g : Nat} {L : List (Nat × Value × Value)} {b : Nat → Bool} (h : MapOf w g L b) (he : w'.heap[g]? = w.heap[g]?) : MapOf w' g L b := by
  obtain ⟨es, c, h1, h2⟩ := h
  exact ⟨es, c, he.trans h1, h2⟩

theorem MapOf.lt {w : World} {g : Nat} {L : List (Nat × Value × Value)} {b : Nat → Bool} (h : MapOf w g L b) : g < w.heap.size := by
  obtain ⟨es, c, h1, _⟩ := h
  exact (Array.getElem?_eq_some_iff.1 h1).1

theorem MapOf.made (w : World) (L : List (Nat × Value × Value)) (b : Nat → Bool) (hb : ∀ l ∈ L, b l.1 = false) : MapOf (w.alloc (.map #[] 0)) w.heap.size L b :=
  ⟨#[], 0, (MapKept.heap_alloc w _).1, by simp, fun l hl h => by rw [hb l hl] at h; cases h⟩

theorem MapOf.same {w : World} {g : Nat} {L : List (Nat × Value × Value)} {b b' : Nat → Bool} (h : MapOf w g L b) (he : ∀ l ∈ L, b' l.1 = b l.1) : MapOf w g L b' := by
  obtain ⟨es, c, h1, h2, h3⟩ := h
  refine ⟨es, c, h1, fun e he' => ?_, fun l hl hb => h3 l hl (by rw [← he l hl]; exact hb)⟩
  obtain ⟨l, hl, hb, e1⟩ := h2 e he'
  exact ⟨l, hl, by rw [he l hl]; exact hb, e1⟩

theorem firstBy_none {eqv : Value → Bool} : ∀ {es : List MapEntry} {i : Nat}, (∀ e ∈ es, eqv e.key = false) → firstBy eqv es i = none
  | [], _, _ => rfl
  | e :: es, i, h => by
    unfold firstBy
    rw [if_neg (by rw [h e (by simp)]; decide)]
    exact firstBy_none (fun e' he => h e' (by simp [he]))

theorem firstBy_some {eqv : Value → Bool} : ∀ {es : List MapEntry} {i : Nat}, (∃ e ∈ es, eqv e.key = true) → ∃ j e, e ∈ es ∧ eqv e.key = true ∧ firstBy eqv es i = some (j, e.val)
  | [], _, ⟨_, h, _⟩ => by cases h
  | e :: es, i, h => by
    unfold firstBy
    by_cases hb : eqv e.key = true
    · rw [if_pos hb]
      exact ⟨i, e, by simp, hb, rfl⟩
    · rw [if_neg hb]
      obtain ⟨e', he', hb'⟩ := h
      rcases List.mem_cons.1 he' with rfl | he'
      · exact absurd hb' hb
      obtain ⟨j, e1, h1, h2, h3⟩ := firstBy_some (i := i + 1) ⟨e', he', hb'⟩
      exact ⟨j, e1, by simp [h1], h2, h3⟩

/-- A row is put into the map. -/
theorem MapOf.put {P : Program} {w : World} {g t kt et : Nat} {L : List (Nat × Value × Value)} {b : Nat → Bool} (h : MapOf w g L b) (ht : P.underlying t = some (.map kt et)) {i : Nat} {x v : Value} (hi : (i, x, v) ∈ L)
    {eqv : Value → Bool} (hF : Finds P kt x eqv (fun k => ∃ l ∈ L, l.2.1 = k)) (hne : ∀ l ∈ L, b l.1 = true → eqv l.2.1 = false) (huniq : ∀ l ∈ L, l.1 = i → l = (i, x, v)) :
    ∃ w', (Instr.mapUpdate t (.map (some g)) x v).run P w = .ok () w' ∧ MapOf w' g L (up b i) ∧ w.grownBy w' (some g) := by
  obtain ⟨es, c, h1, h2, h3⟩ := h
  have hf := hF.2 w es.toList (fun e he => by
    obtain ⟨l, hl, _, e1⟩ := h2 e he
    exact ⟨l, hl, by rw [e1]⟩)
  rw [firstBy_none (fun e he => by
    obtain ⟨l, hl, hb, e1⟩ := h2 e he
    have := hne l hl hb
    rwa [e1] at this)] at hf
  refine ⟨setBlock w g (.map (es.push ⟨x, v, c⟩) (c + 1)), ?_, ⟨es.push ⟨x, v, c⟩, c + 1, heap_setBlock_same h1 _, fun e he => ?_, fun l hl hb => ?_⟩, ⟨rfl, rfl, rfl, by simp [setBlock], fun i _ hi => heap_setBlock_other h1 _ (fun e => hi (by rw [e]))⟩⟩
  · simp [Instr.mapUpdate, run_underlying ht, MapKept.run_getObj_map h1, hF.1 w false, hf, MapKept.run_setObj_map _ h1, Result.andThen, setBlock]
  · simp only [Array.toList_push, List.mem_append, List.mem_singleton] at he
    rcases he with he | rfl
    · obtain ⟨l, hl, hb, e1⟩ := h2 e he
      refine ⟨l, hl, ?_, e1⟩
      unfold up
      split
      · rfl
      · exact hb
    · exact ⟨_, hi, up_self b i, rfl⟩
  · by_cases hli : l.1 = i
    · rw [huniq l hl hli]
      exact ⟨⟨x, v, c⟩, by simp, rfl⟩
    · rw [up_ne hli] at hb
      obtain ⟨e, he, e1⟩ := h3 l hl hb
      exact ⟨e, by simp [he], e1⟩

/-- What a key finds: the value of the one row that it meets, or nothing. -/
theorem MapOf.find {P : Program} {w : World} {g kt : Nat} {L : List (Nat × Value × Value)} {b : Nat → Bool} {x : Value} {eqv : Value → Bool} (h : MapOf w g L b) (hall : ∀ l ∈ L, b l.1 = true) (hF : Finds P kt x eqv (fun k => ∃ l ∈ L, l.2.1 = k)) :
    ∃ es clock, w.heap[g]? = some (.map es clock) ∧ (((∀ l ∈ L, eqv l.2.1 = false) ∧ (Instr.findKey kt x es.toList).run P w = .ok none w) ∨
      ∃ j l, l ∈ L ∧ eqv l.2.1 = true ∧ (Instr.findKey kt x es.toList).run P w = .ok (some (j, l.2.2)) w) := by
  obtain ⟨es, c, h1, h2, h3⟩ := h
  refine ⟨es, c, h1, ?_⟩
  have hf := hF.2 w es.toList (fun e he => by
    obtain ⟨l, hl, _, e1⟩ := h2 e he
    exact ⟨l, hl, by rw [e1]⟩)
  by_cases hex : ∃ l ∈ L, eqv l.2.1 = true
  · obtain ⟨l, hl, hb⟩ := hex
    obtain ⟨e, he, e1⟩ := h3 l hl (hall l hl)
    obtain ⟨j, e', he', hb', hj⟩ := firstBy_some (eqv := eqv) (i := 0) ⟨e, he, by rw [e1] at hb; exact hb⟩
    obtain ⟨l', hl', _, e1'⟩ := h2 e' he'
    refine .inr ⟨j, l', hl', by rw [e1']; exact hb', ?_⟩
    rw [hf, hj, e1']
  · have hn : ∀ l ∈ L, eqv l.2.1 = false := fun l hl => by
      cases hb : eqv l.2.1
      · rfl
      · exact absurd ⟨l, hl, hb⟩ hex
    refine .inl ⟨hn, ?_⟩
    rw [hf, firstBy_none (fun e he => by
      obtain ⟨l, hl, _, e1⟩ := h2 e he
      have := hn l hl
      rwa [e1] at this)]

/-- 'v, ok := m[x]' and 'm[x]', the key there. -/
theorem MapOf.look {P : Program} {w : World} {g t kt et : Nat} {L : List (Nat × Value × Value)} {b : Nat → Bool} {x : Value} {eqv : Value → Bool} (h : MapOf w g L b) (hall : ∀ l ∈ L, b l.1 = true) (ht : P.underlying t = some (.map kt et))
    (hF : Finds P kt x eqv (fun k => ∃ l ∈ L, l.2.1 = k)) {v : Value} (hex : ∃ l ∈ L, eqv l.2.1 = true) (hv : ∀ l ∈ L, eqv l.2.1 = true → l.2.2 = v) (c : Bool) :
    (Instr.lookup t (.map (some g)) x c).run P w = .ok (if c = true then .tuple #[v, .bool true] else v) w := by
  obtain ⟨es, clk, h1, h2⟩ := h.find hall hF
  obtain ⟨l0, hl0, hb0⟩ := hex
  rcases h2 with ⟨hn, _⟩ | ⟨j, l, hl, hb, hrun⟩
  · rw [hn l0 hl0] at hb0
    cases hb0
  · have := hv l hl hb
    subst this
    cases c <;> simp [Instr.lookup, run_underlying ht, MapKept.run_getObj_map h1, hF.1 w _, hrun, Result.andThen]

/-- .. and not there. -/
theorem MapOf.look_none {P : Program} {w : World} {g t kt et : Nat} {L : List (Nat × Value × Value)} {b : Nat → Bool} {x : Value} {eqv : Value → Bool} (h : MapOf w g L b) (hall : ∀ l ∈ L, b l.1 = true) (ht : P.underlying t = some (.map kt et))
    (hF : Finds P kt x eqv (fun k => ∃ l ∈ L, l.2.1 = k)) {z : Value} (hz : (zeroValue et).run P w = .ok z w) (hv : ∀ l ∈ L, eqv l.2.1 = false) (c : Bool) :
    (Instr.lookup t (.map (some g)) x c).run P w = .ok (if c = true then .tuple #[z, .bool false] else z) w := by
  obtain ⟨es, clk, h1, h2⟩ := h.find hall hF
  rcases h2 with ⟨_, hrun⟩ | ⟨j, l, hl, hb, _⟩
  · cases c <;> simp [Instr.lookup, run_underlying ht, MapKept.run_getObj_map h1, hF.1 w _, hrun, hz, Result.andThen]
  · rw [hv l hl] at hb
    cases hb
end Go.Proofs.Ytmpdimigpaogkaa.G
