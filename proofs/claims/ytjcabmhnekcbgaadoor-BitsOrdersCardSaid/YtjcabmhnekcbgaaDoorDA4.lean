/- Texts of this seat, merged in build order. No statement of its own. -/
import Derived.Test.YtjcabmhnekcbgaaDoorDA3
set_option linter.unusedVariables false
set_option linter.unusedSimpArgs false
section
namespace Go.Ab
open Go.RowKit

def wrapK (k : IntKind) (a : Int) : Int := k.wrap a
def mnI (a b : Int) : Int := if b < a then b else a
def mxI (a b : Int) : Int := if b > a then b else a
def plI (a b : Int) : Int := a + b
def miI (a b : Int) : Int := a - b
def notB' (b : Bool) : Bool := !b
def beqB (a b : Bool) : Bool := a == b
def andB' (a b : Bool) : Bool := a && b
def catS (a b : ByteArray) : ByteArray := a ++ b
def subS (s : ByteArray) (l h : Int) : ByteArray := s.extract l.toNat h.toNat
def toBy (es : List V) : ByteArray := ⟨(es.map fun e => UInt8.ofNat (Ab.asInt e).toNat).toArray⟩
def gI (es : List V) (i : Int) (j : Nat) : Int := Ab.asInt (elAt es i j)
def gB (es : List V) (i : Int) (j : Nat) : Bool := boolOf (elAt es i j)
def gS (es : List V) (i : Int) (j : Nat) : ByteArray := strOf (elAt es i j)
def gL (es : List V) (i : Int) (j : Nat) : List V := listOf (elAt es i j)
def subL (es : List V) (l h : Int) : List V := (es.take h.toNat).drop l.toNat
def putL (es : List V) (i : Int) (j : Nat) (cs : List V) : List V := es.set i.toNat (putCells (es.getD i.toNat .dead) j cs)
def appL (es xs : List V) : List V := es ++ xs
def repL (n : Int) (v : V) : List V := List.replicate n.toNat v
def Ne0 (n : Int) : Prop := n ≠ 0
def Ge0 (n : Int) : Prop := 0 ≤ n
def Inb (i n : Int) : Prop := 0 ≤ i ∧ i < n
def Bnd (l h n : Int) : Prop := 0 ≤ l ∧ l ≤ h ∧ h ≤ n
def Room (n : Int) (b : Nat) : Prop := n ≤ 140737488355328 ∧ n.toNat * b ≤ 140737488355328
def Sroom (a b : ByteArray) : Prop := a.size + b.size ≤ 9223372036854775807
instance (n : Int) : Decidable (Ne0 n) := by unfold Ne0; infer_instance
instance (n : Int) : Decidable (Ge0 n) := by unfold Ge0; infer_instance
instance (i n : Int) : Decidable (Inb i n) := by unfold Inb; infer_instance
instance (l h n : Int) : Decidable (Bnd l h n) := by unfold Bnd; infer_instance
instance (n : Int) (b : Nat) : Decidable (Room n b) := by unfold Room; infer_instance
instance (a b : ByteArray) : Decidable (Sroom a b) := by unfold Sroom; infer_instance

/-- What the folded operations are. -/
structure Real (ar : BinOp → IntKind → Int → Int → Int) (un : UnOp → IntKind → Int → Int) (cv : IntKind → Int → Int) (mn : Int → Int → Int) (mx : Int → Int → Int) (pl : Int → Int → Int) (mi : Int → Int → Int) (cmp : BinOp → Int → Int → Bool) (nt : Bool → Bool) (beq : Bool → Bool → Bool) (an : Bool → Bool → Bool) (scmp : BinOp → ByteArray → ByteArray → Bool) (cat : ByteArray → ByteArray → ByteArray) (slen : ByteArray → Int) (sbyte : ByteArray → Int → Int) (ssub : ByteArray → Int → Int → ByteArray) (ofB : ByteArray → List V) (toB : List V → ByteArray) (len : List V → Int) (gi : List V → Int → Nat → Int) (gb : List V → Int → Nat → Bool) (gs : List V → Int → Nat → ByteArray) (gl : List V → Int → Nat → List V) (sub : List V → Int → Int → List V) (put : List V → Int → Nat → List V → List V) (app : List V → List V → List V) (ovl : List V → Int → List V → List V) (rep : Int → V → List V) (ne0 : Int → Prop) (ge0 : Int → Prop) (inb : Int → Int → Prop) (bnd : Int → Int → Int → Prop) (room : Int → Nat → Prop) (sroom : ByteArray → ByteArray → Prop) : Prop where
  har : ar = arReal
  hun : un = unReal
  hcv : cv = wrapK
  hmn : mn = mnI
  hmx : mx = mxI
  hpl : pl = plI
  hmi : mi = miI
  hcmp : cmp = cmpLit
  hnt : nt = notB'
  hbeq : beq = beqB
  han : an = andB'
  hscmp : scmp = strCmp
  hcat : cat = catS
  hslen : slen = slenI
  hsbyte : sbyte = sbyteI
  hssub : ssub = subS
  hofB : ofB = strBytes
  htoB : toB = toBy
  hlen : len = lenI
  hgi : gi = gI
  hgb : gb = gB
  hgs : gs = gS
  hgl : gl = gL
  hsub : sub = subL
  hput : put = putL
  happ : app = appL
  hovl : ovl = ovlReal
  hrep : rep = repL
  hne0 : ne0 = Ne0
  hge0 : ge0 = Ge0
  hinb : inb = Inb
  hbnd : bnd = Bnd
  hroom : room = Room
  hsroom : sroom = Sroom

section
variable {P : Program} {T : Tr} {W : Nat → List (List Nat)} {ns : List Nat} {ar : BinOp → IntKind → Int → Int → Int} {un : UnOp → IntKind → Int → Int} {cv : IntKind → Int → Int} {mn : Int → Int → Int} {mx : Int → Int → Int} {pl : Int → Int → Int} {mi : Int → Int → Int} {cmp : BinOp → Int → Int → Bool} {nt : Bool → Bool} {beq : Bool → Bool → Bool} {an : Bool → Bool → Bool} {scmp : BinOp → ByteArray → ByteArray → Bool} {cat : ByteArray → ByteArray → ByteArray} {slen : ByteArray → Int} {sbyte : ByteArray → Int → Int} {ssub : ByteArray → Int → Int → ByteArray} {ofB : ByteArray → List V} {toB : List V → ByteArray} {len : List V → Int} {gi : List V → Int → Nat → Int} {gb : List V → Int → Nat → Bool} {gs : List V → Int → Nat → ByteArray} {gl : List V → Int → Nat → List V} {sub : List V → Int → Int → List V} {put : List V → Int → Nat → List V → List V} {app : List V → List V → List V} {ovl : List V → Int → List V → List V} {rep : Int → V → List V} {ne0 : Int → Prop} {ge0 : Int → Prop} {inb : Int → Int → Prop} {bnd : Int → Int → Int → Prop} {room : Int → Nat → Prop} {sroom : ByteArray → ByteArray → Prop} {need : Prop → Prop → Prop} {br : Bool → (Unit → Prop) → (Unit → Prop) → Prop} {call : Nat → List V → (V → Hp → Prop) → Prop} {callb : Nat → List V → Hp → (V → Hp → Prop) → Prop} {loop : Code → (Exit → List V → Hp → Prop) → List V → Hp → Prop} {cut : Code → Code → (Exit → List V → Hp → Prop) → List V → Hp → Prop} {nl : List V → (Unit → Prop) → (Unit → Prop) → Prop}

theorem Eqs.D (E : Eqs ar un cv mn mx pl mi cmp nt beq an scmp cat slen sbyte ssub ofB toB len gi gb gs gl sub put app ovl rep ne0 ge0 inb bnd room sroom) : Real ar un cv mn mx pl mi cmp nt beq an scmp cat slen sbyte ssub ofB toB len gi gb gs gl sub put app ovl rep ne0 ge0 inb bnd room sroom := by
  constructor
  · exact E.har
  · exact E.hun
  · funext a b; exact E.hcv a b
  · funext a b; exact E.hmn a b
  · funext a b; exact E.hmx a b
  · funext a b; exact E.hpl a b
  · funext a b; exact E.hmi a b
  · exact E.hcmp
  · funext a; exact E.hnt a
  · funext a b; exact E.hbeq a b
  · funext a b; exact E.han a b
  · exact E.hscmp
  · funext a b; exact E.hcat a b
  · funext a; exact E.hslen a
  · funext a b; exact E.hsbyte a b
  · funext a b c; exact E.hssub a b c
  · exact E.hofB
  · funext a; exact E.htoB a
  · funext a; exact E.hlen a
  · funext a b c; exact E.hgi a b c
  · funext a b c; exact E.hgb a b c
  · funext a b c; exact E.hgs a b c
  · funext a b c; exact E.hgl a b c
  · funext a b c; exact E.hsub a b c
  · funext a b c d; exact E.hput a b c d
  · funext a b; exact E.happ a b
  · exact E.hovl
  · funext a b; exact E.hrep a b
  · funext a; exact E.hne0 a
  · funext a; exact E.hge0 a
  · funext a b; exact E.hinb a b
  · funext a b c; exact E.hbnd a b c
  · funext a b; exact E.hroom a b
  · funext a b; exact E.hsroom a b

theorem Rules.brD (R : Rules P T W ns ar un cv mn mx pl mi cmp nt beq an scmp cat slen sbyte ssub ofB toB len gi gb gs gl sub put app ovl rep ne0 ge0 inb bnd room sroom need br call callb loop cut nl) {α : Type} {c c' : Bool} {A B : Unit → Prop} {X Y : Option α} {r : α} (h : (if c' = true then X else Y) = some r) (e : c = c') (h1 : X = some r → A ()) (h2 : Y = some r → B ()) : br c A B := by
  subst e
  refine R.br' (fun hc => h1 ?_) (fun hc => h2 ?_)
  · rw [if_pos hc] at h; exact h
  · rw [if_neg (by rw [hc]; exact Bool.false_ne_true)] at h; exact h
theorem Rules.needD (R : Rules P T W ns ar un cv mn mx pl mi cmp nt beq an scmp cat slen sbyte ssub ofB toB len gi gb gs gl sub put app ovl rep ne0 ge0 inb bnd room sroom need br call callb loop cut nl) {α : Type} {p p' q : Prop} [Decidable p'] {X : Option α} {r : α} (h : (if p' then X else none) = some r) (e : p = p') (h1 : X = some r → q) : need p q := by
  subst e
  obtain ⟨h2, h3⟩ := need_some h
  exact R.need' h2 (h1 h3)
theorem Rules.callD (R : Rules P T W ns ar un cv mn mx pl mi cmp nt beq an scmp cat slen sbyte ssub ofB toB len gi gb gs gl sub put app ovl rep ne0 ge0 inb bnd room sroom need br call callb loop cut nl) {α β : Type} {f : Nat} {args : List V} {K : V → Hp → Prop} {x : Option α} {F : α → Option β} {r : β} (h : x.bind F = some r) (k : ∀ a, x = some a → F a = some r → call f args K) : call f args K := by
  obtain ⟨a, h1, h2⟩ := bind_some' h
  exact k a h1 h2
theorem Rules.loopD (R : Rules P T W ns ar un cv mn mx pl mi cmp nt beq an scmp cat slen sbyte ssub ofB toB len gi gb gs gl sub put app ovl rep ne0 ge0 inb bnd room sroom need br call callb loop cut nl) {b : Code} {K : Exit → List V → Hp → Prop} {tm : List V} {hp : Hp} {S A β : Type} {f : S → Option (S ⊕ A)} {s0 : S} {F : A → Option β} {r : β} (h : (iter f s0).bind F = some r) (k : ∀ s x, s = s0 → iter f s = some x → F x = some r → loop b K tm hp) : loop b K tm hp := by
  obtain ⟨a, h1, h2⟩ := bind_some' h
  exact k s0 a rfl h1 h2
theorem Rules.loopI (R : Rules P T W ns ar un cv mn mx pl mi cmp nt beq an scmp cat slen sbyte ssub ofB toB len gi gb gs gl sub put app ovl rep ne0 ge0 inb bnd room sroom need br call callb loop cut nl) {b : Code} {K : Exit → List V → Hp → Prop} {tm : List V} {hp : Hp} {S A : Type} {f : S → Option (S ⊕ A)} {s0 : S} {x : A} (hx : iter f s0 = some x) (dr : List Nat) (up : S → List (Nat × V)) (uh : S → Hp) (hf : FitsU ns b dr tm hp (up s0) (uh s0) tm hp) (hok : codeOk W b = true)
    (hs : ∀ s m y, f s = some y → (∀ s', y = .inl s' → iterN f m s' = some x) → (∀ q, y = .inr q → q = x) → ∀ L : List V → Hp → Prop, (∀ s' tm' hp', iterN f m s' = some x → FitsU ns b dr tm hp (up s') (uh s') tm' hp' → L tm' hp') → vc ⟨ar, un, cv, mn, mx, pl, mi, cmp, nt, beq, an, scmp, cat, slen, sbyte, ssub, ofB, toB, len, gi, gb, gs, gl, sub, put, app, ovl, rep, ne0, ge0, inb, bnd, room, sroom, need, br, call, callb, loop, cut, nl⟩ T W b (fun e tm hp => match e with | .normal => L tm hp | e => K e tm hp) (mkS tm.length (slotsU b dr tm (up s))) (heapU dr hp (uh s))) : loop b K tm hp := by
  obtain ⟨n, hn⟩ := iter_iff.1 hx
  refine R.loopU dr (fun a : Nat × S => up a.2) (fun a => uh a.2) (fun a => iterN f a.1 a.2 = some x) (fun a => a.1) (n, s0) hn hf hok (fun a ha L hL => ?_)
  obtain ⟨n, s⟩ := a
  obtain ⟨m, rfl, y, hy, hz⟩ := iterN_succ ha
  exact hs s m y hy (fun s' e => by subst e; exact hz) (fun q e => by subst e; exact hz) L (fun s' tm' hp' h1 h2 => hL (m, s') tm' hp' h1 (Nat.lt_succ_self _) h2)
theorem Rules.cutB (R : Rules P T W ns ar un cv mn mx pl mi cmp nt beq an scmp cat slen sbyte ssub ofB toB len gi gb gs gl sub put app ovl rep ne0 ge0 inb bnd room sroom need br call callb loop cut nl) {a b : Code} {K : Exit → List V → Hp → Prop} {tm : List V} {hp : Hp} {Y S β : Type} {x : Option Y} {F : Y → Option β} {r : β} (inj : S → Y) (hij : ∀ p q, inj p = inj q → p = q) (h : x.bind F = some r) (dr : List Nat) (up : S → List (Nat × V)) (uh : S → Hp) (ha : codeOk W a = true) (hb : codeOk W b = true)
    (hs : ∀ y, x = some y → F y = some r → ∀ L : List V → Hp → Prop, (∀ p tm' hp', y = inj p → FitsU ns a dr tm hp (up p) (uh p) tm' hp' → L tm' hp') → vc ⟨ar, un, cv, mn, mx, pl, mi, cmp, nt, beq, an, scmp, cat, slen, sbyte, ssub, ofB, toB, len, gi, gb, gs, gl, sub, put, app, ovl, rep, ne0, ge0, inb, bnd, room, sroom, need, br, call, callb, loop, cut, nl⟩ T W a (fun e tm hp => match e with | .normal => L tm hp | e => K e tm hp) tm hp)
    (hk : ∀ p, F (inj p) = some r → vc ⟨ar, un, cv, mn, mx, pl, mi, cmp, nt, beq, an, scmp, cat, slen, sbyte, ssub, ofB, toB, len, gi, gb, gs, gl, sub, put, app, ovl, rep, ne0, ge0, inb, bnd, room, sroom, need, br, call, callb, loop, cut, nl⟩ T W b K (mkS tm.length (slotsU a dr tm (up p))) (heapU dr hp (uh p))) : cut a b K tm hp := by
  obtain ⟨y, h1, h2⟩ := bind_some' h
  by_cases hy : ∃ p, y = inj p
  · obtain ⟨p, rfl⟩ := hy
    refine R.cutF tm.length (slotsU a dr tm (up p)) (heapU dr hp (uh p)) ha hb (fun L hL => hs _ h1 h2 (fun tm' hp' => L tm' hp') (fun q tm' hp' e hf => ?_)) (hk p h2)
    have e := hij _ _ e; subst e; exact hL _ tm' hp' hf.fits
  · exact R.cut' ha hb (hs y h1 h2 _ (fun p tm' hp' e _ => absurd ⟨p, e⟩ hy))
theorem inl_some {S A : Type} {a : S} {y : S ⊕ A} {f : S → Option (S ⊕ A)} {m : Nat} {x : A} (h : some (Sum.inl a) = some y) (hi : ∀ s', y = .inl s' → iterN f m s' = some x) : ∃ s, s = a ∧ iterN f m s = some x := by
  injection h with h
  exact ⟨a, rfl, hi a h.symm⟩
theorem inr_some {S A : Type} {a x : A} {y : S ⊕ A} (h : some (Sum.inr a) = some y) (hq : ∀ q, y = .inr q → q = x) : x = a := by
  injection h with h
  exact (hq a h.symm).symm
theorem ret_some {α : Type} {a r : α} (h : some a = some r) : r = a := by injection h with h; exact h.symm
theorem jn_some {Y S : Type} {y : Y} {a : S} (f : S → Y) (h : some (f a) = some y) : ∃ s, s = a ∧ y = f s := by injection h with h; exact ⟨a, rfl, h.symm⟩
open Classical in
def W0 (r : Nat) : List (List Nat) := []
theorem none_some {α : Type} {a : α} (h : (none : Option α) = some a) : False := by cases h
end
end Go.Ab
end
section
namespace Go.Proofs.YtjcabmhnekcbgaaDoor
open Go.Ab Go.RowKit Go.Proofs.YtjcabmhnekcbgaaDoor.G
theorem since_of {w w' : World} (h : Below w.heap.size w w') : Since (.of w) w' := ⟨h.os, h.tape, h.output, h.size, h.block⟩
theorem body_of {f : Nat} {fn : Func} (hf : Tryd.prog.funcs[f]? = some fn) (hn : (fn.name == "runtime.NumGoroutine") = false) (hb : fn.body.isSome = true) : Ab.Body Tryd.prog f := by
  obtain ⟨c, hc⟩ := Option.isSome_iff_exists.1 hb
  exact ⟨fn, c, hf, hn, hc⟩
/-- A map that a function makes, and hands back. -/
theorem fn_map {f t : Nat} {L3 : List (Nat × Value × Value)} (hb : Ab.Body Tryd.prog f) (hL : (L3.map (·.2)).Pairwise (fun a b => a.1 ≠ b.1))
    (h : ∀ w, Calls Tryd.prog f #[] w fun e w' => ∃ g, e = .returned (.map (some g)) ∧ w.heap.size ≤ g ∧ MapOf w' g L3 (fun _ => true) ∧ Below w.heap.size w w') : Ab.Fn Tryd.prog TT f [] (.mp t (L3.map (·.2))) [] := by
  intro w S vals hold hG hr
  simp only [relL] at hr
  subst hr
  refine .inl ⟨hb, Calls.weaken (h w) (fun e w' ⟨g, e1, e2, e3, e4⟩ => ?_)⟩
  have hlt := e3.lt
  obtain ⟨es, c, m1, m2, m3⟩ := e3
  refine ⟨.map (some g), fun _ => none, fun k => S k ∨ k = g, e1, since_of e4, HOk.empty (fun k hk => ?_), ?_, fun k hk => ?_⟩
  · rcases hk with hk | rfl
    · exact Nat.lt_of_lt_of_le (hold k hk) e4.size
    · exact hlt
  · simp only [rel]
    refine ⟨g, es, c, rfl, .inr rfl, m1, fun e he => ?_, fun p hp => ?_, hL⟩
    · obtain ⟨l, hl, _, h2⟩ := m2 e he
      exact List.mem_map.2 ⟨l, hl, h2⟩
    · obtain ⟨l, hl, rfl⟩ := List.mem_map.1 hp
      exact m3 l hl rfl
  · rcases hk with hk | rfl
    · exact .inl hk
    · exact .inr e2
noncomputable def d50 : Option Unit := some ()
def convL : List (Value × Value) := conversions.L.map (·.2)
theorem w50 (r : Unit) (h : d50 = some r) : Ab.Fn Tryd.prog TT 50 [] (.mp 84 convL) [] := fn_map (body_of Tryd.func50 (by kernel_rfl) (by kernel_rfl)) (by simp [conversions.L]) conversions.calls
noncomputable def d35 : Option Unit := some ()
def ariL : List (Value × Value) := arithmetic.L.map (·.2)
theorem w35 (r : Unit) (h : d35 = some r) : Ab.Fn Tryd.prog TT 35 [] (.mp 67 ariL) [] := fn_map (body_of Tryd.func35 (by kernel_rfl) (by kernel_rfl)) (by simp [arithmetic.L]) arithmetic.calls
noncomputable def d36 : Option Unit := some ()
def relL_ : List (Value × Value) := relations.L.map (·.2)
theorem w36 (r : Unit) (h : d36 = some r) : Ab.Fn Tryd.prog TT 36 [] (.mp 71 relL_) [] := fn_map (body_of Tryd.func36 (by kernel_rfl) (by kernel_rfl)) (by simp [relations.L]) relations.calls
end Go.Proofs.YtjcabmhnekcbgaaDoor
end
section
namespace Go.Proofs.YtjcabmhnekcbgaaDoor.G
open Go.RowKit Go.Proofs.YtjcabmhnekcbgaaDoorW.PrintWords Go.Proofs.YtjcabmhnekcbgaaDoorW.PrintLast Go.Proofs.YtjcabmhnekcbgaaDoorW.PrintMore Go.ChangeMaps
set_option maxRecDepth 100000 in
theorem enc_dig (k : Nat) (h : k < 10) (h' : k < (ByteArray.mk #[48, 49, 50, 51, 52, 53, 54, 55, 56, 57]).size) : Utf8.encode ((((ByteArray.mk #[48, 49, 50, 51, 52, 53, 54, 55, 56, 57])[k]'h').toNat : Nat) : Int) = strOfNums [48 + (k : Int)] := by
  have e : ((ByteArray.mk #[48, 49, 50, 51, 52, 53, 54, 55, 56, 57])[k]'h').toNat = 48 + k := by
    match k, h, h' with
    | 0, _, _ => rfl
    | 1, _, _ => rfl
    | 2, _, _ => rfl
    | 3, _, _ => rfl
    | 4, _, _ => rfl
    | 5, _, _ => rfl
    | 6, _, _ => rfl
    | 7, _, _ => rfl
    | 8, _, _ => rfl
    | 9, _, _ => rfl
  rw [e]
  have : (((48 + k : Nat)) : Int) = 48 + (k : Int) := by omega
  rw [this]
  have hn : ((48 + (k : Int))).toNat = 48 + k := by omega
  have hv : Utf8.valid (48 + (k : Int)) = true := by simp [Utf8.valid]; omega
  have hlt : 48 + k < 128 := by omega
  simp [Utf8.encode, strOfNums, hn, hv, hlt]
set_option maxHeartbeats 2000000 in
set_option maxRecDepth 100000 in
theorem digits1_step (D : Int → ByteArray) (hD0 : ∀ u, 0 ≤ u → u < 10 → D u = strOfNums [48 + u % 10]) (hD1 : ∀ u, 10 ≤ u → D u = D (u / 10) ++ strOfNums [48 + u % 10]) (g : Nat) (u : Int) (h0 : 0 ≤ u) (h1 : u < 18446744073709551616) (hsz : (D (u / 10)).size ≤ 100) (w : World) (hg : w.heap[g]? = some (.cells #[.func (.func 95) #[] #[.pointer (some ⟨g, 0, none⟩)]] 104 (0, 0)))
    (ih : 10 ≤ u → Calls Tryd.prog 95 #[.int .u64 (u / 10), .pointer (some ⟨g, 0, none⟩)] w fun e w' => e = .returned (.string (D (u / 10))) ∧ Below w.heap.size w w') :
    Calls Tryd.prog 95 #[.int .u64 u, .pointer (some ⟨g, 0, none⟩)] w fun e w' => e = .returned (.string (D u)) ∧ Below w.heap.size w w' := by
  have hc : w.cell? ⟨g, 0, none⟩ = some (Value.func (.func 95) #[] #[.pointer (some ⟨g, 0, none⟩)]) := by exact (blk_cell hg 0).trans rfl
  replace ih := Aside0.mk ih
  replace hg := Aside0.mk hg
  replace hc := Aside0.mk hc
  replace hD0 := Aside0.mk hD0
  replace hD1 := Aside0.mk hD1
  replace hsz := Aside0.mk hsz
  have hs1 : ∀ s1, (∃ h', Utf8.encode ((((ByteArray.mk #[48, 49, 50, 51, 52, 53, 54, 55, 56, 57])[(u % 10).toNat]'h').toNat : Nat) : Int) = s1) → s1 = strOfNums [48 + u % 10] := fun s1 ⟨h', e⟩ => by
    rw [← e, enc_dig _ (by omega) h', Int.toNat_of_nonneg (by omega)]
  replace hs1 := Aside0.mk hs1
  go_enter Tryd.func95, Tryd.ntmps95
  go_wp2
  all_goals try (exfalso; have h2 := hc.out; rename_i hz _ _ _ _; rw [h2] at hz; cases hz; done)
  all_goals try (exfalso; have h2 := hc.out; rename_i hz _ _ _; rw [h2] at hz; cases hz; done)
  case h_1 =>
    rename_i hv
    have h2 := hc.out; rw [h2] at hv; injection hv with hv; subst hv
    clear h2
    simp only [Result.andThen_ok, Oper.upon_value, Act.put]
    repeat go_step
    have h10 : 10 ≤ u := by omega
    refine (ih.out h10).mono ?_
    rintro e w' ⟨rfl, hB⟩
    simp only []
    generalize hs : Utf8.encode _ = s1
    replace hs := Aside0.mk (hs1.out s1 ⟨_, hs⟩)
    have hz : (D (u / 10)).size + s1.size ≤ 200 := by
      rw [hs.out, strOfNums_size]; have := hsz.out; simp; omega
    have hfin : D (u / 10) ++ s1 = D u := by rw [hs.out, hD1.out u h10]
    replace hfin := Aside0.mk hfin
    generalize D (u / 10) = s0 at *
    repeat go_step
    all_goals try (exfalso; rename_i h; omega)
    go_wp2
    go_ret
    exact ⟨by rw [hfin.out]; rfl, hB⟩
  · generalize hs : Utf8.encode _ = s1
    replace hs := Aside0.mk (hs1.out s1 ⟨_, hs⟩)
    have hfin : s1 = D u := by rw [hs.out, hD0.out u h0 (by assumption)]
    replace hfin := Aside0.mk hfin
    go_ret
    exact ⟨by rw [hfin.out]; rfl, Below.refl _ _⟩
/-- The decimal digits of a number. -/
def decN (n : Nat) : List Int := if n < 10 then [48 + (n : Int)] else decN (n / 10) ++ [48 + ((n % 10 : Nat) : Int)]
termination_by n
decreasing_by omega
def dec (u : Int) : List Int := decN u.toNat
theorem decN_len : ∀ (k n : Nat), n < 10 ^ (k + 1) → (decN n).length ≤ k + 1 := by
  intro k
  induction k with
  | zero => intro n h; unfold decN; rw [if_pos (by omega)]; simp
  | succ k ih =>
    intro n h
    unfold decN
    split
    · simp
    · have := ih (n / 10) (by rw [Nat.div_lt_iff_lt_mul (by omega)]; rw [Nat.pow_succ] at h; exact h)
      simp; omega
theorem dec_len (u : Int) (h : u < 18446744073709551616) : (dec u).length ≤ 20 := decN_len 19 _ (by omega)
theorem dec_lt (u : Int) (h0 : 0 ≤ u) (h : u < 10) : strOfNums (dec u) = strOfNums [48 + u % 10] := by
  unfold dec decN
  rw [if_pos (by omega)]
  congr 2; omega
theorem dec_ge (u : Int) (h : 10 ≤ u) : strOfNums (dec u) = strOfNums (dec (u / 10)) ++ strOfNums [48 + u % 10] := by
  have e : dec u = dec (u / 10) ++ [48 + u % 10] := by
    have e1 : u.toNat / 10 = (u / 10).toNat := by omega
    have e2 : ((u.toNat % 10 : Nat) : Int) = u % 10 := by omega
    rw [dec, decN, if_neg (by omega), e1, e2]; rfl
  rw [e]
  apply ByteArray.ext
  simp [strOfNums, ByteArray.data_append]
theorem digits1 (g : Nat) : ∀ (k : Nat) (u : Int) (h0 : 0 ≤ u) (h1 : u < 18446744073709551616) (hk : u.toNat ≤ k) (w : World) (hg : w.heap[g]? = some (.cells #[.func (.func 95) #[] #[.pointer (some ⟨g, 0, none⟩)]] 104 (0, 0))),
    Calls Tryd.prog 95 #[.int .u64 u, .pointer (some ⟨g, 0, none⟩)] w fun e w' => e = .returned (.string (strOfNums (dec u))) ∧ Below w.heap.size w w' := by
  intro k
  induction k with
  | zero =>
    intro u h0 h1 hk w hg
    exact digits1_step (fun u => strOfNums (dec u)) dec_lt dec_ge g u h0 h1 (by rw [strOfNums_size]; have := dec_len (u / 10) (by omega); omega) w hg (fun h => by omega)
  | succ k ih =>
    intro u h0 h1 hk w hg
    exact digits1_step (fun u => strOfNums (dec u)) dec_lt dec_ge g u h0 h1 (by rw [strOfNums_size]; have := dec_len (u / 10) (by omega); omega) w hg (fun h => ih (u / 10) (by omega) (by omega) (by omega) w hg)
theorem digits_store (w : World) : ∃ W1, Sem.run Tryd.prog (store { block := w.heap.size, off := 0 } (Value.func (Fn.func 95) #[] #[Value.pointer (some { block := w.heap.size, off := 0 })])) (w.alloc (Obj.cells #[Value.nilFunc] 104)) = .ok () W1 ∧ W1.heap[w.heap.size]? = some (.cells #[.func (.func 95) #[] #[.pointer (some ⟨w.heap.size, 0, none⟩)]] 104 (0, 0)) ∧ Below w.heap.size w W1 := by
  have hh : (w.alloc (Obj.cells #[Value.nilFunc] 104)).heap[w.heap.size]? = some (Obj.cells #[Value.nilFunc] 104 (0, 0)) := by
    show (w.heap.push _)[w.heap.size]? = _
    simp
  refine ⟨(w.alloc (Obj.cells #[Value.nilFunc] 104)).setCell ⟨w.heap.size, 0, none⟩ (Value.func (Fn.func 95) #[] #[Value.pointer (some { block := w.heap.size, off := 0 })]), ?_, ?_, ?_⟩
  · have h1 : (w.alloc (Obj.cells #[Value.nilFunc] 104)).cell? ⟨w.heap.size, 0, none⟩ = some Value.nilFunc := by unfold World.cell?; dsimp only; rw [hh]; rfl
    have h2 : (w.alloc (Obj.cells #[Value.nilFunc] 104)).frozen? ⟨w.heap.size, 0, none⟩ = false := by unfold World.frozen?; dsimp only; rw [hh]; rfl
    rw [run_store _ _ _ _ _ rfl, h1]
    simp only [h2]
    rfl
  · show (Array.modify _ _ _)[w.heap.size]? = _
    rw [Array.getElem?_modify, if_pos rfl, hh]; rfl
  · exact (Below.alloc (Below.refl _ w) (Nat.le_refl _) _).setCell (p := ⟨w.heap.size, 0, none⟩) (Nat.le_refl _) _
set_option maxHeartbeats 2000000 in
set_option maxRecDepth 100000 in
theorem digits_calls (u : Int) (h0 : 0 ≤ u) (h1 : u < 18446744073709551616) (w : World) :
    Calls Tryd.prog 85 #[.int .u64 u] w fun e w' => e = .returned (.string (strOfNums (dec u))) ∧ Below w.heap.size w w' := by
  go_enter Tryd.func85, Tryd.ntmps85
  go_wp2
  obtain ⟨W1, hst, hg, hB⟩ := digits_store w
  rw [hst]
  simp only [Result.andThen_ok, Oper.upon_value, Act.put]
  have hc : W1.cell? ⟨w.heap.size, 0, none⟩ = some (Value.func (.func 95) #[] #[.pointer (some ⟨w.heap.size, 0, none⟩)]) := by exact (blk_cell hg 0).trans rfl
  have hd := digits1 w.heap.size _ u h0 h1 (Nat.le_refl _) W1 hg
  clear hst
  replace hg := Aside0.mk hg
  replace hd := Aside0.mk hd
  replace hc := Aside0.mk hc
  replace hB := Aside0.mk hB
  go_wp2
  all_goals try (exfalso; have h2 := hc.out; rename_i hz _ _ _ _; rw [h2] at hz; cases hz; done)
  all_goals try (exfalso; have h2 := hc.out; rename_i hz _ _ _; rw [h2] at hz; cases hz; done)
  all_goals try (exfalso; have h2 := hc.out; rename_i hz _ _; rw [h2] at hz; cases hz; done)
  case h_1 =>
    rename_i hv
    have h2 := hc.out; rw [h2] at hv; injection hv with hv; subst hv
    clear h2
    simp only [Result.andThen_ok, Oper.upon_value, Act.put]
    repeat go_step
    refine hd.out.mono ?_
    rintro e w' ⟨rfl, hB2⟩
    generalize hs0 : strOfNums (dec u) = s0
    repeat go_step
    go_wp2
    go_ret
    exact ⟨by rw [hs0]; rfl, hB.out.trans (hB2.mono hB.out.size)⟩
end Go.Proofs.YtjcabmhnekcbgaaDoor.G
namespace Go.Proofs.YtjcabmhnekcbgaaDoor
open Go.Ab Go.RowKit Go.Proofs.YtjcabmhnekcbgaaDoor.G
open Classical
noncomputable def d85 (a0 : Int) : Option ByteArray := if 0 ≤ a0 ∧ a0 < 18446744073709551616 then some (strOfNums (dec a0)) else none
theorem w85 (a0 : Int) (r : ByteArray) (h : d85 a0 = some r) : Ab.Fn Tryd.prog TT 85 [.i .u64 a0] (.str r) [] := by
  unfold d85 at h
  split at h <;> cases h
  rename_i hr
  intro w S vals hold hG hrel
  have hv : vals = [.int .u64 a0] := by
    simp only [relL, rel] at hrel
    obtain ⟨_, _, rfl, e1, rfl⟩ := hrel
    rw [e1]
  subst hv
  refine .inl ⟨body_of Tryd.func85 (by kernel_rfl) (by kernel_rfl), Calls.weaken (digits_calls a0 hr.1 hr.2 w) (fun e w' ⟨e1, e2⟩ => ?_)⟩
  exact ⟨_, fun _ => none, S, e1, since_of e2, HOk.empty (fun k hk => Nat.lt_of_lt_of_le (hold k hk) e2.size), by simp [rel], fun k hk => .inl hk⟩
noncomputable def d89 (a0 : Int) (a1 : Int) (a2 : Int) : Option (Int × Int) := if 0 ≤ a0 ∧ 0 ≤ a1 ∧ 0 ≤ a2 ∧ a2 ≤ 1 then some ((a0 + a1 + a2) % 18446744073709551616, (a0 + a1 + a2) / 18446744073709551616) else none
theorem w89 (a0 : Int) (a1 : Int) (a2 : Int) (r : Int × Int) (h : d89 a0 a1 a2 = some r) : Ab.Fn Tryd.prog TT 89 [.i .u64 a0, .i .u64 a1, .i .u64 a2] (.tup [.i .u64 r.1, .i .u64 r.2]) [] := by
  unfold d89 at h
  split at h <;> cases h
  rename_i hr
  intro w S vals hold hG hrel
  have hv : vals = [.int .u64 a0, .int .u64 a1, .int .u64 a2] := by
    simp only [relL, rel] at hrel
    obtain ⟨_, _, rfl, e1, _, _, rfl, e2, _, _, rfl, e3, rfl⟩ := hrel
    rw [e1, e2, e3]
  subst hv
  have hx := run_callFunc_extern (P := Tryd.prog) Tryd.func89 (by kernel_rfl) (by kernel_rfl) (by kernel_rfl) (e := add64Entry) (by kernel_rfl) #[.int .u64 a0, .int .u64 a1, .int .u64 a2] w
  rw [run_add64 a0 a1 a2 hr.1 hr.2.1 hr.2.2.1 hr.2.2.2] at hx
  refine .inr ⟨_, w, hx, _, fun _ => none, S, rfl, since_of (Below.refl _ _), HOk.empty hold, ?_, fun k hk => .inl hk⟩
  simp only [rel, relL]
  exact ⟨_, rfl, _, _, rfl, rfl, _, _, rfl, rfl, rfl⟩
end Go.Proofs.YtjcabmhnekcbgaaDoor
end
section
namespace Go.Ab
open Go.RowKit Go.ChangeShapes Go.WideShapes Go.ChangeAt Go.Deep
section
variable {H : Type} {enc : TypeId × Value → H} {P : Program} {T : Tr} {w : World}
theorem OpV.arr2 (htok : TyOk P T) {α : Type} {t e : Nat} {te : TE} {mk : α → List V} {ok : α → Prop} (ht : T.look t = some te) (hd : te.desc = .array 2 e) (hct : P.cellsOf t = 2) (hce : P.cellsOf e = 1) (ho : OpV T enc P w e [e] mk ok) :
    OpV T enc P w t [e, e] (fun x : α × α => mk x.1 ++ mk x.2) (fun x => ok x.1 ∧ ok x.2) := by
  intro fuel cs x h
  have hu := htok.und _ _ ht
  rw [hd] at hu
  cases fuel with
  | zero => simp [DataW.trod] at h
  | succ n =>
    unfold DataW.trod at h
    rw [hu] at h
    have r2 : List.range 2 = [0, 1] := rfl
    simp [r2, hce, hct] at h
    obtain ⟨hl, h⟩ := h
    match cs, hl with
    | [c0, c1], _ =>
      simp at h
      cases h0 : DataW.trod enc P w 0 (fun _ => true) true n e [c0] with
      | none => simp [h0] at h
      | some y0 =>
        cases h1 : DataW.trod enc P w 0 (fun _ => true) true n e [c1] with
        | none => simp [h0, h1] at h
        | some y1 =>
          obtain ⟨a, a1, a2, a3, a4⟩ := ho _ _ _ h0
          obtain ⟨b, b1, b2, b3, b4⟩ := ho _ _ _ h1
          refine ⟨(a, b), relL_app a1 b1, fun u hu => ?_, wtC_append a3 b3, a4, b4⟩
          rcases List.mem_cons.1 hu with rfl | hu
          · exact a2 _ (by simp)
          · exact b2 _ hu
theorem OpV.arr2p (htok : TyOk P T) {α : Type} {t e : Nat} {te : TE} {tys : List Nat} {mk : α → List V} {ok : α → Prop} (ht : T.look t = some te) (hd : te.desc = .array 2 e) (hct : P.cellsOf t = 4) (hce : P.cellsOf e = 2) (ho : OpV T enc P w e tys mk ok) :
    OpV T enc P w t (tys ++ tys) (fun x : α × α => mk x.1 ++ mk x.2) (fun x => ok x.1 ∧ ok x.2) := by
  intro fuel cs x h
  have hu := htok.und _ _ ht
  rw [hd] at hu
  cases fuel with
  | zero => simp [DataW.trod] at h
  | succ n =>
    unfold DataW.trod at h
    rw [hu] at h
    have r2 : List.range 2 = [0, 1] := rfl
    simp [r2, hce, hct] at h
    obtain ⟨hl, h⟩ := h
    match cs, hl with
    | [c0, c1, c2, c3], _ =>
      simp at h
      cases h0 : DataW.trod enc P w 0 (fun _ => true) true n e [c0, c1] with
      | none => simp [h0] at h
      | some y0 =>
        cases h1 : DataW.trod enc P w 0 (fun _ => true) true n e [c2, c3] with
        | none => simp [h0, h1] at h
        | some y1 =>
          obtain ⟨a, a1, a2, a3, a4⟩ := ho _ _ _ h0
          obtain ⟨b, b1, b2, b3, b4⟩ := ho _ _ _ h1
          refine ⟨(a, b), relL_app a1 b1, fun u hu => ?_, wtC_append a3 b3, a4, b4⟩
          have hu' : u ∈ [c0, c1] ++ [c2, c3] := hu
          rcases List.mem_append.1 hu' with hu | hu
          · exact a2 _ hu
          · exact b2 _ hu
theorem OpV.arr3 (htok : TyOk P T) {α : Type} {t e : Nat} {te : TE} {mk : α → List V} {ok : α → Prop} (ht : T.look t = some te) (hd : te.desc = .array 3 e) (hct : P.cellsOf t = 3) (hce : P.cellsOf e = 1) (ho : OpV T enc P w e [e] mk ok) :
    OpV T enc P w t [e, e, e] (fun x : α × (α × α) => mk x.1 ++ (mk x.2.1 ++ mk x.2.2)) (fun x => ok x.1 ∧ (ok x.2.1 ∧ ok x.2.2)) := by
  intro fuel cs x h
  have hu := htok.und _ _ ht
  rw [hd] at hu
  cases fuel with
  | zero => simp [DataW.trod] at h
  | succ n =>
    unfold DataW.trod at h
    rw [hu] at h
    have r3 : List.range 3 = [0, 1, 2] := rfl
    simp [r3, hce, hct] at h
    obtain ⟨hl, h⟩ := h
    match cs, hl with
    | [c0, c1, c2], _ =>
      simp at h
      cases h0 : DataW.trod enc P w 0 (fun _ => true) true n e [c0] with
      | none => simp [h0] at h
      | some y0 =>
        cases h1 : DataW.trod enc P w 0 (fun _ => true) true n e [c1] with
        | none => simp [h0, h1] at h
        | some y1 =>
          cases h2 : DataW.trod enc P w 0 (fun _ => true) true n e [c2] with
          | none => simp [h0, h1, h2] at h
          | some y2 =>
            obtain ⟨a, a1, a2, a3, a4⟩ := ho _ _ _ h0
            obtain ⟨b, b1, b2, b3, b4⟩ := ho _ _ _ h1
            obtain ⟨c, c1', c2', c3, c4⟩ := ho _ _ _ h2
            refine ⟨(a, b, c), relL_app a1 (relL_app b1 c1'), fun u hu => ?_, wtC_append a3 (wtC_append b3 c3), a4, b4, c4⟩
            rcases List.mem_cons.1 hu with rfl | hu
            · exact a2 _ (by simp)
            · rcases List.mem_cons.1 hu with rfl | hu
              · exact b2 _ (by simp)
              · exact c2' _ hu
theorem okWide_arr {n e : Nat} {t : TypeId} {v : Value} {r : Reach} {base : Nat} (ht : P.underlying t = some (.array n e)) (h : Value.okWide P w r base t v) : ∃ cs, v = .agg cs ∧ cs.size = P.cellsOf t := by
  simp only [Value.okWide, ht] at h
  obtain ⟨cs, h1, h2, _⟩ := h
  exact ⟨cs, h1, h2⟩
end
end Go.Ab
end
section
namespace Go.Proofs.YtjcabmhnekcbgaaDoor
open Go.Ab Go.RowKit 
set_option maxRecDepth 100000
set_option maxHeartbeats 40000000
noncomputable def d28 (a0 : Int) (a1 : Bool) : Option (Int × Bool) :=
  some (a0, a1)
noncomputable def w28_c : Code := (Tryd.f28.body).getD .skip
theorem w28_h : Tryd.f28.body = some w28_c := by kernel_rfl
theorem w28 (a0 : Int) (a1 : Bool) (r : Int × Bool) (h : d28 a0 a1 = some r) : Ab.Fn Tryd.prog TT 28 [.i .i64 a0, .b a1] (.agg [.i .i64 r.1, .b r.2]) [] := by
  refine fn_pure tok W0 Tryd.func28 (by kernel_rfl) w28_h (by kernel_rfl) ?_
  intro ar un cv mn mx pl mi cmp nt beq an scmp cat slen sbyte ssub ofB toB len gi gb gs gl sub put app ovl rep ne0 ge0 inb bnd room sroom need br call callb loop cut nl E R K hK
  have D := E.D
  clear E
  unfold d28 at h
  cbv
  have e := ret_some h; clear h
  refine hK _ _ ?_
  cbv
  try (subst e; simp only [and_self, and_true, true_and] <;> (repeat' apply And.intro) <;> rfl)

noncomputable def d77 (a0 : Int) : Option (Int) :=
  some (wrapK .i64 (wrapK .i8 a0))
noncomputable def w77_c : Code := (Tryd.f77.body).getD .skip
theorem w77_h : Tryd.f77.body = some w77_c := by kernel_rfl
theorem w77 (a0 : Int) (r : Int) (h : d77 a0 = some r) : Ab.Fn Tryd.prog TT 77 [.i .i64 a0] (.i .i64 r) [] := by
  refine fn_pure tok W0 Tryd.func77 (by kernel_rfl) w77_h (by kernel_rfl) ?_
  intro ar un cv mn mx pl mi cmp nt beq an scmp cat slen sbyte ssub ofB toB len gi gb gs gl sub put app ovl rep ne0 ge0 inb bnd room sroom need br call callb loop cut nl E R K hK
  have D := E.D
  clear E
  unfold d77 at h
  cbv
  have e := ret_some h; clear h
  refine hK _ _ ?_
  cbv
  try (subst e; simp only [D.hcv, and_self, and_true, true_and] <;> (repeat' apply And.intro) <;> rfl)

noncomputable def d78 (a0 : Int) : Option (Int) :=
  some (wrapK .i64 (wrapK .u8 a0))
noncomputable def w78_c : Code := (Tryd.f78.body).getD .skip
theorem w78_h : Tryd.f78.body = some w78_c := by kernel_rfl
theorem w78 (a0 : Int) (r : Int) (h : d78 a0 = some r) : Ab.Fn Tryd.prog TT 78 [.i .i64 a0] (.i .i64 r) [] := by
  refine fn_pure tok W0 Tryd.func78 (by kernel_rfl) w78_h (by kernel_rfl) ?_
  intro ar un cv mn mx pl mi cmp nt beq an scmp cat slen sbyte ssub ofB toB len gi gb gs gl sub put app ovl rep ne0 ge0 inb bnd room sroom need br call callb loop cut nl E R K hK
  have D := E.D
  clear E
  unfold d78 at h
  cbv
  have e := ret_some h; clear h
  refine hK _ _ ?_
  cbv
  try (subst e; simp only [D.hcv, and_self, and_true, true_and] <;> (repeat' apply And.intro) <;> rfl)

noncomputable def d79 (a0 : Int) : Option (Int) :=
  some (wrapK .i64 (wrapK .i16 a0))
noncomputable def w79_c : Code := (Tryd.f79.body).getD .skip
theorem w79_h : Tryd.f79.body = some w79_c := by kernel_rfl
theorem w79 (a0 : Int) (r : Int) (h : d79 a0 = some r) : Ab.Fn Tryd.prog TT 79 [.i .i64 a0] (.i .i64 r) [] := by
  refine fn_pure tok W0 Tryd.func79 (by kernel_rfl) w79_h (by kernel_rfl) ?_
  intro ar un cv mn mx pl mi cmp nt beq an scmp cat slen sbyte ssub ofB toB len gi gb gs gl sub put app ovl rep ne0 ge0 inb bnd room sroom need br call callb loop cut nl E R K hK
  have D := E.D
  clear E
  unfold d79 at h
  cbv
  have e := ret_some h; clear h
  refine hK _ _ ?_
  cbv
  try (subst e; simp only [D.hcv, and_self, and_true, true_and] <;> (repeat' apply And.intro) <;> rfl)

noncomputable def d80 (a0 : Int) : Option (Int) :=
  some (wrapK .i64 (wrapK .u16 a0))
noncomputable def w80_c : Code := (Tryd.f80.body).getD .skip
theorem w80_h : Tryd.f80.body = some w80_c := by kernel_rfl
theorem w80 (a0 : Int) (r : Int) (h : d80 a0 = some r) : Ab.Fn Tryd.prog TT 80 [.i .i64 a0] (.i .i64 r) [] := by
  refine fn_pure tok W0 Tryd.func80 (by kernel_rfl) w80_h (by kernel_rfl) ?_
  intro ar un cv mn mx pl mi cmp nt beq an scmp cat slen sbyte ssub ofB toB len gi gb gs gl sub put app ovl rep ne0 ge0 inb bnd room sroom need br call callb loop cut nl E R K hK
  have D := E.D
  clear E
  unfold d80 at h
  cbv
  have e := ret_some h; clear h
  refine hK _ _ ?_
  cbv
  try (subst e; simp only [D.hcv, and_self, and_true, true_and] <;> (repeat' apply And.intro) <;> rfl)

noncomputable def d81 (a0 : Int) : Option (Int) :=
  some (wrapK .i64 (wrapK .i32 a0))
noncomputable def w81_c : Code := (Tryd.f81.body).getD .skip
theorem w81_h : Tryd.f81.body = some w81_c := by kernel_rfl
theorem w81 (a0 : Int) (r : Int) (h : d81 a0 = some r) : Ab.Fn Tryd.prog TT 81 [.i .i64 a0] (.i .i64 r) [] := by
  refine fn_pure tok W0 Tryd.func81 (by kernel_rfl) w81_h (by kernel_rfl) ?_
  intro ar un cv mn mx pl mi cmp nt beq an scmp cat slen sbyte ssub ofB toB len gi gb gs gl sub put app ovl rep ne0 ge0 inb bnd room sroom need br call callb loop cut nl E R K hK
  have D := E.D
  clear E
  unfold d81 at h
  cbv
  have e := ret_some h; clear h
  refine hK _ _ ?_
  cbv
  try (subst e; simp only [D.hcv, and_self, and_true, true_and] <;> (repeat' apply And.intro) <;> rfl)

noncomputable def d82 (a0 : Int) : Option (Int) :=
  some (wrapK .i64 (wrapK .u32 a0))
noncomputable def w82_c : Code := (Tryd.f82.body).getD .skip
theorem w82_h : Tryd.f82.body = some w82_c := by kernel_rfl
theorem w82 (a0 : Int) (r : Int) (h : d82 a0 = some r) : Ab.Fn Tryd.prog TT 82 [.i .i64 a0] (.i .i64 r) [] := by
  refine fn_pure tok W0 Tryd.func82 (by kernel_rfl) w82_h (by kernel_rfl) ?_
  intro ar un cv mn mx pl mi cmp nt beq an scmp cat slen sbyte ssub ofB toB len gi gb gs gl sub put app ovl rep ne0 ge0 inb bnd room sroom need br call callb loop cut nl E R K hK
  have D := E.D
  clear E
  unfold d82 at h
  cbv
  have e := ret_some h; clear h
  refine hK _ _ ?_
  cbv
  try (subst e; simp only [D.hcv, and_self, and_true, true_and] <;> (repeat' apply And.intro) <;> rfl)

noncomputable def d83 (a0 : Int) : Option (Int) :=
  some a0
noncomputable def w83_c : Code := (Tryd.f83.body).getD .skip
theorem w83_h : Tryd.f83.body = some w83_c := by kernel_rfl
theorem w83 (a0 : Int) (r : Int) (h : d83 a0 = some r) : Ab.Fn Tryd.prog TT 83 [.i .i64 a0] (.i .i64 r) [] := by
  refine fn_pure tok W0 Tryd.func83 (by kernel_rfl) w83_h (by kernel_rfl) ?_
  intro ar un cv mn mx pl mi cmp nt beq an scmp cat slen sbyte ssub ofB toB len gi gb gs gl sub put app ovl rep ne0 ge0 inb bnd room sroom need br call callb loop cut nl E R K hK
  have D := E.D
  clear E
  unfold d83 at h
  cbv
  have e := ret_some h; clear h
  refine hK _ _ ?_
  cbv
  try (subst e; simp only [and_self, and_true, true_and] <;> (repeat' apply And.intro) <;> rfl)

noncomputable def d84 (a0 : Int) : Option (Int) :=
  some (wrapK .i64 (wrapK .u64 a0))
noncomputable def w84_c : Code := (Tryd.f84.body).getD .skip
theorem w84_h : Tryd.f84.body = some w84_c := by kernel_rfl
theorem w84 (a0 : Int) (r : Int) (h : d84 a0 = some r) : Ab.Fn Tryd.prog TT 84 [.i .i64 a0] (.i .i64 r) [] := by
  refine fn_pure tok W0 Tryd.func84 (by kernel_rfl) w84_h (by kernel_rfl) ?_
  intro ar un cv mn mx pl mi cmp nt beq an scmp cat slen sbyte ssub ofB toB len gi gb gs gl sub put app ovl rep ne0 ge0 inb bnd room sroom need br call callb loop cut nl E R K hK
  have D := E.D
  clear E
  unfold d84 at h
  cbv
  have e := ret_some h; clear h
  refine hK _ _ ?_
  cbv
  try (subst e; simp only [D.hcv, and_self, and_true, true_and] <;> (repeat' apply And.intro) <;> rfl)

noncomputable def d15 (a0_0 : Int) (a0_1 : Bool) : Option (Int) :=
  (d50).bind fun x2 =>
  if (andB' (cmpLit .eql a0_0 1) (beqB a0_1 true)) = true then
    some 0
  else
    if (andB' (cmpLit .eql a0_0 1) (beqB a0_1 false)) = true then
      some 0
    else
      if (andB' (cmpLit .eql a0_0 2) (beqB a0_1 true)) = true then
        some 0
      else
        if (andB' (cmpLit .eql a0_0 2) (beqB a0_1 false)) = true then
          some 0
        else
          if (andB' (cmpLit .eql a0_0 4) (beqB a0_1 true)) = true then
            some 0
          else
            if (andB' (cmpLit .eql a0_0 4) (beqB a0_1 false)) = true then
              some 0
            else
              if (andB' (cmpLit .eql a0_0 8) (beqB a0_1 true)) = true then
                some 0
              else
                if (andB' (cmpLit .eql a0_0 8) (beqB a0_1 false)) = true then
                  some 0
                else
                  some 10
noncomputable def w15_c : Code := (Tryd.f15.body).getD .skip
theorem w15_h : Tryd.f15.body = some w15_c := by kernel_rfl
theorem w15 (a0_0 : Int) (a0_1 : Bool) (r : Int) (h : d15 a0_0 a0_1 = some r) : Ab.Fn Tryd.prog TT 15 [.agg [.i .i64 a0_0, .b a0_1]] (.i .i64 r) [] := by
  refine fn_pure tok (fun r => match r with | 1 => [[],[],[0,1],[0,1,2],[0,1,2,3],[0,1,2,3],[0,1,2,3,4],[0,1,2,3,4,5,6]] | _ => []) Tryd.func15 (by kernel_rfl) w15_h (by kernel_rfl) ?_
  intro ar un cv mn mx pl mi cmp nt beq an scmp cat slen sbyte ssub ofB toB len gi gb gs gl sub put app ovl rep ne0 ge0 inb bnd room sroom need br call callb loop cut nl E R K hK
  have D := E.D
  clear E
  unfold d15 at h
  cbv
  refine R.cut' (by kernel_rfl) (by kernel_rfl) ?_
  cbv
  refine R.callD h (fun x2 hx2 h2 => ?_)
  clear h; have h := h2; clear h2
  refine R.call' (w50 _ hx2) (by (first | (simp only [D.han, D.hbeq, D.hcmp]; done) | rfl | (simp only [D.han, D.hbeq, D.hcmp]; rfl))) ?_
  clear hx2; cbv
  refine R.brD h (by (first | (simp only [D.han, D.hbeq, D.hcmp]; done) | rfl | (simp only [D.han, D.hbeq, D.hcmp]; rfl))) ?_ ?_ <;> clear h <;> intro h <;> cbv
  · have e := ret_some h; clear h
    refine hK _ _ ?_
    cbv
    try (subst e; simp only [D.han, D.hbeq, D.hcmp, and_self, and_true, true_and] <;> (repeat' apply And.intro) <;> rfl)
  · refine R.brD h (by (first | (simp only [D.han, D.hbeq, D.hcmp]; done) | rfl | (simp only [D.han, D.hbeq, D.hcmp]; rfl))) ?_ ?_ <;> clear h <;> intro h <;> cbv
    · have e := ret_some h; clear h
      refine hK _ _ ?_
      cbv
      try (subst e; simp only [D.han, D.hbeq, D.hcmp, and_self, and_true, true_and] <;> (repeat' apply And.intro) <;> rfl)
    · refine R.brD h (by (first | (simp only [D.han, D.hbeq, D.hcmp]; done) | rfl | (simp only [D.han, D.hbeq, D.hcmp]; rfl))) ?_ ?_ <;> clear h <;> intro h <;> cbv
      · have e := ret_some h; clear h
        refine hK _ _ ?_
        cbv
        try (subst e; simp only [D.han, D.hbeq, D.hcmp, and_self, and_true, true_and] <;> (repeat' apply And.intro) <;> rfl)
      · refine R.brD h (by (first | (simp only [D.han, D.hbeq, D.hcmp]; done) | rfl | (simp only [D.han, D.hbeq, D.hcmp]; rfl))) ?_ ?_ <;> clear h <;> intro h <;> cbv
        · have e := ret_some h; clear h
          refine hK _ _ ?_
          cbv
          try (subst e; simp only [D.han, D.hbeq, D.hcmp, and_self, and_true, true_and] <;> (repeat' apply And.intro) <;> rfl)
        · refine R.brD h (by (first | (simp only [D.han, D.hbeq, D.hcmp]; done) | rfl | (simp only [D.han, D.hbeq, D.hcmp]; rfl))) ?_ ?_ <;> clear h <;> intro h <;> cbv
          · have e := ret_some h; clear h
            refine hK _ _ ?_
            cbv
            try (subst e; simp only [D.han, D.hbeq, D.hcmp, and_self, and_true, true_and] <;> (repeat' apply And.intro) <;> rfl)
          · refine R.brD h (by (first | (simp only [D.han, D.hbeq, D.hcmp]; done) | rfl | (simp only [D.han, D.hbeq, D.hcmp]; rfl))) ?_ ?_ <;> clear h <;> intro h <;> cbv
            · have e := ret_some h; clear h
              refine hK _ _ ?_
              cbv
              try (subst e; simp only [D.han, D.hbeq, D.hcmp, and_self, and_true, true_and] <;> (repeat' apply And.intro) <;> rfl)
            · refine R.brD h (by (first | (simp only [D.han, D.hbeq, D.hcmp]; done) | rfl | (simp only [D.han, D.hbeq, D.hcmp]; rfl))) ?_ ?_ <;> clear h <;> intro h <;> cbv
              · have e := ret_some h; clear h
                refine hK _ _ ?_
                cbv
                try (subst e; simp only [D.han, D.hbeq, D.hcmp, and_self, and_true, true_and] <;> (repeat' apply And.intro) <;> rfl)
              · refine R.brD h (by (first | (simp only [D.han, D.hbeq, D.hcmp]; done) | rfl | (simp only [D.han, D.hbeq, D.hcmp]; rfl))) ?_ ?_ <;> clear h <;> intro h <;> cbv
                · have e := ret_some h; clear h
                  refine hK _ _ ?_
                  cbv
                  try (subst e; simp only [D.han, D.hbeq, D.hcmp, and_self, and_true, true_and] <;> (repeat' apply And.intro) <;> rfl)
                · have e := ret_some h; clear h
                  refine hK _ _ ?_
                  cbv
                  try (subst e; simp only [D.han, D.hbeq, D.hcmp, and_self, and_true, true_and] <;> (repeat' apply And.intro) <;> rfl)

noncomputable def d33 (a0_0 : Int) (a0_1 : Bool) (a1 : Int) : Option (Int) :=
  (d50).bind fun x1 =>
  if (andB' (cmpLit .eql a0_0 1) (beqB a0_1 true)) = true then
    (d77 a1).bind fun x2 =>
    some x2
  else
    if (andB' (cmpLit .eql a0_0 1) (beqB a0_1 false)) = true then
      (d78 a1).bind fun x3 =>
      some x3
    else
      if (andB' (cmpLit .eql a0_0 2) (beqB a0_1 true)) = true then
        (d79 a1).bind fun x4 =>
        some x4
      else
        if (andB' (cmpLit .eql a0_0 2) (beqB a0_1 false)) = true then
          (d80 a1).bind fun x5 =>
          some x5
        else
          if (andB' (cmpLit .eql a0_0 4) (beqB a0_1 true)) = true then
            (d81 a1).bind fun x6 =>
            some x6
          else
            if (andB' (cmpLit .eql a0_0 4) (beqB a0_1 false)) = true then
              (d82 a1).bind fun x7 =>
              some x7
            else
              if (andB' (cmpLit .eql a0_0 8) (beqB a0_1 true)) = true then
                (d83 a1).bind fun x8 =>
                some x8
              else
                if (andB' (cmpLit .eql a0_0 8) (beqB a0_1 false)) = true then
                  (d84 a1).bind fun x9 =>
                  some x9
                else
                  none
noncomputable def w33_c : Code := (Tryd.f33.body).getD .skip
theorem w33_h : Tryd.f33.body = some w33_c := by kernel_rfl
theorem w33 (a0_0 : Int) (a0_1 : Bool) (a1 : Int) (r : Int) (h : d33 a0_0 a0_1 a1 = some r) : Ab.Fn Tryd.prog TT 33 [.agg [.i .i64 a0_0, .b a0_1], .i .i64 a1] (.i .i64 r) [] := by
  refine fn_pure tok (fun r => match r with | 1 => [[],[],[0,1],[],[0,1,2,3],[0,1,2,3,4]] | _ => []) Tryd.func33 (by kernel_rfl) w33_h (by kernel_rfl) ?_
  intro ar un cv mn mx pl mi cmp nt beq an scmp cat slen sbyte ssub ofB toB len gi gb gs gl sub put app ovl rep ne0 ge0 inb bnd room sroom need br call callb loop cut nl E R K hK
  have D := E.D
  clear E
  unfold d33 at h
  cbv
  refine R.callD h (fun x1 hx1 h2 => ?_)
  clear h; have h := h2; clear h2
  refine R.call' (w50 _ hx1) (by (first | (simp only [D.han, D.hbeq, D.hcmp]; done) | rfl | (simp only [D.han, D.hbeq, D.hcmp]; rfl))) ?_
  clear hx1; cbv
  refine R.brD h (by (first | (simp only [D.han, D.hbeq, D.hcmp]; done) | rfl | (simp only [D.han, D.hbeq, D.hcmp]; rfl))) ?_ ?_ <;> clear h <;> intro h <;> cbv
  · refine R.callD h (fun x2 hx2 h2 => ?_)
    clear h; have h := h2; clear h2
    refine R.call' (w77 _ _ hx2) (by (first | (simp only [D.han, D.hbeq, D.hcmp]; done) | rfl | (simp only [D.han, D.hbeq, D.hcmp]; rfl))) ?_
    clear hx2; cbv
    have e := ret_some h; clear h
    refine hK _ _ ?_
    cbv
    try (subst e; simp only [D.han, D.hbeq, D.hcmp, and_self, and_true, true_and] <;> (repeat' apply And.intro) <;> rfl)
  · refine R.brD h (by (first | (simp only [D.han, D.hbeq, D.hcmp]; done) | rfl | (simp only [D.han, D.hbeq, D.hcmp]; rfl))) ?_ ?_ <;> clear h <;> intro h <;> cbv
    · refine R.callD h (fun x3 hx3 h2 => ?_)
      clear h; have h := h2; clear h2
      refine R.call' (w78 _ _ hx3) (by (first | (simp only [D.han, D.hbeq, D.hcmp]; done) | rfl | (simp only [D.han, D.hbeq, D.hcmp]; rfl))) ?_
      clear hx3; cbv
      have e := ret_some h; clear h
      refine hK _ _ ?_
      cbv
      try (subst e; simp only [D.han, D.hbeq, D.hcmp, and_self, and_true, true_and] <;> (repeat' apply And.intro) <;> rfl)
    · refine R.brD h (by (first | (simp only [D.han, D.hbeq, D.hcmp]; done) | rfl | (simp only [D.han, D.hbeq, D.hcmp]; rfl))) ?_ ?_ <;> clear h <;> intro h <;> cbv
      · refine R.callD h (fun x4 hx4 h2 => ?_)
        clear h; have h := h2; clear h2
        refine R.call' (w79 _ _ hx4) (by (first | (simp only [D.han, D.hbeq, D.hcmp]; done) | rfl | (simp only [D.han, D.hbeq, D.hcmp]; rfl))) ?_
        clear hx4; cbv
        have e := ret_some h; clear h
        refine hK _ _ ?_
        cbv
        try (subst e; simp only [D.han, D.hbeq, D.hcmp, and_self, and_true, true_and] <;> (repeat' apply And.intro) <;> rfl)
      · refine R.brD h (by (first | (simp only [D.han, D.hbeq, D.hcmp]; done) | rfl | (simp only [D.han, D.hbeq, D.hcmp]; rfl))) ?_ ?_ <;> clear h <;> intro h <;> cbv
        · refine R.callD h (fun x5 hx5 h2 => ?_)
          clear h; have h := h2; clear h2
          refine R.call' (w80 _ _ hx5) (by (first | (simp only [D.han, D.hbeq, D.hcmp]; done) | rfl | (simp only [D.han, D.hbeq, D.hcmp]; rfl))) ?_
          clear hx5; cbv
          have e := ret_some h; clear h
          refine hK _ _ ?_
          cbv
          try (subst e; simp only [D.han, D.hbeq, D.hcmp, and_self, and_true, true_and] <;> (repeat' apply And.intro) <;> rfl)
        · refine R.brD h (by (first | (simp only [D.han, D.hbeq, D.hcmp]; done) | rfl | (simp only [D.han, D.hbeq, D.hcmp]; rfl))) ?_ ?_ <;> clear h <;> intro h <;> cbv
          · refine R.callD h (fun x6 hx6 h2 => ?_)
            clear h; have h := h2; clear h2
            refine R.call' (w81 _ _ hx6) (by (first | (simp only [D.han, D.hbeq, D.hcmp]; done) | rfl | (simp only [D.han, D.hbeq, D.hcmp]; rfl))) ?_
            clear hx6; cbv
            have e := ret_some h; clear h
            refine hK _ _ ?_
            cbv
            try (subst e; simp only [D.han, D.hbeq, D.hcmp, and_self, and_true, true_and] <;> (repeat' apply And.intro) <;> rfl)
          · refine R.brD h (by (first | (simp only [D.han, D.hbeq, D.hcmp]; done) | rfl | (simp only [D.han, D.hbeq, D.hcmp]; rfl))) ?_ ?_ <;> clear h <;> intro h <;> cbv
            · refine R.callD h (fun x7 hx7 h2 => ?_)
              clear h; have h := h2; clear h2
              refine R.call' (w82 _ _ hx7) (by (first | (simp only [D.han, D.hbeq, D.hcmp]; done) | rfl | (simp only [D.han, D.hbeq, D.hcmp]; rfl))) ?_
              clear hx7; cbv
              have e := ret_some h; clear h
              refine hK _ _ ?_
              cbv
              try (subst e; simp only [D.han, D.hbeq, D.hcmp, and_self, and_true, true_and] <;> (repeat' apply And.intro) <;> rfl)
            · refine R.brD h (by (first | (simp only [D.han, D.hbeq, D.hcmp]; done) | rfl | (simp only [D.han, D.hbeq, D.hcmp]; rfl))) ?_ ?_ <;> clear h <;> intro h <;> cbv
              · refine R.callD h (fun x8 hx8 h2 => ?_)
                clear h; have h := h2; clear h2
                refine R.call' (w83 _ _ hx8) (by (first | (simp only [D.han, D.hbeq, D.hcmp]; done) | rfl | (simp only [D.han, D.hbeq, D.hcmp]; rfl))) ?_
                clear hx8; cbv
                have e := ret_some h; clear h
                refine hK _ _ ?_
                cbv
                try (subst e; simp only [D.han, D.hbeq, D.hcmp, and_self, and_true, true_and] <;> (repeat' apply And.intro) <;> rfl)
              · refine R.brD h (by (first | (simp only [D.han, D.hbeq, D.hcmp]; done) | rfl | (simp only [D.han, D.hbeq, D.hcmp]; rfl))) ?_ ?_ <;> clear h <;> intro h <;> cbv
                · refine R.callD h (fun x9 hx9 h2 => ?_)
                  clear h; have h := h2; clear h2
                  refine R.call' (w84 _ _ hx9) (by (first | (simp only [D.han, D.hbeq, D.hcmp]; done) | rfl | (simp only [D.han, D.hbeq, D.hcmp]; rfl))) ?_
                  clear hx9; cbv
                  have e := ret_some h; clear h
                  refine hK _ _ ?_
                  cbv
                  try (subst e; simp only [D.han, D.hbeq, D.hcmp, and_self, and_true, true_and] <;> (repeat' apply And.intro) <;> rfl)
                · exact (none_some h).elim

noncomputable def d23 (a0_0 : Int) (a0_1 : Bool) (a1 : Int) : Option (Int × Int) :=
  (d15 a0_0 a0_1).bind fun x2 =>
  if (cmpLit .neq x2 0) = true then
    some (0, x2)
  else
    (d33 a0_0 a0_1 a1).bind fun x3 =>
    some (x3, 0)
noncomputable def w23_c : Code := (Tryd.f23.body).getD .skip
theorem w23_h : Tryd.f23.body = some w23_c := by kernel_rfl
theorem w23 (a0_0 : Int) (a0_1 : Bool) (a1 : Int) (r : Int × Int) (h : d23 a0_0 a0_1 a1 = some r) : Ab.Fn Tryd.prog TT 23 [.agg [.i .i64 a0_0, .b a0_1], .i .i64 a1] (.tup [.i .i64 r.1, .i .i64 r.2]) [] := by
  refine fn_pure tok W0 Tryd.func23 (by kernel_rfl) w23_h (by kernel_rfl) ?_
  intro ar un cv mn mx pl mi cmp nt beq an scmp cat slen sbyte ssub ofB toB len gi gb gs gl sub put app ovl rep ne0 ge0 inb bnd room sroom need br call callb loop cut nl E R K hK
  have D := E.D
  clear E
  unfold d23 at h
  cbv
  refine R.cut' (by kernel_rfl) (by kernel_rfl) ?_
  cbv
  refine R.callD h (fun x2 hx2 h2 => ?_)
  clear h; have h := h2; clear h2
  refine R.call' (w15 _ _ _ hx2) (by (first | (simp only [D.hcmp]; done) | rfl | (simp only [D.hcmp]; rfl))) ?_
  clear hx2; cbv
  refine R.brD h (by (first | (simp only [D.hcmp]; done) | rfl | (simp only [D.hcmp]; rfl))) ?_ ?_ <;> clear h <;> intro h <;> cbv
  · have e := ret_some h; clear h
    refine hK _ _ ?_
    cbv
    try (subst e; simp only [D.hcmp, and_self, and_true, true_and] <;> (repeat' apply And.intro) <;> rfl)
  · refine R.callD h (fun x3 hx3 h2 => ?_)
    clear h; have h := h2; clear h2
    refine R.call' (w33 _ _ _ _ hx3) (by (first | (simp only [D.hcmp]; done) | rfl | (simp only [D.hcmp]; rfl))) ?_
    clear hx3; cbv
    have e := ret_some h; clear h
    refine hK _ _ ?_
    cbv
    try (subst e; simp only [D.hcmp, and_self, and_true, true_and] <;> (repeat' apply And.intro) <;> rfl)

noncomputable def d57_b1 (a0 : List V) (s4 : Int) : Option ((Int) ⊕ ((Int) ⊕ (Unit))) :=
  if (cmpLit .lss s4 (lenI a0)) = true then
    if (Inb s4 (lenI a0)) then
      if (cmpLit .neq (gI a0 s4 0) 0) = true then
        some (.inr (.inl (gI a0 s4 0)))
      else
        some (.inl (arReal .add .i64 s4 1))
    else none
  else
    some (.inr (.inr ()))
noncomputable def d57 (a0 : List V) : Option (Int) :=
  Option.bind (α := (Unit) ⊕ (Int)) (
    (iter (d57_b1 a0) 0).bind fun y5 =>
    match y5 with
    | .inl p6 =>
      some (.inr p6)
    | .inr y5r0 =>
      some (.inl ())) fun y3 =>
  match y3 with
  | .inl p8 =>
    some 0
  | .inr y3r0 =>
    some y3r0
noncomputable def w57_c : Code := (Tryd.f57.body).getD .skip
theorem w57_h : Tryd.f57.body = some w57_c := by kernel_rfl
theorem w57 (a0 : List V) (r : Int) (h : d57 a0 = some r) : Ab.Fn Tryd.prog TT 57 [.sl 26 a0] (.i .i64 r) [] := by
  refine fn_pure tok W0 Tryd.func57 (by kernel_rfl) w57_h (by kernel_rfl) ?_
  intro ar un cv mn mx pl mi cmp nt beq an scmp cat slen sbyte ssub ofB toB len gi gb gs gl sub put app ovl rep ne0 ge0 inb bnd room sroom need br call callb loop cut nl E R K hK
  have D := E.D
  clear E
  unfold d57 at h
  cbv
  refine R.cutB Sum.inl (fun _ _ e => Sum.inl.inj e) h [] (fun p8 => []) (fun p8 => []) (by kernel_rfl) (by kernel_rfl) (fun y3 hy hFy3 L hLy3 => ?_) (fun p8 h2 => ?_)
  · clear h; have h := hy; clear hy; cbv
    refine R.loopD h (fun s0 y5 e0 hi hFs4 => ?_)
    clear h
    refine R.loopI hi [] (fun s4 => [(8, .i .i64 s4)]) (fun s4 => []) ⟨by kernel_rfl, ?_, ?_, by kernel_rfl, by kernel_rfl⟩ (by kernel_rfl) ?_
    · cbv; try (subst e0; simp only [D.har, D.hcmp, D.hgi, D.hinb, D.hlen, and_self, and_true, true_and] <;> (repeat' apply And.intro) <;> rfl)
    · cbv; try (subst e0; simp only [D.har, D.hcmp, D.hgi, D.hinb, D.hlen, and_self, and_true, true_and] <;> (repeat' apply And.intro) <;> rfl)
    clear hi e0
    intro s4 m y' hy hins4 houts4 L hLs4
    have h := hy; clear hy; unfold d57_b1 at h
    cbv
    refine R.cut' (by kernel_rfl) (by kernel_rfl) ?_
    cbv
    refine R.brD h (by (first | (simp only [D.har, D.hcmp, D.hgi, D.hinb, D.hlen]; done) | rfl | (simp only [D.har, D.hcmp, D.hgi, D.hinb, D.hlen]; rfl))) ?_ ?_ <;> clear h <;> intro h <;> cbv
    · refine R.cut' (by kernel_rfl) (by kernel_rfl) ?_
      cbv
      refine R.needD h (by (first | (simp only [D.har, D.hcmp, D.hgi, D.hinb, D.hlen]; done) | rfl | (simp only [D.har, D.hcmp, D.hgi, D.hinb, D.hlen]; rfl))) ?_
      clear h; intro h; cbv
      refine R.brD h (by (first | (simp only [D.har, D.hcmp, D.hgi, D.hinb, D.hlen]; done) | rfl | (simp only [D.har, D.hcmp, D.hgi, D.hinb, D.hlen]; rfl))) ?_ ?_ <;> clear h <;> intro h <;> cbv
      · have e := inr_some h houts4; clear h
        have h := hFs4; rw [e] at h; clear e; try dsimp only at h
        cbv
        have e := ret_some h; clear h
        have h := hFy3; rw [e] at h; clear e; try dsimp only at h
        cbv
        have e := ret_some h; clear h
        refine hK _ _ ?_
        cbv
        try (subst e; simp only [D.har, D.hcmp, D.hgi, D.hinb, D.hlen, and_self, and_true, true_and] <;> (repeat' apply And.intro) <;> rfl)
      · obtain ⟨s', e, hi⟩ := inl_some h hins4
        refine hLs4 s' _ _ hi ⟨by kernel_rfl, ?_, ?_, by kernel_rfl, by kernel_rfl⟩ <;> cbv <;> (try (subst e; simp only [D.har, D.hcmp, D.hgi, D.hinb, D.hlen, and_self, and_true, true_and] <;> (repeat' apply And.intro) <;> rfl))
    · have e := inr_some h houts4; clear h
      have h := hFs4; rw [e] at h; clear e; try dsimp only at h
      cbv
      obtain ⟨s', e, hi⟩ := jn_some Sum.inl h
      refine hLy3 s' _ _ hi ⟨by kernel_rfl, ?_, ?_, by kernel_rfl, by kernel_rfl⟩ <;> cbv <;> (try (subst e; simp only [D.har, D.hcmp, D.hgi, D.hinb, D.hlen, and_self, and_true, true_and] <;> (repeat' apply And.intro) <;> rfl))
  · clear h; have h := h2; clear h2; try dsimp only at h
    cbv
    have e := ret_some h; clear h
    refine hK _ _ ?_
    cbv
    try (subst e; simp only [D.har, D.hcmp, D.hgi, D.hinb, D.hlen, and_self, and_true, true_and] <;> (repeat' apply And.intro) <;> rfl)

noncomputable def d32 (a0_0 : Int) (a0_1 : Bool) (a1_0 : Int) (a1_1 : Bool) : Option (Int) :=
  (d15 a0_0 a0_1).bind fun x1 =>
  (d15 a1_0 a1_1).bind fun x2 =>
  (d57 [.i .i64 x1, .i .i64 x2]).bind fun x3 =>
  some x3
noncomputable def w32_c : Code := (Tryd.f32.body).getD .skip
theorem w32_h : Tryd.f32.body = some w32_c := by kernel_rfl
theorem w32 (a0_0 : Int) (a0_1 : Bool) (a1_0 : Int) (a1_1 : Bool) (r : Int) (h : d32 a0_0 a0_1 a1_0 a1_1 = some r) : Ab.Fn Tryd.prog TT 32 [.agg [.i .i64 a0_0, .b a0_1], .agg [.i .i64 a1_0, .b a1_1]] (.i .i64 r) [] := by
  refine fn_pure tok (fun r => match r with | 1 => [[],[0],[],[0,1,2],[0,1,2,3],[0,1,2,3,4],[0,1,2,3,4,5]] | _ => []) Tryd.func32 (by kernel_rfl) w32_h (by kernel_rfl) ?_
  intro ar un cv mn mx pl mi cmp nt beq an scmp cat slen sbyte ssub ofB toB len gi gb gs gl sub put app ovl rep ne0 ge0 inb bnd room sroom need br call callb loop cut nl E R K hK
  have D := E.D
  clear E
  unfold d32 at h
  cbv
  refine R.callD h (fun x1 hx1 h2 => ?_)
  clear h; have h := h2; clear h2
  refine R.call' (w15 _ _ _ hx1) (by rfl) ?_
  clear hx1; cbv
  refine R.callD h (fun x2 hx2 h2 => ?_)
  clear h; have h := h2; clear h2
  refine R.call' (w15 _ _ _ hx2) (by rfl) ?_
  clear hx2; cbv
  refine R.callD h (fun x3 hx3 h2 => ?_)
  clear h; have h := h2; clear h2
  refine R.call' (w57 _ _ hx3) (by rfl) ?_
  clear hx3; cbv
  have e := ret_some h; clear h
  refine hK _ _ ?_
  cbv
  try (subst e; simp only [and_self, and_true, true_and] <;> (repeat' apply And.intro) <;> rfl)

noncomputable def d37 : Option (Int × Bool) :=
  some (4, true)
noncomputable def w37_c : Code := (Tryd.f37.body).getD .skip
theorem w37_h : Tryd.f37.body = some w37_c := by kernel_rfl
theorem w37 (r : Int × Bool) (h : d37 = some r) : Ab.Fn Tryd.prog TT 37 [] (.agg [.i .i64 r.1, .b r.2]) [] := by
  refine fn_pure tok W0 Tryd.func37 (by kernel_rfl) w37_h (by kernel_rfl) ?_
  intro ar un cv mn mx pl mi cmp nt beq an scmp cat slen sbyte ssub ofB toB len gi gb gs gl sub put app ovl rep ne0 ge0 inb bnd room sroom need br call callb loop cut nl E R K hK
  have D := E.D
  clear E
  unfold d37 at h
  cbv
  have e := ret_some h; clear h
  refine hK _ _ ?_
  cbv
  try (subst e; simp only [and_self, and_true, true_and] <;> (repeat' apply And.intro) <;> rfl)

noncomputable def d31 (a0_0 : Int) (a0_1 : Bool) : Option (Int × Bool) :=
  if (cmpLit .lss a0_0 4) = true then
    (d37).bind fun x2 =>
    some (x2.1, x2.2)
  else
    some (a0_0, a0_1)
noncomputable def w31_c : Code := (Tryd.f31.body).getD .skip
theorem w31_h : Tryd.f31.body = some w31_c := by kernel_rfl
theorem w31 (a0_0 : Int) (a0_1 : Bool) (r : Int × Bool) (h : d31 a0_0 a0_1 = some r) : Ab.Fn Tryd.prog TT 31 [.agg [.i .i64 a0_0, .b a0_1]] (.agg [.i .i64 r.1, .b r.2]) [] := by
  refine fn_pure tok W0 Tryd.func31 (by kernel_rfl) w31_h (by kernel_rfl) ?_
  intro ar un cv mn mx pl mi cmp nt beq an scmp cat slen sbyte ssub ofB toB len gi gb gs gl sub put app ovl rep ne0 ge0 inb bnd room sroom need br call callb loop cut nl E R K hK
  have D := E.D
  clear E
  unfold d31 at h
  cbv
  refine R.cut' (by kernel_rfl) (by kernel_rfl) ?_
  cbv
  refine R.brD h (by (first | (simp only [D.hcmp]; done) | rfl | (simp only [D.hcmp]; rfl))) ?_ ?_ <;> clear h <;> intro h <;> cbv
  · refine R.callD h (fun x2 hx2 h2 => ?_)
    clear h; have h := h2; clear h2
    refine R.call' (w37 _ hx2) (by (first | (simp only [D.hcmp]; done) | rfl | (simp only [D.hcmp]; rfl))) ?_
    clear hx2; cbv
    have e := ret_some h; clear h
    refine hK _ _ ?_
    cbv
    try (subst e; simp only [D.hcmp, and_self, and_true, true_and] <;> (repeat' apply And.intro) <;> rfl)
  · have e := ret_some h; clear h
    refine hK _ _ ?_
    cbv
    try (subst e; simp only [D.hcmp, and_self, and_true, true_and] <;> (repeat' apply And.intro) <;> rfl)
end Go.Proofs.YtjcabmhnekcbgaaDoor
end
section
namespace Go.Proofs.YtjcabmhnekcbgaaDoor
open Go.Ab Go.RowKit 
set_option maxRecDepth 100000
set_option maxHeartbeats 40000000
noncomputable def d34 (a0_0 : Int) (a0_1 : Bool) (a1_0 : Int) (a1_1 : Bool) : Option (Int × Bool) :=
  (d31 a0_0 a0_1).bind fun x1 =>
  (d31 a1_0 a1_1).bind fun x2 =>
  if (cmpLit .neq x1.1 x2.1) = true then
    if (cmpLit .gtr x1.1 x2.1) = true then
      if x1.2 = true then
        some ((mxI x1.1 x2.1), true)
      else
        if (cmpLit .gtr x2.1 x1.1) = true then
          some ((mxI x1.1 x2.1), x2.2)
        else
          some ((mxI x1.1 x2.1), false)
    else
      if (cmpLit .gtr x2.1 x1.1) = true then
        some ((mxI x1.1 x2.1), x2.2)
      else
        some ((mxI x1.1 x2.1), false)
  else
    if x1.2 = true then
      some (x1.1, x2.2)
    else
      some (x1.1, false)
noncomputable def w34_c : Code := (Tryd.f34.body).getD .skip
theorem w34_h : Tryd.f34.body = some w34_c := by kernel_rfl
theorem w34 (a0_0 : Int) (a0_1 : Bool) (a1_0 : Int) (a1_1 : Bool) (r : Int × Bool) (h : d34 a0_0 a0_1 a1_0 a1_1 = some r) : Ab.Fn Tryd.prog TT 34 [.agg [.i .i64 a0_0, .b a0_1], .agg [.i .i64 a1_0, .b a1_1]] (.agg [.i .i64 r.1, .b r.2]) [] := by
  refine fn_pure tok (fun r => match r with | 1 => [[],[0],[],[0,1,2],[0,1,2,3],[0,1,2,3,4]] | _ => []) Tryd.func34 (by kernel_rfl) w34_h (by kernel_rfl) ?_
  intro ar un cv mn mx pl mi cmp nt beq an scmp cat slen sbyte ssub ofB toB len gi gb gs gl sub put app ovl rep ne0 ge0 inb bnd room sroom need br call callb loop cut nl E R K hK
  have D := E.D
  clear E
  unfold d34 at h
  cbv
  refine R.callD h (fun x1 hx1 h2 => ?_)
  clear h; have h := h2; clear h2
  refine R.call' (w31 _ _ _ hx1) (by (first | (simp only [D.hcmp, D.hmx]; done) | rfl | (simp only [D.hcmp, D.hmx]; rfl))) ?_
  clear hx1; cbv
  refine R.callD h (fun x2 hx2 h2 => ?_)
  clear h; have h := h2; clear h2
  refine R.call' (w31 _ _ _ hx2) (by (first | (simp only [D.hcmp, D.hmx]; done) | rfl | (simp only [D.hcmp, D.hmx]; rfl))) ?_
  clear hx2; cbv
  refine R.cut' (by kernel_rfl) (by kernel_rfl) ?_
  cbv
  refine R.brD h (by (first | (simp only [D.hcmp, D.hmx]; done) | rfl | (simp only [D.hcmp, D.hmx]; rfl))) ?_ ?_ <;> clear h <;> intro h <;> cbv
  · refine R.cut' (by kernel_rfl) (by kernel_rfl) ?_
    cbv
    refine R.brD h (by (first | (simp only [D.hcmp, D.hmx]; done) | rfl | (simp only [D.hcmp, D.hmx]; rfl))) ?_ ?_ <;> clear h <;> intro h <;> cbv
    · refine R.brD h (by (first | (simp only [D.hcmp, D.hmx]; done) | rfl | (simp only [D.hcmp, D.hmx]; rfl))) ?_ ?_ <;> clear h <;> intro h <;> cbv
      · have e := ret_some h; clear h
        refine hK _ _ ?_
        cbv
        try (subst e; simp only [D.hcmp, D.hmx, and_self, and_true, true_and] <;> (repeat' apply And.intro) <;> rfl)
      · refine R.brD h (by (first | (simp only [D.hcmp, D.hmx]; done) | rfl | (simp only [D.hcmp, D.hmx]; rfl))) ?_ ?_ <;> clear h <;> intro h <;> cbv
        · have e := ret_some h; clear h
          refine hK _ _ ?_
          cbv
          try (subst e; simp only [D.hcmp, D.hmx, and_self, and_true, true_and] <;> (repeat' apply And.intro) <;> rfl)
        · have e := ret_some h; clear h
          refine hK _ _ ?_
          cbv
          try (subst e; simp only [D.hcmp, D.hmx, and_self, and_true, true_and] <;> (repeat' apply And.intro) <;> rfl)
    · refine R.brD h (by (first | (simp only [D.hcmp, D.hmx]; done) | rfl | (simp only [D.hcmp, D.hmx]; rfl))) ?_ ?_ <;> clear h <;> intro h <;> cbv
      · have e := ret_some h; clear h
        refine hK _ _ ?_
        cbv
        try (subst e; simp only [D.hcmp, D.hmx, and_self, and_true, true_and] <;> (repeat' apply And.intro) <;> rfl)
      · have e := ret_some h; clear h
        refine hK _ _ ?_
        cbv
        try (subst e; simp only [D.hcmp, D.hmx, and_self, and_true, true_and] <;> (repeat' apply And.intro) <;> rfl)
  · refine R.cut' (by kernel_rfl) (by kernel_rfl) ?_
    cbv
    refine R.brD h (by (first | (simp only [D.hcmp, D.hmx]; done) | rfl | (simp only [D.hcmp, D.hmx]; rfl))) ?_ ?_ <;> clear h <;> intro h <;> cbv
    · have e := ret_some h; clear h
      refine hK _ _ ?_
      cbv
      try (subst e; simp only [D.hcmp, D.hmx, and_self, and_true, true_and] <;> (repeat' apply And.intro) <;> rfl)
    · have e := ret_some h; clear h
      refine hK _ _ ?_
      cbv
      try (subst e; simp only [D.hcmp, D.hmx, and_self, and_true, true_and] <;> (repeat' apply And.intro) <;> rfl)

noncomputable def d21 (a0_0 : Int) (a0_1 : Bool) (a1_0 : Int) (a1_1 : Bool) : Option (Int × Bool × Int) :=
  (d32 a0_0 a0_1 a1_0 a1_1).bind fun x2 =>
  if (cmpLit .neq x2 0) = true then
    some (0, false, x2)
  else
    (d34 a0_0 a0_1 a1_0 a1_1).bind fun x3 =>
    some (x3.1, x3.2, 0)
noncomputable def w21_c : Code := (Tryd.f21.body).getD .skip
theorem w21_h : Tryd.f21.body = some w21_c := by kernel_rfl
theorem w21 (a0_0 : Int) (a0_1 : Bool) (a1_0 : Int) (a1_1 : Bool) (r : Int × Bool × Int) (h : d21 a0_0 a0_1 a1_0 a1_1 = some r) : Ab.Fn Tryd.prog TT 21 [.agg [.i .i64 a0_0, .b a0_1], .agg [.i .i64 a1_0, .b a1_1]] (.tup [.agg [.i .i64 r.1, .b r.2.1], .i .i64 r.2.2]) [] := by
  refine fn_pure tok W0 Tryd.func21 (by kernel_rfl) w21_h (by kernel_rfl) ?_
  intro ar un cv mn mx pl mi cmp nt beq an scmp cat slen sbyte ssub ofB toB len gi gb gs gl sub put app ovl rep ne0 ge0 inb bnd room sroom need br call callb loop cut nl E R K hK
  have D := E.D
  clear E
  unfold d21 at h
  cbv
  refine R.cut' (by kernel_rfl) (by kernel_rfl) ?_
  cbv
  refine R.callD h (fun x2 hx2 h2 => ?_)
  clear h; have h := h2; clear h2
  refine R.call' (w32 _ _ _ _ _ hx2) (by (first | (simp only [D.hcmp]; done) | rfl | (simp only [D.hcmp]; rfl))) ?_
  clear hx2; cbv
  refine R.brD h (by (first | (simp only [D.hcmp]; done) | rfl | (simp only [D.hcmp]; rfl))) ?_ ?_ <;> clear h <;> intro h <;> cbv
  · have e := ret_some h; clear h
    refine hK _ _ ?_
    cbv
    try (subst e; simp only [D.hcmp, and_self, and_true, true_and] <;> (repeat' apply And.intro) <;> rfl)
  · refine R.callD h (fun x3 hx3 h2 => ?_)
    clear h; have h := h2; clear h2
    refine R.call' (w34 _ _ _ _ _ hx3) (by (first | (simp only [D.hcmp]; done) | rfl | (simp only [D.hcmp]; rfl))) ?_
    clear hx3; cbv
    have e := ret_some h; clear h
    refine hK _ _ ?_
    cbv
    try (subst e; simp only [D.hcmp, and_self, and_true, true_and] <;> (repeat' apply And.intro) <;> rfl)

noncomputable def d58 (a0_0 : Int) (a0_1 : Bool) (a1 : Int) (a2 : Int) : Option (Int) :=
  some (arReal .add .i64 a1 a2)
noncomputable def w58_c : Code := (Tryd.f58.body).getD .skip
theorem w58_h : Tryd.f58.body = some w58_c := by kernel_rfl
theorem w58 (a0_0 : Int) (a0_1 : Bool) (a1 : Int) (a2 : Int) (r : Int) (h : d58 a0_0 a0_1 a1 a2 = some r) : Ab.Fn Tryd.prog TT 58 [.agg [.i .i64 a0_0, .b a0_1], .i .i64 a1, .i .i64 a2] (.i .i64 r) [] := by
  refine fn_pure tok W0 Tryd.func58 (by kernel_rfl) w58_h (by kernel_rfl) ?_
  intro ar un cv mn mx pl mi cmp nt beq an scmp cat slen sbyte ssub ofB toB len gi gb gs gl sub put app ovl rep ne0 ge0 inb bnd room sroom need br call callb loop cut nl E R K hK
  have D := E.D
  clear E
  unfold d58 at h
  cbv
  have e := ret_some h; clear h
  refine hK _ _ ?_
  cbv
  try (subst e; simp only [D.har, and_self, and_true, true_and] <;> (repeat' apply And.intro) <;> rfl)

noncomputable def d59 (a0_0 : Int) (a0_1 : Bool) (a1 : Int) (a2 : Int) : Option (Int) :=
  some (arReal .sub .i64 a1 a2)
noncomputable def w59_c : Code := (Tryd.f59.body).getD .skip
theorem w59_h : Tryd.f59.body = some w59_c := by kernel_rfl
theorem w59 (a0_0 : Int) (a0_1 : Bool) (a1 : Int) (a2 : Int) (r : Int) (h : d59 a0_0 a0_1 a1 a2 = some r) : Ab.Fn Tryd.prog TT 59 [.agg [.i .i64 a0_0, .b a0_1], .i .i64 a1, .i .i64 a2] (.i .i64 r) [] := by
  refine fn_pure tok W0 Tryd.func59 (by kernel_rfl) w59_h (by kernel_rfl) ?_
  intro ar un cv mn mx pl mi cmp nt beq an scmp cat slen sbyte ssub ofB toB len gi gb gs gl sub put app ovl rep ne0 ge0 inb bnd room sroom need br call callb loop cut nl E R K hK
  have D := E.D
  clear E
  unfold d59 at h
  cbv
  have e := ret_some h; clear h
  refine hK _ _ ?_
  cbv
  try (subst e; simp only [D.har, and_self, and_true, true_and] <;> (repeat' apply And.intro) <;> rfl)

noncomputable def d60 (a0_0 : Int) (a0_1 : Bool) (a1 : Int) (a2 : Int) : Option (Int) :=
  some (arReal .mul .i64 a1 a2)
noncomputable def w60_c : Code := (Tryd.f60.body).getD .skip
theorem w60_h : Tryd.f60.body = some w60_c := by kernel_rfl
theorem w60 (a0_0 : Int) (a0_1 : Bool) (a1 : Int) (a2 : Int) (r : Int) (h : d60 a0_0 a0_1 a1 a2 = some r) : Ab.Fn Tryd.prog TT 60 [.agg [.i .i64 a0_0, .b a0_1], .i .i64 a1, .i .i64 a2] (.i .i64 r) [] := by
  refine fn_pure tok W0 Tryd.func60 (by kernel_rfl) w60_h (by kernel_rfl) ?_
  intro ar un cv mn mx pl mi cmp nt beq an scmp cat slen sbyte ssub ofB toB len gi gb gs gl sub put app ovl rep ne0 ge0 inb bnd room sroom need br call callb loop cut nl E R K hK
  have D := E.D
  clear E
  unfold d60 at h
  cbv
  have e := ret_some h; clear h
  refine hK _ _ ?_
  cbv
  try (subst e; simp only [D.har, and_self, and_true, true_and] <;> (repeat' apply And.intro) <;> rfl)

noncomputable def d61 (a0_0 : Int) (a0_1 : Bool) (a1 : Int) (a2 : Int) : Option (Int) :=
  some (arReal .and .i64 a1 a2)
noncomputable def w61_c : Code := (Tryd.f61.body).getD .skip
theorem w61_h : Tryd.f61.body = some w61_c := by kernel_rfl
theorem w61 (a0_0 : Int) (a0_1 : Bool) (a1 : Int) (a2 : Int) (r : Int) (h : d61 a0_0 a0_1 a1 a2 = some r) : Ab.Fn Tryd.prog TT 61 [.agg [.i .i64 a0_0, .b a0_1], .i .i64 a1, .i .i64 a2] (.i .i64 r) [] := by
  refine fn_pure tok W0 Tryd.func61 (by kernel_rfl) w61_h (by kernel_rfl) ?_
  intro ar un cv mn mx pl mi cmp nt beq an scmp cat slen sbyte ssub ofB toB len gi gb gs gl sub put app ovl rep ne0 ge0 inb bnd room sroom need br call callb loop cut nl E R K hK
  have D := E.D
  clear E
  unfold d61 at h
  cbv
  have e := ret_some h; clear h
  refine hK _ _ ?_
  cbv
  try (subst e; simp only [D.har, and_self, and_true, true_and] <;> (repeat' apply And.intro) <;> rfl)

noncomputable def d62 (a0_0 : Int) (a0_1 : Bool) (a1 : Int) (a2 : Int) : Option (Int) :=
  some (arReal .or .i64 a1 a2)
noncomputable def w62_c : Code := (Tryd.f62.body).getD .skip
theorem w62_h : Tryd.f62.body = some w62_c := by kernel_rfl
theorem w62 (a0_0 : Int) (a0_1 : Bool) (a1 : Int) (a2 : Int) (r : Int) (h : d62 a0_0 a0_1 a1 a2 = some r) : Ab.Fn Tryd.prog TT 62 [.agg [.i .i64 a0_0, .b a0_1], .i .i64 a1, .i .i64 a2] (.i .i64 r) [] := by
  refine fn_pure tok W0 Tryd.func62 (by kernel_rfl) w62_h (by kernel_rfl) ?_
  intro ar un cv mn mx pl mi cmp nt beq an scmp cat slen sbyte ssub ofB toB len gi gb gs gl sub put app ovl rep ne0 ge0 inb bnd room sroom need br call callb loop cut nl E R K hK
  have D := E.D
  clear E
  unfold d62 at h
  cbv
  have e := ret_some h; clear h
  refine hK _ _ ?_
  cbv
  try (subst e; simp only [D.har, and_self, and_true, true_and] <;> (repeat' apply And.intro) <;> rfl)

noncomputable def d63 (a0_0 : Int) (a0_1 : Bool) (a1 : Int) (a2 : Int) : Option (Int) :=
  some (arReal .xor .i64 a1 a2)
noncomputable def w63_c : Code := (Tryd.f63.body).getD .skip
theorem w63_h : Tryd.f63.body = some w63_c := by kernel_rfl
theorem w63 (a0_0 : Int) (a0_1 : Bool) (a1 : Int) (a2 : Int) (r : Int) (h : d63 a0_0 a0_1 a1 a2 = some r) : Ab.Fn Tryd.prog TT 63 [.agg [.i .i64 a0_0, .b a0_1], .i .i64 a1, .i .i64 a2] (.i .i64 r) [] := by
  refine fn_pure tok W0 Tryd.func63 (by kernel_rfl) w63_h (by kernel_rfl) ?_
  intro ar un cv mn mx pl mi cmp nt beq an scmp cat slen sbyte ssub ofB toB len gi gb gs gl sub put app ovl rep ne0 ge0 inb bnd room sroom need br call callb loop cut nl E R K hK
  have D := E.D
  clear E
  unfold d63 at h
  cbv
  have e := ret_some h; clear h
  refine hK _ _ ?_
  cbv
  try (subst e; simp only [D.har, and_self, and_true, true_and] <;> (repeat' apply And.intro) <;> rfl)

noncomputable def d54 (a0_0 : Int) (a0_1 : Bool) : Option (Bool) :=
  if (cmpLit .eql a0_0 8) = true then
    some (notB' a0_1)
  else
    some false
noncomputable def w54_c : Code := (Tryd.f54.body).getD .skip
theorem w54_h : Tryd.f54.body = some w54_c := by kernel_rfl
theorem w54 (a0_0 : Int) (a0_1 : Bool) (r : Bool) (h : d54 a0_0 a0_1 = some r) : Ab.Fn Tryd.prog TT 54 [.agg [.i .i64 a0_0, .b a0_1]] (.b r) [] := by
  refine fn_pure tok W0 Tryd.func54 (by kernel_rfl) w54_h (by kernel_rfl) ?_
  intro ar un cv mn mx pl mi cmp nt beq an scmp cat slen sbyte ssub ofB toB len gi gb gs gl sub put app ovl rep ne0 ge0 inb bnd room sroom need br call callb loop cut nl E R K hK
  have D := E.D
  clear E
  unfold d54 at h
  cbv
  refine R.cut' (by kernel_rfl) (by kernel_rfl) ?_
  cbv
  refine R.brD h (by (first | (simp only [D.hcmp, D.hnt]; done) | rfl | (simp only [D.hcmp, D.hnt]; rfl))) ?_ ?_ <;> clear h <;> intro h <;> cbv
  · have e := ret_some h; clear h
    refine hK _ _ ?_
    cbv
    try (subst e; simp only [D.hcmp, D.hnt, and_self, and_true, true_and] <;> (repeat' apply And.intro) <;> rfl)
  · have e := ret_some h; clear h
    refine hK _ _ ?_
    cbv
    try (subst e; simp only [D.hcmp, D.hnt, and_self, and_true, true_and] <;> (repeat' apply And.intro) <;> rfl)

noncomputable def d97 (a0 : Int) : Option (Int) :=
  Option.bind (α := Int × Int) (
    if (cmpLit .geq a0 4294967296) = true then
      if (Ge0 32) then
        some ((arReal .shr .u64 a0 32), 32)
      else none
    else
      some (a0, 0)) fun y1 =>
  Option.bind (α := Int × Int) (
    if (cmpLit .geq y1.1 65536) = true then
      if (Ge0 16) then
        some ((arReal .shr .u64 y1.1 16), (arReal .add .i64 y1.2 16))
      else none
    else
      some (y1.1, y1.2)) fun y3 =>
  if (cmpLit .geq y3.1 256) = true then
    if (Ge0 8) then
      if (Inb (wrapK .u8 (arReal .shr .u64 y3.1 8)) (slenI (ByteArray.mk #[0, 1, 2, 2, 3, 3, 3, 3, 4, 4, 4, 4, 4, 4, 4, 4, 5, 5, 5, 5, 5, 5, 5, 5, 5, 5, 5, 5, 5, 5, 5, 5, 6, 6, 6, 6, 6, 6, 6, 6, 6, 6, 6, 6, 6, 6, 6, 6, 6, 6, 6, 6, 6, 6, 6, 6, 6, 6, 6, 6, 6, 6, 6, 6, 7, 7, 7, 7, 7, 7, 7, 7, 7, 7, 7, 7, 7, 7, 7, 7, 7, 7, 7, 7, 7, 7, 7, 7, 7, 7, 7, 7, 7, 7, 7, 7, 7, 7, 7, 7, 7, 7, 7, 7, 7, 7, 7, 7, 7, 7, 7, 7, 7, 7, 7, 7, 7, 7, 7, 7, 7, 7, 7, 7, 7, 7, 7, 7, 8, 8, 8, 8, 8, 8, 8, 8, 8, 8, 8, 8, 8, 8, 8, 8, 8, 8, 8, 8, 8, 8, 8, 8, 8, 8, 8, 8, 8, 8, 8, 8, 8, 8, 8, 8, 8, 8, 8, 8, 8, 8, 8, 8, 8, 8, 8, 8, 8, 8, 8, 8, 8, 8, 8, 8, 8, 8, 8, 8, 8, 8, 8, 8, 8, 8, 8, 8, 8, 8, 8, 8, 8, 8, 8, 8, 8, 8, 8, 8, 8, 8, 8, 8, 8, 8, 8, 8, 8, 8, 8, 8, 8, 8, 8, 8, 8, 8, 8, 8, 8, 8, 8, 8, 8, 8, 8, 8, 8, 8, 8, 8, 8, 8, 8, 8, 8, 8, 8, 8, 8, 8, 8, 8, 8, 8, 8, 8]))) then
        some (arReal .add .i64 (arReal .add .i64 y3.2 8) (wrapK .i64 (sbyteI (ByteArray.mk #[0, 1, 2, 2, 3, 3, 3, 3, 4, 4, 4, 4, 4, 4, 4, 4, 5, 5, 5, 5, 5, 5, 5, 5, 5, 5, 5, 5, 5, 5, 5, 5, 6, 6, 6, 6, 6, 6, 6, 6, 6, 6, 6, 6, 6, 6, 6, 6, 6, 6, 6, 6, 6, 6, 6, 6, 6, 6, 6, 6, 6, 6, 6, 6, 7, 7, 7, 7, 7, 7, 7, 7, 7, 7, 7, 7, 7, 7, 7, 7, 7, 7, 7, 7, 7, 7, 7, 7, 7, 7, 7, 7, 7, 7, 7, 7, 7, 7, 7, 7, 7, 7, 7, 7, 7, 7, 7, 7, 7, 7, 7, 7, 7, 7, 7, 7, 7, 7, 7, 7, 7, 7, 7, 7, 7, 7, 7, 7, 8, 8, 8, 8, 8, 8, 8, 8, 8, 8, 8, 8, 8, 8, 8, 8, 8, 8, 8, 8, 8, 8, 8, 8, 8, 8, 8, 8, 8, 8, 8, 8, 8, 8, 8, 8, 8, 8, 8, 8, 8, 8, 8, 8, 8, 8, 8, 8, 8, 8, 8, 8, 8, 8, 8, 8, 8, 8, 8, 8, 8, 8, 8, 8, 8, 8, 8, 8, 8, 8, 8, 8, 8, 8, 8, 8, 8, 8, 8, 8, 8, 8, 8, 8, 8, 8, 8, 8, 8, 8, 8, 8, 8, 8, 8, 8, 8, 8, 8, 8, 8, 8, 8, 8, 8, 8, 8, 8, 8, 8, 8, 8, 8, 8, 8, 8, 8, 8, 8, 8, 8, 8, 8, 8, 8, 8, 8, 8]) (wrapK .u8 (arReal .shr .u64 y3.1 8)))))
      else none
    else none
  else
    if (Inb (wrapK .u8 y3.1) (slenI (ByteArray.mk #[0, 1, 2, 2, 3, 3, 3, 3, 4, 4, 4, 4, 4, 4, 4, 4, 5, 5, 5, 5, 5, 5, 5, 5, 5, 5, 5, 5, 5, 5, 5, 5, 6, 6, 6, 6, 6, 6, 6, 6, 6, 6, 6, 6, 6, 6, 6, 6, 6, 6, 6, 6, 6, 6, 6, 6, 6, 6, 6, 6, 6, 6, 6, 6, 7, 7, 7, 7, 7, 7, 7, 7, 7, 7, 7, 7, 7, 7, 7, 7, 7, 7, 7, 7, 7, 7, 7, 7, 7, 7, 7, 7, 7, 7, 7, 7, 7, 7, 7, 7, 7, 7, 7, 7, 7, 7, 7, 7, 7, 7, 7, 7, 7, 7, 7, 7, 7, 7, 7, 7, 7, 7, 7, 7, 7, 7, 7, 7, 8, 8, 8, 8, 8, 8, 8, 8, 8, 8, 8, 8, 8, 8, 8, 8, 8, 8, 8, 8, 8, 8, 8, 8, 8, 8, 8, 8, 8, 8, 8, 8, 8, 8, 8, 8, 8, 8, 8, 8, 8, 8, 8, 8, 8, 8, 8, 8, 8, 8, 8, 8, 8, 8, 8, 8, 8, 8, 8, 8, 8, 8, 8, 8, 8, 8, 8, 8, 8, 8, 8, 8, 8, 8, 8, 8, 8, 8, 8, 8, 8, 8, 8, 8, 8, 8, 8, 8, 8, 8, 8, 8, 8, 8, 8, 8, 8, 8, 8, 8, 8, 8, 8, 8, 8, 8, 8, 8, 8, 8, 8, 8, 8, 8, 8, 8, 8, 8, 8, 8, 8, 8, 8, 8, 8, 8, 8, 8]))) then
      some (arReal .add .i64 y3.2 (wrapK .i64 (sbyteI (ByteArray.mk #[0, 1, 2, 2, 3, 3, 3, 3, 4, 4, 4, 4, 4, 4, 4, 4, 5, 5, 5, 5, 5, 5, 5, 5, 5, 5, 5, 5, 5, 5, 5, 5, 6, 6, 6, 6, 6, 6, 6, 6, 6, 6, 6, 6, 6, 6, 6, 6, 6, 6, 6, 6, 6, 6, 6, 6, 6, 6, 6, 6, 6, 6, 6, 6, 7, 7, 7, 7, 7, 7, 7, 7, 7, 7, 7, 7, 7, 7, 7, 7, 7, 7, 7, 7, 7, 7, 7, 7, 7, 7, 7, 7, 7, 7, 7, 7, 7, 7, 7, 7, 7, 7, 7, 7, 7, 7, 7, 7, 7, 7, 7, 7, 7, 7, 7, 7, 7, 7, 7, 7, 7, 7, 7, 7, 7, 7, 7, 7, 8, 8, 8, 8, 8, 8, 8, 8, 8, 8, 8, 8, 8, 8, 8, 8, 8, 8, 8, 8, 8, 8, 8, 8, 8, 8, 8, 8, 8, 8, 8, 8, 8, 8, 8, 8, 8, 8, 8, 8, 8, 8, 8, 8, 8, 8, 8, 8, 8, 8, 8, 8, 8, 8, 8, 8, 8, 8, 8, 8, 8, 8, 8, 8, 8, 8, 8, 8, 8, 8, 8, 8, 8, 8, 8, 8, 8, 8, 8, 8, 8, 8, 8, 8, 8, 8, 8, 8, 8, 8, 8, 8, 8, 8, 8, 8, 8, 8, 8, 8, 8, 8, 8, 8, 8, 8, 8, 8, 8, 8, 8, 8, 8, 8, 8, 8, 8, 8, 8, 8, 8, 8, 8, 8, 8, 8, 8, 8]) (wrapK .u8 y3.1))))
    else none
noncomputable def w97_c : Code := (Tryd.f97.body).getD .skip
theorem w97_h : Tryd.f97.body = some w97_c := by kernel_rfl
theorem w97 (a0 : Int) (r : Int) (h : d97 a0 = some r) : Ab.Fn Tryd.prog TT 97 [.i .u64 a0] (.i .i64 r) [] := by
  refine fn_pure tok W0 Tryd.func97 (by kernel_rfl) w97_h (by kernel_rfl) ?_
  intro ar un cv mn mx pl mi cmp nt beq an scmp cat slen sbyte ssub ofB toB len gi gb gs gl sub put app ovl rep ne0 ge0 inb bnd room sroom need br call callb loop cut nl E R K hK
  have D := E.D
  clear E
  unfold d97 at h
  cbv
  refine R.cutB (fun p => p) (fun _ _ e => e) h [] (fun p2 => [(0, .i .u64 p2.1), (2, .i .i64 p2.2)]) (fun p2 => []) (by kernel_rfl) (by kernel_rfl) (fun y1 hy hFy1 L hLy1 => ?_) (fun p2 h2 => ?_)
  · clear h; have h := hy; clear hy; cbv
    refine R.brD h (by (first | (simp only [D.har, D.hcmp, D.hcv, D.hge0, D.hinb, D.hsbyte, D.hslen]; done) | rfl | (simp only [D.har, D.hcmp, D.hcv, D.hge0, D.hinb, D.hsbyte, D.hslen]; rfl))) ?_ ?_ <;> clear h <;> intro h <;> cbv
    · refine R.needD h (by (first | (simp only [D.har, D.hcmp, D.hcv, D.hge0, D.hinb, D.hsbyte, D.hslen]; done) | rfl | (simp only [D.har, D.hcmp, D.hcv, D.hge0, D.hinb, D.hsbyte, D.hslen]; rfl))) ?_
      clear h; intro h; cbv
      obtain ⟨s', e, hi⟩ := jn_some (fun p => p) h
      refine hLy1 s' _ _ hi ⟨by kernel_rfl, ?_, ?_, by kernel_rfl, by kernel_rfl⟩ <;> cbv <;> (try (subst e; simp only [D.har, D.hcmp, D.hcv, D.hge0, D.hinb, D.hsbyte, D.hslen, and_self, and_true, true_and] <;> (repeat' apply And.intro) <;> rfl))
    · obtain ⟨s', e, hi⟩ := jn_some (fun p => p) h
      refine hLy1 s' _ _ hi ⟨by kernel_rfl, ?_, ?_, by kernel_rfl, by kernel_rfl⟩ <;> cbv <;> (try (subst e; simp only [D.har, D.hcmp, D.hcv, D.hge0, D.hinb, D.hsbyte, D.hslen, and_self, and_true, true_and] <;> (repeat' apply And.intro) <;> rfl))
  · clear h; have h := h2; clear h2; try dsimp only at h
    cbv
    refine R.cutB (fun p => p) (fun _ _ e => e) h [] (fun p4 => [(0, .i .u64 p4.1), (2, .i .i64 p4.2)]) (fun p4 => []) (by kernel_rfl) (by kernel_rfl) (fun y3 hy hFy3 L hLy3 => ?_) (fun p4 h2 => ?_)
    · clear h; have h := hy; clear hy; cbv
      refine R.brD h (by (first | (simp only [D.har, D.hcmp, D.hcv, D.hge0, D.hinb, D.hsbyte, D.hslen]; done) | rfl | (simp only [D.har, D.hcmp, D.hcv, D.hge0, D.hinb, D.hsbyte, D.hslen]; rfl))) ?_ ?_ <;> clear h <;> intro h <;> cbv
      · refine R.needD h (by (first | (simp only [D.har, D.hcmp, D.hcv, D.hge0, D.hinb, D.hsbyte, D.hslen]; done) | rfl | (simp only [D.har, D.hcmp, D.hcv, D.hge0, D.hinb, D.hsbyte, D.hslen]; rfl))) ?_
        clear h; intro h; cbv
        obtain ⟨s', e, hi⟩ := jn_some (fun p => p) h
        refine hLy3 s' _ _ hi ⟨by kernel_rfl, ?_, ?_, by kernel_rfl, by kernel_rfl⟩ <;> cbv <;> (try (subst e; simp only [D.har, D.hcmp, D.hcv, D.hge0, D.hinb, D.hsbyte, D.hslen, and_self, and_true, true_and] <;> (repeat' apply And.intro) <;> rfl))
      · obtain ⟨s', e, hi⟩ := jn_some (fun p => p) h
        refine hLy3 s' _ _ hi ⟨by kernel_rfl, ?_, ?_, by kernel_rfl, by kernel_rfl⟩ <;> cbv <;> (try (subst e; simp only [D.har, D.hcmp, D.hcv, D.hge0, D.hinb, D.hsbyte, D.hslen, and_self, and_true, true_and] <;> (repeat' apply And.intro) <;> rfl))
    · clear h; have h := h2; clear h2; try dsimp only at h
      cbv
      refine R.cut' (by kernel_rfl) (by kernel_rfl) ?_
      cbv
      refine R.brD h (by (first | (simp only [D.har, D.hcmp, D.hcv, D.hge0, D.hinb, D.hsbyte, D.hslen]; done) | rfl | (simp only [D.har, D.hcmp, D.hcv, D.hge0, D.hinb, D.hsbyte, D.hslen]; rfl))) ?_ ?_ <;> clear h <;> intro h <;> cbv
      · refine R.needD h (by (first | (simp only [D.har, D.hcmp, D.hcv, D.hge0, D.hinb, D.hsbyte, D.hslen]; done) | rfl | (simp only [D.har, D.hcmp, D.hcv, D.hge0, D.hinb, D.hsbyte, D.hslen]; rfl))) ?_
        clear h; intro h; cbv
        refine R.needD h (by (first | (simp only [D.har, D.hcmp, D.hcv, D.hge0, D.hinb, D.hsbyte, D.hslen]; done) | rfl | (simp only [D.har, D.hcmp, D.hcv, D.hge0, D.hinb, D.hsbyte, D.hslen]; rfl))) ?_
        clear h; intro h; cbv
        have e := ret_some h; clear h
        refine hK _ _ ?_
        cbv
        try (subst e; simp only [D.har, D.hcmp, D.hcv, D.hge0, D.hinb, D.hsbyte, D.hslen, and_self, and_true, true_and] <;> (repeat' apply And.intro) <;> rfl)
      · refine R.needD h (by (first | (simp only [D.har, D.hcmp, D.hcv, D.hge0, D.hinb, D.hsbyte, D.hslen]; done) | rfl | (simp only [D.har, D.hcmp, D.hcv, D.hge0, D.hinb, D.hsbyte, D.hslen]; rfl))) ?_
        clear h; intro h; cbv
        have e := ret_some h; clear h
        refine hK _ _ ?_
        cbv
        try (subst e; simp only [D.har, D.hcmp, D.hcv, D.hge0, D.hinb, D.hsbyte, D.hslen, and_self, and_true, true_and] <;> (repeat' apply And.intro) <;> rfl)

noncomputable def d96 (a0 : Int) : Option (Int) :=
  (d97 a0).bind fun x1 =>
  some (arReal .sub .i64 64 x1)
noncomputable def w96_c : Code := (Tryd.f96.body).getD .skip
theorem w96_h : Tryd.f96.body = some w96_c := by kernel_rfl
theorem w96 (a0 : Int) (r : Int) (h : d96 a0 = some r) : Ab.Fn Tryd.prog TT 96 [.i .u64 a0] (.i .i64 r) [] := by
  refine fn_pure tok W0 Tryd.func96 (by kernel_rfl) w96_h (by kernel_rfl) ?_
  intro ar un cv mn mx pl mi cmp nt beq an scmp cat slen sbyte ssub ofB toB len gi gb gs gl sub put app ovl rep ne0 ge0 inb bnd room sroom need br call callb loop cut nl E R K hK
  have D := E.D
  clear E
  unfold d96 at h
  cbv
  refine R.callD h (fun x1 hx1 h2 => ?_)
  clear h; have h := h2; clear h2
  refine R.call' (w97 _ _ hx1) (by (first | (simp only [D.har]; done) | rfl | (simp only [D.har]; rfl))) ?_
  clear hx1; cbv
  have e := ret_some h; clear h
  refine hK _ _ ?_
  cbv
  try (subst e; simp only [D.har, and_self, and_true, true_and] <;> (repeat' apply And.intro) <;> rfl)
end Go.Proofs.YtjcabmhnekcbgaaDoor
end
section
namespace Go.Proofs.YtjcabmhnekcbgaaDoor
open Go.Ab Go.RowKit 
set_option maxRecDepth 100000
set_option maxHeartbeats 40000000
noncomputable def d92_b1 (a1 : Int) (a2 : Int) (x1 : Int) (s14 : Int × Int) : Option ((Int × Int) ⊕ (Int)) :=
  Option.bind (α := (Unit) ⊕ (Unit)) (
    if (cmpLit .geq s14.1 4294967296) = true then
      some (.inl ())
    else
      if (cmpLit .gtr (arReal .mul .u64 s14.1 (arReal .and .u64 (arReal .shl .u64 a2 (wrapK .u64 x1)) 4294967295)) (arReal .add .u64 (arReal .mul .u64 4294967296 s14.2) (arReal .shr .u64 (arReal .shl .u64 a1 (wrapK .u64 x1)) 32))) = true then
        some (.inl ())
      else
        some (.inr ())) fun y19 =>
  match y19 with
  | .inl p20 =>
    if (cmpLit .geq (arReal .add .u64 s14.2 (arReal .shr .u64 (arReal .shl .u64 a2 (wrapK .u64 x1)) 32)) 4294967296) = true then
      some (.inr (arReal .sub .u64 s14.1 1))
    else
      some (.inl ((arReal .sub .u64 s14.1 1), (arReal .add .u64 s14.2 (arReal .shr .u64 (arReal .shl .u64 a2 (wrapK .u64 x1)) 32))))
  | .inr y19r0 =>
    some (.inr s14.1)
noncomputable def d92_b2 (a1 : Int) (a2 : Int) (x1 : Int) (s36 : Int × Int) : Option ((Int × Int) ⊕ (Int)) :=
  Option.bind (α := (Unit) ⊕ (Unit)) (
    if (cmpLit .geq s36.2 4294967296) = true then
      some (.inl ())
    else
      if (cmpLit .gtr (arReal .mul .u64 s36.2 (arReal .and .u64 (arReal .shl .u64 a2 (wrapK .u64 x1)) 4294967295)) (arReal .add .u64 (arReal .mul .u64 4294967296 s36.1) (arReal .and .u64 (arReal .shl .u64 a1 (wrapK .u64 x1)) 4294967295))) = true then
        some (.inl ())
      else
        some (.inr ())) fun y41 =>
  match y41 with
  | .inl p42 =>
    if (cmpLit .geq (arReal .add .u64 s36.1 (arReal .shr .u64 (arReal .shl .u64 a2 (wrapK .u64 x1)) 32)) 4294967296) = true then
      some (.inr (arReal .sub .u64 s36.2 1))
    else
      some (.inl ((arReal .add .u64 s36.1 (arReal .shr .u64 (arReal .shl .u64 a2 (wrapK .u64 x1)) 32)), (arReal .sub .u64 s36.2 1)))
  | .inr y41r0 =>
    some (.inr s36.2)
noncomputable def d92 (a0 : Int) (a1 : Int) (a2 : Int) : Option (Int × Int) :=
  if (cmpLit .eql a2 0) = true then
    none
  else
    if (cmpLit .leq a2 a0) = true then
      none
    else
      if (cmpLit .eql a0 0) = true then
        if (Ne0 a2) then
          if (Ne0 a2) then
            some ((arReal .quo .u64 a1 a2), (arReal .rem .u64 a1 a2))
          else none
        else none
      else
        (d96 a2).bind fun x1 =>
        if (Ge0 (wrapK .u64 x1)) then
          if (Ge0 32) then
            if (Ge0 (wrapK .u64 x1)) then
              if (Ge0 (arReal .sub .u64 64 (wrapK .u64 x1))) then
                if (Ge0 (wrapK .u64 x1)) then
                  if (Ge0 32) then
                    if (Ne0 (arReal .shr .u64 (arReal .shl .u64 a2 (wrapK .u64 x1)) 32)) then
                      Option.bind (α := Int) (
                        (iter (d92_b1 a1 a2 x1) ((arReal .quo .u64 (arReal .or .u64 (arReal .shl .u64 a0 (wrapK .u64 x1)) (arReal .shr .u64 a1 (arReal .sub .u64 64 (wrapK .u64 x1)))) (arReal .shr .u64 (arReal .shl .u64 a2 (wrapK .u64 x1)) 32)), (arReal .sub .u64 (arReal .or .u64 (arReal .shl .u64 a0 (wrapK .u64 x1)) (arReal .shr .u64 a1 (arReal .sub .u64 64 (wrapK .u64 x1)))) (arReal .mul .u64 (arReal .quo .u64 (arReal .or .u64 (arReal .shl .u64 a0 (wrapK .u64 x1)) (arReal .shr .u64 a1 (arReal .sub .u64 64 (wrapK .u64 x1)))) (arReal .shr .u64 (arReal .shl .u64 a2 (wrapK .u64 x1)) 32)) (arReal .shr .u64 (arReal .shl .u64 a2 (wrapK .u64 x1)) 32))))).bind fun y18 =>
                        some y18) fun y10 =>
                      if (Ne0 (arReal .shr .u64 (arReal .shl .u64 a2 (wrapK .u64 x1)) 32)) then
                        Option.bind (α := Int) (
                          (iter (d92_b2 a1 a2 x1) ((arReal .sub .u64 (arReal .sub .u64 (arReal .add .u64 (arReal .mul .u64 (arReal .or .u64 (arReal .shl .u64 a0 (wrapK .u64 x1)) (arReal .shr .u64 a1 (arReal .sub .u64 64 (wrapK .u64 x1)))) 4294967296) (arReal .shr .u64 (arReal .shl .u64 a1 (wrapK .u64 x1)) 32)) (arReal .mul .u64 y10 (arReal .shl .u64 a2 (wrapK .u64 x1)))) (arReal .mul .u64 (arReal .quo .u64 (arReal .sub .u64 (arReal .add .u64 (arReal .mul .u64 (arReal .or .u64 (arReal .shl .u64 a0 (wrapK .u64 x1)) (arReal .shr .u64 a1 (arReal .sub .u64 64 (wrapK .u64 x1)))) 4294967296) (arReal .shr .u64 (arReal .shl .u64 a1 (wrapK .u64 x1)) 32)) (arReal .mul .u64 y10 (arReal .shl .u64 a2 (wrapK .u64 x1)))) (arReal .shr .u64 (arReal .shl .u64 a2 (wrapK .u64 x1)) 32)) (arReal .shr .u64 (arReal .shl .u64 a2 (wrapK .u64 x1)) 32))), (arReal .quo .u64 (arReal .sub .u64 (arReal .add .u64 (arReal .mul .u64 (arReal .or .u64 (arReal .shl .u64 a0 (wrapK .u64 x1)) (arReal .shr .u64 a1 (arReal .sub .u64 64 (wrapK .u64 x1)))) 4294967296) (arReal .shr .u64 (arReal .shl .u64 a1 (wrapK .u64 x1)) 32)) (arReal .mul .u64 y10 (arReal .shl .u64 a2 (wrapK .u64 x1)))) (arReal .shr .u64 (arReal .shl .u64 a2 (wrapK .u64 x1)) 32)))).bind fun y40 =>
                          some y40) fun y32 =>
                        if (Ge0 (wrapK .u64 x1)) then
                          some ((arReal .add .u64 (arReal .mul .u64 y10 4294967296) y32), (arReal .shr .u64 (arReal .sub .u64 (arReal .add .u64 (arReal .mul .u64 (arReal .sub .u64 (arReal .add .u64 (arReal .mul .u64 (arReal .or .u64 (arReal .shl .u64 a0 (wrapK .u64 x1)) (arReal .shr .u64 a1 (arReal .sub .u64 64 (wrapK .u64 x1)))) 4294967296) (arReal .shr .u64 (arReal .shl .u64 a1 (wrapK .u64 x1)) 32)) (arReal .mul .u64 y10 (arReal .shl .u64 a2 (wrapK .u64 x1)))) 4294967296) (arReal .and .u64 (arReal .shl .u64 a1 (wrapK .u64 x1)) 4294967295)) (arReal .mul .u64 y32 (arReal .shl .u64 a2 (wrapK .u64 x1)))) (wrapK .u64 x1)))
                        else none
                      else none
                    else none
                  else none
                else none
              else none
            else none
          else none
        else none
noncomputable def w92_c : Code := (Tryd.f92.body).getD .skip
theorem w92_h : Tryd.f92.body = some w92_c := by kernel_rfl
theorem w92 (a0 : Int) (a1 : Int) (a2 : Int) (r : Int × Int) (h : d92 a0 a1 a2 = some r) : Ab.Fn Tryd.prog TT 92 [.i .u64 a0, .i .u64 a1, .i .u64 a2] (.tup [.i .u64 r.1, .i .u64 r.2]) [] := by
  refine fn_pure tok (fun r => match r with | 6 => [[],[],[0,1],[],[],[3,4],[0,1,2],[0,1,2,3,4,5,6]] | _ => []) Tryd.func92 (by kernel_rfl) w92_h (by kernel_rfl) ?_
  intro ar un cv mn mx pl mi cmp nt beq an scmp cat slen sbyte ssub ofB toB len gi gb gs gl sub put app ovl rep ne0 ge0 inb bnd room sroom need br call callb loop cut nl E R K hK
  have D := E.D
  clear E
  unfold d92 at h
  cbv
  refine R.cut' (by kernel_rfl) (by kernel_rfl) ?_
  cbv
  refine R.brD h (by (first | (simp only [D.har, D.hcmp, D.hcv, D.hge0, D.hne0]; done) | rfl | (simp only [D.har, D.hcmp, D.hcv, D.hge0, D.hne0]; rfl))) ?_ ?_ <;> clear h <;> intro h <;> cbv
  · exact (none_some h).elim
  · as_aux_lemma =>
    refine R.cut' (by kernel_rfl) (by kernel_rfl) ?_
    cbv
    refine R.brD h (by (first | (simp only [D.har, D.hcmp, D.hcv, D.hge0, D.hne0]; done) | rfl | (simp only [D.har, D.hcmp, D.hcv, D.hge0, D.hne0]; rfl))) ?_ ?_ <;> clear h <;> intro h <;> cbv
    · exact (none_some h).elim
    · as_aux_lemma =>
      refine R.cut' (by kernel_rfl) (by kernel_rfl) ?_
      cbv
      refine R.brD h (by (first | (simp only [D.har, D.hcmp, D.hcv, D.hge0, D.hne0]; done) | rfl | (simp only [D.har, D.hcmp, D.hcv, D.hge0, D.hne0]; rfl))) ?_ ?_ <;> clear h <;> intro h <;> cbv
      · refine R.needD h (by (first | (simp only [D.har, D.hcmp, D.hcv, D.hge0, D.hne0]; done) | rfl | (simp only [D.har, D.hcmp, D.hcv, D.hge0, D.hne0]; rfl))) ?_
        clear h; intro h; cbv
        refine R.needD h (by (first | (simp only [D.har, D.hcmp, D.hcv, D.hge0, D.hne0]; done) | rfl | (simp only [D.har, D.hcmp, D.hcv, D.hge0, D.hne0]; rfl))) ?_
        clear h; intro h; cbv
        have e := ret_some h; clear h
        refine hK _ _ ?_
        cbv
        try (subst e; simp only [D.har, D.hcmp, D.hcv, D.hge0, D.hne0, and_self, and_true, true_and] <;> (repeat' apply And.intro) <;> rfl)
      · as_aux_lemma =>
        refine R.callD h (fun x1 hx1 h2 => ?_)
        clear h; have h := h2; clear h2
        refine R.call' (w96 _ _ hx1) (by (first | (simp only [D.har, D.hcmp, D.hcv, D.hge0, D.hne0]; done) | rfl | (simp only [D.har, D.hcmp, D.hcv, D.hge0, D.hne0]; rfl))) ?_
        clear hx1; cbv
        refine R.needD h (by (first | (simp only [D.har, D.hcmp, D.hcv, D.hge0, D.hne0]; done) | rfl | (simp only [D.har, D.hcmp, D.hcv, D.hge0, D.hne0]; rfl))) ?_
        clear h; intro h; cbv
        refine R.needD h (by (first | (simp only [D.har, D.hcmp, D.hcv, D.hge0, D.hne0]; done) | rfl | (simp only [D.har, D.hcmp, D.hcv, D.hge0, D.hne0]; rfl))) ?_
        clear h; intro h; cbv
        refine R.needD h (by (first | (simp only [D.har, D.hcmp, D.hcv, D.hge0, D.hne0]; done) | rfl | (simp only [D.har, D.hcmp, D.hcv, D.hge0, D.hne0]; rfl))) ?_
        clear h; intro h; cbv
        refine R.needD h (by (first | (simp only [D.har, D.hcmp, D.hcv, D.hge0, D.hne0]; done) | rfl | (simp only [D.har, D.hcmp, D.hcv, D.hge0, D.hne0]; rfl))) ?_
        clear h; intro h; cbv
        refine R.needD h (by (first | (simp only [D.har, D.hcmp, D.hcv, D.hge0, D.hne0]; done) | rfl | (simp only [D.har, D.hcmp, D.hcv, D.hge0, D.hne0]; rfl))) ?_
        clear h; intro h; cbv
        refine R.needD h (by (first | (simp only [D.har, D.hcmp, D.hcv, D.hge0, D.hne0]; done) | rfl | (simp only [D.har, D.hcmp, D.hcv, D.hge0, D.hne0]; rfl))) ?_
        clear h; intro h; cbv
        refine R.needD h (by (first | (simp only [D.har, D.hcmp, D.hcv, D.hge0, D.hne0]; done) | rfl | (simp only [D.har, D.hcmp, D.hcv, D.hge0, D.hne0]; rfl))) ?_
        clear h; intro h; cbv
        refine R.cutB (fun p => p) (fun _ _ e => e) h [] (fun p23 => [(15, .i .u64 p23)]) (fun p23 => []) (by kernel_rfl) (by kernel_rfl) (fun y10 hy hFy10 L hLy10 => ?_) (fun p23 h2 => ?_)
        · clear h; have h := hy; clear hy; cbv
          refine R.loopD h (fun s0 y18 e0 hi hFs14 => ?_)
          clear h
          refine R.loopI hi [] (fun s14 => [(15, .i .u64 s14.1), (16, .i .u64 s14.2)]) (fun s14 => []) ⟨by kernel_rfl, ?_, ?_, by kernel_rfl, by kernel_rfl⟩ (by kernel_rfl) ?_
          · cbv; try (subst e0; simp only [D.har, D.hcmp, D.hcv, D.hge0, D.hne0, and_self, and_true, true_and] <;> (repeat' apply And.intro) <;> rfl)
          · cbv; try (subst e0; simp only [D.har, D.hcmp, D.hcv, D.hge0, D.hne0, and_self, and_true, true_and] <;> (repeat' apply And.intro) <;> rfl)
          clear hi e0
          intro s14 m y' hy hins14 houts14 L hLs14
          have h := hy; clear hy; unfold d92_b1 at h
          cbv
          refine R.cutB Sum.inl (fun _ _ e => Sum.inl.inj e) h [] (fun p20 => []) (fun p20 => []) (by kernel_rfl) (by kernel_rfl) (fun y19 hy hFy19 L hLy19 => ?_) (fun p20 h2 => ?_)
          · clear h; have h := hy; clear hy; cbv
            refine R.cut' (by kernel_rfl) (by kernel_rfl) ?_
            cbv
            refine R.brD h (by (first | (simp only [D.har, D.hcmp, D.hcv, D.hge0, D.hne0]; done) | rfl | (simp only [D.har, D.hcmp, D.hcv, D.hge0, D.hne0]; rfl))) ?_ ?_ <;> clear h <;> intro h <;> cbv
            · obtain ⟨s', e, hi⟩ := jn_some Sum.inl h
              refine hLy19 s' _ _ hi ⟨by kernel_rfl, ?_, ?_, by kernel_rfl, by kernel_rfl⟩ <;> cbv <;> (try (subst e; simp only [D.har, D.hcmp, D.hcv, D.hge0, D.hne0, and_self, and_true, true_and] <;> (repeat' apply And.intro) <;> rfl))
            · refine R.brD h (by (first | (simp only [D.har, D.hcmp, D.hcv, D.hge0, D.hne0]; done) | rfl | (simp only [D.har, D.hcmp, D.hcv, D.hge0, D.hne0]; rfl))) ?_ ?_ <;> clear h <;> intro h <;> cbv
              · obtain ⟨s', e, hi⟩ := jn_some Sum.inl h
                refine hLy19 s' _ _ hi ⟨by kernel_rfl, ?_, ?_, by kernel_rfl, by kernel_rfl⟩ <;> cbv <;> (try (subst e; simp only [D.har, D.hcmp, D.hcv, D.hge0, D.hne0, and_self, and_true, true_and] <;> (repeat' apply And.intro) <;> rfl))
              · have e := ret_some h; clear h
                have h := hFy19; rw [e] at h; clear e; try dsimp only at h
                cbv
                have e := inr_some h houts14; clear h
                have h := hFs14; rw [e] at h; clear e; try dsimp only at h
                cbv
                obtain ⟨s', e, hi⟩ := jn_some (fun p => p) h
                refine hLy10 s' _ _ hi ⟨by kernel_rfl, ?_, ?_, by kernel_rfl, by kernel_rfl⟩ <;> cbv <;> (try (subst e; simp only [D.har, D.hcmp, D.hcv, D.hge0, D.hne0, and_self, and_true, true_and] <;> (repeat' apply And.intro) <;> rfl))
          · clear h; have h := h2; clear h2; try dsimp only at h
            cbv
            refine R.brD h (by (first | (simp only [D.har, D.hcmp, D.hcv, D.hge0, D.hne0]; done) | rfl | (simp only [D.har, D.hcmp, D.hcv, D.hge0, D.hne0]; rfl))) ?_ ?_ <;> clear h <;> intro h <;> cbv
            · have e := inr_some h houts14; clear h
              have h := hFs14; rw [e] at h; clear e; try dsimp only at h
              cbv
              obtain ⟨s', e, hi⟩ := jn_some (fun p => p) h
              refine hLy10 s' _ _ hi ⟨by kernel_rfl, ?_, ?_, by kernel_rfl, by kernel_rfl⟩ <;> cbv <;> (try (subst e; simp only [D.har, D.hcmp, D.hcv, D.hge0, D.hne0, and_self, and_true, true_and] <;> (repeat' apply And.intro) <;> rfl))
            · obtain ⟨s', e, hi⟩ := inl_some h hins14
              refine hLs14 s' _ _ hi ⟨by kernel_rfl, ?_, ?_, by kernel_rfl, by kernel_rfl⟩ <;> cbv <;> (try (subst e; simp only [D.har, D.hcmp, D.hcv, D.hge0, D.hne0, and_self, and_true, true_and] <;> (repeat' apply And.intro) <;> rfl))
        · clear h; have h := h2; clear h2; try dsimp only at h
          cbv
          refine R.needD h (by (first | (simp only [D.har, D.hcmp, D.hcv, D.hge0, D.hne0]; done) | rfl | (simp only [D.har, D.hcmp, D.hcv, D.hge0, D.hne0]; rfl))) ?_
          clear h; intro h; cbv
          refine R.cutB (fun p => p) (fun _ _ e => e) h [] (fun p45 => [(18, .i .u64 p45)]) (fun p45 => []) (by kernel_rfl) (by kernel_rfl) (fun y32 hy hFy32 L hLy32 => ?_) (fun p45 h2 => ?_)
          · clear h; have h := hy; clear hy; cbv
            refine R.loopD h (fun s0 y40 e0 hi hFs36 => ?_)
            clear h
            refine R.loopI hi [] (fun s36 => [(16, .i .u64 s36.1), (18, .i .u64 s36.2)]) (fun s36 => []) ⟨by kernel_rfl, ?_, ?_, by kernel_rfl, by kernel_rfl⟩ (by kernel_rfl) ?_
            · cbv; try (subst e0; simp only [D.har, D.hcmp, D.hcv, D.hge0, D.hne0, and_self, and_true, true_and] <;> (repeat' apply And.intro) <;> rfl)
            · cbv; try (subst e0; simp only [D.har, D.hcmp, D.hcv, D.hge0, D.hne0, and_self, and_true, true_and] <;> (repeat' apply And.intro) <;> rfl)
            clear hi e0
            intro s36 m y' hy hins36 houts36 L hLs36
            have h := hy; clear hy; unfold d92_b2 at h
            cbv
            refine R.cutB Sum.inl (fun _ _ e => Sum.inl.inj e) h [] (fun p42 => []) (fun p42 => []) (by kernel_rfl) (by kernel_rfl) (fun y41 hy hFy41 L hLy41 => ?_) (fun p42 h2 => ?_)
            · clear h; have h := hy; clear hy; cbv
              refine R.cut' (by kernel_rfl) (by kernel_rfl) ?_
              cbv
              refine R.brD h (by (first | (simp only [D.har, D.hcmp, D.hcv, D.hge0, D.hne0]; done) | rfl | (simp only [D.har, D.hcmp, D.hcv, D.hge0, D.hne0]; rfl))) ?_ ?_ <;> clear h <;> intro h <;> cbv
              · obtain ⟨s', e, hi⟩ := jn_some Sum.inl h
                refine hLy41 s' _ _ hi ⟨by kernel_rfl, ?_, ?_, by kernel_rfl, by kernel_rfl⟩ <;> cbv <;> (try (subst e; simp only [D.har, D.hcmp, D.hcv, D.hge0, D.hne0, and_self, and_true, true_and] <;> (repeat' apply And.intro) <;> rfl))
              · refine R.brD h (by (first | (simp only [D.har, D.hcmp, D.hcv, D.hge0, D.hne0]; done) | rfl | (simp only [D.har, D.hcmp, D.hcv, D.hge0, D.hne0]; rfl))) ?_ ?_ <;> clear h <;> intro h <;> cbv
                · obtain ⟨s', e, hi⟩ := jn_some Sum.inl h
                  refine hLy41 s' _ _ hi ⟨by kernel_rfl, ?_, ?_, by kernel_rfl, by kernel_rfl⟩ <;> cbv <;> (try (subst e; simp only [D.har, D.hcmp, D.hcv, D.hge0, D.hne0, and_self, and_true, true_and] <;> (repeat' apply And.intro) <;> rfl))
                · have e := ret_some h; clear h
                  have h := hFy41; rw [e] at h; clear e; try dsimp only at h
                  cbv
                  have e := inr_some h houts36; clear h
                  have h := hFs36; rw [e] at h; clear e; try dsimp only at h
                  cbv
                  obtain ⟨s', e, hi⟩ := jn_some (fun p => p) h
                  refine hLy32 s' _ _ hi ⟨by kernel_rfl, ?_, ?_, by kernel_rfl, by kernel_rfl⟩ <;> cbv <;> (try (subst e; simp only [D.har, D.hcmp, D.hcv, D.hge0, D.hne0, and_self, and_true, true_and] <;> (repeat' apply And.intro) <;> rfl))
            · clear h; have h := h2; clear h2; try dsimp only at h
              cbv
              refine R.brD h (by (first | (simp only [D.har, D.hcmp, D.hcv, D.hge0, D.hne0]; done) | rfl | (simp only [D.har, D.hcmp, D.hcv, D.hge0, D.hne0]; rfl))) ?_ ?_ <;> clear h <;> intro h <;> cbv
              · have e := inr_some h houts36; clear h
                have h := hFs36; rw [e] at h; clear e; try dsimp only at h
                cbv
                obtain ⟨s', e, hi⟩ := jn_some (fun p => p) h
                refine hLy32 s' _ _ hi ⟨by kernel_rfl, ?_, ?_, by kernel_rfl, by kernel_rfl⟩ <;> cbv <;> (try (subst e; simp only [D.har, D.hcmp, D.hcv, D.hge0, D.hne0, and_self, and_true, true_and] <;> (repeat' apply And.intro) <;> rfl))
              · obtain ⟨s', e, hi⟩ := inl_some h hins36
                refine hLs36 s' _ _ hi ⟨by kernel_rfl, ?_, ?_, by kernel_rfl, by kernel_rfl⟩ <;> cbv <;> (try (subst e; simp only [D.har, D.hcmp, D.hcv, D.hge0, D.hne0, and_self, and_true, true_and] <;> (repeat' apply And.intro) <;> rfl))
          · clear h; have h := h2; clear h2; try dsimp only at h
            cbv
            refine R.needD h (by (first | (simp only [D.har, D.hcmp, D.hcv, D.hge0, D.hne0]; done) | rfl | (simp only [D.har, D.hcmp, D.hcv, D.hge0, D.hne0]; rfl))) ?_
            clear h; intro h; cbv
            have e := ret_some h; clear h
            refine hK _ _ ?_
            cbv
            try (subst e; simp only [D.har, D.hcmp, D.hcv, D.hge0, D.hne0, and_self, and_true, true_and] <;> (repeat' apply And.intro) <;> rfl)

noncomputable def d65 (a0_0 : Int) (a0_1 : Bool) (a1 : Int) (a2 : Int) : Option (Int × Int) :=
  (d54 a0_0 a0_1).bind fun x3 =>
  if x3 = true then
    (d92 0 (wrapK .u64 a1) (wrapK .u64 a2)).bind fun x4 =>
    some ((wrapK .i64 x4.1), (wrapK .i64 x4.2))
  else
    if (cmpLit .eql a2 (-1)) = true then
      some ((unReal .neg .i64 a1), 0)
    else
      if (Ne0 a2) then
        if (Ne0 a2) then
          some ((arReal .quo .i64 a1 a2), (arReal .rem .i64 a1 a2))
        else none
      else none
noncomputable def w65_c : Code := (Tryd.f65.body).getD .skip
theorem w65_h : Tryd.f65.body = some w65_c := by kernel_rfl
theorem w65 (a0_0 : Int) (a0_1 : Bool) (a1 : Int) (a2 : Int) (r : Int × Int) (h : d65 a0_0 a0_1 a1 a2 = some r) : Ab.Fn Tryd.prog TT 65 [.agg [.i .i64 a0_0, .b a0_1], .i .i64 a1, .i .i64 a2] (.tup [.i .i64 r.1, .i .i64 r.2]) [] := by
  refine fn_pure tok (fun r => match r with | 6 => [[],[],[0,1],[],[],[3,4],[0,1,2],[0,1,2,3,4,5,6]] | _ => []) Tryd.func65 (by kernel_rfl) w65_h (by kernel_rfl) ?_
  intro ar un cv mn mx pl mi cmp nt beq an scmp cat slen sbyte ssub ofB toB len gi gb gs gl sub put app ovl rep ne0 ge0 inb bnd room sroom need br call callb loop cut nl E R K hK
  have D := E.D
  clear E
  unfold d65 at h
  cbv
  refine R.cut' (by kernel_rfl) (by kernel_rfl) ?_
  cbv
  refine R.callD h (fun x3 hx3 h2 => ?_)
  clear h; have h := h2; clear h2
  refine R.call' (w54 _ _ _ hx3) (by (first | (simp only [D.har, D.hcmp, D.hcv, D.hne0, D.hun]; done) | rfl | (simp only [D.har, D.hcmp, D.hcv, D.hne0, D.hun]; rfl))) ?_
  clear hx3; cbv
  refine R.brD h (by (first | (simp only [D.har, D.hcmp, D.hcv, D.hne0, D.hun]; done) | rfl | (simp only [D.har, D.hcmp, D.hcv, D.hne0, D.hun]; rfl))) ?_ ?_ <;> clear h <;> intro h <;> cbv
  · refine R.callD h (fun x4 hx4 h2 => ?_)
    clear h; have h := h2; clear h2
    refine R.call' (w92 _ _ _ _ hx4) (by (first | (simp only [D.har, D.hcmp, D.hcv, D.hne0, D.hun]; done) | rfl | (simp only [D.har, D.hcmp, D.hcv, D.hne0, D.hun]; rfl))) ?_
    clear hx4; cbv
    have e := ret_some h; clear h
    refine hK _ _ ?_
    cbv
    try (subst e; simp only [D.har, D.hcmp, D.hcv, D.hne0, D.hun, and_self, and_true, true_and] <;> (repeat' apply And.intro) <;> rfl)
  · refine R.cut' (by kernel_rfl) (by kernel_rfl) ?_
    cbv
    refine R.brD h (by (first | (simp only [D.har, D.hcmp, D.hcv, D.hne0, D.hun]; done) | rfl | (simp only [D.har, D.hcmp, D.hcv, D.hne0, D.hun]; rfl))) ?_ ?_ <;> clear h <;> intro h <;> cbv
    · have e := ret_some h; clear h
      refine hK _ _ ?_
      cbv
      try (subst e; simp only [D.har, D.hcmp, D.hcv, D.hne0, D.hun, and_self, and_true, true_and] <;> (repeat' apply And.intro) <;> rfl)
    · refine R.needD h (by (first | (simp only [D.har, D.hcmp, D.hcv, D.hne0, D.hun]; done) | rfl | (simp only [D.har, D.hcmp, D.hcv, D.hne0, D.hun]; rfl))) ?_
      clear h; intro h; cbv
      refine R.needD h (by (first | (simp only [D.har, D.hcmp, D.hcv, D.hne0, D.hun]; done) | rfl | (simp only [D.har, D.hcmp, D.hcv, D.hne0, D.hun]; rfl))) ?_
      clear h; intro h; cbv
      have e := ret_some h; clear h
      refine hK _ _ ?_
      cbv
      try (subst e; simp only [D.har, D.hcmp, D.hcv, D.hne0, D.hun, and_self, and_true, true_and] <;> (repeat' apply And.intro) <;> rfl)

noncomputable def d64 (a0_0 : Int) (a0_1 : Bool) (a1 : Int) (a2 : Int) : Option (Int) :=
  (d65 a0_0 a0_1 a1 a2).bind fun x1 =>
  some x1.1
noncomputable def w64_c : Code := (Tryd.f64.body).getD .skip
theorem w64_h : Tryd.f64.body = some w64_c := by kernel_rfl
theorem w64 (a0_0 : Int) (a0_1 : Bool) (a1 : Int) (a2 : Int) (r : Int) (h : d64 a0_0 a0_1 a1 a2 = some r) : Ab.Fn Tryd.prog TT 64 [.agg [.i .i64 a0_0, .b a0_1], .i .i64 a1, .i .i64 a2] (.i .i64 r) [] := by
  refine fn_pure tok W0 Tryd.func64 (by kernel_rfl) w64_h (by kernel_rfl) ?_
  intro ar un cv mn mx pl mi cmp nt beq an scmp cat slen sbyte ssub ofB toB len gi gb gs gl sub put app ovl rep ne0 ge0 inb bnd room sroom need br call callb loop cut nl E R K hK
  have D := E.D
  clear E
  unfold d64 at h
  cbv
  refine R.callD h (fun x1 hx1 h2 => ?_)
  clear h; have h := h2; clear h2
  refine R.call' (w65 _ _ _ _ _ hx1) (by rfl) ?_
  clear hx1; cbv
  have e := ret_some h; clear h
  refine hK _ _ ?_
  cbv
  try (subst e; simp only [and_self, and_true, true_and] <;> (repeat' apply And.intro) <;> rfl)

noncomputable def d66 (a0_0 : Int) (a0_1 : Bool) (a1 : Int) (a2 : Int) : Option (Int) :=
  (d65 a0_0 a0_1 a1 a2).bind fun x1 =>
  some x1.2
noncomputable def w66_c : Code := (Tryd.f66.body).getD .skip
theorem w66_h : Tryd.f66.body = some w66_c := by kernel_rfl
theorem w66 (a0_0 : Int) (a0_1 : Bool) (a1 : Int) (a2 : Int) (r : Int) (h : d66 a0_0 a0_1 a1 a2 = some r) : Ab.Fn Tryd.prog TT 66 [.agg [.i .i64 a0_0, .b a0_1], .i .i64 a1, .i .i64 a2] (.i .i64 r) [] := by
  refine fn_pure tok W0 Tryd.func66 (by kernel_rfl) w66_h (by kernel_rfl) ?_
  intro ar un cv mn mx pl mi cmp nt beq an scmp cat slen sbyte ssub ofB toB len gi gb gs gl sub put app ovl rep ne0 ge0 inb bnd room sroom need br call callb loop cut nl E R K hK
  have D := E.D
  clear E
  unfold d66 at h
  cbv
  refine R.callD h (fun x1 hx1 h2 => ?_)
  clear h; have h := h2; clear h2
  refine R.call' (w65 _ _ _ _ _ hx1) (by rfl) ?_
  clear hx1; cbv
  have e := ret_some h; clear h
  refine hK _ _ ?_
  cbv
  try (subst e; simp only [and_self, and_true, true_and] <;> (repeat' apply And.intro) <;> rfl)

noncomputable def d67 (a0 : Int) : Option (Bool) :=
  some (cmpLit .lss a0 0)
noncomputable def w67_c : Code := (Tryd.f67.body).getD .skip
theorem w67_h : Tryd.f67.body = some w67_c := by kernel_rfl
theorem w67 (a0 : Int) (r : Bool) (h : d67 a0 = some r) : Ab.Fn Tryd.prog TT 67 [.i .i64 a0] (.b r) [] := by
  refine fn_pure tok W0 Tryd.func67 (by kernel_rfl) w67_h (by kernel_rfl) ?_
  intro ar un cv mn mx pl mi cmp nt beq an scmp cat slen sbyte ssub ofB toB len gi gb gs gl sub put app ovl rep ne0 ge0 inb bnd room sroom need br call callb loop cut nl E R K hK
  have D := E.D
  clear E
  unfold d67 at h
  cbv
  have e := ret_some h; clear h
  refine hK _ _ ?_
  cbv
  try (subst e; simp only [D.hcmp, and_self, and_true, true_and] <;> (repeat' apply And.intro) <;> rfl)

noncomputable def d68 (a0 : Int) : Option (Bool) :=
  some (cmpLit .leq a0 0)
noncomputable def w68_c : Code := (Tryd.f68.body).getD .skip
theorem w68_h : Tryd.f68.body = some w68_c := by kernel_rfl
theorem w68 (a0 : Int) (r : Bool) (h : d68 a0 = some r) : Ab.Fn Tryd.prog TT 68 [.i .i64 a0] (.b r) [] := by
  refine fn_pure tok W0 Tryd.func68 (by kernel_rfl) w68_h (by kernel_rfl) ?_
  intro ar un cv mn mx pl mi cmp nt beq an scmp cat slen sbyte ssub ofB toB len gi gb gs gl sub put app ovl rep ne0 ge0 inb bnd room sroom need br call callb loop cut nl E R K hK
  have D := E.D
  clear E
  unfold d68 at h
  cbv
  have e := ret_some h; clear h
  refine hK _ _ ?_
  cbv
  try (subst e; simp only [D.hcmp, and_self, and_true, true_and] <;> (repeat' apply And.intro) <;> rfl)

noncomputable def d69 (a0 : Int) : Option (Bool) :=
  some (cmpLit .gtr a0 0)
noncomputable def w69_c : Code := (Tryd.f69.body).getD .skip
theorem w69_h : Tryd.f69.body = some w69_c := by kernel_rfl
theorem w69 (a0 : Int) (r : Bool) (h : d69 a0 = some r) : Ab.Fn Tryd.prog TT 69 [.i .i64 a0] (.b r) [] := by
  refine fn_pure tok W0 Tryd.func69 (by kernel_rfl) w69_h (by kernel_rfl) ?_
  intro ar un cv mn mx pl mi cmp nt beq an scmp cat slen sbyte ssub ofB toB len gi gb gs gl sub put app ovl rep ne0 ge0 inb bnd room sroom need br call callb loop cut nl E R K hK
  have D := E.D
  clear E
  unfold d69 at h
  cbv
  have e := ret_some h; clear h
  refine hK _ _ ?_
  cbv
  try (subst e; simp only [D.hcmp, and_self, and_true, true_and] <;> (repeat' apply And.intro) <;> rfl)

noncomputable def d70 (a0 : Int) : Option (Bool) :=
  some (cmpLit .geq a0 0)
noncomputable def w70_c : Code := (Tryd.f70.body).getD .skip
theorem w70_h : Tryd.f70.body = some w70_c := by kernel_rfl
theorem w70 (a0 : Int) (r : Bool) (h : d70 a0 = some r) : Ab.Fn Tryd.prog TT 70 [.i .i64 a0] (.b r) [] := by
  refine fn_pure tok W0 Tryd.func70 (by kernel_rfl) w70_h (by kernel_rfl) ?_
  intro ar un cv mn mx pl mi cmp nt beq an scmp cat slen sbyte ssub ofB toB len gi gb gs gl sub put app ovl rep ne0 ge0 inb bnd room sroom need br call callb loop cut nl E R K hK
  have D := E.D
  clear E
  unfold d70 at h
  cbv
  have e := ret_some h; clear h
  refine hK _ _ ?_
  cbv
  try (subst e; simp only [D.hcmp, and_self, and_true, true_and] <;> (repeat' apply And.intro) <;> rfl)

noncomputable def d71 (a0 : Int) : Option (Bool) :=
  some (cmpLit .eql a0 0)
noncomputable def w71_c : Code := (Tryd.f71.body).getD .skip
theorem w71_h : Tryd.f71.body = some w71_c := by kernel_rfl
theorem w71 (a0 : Int) (r : Bool) (h : d71 a0 = some r) : Ab.Fn Tryd.prog TT 71 [.i .i64 a0] (.b r) [] := by
  refine fn_pure tok W0 Tryd.func71 (by kernel_rfl) w71_h (by kernel_rfl) ?_
  intro ar un cv mn mx pl mi cmp nt beq an scmp cat slen sbyte ssub ofB toB len gi gb gs gl sub put app ovl rep ne0 ge0 inb bnd room sroom need br call callb loop cut nl E R K hK
  have D := E.D
  clear E
  unfold d71 at h
  cbv
  have e := ret_some h; clear h
  refine hK _ _ ?_
  cbv
  try (subst e; simp only [D.hcmp, and_self, and_true, true_and] <;> (repeat' apply And.intro) <;> rfl)

noncomputable def d72 (a0 : Int) : Option (Bool) :=
  some (cmpLit .neq a0 0)
noncomputable def w72_c : Code := (Tryd.f72.body).getD .skip
theorem w72_h : Tryd.f72.body = some w72_c := by kernel_rfl
theorem w72 (a0 : Int) (r : Bool) (h : d72 a0 = some r) : Ab.Fn Tryd.prog TT 72 [.i .i64 a0] (.b r) [] := by
  refine fn_pure tok W0 Tryd.func72 (by kernel_rfl) w72_h (by kernel_rfl) ?_
  intro ar un cv mn mx pl mi cmp nt beq an scmp cat slen sbyte ssub ofB toB len gi gb gs gl sub put app ovl rep ne0 ge0 inb bnd room sroom need br call callb loop cut nl E R K hK
  have D := E.D
  clear E
  unfold d72 at h
  cbv
  have e := ret_some h; clear h
  refine hK _ _ ?_
  cbv
  try (subst e; simp only [D.hcmp, and_self, and_true, true_and] <;> (repeat' apply And.intro) <;> rfl)

noncomputable def d93 (a0 : Int) : Option (Bool) :=
  some (cmpLit .neq a0 a0)
noncomputable def w93_c : Code := (Tryd.f93.body).getD .skip
theorem w93_h : Tryd.f93.body = some w93_c := by kernel_rfl
theorem w93 (a0 : Int) (r : Bool) (h : d93 a0 = some r) : Ab.Fn Tryd.prog TT 93 [.i .u64 a0] (.b r) [] := by
  refine fn_pure tok W0 Tryd.func93 (by kernel_rfl) w93_h (by kernel_rfl) ?_
  intro ar un cv mn mx pl mi cmp nt beq an scmp cat slen sbyte ssub ofB toB len gi gb gs gl sub put app ovl rep ne0 ge0 inb bnd room sroom need br call callb loop cut nl E R K hK
  have D := E.D
  clear E
  unfold d93 at h
  cbv
  have e := ret_some h; clear h
  refine hK _ _ ?_
  cbv
  try (subst e; simp only [D.hcmp, and_self, and_true, true_and] <;> (repeat' apply And.intro) <;> rfl)
end Go.Proofs.YtjcabmhnekcbgaaDoor
end
section
namespace Go.Proofs.YtjcabmhnekcbgaaDoor
open Go.Ab Go.RowKit 
set_option maxRecDepth 100000
set_option maxHeartbeats 40000000
noncomputable def d73 (a0 : Int) (a1 : Int) : Option (Int) :=
  (d93 a0).bind fun x1 =>
  (d93 a1).bind fun x2 =>
  if x1 = true then
    if x2 = true then
      some 0
    else
      some (-1)
  else
    if x2 = true then
      some 1
    else
      if (cmpLit .lss a0 a1) = true then
        some (-1)
      else
        if (cmpLit .gtr a0 a1) = true then
          some 1
        else
          some 0
noncomputable def w73_c : Code := (Tryd.f73.body).getD .skip
theorem w73_h : Tryd.f73.body = some w73_c := by kernel_rfl
theorem w73 (a0 : Int) (a1 : Int) (r : Int) (h : d73 a0 a1 = some r) : Ab.Fn Tryd.prog TT 73 [.i .u64 a0, .i .u64 a1] (.i .i64 r) [] := by
  refine fn_pure tok W0 Tryd.func73 (by kernel_rfl) w73_h (by kernel_rfl) ?_
  intro ar un cv mn mx pl mi cmp nt beq an scmp cat slen sbyte ssub ofB toB len gi gb gs gl sub put app ovl rep ne0 ge0 inb bnd room sroom need br call callb loop cut nl E R K hK
  have D := E.D
  clear E
  unfold d73 at h
  cbv
  refine R.callD h (fun x1 hx1 h2 => ?_)
  clear h; have h := h2; clear h2
  refine R.call' (w93 _ _ hx1) (by (first | (simp only [D.hcmp]; done) | rfl | (simp only [D.hcmp]; rfl))) ?_
  clear hx1; cbv
  refine R.callD h (fun x2 hx2 h2 => ?_)
  clear h; have h := h2; clear h2
  refine R.call' (w93 _ _ hx2) (by (first | (simp only [D.hcmp]; done) | rfl | (simp only [D.hcmp]; rfl))) ?_
  clear hx2; cbv
  refine R.cut' (by kernel_rfl) (by kernel_rfl) ?_
  cbv
  refine R.brD h (by (first | (simp only [D.hcmp]; done) | rfl | (simp only [D.hcmp]; rfl))) ?_ ?_ <;> clear h <;> intro h <;> cbv
  · refine R.cut' (by kernel_rfl) (by kernel_rfl) ?_
    cbv
    refine R.brD h (by (first | (simp only [D.hcmp]; done) | rfl | (simp only [D.hcmp]; rfl))) ?_ ?_ <;> clear h <;> intro h <;> cbv
    · have e := ret_some h; clear h
      refine hK _ _ ?_
      cbv
      try (subst e; simp only [D.hcmp, and_self, and_true, true_and] <;> (repeat' apply And.intro) <;> rfl)
    · have e := ret_some h; clear h
      refine hK _ _ ?_
      cbv
      try (subst e; simp only [D.hcmp, and_self, and_true, true_and] <;> (repeat' apply And.intro) <;> rfl)
  · refine R.cut' (by kernel_rfl) (by kernel_rfl) ?_
    cbv
    refine R.brD h (by (first | (simp only [D.hcmp]; done) | rfl | (simp only [D.hcmp]; rfl))) ?_ ?_ <;> clear h <;> intro h <;> cbv
    · have e := ret_some h; clear h
      refine hK _ _ ?_
      cbv
      try (subst e; simp only [D.hcmp, and_self, and_true, true_and] <;> (repeat' apply And.intro) <;> rfl)
    · refine R.cut' (by kernel_rfl) (by kernel_rfl) ?_
      cbv
      refine R.brD h (by (first | (simp only [D.hcmp]; done) | rfl | (simp only [D.hcmp]; rfl))) ?_ ?_ <;> clear h <;> intro h <;> cbv
      · have e := ret_some h; clear h
        refine hK _ _ ?_
        cbv
        try (subst e; simp only [D.hcmp, and_self, and_true, true_and] <;> (repeat' apply And.intro) <;> rfl)
      · refine R.cut' (by kernel_rfl) (by kernel_rfl) ?_
        cbv
        refine R.brD h (by (first | (simp only [D.hcmp]; done) | rfl | (simp only [D.hcmp]; rfl))) ?_ ?_ <;> clear h <;> intro h <;> cbv
        · have e := ret_some h; clear h
          refine hK _ _ ?_
          cbv
          try (subst e; simp only [D.hcmp, and_self, and_true, true_and] <;> (repeat' apply And.intro) <;> rfl)
        · have e := ret_some h; clear h
          refine hK _ _ ?_
          cbv
          try (subst e; simp only [D.hcmp, and_self, and_true, true_and] <;> (repeat' apply And.intro) <;> rfl)

noncomputable def d94 (a0 : Int) : Option (Bool) :=
  some (cmpLit .neq a0 a0)
noncomputable def w94_c : Code := (Tryd.f94.body).getD .skip
theorem w94_h : Tryd.f94.body = some w94_c := by kernel_rfl
theorem w94 (a0 : Int) (r : Bool) (h : d94 a0 = some r) : Ab.Fn Tryd.prog TT 94 [.i .i64 a0] (.b r) [] := by
  refine fn_pure tok W0 Tryd.func94 (by kernel_rfl) w94_h (by kernel_rfl) ?_
  intro ar un cv mn mx pl mi cmp nt beq an scmp cat slen sbyte ssub ofB toB len gi gb gs gl sub put app ovl rep ne0 ge0 inb bnd room sroom need br call callb loop cut nl E R K hK
  have D := E.D
  clear E
  unfold d94 at h
  cbv
  have e := ret_some h; clear h
  refine hK _ _ ?_
  cbv
  try (subst e; simp only [D.hcmp, and_self, and_true, true_and] <;> (repeat' apply And.intro) <;> rfl)

noncomputable def d74 (a0 : Int) (a1 : Int) : Option (Int) :=
  (d94 a0).bind fun x1 =>
  (d94 a1).bind fun x2 =>
  if x1 = true then
    if x2 = true then
      some 0
    else
      some (-1)
  else
    if x2 = true then
      some 1
    else
      if (cmpLit .lss a0 a1) = true then
        some (-1)
      else
        if (cmpLit .gtr a0 a1) = true then
          some 1
        else
          some 0
noncomputable def w74_c : Code := (Tryd.f74.body).getD .skip
theorem w74_h : Tryd.f74.body = some w74_c := by kernel_rfl
theorem w74 (a0 : Int) (a1 : Int) (r : Int) (h : d74 a0 a1 = some r) : Ab.Fn Tryd.prog TT 74 [.i .i64 a0, .i .i64 a1] (.i .i64 r) [] := by
  refine fn_pure tok W0 Tryd.func74 (by kernel_rfl) w74_h (by kernel_rfl) ?_
  intro ar un cv mn mx pl mi cmp nt beq an scmp cat slen sbyte ssub ofB toB len gi gb gs gl sub put app ovl rep ne0 ge0 inb bnd room sroom need br call callb loop cut nl E R K hK
  have D := E.D
  clear E
  unfold d74 at h
  cbv
  refine R.callD h (fun x1 hx1 h2 => ?_)
  clear h; have h := h2; clear h2
  refine R.call' (w94 _ _ hx1) (by (first | (simp only [D.hcmp]; done) | rfl | (simp only [D.hcmp]; rfl))) ?_
  clear hx1; cbv
  refine R.callD h (fun x2 hx2 h2 => ?_)
  clear h; have h := h2; clear h2
  refine R.call' (w94 _ _ hx2) (by (first | (simp only [D.hcmp]; done) | rfl | (simp only [D.hcmp]; rfl))) ?_
  clear hx2; cbv
  refine R.cut' (by kernel_rfl) (by kernel_rfl) ?_
  cbv
  refine R.brD h (by (first | (simp only [D.hcmp]; done) | rfl | (simp only [D.hcmp]; rfl))) ?_ ?_ <;> clear h <;> intro h <;> cbv
  · refine R.cut' (by kernel_rfl) (by kernel_rfl) ?_
    cbv
    refine R.brD h (by (first | (simp only [D.hcmp]; done) | rfl | (simp only [D.hcmp]; rfl))) ?_ ?_ <;> clear h <;> intro h <;> cbv
    · have e := ret_some h; clear h
      refine hK _ _ ?_
      cbv
      try (subst e; simp only [D.hcmp, and_self, and_true, true_and] <;> (repeat' apply And.intro) <;> rfl)
    · have e := ret_some h; clear h
      refine hK _ _ ?_
      cbv
      try (subst e; simp only [D.hcmp, and_self, and_true, true_and] <;> (repeat' apply And.intro) <;> rfl)
  · refine R.cut' (by kernel_rfl) (by kernel_rfl) ?_
    cbv
    refine R.brD h (by (first | (simp only [D.hcmp]; done) | rfl | (simp only [D.hcmp]; rfl))) ?_ ?_ <;> clear h <;> intro h <;> cbv
    · have e := ret_some h; clear h
      refine hK _ _ ?_
      cbv
      try (subst e; simp only [D.hcmp, and_self, and_true, true_and] <;> (repeat' apply And.intro) <;> rfl)
    · refine R.cut' (by kernel_rfl) (by kernel_rfl) ?_
      cbv
      refine R.brD h (by (first | (simp only [D.hcmp]; done) | rfl | (simp only [D.hcmp]; rfl))) ?_ ?_ <;> clear h <;> intro h <;> cbv
      · have e := ret_some h; clear h
        refine hK _ _ ?_
        cbv
        try (subst e; simp only [D.hcmp, and_self, and_true, true_and] <;> (repeat' apply And.intro) <;> rfl)
      · refine R.cut' (by kernel_rfl) (by kernel_rfl) ?_
        cbv
        refine R.brD h (by (first | (simp only [D.hcmp]; done) | rfl | (simp only [D.hcmp]; rfl))) ?_ ?_ <;> clear h <;> intro h <;> cbv
        · have e := ret_some h; clear h
          refine hK _ _ ?_
          cbv
          try (subst e; simp only [D.hcmp, and_self, and_true, true_and] <;> (repeat' apply And.intro) <;> rfl)
        · have e := ret_some h; clear h
          refine hK _ _ ?_
          cbv
          try (subst e; simp only [D.hcmp, and_self, and_true, true_and] <;> (repeat' apply And.intro) <;> rfl)

noncomputable def d39 (a0_0 : Int) (a0_1 : Bool) (a1 : Int) (a2 : Int) : Option (Int) :=
  (d54 a0_0 a0_1).bind fun x3 =>
  if x3 = true then
    (d73 (wrapK .u64 a1) (wrapK .u64 a2)).bind fun x4 =>
    some x4
  else
    (d74 a1 a2).bind fun x5 =>
    some x5
noncomputable def w39_c : Code := (Tryd.f39.body).getD .skip
theorem w39_h : Tryd.f39.body = some w39_c := by kernel_rfl
theorem w39 (a0_0 : Int) (a0_1 : Bool) (a1 : Int) (a2 : Int) (r : Int) (h : d39 a0_0 a0_1 a1 a2 = some r) : Ab.Fn Tryd.prog TT 39 [.agg [.i .i64 a0_0, .b a0_1], .i .i64 a1, .i .i64 a2] (.i .i64 r) [] := by
  refine fn_pure tok W0 Tryd.func39 (by kernel_rfl) w39_h (by kernel_rfl) ?_
  intro ar un cv mn mx pl mi cmp nt beq an scmp cat slen sbyte ssub ofB toB len gi gb gs gl sub put app ovl rep ne0 ge0 inb bnd room sroom need br call callb loop cut nl E R K hK
  have D := E.D
  clear E
  unfold d39 at h
  cbv
  refine R.cut' (by kernel_rfl) (by kernel_rfl) ?_
  cbv
  refine R.callD h (fun x3 hx3 h2 => ?_)
  clear h; have h := h2; clear h2
  refine R.call' (w54 _ _ _ hx3) (by (first | (simp only [D.hcv]; done) | rfl | (simp only [D.hcv]; rfl))) ?_
  clear hx3; cbv
  refine R.brD h (by (first | (simp only [D.hcv]; done) | rfl | (simp only [D.hcv]; rfl))) ?_ ?_ <;> clear h <;> intro h <;> cbv
  · refine R.callD h (fun x4 hx4 h2 => ?_)
    clear h; have h := h2; clear h2
    refine R.call' (w73 _ _ _ hx4) (by (first | (simp only [D.hcv]; done) | rfl | (simp only [D.hcv]; rfl))) ?_
    clear hx4; cbv
    have e := ret_some h; clear h
    refine hK _ _ ?_
    cbv
    try (subst e; simp only [D.hcv, and_self, and_true, true_and] <;> (repeat' apply And.intro) <;> rfl)
  · refine R.callD h (fun x5 hx5 h2 => ?_)
    clear h; have h := h2; clear h2
    refine R.call' (w74 _ _ _ hx5) (by (first | (simp only [D.hcv]; done) | rfl | (simp only [D.hcv]; rfl))) ?_
    clear hx5; cbv
    have e := ret_some h; clear h
    refine hK _ _ ?_
    cbv
    try (subst e; simp only [D.hcv, and_self, and_true, true_and] <;> (repeat' apply And.intro) <;> rfl)

noncomputable def d38 (a0 : Bool) : Option (Int) :=
  if a0 = true then
    some 1
  else
    some 0
noncomputable def w38_c : Code := (Tryd.f38.body).getD .skip
theorem w38_h : Tryd.f38.body = some w38_c := by kernel_rfl
theorem w38 (a0 : Bool) (r : Int) (h : d38 a0 = some r) : Ab.Fn Tryd.prog TT 38 [.b a0] (.i .i64 r) [] := by
  refine fn_pure tok W0 Tryd.func38 (by kernel_rfl) w38_h (by kernel_rfl) ?_
  intro ar un cv mn mx pl mi cmp nt beq an scmp cat slen sbyte ssub ofB toB len gi gb gs gl sub put app ovl rep ne0 ge0 inb bnd room sroom need br call callb loop cut nl E R K hK
  have D := E.D
  clear E
  unfold d38 at h
  cbv
  refine R.cut' (by kernel_rfl) (by kernel_rfl) ?_
  cbv
  refine R.brD h (by rfl) ?_ ?_ <;> clear h <;> intro h <;> cbv
  · have e := ret_some h; clear h
    refine hK _ _ ?_
    cbv
    try (subst e; simp only [and_self, and_true, true_and] <;> (repeat' apply And.intro) <;> rfl)
  · have e := ret_some h; clear h
    refine hK _ _ ?_
    cbv
    try (subst e; simp only [and_self, and_true, true_and] <;> (repeat' apply And.intro) <;> rfl)

noncomputable def d41 (a0_0 : Int) (a0_1 : Bool) : Option (Int) :=
  some (arReal .mul .i64 8 a0_0)
noncomputable def w41_c : Code := (Tryd.f41.body).getD .skip
theorem w41_h : Tryd.f41.body = some w41_c := by kernel_rfl
theorem w41 (a0_0 : Int) (a0_1 : Bool) (r : Int) (h : d41 a0_0 a0_1 = some r) : Ab.Fn Tryd.prog TT 41 [.agg [.i .i64 a0_0, .b a0_1]] (.i .i64 r) [] := by
  refine fn_pure tok W0 Tryd.func41 (by kernel_rfl) w41_h (by kernel_rfl) ?_
  intro ar un cv mn mx pl mi cmp nt beq an scmp cat slen sbyte ssub ofB toB len gi gb gs gl sub put app ovl rep ne0 ge0 inb bnd room sroom need br call callb loop cut nl E R K hK
  have D := E.D
  clear E
  unfold d41 at h
  cbv
  have e := ret_some h; clear h
  refine hK _ _ ?_
  cbv
  try (subst e; simp only [D.har, and_self, and_true, true_and] <;> (repeat' apply And.intro) <;> rfl)

noncomputable def d40 (a0 : Int) (a1_0 : Int) (a1_1 : Bool) (a2 : Int) (a3 : Int) : Option (Int) :=
  if (cmpLit .eql a0 9) = true then
    if (Ge0 a3) then
      (d33 a1_0 a1_1 (arReal .shl .i64 a2 a3)).bind fun x3 =>
      some x3
    else none
  else
    (d54 a1_0 a1_1).bind fun x4 =>
    if x4 = true then
      if (Ge0 a3) then
        some (wrapK .i64 (arReal .shr .u64 (wrapK .u64 a2) a3))
      else none
    else
      if (Ge0 a3) then
        some (arReal .shr .i64 a2 a3)
      else none
noncomputable def w40_c : Code := (Tryd.f40.body).getD .skip
theorem w40_h : Tryd.f40.body = some w40_c := by kernel_rfl
theorem w40 (a0 : Int) (a1_0 : Int) (a1_1 : Bool) (a2 : Int) (a3 : Int) (r : Int) (h : d40 a0 a1_0 a1_1 a2 a3 = some r) : Ab.Fn Tryd.prog TT 40 [.i .i64 a0, .agg [.i .i64 a1_0, .b a1_1], .i .i64 a2, .i .u64 a3] (.i .i64 r) [] := by
  refine fn_pure tok W0 Tryd.func40 (by kernel_rfl) w40_h (by kernel_rfl) ?_
  intro ar un cv mn mx pl mi cmp nt beq an scmp cat slen sbyte ssub ofB toB len gi gb gs gl sub put app ovl rep ne0 ge0 inb bnd room sroom need br call callb loop cut nl E R K hK
  have D := E.D
  clear E
  unfold d40 at h
  cbv
  refine R.cut' (by kernel_rfl) (by kernel_rfl) ?_
  cbv
  refine R.brD h (by (first | (simp only [D.har, D.hcmp, D.hcv, D.hge0]; done) | rfl | (simp only [D.har, D.hcmp, D.hcv, D.hge0]; rfl))) ?_ ?_ <;> clear h <;> intro h <;> cbv
  · refine R.needD h (by (first | (simp only [D.har, D.hcmp, D.hcv, D.hge0]; done) | rfl | (simp only [D.har, D.hcmp, D.hcv, D.hge0]; rfl))) ?_
    clear h; intro h; cbv
    refine R.callD h (fun x3 hx3 h2 => ?_)
    clear h; have h := h2; clear h2
    refine R.call' (w33 _ _ _ _ hx3) (by (first | (simp only [D.har, D.hcmp, D.hcv, D.hge0]; done) | rfl | (simp only [D.har, D.hcmp, D.hcv, D.hge0]; rfl))) ?_
    clear hx3; cbv
    have e := ret_some h; clear h
    refine hK _ _ ?_
    cbv
    try (subst e; simp only [D.har, D.hcmp, D.hcv, D.hge0, and_self, and_true, true_and] <;> (repeat' apply And.intro) <;> rfl)
  · refine R.callD h (fun x4 hx4 h2 => ?_)
    clear h; have h := h2; clear h2
    refine R.call' (w54 _ _ _ hx4) (by (first | (simp only [D.har, D.hcmp, D.hcv, D.hge0]; done) | rfl | (simp only [D.har, D.hcmp, D.hcv, D.hge0]; rfl))) ?_
    clear hx4; cbv
    refine R.brD h (by (first | (simp only [D.har, D.hcmp, D.hcv, D.hge0]; done) | rfl | (simp only [D.har, D.hcmp, D.hcv, D.hge0]; rfl))) ?_ ?_ <;> clear h <;> intro h <;> cbv
    · refine R.needD h (by (first | (simp only [D.har, D.hcmp, D.hcv, D.hge0]; done) | rfl | (simp only [D.har, D.hcmp, D.hcv, D.hge0]; rfl))) ?_
      clear h; intro h; cbv
      have e := ret_some h; clear h
      refine hK _ _ ?_
      cbv
      try (subst e; simp only [D.har, D.hcmp, D.hcv, D.hge0, and_self, and_true, true_and] <;> (repeat' apply And.intro) <;> rfl)
    · refine R.needD h (by (first | (simp only [D.har, D.hcmp, D.hcv, D.hge0]; done) | rfl | (simp only [D.har, D.hcmp, D.hcv, D.hge0]; rfl))) ?_
      clear h; intro h; cbv
      have e := ret_some h; clear h
      refine hK _ _ ?_
      cbv
      try (subst e; simp only [D.har, D.hcmp, D.hcv, D.hge0, and_self, and_true, true_and] <;> (repeat' apply And.intro) <;> rfl)
end Go.Proofs.YtjcabmhnekcbgaaDoor
end
section
namespace Go.Proofs.YtjcabmhnekcbgaaDoor
open Go.Ab Go.RowKit 
set_option maxRecDepth 100000
set_option maxHeartbeats 40000000
noncomputable def d9 (a0 : Int) (a1_0 : Int) (a1_1 : Bool) (a2 : Int) (a3_0 : Int) (a3_1 : Bool) (a4 : Int) : Option (Int × Bool × Int × Int) :=
  (d32 a1_0 a1_1 a3_0 a3_1).bind fun x2 =>
  if (cmpLit .neq x2 0) = true then
    some (0, false, 0, x2)
  else
    (d33 a1_0 a1_1 a2).bind fun x3 =>
    (d33 a3_0 a3_1 a4).bind fun x4 =>
    (d34 a1_0 a1_1 a3_0 a3_1).bind fun x5 =>
    (d35).bind fun x71 =>
    if (cmpLit .eql a0 1) = true then
      (d33 x5.1 x5.2 x3).bind fun x72 =>
      (d33 x5.1 x5.2 x4).bind fun x73 =>
      Option.bind (α := Bool) (
        if (cmpLit .eql x73 0) = true then
          if (cmpLit .eql a0 4) = true then
            some true
          else
            some (cmpLit .eql a0 5)
        else
          some false) fun y76 =>
      if y76 = true then
        some (0, false, 0, 12)
      else
        (d58 x5.1 x5.2 x72 x73).bind fun x78 =>
        (d33 x5.1 x5.2 x78).bind fun x79 =>
        some (x5.1, x5.2, x79, 0)
    else
      if (cmpLit .eql a0 2) = true then
        (d33 x5.1 x5.2 x3).bind fun x80 =>
        (d33 x5.1 x5.2 x4).bind fun x81 =>
        Option.bind (α := Bool) (
          if (cmpLit .eql x81 0) = true then
            if (cmpLit .eql a0 4) = true then
              some true
            else
              some (cmpLit .eql a0 5)
          else
            some false) fun y84 =>
        if y84 = true then
          some (0, false, 0, 12)
        else
          (d59 x5.1 x5.2 x80 x81).bind fun x86 =>
          (d33 x5.1 x5.2 x86).bind fun x87 =>
          some (x5.1, x5.2, x87, 0)
      else
        if (cmpLit .eql a0 3) = true then
          (d33 x5.1 x5.2 x3).bind fun x88 =>
          (d33 x5.1 x5.2 x4).bind fun x89 =>
          Option.bind (α := Bool) (
            if (cmpLit .eql x89 0) = true then
              if (cmpLit .eql a0 4) = true then
                some true
              else
                some (cmpLit .eql a0 5)
            else
              some false) fun y92 =>
          if y92 = true then
            some (0, false, 0, 12)
          else
            (d60 x5.1 x5.2 x88 x89).bind fun x94 =>
            (d33 x5.1 x5.2 x94).bind fun x95 =>
            some (x5.1, x5.2, x95, 0)
        else
          if (cmpLit .eql a0 6) = true then
            (d33 x5.1 x5.2 x3).bind fun x96 =>
            (d33 x5.1 x5.2 x4).bind fun x97 =>
            Option.bind (α := Bool) (
              if (cmpLit .eql x97 0) = true then
                if (cmpLit .eql a0 4) = true then
                  some true
                else
                  some (cmpLit .eql a0 5)
              else
                some false) fun y100 =>
            if y100 = true then
              some (0, false, 0, 12)
            else
              (d61 x5.1 x5.2 x96 x97).bind fun x102 =>
              (d33 x5.1 x5.2 x102).bind fun x103 =>
              some (x5.1, x5.2, x103, 0)
          else
            if (cmpLit .eql a0 7) = true then
              (d33 x5.1 x5.2 x3).bind fun x104 =>
              (d33 x5.1 x5.2 x4).bind fun x105 =>
              Option.bind (α := Bool) (
                if (cmpLit .eql x105 0) = true then
                  if (cmpLit .eql a0 4) = true then
                    some true
                  else
                    some (cmpLit .eql a0 5)
                else
                  some false) fun y108 =>
              if y108 = true then
                some (0, false, 0, 12)
              else
                (d62 x5.1 x5.2 x104 x105).bind fun x110 =>
                (d33 x5.1 x5.2 x110).bind fun x111 =>
                some (x5.1, x5.2, x111, 0)
            else
              if (cmpLit .eql a0 8) = true then
                (d33 x5.1 x5.2 x3).bind fun x112 =>
                (d33 x5.1 x5.2 x4).bind fun x113 =>
                Option.bind (α := Bool) (
                  if (cmpLit .eql x113 0) = true then
                    if (cmpLit .eql a0 4) = true then
                      some true
                    else
                      some (cmpLit .eql a0 5)
                  else
                    some false) fun y116 =>
                if y116 = true then
                  some (0, false, 0, 12)
                else
                  (d63 x5.1 x5.2 x112 x113).bind fun x118 =>
                  (d33 x5.1 x5.2 x118).bind fun x119 =>
                  some (x5.1, x5.2, x119, 0)
              else
                if (cmpLit .eql a0 4) = true then
                  (d33 x5.1 x5.2 x3).bind fun x120 =>
                  (d33 x5.1 x5.2 x4).bind fun x121 =>
                  Option.bind (α := Bool) (
                    if (cmpLit .eql x121 0) = true then
                      if (cmpLit .eql a0 4) = true then
                        some true
                      else
                        some (cmpLit .eql a0 5)
                    else
                      some false) fun y124 =>
                  if y124 = true then
                    some (0, false, 0, 12)
                  else
                    (d64 x5.1 x5.2 x120 x121).bind fun x126 =>
                    (d33 x5.1 x5.2 x126).bind fun x127 =>
                    some (x5.1, x5.2, x127, 0)
                else
                  if (cmpLit .eql a0 5) = true then
                    (d33 x5.1 x5.2 x3).bind fun x128 =>
                    (d33 x5.1 x5.2 x4).bind fun x129 =>
                    Option.bind (α := Bool) (
                      if (cmpLit .eql x129 0) = true then
                        if (cmpLit .eql a0 4) = true then
                          some true
                        else
                          some (cmpLit .eql a0 5)
                      else
                        some false) fun y132 =>
                    if y132 = true then
                      some (0, false, 0, 12)
                    else
                      (d66 x5.1 x5.2 x128 x129).bind fun x134 =>
                      (d33 x5.1 x5.2 x134).bind fun x135 =>
                      some (x5.1, x5.2, x135, 0)
                  else
                    (d36).bind fun x173 =>
                    if (cmpLit .eql a0 11) = true then
                      (d37).bind fun x174 =>
                      (d33 x5.1 x5.2 x3).bind fun x175 =>
                      (d33 x5.1 x5.2 x4).bind fun x176 =>
                      (d39 x5.1 x5.2 x175 x176).bind fun x177 =>
                      (d67 x177).bind fun x178 =>
                      (d38 x178).bind fun x179 =>
                      some (x174.1, x174.2, x179, 0)
                    else
                      if (cmpLit .eql a0 12) = true then
                        (d37).bind fun x180 =>
                        (d33 x5.1 x5.2 x3).bind fun x181 =>
                        (d33 x5.1 x5.2 x4).bind fun x182 =>
                        (d39 x5.1 x5.2 x181 x182).bind fun x183 =>
                        (d68 x183).bind fun x184 =>
                        (d38 x184).bind fun x185 =>
                        some (x180.1, x180.2, x185, 0)
                      else
                        if (cmpLit .eql a0 13) = true then
                          (d37).bind fun x186 =>
                          (d33 x5.1 x5.2 x3).bind fun x187 =>
                          (d33 x5.1 x5.2 x4).bind fun x188 =>
                          (d39 x5.1 x5.2 x187 x188).bind fun x189 =>
                          (d69 x189).bind fun x190 =>
                          (d38 x190).bind fun x191 =>
                          some (x186.1, x186.2, x191, 0)
                        else
                          if (cmpLit .eql a0 14) = true then
                            (d37).bind fun x192 =>
                            (d33 x5.1 x5.2 x3).bind fun x193 =>
                            (d33 x5.1 x5.2 x4).bind fun x194 =>
                            (d39 x5.1 x5.2 x193 x194).bind fun x195 =>
                            (d70 x195).bind fun x196 =>
                            (d38 x196).bind fun x197 =>
                            some (x192.1, x192.2, x197, 0)
                          else
                            if (cmpLit .eql a0 15) = true then
                              (d37).bind fun x198 =>
                              (d33 x5.1 x5.2 x3).bind fun x199 =>
                              (d33 x5.1 x5.2 x4).bind fun x200 =>
                              (d39 x5.1 x5.2 x199 x200).bind fun x201 =>
                              (d71 x201).bind fun x202 =>
                              (d38 x202).bind fun x203 =>
                              some (x198.1, x198.2, x203, 0)
                            else
                              if (cmpLit .eql a0 16) = true then
                                (d37).bind fun x204 =>
                                (d33 x5.1 x5.2 x3).bind fun x205 =>
                                (d33 x5.1 x5.2 x4).bind fun x206 =>
                                (d39 x5.1 x5.2 x205 x206).bind fun x207 =>
                                (d72 x207).bind fun x208 =>
                                (d38 x208).bind fun x209 =>
                                some (x204.1, x204.2, x209, 0)
                              else
                                Option.bind (α := (Unit) ⊕ (Int × Bool × Int × Int)) (
                                  if (cmpLit .neq a0 9) = true then
                                    if (cmpLit .neq a0 10) = true then
                                      some (.inr (0, false, 0, 11))
                                    else
                                      some (.inl ())
                                  else
                                    some (.inl ())) fun y210 =>
                                match y210 with
                                | .inl p211 =>
                                  (d31 a1_0 a1_1).bind fun x212 =>
                                  (d41 x212.1 x212.2).bind fun x213 =>
                                  if (Ne0 (wrapK .u64 x213)) then
                                    (d40 a0 x212.1 x212.2 x3 (arReal .rem .u64 (wrapK .u64 x4) (wrapK .u64 x213))).bind fun x214 =>
                                    some (x212.1, x212.2, x214, 0)
                                  else none
                                | .inr y210r0 =>
                                  some y210r0
noncomputable def w9_c : Code := (Tryd.f9.body).getD .skip
theorem w9_h : Tryd.f9.body = some w9_c := by kernel_rfl
theorem w9 (a0 : Int) (a1_0 : Int) (a1_1 : Bool) (a2 : Int) (a3_0 : Int) (a3_1 : Bool) (a4 : Int) (r : Int × Bool × Int × Int) (h : d9 a0 a1_0 a1_1 a2 a3_0 a3_1 a4 = some r) : Ab.Fn Tryd.prog TT 9 [.i .i64 a0, .agg [.i .i64 a1_0, .b a1_1], .i .i64 a2, .agg [.i .i64 a3_0, .b a3_1], .i .i64 a4] (.tup [.agg [.i .i64 r.1, .b r.2.1], .i .i64 r.2.2.1, .i .i64 r.2.2.2]) [] := by
  refine fn_pure tok (fun r => match r with | 4 => [[],[],[0,1],[],[],[0,1,2,3,4],[0,1,2,3,4,5],[0,1,2,3,4,5,6]] | 8 => [[],[],[0,1],[],[],[0,1,2,3,4],[0,1,2,3,4,5],[0,1,2,3,4,5,6]] | 11 => [[],[],[],[],[],[],[2,3,4,5],[1,2,3,4,5,6],[0,1,2,3,4,5,6,7],[0,1,2,3,4,5,6,7,8],[0,1,2,3,4,5,6,7,8,9]] | 14 => [[],[],[],[],[],[0,3,4],[],[],[0,3,4,5,6,7],[0,2,3,4,5,6,7,8],[0,1,2,3,4,5,6,7,8,9],[0,1,2,3,4,5,6,7,8,9,10],[0,1,2,3,4,5,6,7,8,9,10,11],[0,1,2,3,4,5,6,7,8,9,10,11,12],[0,1,2,3,4,5,6,7,8,9,10,11,12,13]] | 18 => [[],[],[],[],[],[4],[],[6],[6,7],[4,5,6,7,8],[1,2,3,4,5,6,7,8,9],[0,1,2,3,4,5,6,7,8,9,10],[0,1,2,3,4,5,6,7,8,9,10,11],[0,1,2,3,4,5,6,7,8,9,10,11,12]] | _ => []) Tryd.func9 (by kernel_rfl) w9_h (by kernel_rfl) ?_
  intro ar un cv mn mx pl mi cmp nt beq an scmp cat slen sbyte ssub ofB toB len gi gb gs gl sub put app ovl rep ne0 ge0 inb bnd room sroom need br call callb loop cut nl E R K hK
  have D := E.D
  clear E
  unfold d9 at h
  cbv
  refine R.cut' (by kernel_rfl) (by kernel_rfl) ?_
  cbv
  refine R.callD h (fun x2 hx2 h2 => ?_)
  clear h; have h := h2; clear h2
  refine R.call' (w32 _ _ _ _ _ hx2) (by (first | (simp only [D.har, D.hcmp, D.hcv, D.hne0]; done) | rfl | (simp only [D.har, D.hcmp, D.hcv, D.hne0]; rfl))) ?_
  clear hx2; cbv
  refine R.brD h (by (first | (simp only [D.har, D.hcmp, D.hcv, D.hne0]; done) | rfl | (simp only [D.har, D.hcmp, D.hcv, D.hne0]; rfl))) ?_ ?_ <;> clear h <;> intro h <;> cbv
  · have e := ret_some h; clear h
    refine hK _ _ ?_
    cbv
    try (subst e; simp only [D.har, D.hcmp, D.hcv, D.hne0, and_self, and_true, true_and] <;> (repeat' apply And.intro) <;> rfl)
  · as_aux_lemma =>
    refine R.callD h (fun x3 hx3 h2 => ?_)
    clear h; have h := h2; clear h2
    refine R.call' (w33 _ _ _ _ hx3) (by (first | (simp only [D.har, D.hcmp, D.hcv, D.hne0]; done) | rfl | (simp only [D.har, D.hcmp, D.hcv, D.hne0]; rfl))) ?_
    clear hx3; cbv
    refine R.callD h (fun x4 hx4 h2 => ?_)
    clear h; have h := h2; clear h2
    refine R.call' (w33 _ _ _ _ hx4) (by (first | (simp only [D.har, D.hcmp, D.hcv, D.hne0]; done) | rfl | (simp only [D.har, D.hcmp, D.hcv, D.hne0]; rfl))) ?_
    clear hx4; cbv
    refine R.callD h (fun x5 hx5 h2 => ?_)
    clear h; have h := h2; clear h2
    refine R.call' (w34 _ _ _ _ _ hx5) (by (first | (simp only [D.har, D.hcmp, D.hcv, D.hne0]; done) | rfl | (simp only [D.har, D.hcmp, D.hcv, D.hne0]; rfl))) ?_
    clear hx5; cbv
    refine R.cut' (by kernel_rfl) (by kernel_rfl) ?_
    cbv
    refine R.callD h (fun x71 hx71 h2 => ?_)
    clear h; have h := h2; clear h2
    refine R.call' (w35 _ hx71) (by (first | (simp only [D.har, D.hcmp, D.hcv, D.hne0]; done) | rfl | (simp only [D.har, D.hcmp, D.hcv, D.hne0]; rfl))) ?_
    clear hx71; cbv
    refine R.brD h (by (first | (simp only [D.har, D.hcmp, D.hcv, D.hne0]; done) | rfl | (simp only [D.har, D.hcmp, D.hcv, D.hne0]; rfl))) ?_ ?_ <;> clear h <;> intro h <;> cbv
    · refine R.callD h (fun x72 hx72 h2 => ?_)
      clear h; have h := h2; clear h2
      refine R.call' (w33 _ _ _ _ hx72) (by (first | (simp only [D.har, D.hcmp, D.hcv, D.hne0]; done) | rfl | (simp only [D.har, D.hcmp, D.hcv, D.hne0]; rfl))) ?_
      clear hx72; cbv
      refine R.callD h (fun x73 hx73 h2 => ?_)
      clear h; have h := h2; clear h2
      refine R.call' (w33 _ _ _ _ hx73) (by (first | (simp only [D.har, D.hcmp, D.hcv, D.hne0]; done) | rfl | (simp only [D.har, D.hcmp, D.hcv, D.hne0]; rfl))) ?_
      clear hx73; cbv
      refine R.cut' (by kernel_rfl) (by kernel_rfl) ?_
      cbv
      refine R.cutB (fun p => p) (fun _ _ e => e) h [] (fun p77 => [(57, .b p77)]) (fun p77 => []) (by kernel_rfl) (by kernel_rfl) (fun y76 hy hFy76 L hLy76 => ?_) (fun p77 h2 => ?_)
      · clear h; have h := hy; clear hy; cbv
        refine R.brD h (by (first | (simp only [D.har, D.hcmp, D.hcv, D.hne0]; done) | rfl | (simp only [D.har, D.hcmp, D.hcv, D.hne0]; rfl))) ?_ ?_ <;> clear h <;> intro h <;> cbv
        · refine R.brD h (by (first | (simp only [D.har, D.hcmp, D.hcv, D.hne0]; done) | rfl | (simp only [D.har, D.hcmp, D.hcv, D.hne0]; rfl))) ?_ ?_ <;> clear h <;> intro h <;> cbv
          · obtain ⟨s', e, hi⟩ := jn_some (fun p => p) h
            refine hLy76 s' _ _ hi ⟨by kernel_rfl, ?_, ?_, by kernel_rfl, by kernel_rfl⟩ <;> cbv <;> (try (subst e; simp only [D.har, D.hcmp, D.hcv, D.hne0, and_self, and_true, true_and] <;> (repeat' apply And.intro) <;> rfl))
          · obtain ⟨s', e, hi⟩ := jn_some (fun p => p) h
            refine hLy76 s' _ _ hi ⟨by kernel_rfl, ?_, ?_, by kernel_rfl, by kernel_rfl⟩ <;> cbv <;> (try (subst e; simp only [D.har, D.hcmp, D.hcv, D.hne0, and_self, and_true, true_and] <;> (repeat' apply And.intro) <;> rfl))
        · obtain ⟨s', e, hi⟩ := jn_some (fun p => p) h
          refine hLy76 s' _ _ hi ⟨by kernel_rfl, ?_, ?_, by kernel_rfl, by kernel_rfl⟩ <;> cbv <;> (try (subst e; simp only [D.har, D.hcmp, D.hcv, D.hne0, and_self, and_true, true_and] <;> (repeat' apply And.intro) <;> rfl))
      · clear h; have h := h2; clear h2; try dsimp only at h
        cbv
        refine R.brD h (by (first | (simp only [D.har, D.hcmp, D.hcv, D.hne0]; done) | rfl | (simp only [D.har, D.hcmp, D.hcv, D.hne0]; rfl))) ?_ ?_ <;> clear h <;> intro h <;> cbv
        · have e := ret_some h; clear h
          refine hK _ _ ?_
          cbv
          try (subst e; simp only [D.har, D.hcmp, D.hcv, D.hne0, and_self, and_true, true_and] <;> (repeat' apply And.intro) <;> rfl)
        · refine R.callD h (fun x78 hx78 h2 => ?_)
          clear h; have h := h2; clear h2
          refine R.call' (w58 _ _ _ _ _ hx78) (by (first | (simp only [D.har, D.hcmp, D.hcv, D.hne0]; done) | rfl | (simp only [D.har, D.hcmp, D.hcv, D.hne0]; rfl))) ?_
          clear hx78; cbv
          refine R.callD h (fun x79 hx79 h2 => ?_)
          clear h; have h := h2; clear h2
          refine R.call' (w33 _ _ _ _ hx79) (by (first | (simp only [D.har, D.hcmp, D.hcv, D.hne0]; done) | rfl | (simp only [D.har, D.hcmp, D.hcv, D.hne0]; rfl))) ?_
          clear hx79; cbv
          have e := ret_some h; clear h
          refine hK _ _ ?_
          cbv
          try (subst e; simp only [D.har, D.hcmp, D.hcv, D.hne0, and_self, and_true, true_and] <;> (repeat' apply And.intro) <;> rfl)
    · as_aux_lemma =>
      refine R.brD h (by (first | (simp only [D.har, D.hcmp, D.hcv, D.hne0]; done) | rfl | (simp only [D.har, D.hcmp, D.hcv, D.hne0]; rfl))) ?_ ?_ <;> clear h <;> intro h <;> cbv
      · refine R.callD h (fun x80 hx80 h2 => ?_)
        clear h; have h := h2; clear h2
        refine R.call' (w33 _ _ _ _ hx80) (by (first | (simp only [D.har, D.hcmp, D.hcv, D.hne0]; done) | rfl | (simp only [D.har, D.hcmp, D.hcv, D.hne0]; rfl))) ?_
        clear hx80; cbv
        refine R.callD h (fun x81 hx81 h2 => ?_)
        clear h; have h := h2; clear h2
        refine R.call' (w33 _ _ _ _ hx81) (by (first | (simp only [D.har, D.hcmp, D.hcv, D.hne0]; done) | rfl | (simp only [D.har, D.hcmp, D.hcv, D.hne0]; rfl))) ?_
        clear hx81; cbv
        refine R.cut' (by kernel_rfl) (by kernel_rfl) ?_
        cbv
        refine R.cutB (fun p => p) (fun _ _ e => e) h [] (fun p85 => [(57, .b p85)]) (fun p85 => []) (by kernel_rfl) (by kernel_rfl) (fun y84 hy hFy84 L hLy84 => ?_) (fun p85 h2 => ?_)
        · clear h; have h := hy; clear hy; cbv
          refine R.brD h (by (first | (simp only [D.har, D.hcmp, D.hcv, D.hne0]; done) | rfl | (simp only [D.har, D.hcmp, D.hcv, D.hne0]; rfl))) ?_ ?_ <;> clear h <;> intro h <;> cbv
          · refine R.brD h (by (first | (simp only [D.har, D.hcmp, D.hcv, D.hne0]; done) | rfl | (simp only [D.har, D.hcmp, D.hcv, D.hne0]; rfl))) ?_ ?_ <;> clear h <;> intro h <;> cbv
            · obtain ⟨s', e, hi⟩ := jn_some (fun p => p) h
              refine hLy84 s' _ _ hi ⟨by kernel_rfl, ?_, ?_, by kernel_rfl, by kernel_rfl⟩ <;> cbv <;> (try (subst e; simp only [D.har, D.hcmp, D.hcv, D.hne0, and_self, and_true, true_and] <;> (repeat' apply And.intro) <;> rfl))
            · obtain ⟨s', e, hi⟩ := jn_some (fun p => p) h
              refine hLy84 s' _ _ hi ⟨by kernel_rfl, ?_, ?_, by kernel_rfl, by kernel_rfl⟩ <;> cbv <;> (try (subst e; simp only [D.har, D.hcmp, D.hcv, D.hne0, and_self, and_true, true_and] <;> (repeat' apply And.intro) <;> rfl))
          · obtain ⟨s', e, hi⟩ := jn_some (fun p => p) h
            refine hLy84 s' _ _ hi ⟨by kernel_rfl, ?_, ?_, by kernel_rfl, by kernel_rfl⟩ <;> cbv <;> (try (subst e; simp only [D.har, D.hcmp, D.hcv, D.hne0, and_self, and_true, true_and] <;> (repeat' apply And.intro) <;> rfl))
        · clear h; have h := h2; clear h2; try dsimp only at h
          cbv
          refine R.brD h (by (first | (simp only [D.har, D.hcmp, D.hcv, D.hne0]; done) | rfl | (simp only [D.har, D.hcmp, D.hcv, D.hne0]; rfl))) ?_ ?_ <;> clear h <;> intro h <;> cbv
          · have e := ret_some h; clear h
            refine hK _ _ ?_
            cbv
            try (subst e; simp only [D.har, D.hcmp, D.hcv, D.hne0, and_self, and_true, true_and] <;> (repeat' apply And.intro) <;> rfl)
          · refine R.callD h (fun x86 hx86 h2 => ?_)
            clear h; have h := h2; clear h2
            refine R.call' (w59 _ _ _ _ _ hx86) (by (first | (simp only [D.har, D.hcmp, D.hcv, D.hne0]; done) | rfl | (simp only [D.har, D.hcmp, D.hcv, D.hne0]; rfl))) ?_
            clear hx86; cbv
            refine R.callD h (fun x87 hx87 h2 => ?_)
            clear h; have h := h2; clear h2
            refine R.call' (w33 _ _ _ _ hx87) (by (first | (simp only [D.har, D.hcmp, D.hcv, D.hne0]; done) | rfl | (simp only [D.har, D.hcmp, D.hcv, D.hne0]; rfl))) ?_
            clear hx87; cbv
            have e := ret_some h; clear h
            refine hK _ _ ?_
            cbv
            try (subst e; simp only [D.har, D.hcmp, D.hcv, D.hne0, and_self, and_true, true_and] <;> (repeat' apply And.intro) <;> rfl)
      · as_aux_lemma =>
        refine R.brD h (by (first | (simp only [D.har, D.hcmp, D.hcv, D.hne0]; done) | rfl | (simp only [D.har, D.hcmp, D.hcv, D.hne0]; rfl))) ?_ ?_ <;> clear h <;> intro h <;> cbv
        · refine R.callD h (fun x88 hx88 h2 => ?_)
          clear h; have h := h2; clear h2
          refine R.call' (w33 _ _ _ _ hx88) (by (first | (simp only [D.har, D.hcmp, D.hcv, D.hne0]; done) | rfl | (simp only [D.har, D.hcmp, D.hcv, D.hne0]; rfl))) ?_
          clear hx88; cbv
          refine R.callD h (fun x89 hx89 h2 => ?_)
          clear h; have h := h2; clear h2
          refine R.call' (w33 _ _ _ _ hx89) (by (first | (simp only [D.har, D.hcmp, D.hcv, D.hne0]; done) | rfl | (simp only [D.har, D.hcmp, D.hcv, D.hne0]; rfl))) ?_
          clear hx89; cbv
          refine R.cut' (by kernel_rfl) (by kernel_rfl) ?_
          cbv
          refine R.cutB (fun p => p) (fun _ _ e => e) h [] (fun p93 => [(57, .b p93)]) (fun p93 => []) (by kernel_rfl) (by kernel_rfl) (fun y92 hy hFy92 L hLy92 => ?_) (fun p93 h2 => ?_)
          · clear h; have h := hy; clear hy; cbv
            refine R.brD h (by (first | (simp only [D.har, D.hcmp, D.hcv, D.hne0]; done) | rfl | (simp only [D.har, D.hcmp, D.hcv, D.hne0]; rfl))) ?_ ?_ <;> clear h <;> intro h <;> cbv
            · refine R.brD h (by (first | (simp only [D.har, D.hcmp, D.hcv, D.hne0]; done) | rfl | (simp only [D.har, D.hcmp, D.hcv, D.hne0]; rfl))) ?_ ?_ <;> clear h <;> intro h <;> cbv
              · obtain ⟨s', e, hi⟩ := jn_some (fun p => p) h
                refine hLy92 s' _ _ hi ⟨by kernel_rfl, ?_, ?_, by kernel_rfl, by kernel_rfl⟩ <;> cbv <;> (try (subst e; simp only [D.har, D.hcmp, D.hcv, D.hne0, and_self, and_true, true_and] <;> (repeat' apply And.intro) <;> rfl))
              · obtain ⟨s', e, hi⟩ := jn_some (fun p => p) h
                refine hLy92 s' _ _ hi ⟨by kernel_rfl, ?_, ?_, by kernel_rfl, by kernel_rfl⟩ <;> cbv <;> (try (subst e; simp only [D.har, D.hcmp, D.hcv, D.hne0, and_self, and_true, true_and] <;> (repeat' apply And.intro) <;> rfl))
            · obtain ⟨s', e, hi⟩ := jn_some (fun p => p) h
              refine hLy92 s' _ _ hi ⟨by kernel_rfl, ?_, ?_, by kernel_rfl, by kernel_rfl⟩ <;> cbv <;> (try (subst e; simp only [D.har, D.hcmp, D.hcv, D.hne0, and_self, and_true, true_and] <;> (repeat' apply And.intro) <;> rfl))
          · clear h; have h := h2; clear h2; try dsimp only at h
            cbv
            refine R.brD h (by (first | (simp only [D.har, D.hcmp, D.hcv, D.hne0]; done) | rfl | (simp only [D.har, D.hcmp, D.hcv, D.hne0]; rfl))) ?_ ?_ <;> clear h <;> intro h <;> cbv
            · have e := ret_some h; clear h
              refine hK _ _ ?_
              cbv
              try (subst e; simp only [D.har, D.hcmp, D.hcv, D.hne0, and_self, and_true, true_and] <;> (repeat' apply And.intro) <;> rfl)
            · refine R.callD h (fun x94 hx94 h2 => ?_)
              clear h; have h := h2; clear h2
              refine R.call' (w60 _ _ _ _ _ hx94) (by (first | (simp only [D.har, D.hcmp, D.hcv, D.hne0]; done) | rfl | (simp only [D.har, D.hcmp, D.hcv, D.hne0]; rfl))) ?_
              clear hx94; cbv
              refine R.callD h (fun x95 hx95 h2 => ?_)
              clear h; have h := h2; clear h2
              refine R.call' (w33 _ _ _ _ hx95) (by (first | (simp only [D.har, D.hcmp, D.hcv, D.hne0]; done) | rfl | (simp only [D.har, D.hcmp, D.hcv, D.hne0]; rfl))) ?_
              clear hx95; cbv
              have e := ret_some h; clear h
              refine hK _ _ ?_
              cbv
              try (subst e; simp only [D.har, D.hcmp, D.hcv, D.hne0, and_self, and_true, true_and] <;> (repeat' apply And.intro) <;> rfl)
        · as_aux_lemma =>
          refine R.brD h (by (first | (simp only [D.har, D.hcmp, D.hcv, D.hne0]; done) | rfl | (simp only [D.har, D.hcmp, D.hcv, D.hne0]; rfl))) ?_ ?_ <;> clear h <;> intro h <;> cbv
          · refine R.callD h (fun x96 hx96 h2 => ?_)
            clear h; have h := h2; clear h2
            refine R.call' (w33 _ _ _ _ hx96) (by (first | (simp only [D.har, D.hcmp, D.hcv, D.hne0]; done) | rfl | (simp only [D.har, D.hcmp, D.hcv, D.hne0]; rfl))) ?_
            clear hx96; cbv
            refine R.callD h (fun x97 hx97 h2 => ?_)
            clear h; have h := h2; clear h2
            refine R.call' (w33 _ _ _ _ hx97) (by (first | (simp only [D.har, D.hcmp, D.hcv, D.hne0]; done) | rfl | (simp only [D.har, D.hcmp, D.hcv, D.hne0]; rfl))) ?_
            clear hx97; cbv
            refine R.cut' (by kernel_rfl) (by kernel_rfl) ?_
            cbv
            refine R.cutB (fun p => p) (fun _ _ e => e) h [] (fun p101 => [(57, .b p101)]) (fun p101 => []) (by kernel_rfl) (by kernel_rfl) (fun y100 hy hFy100 L hLy100 => ?_) (fun p101 h2 => ?_)
            · clear h; have h := hy; clear hy; cbv
              refine R.brD h (by (first | (simp only [D.har, D.hcmp, D.hcv, D.hne0]; done) | rfl | (simp only [D.har, D.hcmp, D.hcv, D.hne0]; rfl))) ?_ ?_ <;> clear h <;> intro h <;> cbv
              · refine R.brD h (by (first | (simp only [D.har, D.hcmp, D.hcv, D.hne0]; done) | rfl | (simp only [D.har, D.hcmp, D.hcv, D.hne0]; rfl))) ?_ ?_ <;> clear h <;> intro h <;> cbv
                · obtain ⟨s', e, hi⟩ := jn_some (fun p => p) h
                  refine hLy100 s' _ _ hi ⟨by kernel_rfl, ?_, ?_, by kernel_rfl, by kernel_rfl⟩ <;> cbv <;> (try (subst e; simp only [D.har, D.hcmp, D.hcv, D.hne0, and_self, and_true, true_and] <;> (repeat' apply And.intro) <;> rfl))
                · obtain ⟨s', e, hi⟩ := jn_some (fun p => p) h
                  refine hLy100 s' _ _ hi ⟨by kernel_rfl, ?_, ?_, by kernel_rfl, by kernel_rfl⟩ <;> cbv <;> (try (subst e; simp only [D.har, D.hcmp, D.hcv, D.hne0, and_self, and_true, true_and] <;> (repeat' apply And.intro) <;> rfl))
              · obtain ⟨s', e, hi⟩ := jn_some (fun p => p) h
                refine hLy100 s' _ _ hi ⟨by kernel_rfl, ?_, ?_, by kernel_rfl, by kernel_rfl⟩ <;> cbv <;> (try (subst e; simp only [D.har, D.hcmp, D.hcv, D.hne0, and_self, and_true, true_and] <;> (repeat' apply And.intro) <;> rfl))
            · clear h; have h := h2; clear h2; try dsimp only at h
              cbv
              refine R.brD h (by (first | (simp only [D.har, D.hcmp, D.hcv, D.hne0]; done) | rfl | (simp only [D.har, D.hcmp, D.hcv, D.hne0]; rfl))) ?_ ?_ <;> clear h <;> intro h <;> cbv
              · have e := ret_some h; clear h
                refine hK _ _ ?_
                cbv
                try (subst e; simp only [D.har, D.hcmp, D.hcv, D.hne0, and_self, and_true, true_and] <;> (repeat' apply And.intro) <;> rfl)
              · refine R.callD h (fun x102 hx102 h2 => ?_)
                clear h; have h := h2; clear h2
                refine R.call' (w61 _ _ _ _ _ hx102) (by (first | (simp only [D.har, D.hcmp, D.hcv, D.hne0]; done) | rfl | (simp only [D.har, D.hcmp, D.hcv, D.hne0]; rfl))) ?_
                clear hx102; cbv
                refine R.callD h (fun x103 hx103 h2 => ?_)
                clear h; have h := h2; clear h2
                refine R.call' (w33 _ _ _ _ hx103) (by (first | (simp only [D.har, D.hcmp, D.hcv, D.hne0]; done) | rfl | (simp only [D.har, D.hcmp, D.hcv, D.hne0]; rfl))) ?_
                clear hx103; cbv
                have e := ret_some h; clear h
                refine hK _ _ ?_
                cbv
                try (subst e; simp only [D.har, D.hcmp, D.hcv, D.hne0, and_self, and_true, true_and] <;> (repeat' apply And.intro) <;> rfl)
          · as_aux_lemma =>
            refine R.brD h (by (first | (simp only [D.har, D.hcmp, D.hcv, D.hne0]; done) | rfl | (simp only [D.har, D.hcmp, D.hcv, D.hne0]; rfl))) ?_ ?_ <;> clear h <;> intro h <;> cbv
            · refine R.callD h (fun x104 hx104 h2 => ?_)
              clear h; have h := h2; clear h2
              refine R.call' (w33 _ _ _ _ hx104) (by (first | (simp only [D.har, D.hcmp, D.hcv, D.hne0]; done) | rfl | (simp only [D.har, D.hcmp, D.hcv, D.hne0]; rfl))) ?_
              clear hx104; cbv
              refine R.callD h (fun x105 hx105 h2 => ?_)
              clear h; have h := h2; clear h2
              refine R.call' (w33 _ _ _ _ hx105) (by (first | (simp only [D.har, D.hcmp, D.hcv, D.hne0]; done) | rfl | (simp only [D.har, D.hcmp, D.hcv, D.hne0]; rfl))) ?_
              clear hx105; cbv
              refine R.cut' (by kernel_rfl) (by kernel_rfl) ?_
              cbv
              refine R.cutB (fun p => p) (fun _ _ e => e) h [] (fun p109 => [(57, .b p109)]) (fun p109 => []) (by kernel_rfl) (by kernel_rfl) (fun y108 hy hFy108 L hLy108 => ?_) (fun p109 h2 => ?_)
              · clear h; have h := hy; clear hy; cbv
                refine R.brD h (by (first | (simp only [D.har, D.hcmp, D.hcv, D.hne0]; done) | rfl | (simp only [D.har, D.hcmp, D.hcv, D.hne0]; rfl))) ?_ ?_ <;> clear h <;> intro h <;> cbv
                · refine R.brD h (by (first | (simp only [D.har, D.hcmp, D.hcv, D.hne0]; done) | rfl | (simp only [D.har, D.hcmp, D.hcv, D.hne0]; rfl))) ?_ ?_ <;> clear h <;> intro h <;> cbv
                  · obtain ⟨s', e, hi⟩ := jn_some (fun p => p) h
                    refine hLy108 s' _ _ hi ⟨by kernel_rfl, ?_, ?_, by kernel_rfl, by kernel_rfl⟩ <;> cbv <;> (try (subst e; simp only [D.har, D.hcmp, D.hcv, D.hne0, and_self, and_true, true_and] <;> (repeat' apply And.intro) <;> rfl))
                  · obtain ⟨s', e, hi⟩ := jn_some (fun p => p) h
                    refine hLy108 s' _ _ hi ⟨by kernel_rfl, ?_, ?_, by kernel_rfl, by kernel_rfl⟩ <;> cbv <;> (try (subst e; simp only [D.har, D.hcmp, D.hcv, D.hne0, and_self, and_true, true_and] <;> (repeat' apply And.intro) <;> rfl))
                · obtain ⟨s', e, hi⟩ := jn_some (fun p => p) h
                  refine hLy108 s' _ _ hi ⟨by kernel_rfl, ?_, ?_, by kernel_rfl, by kernel_rfl⟩ <;> cbv <;> (try (subst e; simp only [D.har, D.hcmp, D.hcv, D.hne0, and_self, and_true, true_and] <;> (repeat' apply And.intro) <;> rfl))
              · clear h; have h := h2; clear h2; try dsimp only at h
                cbv
                refine R.brD h (by (first | (simp only [D.har, D.hcmp, D.hcv, D.hne0]; done) | rfl | (simp only [D.har, D.hcmp, D.hcv, D.hne0]; rfl))) ?_ ?_ <;> clear h <;> intro h <;> cbv
                · have e := ret_some h; clear h
                  refine hK _ _ ?_
                  cbv
                  try (subst e; simp only [D.har, D.hcmp, D.hcv, D.hne0, and_self, and_true, true_and] <;> (repeat' apply And.intro) <;> rfl)
                · refine R.callD h (fun x110 hx110 h2 => ?_)
                  clear h; have h := h2; clear h2
                  refine R.call' (w62 _ _ _ _ _ hx110) (by (first | (simp only [D.har, D.hcmp, D.hcv, D.hne0]; done) | rfl | (simp only [D.har, D.hcmp, D.hcv, D.hne0]; rfl))) ?_
                  clear hx110; cbv
                  refine R.callD h (fun x111 hx111 h2 => ?_)
                  clear h; have h := h2; clear h2
                  refine R.call' (w33 _ _ _ _ hx111) (by (first | (simp only [D.har, D.hcmp, D.hcv, D.hne0]; done) | rfl | (simp only [D.har, D.hcmp, D.hcv, D.hne0]; rfl))) ?_
                  clear hx111; cbv
                  have e := ret_some h; clear h
                  refine hK _ _ ?_
                  cbv
                  try (subst e; simp only [D.har, D.hcmp, D.hcv, D.hne0, and_self, and_true, true_and] <;> (repeat' apply And.intro) <;> rfl)
            · as_aux_lemma =>
              refine R.brD h (by (first | (simp only [D.har, D.hcmp, D.hcv, D.hne0]; done) | rfl | (simp only [D.har, D.hcmp, D.hcv, D.hne0]; rfl))) ?_ ?_ <;> clear h <;> intro h <;> cbv
              · refine R.callD h (fun x112 hx112 h2 => ?_)
                clear h; have h := h2; clear h2
                refine R.call' (w33 _ _ _ _ hx112) (by (first | (simp only [D.har, D.hcmp, D.hcv, D.hne0]; done) | rfl | (simp only [D.har, D.hcmp, D.hcv, D.hne0]; rfl))) ?_
                clear hx112; cbv
                refine R.callD h (fun x113 hx113 h2 => ?_)
                clear h; have h := h2; clear h2
                refine R.call' (w33 _ _ _ _ hx113) (by (first | (simp only [D.har, D.hcmp, D.hcv, D.hne0]; done) | rfl | (simp only [D.har, D.hcmp, D.hcv, D.hne0]; rfl))) ?_
                clear hx113; cbv
                refine R.cut' (by kernel_rfl) (by kernel_rfl) ?_
                cbv
                refine R.cutB (fun p => p) (fun _ _ e => e) h [] (fun p117 => [(57, .b p117)]) (fun p117 => []) (by kernel_rfl) (by kernel_rfl) (fun y116 hy hFy116 L hLy116 => ?_) (fun p117 h2 => ?_)
                · clear h; have h := hy; clear hy; cbv
                  refine R.brD h (by (first | (simp only [D.har, D.hcmp, D.hcv, D.hne0]; done) | rfl | (simp only [D.har, D.hcmp, D.hcv, D.hne0]; rfl))) ?_ ?_ <;> clear h <;> intro h <;> cbv
                  · refine R.brD h (by (first | (simp only [D.har, D.hcmp, D.hcv, D.hne0]; done) | rfl | (simp only [D.har, D.hcmp, D.hcv, D.hne0]; rfl))) ?_ ?_ <;> clear h <;> intro h <;> cbv
                    · obtain ⟨s', e, hi⟩ := jn_some (fun p => p) h
                      refine hLy116 s' _ _ hi ⟨by kernel_rfl, ?_, ?_, by kernel_rfl, by kernel_rfl⟩ <;> cbv <;> (try (subst e; simp only [D.har, D.hcmp, D.hcv, D.hne0, and_self, and_true, true_and] <;> (repeat' apply And.intro) <;> rfl))
                    · obtain ⟨s', e, hi⟩ := jn_some (fun p => p) h
                      refine hLy116 s' _ _ hi ⟨by kernel_rfl, ?_, ?_, by kernel_rfl, by kernel_rfl⟩ <;> cbv <;> (try (subst e; simp only [D.har, D.hcmp, D.hcv, D.hne0, and_self, and_true, true_and] <;> (repeat' apply And.intro) <;> rfl))
                  · obtain ⟨s', e, hi⟩ := jn_some (fun p => p) h
                    refine hLy116 s' _ _ hi ⟨by kernel_rfl, ?_, ?_, by kernel_rfl, by kernel_rfl⟩ <;> cbv <;> (try (subst e; simp only [D.har, D.hcmp, D.hcv, D.hne0, and_self, and_true, true_and] <;> (repeat' apply And.intro) <;> rfl))
                · clear h; have h := h2; clear h2; try dsimp only at h
                  cbv
                  refine R.brD h (by (first | (simp only [D.har, D.hcmp, D.hcv, D.hne0]; done) | rfl | (simp only [D.har, D.hcmp, D.hcv, D.hne0]; rfl))) ?_ ?_ <;> clear h <;> intro h <;> cbv
                  · have e := ret_some h; clear h
                    refine hK _ _ ?_
                    cbv
                    try (subst e; simp only [D.har, D.hcmp, D.hcv, D.hne0, and_self, and_true, true_and] <;> (repeat' apply And.intro) <;> rfl)
                  · refine R.callD h (fun x118 hx118 h2 => ?_)
                    clear h; have h := h2; clear h2
                    refine R.call' (w63 _ _ _ _ _ hx118) (by (first | (simp only [D.har, D.hcmp, D.hcv, D.hne0]; done) | rfl | (simp only [D.har, D.hcmp, D.hcv, D.hne0]; rfl))) ?_
                    clear hx118; cbv
                    refine R.callD h (fun x119 hx119 h2 => ?_)
                    clear h; have h := h2; clear h2
                    refine R.call' (w33 _ _ _ _ hx119) (by (first | (simp only [D.har, D.hcmp, D.hcv, D.hne0]; done) | rfl | (simp only [D.har, D.hcmp, D.hcv, D.hne0]; rfl))) ?_
                    clear hx119; cbv
                    have e := ret_some h; clear h
                    refine hK _ _ ?_
                    cbv
                    try (subst e; simp only [D.har, D.hcmp, D.hcv, D.hne0, and_self, and_true, true_and] <;> (repeat' apply And.intro) <;> rfl)
              · as_aux_lemma =>
                refine R.brD h (by (first | (simp only [D.har, D.hcmp, D.hcv, D.hne0]; done) | rfl | (simp only [D.har, D.hcmp, D.hcv, D.hne0]; rfl))) ?_ ?_ <;> clear h <;> intro h <;> cbv
                · refine R.callD h (fun x120 hx120 h2 => ?_)
                  clear h; have h := h2; clear h2
                  refine R.call' (w33 _ _ _ _ hx120) (by (first | (simp only [D.har, D.hcmp, D.hcv, D.hne0]; done) | rfl | (simp only [D.har, D.hcmp, D.hcv, D.hne0]; rfl))) ?_
                  clear hx120; cbv
                  refine R.callD h (fun x121 hx121 h2 => ?_)
                  clear h; have h := h2; clear h2
                  refine R.call' (w33 _ _ _ _ hx121) (by (first | (simp only [D.har, D.hcmp, D.hcv, D.hne0]; done) | rfl | (simp only [D.har, D.hcmp, D.hcv, D.hne0]; rfl))) ?_
                  clear hx121; cbv
                  refine R.cut' (by kernel_rfl) (by kernel_rfl) ?_
                  cbv
                  refine R.cutB (fun p => p) (fun _ _ e => e) h [] (fun p125 => [(57, .b p125)]) (fun p125 => []) (by kernel_rfl) (by kernel_rfl) (fun y124 hy hFy124 L hLy124 => ?_) (fun p125 h2 => ?_)
                  · clear h; have h := hy; clear hy; cbv
                    refine R.brD h (by (first | (simp only [D.har, D.hcmp, D.hcv, D.hne0]; done) | rfl | (simp only [D.har, D.hcmp, D.hcv, D.hne0]; rfl))) ?_ ?_ <;> clear h <;> intro h <;> cbv
                    · refine R.brD h (by (first | (simp only [D.har, D.hcmp, D.hcv, D.hne0]; done) | rfl | (simp only [D.har, D.hcmp, D.hcv, D.hne0]; rfl))) ?_ ?_ <;> clear h <;> intro h <;> cbv
                      · obtain ⟨s', e, hi⟩ := jn_some (fun p => p) h
                        refine hLy124 s' _ _ hi ⟨by kernel_rfl, ?_, ?_, by kernel_rfl, by kernel_rfl⟩ <;> cbv <;> (try (subst e; simp only [D.har, D.hcmp, D.hcv, D.hne0, and_self, and_true, true_and] <;> (repeat' apply And.intro) <;> rfl))
                      · obtain ⟨s', e, hi⟩ := jn_some (fun p => p) h
                        refine hLy124 s' _ _ hi ⟨by kernel_rfl, ?_, ?_, by kernel_rfl, by kernel_rfl⟩ <;> cbv <;> (try (subst e; simp only [D.har, D.hcmp, D.hcv, D.hne0, and_self, and_true, true_and] <;> (repeat' apply And.intro) <;> rfl))
                    · obtain ⟨s', e, hi⟩ := jn_some (fun p => p) h
                      refine hLy124 s' _ _ hi ⟨by kernel_rfl, ?_, ?_, by kernel_rfl, by kernel_rfl⟩ <;> cbv <;> (try (subst e; simp only [D.har, D.hcmp, D.hcv, D.hne0, and_self, and_true, true_and] <;> (repeat' apply And.intro) <;> rfl))
                  · clear h; have h := h2; clear h2; try dsimp only at h
                    cbv
                    refine R.brD h (by (first | (simp only [D.har, D.hcmp, D.hcv, D.hne0]; done) | rfl | (simp only [D.har, D.hcmp, D.hcv, D.hne0]; rfl))) ?_ ?_ <;> clear h <;> intro h <;> cbv
                    · have e := ret_some h; clear h
                      refine hK _ _ ?_
                      cbv
                      try (subst e; simp only [D.har, D.hcmp, D.hcv, D.hne0, and_self, and_true, true_and] <;> (repeat' apply And.intro) <;> rfl)
                    · refine R.callD h (fun x126 hx126 h2 => ?_)
                      clear h; have h := h2; clear h2
                      refine R.call' (w64 _ _ _ _ _ hx126) (by (first | (simp only [D.har, D.hcmp, D.hcv, D.hne0]; done) | rfl | (simp only [D.har, D.hcmp, D.hcv, D.hne0]; rfl))) ?_
                      clear hx126; cbv
                      refine R.callD h (fun x127 hx127 h2 => ?_)
                      clear h; have h := h2; clear h2
                      refine R.call' (w33 _ _ _ _ hx127) (by (first | (simp only [D.har, D.hcmp, D.hcv, D.hne0]; done) | rfl | (simp only [D.har, D.hcmp, D.hcv, D.hne0]; rfl))) ?_
                      clear hx127; cbv
                      have e := ret_some h; clear h
                      refine hK _ _ ?_
                      cbv
                      try (subst e; simp only [D.har, D.hcmp, D.hcv, D.hne0, and_self, and_true, true_and] <;> (repeat' apply And.intro) <;> rfl)
                · as_aux_lemma =>
                  refine R.brD h (by (first | (simp only [D.har, D.hcmp, D.hcv, D.hne0]; done) | rfl | (simp only [D.har, D.hcmp, D.hcv, D.hne0]; rfl))) ?_ ?_ <;> clear h <;> intro h <;> cbv
                  · refine R.callD h (fun x128 hx128 h2 => ?_)
                    clear h; have h := h2; clear h2
                    refine R.call' (w33 _ _ _ _ hx128) (by (first | (simp only [D.har, D.hcmp, D.hcv, D.hne0]; done) | rfl | (simp only [D.har, D.hcmp, D.hcv, D.hne0]; rfl))) ?_
                    clear hx128; cbv
                    refine R.callD h (fun x129 hx129 h2 => ?_)
                    clear h; have h := h2; clear h2
                    refine R.call' (w33 _ _ _ _ hx129) (by (first | (simp only [D.har, D.hcmp, D.hcv, D.hne0]; done) | rfl | (simp only [D.har, D.hcmp, D.hcv, D.hne0]; rfl))) ?_
                    clear hx129; cbv
                    refine R.cut' (by kernel_rfl) (by kernel_rfl) ?_
                    cbv
                    refine R.cutB (fun p => p) (fun _ _ e => e) h [] (fun p133 => [(57, .b p133)]) (fun p133 => []) (by kernel_rfl) (by kernel_rfl) (fun y132 hy hFy132 L hLy132 => ?_) (fun p133 h2 => ?_)
                    · clear h; have h := hy; clear hy; cbv
                      refine R.brD h (by (first | (simp only [D.har, D.hcmp, D.hcv, D.hne0]; done) | rfl | (simp only [D.har, D.hcmp, D.hcv, D.hne0]; rfl))) ?_ ?_ <;> clear h <;> intro h <;> cbv
                      · refine R.brD h (by (first | (simp only [D.har, D.hcmp, D.hcv, D.hne0]; done) | rfl | (simp only [D.har, D.hcmp, D.hcv, D.hne0]; rfl))) ?_ ?_ <;> clear h <;> intro h <;> cbv
                        · obtain ⟨s', e, hi⟩ := jn_some (fun p => p) h
                          refine hLy132 s' _ _ hi ⟨by kernel_rfl, ?_, ?_, by kernel_rfl, by kernel_rfl⟩ <;> cbv <;> (try (subst e; simp only [D.har, D.hcmp, D.hcv, D.hne0, and_self, and_true, true_and] <;> (repeat' apply And.intro) <;> rfl))
                        · obtain ⟨s', e, hi⟩ := jn_some (fun p => p) h
                          refine hLy132 s' _ _ hi ⟨by kernel_rfl, ?_, ?_, by kernel_rfl, by kernel_rfl⟩ <;> cbv <;> (try (subst e; simp only [D.har, D.hcmp, D.hcv, D.hne0, and_self, and_true, true_and] <;> (repeat' apply And.intro) <;> rfl))
                      · obtain ⟨s', e, hi⟩ := jn_some (fun p => p) h
                        refine hLy132 s' _ _ hi ⟨by kernel_rfl, ?_, ?_, by kernel_rfl, by kernel_rfl⟩ <;> cbv <;> (try (subst e; simp only [D.har, D.hcmp, D.hcv, D.hne0, and_self, and_true, true_and] <;> (repeat' apply And.intro) <;> rfl))
                    · clear h; have h := h2; clear h2; try dsimp only at h
                      cbv
                      refine R.brD h (by (first | (simp only [D.har, D.hcmp, D.hcv, D.hne0]; done) | rfl | (simp only [D.har, D.hcmp, D.hcv, D.hne0]; rfl))) ?_ ?_ <;> clear h <;> intro h <;> cbv
                      · have e := ret_some h; clear h
                        refine hK _ _ ?_
                        cbv
                        try (subst e; simp only [D.har, D.hcmp, D.hcv, D.hne0, and_self, and_true, true_and] <;> (repeat' apply And.intro) <;> rfl)
                      · refine R.callD h (fun x134 hx134 h2 => ?_)
                        clear h; have h := h2; clear h2
                        refine R.call' (w66 _ _ _ _ _ hx134) (by (first | (simp only [D.har, D.hcmp, D.hcv, D.hne0]; done) | rfl | (simp only [D.har, D.hcmp, D.hcv, D.hne0]; rfl))) ?_
                        clear hx134; cbv
                        refine R.callD h (fun x135 hx135 h2 => ?_)
                        clear h; have h := h2; clear h2
                        refine R.call' (w33 _ _ _ _ hx135) (by (first | (simp only [D.har, D.hcmp, D.hcv, D.hne0]; done) | rfl | (simp only [D.har, D.hcmp, D.hcv, D.hne0]; rfl))) ?_
                        clear hx135; cbv
                        have e := ret_some h; clear h
                        refine hK _ _ ?_
                        cbv
                        try (subst e; simp only [D.har, D.hcmp, D.hcv, D.hne0, and_self, and_true, true_and] <;> (repeat' apply And.intro) <;> rfl)
                  · as_aux_lemma =>
                    refine R.cut' (by kernel_rfl) (by kernel_rfl) ?_
                    cbv
                    refine R.callD h (fun x173 hx173 h2 => ?_)
                    clear h; have h := h2; clear h2
                    refine R.call' (w36 _ hx173) (by (first | (simp only [D.har, D.hcmp, D.hcv, D.hne0]; done) | rfl | (simp only [D.har, D.hcmp, D.hcv, D.hne0]; rfl))) ?_
                    clear hx173; cbv
                    refine R.brD h (by (first | (simp only [D.har, D.hcmp, D.hcv, D.hne0]; done) | rfl | (simp only [D.har, D.hcmp, D.hcv, D.hne0]; rfl))) ?_ ?_ <;> clear h <;> intro h <;> cbv
                    · refine R.callD h (fun x174 hx174 h2 => ?_)
                      clear h; have h := h2; clear h2
                      refine R.call' (w37 _ hx174) (by (first | (simp only [D.har, D.hcmp, D.hcv, D.hne0]; done) | rfl | (simp only [D.har, D.hcmp, D.hcv, D.hne0]; rfl))) ?_
                      clear hx174; cbv
                      refine R.callD h (fun x175 hx175 h2 => ?_)
                      clear h; have h := h2; clear h2
                      refine R.call' (w33 _ _ _ _ hx175) (by (first | (simp only [D.har, D.hcmp, D.hcv, D.hne0]; done) | rfl | (simp only [D.har, D.hcmp, D.hcv, D.hne0]; rfl))) ?_
                      clear hx175; cbv
                      refine R.callD h (fun x176 hx176 h2 => ?_)
                      clear h; have h := h2; clear h2
                      refine R.call' (w33 _ _ _ _ hx176) (by (first | (simp only [D.har, D.hcmp, D.hcv, D.hne0]; done) | rfl | (simp only [D.har, D.hcmp, D.hcv, D.hne0]; rfl))) ?_
                      clear hx176; cbv
                      refine R.callD h (fun x177 hx177 h2 => ?_)
                      clear h; have h := h2; clear h2
                      refine R.call' (w39 _ _ _ _ _ hx177) (by (first | (simp only [D.har, D.hcmp, D.hcv, D.hne0]; done) | rfl | (simp only [D.har, D.hcmp, D.hcv, D.hne0]; rfl))) ?_
                      clear hx177; cbv
                      refine R.callD h (fun x178 hx178 h2 => ?_)
                      clear h; have h := h2; clear h2
                      refine R.call' (w67 _ _ hx178) (by (first | (simp only [D.har, D.hcmp, D.hcv, D.hne0]; done) | rfl | (simp only [D.har, D.hcmp, D.hcv, D.hne0]; rfl))) ?_
                      clear hx178; cbv
                      refine R.callD h (fun x179 hx179 h2 => ?_)
                      clear h; have h := h2; clear h2
                      refine R.call' (w38 _ _ hx179) (by (first | (simp only [D.har, D.hcmp, D.hcv, D.hne0]; done) | rfl | (simp only [D.har, D.hcmp, D.hcv, D.hne0]; rfl))) ?_
                      clear hx179; cbv
                      have e := ret_some h; clear h
                      refine hK _ _ ?_
                      cbv
                      try (subst e; simp only [D.har, D.hcmp, D.hcv, D.hne0, and_self, and_true, true_and] <;> (repeat' apply And.intro) <;> rfl)
                    · as_aux_lemma =>
                      refine R.brD h (by (first | (simp only [D.har, D.hcmp, D.hcv, D.hne0]; done) | rfl | (simp only [D.har, D.hcmp, D.hcv, D.hne0]; rfl))) ?_ ?_ <;> clear h <;> intro h <;> cbv
                      · refine R.callD h (fun x180 hx180 h2 => ?_)
                        clear h; have h := h2; clear h2
                        refine R.call' (w37 _ hx180) (by (first | (simp only [D.har, D.hcmp, D.hcv, D.hne0]; done) | rfl | (simp only [D.har, D.hcmp, D.hcv, D.hne0]; rfl))) ?_
                        clear hx180; cbv
                        refine R.callD h (fun x181 hx181 h2 => ?_)
                        clear h; have h := h2; clear h2
                        refine R.call' (w33 _ _ _ _ hx181) (by (first | (simp only [D.har, D.hcmp, D.hcv, D.hne0]; done) | rfl | (simp only [D.har, D.hcmp, D.hcv, D.hne0]; rfl))) ?_
                        clear hx181; cbv
                        refine R.callD h (fun x182 hx182 h2 => ?_)
                        clear h; have h := h2; clear h2
                        refine R.call' (w33 _ _ _ _ hx182) (by (first | (simp only [D.har, D.hcmp, D.hcv, D.hne0]; done) | rfl | (simp only [D.har, D.hcmp, D.hcv, D.hne0]; rfl))) ?_
                        clear hx182; cbv
                        refine R.callD h (fun x183 hx183 h2 => ?_)
                        clear h; have h := h2; clear h2
                        refine R.call' (w39 _ _ _ _ _ hx183) (by (first | (simp only [D.har, D.hcmp, D.hcv, D.hne0]; done) | rfl | (simp only [D.har, D.hcmp, D.hcv, D.hne0]; rfl))) ?_
                        clear hx183; cbv
                        refine R.callD h (fun x184 hx184 h2 => ?_)
                        clear h; have h := h2; clear h2
                        refine R.call' (w68 _ _ hx184) (by (first | (simp only [D.har, D.hcmp, D.hcv, D.hne0]; done) | rfl | (simp only [D.har, D.hcmp, D.hcv, D.hne0]; rfl))) ?_
                        clear hx184; cbv
                        refine R.callD h (fun x185 hx185 h2 => ?_)
                        clear h; have h := h2; clear h2
                        refine R.call' (w38 _ _ hx185) (by (first | (simp only [D.har, D.hcmp, D.hcv, D.hne0]; done) | rfl | (simp only [D.har, D.hcmp, D.hcv, D.hne0]; rfl))) ?_
                        clear hx185; cbv
                        have e := ret_some h; clear h
                        refine hK _ _ ?_
                        cbv
                        try (subst e; simp only [D.har, D.hcmp, D.hcv, D.hne0, and_self, and_true, true_and] <;> (repeat' apply And.intro) <;> rfl)
                      · as_aux_lemma =>
                        refine R.brD h (by (first | (simp only [D.har, D.hcmp, D.hcv, D.hne0]; done) | rfl | (simp only [D.har, D.hcmp, D.hcv, D.hne0]; rfl))) ?_ ?_ <;> clear h <;> intro h <;> cbv
                        · refine R.callD h (fun x186 hx186 h2 => ?_)
                          clear h; have h := h2; clear h2
                          refine R.call' (w37 _ hx186) (by (first | (simp only [D.har, D.hcmp, D.hcv, D.hne0]; done) | rfl | (simp only [D.har, D.hcmp, D.hcv, D.hne0]; rfl))) ?_
                          clear hx186; cbv
                          refine R.callD h (fun x187 hx187 h2 => ?_)
                          clear h; have h := h2; clear h2
                          refine R.call' (w33 _ _ _ _ hx187) (by (first | (simp only [D.har, D.hcmp, D.hcv, D.hne0]; done) | rfl | (simp only [D.har, D.hcmp, D.hcv, D.hne0]; rfl))) ?_
                          clear hx187; cbv
                          refine R.callD h (fun x188 hx188 h2 => ?_)
                          clear h; have h := h2; clear h2
                          refine R.call' (w33 _ _ _ _ hx188) (by (first | (simp only [D.har, D.hcmp, D.hcv, D.hne0]; done) | rfl | (simp only [D.har, D.hcmp, D.hcv, D.hne0]; rfl))) ?_
                          clear hx188; cbv
                          refine R.callD h (fun x189 hx189 h2 => ?_)
                          clear h; have h := h2; clear h2
                          refine R.call' (w39 _ _ _ _ _ hx189) (by (first | (simp only [D.har, D.hcmp, D.hcv, D.hne0]; done) | rfl | (simp only [D.har, D.hcmp, D.hcv, D.hne0]; rfl))) ?_
                          clear hx189; cbv
                          refine R.callD h (fun x190 hx190 h2 => ?_)
                          clear h; have h := h2; clear h2
                          refine R.call' (w69 _ _ hx190) (by (first | (simp only [D.har, D.hcmp, D.hcv, D.hne0]; done) | rfl | (simp only [D.har, D.hcmp, D.hcv, D.hne0]; rfl))) ?_
                          clear hx190; cbv
                          refine R.callD h (fun x191 hx191 h2 => ?_)
                          clear h; have h := h2; clear h2
                          refine R.call' (w38 _ _ hx191) (by (first | (simp only [D.har, D.hcmp, D.hcv, D.hne0]; done) | rfl | (simp only [D.har, D.hcmp, D.hcv, D.hne0]; rfl))) ?_
                          clear hx191; cbv
                          have e := ret_some h; clear h
                          refine hK _ _ ?_
                          cbv
                          try (subst e; simp only [D.har, D.hcmp, D.hcv, D.hne0, and_self, and_true, true_and] <;> (repeat' apply And.intro) <;> rfl)
                        · as_aux_lemma =>
                          refine R.brD h (by (first | (simp only [D.har, D.hcmp, D.hcv, D.hne0]; done) | rfl | (simp only [D.har, D.hcmp, D.hcv, D.hne0]; rfl))) ?_ ?_ <;> clear h <;> intro h <;> cbv
                          · refine R.callD h (fun x192 hx192 h2 => ?_)
                            clear h; have h := h2; clear h2
                            refine R.call' (w37 _ hx192) (by (first | (simp only [D.har, D.hcmp, D.hcv, D.hne0]; done) | rfl | (simp only [D.har, D.hcmp, D.hcv, D.hne0]; rfl))) ?_
                            clear hx192; cbv
                            refine R.callD h (fun x193 hx193 h2 => ?_)
                            clear h; have h := h2; clear h2
                            refine R.call' (w33 _ _ _ _ hx193) (by (first | (simp only [D.har, D.hcmp, D.hcv, D.hne0]; done) | rfl | (simp only [D.har, D.hcmp, D.hcv, D.hne0]; rfl))) ?_
                            clear hx193; cbv
                            refine R.callD h (fun x194 hx194 h2 => ?_)
                            clear h; have h := h2; clear h2
                            refine R.call' (w33 _ _ _ _ hx194) (by (first | (simp only [D.har, D.hcmp, D.hcv, D.hne0]; done) | rfl | (simp only [D.har, D.hcmp, D.hcv, D.hne0]; rfl))) ?_
                            clear hx194; cbv
                            refine R.callD h (fun x195 hx195 h2 => ?_)
                            clear h; have h := h2; clear h2
                            refine R.call' (w39 _ _ _ _ _ hx195) (by (first | (simp only [D.har, D.hcmp, D.hcv, D.hne0]; done) | rfl | (simp only [D.har, D.hcmp, D.hcv, D.hne0]; rfl))) ?_
                            clear hx195; cbv
                            refine R.callD h (fun x196 hx196 h2 => ?_)
                            clear h; have h := h2; clear h2
                            refine R.call' (w70 _ _ hx196) (by (first | (simp only [D.har, D.hcmp, D.hcv, D.hne0]; done) | rfl | (simp only [D.har, D.hcmp, D.hcv, D.hne0]; rfl))) ?_
                            clear hx196; cbv
                            refine R.callD h (fun x197 hx197 h2 => ?_)
                            clear h; have h := h2; clear h2
                            refine R.call' (w38 _ _ hx197) (by (first | (simp only [D.har, D.hcmp, D.hcv, D.hne0]; done) | rfl | (simp only [D.har, D.hcmp, D.hcv, D.hne0]; rfl))) ?_
                            clear hx197; cbv
                            have e := ret_some h; clear h
                            refine hK _ _ ?_
                            cbv
                            try (subst e; simp only [D.har, D.hcmp, D.hcv, D.hne0, and_self, and_true, true_and] <;> (repeat' apply And.intro) <;> rfl)
                          · as_aux_lemma =>
                            refine R.brD h (by (first | (simp only [D.har, D.hcmp, D.hcv, D.hne0]; done) | rfl | (simp only [D.har, D.hcmp, D.hcv, D.hne0]; rfl))) ?_ ?_ <;> clear h <;> intro h <;> cbv
                            · refine R.callD h (fun x198 hx198 h2 => ?_)
                              clear h; have h := h2; clear h2
                              refine R.call' (w37 _ hx198) (by (first | (simp only [D.har, D.hcmp, D.hcv, D.hne0]; done) | rfl | (simp only [D.har, D.hcmp, D.hcv, D.hne0]; rfl))) ?_
                              clear hx198; cbv
                              refine R.callD h (fun x199 hx199 h2 => ?_)
                              clear h; have h := h2; clear h2
                              refine R.call' (w33 _ _ _ _ hx199) (by (first | (simp only [D.har, D.hcmp, D.hcv, D.hne0]; done) | rfl | (simp only [D.har, D.hcmp, D.hcv, D.hne0]; rfl))) ?_
                              clear hx199; cbv
                              refine R.callD h (fun x200 hx200 h2 => ?_)
                              clear h; have h := h2; clear h2
                              refine R.call' (w33 _ _ _ _ hx200) (by (first | (simp only [D.har, D.hcmp, D.hcv, D.hne0]; done) | rfl | (simp only [D.har, D.hcmp, D.hcv, D.hne0]; rfl))) ?_
                              clear hx200; cbv
                              refine R.callD h (fun x201 hx201 h2 => ?_)
                              clear h; have h := h2; clear h2
                              refine R.call' (w39 _ _ _ _ _ hx201) (by (first | (simp only [D.har, D.hcmp, D.hcv, D.hne0]; done) | rfl | (simp only [D.har, D.hcmp, D.hcv, D.hne0]; rfl))) ?_
                              clear hx201; cbv
                              refine R.callD h (fun x202 hx202 h2 => ?_)
                              clear h; have h := h2; clear h2
                              refine R.call' (w71 _ _ hx202) (by (first | (simp only [D.har, D.hcmp, D.hcv, D.hne0]; done) | rfl | (simp only [D.har, D.hcmp, D.hcv, D.hne0]; rfl))) ?_
                              clear hx202; cbv
                              refine R.callD h (fun x203 hx203 h2 => ?_)
                              clear h; have h := h2; clear h2
                              refine R.call' (w38 _ _ hx203) (by (first | (simp only [D.har, D.hcmp, D.hcv, D.hne0]; done) | rfl | (simp only [D.har, D.hcmp, D.hcv, D.hne0]; rfl))) ?_
                              clear hx203; cbv
                              have e := ret_some h; clear h
                              refine hK _ _ ?_
                              cbv
                              try (subst e; simp only [D.har, D.hcmp, D.hcv, D.hne0, and_self, and_true, true_and] <;> (repeat' apply And.intro) <;> rfl)
                            · as_aux_lemma =>
                              refine R.brD h (by (first | (simp only [D.har, D.hcmp, D.hcv, D.hne0]; done) | rfl | (simp only [D.har, D.hcmp, D.hcv, D.hne0]; rfl))) ?_ ?_ <;> clear h <;> intro h <;> cbv
                              · refine R.callD h (fun x204 hx204 h2 => ?_)
                                clear h; have h := h2; clear h2
                                refine R.call' (w37 _ hx204) (by (first | (simp only [D.har, D.hcmp, D.hcv, D.hne0]; done) | rfl | (simp only [D.har, D.hcmp, D.hcv, D.hne0]; rfl))) ?_
                                clear hx204; cbv
                                refine R.callD h (fun x205 hx205 h2 => ?_)
                                clear h; have h := h2; clear h2
                                refine R.call' (w33 _ _ _ _ hx205) (by (first | (simp only [D.har, D.hcmp, D.hcv, D.hne0]; done) | rfl | (simp only [D.har, D.hcmp, D.hcv, D.hne0]; rfl))) ?_
                                clear hx205; cbv
                                refine R.callD h (fun x206 hx206 h2 => ?_)
                                clear h; have h := h2; clear h2
                                refine R.call' (w33 _ _ _ _ hx206) (by (first | (simp only [D.har, D.hcmp, D.hcv, D.hne0]; done) | rfl | (simp only [D.har, D.hcmp, D.hcv, D.hne0]; rfl))) ?_
                                clear hx206; cbv
                                refine R.callD h (fun x207 hx207 h2 => ?_)
                                clear h; have h := h2; clear h2
                                refine R.call' (w39 _ _ _ _ _ hx207) (by (first | (simp only [D.har, D.hcmp, D.hcv, D.hne0]; done) | rfl | (simp only [D.har, D.hcmp, D.hcv, D.hne0]; rfl))) ?_
                                clear hx207; cbv
                                refine R.callD h (fun x208 hx208 h2 => ?_)
                                clear h; have h := h2; clear h2
                                refine R.call' (w72 _ _ hx208) (by (first | (simp only [D.har, D.hcmp, D.hcv, D.hne0]; done) | rfl | (simp only [D.har, D.hcmp, D.hcv, D.hne0]; rfl))) ?_
                                clear hx208; cbv
                                refine R.callD h (fun x209 hx209 h2 => ?_)
                                clear h; have h := h2; clear h2
                                refine R.call' (w38 _ _ hx209) (by (first | (simp only [D.har, D.hcmp, D.hcv, D.hne0]; done) | rfl | (simp only [D.har, D.hcmp, D.hcv, D.hne0]; rfl))) ?_
                                clear hx209; cbv
                                have e := ret_some h; clear h
                                refine hK _ _ ?_
                                cbv
                                try (subst e; simp only [D.har, D.hcmp, D.hcv, D.hne0, and_self, and_true, true_and] <;> (repeat' apply And.intro) <;> rfl)
                              · refine R.cutB Sum.inl (fun _ _ e => Sum.inl.inj e) h [] (fun p211 => []) (fun p211 => []) (by kernel_rfl) (by kernel_rfl) (fun y210 hy hFy210 L hLy210 => ?_) (fun p211 h2 => ?_)
                                · clear h; have h := hy; clear hy; cbv
                                  refine R.cut' (by kernel_rfl) (by kernel_rfl) ?_
                                  cbv
                                  refine R.brD h (by (first | (simp only [D.har, D.hcmp, D.hcv, D.hne0]; done) | rfl | (simp only [D.har, D.hcmp, D.hcv, D.hne0]; rfl))) ?_ ?_ <;> clear h <;> intro h <;> cbv
                                  · refine R.brD h (by (first | (simp only [D.har, D.hcmp, D.hcv, D.hne0]; done) | rfl | (simp only [D.har, D.hcmp, D.hcv, D.hne0]; rfl))) ?_ ?_ <;> clear h <;> intro h <;> cbv
                                    · have e := ret_some h; clear h
                                      have h := hFy210; rw [e] at h; clear e; try dsimp only at h
                                      cbv
                                      have e := ret_some h; clear h
                                      refine hK _ _ ?_
                                      cbv
                                      try (subst e; simp only [D.har, D.hcmp, D.hcv, D.hne0, and_self, and_true, true_and] <;> (repeat' apply And.intro) <;> rfl)
                                    · obtain ⟨s', e, hi⟩ := jn_some Sum.inl h
                                      refine hLy210 s' _ _ hi ⟨by kernel_rfl, ?_, ?_, by kernel_rfl, by kernel_rfl⟩ <;> cbv <;> (try (subst e; simp only [D.har, D.hcmp, D.hcv, D.hne0, and_self, and_true, true_and] <;> (repeat' apply And.intro) <;> rfl))
                                  · obtain ⟨s', e, hi⟩ := jn_some Sum.inl h
                                    refine hLy210 s' _ _ hi ⟨by kernel_rfl, ?_, ?_, by kernel_rfl, by kernel_rfl⟩ <;> cbv <;> (try (subst e; simp only [D.har, D.hcmp, D.hcv, D.hne0, and_self, and_true, true_and] <;> (repeat' apply And.intro) <;> rfl))
                                · clear h; have h := h2; clear h2; try dsimp only at h
                                  cbv
                                  refine R.callD h (fun x212 hx212 h2 => ?_)
                                  clear h; have h := h2; clear h2
                                  refine R.call' (w31 _ _ _ hx212) (by (first | (simp only [D.har, D.hcmp, D.hcv, D.hne0]; done) | rfl | (simp only [D.har, D.hcmp, D.hcv, D.hne0]; rfl))) ?_
                                  clear hx212; cbv
                                  refine R.callD h (fun x213 hx213 h2 => ?_)
                                  clear h; have h := h2; clear h2
                                  refine R.call' (w41 _ _ _ hx213) (by (first | (simp only [D.har, D.hcmp, D.hcv, D.hne0]; done) | rfl | (simp only [D.har, D.hcmp, D.hcv, D.hne0]; rfl))) ?_
                                  clear hx213; cbv
                                  refine R.needD h (by (first | (simp only [D.har, D.hcmp, D.hcv, D.hne0]; done) | rfl | (simp only [D.har, D.hcmp, D.hcv, D.hne0]; rfl))) ?_
                                  clear h; intro h; cbv
                                  refine R.callD h (fun x214 hx214 h2 => ?_)
                                  clear h; have h := h2; clear h2
                                  refine R.call' (w40 _ _ _ _ _ _ hx214) (by (first | (simp only [D.har, D.hcmp, D.hcv, D.hne0]; done) | rfl | (simp only [D.har, D.hcmp, D.hcv, D.hne0]; rfl))) ?_
                                  clear hx214; cbv
                                  have e := ret_some h; clear h
                                  refine hK _ _ ?_
                                  cbv
                                  try (subst e; simp only [D.har, D.hcmp, D.hcv, D.hne0, and_self, and_true, true_and] <;> (repeat' apply And.intro) <;> rfl)
end Go.Proofs.YtjcabmhnekcbgaaDoor
end
section
namespace Go.Proofs.YtjcabmhnekcbgaaDoor
open Go.Ab Go.RowKit 
set_option maxRecDepth 100000
set_option maxHeartbeats 40000000
noncomputable def d51 (a0_0 : Int) (a0_1 : Bool) (a1 : Int) : Option (ByteArray) :=
  if (cmpLit .lss a1 0) = true then
    (d54 a0_0 a0_1).bind fun x5 =>
    if (notB' x5) = true then
      (d85 (unReal .neg .u64 (wrapK .u64 a1))).bind fun x6 =>
      if (Sroom (ByteArray.mk #[45]) x6) then
        some (catS (ByteArray.mk #[45]) x6)
      else none
    else
      (d85 (wrapK .u64 a1)).bind fun x7 =>
      some x7
  else
    (d85 (wrapK .u64 a1)).bind fun x8 =>
    some x8
noncomputable def w51_c : Code := (Tryd.f51.body).getD .skip
theorem w51_h : Tryd.f51.body = some w51_c := by kernel_rfl
theorem w51 (a0_0 : Int) (a0_1 : Bool) (a1 : Int) (r : ByteArray) (h : d51 a0_0 a0_1 a1 = some r) : Ab.Fn Tryd.prog TT 51 [.agg [.i .i64 a0_0, .b a0_1], .i .i64 a1] (.str r) [] := by
  refine fn_pure tok W0 Tryd.func51 (by kernel_rfl) w51_h (by kernel_rfl) ?_
  intro ar un cv mn mx pl mi cmp nt beq an scmp cat slen sbyte ssub ofB toB len gi gb gs gl sub put app ovl rep ne0 ge0 inb bnd room sroom need br call callb loop cut nl E R K hK
  have D := E.D
  clear E
  unfold d51 at h
  cbv
  refine R.cut' (by kernel_rfl) (by kernel_rfl) ?_
  cbv
  refine R.cut' (by kernel_rfl) (by kernel_rfl) ?_
  cbv
  refine R.brD h (by (first | (simp only [D.hcat, D.hcmp, D.hcv, D.hnt, D.hsroom, D.hun]; done) | rfl | (simp only [D.hcat, D.hcmp, D.hcv, D.hnt, D.hsroom, D.hun]; rfl))) ?_ ?_ <;> clear h <;> intro h <;> cbv
  · refine R.callD h (fun x5 hx5 h2 => ?_)
    clear h; have h := h2; clear h2
    refine R.call' (w54 _ _ _ hx5) (by (first | (simp only [D.hcat, D.hcmp, D.hcv, D.hnt, D.hsroom, D.hun]; done) | rfl | (simp only [D.hcat, D.hcmp, D.hcv, D.hnt, D.hsroom, D.hun]; rfl))) ?_
    clear hx5; cbv
    refine R.brD h (by (first | (simp only [D.hcat, D.hcmp, D.hcv, D.hnt, D.hsroom, D.hun]; done) | rfl | (simp only [D.hcat, D.hcmp, D.hcv, D.hnt, D.hsroom, D.hun]; rfl))) ?_ ?_ <;> clear h <;> intro h <;> cbv
    · refine R.callD h (fun x6 hx6 h2 => ?_)
      clear h; have h := h2; clear h2
      refine R.call' (w85 _ _ hx6) (by (first | (simp only [D.hcat, D.hcmp, D.hcv, D.hnt, D.hsroom, D.hun]; done) | rfl | (simp only [D.hcat, D.hcmp, D.hcv, D.hnt, D.hsroom, D.hun]; rfl))) ?_
      clear hx6; cbv
      refine R.needD h (by (first | (simp only [D.hcat, D.hcmp, D.hcv, D.hnt, D.hsroom, D.hun]; done) | rfl | (simp only [D.hcat, D.hcmp, D.hcv, D.hnt, D.hsroom, D.hun]; rfl))) ?_
      clear h; intro h; cbv
      have e := ret_some h; clear h
      refine hK _ _ ?_
      cbv
      try (subst e; simp only [D.hcat, D.hcmp, D.hcv, D.hnt, D.hsroom, D.hun, and_self, and_true, true_and] <;> (repeat' apply And.intro) <;> rfl)
    · refine R.callD h (fun x7 hx7 h2 => ?_)
      clear h; have h := h2; clear h2
      refine R.call' (w85 _ _ hx7) (by (first | (simp only [D.hcat, D.hcmp, D.hcv, D.hnt, D.hsroom, D.hun]; done) | rfl | (simp only [D.hcat, D.hcmp, D.hcv, D.hnt, D.hsroom, D.hun]; rfl))) ?_
      clear hx7; cbv
      have e := ret_some h; clear h
      refine hK _ _ ?_
      cbv
      try (subst e; simp only [D.hcat, D.hcmp, D.hcv, D.hnt, D.hsroom, D.hun, and_self, and_true, true_and] <;> (repeat' apply And.intro) <;> rfl)
  · refine R.callD h (fun x8 hx8 h2 => ?_)
    clear h; have h := h2; clear h2
    refine R.call' (w85 _ _ hx8) (by (first | (simp only [D.hcat, D.hcmp, D.hcv, D.hnt, D.hsroom, D.hun]; done) | rfl | (simp only [D.hcat, D.hcmp, D.hcv, D.hnt, D.hsroom, D.hun]; rfl))) ?_
    clear hx8; cbv
    have e := ret_some h; clear h
    refine hK _ _ ?_
    cbv
    try (subst e; simp only [D.hcat, D.hcmp, D.hcv, D.hnt, D.hsroom, D.hun, and_self, and_true, true_and] <;> (repeat' apply And.intro) <;> rfl)

noncomputable def d29 (a0_0 : Int) (a0_1 : Bool) (a1 : Int) : Option (ByteArray × Int) :=
  (d15 a0_0 a0_1).bind fun x2 =>
  if (cmpLit .neq x2 0) = true then
    some (ByteArray.empty, x2)
  else
    (d33 a0_0 a0_1 a1).bind fun x3 =>
    (d51 a0_0 a0_1 x3).bind fun x4 =>
    some (x4, 0)
noncomputable def w29_c : Code := (Tryd.f29.body).getD .skip
theorem w29_h : Tryd.f29.body = some w29_c := by kernel_rfl
theorem w29 (a0_0 : Int) (a0_1 : Bool) (a1 : Int) (r : ByteArray × Int) (h : d29 a0_0 a0_1 a1 = some r) : Ab.Fn Tryd.prog TT 29 [.agg [.i .i64 a0_0, .b a0_1], .i .i64 a1] (.tup [.str r.1, .i .i64 r.2]) [] := by
  refine fn_pure tok (fun r => match r with | 4 => [[],[],[],[1,2],[0,1,2,3],[0,1,2,3,4],[0,1,2,3,4,5]] | _ => []) Tryd.func29 (by kernel_rfl) w29_h (by kernel_rfl) ?_
  intro ar un cv mn mx pl mi cmp nt beq an scmp cat slen sbyte ssub ofB toB len gi gb gs gl sub put app ovl rep ne0 ge0 inb bnd room sroom need br call callb loop cut nl E R K hK
  have D := E.D
  clear E
  unfold d29 at h
  cbv
  refine R.cut' (by kernel_rfl) (by kernel_rfl) ?_
  cbv
  refine R.callD h (fun x2 hx2 h2 => ?_)
  clear h; have h := h2; clear h2
  refine R.call' (w15 _ _ _ hx2) (by (first | (simp only [D.hcmp]; done) | rfl | (simp only [D.hcmp]; rfl))) ?_
  clear hx2; cbv
  refine R.brD h (by (first | (simp only [D.hcmp]; done) | rfl | (simp only [D.hcmp]; rfl))) ?_ ?_ <;> clear h <;> intro h <;> cbv
  · have e := ret_some h; clear h
    refine hK _ _ ?_
    cbv
    try (subst e; simp only [D.hcmp, and_self, and_true, true_and] <;> (repeat' apply And.intro) <;> rfl)
  · refine R.callD h (fun x3 hx3 h2 => ?_)
    clear h; have h := h2; clear h2
    refine R.call' (w33 _ _ _ _ hx3) (by (first | (simp only [D.hcmp]; done) | rfl | (simp only [D.hcmp]; rfl))) ?_
    clear hx3; cbv
    refine R.callD h (fun x4 hx4 h2 => ?_)
    clear h; have h := h2; clear h2
    refine R.call' (w51 _ _ _ _ hx4) (by (first | (simp only [D.hcmp]; done) | rfl | (simp only [D.hcmp]; rfl))) ?_
    clear hx4; cbv
    have e := ret_some h; clear h
    refine hK _ _ ?_
    cbv
    try (subst e; simp only [D.hcmp, and_self, and_true, true_and] <;> (repeat' apply And.intro) <;> rfl)

noncomputable def d91 (a0 : ByteArray) (a1 : ByteArray) : Option (Bool) :=
  if (cmpLit .geq (slenI a0) (slenI a1)) = true then
    if (Bnd 0 (slenI a1) (slenI a0)) then
      some (strCmp .eql (subS a0 0 (slenI a1)) a1)
    else none
  else
    some false
noncomputable def w91_c : Code := (Tryd.f91.body).getD .skip
theorem w91_h : Tryd.f91.body = some w91_c := by kernel_rfl
theorem w91 (a0 : ByteArray) (a1 : ByteArray) (r : Bool) (h : d91 a0 a1 = some r) : Ab.Fn Tryd.prog TT 91 [.str a0, .str a1] (.b r) [] := by
  refine fn_pure tok W0 Tryd.func91 (by kernel_rfl) w91_h (by kernel_rfl) ?_
  intro ar un cv mn mx pl mi cmp nt beq an scmp cat slen sbyte ssub ofB toB len gi gb gs gl sub put app ovl rep ne0 ge0 inb bnd room sroom need br call callb loop cut nl E R K hK
  have D := E.D
  clear E
  unfold d91 at h
  cbv
  refine R.cut' (by kernel_rfl) (by kernel_rfl) ?_
  cbv
  refine R.brD h (by (first | (simp only [D.hbnd, D.hcmp, D.hscmp, D.hslen, D.hssub]; done) | rfl | (simp only [D.hbnd, D.hcmp, D.hscmp, D.hslen, D.hssub]; rfl))) ?_ ?_ <;> clear h <;> intro h <;> cbv
  · refine R.needD h (by (first | (simp only [D.hbnd, D.hcmp, D.hscmp, D.hslen, D.hssub]; done) | rfl | (simp only [D.hbnd, D.hcmp, D.hscmp, D.hslen, D.hssub]; rfl))) ?_
    clear h; intro h; cbv
    have e := ret_some h; clear h
    refine hK _ _ ?_
    cbv
    try (subst e; simp only [D.hbnd, D.hcmp, D.hscmp, D.hslen, D.hssub, and_self, and_true, true_and] <;> (repeat' apply And.intro) <;> rfl)
  · have e := ret_some h; clear h
    refine hK _ _ ?_
    cbv
    try (subst e; simp only [D.hbnd, D.hcmp, D.hscmp, D.hslen, D.hssub, and_self, and_true, true_and] <;> (repeat' apply And.intro) <;> rfl)

noncomputable def d86 (a0 : ByteArray) (a1 : ByteArray) : Option (ByteArray × Bool) :=
  (d91 a0 a1).bind fun x2 =>
  if (notB' x2) = true then
    some (a0, false)
  else
    if (Bnd (slenI a1) (slenI a0) (slenI a0)) then
      some ((subS a0 (slenI a1) (slenI a0)), true)
    else none
noncomputable def w86_c : Code := (Tryd.f86.body).getD .skip
theorem w86_h : Tryd.f86.body = some w86_c := by kernel_rfl
theorem w86 (a0 : ByteArray) (a1 : ByteArray) (r : ByteArray × Bool) (h : d86 a0 a1 = some r) : Ab.Fn Tryd.prog TT 86 [.str a0, .str a1] (.tup [.str r.1, .b r.2]) [] := by
  refine fn_pure tok W0 Tryd.func86 (by kernel_rfl) w86_h (by kernel_rfl) ?_
  intro ar un cv mn mx pl mi cmp nt beq an scmp cat slen sbyte ssub ofB toB len gi gb gs gl sub put app ovl rep ne0 ge0 inb bnd room sroom need br call callb loop cut nl E R K hK
  have D := E.D
  clear E
  unfold d86 at h
  cbv
  refine R.cut' (by kernel_rfl) (by kernel_rfl) ?_
  cbv
  refine R.callD h (fun x2 hx2 h2 => ?_)
  clear h; have h := h2; clear h2
  refine R.call' (w91 _ _ _ hx2) (by (first | (simp only [D.hbnd, D.hnt, D.hslen, D.hssub]; done) | rfl | (simp only [D.hbnd, D.hnt, D.hslen, D.hssub]; rfl))) ?_
  clear hx2; cbv
  refine R.brD h (by (first | (simp only [D.hbnd, D.hnt, D.hslen, D.hssub]; done) | rfl | (simp only [D.hbnd, D.hnt, D.hslen, D.hssub]; rfl))) ?_ ?_ <;> clear h <;> intro h <;> cbv
  · have e := ret_some h; clear h
    refine hK _ _ ?_
    cbv
    try (subst e; simp only [D.hbnd, D.hnt, D.hslen, D.hssub, and_self, and_true, true_and] <;> (repeat' apply And.intro) <;> rfl)
  · refine R.needD h (by (first | (simp only [D.hbnd, D.hnt, D.hslen, D.hssub]; done) | rfl | (simp only [D.hbnd, D.hnt, D.hslen, D.hssub]; rfl))) ?_
    clear h; intro h; cbv
    have e := ret_some h; clear h
    refine hK _ _ ?_
    cbv
    try (subst e; simp only [D.hbnd, D.hnt, D.hslen, D.hssub, and_self, and_true, true_and] <;> (repeat' apply And.intro) <;> rfl)

noncomputable def d52 (a0 : ByteArray) (a1 : ByteArray) : Option (ByteArray × Bool) :=
  (d86 a0 a1).bind fun x1 =>
  some (x1.1, x1.2)
noncomputable def w52_c : Code := (Tryd.f52.body).getD .skip
theorem w52_h : Tryd.f52.body = some w52_c := by kernel_rfl
theorem w52 (a0 : ByteArray) (a1 : ByteArray) (r : ByteArray × Bool) (h : d52 a0 a1 = some r) : Ab.Fn Tryd.prog TT 52 [.str a0, .str a1] (.tup [.str r.1, .b r.2]) [] := by
  refine fn_pure tok W0 Tryd.func52 (by kernel_rfl) w52_h (by kernel_rfl) ?_
  intro ar un cv mn mx pl mi cmp nt beq an scmp cat slen sbyte ssub ofB toB len gi gb gs gl sub put app ovl rep ne0 ge0 inb bnd room sroom need br call callb loop cut nl E R K hK
  have D := E.D
  clear E
  unfold d52 at h
  cbv
  refine R.callD h (fun x1 hx1 h2 => ?_)
  clear h; have h := h2; clear h2
  refine R.call' (w86 _ _ _ hx1) (by rfl) ?_
  clear hx1; cbv
  have e := ret_some h; clear h
  refine hK _ _ ?_
  cbv
  try (subst e; simp only [and_self, and_true, true_and] <;> (repeat' apply And.intro) <;> rfl)

noncomputable def d87 (a0 : Int) : Option (Int) :=
  Option.bind (α := Bool) (
    if (cmpLit .geq a0 48) = true then
      some (cmpLit .leq a0 57)
    else
      some false) fun y5 =>
  if y5 = true then
    some (wrapK .u64 (arReal .sub .u8 a0 48))
  else
    Option.bind (α := Bool) (
      if (cmpLit .geq a0 97) = true then
        some (cmpLit .leq a0 102)
      else
        some false) fun y7 =>
    if y7 = true then
      some (arReal .add .u64 (wrapK .u64 (arReal .sub .u8 a0 97)) 10)
    else
      if (cmpLit .geq a0 65) = true then
        if (cmpLit .leq a0 70) = true then
          some (arReal .add .u64 (wrapK .u64 (arReal .sub .u8 a0 65)) 10)
        else
          some 16
      else
        some 16
noncomputable def w87_c : Code := (Tryd.f87.body).getD .skip
theorem w87_h : Tryd.f87.body = some w87_c := by kernel_rfl
theorem w87 (a0 : Int) (r : Int) (h : d87 a0 = some r) : Ab.Fn Tryd.prog TT 87 [.i .u8 a0] (.i .u64 r) [] := by
  refine fn_pure tok W0 Tryd.func87 (by kernel_rfl) w87_h (by kernel_rfl) ?_
  intro ar un cv mn mx pl mi cmp nt beq an scmp cat slen sbyte ssub ofB toB len gi gb gs gl sub put app ovl rep ne0 ge0 inb bnd room sroom need br call callb loop cut nl E R K hK
  have D := E.D
  clear E
  unfold d87 at h
  cbv
  refine R.cut' (by kernel_rfl) (by kernel_rfl) ?_
  cbv
  refine R.cutB (fun p => p) (fun _ _ e => e) h [] (fun p6 => [(3, .b p6)]) (fun p6 => []) (by kernel_rfl) (by kernel_rfl) (fun y5 hy hFy5 L hLy5 => ?_) (fun p6 h2 => ?_)
  · clear h; have h := hy; clear hy; cbv
    refine R.brD h (by (first | (simp only [D.har, D.hcmp, D.hcv]; done) | rfl | (simp only [D.har, D.hcmp, D.hcv]; rfl))) ?_ ?_ <;> clear h <;> intro h <;> cbv
    · obtain ⟨s', e, hi⟩ := jn_some (fun p => p) h
      refine hLy5 s' _ _ hi ⟨by kernel_rfl, ?_, ?_, by kernel_rfl, by kernel_rfl⟩ <;> cbv <;> (try (subst e; simp only [D.har, D.hcmp, D.hcv, and_self, and_true, true_and] <;> (repeat' apply And.intro) <;> rfl))
    · obtain ⟨s', e, hi⟩ := jn_some (fun p => p) h
      refine hLy5 s' _ _ hi ⟨by kernel_rfl, ?_, ?_, by kernel_rfl, by kernel_rfl⟩ <;> cbv <;> (try (subst e; simp only [D.har, D.hcmp, D.hcv, and_self, and_true, true_and] <;> (repeat' apply And.intro) <;> rfl))
  · clear h; have h := h2; clear h2; try dsimp only at h
    cbv
    refine R.brD h (by (first | (simp only [D.har, D.hcmp, D.hcv]; done) | rfl | (simp only [D.har, D.hcmp, D.hcv]; rfl))) ?_ ?_ <;> clear h <;> intro h <;> cbv
    · have e := ret_some h; clear h
      refine hK _ _ ?_
      cbv
      try (subst e; simp only [D.har, D.hcmp, D.hcv, and_self, and_true, true_and] <;> (repeat' apply And.intro) <;> rfl)
    · refine R.cutB (fun p => p) (fun _ _ e => e) h [] (fun p8 => [(13, .b p8)]) (fun p8 => []) (by kernel_rfl) (by kernel_rfl) (fun y7 hy hFy7 L hLy7 => ?_) (fun p8 h2 => ?_)
      · clear h; have h := hy; clear hy; cbv
        refine R.brD h (by (first | (simp only [D.har, D.hcmp, D.hcv]; done) | rfl | (simp only [D.har, D.hcmp, D.hcv]; rfl))) ?_ ?_ <;> clear h <;> intro h <;> cbv
        · obtain ⟨s', e, hi⟩ := jn_some (fun p => p) h
          refine hLy7 s' _ _ hi ⟨by kernel_rfl, ?_, ?_, by kernel_rfl, by kernel_rfl⟩ <;> cbv <;> (try (subst e; simp only [D.har, D.hcmp, D.hcv, and_self, and_true, true_and] <;> (repeat' apply And.intro) <;> rfl))
        · obtain ⟨s', e, hi⟩ := jn_some (fun p => p) h
          refine hLy7 s' _ _ hi ⟨by kernel_rfl, ?_, ?_, by kernel_rfl, by kernel_rfl⟩ <;> cbv <;> (try (subst e; simp only [D.har, D.hcmp, D.hcv, and_self, and_true, true_and] <;> (repeat' apply And.intro) <;> rfl))
      · clear h; have h := h2; clear h2; try dsimp only at h
        cbv
        refine R.brD h (by (first | (simp only [D.har, D.hcmp, D.hcv]; done) | rfl | (simp only [D.har, D.hcmp, D.hcv]; rfl))) ?_ ?_ <;> clear h <;> intro h <;> cbv
        · have e := ret_some h; clear h
          refine hK _ _ ?_
          cbv
          try (subst e; simp only [D.har, D.hcmp, D.hcv, and_self, and_true, true_and] <;> (repeat' apply And.intro) <;> rfl)
        · refine R.cut' (by kernel_rfl) (by kernel_rfl) ?_
          cbv
          refine R.brD h (by (first | (simp only [D.har, D.hcmp, D.hcv]; done) | rfl | (simp only [D.har, D.hcmp, D.hcv]; rfl))) ?_ ?_ <;> clear h <;> intro h <;> cbv
          · refine R.brD h (by (first | (simp only [D.har, D.hcmp, D.hcv]; done) | rfl | (simp only [D.har, D.hcmp, D.hcv]; rfl))) ?_ ?_ <;> clear h <;> intro h <;> cbv
            · have e := ret_some h; clear h
              refine hK _ _ ?_
              cbv
              try (subst e; simp only [D.har, D.hcmp, D.hcv, and_self, and_true, true_and] <;> (repeat' apply And.intro) <;> rfl)
            · have e := ret_some h; clear h
              refine hK _ _ ?_
              cbv
              try (subst e; simp only [D.har, D.hcmp, D.hcv, and_self, and_true, true_and] <;> (repeat' apply And.intro) <;> rfl)
          · have e := ret_some h; clear h
            refine hK _ _ ?_
            cbv
            try (subst e; simp only [D.har, D.hcmp, D.hcv, and_self, and_true, true_and] <;> (repeat' apply And.intro) <;> rfl)

noncomputable def d88 (a0 : Int) (a1 : Int) : Option (Int × Int) :=
  if (Ge0 32) then
    if (Ge0 32) then
      if (Ge0 32) then
        if (Ge0 32) then
          if (Ge0 32) then
            some ((arReal .add .u64 (arReal .add .u64 (arReal .mul .u64 (arReal .shr .u64 a0 32) (arReal .shr .u64 a1 32)) (arReal .shr .u64 (arReal .add .u64 (arReal .mul .u64 (arReal .shr .u64 a0 32) (arReal .and .u64 a1 4294967295)) (arReal .shr .u64 (arReal .mul .u64 (arReal .and .u64 a0 4294967295) (arReal .and .u64 a1 4294967295)) 32)) 32)) (arReal .shr .u64 (arReal .add .u64 (arReal .and .u64 (arReal .add .u64 (arReal .mul .u64 (arReal .shr .u64 a0 32) (arReal .and .u64 a1 4294967295)) (arReal .shr .u64 (arReal .mul .u64 (arReal .and .u64 a0 4294967295) (arReal .and .u64 a1 4294967295)) 32)) 4294967295) (arReal .mul .u64 (arReal .and .u64 a0 4294967295) (arReal .shr .u64 a1 32))) 32)), (arReal .mul .u64 a0 a1))
          else none
        else none
      else none
    else none
  else none
noncomputable def w88_c : Code := (Tryd.f88.body).getD .skip
theorem w88_h : Tryd.f88.body = some w88_c := by kernel_rfl
theorem w88 (a0 : Int) (a1 : Int) (r : Int × Int) (h : d88 a0 a1 = some r) : Ab.Fn Tryd.prog TT 88 [.i .u64 a0, .i .u64 a1] (.tup [.i .u64 r.1, .i .u64 r.2]) [] := by
  refine fn_pure tok W0 Tryd.func88 (by kernel_rfl) w88_h (by kernel_rfl) ?_
  intro ar un cv mn mx pl mi cmp nt beq an scmp cat slen sbyte ssub ofB toB len gi gb gs gl sub put app ovl rep ne0 ge0 inb bnd room sroom need br call callb loop cut nl E R K hK
  have D := E.D
  clear E
  unfold d88 at h
  cbv
  refine R.needD h (by (first | (simp only [D.har, D.hge0]; done) | rfl | (simp only [D.har, D.hge0]; rfl))) ?_
  clear h; intro h; cbv
  refine R.needD h (by (first | (simp only [D.har, D.hge0]; done) | rfl | (simp only [D.har, D.hge0]; rfl))) ?_
  clear h; intro h; cbv
  refine R.needD h (by (first | (simp only [D.har, D.hge0]; done) | rfl | (simp only [D.har, D.hge0]; rfl))) ?_
  clear h; intro h; cbv
  refine R.needD h (by (first | (simp only [D.har, D.hge0]; done) | rfl | (simp only [D.har, D.hge0]; rfl))) ?_
  clear h; intro h; cbv
  refine R.needD h (by (first | (simp only [D.har, D.hge0]; done) | rfl | (simp only [D.har, D.hge0]; rfl))) ?_
  clear h; intro h; cbv
  have e := ret_some h; clear h
  refine hK _ _ ?_
  cbv
  try (subst e; simp only [D.har, D.hge0, and_self, and_true, true_and] <;> (repeat' apply And.intro) <;> rfl)

noncomputable def d53_b1 (a0 : ByteArray) (a1 : Int) (s22 : Int × Int) : Option ((Int × Int) ⊕ ((Int × Bool) ⊕ (Int))) :=
  if (cmpLit .lss s22.2 (slenI a0)) = true then
    if (Inb s22.2 (slenI a0)) then
      (d87 (sbyteI a0 s22.2)).bind fun x33 =>
      (d88 s22.1 a1).bind fun x34 =>
      (d89 x34.2 x33 0).bind fun x35 =>
      if (cmpLit .geq x33 a1) = true then
        some (.inr (.inl (0, false)))
      else
        if (cmpLit .neq x34.1 0) = true then
          some (.inr (.inl (0, false)))
        else
          if (cmpLit .neq x35.2 0) = true then
            some (.inr (.inl (0, false)))
          else
            some (.inl (x35.1, (arReal .add .i64 s22.2 1)))
    else none
  else
    some (.inr (.inr s22.1))
noncomputable def d53 (a0 : ByteArray) (a1 : Int) : Option (Int × Bool) :=
  Option.bind (α := (Int) ⊕ (Int × Bool)) (
    (iter (d53_b1 a0 a1) (0, 0)).bind fun y29 =>
    match y29 with
    | .inl p36 =>
      some (.inr p36)
    | .inr y29r0 =>
      some (.inl y29r0)) fun y15 =>
  match y15 with
  | .inl p38 =>
    some (p38, (strCmp .neq a0 ByteArray.empty))
  | .inr y15r0 =>
    some y15r0
noncomputable def w53_c : Code := (Tryd.f53.body).getD .skip
theorem w53_h : Tryd.f53.body = some w53_c := by kernel_rfl
theorem w53 (a0 : ByteArray) (a1 : Int) (r : Int × Bool) (h : d53 a0 a1 = some r) : Ab.Fn Tryd.prog TT 53 [.str a0, .i .u64 a1] (.tup [.i .u64 r.1, .b r.2]) [] := by
  refine fn_pure tok W0 Tryd.func53 (by kernel_rfl) w53_h (by kernel_rfl) ?_
  intro ar un cv mn mx pl mi cmp nt beq an scmp cat slen sbyte ssub ofB toB len gi gb gs gl sub put app ovl rep ne0 ge0 inb bnd room sroom need br call callb loop cut nl E R K hK
  have D := E.D
  clear E
  unfold d53 at h
  cbv
  refine R.cutB Sum.inl (fun _ _ e => Sum.inl.inj e) h [] (fun p38 => [(6, .i .u64 p38)]) (fun p38 => []) (by kernel_rfl) (by kernel_rfl) (fun y15 hy hFy15 L hLy15 => ?_) (fun p38 h2 => ?_)
  · clear h; have h := hy; clear hy; cbv
    refine R.loopD h (fun s0 y29 e0 hi hFs22 => ?_)
    clear h
    refine R.loopI hi [] (fun s22 => [(6, .i .u64 s22.1), (15, .i .i64 s22.2)]) (fun s22 => []) ⟨by kernel_rfl, ?_, ?_, by kernel_rfl, by kernel_rfl⟩ (by kernel_rfl) ?_
    · cbv; try (subst e0; simp only [D.har, D.hcmp, D.hinb, D.hsbyte, D.hscmp, D.hslen, and_self, and_true, true_and] <;> (repeat' apply And.intro) <;> rfl)
    · cbv; try (subst e0; simp only [D.har, D.hcmp, D.hinb, D.hsbyte, D.hscmp, D.hslen, and_self, and_true, true_and] <;> (repeat' apply And.intro) <;> rfl)
    clear hi e0
    intro s22 m y' hy hins22 houts22 L hLs22
    have h := hy; clear hy; unfold d53_b1 at h
    cbv
    refine R.cut' (by kernel_rfl) (by kernel_rfl) ?_
    cbv
    refine R.brD h (by (first | (simp only [D.har, D.hcmp, D.hinb, D.hsbyte, D.hscmp, D.hslen]; done) | rfl | (simp only [D.har, D.hcmp, D.hinb, D.hsbyte, D.hscmp, D.hslen]; rfl))) ?_ ?_ <;> clear h <;> intro h <;> cbv
    · refine R.cut' (by kernel_rfl) (by kernel_rfl) ?_
      cbv
      refine R.needD h (by (first | (simp only [D.har, D.hcmp, D.hinb, D.hsbyte, D.hscmp, D.hslen]; done) | rfl | (simp only [D.har, D.hcmp, D.hinb, D.hsbyte, D.hscmp, D.hslen]; rfl))) ?_
      clear h; intro h; cbv
      refine R.callD h (fun x33 hx33 h2 => ?_)
      clear h; have h := h2; clear h2
      refine R.call' (w87 _ _ hx33) (by (first | (simp only [D.har, D.hcmp, D.hinb, D.hsbyte, D.hscmp, D.hslen]; done) | rfl | (simp only [D.har, D.hcmp, D.hinb, D.hsbyte, D.hscmp, D.hslen]; rfl))) ?_
      clear hx33; cbv
      refine R.callD h (fun x34 hx34 h2 => ?_)
      clear h; have h := h2; clear h2
      refine R.call' (w88 _ _ _ hx34) (by (first | (simp only [D.har, D.hcmp, D.hinb, D.hsbyte, D.hscmp, D.hslen]; done) | rfl | (simp only [D.har, D.hcmp, D.hinb, D.hsbyte, D.hscmp, D.hslen]; rfl))) ?_
      clear hx34; cbv
      refine R.callD h (fun x35 hx35 h2 => ?_)
      clear h; have h := h2; clear h2
      refine R.call' (w89 _ _ _ _ hx35) (by (first | (simp only [D.har, D.hcmp, D.hinb, D.hsbyte, D.hscmp, D.hslen]; done) | rfl | (simp only [D.har, D.hcmp, D.hinb, D.hsbyte, D.hscmp, D.hslen]; rfl))) ?_
      clear hx35; cbv
      refine R.cut' (by kernel_rfl) (by kernel_rfl) ?_
      cbv
      refine R.cut' (by kernel_rfl) (by kernel_rfl) ?_
      cbv
      refine R.brD h (by (first | (simp only [D.har, D.hcmp, D.hinb, D.hsbyte, D.hscmp, D.hslen]; done) | rfl | (simp only [D.har, D.hcmp, D.hinb, D.hsbyte, D.hscmp, D.hslen]; rfl))) ?_ ?_ <;> clear h <;> intro h <;> cbv
      · have e := inr_some h houts22; clear h
        have h := hFs22; rw [e] at h; clear e; try dsimp only at h
        cbv
        have e := ret_some h; clear h
        have h := hFy15; rw [e] at h; clear e; try dsimp only at h
        cbv
        have e := ret_some h; clear h
        refine hK _ _ ?_
        cbv
        try (subst e; simp only [D.har, D.hcmp, D.hinb, D.hsbyte, D.hscmp, D.hslen, and_self, and_true, true_and] <;> (repeat' apply And.intro) <;> rfl)
      · refine R.brD h (by (first | (simp only [D.har, D.hcmp, D.hinb, D.hsbyte, D.hscmp, D.hslen]; done) | rfl | (simp only [D.har, D.hcmp, D.hinb, D.hsbyte, D.hscmp, D.hslen]; rfl))) ?_ ?_ <;> clear h <;> intro h <;> cbv
        · have e := inr_some h houts22; clear h
          have h := hFs22; rw [e] at h; clear e; try dsimp only at h
          cbv
          have e := ret_some h; clear h
          have h := hFy15; rw [e] at h; clear e; try dsimp only at h
          cbv
          have e := ret_some h; clear h
          refine hK _ _ ?_
          cbv
          try (subst e; simp only [D.har, D.hcmp, D.hinb, D.hsbyte, D.hscmp, D.hslen, and_self, and_true, true_and] <;> (repeat' apply And.intro) <;> rfl)
        · refine R.brD h (by (first | (simp only [D.har, D.hcmp, D.hinb, D.hsbyte, D.hscmp, D.hslen]; done) | rfl | (simp only [D.har, D.hcmp, D.hinb, D.hsbyte, D.hscmp, D.hslen]; rfl))) ?_ ?_ <;> clear h <;> intro h <;> cbv
          · have e := inr_some h houts22; clear h
            have h := hFs22; rw [e] at h; clear e; try dsimp only at h
            cbv
            have e := ret_some h; clear h
            have h := hFy15; rw [e] at h; clear e; try dsimp only at h
            cbv
            have e := ret_some h; clear h
            refine hK _ _ ?_
            cbv
            try (subst e; simp only [D.har, D.hcmp, D.hinb, D.hsbyte, D.hscmp, D.hslen, and_self, and_true, true_and] <;> (repeat' apply And.intro) <;> rfl)
          · obtain ⟨s', e, hi⟩ := inl_some h hins22
            refine hLs22 s' _ _ hi ⟨by kernel_rfl, ?_, ?_, by kernel_rfl, by kernel_rfl⟩ <;> cbv <;> (try (subst e; simp only [D.har, D.hcmp, D.hinb, D.hsbyte, D.hscmp, D.hslen, and_self, and_true, true_and] <;> (repeat' apply And.intro) <;> rfl))
    · have e := inr_some h houts22; clear h
      have h := hFs22; rw [e] at h; clear e; try dsimp only at h
      cbv
      obtain ⟨s', e, hi⟩ := jn_some Sum.inl h
      refine hLy15 s' _ _ hi ⟨by kernel_rfl, ?_, ?_, by kernel_rfl, by kernel_rfl⟩ <;> cbv <;> (try (subst e; simp only [D.har, D.hcmp, D.hinb, D.hsbyte, D.hscmp, D.hslen, and_self, and_true, true_and] <;> (repeat' apply And.intro) <;> rfl))
  · clear h; have h := h2; clear h2; try dsimp only at h
    cbv
    have e := ret_some h; clear h
    refine hK _ _ ?_
    cbv
    try (subst e; simp only [D.har, D.hcmp, D.hinb, D.hsbyte, D.hscmp, D.hslen, and_self, and_true, true_and] <;> (repeat' apply And.intro) <;> rfl)

noncomputable def d90 (a0 : ByteArray) (a1 : ByteArray) : Option (ByteArray) :=
  (d91 a0 a1).bind fun x2 =>
  if x2 = true then
    if (Bnd (slenI a1) (slenI a0) (slenI a0)) then
      some (subS a0 (slenI a1) (slenI a0))
    else none
  else
    some a0
noncomputable def w90_c : Code := (Tryd.f90.body).getD .skip
theorem w90_h : Tryd.f90.body = some w90_c := by kernel_rfl
theorem w90 (a0 : ByteArray) (a1 : ByteArray) (r : ByteArray) (h : d90 a0 a1 = some r) : Ab.Fn Tryd.prog TT 90 [.str a0, .str a1] (.str r) [] := by
  refine fn_pure tok W0 Tryd.func90 (by kernel_rfl) w90_h (by kernel_rfl) ?_
  intro ar un cv mn mx pl mi cmp nt beq an scmp cat slen sbyte ssub ofB toB len gi gb gs gl sub put app ovl rep ne0 ge0 inb bnd room sroom need br call callb loop cut nl E R K hK
  have D := E.D
  clear E
  unfold d90 at h
  cbv
  refine R.cut' (by kernel_rfl) (by kernel_rfl) ?_
  cbv
  refine R.callD h (fun x2 hx2 h2 => ?_)
  clear h; have h := h2; clear h2
  refine R.call' (w91 _ _ _ hx2) (by (first | (simp only [D.hbnd, D.hslen, D.hssub]; done) | rfl | (simp only [D.hbnd, D.hslen, D.hssub]; rfl))) ?_
  clear hx2; cbv
  refine R.brD h (by (first | (simp only [D.hbnd, D.hslen, D.hssub]; done) | rfl | (simp only [D.hbnd, D.hslen, D.hssub]; rfl))) ?_ ?_ <;> clear h <;> intro h <;> cbv
  · refine R.needD h (by (first | (simp only [D.hbnd, D.hslen, D.hssub]; done) | rfl | (simp only [D.hbnd, D.hslen, D.hssub]; rfl))) ?_
    clear h; intro h; cbv
    have e := ret_some h; clear h
    refine hK _ _ ?_
    cbv
    try (subst e; simp only [D.hbnd, D.hslen, D.hssub, and_self, and_true, true_and] <;> (repeat' apply And.intro) <;> rfl)
  · have e := ret_some h; clear h
    refine hK _ _ ?_
    cbv
    try (subst e; simp only [D.hbnd, D.hslen, D.hssub, and_self, and_true, true_and] <;> (repeat' apply And.intro) <;> rfl)

noncomputable def d55 (a0 : ByteArray) (a1 : ByteArray) : Option (ByteArray) :=
  (d90 a0 a1).bind fun x1 =>
  some x1
noncomputable def w55_c : Code := (Tryd.f55.body).getD .skip
theorem w55_h : Tryd.f55.body = some w55_c := by kernel_rfl
theorem w55 (a0 : ByteArray) (a1 : ByteArray) (r : ByteArray) (h : d55 a0 a1 = some r) : Ab.Fn Tryd.prog TT 55 [.str a0, .str a1] (.str r) [] := by
  refine fn_pure tok W0 Tryd.func55 (by kernel_rfl) w55_h (by kernel_rfl) ?_
  intro ar un cv mn mx pl mi cmp nt beq an scmp cat slen sbyte ssub ofB toB len gi gb gs gl sub put app ovl rep ne0 ge0 inb bnd room sroom need br call callb loop cut nl E R K hK
  have D := E.D
  clear E
  unfold d55 at h
  cbv
  refine R.callD h (fun x1 hx1 h2 => ?_)
  clear h; have h := h2; clear h2
  refine R.call' (w90 _ _ _ hx1) (by rfl) ?_
  clear hx1; cbv
  have e := ret_some h; clear h
  refine hK _ _ ?_
  cbv
  try (subst e; simp only [and_self, and_true, true_and] <;> (repeat' apply And.intro) <;> rfl)

noncomputable def d56 (a0 : ByteArray) (a1 : ByteArray) : Option (Bool) :=
  (d91 a0 a1).bind fun x1 =>
  some x1
noncomputable def w56_c : Code := (Tryd.f56.body).getD .skip
theorem w56_h : Tryd.f56.body = some w56_c := by kernel_rfl
theorem w56 (a0 : ByteArray) (a1 : ByteArray) (r : Bool) (h : d56 a0 a1 = some r) : Ab.Fn Tryd.prog TT 56 [.str a0, .str a1] (.b r) [] := by
  refine fn_pure tok W0 Tryd.func56 (by kernel_rfl) w56_h (by kernel_rfl) ?_
  intro ar un cv mn mx pl mi cmp nt beq an scmp cat slen sbyte ssub ofB toB len gi gb gs gl sub put app ovl rep ne0 ge0 inb bnd room sroom need br call callb loop cut nl E R K hK
  have D := E.D
  clear E
  unfold d56 at h
  cbv
  refine R.callD h (fun x1 hx1 h2 => ?_)
  clear h; have h := h2; clear h2
  refine R.call' (w91 _ _ _ hx1) (by rfl) ?_
  clear hx1; cbv
  have e := ret_some h; clear h
  refine hK _ _ ?_
  cbv
  try (subst e; simp only [and_self, and_true, true_and] <;> (repeat' apply And.intro) <;> rfl)
end Go.Proofs.YtjcabmhnekcbgaaDoor
end
section
namespace Go.Proofs.YtjcabmhnekcbgaaDoor
open Go.Ab Go.RowKit 
set_option maxRecDepth 100000
set_option maxHeartbeats 40000000
noncomputable def d30 (a0_0 : Int) (a0_1 : Bool) (a1 : ByteArray) : Option (Int × Int) :=
  (d15 a0_0 a0_1).bind fun x2 =>
  if (cmpLit .neq x2 0) = true then
    some (0, x2)
  else
    (d52 a1 (ByteArray.mk #[48, 120])).bind fun x13 =>
    if x13.2 = true then
      (d53 x13.1 16).bind fun x14 =>
      Option.bind (α := Bool) (
        if (notB' x14.2) = true then
          some true
        else
          if (cmpLit .gtr (slenI x13.1) 16) = true then
            some true
          else
            (d33 a0_0 a0_1 (wrapK .i64 x14.1)).bind fun x22 =>
            if (cmpLit .neq x22 (wrapK .i64 x14.1)) = true then
              some true
            else
              if (cmpLit .lss (wrapK .i64 x14.1) 0) = true then
                (d54 a0_0 a0_1).bind fun x23 =>
                some (notB' x23)
              else
                some false) fun y21 =>
      if y21 = true then
        some (0, 13)
      else
        some ((wrapK .i64 x14.1), 0)
    else
      (d55 a1 (ByteArray.mk #[45])).bind fun x25 =>
      (d53 x25 10).bind fun x26 =>
      Option.bind (α := Int) (
        (d56 a1 (ByteArray.mk #[45])).bind fun x29 =>
        if x29 = true then
          some (unReal .neg .i64 (wrapK .i64 x26.1))
        else
          some (wrapK .i64 x26.1)) fun y28 =>
      if (notB' x26.2) = true then
        some (0, 13)
      else
        (d33 a0_0 a0_1 y28).bind fun x37 =>
        (d51 a0_0 a0_1 x37).bind fun x38 =>
        if (strCmp .neq x38 a1) = true then
          some (0, 13)
        else
          some (y28, 0)
noncomputable def w30_c : Code := (Tryd.f30.body).getD .skip
theorem w30_h : Tryd.f30.body = some w30_c := by kernel_rfl
theorem w30 (a0_0 : Int) (a0_1 : Bool) (a1 : ByteArray) (r : Int × Int) (h : d30 a0_0 a0_1 a1 = some r) : Ab.Fn Tryd.prog TT 30 [.agg [.i .i64 a0_0, .b a0_1], .str a1] (.tup [.i .i64 r.1, .i .i64 r.2]) [] := by
  refine fn_pure tok (fun r => match r with | 15 => [[],[0],[0,1],[0,1,2],[0,1,2],[0,1,2],[0,1,2,4,5],[0,1,2,3,4,5,6],[0,1,2],[0,1,2,3,4,5,6,7,8],[0,1,2,3,4,5,6,7,8,9]] | _ => []) Tryd.func30 (by kernel_rfl) w30_h (by kernel_rfl) ?_
  intro ar un cv mn mx pl mi cmp nt beq an scmp cat slen sbyte ssub ofB toB len gi gb gs gl sub put app ovl rep ne0 ge0 inb bnd room sroom need br call callb loop cut nl E R K hK
  have D := E.D
  clear E
  unfold d30 at h
  cbv
  refine R.cut' (by kernel_rfl) (by kernel_rfl) ?_
  cbv
  refine R.callD h (fun x2 hx2 h2 => ?_)
  clear h; have h := h2; clear h2
  refine R.call' (w15 _ _ _ hx2) (by (first | (simp only [D.hcmp, D.hcv, D.hnt, D.hscmp, D.hslen, D.hun]; done) | rfl | (simp only [D.hcmp, D.hcv, D.hnt, D.hscmp, D.hslen, D.hun]; rfl))) ?_
  clear hx2; cbv
  refine R.brD h (by (first | (simp only [D.hcmp, D.hcv, D.hnt, D.hscmp, D.hslen, D.hun]; done) | rfl | (simp only [D.hcmp, D.hcv, D.hnt, D.hscmp, D.hslen, D.hun]; rfl))) ?_ ?_ <;> clear h <;> intro h <;> cbv
  · have e := ret_some h; clear h
    refine hK _ _ ?_
    cbv
    try (subst e; simp only [D.hcmp, D.hcv, D.hnt, D.hscmp, D.hslen, D.hun, and_self, and_true, true_and] <;> (repeat' apply And.intro) <;> rfl)
  · as_aux_lemma =>
    refine R.cut' (by kernel_rfl) (by kernel_rfl) ?_
    cbv
    refine R.callD h (fun x13 hx13 h2 => ?_)
    clear h; have h := h2; clear h2
    refine R.call' (w52 _ _ _ hx13) (by (first | (simp only [D.hcmp, D.hcv, D.hnt, D.hscmp, D.hslen, D.hun]; done) | rfl | (simp only [D.hcmp, D.hcv, D.hnt, D.hscmp, D.hslen, D.hun]; rfl))) ?_
    clear hx13; cbv
    refine R.brD h (by (first | (simp only [D.hcmp, D.hcv, D.hnt, D.hscmp, D.hslen, D.hun]; done) | rfl | (simp only [D.hcmp, D.hcv, D.hnt, D.hscmp, D.hslen, D.hun]; rfl))) ?_ ?_ <;> clear h <;> intro h <;> cbv
    · refine R.callD h (fun x14 hx14 h2 => ?_)
      clear h; have h := h2; clear h2
      refine R.call' (w53 _ _ _ hx14) (by (first | (simp only [D.hcmp, D.hcv, D.hnt, D.hscmp, D.hslen, D.hun]; done) | rfl | (simp only [D.hcmp, D.hcv, D.hnt, D.hscmp, D.hslen, D.hun]; rfl))) ?_
      clear hx14; cbv
      refine R.cut' (by kernel_rfl) (by kernel_rfl) ?_
      cbv
      refine R.cutB (fun p => p) (fun _ _ e => e) h [] (fun p24 => [(55, .b p24)]) (fun p24 => []) (by kernel_rfl) (by kernel_rfl) (fun y21 hy hFy21 L hLy21 => ?_) (fun p24 h2 => ?_)
      · clear h; have h := hy; clear hy; cbv
        refine R.brD h (by (first | (simp only [D.hcmp, D.hcv, D.hnt, D.hscmp, D.hslen, D.hun]; done) | rfl | (simp only [D.hcmp, D.hcv, D.hnt, D.hscmp, D.hslen, D.hun]; rfl))) ?_ ?_ <;> clear h <;> intro h <;> cbv
        · obtain ⟨s', e, hi⟩ := jn_some (fun p => p) h
          refine hLy21 s' _ _ hi ⟨by kernel_rfl, ?_, ?_, by kernel_rfl, by kernel_rfl⟩ <;> cbv <;> (try (subst e; simp only [D.hcmp, D.hcv, D.hnt, D.hscmp, D.hslen, D.hun, and_self, and_true, true_and] <;> (repeat' apply And.intro) <;> rfl))
        · refine R.brD h (by (first | (simp only [D.hcmp, D.hcv, D.hnt, D.hscmp, D.hslen, D.hun]; done) | rfl | (simp only [D.hcmp, D.hcv, D.hnt, D.hscmp, D.hslen, D.hun]; rfl))) ?_ ?_ <;> clear h <;> intro h <;> cbv
          · obtain ⟨s', e, hi⟩ := jn_some (fun p => p) h
            refine hLy21 s' _ _ hi ⟨by kernel_rfl, ?_, ?_, by kernel_rfl, by kernel_rfl⟩ <;> cbv <;> (try (subst e; simp only [D.hcmp, D.hcv, D.hnt, D.hscmp, D.hslen, D.hun, and_self, and_true, true_and] <;> (repeat' apply And.intro) <;> rfl))
          · refine R.callD h (fun x22 hx22 h2 => ?_)
            clear h; have h := h2; clear h2
            refine R.call' (w33 _ _ _ _ hx22) (by (first | (simp only [D.hcmp, D.hcv, D.hnt, D.hscmp, D.hslen, D.hun]; done) | rfl | (simp only [D.hcmp, D.hcv, D.hnt, D.hscmp, D.hslen, D.hun]; rfl))) ?_
            clear hx22; cbv
            refine R.brD h (by (first | (simp only [D.hcmp, D.hcv, D.hnt, D.hscmp, D.hslen, D.hun]; done) | rfl | (simp only [D.hcmp, D.hcv, D.hnt, D.hscmp, D.hslen, D.hun]; rfl))) ?_ ?_ <;> clear h <;> intro h <;> cbv
            · obtain ⟨s', e, hi⟩ := jn_some (fun p => p) h
              refine hLy21 s' _ _ hi ⟨by kernel_rfl, ?_, ?_, by kernel_rfl, by kernel_rfl⟩ <;> cbv <;> (try (subst e; simp only [D.hcmp, D.hcv, D.hnt, D.hscmp, D.hslen, D.hun, and_self, and_true, true_and] <;> (repeat' apply And.intro) <;> rfl))
            · refine R.brD h (by (first | (simp only [D.hcmp, D.hcv, D.hnt, D.hscmp, D.hslen, D.hun]; done) | rfl | (simp only [D.hcmp, D.hcv, D.hnt, D.hscmp, D.hslen, D.hun]; rfl))) ?_ ?_ <;> clear h <;> intro h <;> cbv
              · refine R.callD h (fun x23 hx23 h2 => ?_)
                clear h; have h := h2; clear h2
                refine R.call' (w54 _ _ _ hx23) (by (first | (simp only [D.hcmp, D.hcv, D.hnt, D.hscmp, D.hslen, D.hun]; done) | rfl | (simp only [D.hcmp, D.hcv, D.hnt, D.hscmp, D.hslen, D.hun]; rfl))) ?_
                clear hx23; cbv
                obtain ⟨s', e, hi⟩ := jn_some (fun p => p) h
                refine hLy21 s' _ _ hi ⟨by kernel_rfl, ?_, ?_, by kernel_rfl, by kernel_rfl⟩ <;> cbv <;> (try (subst e; simp only [D.hcmp, D.hcv, D.hnt, D.hscmp, D.hslen, D.hun, and_self, and_true, true_and] <;> (repeat' apply And.intro) <;> rfl))
              · obtain ⟨s', e, hi⟩ := jn_some (fun p => p) h
                refine hLy21 s' _ _ hi ⟨by kernel_rfl, ?_, ?_, by kernel_rfl, by kernel_rfl⟩ <;> cbv <;> (try (subst e; simp only [D.hcmp, D.hcv, D.hnt, D.hscmp, D.hslen, D.hun, and_self, and_true, true_and] <;> (repeat' apply And.intro) <;> rfl))
      · clear h; have h := h2; clear h2; try dsimp only at h
        cbv
        refine R.brD h (by (first | (simp only [D.hcmp, D.hcv, D.hnt, D.hscmp, D.hslen, D.hun]; done) | rfl | (simp only [D.hcmp, D.hcv, D.hnt, D.hscmp, D.hslen, D.hun]; rfl))) ?_ ?_ <;> clear h <;> intro h <;> cbv
        · have e := ret_some h; clear h
          refine hK _ _ ?_
          cbv
          try (subst e; simp only [D.hcmp, D.hcv, D.hnt, D.hscmp, D.hslen, D.hun, and_self, and_true, true_and] <;> (repeat' apply And.intro) <;> rfl)
        · have e := ret_some h; clear h
          refine hK _ _ ?_
          cbv
          try (subst e; simp only [D.hcmp, D.hcv, D.hnt, D.hscmp, D.hslen, D.hun, and_self, and_true, true_and] <;> (repeat' apply And.intro) <;> rfl)
    · refine R.callD h (fun x25 hx25 h2 => ?_)
      clear h; have h := h2; clear h2
      refine R.call' (w55 _ _ _ hx25) (by (first | (simp only [D.hcmp, D.hcv, D.hnt, D.hscmp, D.hslen, D.hun]; done) | rfl | (simp only [D.hcmp, D.hcv, D.hnt, D.hscmp, D.hslen, D.hun]; rfl))) ?_
      clear hx25; cbv
      refine R.callD h (fun x26 hx26 h2 => ?_)
      clear h; have h := h2; clear h2
      refine R.call' (w53 _ _ _ hx26) (by (first | (simp only [D.hcmp, D.hcv, D.hnt, D.hscmp, D.hslen, D.hun]; done) | rfl | (simp only [D.hcmp, D.hcv, D.hnt, D.hscmp, D.hslen, D.hun]; rfl))) ?_
      clear hx26; cbv
      refine R.cutB (fun p => p) (fun _ _ e => e) h [] (fun p30 => [(14, .i .i64 p30)]) (fun p30 => []) (by kernel_rfl) (by kernel_rfl) (fun y28 hy hFy28 L hLy28 => ?_) (fun p30 h2 => ?_)
      · clear h; have h := hy; clear hy; cbv
        refine R.callD h (fun x29 hx29 h2 => ?_)
        clear h; have h := h2; clear h2
        refine R.call' (w56 _ _ _ hx29) (by (first | (simp only [D.hcmp, D.hcv, D.hnt, D.hscmp, D.hslen, D.hun]; done) | rfl | (simp only [D.hcmp, D.hcv, D.hnt, D.hscmp, D.hslen, D.hun]; rfl))) ?_
        clear hx29; cbv
        refine R.brD h (by (first | (simp only [D.hcmp, D.hcv, D.hnt, D.hscmp, D.hslen, D.hun]; done) | rfl | (simp only [D.hcmp, D.hcv, D.hnt, D.hscmp, D.hslen, D.hun]; rfl))) ?_ ?_ <;> clear h <;> intro h <;> cbv
        · obtain ⟨s', e, hi⟩ := jn_some (fun p => p) h
          refine hLy28 s' _ _ hi ⟨by kernel_rfl, ?_, ?_, by kernel_rfl, by kernel_rfl⟩ <;> cbv <;> (try (subst e; simp only [D.hcmp, D.hcv, D.hnt, D.hscmp, D.hslen, D.hun, and_self, and_true, true_and] <;> (repeat' apply And.intro) <;> rfl))
        · obtain ⟨s', e, hi⟩ := jn_some (fun p => p) h
          refine hLy28 s' _ _ hi ⟨by kernel_rfl, ?_, ?_, by kernel_rfl, by kernel_rfl⟩ <;> cbv <;> (try (subst e; simp only [D.hcmp, D.hcv, D.hnt, D.hscmp, D.hslen, D.hun, and_self, and_true, true_and] <;> (repeat' apply And.intro) <;> rfl))
      · clear h; have h := h2; clear h2; try dsimp only at h
        cbv
        refine R.cut' (by kernel_rfl) (by kernel_rfl) ?_
        cbv
        refine R.cut' (by kernel_rfl) (by kernel_rfl) ?_
        cbv
        refine R.brD h (by (first | (simp only [D.hcmp, D.hcv, D.hnt, D.hscmp, D.hslen, D.hun]; done) | rfl | (simp only [D.hcmp, D.hcv, D.hnt, D.hscmp, D.hslen, D.hun]; rfl))) ?_ ?_ <;> clear h <;> intro h <;> cbv
        · have e := ret_some h; clear h
          refine hK _ _ ?_
          cbv
          try (subst e; simp only [D.hcmp, D.hcv, D.hnt, D.hscmp, D.hslen, D.hun, and_self, and_true, true_and] <;> (repeat' apply And.intro) <;> rfl)
        · refine R.callD h (fun x37 hx37 h2 => ?_)
          clear h; have h := h2; clear h2
          refine R.call' (w33 _ _ _ _ hx37) (by (first | (simp only [D.hcmp, D.hcv, D.hnt, D.hscmp, D.hslen, D.hun]; done) | rfl | (simp only [D.hcmp, D.hcv, D.hnt, D.hscmp, D.hslen, D.hun]; rfl))) ?_
          clear hx37; cbv
          refine R.callD h (fun x38 hx38 h2 => ?_)
          clear h; have h := h2; clear h2
          refine R.call' (w51 _ _ _ _ hx38) (by (first | (simp only [D.hcmp, D.hcv, D.hnt, D.hscmp, D.hslen, D.hun]; done) | rfl | (simp only [D.hcmp, D.hcv, D.hnt, D.hscmp, D.hslen, D.hun]; rfl))) ?_
          clear hx38; cbv
          refine R.brD h (by (first | (simp only [D.hcmp, D.hcv, D.hnt, D.hscmp, D.hslen, D.hun]; done) | rfl | (simp only [D.hcmp, D.hcv, D.hnt, D.hscmp, D.hslen, D.hun]; rfl))) ?_ ?_ <;> clear h <;> intro h <;> cbv
          · have e := ret_some h; clear h
            refine hK _ _ ?_
            cbv
            try (subst e; simp only [D.hcmp, D.hcv, D.hnt, D.hscmp, D.hslen, D.hun, and_self, and_true, true_and] <;> (repeat' apply And.intro) <;> rfl)
          · have e := ret_some h; clear h
            refine hK _ _ ?_
            cbv
            try (subst e; simp only [D.hcmp, D.hcv, D.hnt, D.hscmp, D.hslen, D.hun, and_self, and_true, true_and] <;> (repeat' apply And.intro) <;> rfl)

noncomputable def d8 (a0_0 : Int) (a0_1 : Bool) : Option (Int × Bool × Int) :=
  (d15 a0_0 a0_1).bind fun x2 =>
  if (cmpLit .neq x2 0) = true then
    some (0, false, x2)
  else
    (d31 a0_0 a0_1).bind fun x3 =>
    some (x3.1, x3.2, 0)
noncomputable def w8_c : Code := (Tryd.f8.body).getD .skip
theorem w8_h : Tryd.f8.body = some w8_c := by kernel_rfl
theorem w8 (a0_0 : Int) (a0_1 : Bool) (r : Int × Bool × Int) (h : d8 a0_0 a0_1 = some r) : Ab.Fn Tryd.prog TT 8 [.agg [.i .i64 a0_0, .b a0_1]] (.tup [.agg [.i .i64 r.1, .b r.2.1], .i .i64 r.2.2]) [] := by
  refine fn_pure tok W0 Tryd.func8 (by kernel_rfl) w8_h (by kernel_rfl) ?_
  intro ar un cv mn mx pl mi cmp nt beq an scmp cat slen sbyte ssub ofB toB len gi gb gs gl sub put app ovl rep ne0 ge0 inb bnd room sroom need br call callb loop cut nl E R K hK
  have D := E.D
  clear E
  unfold d8 at h
  cbv
  refine R.cut' (by kernel_rfl) (by kernel_rfl) ?_
  cbv
  refine R.callD h (fun x2 hx2 h2 => ?_)
  clear h; have h := h2; clear h2
  refine R.call' (w15 _ _ _ hx2) (by (first | (simp only [D.hcmp]; done) | rfl | (simp only [D.hcmp]; rfl))) ?_
  clear hx2; cbv
  refine R.brD h (by (first | (simp only [D.hcmp]; done) | rfl | (simp only [D.hcmp]; rfl))) ?_ ?_ <;> clear h <;> intro h <;> cbv
  · have e := ret_some h; clear h
    refine hK _ _ ?_
    cbv
    try (subst e; simp only [D.hcmp, and_self, and_true, true_and] <;> (repeat' apply And.intro) <;> rfl)
  · refine R.callD h (fun x3 hx3 h2 => ?_)
    clear h; have h := h2; clear h2
    refine R.call' (w31 _ _ _ hx3) (by (first | (simp only [D.hcmp]; done) | rfl | (simp only [D.hcmp]; rfl))) ?_
    clear hx3; cbv
    have e := ret_some h; clear h
    refine hK _ _ ?_
    cbv
    try (subst e; simp only [D.hcmp, and_self, and_true, true_and] <;> (repeat' apply And.intro) <;> rfl)

noncomputable def d10 : Option (Int × Bool) :=
  some (4, true)
noncomputable def w10_c : Code := (Tryd.f10.body).getD .skip
theorem w10_h : Tryd.f10.body = some w10_c := by kernel_rfl
theorem w10 (r : Int × Bool) (h : d10 = some r) : Ab.Fn Tryd.prog TT 10 [] (.agg [.i .i64 r.1, .b r.2]) [] := by
  refine fn_pure tok W0 Tryd.func10 (by kernel_rfl) w10_h (by kernel_rfl) ?_
  intro ar un cv mn mx pl mi cmp nt beq an scmp cat slen sbyte ssub ofB toB len gi gb gs gl sub put app ovl rep ne0 ge0 inb bnd room sroom need br call callb loop cut nl E R K hK
  have D := E.D
  clear E
  unfold d10 at h
  cbv
  have e := ret_some h; clear h
  refine hK _ _ ?_
  cbv
  try (subst e; simp only [and_self, and_true, true_and] <;> (repeat' apply And.intro) <;> rfl)

noncomputable def d11 (a0_0 : Int) (a0_1 : Bool) (a1 : Int) : Option (Int) :=
  (d23 a0_0 a0_1 a1).bind fun x1 =>
  some x1.1
noncomputable def w11_c : Code := (Tryd.f11.body).getD .skip
theorem w11_h : Tryd.f11.body = some w11_c := by kernel_rfl
theorem w11 (a0_0 : Int) (a0_1 : Bool) (a1 : Int) (r : Int) (h : d11 a0_0 a0_1 a1 = some r) : Ab.Fn Tryd.prog TT 11 [.agg [.i .i64 a0_0, .b a0_1], .i .i64 a1] (.i .i64 r) [] := by
  refine fn_pure tok W0 Tryd.func11 (by kernel_rfl) w11_h (by kernel_rfl) ?_
  intro ar un cv mn mx pl mi cmp nt beq an scmp cat slen sbyte ssub ofB toB len gi gb gs gl sub put app ovl rep ne0 ge0 inb bnd room sroom need br call callb loop cut nl E R K hK
  have D := E.D
  clear E
  unfold d11 at h
  cbv
  refine R.callD h (fun x1 hx1 h2 => ?_)
  clear h; have h := h2; clear h2
  refine R.call' (w23 _ _ _ _ hx1) (by rfl) ?_
  clear hx1; cbv
  have e := ret_some h; clear h
  refine hK _ _ ?_
  cbv
  try (subst e; simp only [and_self, and_true, true_and] <;> (repeat' apply And.intro) <;> rfl)

noncomputable def d12 (a0 : Int) (a1_0 : Int) (a1_1 : Bool) (a2 : Int) : Option (Int × Bool × Int × Int) :=
  (d15 a1_0 a1_1).bind fun x2 =>
  if (cmpLit .neq x2 0) = true then
    some (0, false, 0, x2)
  else
    (d33 a1_0 a1_1 a2).bind fun x3 =>
    (d31 a1_0 a1_1).bind fun x4 =>
    if (cmpLit .eql a0 1) = true then
      (d33 x4.1 x4.2 (unReal .neg .i64 x3)).bind fun x9 =>
      some (x4.1, x4.2, x9, 0)
    else
      if (cmpLit .eql a0 2) = true then
        (d33 x4.1 x4.2 (unReal .xor .i64 x3)).bind fun x10 =>
        some (x4.1, x4.2, x10, 0)
      else
        if (cmpLit .eql a0 3) = true then
          (d37).bind fun x11 =>
          (d38 (cmpLit .eql x3 0)).bind fun x12 =>
          some (x11.1, x11.2, x12, 0)
        else
          some (0, false, 0, 11)
noncomputable def w12_c : Code := (Tryd.f12.body).getD .skip
theorem w12_h : Tryd.f12.body = some w12_c := by kernel_rfl
theorem w12 (a0 : Int) (a1_0 : Int) (a1_1 : Bool) (a2 : Int) (r : Int × Bool × Int × Int) (h : d12 a0 a1_0 a1_1 a2 = some r) : Ab.Fn Tryd.prog TT 12 [.i .i64 a0, .agg [.i .i64 a1_0, .b a1_1], .i .i64 a2] (.tup [.agg [.i .i64 r.1, .b r.2.1], .i .i64 r.2.2.1, .i .i64 r.2.2.2]) [] := by
  refine fn_pure tok (fun r => match r with | 8 => [[],[],[],[2],[1,2,3],[0,1,2,3,4],[0,1,2,3,4,5],[0,1,2,3,4,5,6]] | 10 => [[],[],[],[2],[1,2,3],[0,1,2,3,4],[0,1,2,3,4,5],[0,1,2,3,4,5,6]] | _ => []) Tryd.func12 (by kernel_rfl) w12_h (by kernel_rfl) ?_
  intro ar un cv mn mx pl mi cmp nt beq an scmp cat slen sbyte ssub ofB toB len gi gb gs gl sub put app ovl rep ne0 ge0 inb bnd room sroom need br call callb loop cut nl E R K hK
  have D := E.D
  clear E
  unfold d12 at h
  cbv
  refine R.cut' (by kernel_rfl) (by kernel_rfl) ?_
  cbv
  refine R.callD h (fun x2 hx2 h2 => ?_)
  clear h; have h := h2; clear h2
  refine R.call' (w15 _ _ _ hx2) (by (first | (simp only [D.hcmp, D.hun]; done) | rfl | (simp only [D.hcmp, D.hun]; rfl))) ?_
  clear hx2; cbv
  refine R.brD h (by (first | (simp only [D.hcmp, D.hun]; done) | rfl | (simp only [D.hcmp, D.hun]; rfl))) ?_ ?_ <;> clear h <;> intro h <;> cbv
  · have e := ret_some h; clear h
    refine hK _ _ ?_
    cbv
    try (subst e; simp only [D.hcmp, D.hun, and_self, and_true, true_and] <;> (repeat' apply And.intro) <;> rfl)
  · refine R.callD h (fun x3 hx3 h2 => ?_)
    clear h; have h := h2; clear h2
    refine R.call' (w33 _ _ _ _ hx3) (by (first | (simp only [D.hcmp, D.hun]; done) | rfl | (simp only [D.hcmp, D.hun]; rfl))) ?_
    clear hx3; cbv
    refine R.callD h (fun x4 hx4 h2 => ?_)
    clear h; have h := h2; clear h2
    refine R.call' (w31 _ _ _ hx4) (by (first | (simp only [D.hcmp, D.hun]; done) | rfl | (simp only [D.hcmp, D.hun]; rfl))) ?_
    clear hx4; cbv
    refine R.cut' (by kernel_rfl) (by kernel_rfl) ?_
    cbv
    refine R.brD h (by (first | (simp only [D.hcmp, D.hun]; done) | rfl | (simp only [D.hcmp, D.hun]; rfl))) ?_ ?_ <;> clear h <;> intro h <;> cbv
    · refine R.callD h (fun x9 hx9 h2 => ?_)
      clear h; have h := h2; clear h2
      refine R.call' (w33 _ _ _ _ hx9) (by (first | (simp only [D.hcmp, D.hun]; done) | rfl | (simp only [D.hcmp, D.hun]; rfl))) ?_
      clear hx9; cbv
      have e := ret_some h; clear h
      refine hK _ _ ?_
      cbv
      try (subst e; simp only [D.hcmp, D.hun, and_self, and_true, true_and] <;> (repeat' apply And.intro) <;> rfl)
    · refine R.brD h (by (first | (simp only [D.hcmp, D.hun]; done) | rfl | (simp only [D.hcmp, D.hun]; rfl))) ?_ ?_ <;> clear h <;> intro h <;> cbv
      · refine R.callD h (fun x10 hx10 h2 => ?_)
        clear h; have h := h2; clear h2
        refine R.call' (w33 _ _ _ _ hx10) (by (first | (simp only [D.hcmp, D.hun]; done) | rfl | (simp only [D.hcmp, D.hun]; rfl))) ?_
        clear hx10; cbv
        have e := ret_some h; clear h
        refine hK _ _ ?_
        cbv
        try (subst e; simp only [D.hcmp, D.hun, and_self, and_true, true_and] <;> (repeat' apply And.intro) <;> rfl)
      · refine R.brD h (by (first | (simp only [D.hcmp, D.hun]; done) | rfl | (simp only [D.hcmp, D.hun]; rfl))) ?_ ?_ <;> clear h <;> intro h <;> cbv
        · refine R.callD h (fun x11 hx11 h2 => ?_)
          clear h; have h := h2; clear h2
          refine R.call' (w37 _ hx11) (by (first | (simp only [D.hcmp, D.hun]; done) | rfl | (simp only [D.hcmp, D.hun]; rfl))) ?_
          clear hx11; cbv
          refine R.callD h (fun x12 hx12 h2 => ?_)
          clear h; have h := h2; clear h2
          refine R.call' (w38 _ _ hx12) (by (first | (simp only [D.hcmp, D.hun]; done) | rfl | (simp only [D.hcmp, D.hun]; rfl))) ?_
          clear hx12; cbv
          have e := ret_some h; clear h
          refine hK _ _ ?_
          cbv
          try (subst e; simp only [D.hcmp, D.hun, and_self, and_true, true_and] <;> (repeat' apply And.intro) <;> rfl)
        · have e := ret_some h; clear h
          refine hK _ _ ?_
          cbv
          try (subst e; simp only [D.hcmp, D.hun, and_self, and_true, true_and] <;> (repeat' apply And.intro) <;> rfl)

noncomputable def d27 (a0_0 : Int) (a0_1 : Bool) : Option (Int) :=
  Option.bind (α := Bool) (
    if (cmpLit .neq a0_0 1) = true then
      if (cmpLit .neq a0_0 2) = true then
        if (cmpLit .neq a0_0 4) = true then
          some (cmpLit .neq a0_0 8)
        else
          some false
      else
        some false
    else
      some false) fun y3 =>
  if y3 = true then
    some 10
  else
    some 0
noncomputable def w27_c : Code := (Tryd.f27.body).getD .skip
theorem w27_h : Tryd.f27.body = some w27_c := by kernel_rfl
theorem w27 (a0_0 : Int) (a0_1 : Bool) (r : Int) (h : d27 a0_0 a0_1 = some r) : Ab.Fn Tryd.prog TT 27 [.agg [.i .i64 a0_0, .b a0_1]] (.i .i64 r) [] := by
  refine fn_pure tok W0 Tryd.func27 (by kernel_rfl) w27_h (by kernel_rfl) ?_
  intro ar un cv mn mx pl mi cmp nt beq an scmp cat slen sbyte ssub ofB toB len gi gb gs gl sub put app ovl rep ne0 ge0 inb bnd room sroom need br call callb loop cut nl E R K hK
  have D := E.D
  clear E
  unfold d27 at h
  cbv
  refine R.cut' (by kernel_rfl) (by kernel_rfl) ?_
  cbv
  refine R.cutB (fun p => p) (fun _ _ e => e) h [] (fun p4 => [(20, .b p4)]) (fun p4 => []) (by kernel_rfl) (by kernel_rfl) (fun y3 hy hFy3 L hLy3 => ?_) (fun p4 h2 => ?_)
  · clear h; have h := hy; clear hy; cbv
    refine R.brD h (by (first | (simp only [D.hcmp]; done) | rfl | (simp only [D.hcmp]; rfl))) ?_ ?_ <;> clear h <;> intro h <;> cbv
    · refine R.brD h (by (first | (simp only [D.hcmp]; done) | rfl | (simp only [D.hcmp]; rfl))) ?_ ?_ <;> clear h <;> intro h <;> cbv
      · refine R.brD h (by (first | (simp only [D.hcmp]; done) | rfl | (simp only [D.hcmp]; rfl))) ?_ ?_ <;> clear h <;> intro h <;> cbv
        · obtain ⟨s', e, hi⟩ := jn_some (fun p => p) h
          refine hLy3 s' _ _ hi ⟨by kernel_rfl, ?_, ?_, by kernel_rfl, by kernel_rfl⟩ <;> cbv <;> (try (subst e; simp only [D.hcmp, and_self, and_true, true_and] <;> (repeat' apply And.intro) <;> rfl))
        · obtain ⟨s', e, hi⟩ := jn_some (fun p => p) h
          refine hLy3 s' _ _ hi ⟨by kernel_rfl, ?_, ?_, by kernel_rfl, by kernel_rfl⟩ <;> cbv <;> (try (subst e; simp only [D.hcmp, and_self, and_true, true_and] <;> (repeat' apply And.intro) <;> rfl))
      · obtain ⟨s', e, hi⟩ := jn_some (fun p => p) h
        refine hLy3 s' _ _ hi ⟨by kernel_rfl, ?_, ?_, by kernel_rfl, by kernel_rfl⟩ <;> cbv <;> (try (subst e; simp only [D.hcmp, and_self, and_true, true_and] <;> (repeat' apply And.intro) <;> rfl))
    · obtain ⟨s', e, hi⟩ := jn_some (fun p => p) h
      refine hLy3 s' _ _ hi ⟨by kernel_rfl, ?_, ?_, by kernel_rfl, by kernel_rfl⟩ <;> cbv <;> (try (subst e; simp only [D.hcmp, and_self, and_true, true_and] <;> (repeat' apply And.intro) <;> rfl))
  · clear h; have h := h2; clear h2; try dsimp only at h
    cbv
    refine R.brD h (by (first | (simp only [D.hcmp]; done) | rfl | (simp only [D.hcmp]; rfl))) ?_ ?_ <;> clear h <;> intro h <;> cbv
    · have e := ret_some h; clear h
      refine hK _ _ ?_
      cbv
      try (subst e; simp only [D.hcmp, and_self, and_true, true_and] <;> (repeat' apply And.intro) <;> rfl)
    · have e := ret_some h; clear h
      refine hK _ _ ?_
      cbv
      try (subst e; simp only [D.hcmp, and_self, and_true, true_and] <;> (repeat' apply And.intro) <;> rfl)

noncomputable def d42 (a0_0 : Int) (a0_1 : Bool) (a1 : Int) : Option (Int) :=
  if (cmpLit .eql a0_0 1) = true then
    if a0_1 = true then
      some (wrapK .i64 (wrapK .i8 a1))
    else
      some (wrapK .i64 (wrapK .u8 a1))
  else
    if (cmpLit .eql a0_0 2) = true then
      if a0_1 = true then
        some (wrapK .i64 (wrapK .i16 a1))
      else
        some (wrapK .i64 (wrapK .u16 a1))
    else
      if (cmpLit .eql a0_0 4) = true then
        if a0_1 = true then
          some (wrapK .i64 (wrapK .i32 a1))
        else
          some (wrapK .i64 (wrapK .u32 a1))
      else
        some a1
noncomputable def w42_c : Code := (Tryd.f42.body).getD .skip
theorem w42_h : Tryd.f42.body = some w42_c := by kernel_rfl
theorem w42 (a0_0 : Int) (a0_1 : Bool) (a1 : Int) (r : Int) (h : d42 a0_0 a0_1 a1 = some r) : Ab.Fn Tryd.prog TT 42 [.agg [.i .i64 a0_0, .b a0_1], .i .i64 a1] (.i .i64 r) [] := by
  refine fn_pure tok W0 Tryd.func42 (by kernel_rfl) w42_h (by kernel_rfl) ?_
  intro ar un cv mn mx pl mi cmp nt beq an scmp cat slen sbyte ssub ofB toB len gi gb gs gl sub put app ovl rep ne0 ge0 inb bnd room sroom need br call callb loop cut nl E R K hK
  have D := E.D
  clear E
  unfold d42 at h
  cbv
  refine R.cut' (by kernel_rfl) (by kernel_rfl) ?_
  cbv
  refine R.brD h (by (first | (simp only [D.hcmp, D.hcv]; done) | rfl | (simp only [D.hcmp, D.hcv]; rfl))) ?_ ?_ <;> clear h <;> intro h <;> cbv
  · refine R.cut' (by kernel_rfl) (by kernel_rfl) ?_
    cbv
    refine R.brD h (by (first | (simp only [D.hcmp, D.hcv]; done) | rfl | (simp only [D.hcmp, D.hcv]; rfl))) ?_ ?_ <;> clear h <;> intro h <;> cbv
    · have e := ret_some h; clear h
      refine hK _ _ ?_
      cbv
      try (subst e; simp only [D.hcmp, D.hcv, and_self, and_true, true_and] <;> (repeat' apply And.intro) <;> rfl)
    · have e := ret_some h; clear h
      refine hK _ _ ?_
      cbv
      try (subst e; simp only [D.hcmp, D.hcv, and_self, and_true, true_and] <;> (repeat' apply And.intro) <;> rfl)
  · refine R.brD h (by (first | (simp only [D.hcmp, D.hcv]; done) | rfl | (simp only [D.hcmp, D.hcv]; rfl))) ?_ ?_ <;> clear h <;> intro h <;> cbv
    · refine R.cut' (by kernel_rfl) (by kernel_rfl) ?_
      cbv
      refine R.brD h (by (first | (simp only [D.hcmp, D.hcv]; done) | rfl | (simp only [D.hcmp, D.hcv]; rfl))) ?_ ?_ <;> clear h <;> intro h <;> cbv
      · have e := ret_some h; clear h
        refine hK _ _ ?_
        cbv
        try (subst e; simp only [D.hcmp, D.hcv, and_self, and_true, true_and] <;> (repeat' apply And.intro) <;> rfl)
      · have e := ret_some h; clear h
        refine hK _ _ ?_
        cbv
        try (subst e; simp only [D.hcmp, D.hcv, and_self, and_true, true_and] <;> (repeat' apply And.intro) <;> rfl)
    · refine R.brD h (by (first | (simp only [D.hcmp, D.hcv]; done) | rfl | (simp only [D.hcmp, D.hcv]; rfl))) ?_ ?_ <;> clear h <;> intro h <;> cbv
      · refine R.cut' (by kernel_rfl) (by kernel_rfl) ?_
        cbv
        refine R.brD h (by (first | (simp only [D.hcmp, D.hcv]; done) | rfl | (simp only [D.hcmp, D.hcv]; rfl))) ?_ ?_ <;> clear h <;> intro h <;> cbv
        · have e := ret_some h; clear h
          refine hK _ _ ?_
          cbv
          try (subst e; simp only [D.hcmp, D.hcv, and_self, and_true, true_and] <;> (repeat' apply And.intro) <;> rfl)
        · have e := ret_some h; clear h
          refine hK _ _ ?_
          cbv
          try (subst e; simp only [D.hcmp, D.hcv, and_self, and_true, true_and] <;> (repeat' apply And.intro) <;> rfl)
      · have e := ret_some h; clear h
        refine hK _ _ ?_
        cbv
        try (subst e; simp only [D.hcmp, D.hcv, and_self, and_true, true_and] <;> (repeat' apply And.intro) <;> rfl)

noncomputable def d43 (a0_0 : Int) (a0_1 : Bool) : Option (Int × Bool) :=
  if (cmpLit .lss a0_0 4) = true then
    (d10).bind fun x2 =>
    some (x2.1, x2.2)
  else
    some (a0_0, a0_1)
noncomputable def w43_c : Code := (Tryd.f43.body).getD .skip
theorem w43_h : Tryd.f43.body = some w43_c := by kernel_rfl
theorem w43 (a0_0 : Int) (a0_1 : Bool) (r : Int × Bool) (h : d43 a0_0 a0_1 = some r) : Ab.Fn Tryd.prog TT 43 [.agg [.i .i64 a0_0, .b a0_1]] (.agg [.i .i64 r.1, .b r.2]) [] := by
  refine fn_pure tok W0 Tryd.func43 (by kernel_rfl) w43_h (by kernel_rfl) ?_
  intro ar un cv mn mx pl mi cmp nt beq an scmp cat slen sbyte ssub ofB toB len gi gb gs gl sub put app ovl rep ne0 ge0 inb bnd room sroom need br call callb loop cut nl E R K hK
  have D := E.D
  clear E
  unfold d43 at h
  cbv
  refine R.cut' (by kernel_rfl) (by kernel_rfl) ?_
  cbv
  refine R.brD h (by (first | (simp only [D.hcmp]; done) | rfl | (simp only [D.hcmp]; rfl))) ?_ ?_ <;> clear h <;> intro h <;> cbv
  · refine R.callD h (fun x2 hx2 h2 => ?_)
    clear h; have h := h2; clear h2
    refine R.call' (w10 _ hx2) (by (first | (simp only [D.hcmp]; done) | rfl | (simp only [D.hcmp]; rfl))) ?_
    clear hx2; cbv
    have e := ret_some h; clear h
    refine hK _ _ ?_
    cbv
    try (subst e; simp only [D.hcmp, and_self, and_true, true_and] <;> (repeat' apply And.intro) <;> rfl)
  · have e := ret_some h; clear h
    refine hK _ _ ?_
    cbv
    try (subst e; simp only [D.hcmp, and_self, and_true, true_and] <;> (repeat' apply And.intro) <;> rfl)
end Go.Proofs.YtjcabmhnekcbgaaDoor
end
