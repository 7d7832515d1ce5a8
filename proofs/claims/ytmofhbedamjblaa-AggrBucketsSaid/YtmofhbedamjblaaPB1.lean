/- Texts of this seat, merged in build order. No statement of its own. -/
import Derived.WalkKit
import Derived.ProofKit
import Derived.Below
import Derived.Carry
import Derived.CallsIn
import Derived.OrdersIn
import Derived.LoopNIn
import Derived.RangeFuncCalls
import Derived.Laws.StructEq
set_option linter.unusedVariables false
set_option linter.unusedSimpArgs false
section
namespace Go.Ab
inductive V where
  | s (v : Value)
  | i (k : IntKind) (n : Int)
  | b (x : Bool)
  | str (x : ByteArray)
  | nil
  | sl (et : Nat) (es : List V)
  | agg (cs : List V)
  | tup (cs : List V)
  | ptr (n off : Nat)
  | ep (n : Nat) (i : Int) (j : Nat)
  | rp (et : Nat) (es : List V) (i : Int) (j : Nat)
  | row (n : Nat)
  | rowp (n : Nat) (lo len : Int)
  | fn (f : Fn) (fs cs : List V)
  | nlq (g : Bool) (es : List V)
  | mp (t : Nat) (L : List (Value × Value))
  | mrow (n : Nat)
  | bs (et n j ln : Nat)
  | dead
  deriving Inhabited
inductive Blk where
  | cells (t : Nat) (cs : List V)
  | row (et : Nat) (es : List V)
  | ro (et : Nat) (es : List V)
  | mb (t : Nat) (L : List (Value × Value))
  | gone
abbrev Hp := List (Nat × Blk)
def look : Hp → Nat → Option Blk
  | [], _ => none
  | (m, b) :: r, n => match m == n with
    | true => some b
    | false => look r n
structure TE where
  desc : TypeDesc
  size : Nat
  bytes : Nat
  zero : Value
  eq : Bool
inductive Tr where
  | nil
  | gl (L : List (Nat × List Value)) (r : Tr)
  | fl (bs : List Nat) (r : Tr)
  | node (k : Nat) (e : TE) (l r : Tr)
def glook : List (Nat × List Value) → Nat → Option (List Value)
  | [], _ => none
  | (k, cs) :: r, g => match g == k with
    | true => some cs
    | false => glook r g
def Tr.gv : Tr → Nat → Option (List Value)
  | .gl L _, g => glook L g
  | .fl _ r, g => r.gv g
  | _, _ => none
def Tr.look : Tr → Nat → Option TE
  | .nil, _ => none
  | .gl _ r, t => r.look t
  | .fl _ r, t => r.look t
  | .node k e l r, t => match t == k with
    | true => some e
    | false => match t.blt k with
      | true => l.look t
      | false => r.look t
def memN (n : Nat) : List Nat → Bool
  | [] => false
  | m :: r => match n == m with
    | true => true
    | false => memN n r
def isB : Tr → Nat → Bool
  | .fl bs _, f => memN f bs
  | .gl _ r, f => isB r f
  | _, _ => false
structure Ops where
  ar : BinOp → IntKind → Int → Int → Int
  un : UnOp → IntKind → Int → Int
  cv : IntKind → Int → Int
  mn : Int → Int → Int
  mx : Int → Int → Int
  pl : Int → Int → Int
  mi : Int → Int → Int
  cmp : BinOp → Int → Int → Bool
  nt : Bool → Bool
  beq : Bool → Bool → Bool
  an : Bool → Bool → Bool
  scmp : BinOp → ByteArray → ByteArray → Bool
  cat : ByteArray → ByteArray → ByteArray
  slen : ByteArray → Int
  sbyte : ByteArray → Int → Int
  ssub : ByteArray → Int → Int → ByteArray
  ofB : ByteArray → List V
  toB : List V → ByteArray
  len : List V → Int
  gi : List V → Int → Nat → Int
  gb : List V → Int → Nat → Bool
  gs : List V → Int → Nat → ByteArray
  gl : List V → Int → Nat → List V
  sub : List V → Int → Int → List V
  put : List V → Int → Nat → List V → List V
  app : List V → List V → List V
  ovl : List V → Int → List V → List V
  rep : Int → V → List V
  ne0 : Int → Prop
  ge0 : Int → Prop
  inb : Int → Int → Prop
  bnd : Int → Int → Int → Prop
  room : Int → Nat → Prop
  sroom : ByteArray → ByteArray → Prop
  need : Prop → Prop → Prop
  br : Bool → (Unit → Prop) → (Unit → Prop) → Prop
  call : Nat → List V → (V → Hp → Prop) → Prop
  callb : Nat → List V → Hp → (V → Hp → Prop) → Prop
  loop : Code → (Exit → List V → Hp → Prop) → List V → Hp → Prop
  cut : Code → Code → (Exit → List V → Hp → Prop) → List V → Hp → Prop
  nl : List V → (Unit → Prop) → (Unit → Prop) → Prop
def ofS : Value → V
  | .slice none 0 0 => .nil
  | .agg _ => .dead
  | .tuple _ => .dead
  | v => .s v
def ofV : Value → V
  | .agg cs => match cs.toList.all (·.oneCell') with
    | true => .agg (cs.toList.map ofS)
    | false => .dead
  | v => ofS v
def ev (tm : List V) : Operand → V
  | .tmp t => tm.getD t .dead
  | .const v => ofV v
  | .global g => .s (.pointer (some ⟨g, 0, none⟩))
  | .func f => .fn (.func f) [] []
inductive IV where
  | lit (k : IntKind) (n : Int)
  | sym (k : IntKind) (n : Int)
  | no
def norm1 : V → V
  | .s v => match v with
    | .int k n => .i k n
    | .bool b => .b b
    | .string s => .str s
    | v => .s v
  | v => v
def normV : V → V
  | .agg cs => .agg (cs.map norm1)
  | v => norm1 v
def normR : V → V
  | .tup cs => .tup (cs.map normV)
  | v => normV v
def asI : V → IV
  | .s (.int k n) => .lit k n
  | .i k n => .sym k n
  | _ => .no
inductive BV where
  | lit (b : Bool)
  | sym (b : Bool)
  | no
def asB : V → BV
  | .s (.bool b) => .lit b
  | .b b => .sym b
  | _ => .no
def asS : V → Option ByteArray
  | .s (.string s) => some s
  | .str s => some s
  | _ => none
def asZ : V → Option Int
  | .s (.int _ n) => some n
  | .i _ n => some n
  | _ => none
inductive Out where
  | fail
  | ok (v : V) (E : Hp)
  | need (p : Prop) (k : Out)
  | br (c : Bool) (t f : Out)
  | call (f : Nat) (args : List V) (k : V → Hp → Out)
  | callb (f : Nat) (args : List V) (hp : Hp)
def nm (t j : Nat) : Nat := t * 16 + j
def isAggD : TypeDesc → Bool
  | .struct _ => true
  | .array _ _ => true
  | _ => false
def cellTys (T : Tr) : Nat → Nat → List Nat
  | 0, _ => []
  | fuel + 1, t => match T.look t with
    | some e => match e.desc with
      | .struct fs => (fs.toList.map fun f => cellTys T fuel f.type).flatten
      | .array n u => (List.replicate n (cellTys T fuel u)).flatten
      | _ => [t]
    | none => []
def viewS (o : Ops) (e : TE) (es : List V) (i : Int) (j : Nat) : V :=
  match e.desc with
  | .int k => .i k (o.gi es i j)
  | .bool => .b (o.gb es i j)
  | .string => .str (o.gs es i j)
  | .slice u => .sl u (o.gl es i j)
  | _ => .dead
def viewL (o : Ops) (T : Tr) (es : List V) (i : Int) : Nat → List Nat → List V
  | _, [] => []
  | j, t :: r => (match T.look t with
    | some e => viewS o e es i j
    | none => .dead) :: viewL o T es i (j + 1) r
def view (o : Ops) (T : Tr) (t : Nat) (es : List V) (i : Int) (j : Nat) : V :=
  match T.look t with
  | some e => match isAggD e.desc with
    | true => .agg (viewL o T es i j (cellTys T 8 t))
    | false => viewS o e es i j
  | none => .dead
def cellsOf : V → List V
  | .agg cs => cs
  | v => [v]
def stor : V → Bool
  | .dead => false
  | .bs _ _ _ _ => false
  | .nlq _ _ => false
  | .tup _ => false
  | _ => true
def isU8 (T : Tr) (t : Nat) : Bool := match T.look t with
  | some e => match e.desc with
    | .int .u8 => true
    | _ => false
  | none => false
def chkS (T : Tr) (t : Nat) (v : V) : Bool :=
  match T.look t with
  | none => false
  | some e => match e.desc, v with
    | .int k, .i k' _ => k == k'
    | .int k, .s (.int k' _) => k == k'
    | .bool, .b _ => true
    | .bool, .s (.bool _) => true
    | .string, .str _ => true
    | .string, .s (.string _) => true
    | .slice _, .nil => true
    | .slice u, .sl u' _ => u == u'
    | _, _ => false
def chkL (T : Tr) : List Nat → List V → Bool
  | [], [] => true
  | t :: ts, v :: vs => chkS T t v && chkL T ts vs
  | _, _ => false
def chk (T : Tr) (t : Nat) (v : V) : Bool :=
  match T.look t with
  | none => false
  | some e => match isAggD e.desc, v with
    | true, .agg cs => chkL T (cellTys T 8 t) cs
    | false, v => chkS T t v
    | _, _ => false
def frzS (hp : Hp) : V → V × Hp
  | .ptr _ _ => (.dead, [])
  | .ep _ _ _ => (.dead, [])
  | .rowp _ _ _ => (.dead, [])
  | .agg _ => (.dead, [])
  | .tup _ => (.dead, [])
  | .fn _ _ _ => (.dead, [])
  | .nlq _ _ => (.dead, [])
  | .mrow _ => (.dead, [])
  | .bs _ _ _ _ => (.dead, [])
  | .row n => match look hp n with
    | some (.row et es) => (.sl et es, [(n, .ro et es)])
    | some (.ro et es) => (.sl et es, [])
    | _ => (.dead, [])
  | v => (v, [])
def frzL (hp : Hp) : List V → List V × Hp
  | [] => ([], [])
  | v :: r => match frzS hp v with
    | (v', E) => match frzL (E ++ hp) r with
      | (r', E') => (v' :: r', E' ++ E)
def frz (hp : Hp) : V → V × Hp
  | .agg cs => match frzL hp cs with
    | (cs', E) => (.agg cs', E)
  | v => frzS hp v
def expS (o : Ops) (hp : Hp) : V → V
  | .row n => match look hp n with
    | some (.row et es) => .sl et es
    | some (.ro et es) => .sl et es
    | _ => .dead
  | .rowp n lo ln => match look hp n with
    | some (.row et es) => .sl et (o.sub es lo (o.pl lo ln))
    | some (.ro et es) => .sl et (o.sub es lo (o.pl lo ln))
    | _ => .dead
  | .ptr _ _ => .dead
  | .ep _ _ _ => .dead
  | .agg _ => .dead
  | .tup _ => .dead
  | .nlq _ _ => .dead
  | .bs _ _ _ _ => .dead
  | .mrow _ => .dead
  | .fn f fs cs => match fs, cs with
    | [], [] => .fn f [] []
    | _, _ => .dead
  | v => v
def exp (o : Ops) (hp : Hp) : V → V
  | .agg cs => .agg (cs.map (expS o hp))
  | v => expS o hp v
def rowsS : V → List Nat
  | .row n => [n]
  | .rowp n _ _ => [n]
  | _ => []
def rowsOf : V → List Nat
  | .agg cs => (cs.map rowsS).flatten
  | v => rowsS v
def place (cs : List V) (off : Nat) (news : List V) : List V := cs.take off ++ news ++ cs.drop (off + news.length)
def fieldOff (T : Tr) (t f : Nat) : Option Field :=
  match T.look t with
  | some e => match e.desc with
    | .struct fs => fs[f]?
    | _ => none
  | none => none
def isAggT (T : Tr) (t : Nat) : Bool := match T.look t with
  | some e => isAggD e.desc
  | none => false
def sizeT (T : Tr) (t : Nat) : Nat := match T.look t with
  | some e => e.size
  | none => 0
def partOf (T : Tr) (t : Nat) (cs : List V) (off : Nat) : V :=
  match isAggT T t with
  | true => .agg ((cs.drop off).take (sizeT T t))
  | false => cs.getD off .dead
def arI (o : Ops) (op : BinOp) (x y : V) : Out :=
  match asI x, asI y with
  | .lit k a, .lit k' b => match k == k' with
    | true => match op with
      | .add => .ok (.s (.int k (k.wrap (a + b)))) []
      | .sub => .ok (.s (.int k (k.wrap (a - b)))) []
      | .mul => .ok (.s (.int k (k.wrap (a * b)))) []
      | _ => .ok (.i k (o.ar op k a b)) []
    | false => .fail
  | .lit k a, .sym k' b => match k == k' with
    | true => .ok (.i k (o.ar op k a b)) []
    | false => .fail
  | .sym k a, .lit k' b => match k == k' with
    | true => .ok (.i k (o.ar op k a b)) []
    | false => .fail
  | .sym k a, .sym k' b => match k == k' with
    | true => .ok (.i k (o.ar op k a b)) []
    | false => .fail
  | _, _ => .fail
def cmpLit : BinOp → Int → Int → Bool
  | .eql, a, b => a == b
  | .neq, a, b => a != b
  | .lss, a, b => decide (a < b)
  | .leq, a, b => decide (a ≤ b)
  | .gtr, a, b => decide (a > b)
  | .geq, a, b => decide (a ≥ b)
  | _, _, _ => false
def cmpI (o : Ops) (op : BinOp) (x y : V) : Out :=
  match asI x, asI y with
  | .lit k a, .lit k' b => match k == k' with
    | true => .ok (.s (.bool (cmpLit op a b))) []
    | false => .fail
  | .lit k a, .sym k' b => match k == k' with
    | true => .ok (.b (o.cmp op a b)) []
    | false => .fail
  | .sym k a, .lit k' b => match k == k' with
    | true => .ok (.b (o.cmp op a b)) []
    | false => .fail
  | .sym k a, .sym k' b => match k == k' with
    | true => .ok (.b (o.cmp op a b)) []
    | false => .fail
  | _, _ => .fail
inductive Cls where
  | ar | dv | sh | cmp
def cls : BinOp → Cls
  | .add | .sub | .mul | .and | .or | .xor | .andNot => .ar
  | .quo | .rem => .dv
  | .shl | .shr => .sh
  | _ => .cmp
def eqI (o : Ops) (x y : V) : Option BV :=
  match asI x, asI y with
  | .lit k a, .lit k' b => match k == k' with
    | true => some (.lit (a == b))
    | false => none
  | .lit k a, .sym k' b => match k == k' with
    | true => some (.sym (o.cmp .eql a b))
    | false => none
  | .sym k a, .lit k' b => match k == k' with
    | true => some (.sym (o.cmp .eql a b))
    | false => none
  | .sym k a, .sym k' b => match k == k' with
    | true => some (.sym (o.cmp .eql a b))
    | false => none
  | _, _ => none
def eqBo (o : Ops) (x y : V) : Option BV :=
  match asB x, asB y with
  | .lit a, .lit b => some (.lit (a == b))
  | .lit a, .sym b => some (.sym (o.beq a b))
  | .sym a, .lit b => some (.sym (o.beq a b))
  | .sym a, .sym b => some (.sym (o.beq a b))
  | _, _ => none
def eqSt (o : Ops) (x y : V) : Option BV :=
  match asS x, asS y with
  | some a, some b => some (.sym (o.scmp .eql a b))
  | _, _ => none
def eqD (o : Ops) (d : TypeDesc) (x y : V) : Option BV :=
  match d with
  | .int _ => eqI o x y
  | .bool => eqBo o x y
  | .string => eqSt o x y
  | _ => none
def andB (o : Ops) : BV → BV → BV
  | .lit true, y => y
  | .lit false, _ => .lit false
  | .sym a, .lit true => .sym a
  | .sym _, .lit false => .lit false
  | .sym a, .sym b => .sym (o.an a b)
  | _, _ => .no
def eqL (o : Ops) (T : Tr) (xs ys : List V) : Nat → List Field → Option BV
  | _, [] => some (.lit true)
  | 0, _ :: _ => none
  | fuel + 1, f :: fs => match f.name == "_" with
    | true => none
    | false => match T.look f.type with
      | none => none
      | some e => match (match e.desc with
          | .struct gs => match e.eq, (f.offset + e.size).ble xs.length, (f.offset + e.size).ble ys.length with
            | true, true, true => eqL o T ((xs.drop f.offset).take e.size) ((ys.drop f.offset).take e.size) fuel gs.toList
            | _, _, _ => none
          | .array _ _ => none
          | d => match f.offset.blt xs.length, f.offset.blt ys.length with
            | true, true => eqD o d (xs.getD f.offset .dead) (ys.getD f.offset .dead)
            | _, _ => none), eqL o T xs ys fuel fs with
        | some a, some b => some (andB o a b)
        | _, _ => none
def notB (o : Ops) : BV → BV
  | .lit b => .lit (!b)
  | .sym b => .sym (o.nt b)
  | .no => .no
def ofB : BV → Out
  | .lit b => .ok (.s (.bool b)) []
  | .sym b => .ok (.b b) []
  | .no => .fail
def okPart (T : Tr) (t : Nat) (cs : List V) (off : Nat) : Bool := match T.look t with
  | some e => (off + e.size).ble cs.length && off.blt cs.length
  | none => false
def binF (o : Ops) (T : Tr) (op : BinOp) (t : Nat) (x y : V) : Out :=
  match x with
  | .agg xs => match y, T.look t with
    | .agg ys, some e => match e.eq, e.desc with
      | true, .struct fs => match eqL o T xs ys 40 fs.toList with
        | some r => match op with
          | .eql => ofB r
          | .neq => ofB (notB o r)
          | _ => .fail
        | none => .fail
      | _, _ => .fail
    | _, _ => .fail
  | _ => match asB x with
    | .no => match asS x with
      | some a => match asS y with
        | some b => match op with
          | .add => .need (o.sroom a b) (.ok (.str (o.cat a b)) [])
          | op => match cls op with
            | .cmp => .ok (.b (o.scmp op a b)) []
            | _ => .fail
        | none => .fail
      | none => match cls op with
        | .ar => arI o op x y
        | .dv => match asZ y with
          | some n => .need (o.ne0 n) (arI o op x y)
          | none => .fail
        | .sh => match asI x, asZ y with
          | .lit k a, some n => .need (o.ge0 n) (.ok (.i k (o.ar op k a n)) [])
          | .sym k a, some n => .need (o.ge0 n) (.ok (.i k (o.ar op k a n)) [])
          | _, _ => .fail
        | .cmp => cmpI o op x y
    | _ => match T.look t with
      | some e => match e.desc, eqBo o x y with
        | .bool, some r => match op with
          | .eql => ofB r
          | .neq => ofB (notB o r)
          | _ => .fail
        | _, _ => .fail
      | none => .fail
def nilF (_o : Ops) (T : Tr) (op : BinOp) (t : Nat) (x : V) : Out :=
  match T.look t with
  | some e => match e.desc with
    | .slice _ => match op with
      | .eql => match x with
        | .nil => .ok (.s (.bool true)) []
        | .sl _ es => .ok (.nlq true es) []
        | _ => .fail
      | .neq => match x with
        | .nil => .ok (.s (.bool false)) []
        | .sl _ es => .ok (.nlq false es) []
        | _ => .fail
      | _ => .fail
    | _ => .fail
  | none => .fail
def unF (o : Ops) (op : UnOp) (x : V) : Out :=
  match op with
  | .not => match asB x with
    | .lit b => .ok (.s (.bool (!b))) []
    | .sym b => .ok (.b (o.nt b)) []
    | .no => .fail
  | .neg => match asI x with
    | .lit k a => .ok (.s (.int k (k.wrap (0 - a)))) []
    | .sym k a => .ok (.i k (o.un .neg k a)) []
    | .no => .fail
  | .xor => match asI x with
    | .lit k a => .ok (.i k (o.un .xor k a)) []
    | .sym k a => .ok (.i k (o.un .xor k a)) []
    | .no => .fail
  | _ => .fail
def ofE : Value → V
  | .func f a b => match a.size, b.size with
    | 0, 0 => .fn f [] []
    | _, _ => .dead
  | v => ofV v
def cmp1 (o : Ops) (d : TypeDesc) (x : V) (key : Value) : Option BV := match d with
  | .int _ => match key with
    | .int k n => eqI o x (.s (.int k n))
    | _ => none
  | .bool => match key with
    | .bool b => eqBo o x (.s (.bool b))
    | _ => none
  | _ => none
def eqK (o : Ops) (T : Tr) (kt : Nat) (x : V) (key : Value) : Option BV := match T.look kt with
  | some e => match e.desc with
    | .int k => cmp1 o (.int k) x key
    | .struct fs => match e.eq, fs.toList, x, key with
      | true, [f, g], .agg [x0, x1], .agg ⟨[k0, k1]⟩ => match f.offset == 0 && g.offset == 1 && !(f.name == "_") && !(g.name == "_"), T.look f.type, T.look g.type with
        | true, some ef, some eg => match cmp1 o ef.desc x0 k0, cmp1 o eg.desc x1 k1 with
          | some a, some b => some (andB o a b)
          | _, _ => none
        | _, _, _ => none
      | _, _, _, _ => none
    | _ => none
  | none => none
def hitF (ok : Bool) (v : V) : Out := match ok with
  | true => .ok (.tup [v, .s (.bool true)]) []
  | false => .ok v []
def missF (ok : Bool) (z : V) : Out := match ok with
  | true => .ok (.tup [z, .s (.bool false)]) []
  | false => .ok z []
def lookL (o : Ops) (T : Tr) (kt : Nat) (k : V) (ok : Bool) (z : V) : List (Value × Value) → Out
  | [] => missF ok z
  | (key, val) :: r => match eqK o T kt k key with
    | some b => match b with
      | .lit true => hitF ok (ofE val)
      | .lit false => lookL o T kt k ok z r
      | .sym c => .br c (hitF ok (ofE val)) (lookL o T kt k ok z r)
      | .no => .fail
    | none => .fail
def lookupF (o : Ops) (T : Tr) (t : Nat) (m k : V) (ok : Bool) : Out := match m with
  | .mp t' L => match t == t', T.look t, L with
    | true, some e, p :: r => match e.desc with
      | .map kt et => match (p :: r).all (fun q => (eqK o T kt k q.1).isSome), T.look et with
        | true, some ez => lookL o T kt k ok (ofV ez.zero) (p :: r)
        | _, _ => .fail
      | _ => .fail
    | _, _, _ => .fail
  | _ => .fail
def keyV : V → Option Value
  | .s v => match v with
    | .int k n => some (.int k n)
    | .bool b => some (.bool b)
    | _ => none
  | _ => none
def entV : V → Option Value
  | .fn f fs cs => match f, fs, cs with
    | .func g, [], [] => some (.func (.func g) #[] #[])
    | _, _, _ => none
  | v => keyV v
def keyNe : Value → Value → Bool
  | .int k n, .int k' m => k == k' && !(n == m)
  | _, _ => false
def makeMapF (T : Tr) (t : Nat) (m : Option Nat) : Out := match T.look t, m with
  | some e, some m => match e.desc with
    | .map _ _ => .ok (.mrow m) [(m, .mb t [])]
    | _ => .fail
  | _, _ => .fail
def insertF (T : Tr) (hp : Hp) (t : Nat) (m k v : V) : Out := match m, keyV k, entV v with
  | .mrow n, some k, some v => match look hp n with
    | some (.mb t' L) => match t == t' && L.all (fun p => keyNe k p.1), T.look t with
      | true, some e => match e.desc with
        | .map kt _ => match T.look kt with
          | some ek => match ek.desc, k with
            | .int kk, .int kk' _ => match kk == kk' with
              | true => .ok .dead [(n, .mb t (L ++ [(k, v)]))]
              | false => .fail
            | _, _ => .fail
          | none => .fail
        | _ => .fail
      | _, _ => .fail
    | _ => .fail
  | _, _, _ => .fail
def lookupM (o : Ops) (T : Tr) (hp : Hp) (t : Nat) (m k : V) (ok : Bool) : Out := match m with
  | .mrow n => match look hp n with
    | some (.mb t' L) => lookupF o T t (.mp t' L) k ok
    | _ => .fail
  | m => lookupF o T t m k ok
def dstN (hp : Hp) (x : Oper) : Option Nat := match x.dst with
  | some t => match look hp (nm t 0) with
    | none => some (nm t 0)
    | some _ => none
  | none => none
def dst0 (x : Oper) : Option Nat := match x.dst with
  | some t => some (nm t 0)
  | none => none
def freshH (hp : Hp) (m : Nat) : Hp → Bool
  | [] => true
  | (n, _) :: r => match look hp (m + n) with
    | none => freshH hp m r
    | some _ => false
def convF (o : Ops) (T : Tr) (hp : Hp) (src dst : Nat) (x : V) (n : Option Nat) : Out :=
  match T.look src, T.look dst with
  | some es, some ed => match es.desc, ed.desc with
    | .int _, .int k => match asI x with
      | .lit _ a => .ok (.s (.int k (k.wrap a))) []
      | .sym _ a => .ok (.i k (o.cv k a)) []
      | .no => .fail
    | .string, .string => match asS x with
      | some _ => .ok x []
      | none => .fail
    | .slice u, .string => match isU8 T u && sizeT T u == 1 with
      | true => match exp o hp x with
        | .sl u' es => match u == u' with
          | true => .ok (.str (o.toB es)) []
          | false => .fail
        | .nil => .ok (.s (.string .empty)) []
        | _ => .fail
      | false => .fail
    | .string, .slice u => match isU8 T u && sizeT T u == 1 with
      | true => match asS x, n with
        | some s, some m => .need (o.sroom s .empty) (.ok (.row m) [(m, .ro u (o.ofB s))])
        | _, _ => .fail
      | false => .fail
    | _, _ => .fail
  | _, _ => .fail
def eqN : List Nat → List Nat → Bool
  | [], [] => true
  | a :: r, b :: r' => a == b && eqN r r'
  | _, _ => false
def fits (T : Tr) (et t j : Nat) : Bool :=
  match isAggT T t with
  | true => isAggT T et && (eqN ((cellTys T 8 et).drop j |>.take (cellTys T 8 t).length) (cellTys T 8 t)) && ((cellTys T 8 t).length == sizeT T t && Nat.blt 0 (sizeT T t))
  | false => match isAggT T et with
    | true => (cellTys T 8 et).getD j 0 == t && j.blt (cellTys T 8 et).length
    | false => et == t && j == 0
def loadF (o : Ops) (T : Tr) (hp : Hp) (t : Nat) (a : V) : Out :=
  match T.look t with
  | none => .fail
  | some _ => match a with
    | .ptr n off => match look hp n with
      | some (.cells _ cs) => match (off + sizeT T t).ble cs.length && off.blt cs.length with
        | true => .ok (partOf T t cs off) []
        | false => .fail
      | _ => .fail
    | .ep n i j => match look hp n with
      | some (.row et es) => match fits T et t j with
        | true => .ok (view o T t es i j) []
        | false => .fail
      | some (.ro et es) => match fits T et t j with
        | true => .ok (view o T t es i j) []
        | false => .fail
      | _ => .fail
    | .rp et es i j => match fits T et t j with
      | true => .ok (view o T t es i j) []
      | false => .fail
    | _ => .fail
def isGP : V → Option (Nat × Nat)
  | .s v => match v with
    | .pointer (some ad) => match ad with
      | ⟨g, j, none⟩ => some (g, j)
      | _ => none
    | _ => none
  | _ => none
def loadA (o : Ops) (T : Tr) (hp : Hp) (t : Nat) (a : V) : Out := match isGP a with
  | some (g, j) => match T.gv g with
    | some cs => loadF o T [(0, .cells 0 (cs.map V.s))] t (.ptr 0 j)
    | none => .fail
  | none => loadF o T hp t a
def unNilS (T : Tr) (t : Nat) (v : V) : V := match v with
  | .nil => match T.look t with
    | some e => match e.desc with
      | .slice u => .sl u []
      | _ => .nil
    | none => .nil
  | v => v
def unNilL (T : Tr) : List Nat → List V → List V
  | t :: ts, v :: vs => unNilS T t v :: unNilL T ts vs
  | _, vs => vs
def unNil (T : Tr) (t : Nat) (v : V) : V := match v with
  | .agg cs => .agg (unNilL T (cellTys T 8 t) cs)
  | v => unNilS T t v
def unNilP (T : Tr) (t : Nat) : List (Nat × V) → List (Nat × V)
  | [] => []
  | (i, v) :: r => (i, unNil T t v) :: unNilP T t r
def storeF (o : Ops) (T : Tr) (hp : Hp) (t : Nat) (a v : V) : Out :=
  match a with
  | .ptr n off => match look hp n with
    | some (.cells u cs) => match stor v && (cellsOf v).length == sizeT T t && Nat.blt 0 (sizeT T t), (off + (cellsOf v).length).ble cs.length with
      | true, true => .ok .dead [(n, .cells u (place cs off (cellsOf v)))]
      | _, _ => .fail
    | _ => .fail
  | .ep n i j => match frz hp v with
    | (v', E) => match look (E ++ hp) n with
      | some (.row et es) => match fits T et t j && Nat.blt 0 (sizeT T t) && (cellsOf (unNil T t (normV v'))).length == sizeT T t, chk T t (unNil T t (normV v')) with
        | true, true => .ok .dead ((n, .row et (o.put es i j (cellsOf (unNil T t (normV v'))))) :: E)
        | _, _ => .fail
      | _ => .fail
  | _ => .fail
def lenF (o : Ops) (T : Tr) (hp : Hp) (t : Nat) (x : V) : Out :=
  match T.look t with
  | none => .fail
  | some e => match e.desc with
    | .array n _ => .ok (.s (.int .i64 n)) []
    | .string => match x with
      | .str s => .ok (.i .i64 (o.slen s)) []
      | .s (.string s) => .ok (.s (.int .i64 s.size)) []
      | _ => .fail
    | .slice _ => match x with
      | .nil => .ok (.s (.int .i64 0)) []
      | .sl _ es => .ok (.i .i64 (o.len es)) []
      | .row n => match look hp n with
        | some (.row _ es) => .ok (.i .i64 (o.len es)) []
        | some (.ro _ es) => .ok (.i .i64 (o.len es)) []
        | _ => .fail
      | .rowp _ _ ln => .ok (.i .i64 ln) []
      | _ => .fail
    | _ => .fail
def elemT (T : Tr) (t : Nat) : Option (Nat × TE) :=
  match T.look t with
  | some e => match e.desc with
    | .slice u => match T.look u with
      | some eu => some (u, eu)
      | none => none
    | _ => none
  | none => none
def srcL (o : Ops) (hp : Hp) (x : V) : Option (List V) :=
  match x with
  | .nil => some []
  | .str s => some (o.ofB s)
  | .s (.string s) => some (o.ofB s)
  | x => match exp o hp x with
    | .sl _ es => some es
    | _ => none
def srcT (hp : Hp) (x : V) : Option Nat :=
  match x with
  | .sl u _ => some u
  | .row n => match look hp n with
    | some (.row u _) => some u
    | some (.ro u _) => some u
    | _ => none
  | .rowp n _ _ => match look hp n with
    | some (.row u _) => some u
    | some (.ro u _) => some u
    | _ => none
  | _ => none
def okSrc (T : Tr) (hp : Hp) (u : Nat) (x : V) : Bool :=
  match x with
  | .nil => true
  | .str _ => isU8 T u && sizeT T u == 1
  | .s (.string _) => isU8 T u && sizeT T u == 1
  | x => match srcT hp x with
    | some u' => u == u'
    | none => false
def zok (e : TE) : Bool := e.zero.cells.size == e.size
def appF (o : Ops) (T : Tr) (hp : Hp) (t : Nat) (s x : V) (m : Option Nat) : Out :=
  match elemT T t, m, srcL o hp x with
  | some (u, eu), some m, some xs => match okSrc T hp u x && zok eu && Nat.blt 0 eu.size with
    | true => match s with
      | .nil => .need (o.room (o.len xs) eu.bytes) (.ok (.row m) [(m, .row u xs)])
      | .row n => match look hp n with
        | some (.row u' es) => match u == u' with
          | true => .need (o.room (o.len (o.app es xs)) eu.bytes) (.ok (.row m) [(m, .row u (o.app es xs)), (n, .gone)])
          | false => .fail
        | _ => .fail
      | _ => .fail
    | false => .fail
  | _, _, _ => .fail
def copyF (o : Ops) (T : Tr) (hp : Hp) (t : Nat) (d x : V) : Out :=
  match elemT T t, srcL o hp x with
  | some (u, _), some xs => match okSrc T hp u x with
    | true => match d with
      | .nil => .ok (.s (.int .i64 0)) []
      | .row n => match look hp n with
        | some (.row u' es) => match u == u' with
          | true => .ok (.i .i64 (o.mn (o.len xs) (o.len es))) [(n, .row u (o.ovl es 0 xs))]
          | false => .fail
        | _ => .fail
      | .rowp n lo ln => match look hp n with
        | some (.row u' es) => match u == u' with
          | true => .ok (.i .i64 (o.mn (o.len xs) ln)) [(n, .row u (o.ovl es lo (o.sub xs 0 (o.mn (o.len xs) ln))))]
          | false => .fail
        | _ => .fail
      | _ => .fail
    | false => .fail
  | _, _ => .fail
def hiOf (d : Int) : Option V → Option Int
  | none => some d
  | some v => asZ v
def sliceF (o : Ops) (T : Tr) (hp : Hp) (t : Nat) (x : V) (lo hi : Option V) : Out :=
  match T.look t, hiOf 0 lo with
  | some e, some l => match e.desc with
    | .string => match asS x with
      | some s => match hiOf (o.slen s) hi with
        | some h => .need (o.bnd l h (o.slen s)) (.ok (.str (o.ssub s l h)) [])
        | none => .fail
      | none => .fail
    | .slice u => match T.look u with
      | none => .fail
      | some _ => match x with
        | .sl u' es => match u == u', hiOf (o.len es) hi with
          | true, some h => .need (o.bnd l h (o.len es)) (.ok (.sl u (o.sub es l h)) [])
          | _, _ => .fail
        | .row n => match look hp n with
          | some (.row u' es) => match u == u', hiOf (o.len es) hi with
            | true, some h => .need (o.bnd l h (o.len es)) (.ok (.rowp n l (o.mi h l)) [])
            | _, _ => .fail
          | some (.ro u' es) => match u == u', hiOf (o.len es) hi with
            | true, some h => .need (o.bnd l h (o.len es)) (.ok (.sl u (o.sub es l h)) [])
            | _, _ => .fail
          | _ => .fail
        | .rowp n lo0 ln => match look hp n with
          | some (.row u' _) => match u == u', hiOf ln hi with
            | true, some h => .need (o.bnd l h ln) (.ok (.rowp n (o.pl lo0 l) (o.mi h l)) [])
            | _, _ => .fail
          | _ => .fail
        | .nil => match hiOf 0 hi with
          | some h => .need (o.bnd l h 0) (.ok .nil [])
          | none => .fail
        | _ => .fail
    | _ => .fail
  | _, _ => .fail
def idxAddr (o : Ops) (T : Tr) (hp : Hp) (u : Nat) (x ix : V) : Out :=
  match T.look u, asZ ix with
  | some _, some i => match x with
    | .sl u' es => match u == u' with
      | true => .need (o.inb i (o.len es)) (.ok (.rp u es i 0) [])
      | false => .fail
    | .row n => match look hp n with
      | some (.row u' es) => match u == u' with
        | true => .need (o.inb i (o.len es)) (.ok (.ep n i 0) [])
        | false => .fail
      | some (.ro u' es) => match u == u' with
        | true => .need (o.inb i (o.len es)) (.ok (.ep n i 0) [])
        | false => .fail
      | _ => .fail
    | .rowp n lo ln => match look hp n with
      | some (.row u' _) => match u == u' with
        | true => .need (o.inb i ln) (.ok (.ep n (o.pl lo i) 0) [])
        | false => .fail
      | some (.ro u' _) => match u == u' with
        | true => .need (o.inb i ln) (.ok (.ep n (o.pl lo i) 0) [])
        | false => .fail
      | _ => .fail
    | _ => .fail
  | _, _ => .fail
def natOf : V → Option Nat
  | .s (.int _ n) => match n with
    | .ofNat k => some k
    | _ => none
  | _ => none
def zeroV (e : TE) : V := ofV e.zero
def zeroN (e : TE) : V := normV (zeroV e)
def zeroT (T : Tr) (t : Nat) (e : TE) : V := unNil T t (zeroN e)
def placeAll (T : Tr) (e : TE) : List V → List (Nat × V) → Option (List V)
  | cs, [] => some cs
  | cs, (i, v) :: r =>
    match (match e.desc with
      | .struct fs => (fs[i]?).map fun f => (f.offset, sizeT T f.type)
      | .array _ u => some (i * sizeT T u, sizeT T u)
      | _ => none) with
    | some (off, sz) => match (cellsOf v).length == sz && stor v && Nat.blt 0 sz, (off + (cellsOf v).length).ble cs.length with
      | true, true => placeAll T e (place cs off (cellsOf v)) r
      | _, _ => none
    | none => none
def knowsF (T : Tr) : List Field → Bool
  | [] => true
  | f :: r => (match T.look f.type with
    | some _ => true
    | none => false) && knowsF T r
def okBuild (T : Tr) (e : TE) : Bool := stor (zeroV e) && match e.desc with
  | .struct fs => knowsF T fs.toList
  | .array _ u => match T.look u with
    | some _ => true
    | none => false
  | _ => false
def putAll : List V → List (Nat × V) → Option (List V)
  | es, [] => some es
  | es, (i, v) :: r => match i.blt es.length with
    | true => putAll (es.set i v) r
    | false => none
def frzP (hp : Hp) : List (Nat × V) → List (Nat × V) × Hp
  | [] => ([], [])
  | (i, v) :: r => match frz hp v with
    | (v', E) => match frzP (E ++ hp) r with
      | (r', E') => ((i, normV v') :: r', E' ++ E)
def chkAll (T : Tr) (u : Nat) : List V → Bool
  | [] => true
  | v :: r => chk T u v && chkAll T u r
def argsL (tm : List V) (xs : Array Operand) : List V := xs.toList.map (ev tm)
def sharesS : V → Bool
  | .s _ => false
  | .i _ _ => false
  | .b _ => false
  | .str _ => false
  | .nil => false
  | .ptr _ _ => false
  | .ep _ _ _ => false
  | .row _ => false
  | .rowp _ _ _ => false
  | .dead => false
  | _ => true
def cleanS : V → Bool
  | .agg _ => false
  | .tup _ => false
  | .ptr _ _ => false
  | .ep _ _ _ => false
  | .rowp _ _ _ => false
  | .rp _ _ _ _ => false
  | .fn _ fs cs => match fs, cs with
    | [], [] => true
    | _, _ => false
  | .nlq _ _ => false
  | .bs _ _ _ _ => false
  | .mrow _ => false
  | _ => true
def clean1 : V → Bool
  | .agg cs => cs.all cleanS
  | v => cleanS v
def clean : V → Bool
  | .tup cs => cs.all clean1
  | v => clean1 v
def rowsOnly : Hp → Bool
  | [] => true
  | (_, .row _ _) :: r => rowsOnly r
  | _ => false
def liveN (hp : Hp) (ns : List Nat) : Bool := ns.all fun n => match look hp n with
  | some (.row _ _) => true
  | some (.ro _ _) => true
  | _ => false
def shares : V → Bool
  | .agg cs => cs.any sharesS
  | .tup cs => cs.any fun c => match c with
    | .agg ds => ds.any sharesS
    | c => sharesS c
  | v => sharesS v
def flatT (T : Tr) (t : Nat) : Bool := (cellTys T 8 t).all fun u => match T.look u with
  | some e => match e.desc with
    | .int _ => true
    | .bool => true
    | .string => true
    | _ => false
  | none => false
def sharesH (T : Tr) : Hp → Bool
  | [] => false
  | (_, .row u _) :: r => !flatT T u || sharesH T r
  | _ :: r => sharesH T r
def renS (m : Nat) : V → V
  | .row n => .row (m + n)
  | v => v
def ren1 (m : Nat) : V → V
  | .agg cs => .agg (cs.map (renS m))
  | v => renS m v
def ren (m : Nat) : V → V
  | .tup cs => .tup (cs.map (ren1 m))
  | v => ren1 m v
def renH (m : Nat) (h : Hp) : Hp := h.map fun p => (m + p.1, p.2)
def frzN (hp : Hp) : List Nat → Hp
  | [] => []
  | n :: r => match look hp n with
    | some (.row et es) => frzN ((n, .ro et es) :: hp) r ++ [(n, .ro et es)]
    | _ => frzN hp r
def callF (o : Ops) (T : Tr) (hp : Hp) (f : Nat) (args : List V) (m : Option Nat) : Out :=
  match liveN hp ((args.map rowsOf).flatten) with
  | false => .fail
  | true => .call f (args.map fun a => normV (exp o hp a)) fun v h => match clean v && rowsOnly h with
    | false => .fail
    | true => match h with
      | [] => match shares v with
        | true => .ok v (frzN hp ((args.map rowsOf).flatten))
        | false => .ok v []
      | p :: r => match m with
        | some m => match freshH hp m (p :: r) with
          | true => match shares v || sharesH T (p :: r) with
            | true => .ok (ren m v) (renH m (p :: r) ++ frzN hp ((args.map rowsOf).flatten))
            | false => .ok (ren m v) (renH m (p :: r))
          | false => .fail
        | none => .fail
def refS : V → Bool
  | .ptr _ _ => true
  | .ep _ _ _ => true
  | .mrow _ => true
  | .fn _ fs cs => match fs, cs with
    | [], [] => false
    | _, _ => true
  | _ => false
def refV : V → Bool
  | .agg cs => cs.any refS
  | v => refS v
def callG (o : Ops) (T : Tr) (hp : Hp) (f : Nat) (args : List V) (m : Option Nat) : Out := match isB T f || args.any refV with
  | true => .callb f args hp
  | false => callF o T hp f args m
def minmax (f : Int → Int → Int) : List V → Out
  | [x, y] => match asI x, asI y with
    | .lit k a, .lit _ b => .ok (.i k (f a b)) []
    | .lit k a, .sym _ b => .ok (.i k (f a b)) []
    | .sym k a, .lit _ b => .ok (.i k (f a b)) []
    | .sym k a, .sym _ b => .ok (.i k (f a b)) []
    | _, _ => .fail
  | _ => .fail
def fieldAddrF (T : Tr) (t f : Nat) (a : V) : Out :=
  match fieldOff T t f with
    | some fd => match (sizeT T fd.type) == 0, a with
      | false, .ptr n j => .ok (.ptr n (j + fd.offset)) []
      | false, .ep n i j => .ok (.ep n i (j + fd.offset)) []
      | false, .rp u es i j => .ok (.rp u es i (j + fd.offset)) []
      | _, _ => .fail
    | none => .fail
def zeroL : Option V → Bool
  | none => true
  | some v => match natOf v with
    | some 0 => true
    | _ => false
def isSlc (hp : Hp) (u : Nat) (x : V) : Bool := match x with
  | .nil => true
  | .sl u' _ => u == u'
  | .row n => match look hp n with
    | some (.row u' _) => u == u'
    | some (.ro u' _) => u == u'
    | _ => false
  | .rowp n _ _ => match look hp n with
    | some (.row u' _) => u == u'
    | some (.ro u' _) => u == u'
    | _ => false
  | _ => false
def slice3F (o : Ops) (T : Tr) (hp : Hp) (t : Nat) (x : V) (lo hi : Option V) (mx : V) (m : Option Nat) : Out :=
  match elemT T t with
  | some (u, eu) => match zeroL lo && zeroL hi && zeroL (some mx) && Nat.blt 0 eu.size && isSlc hp u x with
    | true => match hi, m with
      | some _, some m => .ok (.row m) [(m, .row u [])]
      | _, _ => .fail
    | false => match x with
      | .sl u' es => match hiOf 0 lo, hi.bind asZ, asZ mx with
        | some l, some h, some k => match u == u' with
          | true => .need (o.bnd l h k) (.need (o.bnd 0 k (o.len es)) (.ok (.sl u (o.sub es l h)) []))
          | false => .fail
        | _, _, _ => .fail
      | .row n => match look hp n with
        | some (.row u' es) => match hiOf 0 lo, hi.bind asZ, asZ mx with
          | some l, some h, some k => match u == u' with
            | true => .need (o.bnd l h k) (.need (o.bnd 0 k (o.len es)) (.ok (.rowp n l (o.mi h l)) []))
            | false => .fail
          | _, _, _ => .fail
        | _ => .fail
      | _ => .fail
  | none => .fail
def clearF (o : Ops) (T : Tr) (hp : Hp) (t : Nat) (x : V) : Out :=
  match elemT T t with
  | some (u, eu) => match chk T u (zeroT T u eu) && zok eu && Nat.blt 0 eu.size with
    | true => match x with
      | .nil => .ok .dead []
      | .row n => match look hp n with
        | some (.row u' es) => match u == u' with
          | true => .ok .dead [(n, .row u (o.ovl es 0 (o.rep (o.len es) (zeroT T u eu))))]
          | false => .fail
        | _ => .fail
      | .rowp n lo ln => match look hp n with
        | some (.row u' es) => match u == u' with
          | true => .ok .dead [(n, .row u (o.ovl es lo (o.rep ln (zeroT T u eu))))]
          | false => .fail
        | _ => .fail
      | _ => .fail
    | false => .fail
  | none => .fail
def isIntT (T : Tr) (t : Nat) : Bool := match T.look t with
  | some e => match e.desc with
    | .int _ => true
    | _ => false
  | none => false
def appZF (o : Ops) (T : Tr) (hp : Hp) (t t2 : Nat) (s x : V) (m : Option Nat) : Out :=
  match elemT T t, m, asZ x with
  | some (u, eu), some m, some n => match isIntT T t2 && chk T u (zeroT T u eu) && zok eu && Nat.blt 0 eu.size with
    | true => .need (o.ge0 n) (.need (o.room n eu.bytes) (match s with
      | .nil => .need (o.room (o.len (o.rep n (zeroT T u eu))) eu.bytes) (.ok (.row m) [(m, .row u (o.rep n (zeroT T u eu)))])
      | .row k => match look hp k with
        | some (.row u2 es) => match u == u2 with
          | true => .need (o.room (o.len (o.app es (o.rep n (zeroT T u eu)))) eu.bytes) (.ok (.row m) [(m, .row u (o.app es (o.rep n (zeroT T u eu)))), (k, .gone)])
          | false => .fail
        | _ => .fail
      | _ => .fail))
    | false => .fail
  | _, _, _ => .fail
def brK (o : Ops) (i : Int) (f : Nat → Out) : Nat → Nat → Out
  | k, 0 => f k
  | k, r + 1 => .br (o.cmp .eql i (Int.ofNat k)) (f k) (brK o i f (k + 1) r)
def partK (T : Tr) (n u : Nat) (cs : List V) (i : Nat) : Out := match i.blt n && okPart T u cs (i * sizeT T u) with
  | true => .ok (partOf T u cs (i * sizeT T u)) []
  | false => .fail
def ptrK (T : Tr) (n u m j : Nat) (i : Nat) : Out := match i.blt n with
  | true => .ok (.ptr m (j + i * sizeT T u)) []
  | false => .fail
def gpK (T : Tr) (n u g j : Nat) (i : Nat) : Out := match i.blt n with
  | true => .ok (.s (.pointer (some ⟨g, j + i * sizeT T u, none⟩))) []
  | false => .fail
def idxG (o : Ops) (T : Tr) (n u g j : Nat) (ix : V) : Out := match natOf ix with
  | some i => gpK T n u g j i
  | none => match asZ ix, n with
    | some i, r + 1 => match Nat.ble n 16 with
      | true => .need (o.inb i (Int.ofNat n)) (brK o i (gpK T n u g j) 0 r)
      | false => .fail
    | _, _ => .fail
def idxArrF (o : Ops) (T : Tr) (n u : Nat) (a ix : V) : Out := match a, asZ ix, n with
  | .agg cs, some i, r + 1 => match Nat.ble n 16 with
    | true => .need (o.inb i (Int.ofNat n)) (brK o i (partK T n u cs) 0 r)
    | false => .fail
  | .ptr m j, some i, r + 1 => match Nat.ble n 16 with
    | true => .need (o.inb i (Int.ofNat n)) (brK o i (ptrK T n u m j) 0 r)
    | false => .fail
  | _, _, _ => .fail
def allI (k : IntKind) : List V → Bool
  | [] => true
  | .i k' _ :: r => k == k' && allI k r
  | .s v :: r => match v with
    | .int k' _ => k == k' && allI k r
    | _ => false
  | _ => false
def idxArrI (o : Ops) (T : Tr) (n u : Nat) (cs : List V) (ix : V) : Out := match T.look u with
  | some e => match e.desc, asZ ix with
    | .int k, some i => match allI k cs && cs.length == n && e.size == 1 with
      | true => .need (o.inb i (Int.ofNat n)) (.ok (.i k (o.gi (cs.map norm1) i 0)) [])
      | false => idxArrF o T n u (.agg cs) ix
    | _, _ => idxArrF o T n u (.agg cs) ix
  | none => .fail
def okParts (sz : Nat) : List (Nat × V) → Bool
  | [] => true
  | (_, v) :: r => stor v && (cellsOf v).length == sz && okParts sz r
def bsF (T : Tr) (t : Nat) (a : V) (lo hi : Option V) : Option V := match T.look t with
  | some e => match e.desc, a with
    | .array n u, .ptr m j => match lo, hi with
      | none, some h => match natOf h with
        | some k => match Nat.ble k n && sizeT T u == 1 && Nat.blt 0 k && Nat.ble n 1000000 with
          | true => some (.bs u m j k)
          | false => none
        | none => none
      | _, _ => none
    | _, _ => none
  | none => none
def isBs : V → Bool
  | .bs _ _ _ _ => true
  | _ => false
def bsV (hp : Hp) : V → V
  | .bs u n j ln => match look hp n with
    | some (.cells _ cs) => .sl u (((cs.drop j).take ln).map norm1)
    | _ => .dead
  | _ => .dead
def okBs (T : Tr) (hp : Hp) : V → Bool
  | .bs u n j ln => match look hp n with
    | some (.cells _ cs) => Nat.ble (j + ln) cs.length && (((cs.drop j).take ln).map norm1).all (chkS T u) && sizeT T u == 1 && !isAggT T u
    | _ => false
  | _ => false
def callBs (T : Tr) (hp : Hp) (f : Nat) (args : List V) : Out := match args.all (okBs T hp) with
  | true => .call f (args.map (bsV hp)) fun v h => match clean v && !shares v, h with
    | true, [] => .ok v []
    | _, _ => .fail
  | false => .fail
def callH (o : Ops) (T : Tr) (hp : Hp) (f : Nat) (args : List V) (m : Option Nat) : Out := match args.any isBs with
  | true => callBs T hp f args
  | false => callG o T hp f args m
def opF (o : Ops) (T : Tr) (tm : List V) (hp : Hp) (x : Oper) : Out :=
  match x.op with
  | .move a => .ok (ev tm a) []
  | .assign a => .ok (ev tm a) []
  | .pick c a b => match asB (ev tm c) with
    | .lit true => .ok (ev tm a) []
    | .lit false => .ok (ev tm b) []
    | .sym c => .br c (.ok (ev tm a) []) (.ok (ev tm b) [])
    | .no => .fail
  | .alloc t => match T.look t, dstN hp x with
    | some e, some n => match stor (zeroV e) with
      | true => .ok (.ptr n 0) [(n, .cells t (cellsOf (zeroV e)))]
      | false => .fail
    | _, _ => .fail
  | .box t a => match dstN hp x, stor (ev tm a) with
    | some n, true => .ok (.ptr n 0) [(n, .cells t (cellsOf (ev tm a)))]
    | _, _ => .fail
  | .build t ps => match T.look t with
    | some e => match okBuild T e, placeAll T e (cellsOf (zeroV e)) (ps.toList.map fun p => (p.1, ev tm p.2)) with
      | true, some cs => .ok (.agg cs) []
      | _, _ => .fail
    | none => .fail
  | .buildSlice t n ps => match elemT T t, frzP hp (ps.toList.map fun p => (p.1, ev tm p.2)) with
    | some (u, eu), (ps', E) => match dstN (E ++ hp) x, putAll (List.replicate n (zeroT T u eu)) (unNilP T u ps') with
      | some m, some es => match chkAll T u es && (n * eu.size).ble 16777216 && Nat.blt 0 eu.size && zok eu && chk T u (zeroT T u eu) && okParts eu.size (unNilP T u ps') with
        | true => .ok (.row m) ((m, .row u es) :: E)
        | false => .fail
      | _, _ => .fail
    | _, _ => .fail
  | .load t a => loadA o T hp t (ev tm a)
  | .store t a v => storeF o T hp t (ev tm a) (ev tm v)
  | .nilCheck a => match ev tm a with
    | .ptr n j => .ok (.ptr n j) []
    | .ep n i j => .ok (.ep n i j) []
    | .rp u es i j => .ok (.rp u es i j) []
    | _ => .fail
  | .binOp op t a b _ => match ev tm b with
    | .nil => nilF o T op t (ev tm a)
    | y => binF o T op t (ev tm a) y
  | .unOp op _ a => unF o op (ev tm a)
  | .convert s d a => convF o T hp s d (ev tm a) (dstN hp x)
  | .makeFunc f fs cs => .ok (.fn f (argsL tm fs) (argsL tm cs)) []
  | .makeSlice t l c => match elemT T t, dstN hp x, asZ (ev tm l), asZ (ev tm c) with
    | some (u, eu), some m, some n, some _ => match chk T u (zeroT T u eu) && zok eu && Nat.blt 0 eu.size, l, c with
      | true, .tmp a, .tmp b => match a == b with
        | true => .need (o.ge0 n) (.need (o.room n eu.bytes) (.ok (.row m) [(m, .row u (o.rep n (zeroT T u eu)))]))
        | false => .fail
      | true, .const y, .const z => match y, z with
        | .int k i, .int k' i' => match k == k' && i == i' with
          | true => .need (o.ge0 n) (.need (o.room n eu.bytes) (.ok (.row m) [(m, .row u (o.rep n (zeroT T u eu)))]))
          | false => .fail
        | _, _ => .fail
      | _, _, _ => .fail
    | _, _, _, _ => .fail
  | .slice t a lo hi none => match bsF T t (ev tm a) (lo.map (ev tm)) (hi.map (ev tm)) with
    | some v => .ok v []
    | none => sliceF o T hp t (ev tm a) (lo.map (ev tm)) (hi.map (ev tm))
  | .slice t a lo hi (some mx) => slice3F o T hp t (ev tm a) (lo.map (ev tm)) (hi.map (ev tm)) (ev tm mx) (dstN hp x)
  | .fieldAddr t a f => fieldAddrF T t f (ev tm a)
  | .field t a f => match fieldOff T t f, ev tm a with
    | some fd, .agg cs => match okPart T fd.type cs fd.offset with
      | true => .ok (partOf T fd.type cs fd.offset) []
      | false => .fail
    | _, _ => .fail
  | .indexAddr t a ix => match T.look t with
    | some e => match e.desc with
      | .slice u => idxAddr o T hp u (ev tm a) (ev tm ix)
      | .array n u => match sizeT T u == 0 with
        | true => .fail
        | false => match isGP (ev tm a) with
         | some (g, j) => idxG o T n u g j (ev tm ix)
         | none => match natOf (ev tm ix) with
          | some _ => match natOf (ev tm ix), ev tm a with
            | some i, .ptr m j => match i.blt n with
              | true => .ok (.ptr m (j + i * sizeT T u)) []
              | false => .fail
            | _, _ => .fail
          | none => match ev tm a with
            | .ptr m j => idxArrF o T n u (.ptr m j) (ev tm ix)
            | _ => .fail
      | _ => .fail
    | none => .fail
  | .index t a ix => match T.look t with
    | some e => match e.desc with
      | .string => match asS (ev tm a), asZ (ev tm ix) with
        | some s, some i => .need (o.inb i (o.slen s)) (.ok (.i .u8 (o.sbyte s i)) [])
        | _, _ => .fail
      | .array n u => match natOf (ev tm ix) with
        | some _ => match natOf (ev tm ix), ev tm a with
          | some i, .agg cs => match i.blt n && okPart T u cs (i * sizeT T u) with
            | true => .ok (partOf T u cs (i * sizeT T u)) []
            | false => .fail
          | _, _ => .fail
        | none => match ev tm a with
          | .agg cs => idxArrI o T n u cs (ev tm ix)
          | _ => .fail
      | _ => .fail
    | none => .fail
  | .lookup t m k ok => lookupM o T hp t (ev tm m) (ev tm k) ok
  | .makeMap t none => makeMapF T t (dstN hp x)
  | .insert t m k v => insertF T hp t (ev tm m) (ev tm k) (ev tm v)
  | .extract a i => match ev tm a with
    | .tup cs => match i.blt cs.length with
      | true => .ok (cs.getD i .dead) []
      | false => .fail
    | _ => .fail
  | .call c => match c.callee with
    | .value f => match ev tm f with
      | .fn (.func g) fs cs => callH o T hp g (fs ++ argsL tm c.args ++ cs) (dst0 x)
      | _ => .fail
    | .builtin .len => match argsL tm c.args, c.argTypes[0]? with
      | [a], some t => lenF o T hp t a
      | _, _ => .fail
    | .builtin .append => match argsL tm c.args, c.argTypes.toList with
      | [a, b], [t, t'] => match t == t' with
        | true => appF o T hp t a b (dstN hp x)
        | false => appZF o T hp t t' a b (dstN hp x)
      | _, _ => .fail
    | .builtin .copy => match argsL tm c.args, c.argTypes.toList with
      | [a, b], [t, _] => copyF o T hp t a b
      | _, _ => .fail
    | .builtin .clear => match argsL tm c.args, c.argTypes.toList with
      | [a], [t] => clearF o T hp t a
      | _, _ => .fail
    | .builtin .min => minmax o.mn (argsL tm c.args)
    | .builtin .max => minmax o.mx (argsL tm c.args)
    | _ => .fail
  | _ => .fail
def outF (o : Ops) : Out → (V → Hp → Prop) → Prop
  | .fail, _ => False
  | .ok v E, K => K v E
  | .need p k, K => o.need p (outF o k K)
  | .br c t f, K => o.br c (fun _ => outF o t K) (fun _ => outF o f K)
  | .call f as_ k, K => o.call f as_ fun v h => outF o (k v h) K
  | .callb f as_ hp, K => o.callb f as_ hp K
def guardT (ops : Array Oper) (j : Nat) : Option Nat := (ops[j]?).bind (·.dst)
def setD (tm : List V) (d : Option Nat) (v : V) : List V := match d with
  | some t => tm.set t v
  | none => tm
structure Foot where
  wr : List Nat
  rd : List Nat
def namesS : V → List Nat
  | .ptr n _ => [n]
  | .ep n _ _ => [n]
  | .row n => [n]
  | .rowp n _ _ => [n]
  | .bs _ n _ _ => [n]
  | .mrow n => [n]
  | _ => []
def namesC : V → List Nat
  | .agg cs => (cs.map namesS).flatten
  | v => namesS v
def names : V → List Nat
  | .tup cs => (cs.map namesC).flatten
  | .fn _ fs cs => (fs.map namesC).flatten ++ (cs.map namesC).flatten
  | v => namesC v
def footOf (tm : List V) (x : Oper) (E : Hp) : Foot := ⟨E.map (·.1), (x.op.operands.toList.map fun a => names (ev tm a)).flatten⟩
def meets (a b : List Nat) : Bool := a.any fun n => b.any fun m => n == m
def apart1 (W : List (List Nat)) (i : Nat) (f : Foot) : Nat → List Foot → Bool
  | _, [] => true
  | j, g :: r => match (match meets f.wr g.wr with
    | true => true
    | false => match meets f.wr g.rd with
      | true => true
      | false => meets f.rd g.wr) with
    | true => match memN i (W.getD j []) with
      | true => apart1 W i f (j + 1) r
      | false => false
    | false => apart1 W i f (j + 1) r
def apartF (W : List (List Nat)) : Nat → List Foot → Bool
  | _, [] => true
  | i, f :: r => match apart1 W i f (i + 1) r with
    | true => apartF W (i + 1) r
    | false => false
def findA : List (Nat × Bool) → Nat → Option Bool
  | [], _ => none
  | (g, c) :: r, n => match g == n with
    | true => some c
    | false => findA r n
def dropA (d : Option Nat) (as_ : List (Nat × Bool)) : List (Nat × Bool) := match d with
  | none => as_
  | some t => as_.filter fun p => !(p.1 == t)
def guardV (tm : List V) (as_ : List (Nat × Bool)) (g : Nat) : BV := match findA as_ g with
  | some c => .lit c
  | none => asB (tm.getD g .dead)
def retell (tm : List V) : List (Nat × Bool) → List V
  | [] => tm
  | (g, c) :: r => retell (tm.set g (.s (.bool c))) r
def pushF (draw : Bool) (f : Foot) (fs : List Foot) : List Foot := match draw with
  | true => f :: fs
  | false => fs
def opA (o : Ops) (T : Tr) (as_ : List (Nat × Bool)) (tm : List V) (hp : Hp) (x : Oper) : Out :=
  match x.op with
  | .pick (.tmp g) a b => match findA as_ g with
    | some true => .ok (ev tm a) []
    | some false => .ok (ev tm b) []
    | none => opF o T tm hp x
  | _ => opF o T tm hp x
def runOps (o : Ops) (T : Tr) (ops : Array Oper) (W : List (List Nat)) (draw : Bool) (K : List V → Hp → Prop) : List Oper → List Foot → List (Nat × Bool) → List V → Hp → Prop
  | [], fs, as_, tm, hp => match draw with
    | true => match apartF W 0 fs.reverse with
      | true => K (retell tm as_) hp
      | false => False
    | false => K (retell tm as_) hp
  | x :: r, fs, as_, tm, hp => match x.guard with
    | none => outF o (opA o T as_ tm hp x) fun v E => runOps o T ops W draw K r (pushF draw (footOf tm x E) fs) (dropA x.dst as_) (setD tm x.dst v) (E ++ hp)
    | some (j, want) => match guardT ops j with
      | none => False
      | some g => match guardV tm as_ g with
        | .lit c => match c == want with
          | true => outF o (opA o T as_ tm hp x) fun v E => runOps o T ops W draw K r (pushF draw (footOf tm x E) fs) (dropA x.dst as_) (setD tm x.dst v) (E ++ hp)
          | false => runOps o T ops W draw K r (pushF draw ⟨[], []⟩ fs) (dropA x.dst as_) (setD tm x.dst (.tup [])) hp
        | .sym c => o.br c
            (fun _ => match want with
              | true => outF o (opA o T as_ tm hp x) fun v E => runOps o T ops W draw K r (pushF draw (footOf tm x E) fs) (dropA x.dst ((g, true) :: as_)) (setD tm x.dst v) (E ++ hp)
              | false => runOps o T ops W draw K r (pushF draw ⟨[], []⟩ fs) (dropA x.dst ((g, true) :: as_)) (setD tm x.dst (.tup [])) hp)
            (fun _ => match want with
              | false => outF o (opA o T as_ tm hp x) fun v E => runOps o T ops W draw K r (pushF draw (footOf tm x E) fs) (dropA x.dst ((g, false) :: as_)) (setD tm x.dst v) (E ++ hp)
              | true => runOps o T ops W draw K r (pushF draw ⟨[], []⟩ fs) (dropA x.dst ((g, false) :: as_)) (setD tm x.dst (.tup [])) hp)
        | .no => match tm.getD g .dead with
          | .tup cs => match cs with
            | [] => runOps o T ops W draw K r (pushF draw ⟨[], []⟩ fs) (dropA x.dst as_) (setD tm x.dst (.tup [])) hp
            | _ :: _ => False
          | _ => False
def condT (tm : List V) (c : Operand) (b : Bool) : List V := match c with
  | .tmp t => tm.set t (.s (.bool b))
  | _ => tm
def cutOps : List Oper → Bool
  | [] => false
  | x :: r => match x.guard with
    | some _ => true
    | none => match x.op with
      | .pick _ _ _ => true
      | _ => cutOps r
def cutA : Code → Bool
  | .cond _ _ _ => true
  | .loop _ => true
  | .block _ _ => true
  | .region _ ops _ => cutOps ops.toList
  | .seq _ b => cutA b
  | _ => false
def vc (o : Ops) (T : Tr) (B : Nat → List (List Nat)) : Code → (Exit → List V → Hp → Prop) → List V → Hp → Prop
  | .skip, K, tm, hp => K .normal tm hp
  | .region id ops draw, K, tm, hp => runOps o T ops (B id) draw (fun tm hp => K .normal tm hp) ops.toList [] [] tm hp
  | .seq a b, K, tm, hp => match cutA a with
    | true => o.cut a b K tm hp
    | false => vc o T B a (fun e tm hp => match e with
      | .normal => vc o T B b K tm hp
      | e => K e tm hp) tm hp
  | .cond c a b, K, tm, hp => match asB (ev tm c) with
    | .lit true => vc o T B a K tm hp
    | .lit false => vc o T B b K tm hp
    | .sym x => o.br x (fun _ => vc o T B a K (condT tm c true) hp) (fun _ => vc o T B b K (condT tm c false) hp)
    | .no => match ev tm c with
      | .nlq g es => match g with
        | true => o.nl es (fun _ => vc o T B a K (condT tm c true) hp) (fun _ => vc o T B b K (condT tm c false) hp)
        | false => o.nl es (fun _ => vc o T B b K (condT tm c false) hp) (fun _ => vc o T B a K (condT tm c true) hp)
      | _ => False
  | .block id b, K, tm, hp => vc o T B b (fun e tm hp => match e with
    | .exit i => match i == id with
      | true => K .normal tm hp
      | false => K (.exit i) tm hp
    | e => K e tm hp) tm hp
  | .loop b, K, tm, hp => o.loop b K tm hp
  | .exit id, K, tm, hp => K (.exit id) tm hp
  | .ret, K, tm, hp => K .ret tm hp
  | _, _, _, _ => False
def closeS (o : Ops) (k : Nat) (hp : Hp) : V → Option (V × Hp × Hp)
  | .row n => match look hp n with
    | some (.row et es) => some (.row k, [(n, .gone)], [(k, .row et es)])
    | some (.ro et es) => some (.sl et es, [], [])
    | _ => none
  | .rowp n lo ln => match look hp n with
    | some (.row et es) => some (.sl et (o.sub es lo (o.pl lo ln)), [(n, .ro et es)], [])
    | some (.ro et es) => some (.sl et (o.sub es lo (o.pl lo ln)), [], [])
    | _ => none
  | .ptr _ _ => none
  | .ep _ _ _ => none
  | .rp _ _ _ _ => none
  | .agg _ => none
  | .tup _ => none
  | .fn f fs cs => match fs, cs with
    | [], [] => some (.fn f [] [], [], [])
    | _, _ => none
  | .bs _ _ _ _ => none
  | .nlq _ _ => none
  | .mrow n => match look hp n with
    | some (.mb t L) => some (.mp t L, [(n, .gone)], [])
    | _ => none
  | v => some (v, [], [])
def closeL (o : Ops) (k : Nat) (hp : Hp) : List V → Option (List V × Hp × Hp)
  | [] => some ([], [], [])
  | v :: r => match closeS o k hp v with
    | some (v', E, h) => match closeL o (k + h.length) (E ++ hp) r with
      | some (r', E', h') => some (v' :: r', E' ++ E, h' ++ h)
      | none => none
    | none => none
def close1 (o : Ops) (k : Nat) (hp : Hp) : V → Option (V × Hp × Hp)
  | .agg cs => match closeL o k hp cs with
    | some (cs', E, h) => some (.agg cs', E, h)
    | none => none
  | v => closeS o k hp v
def close1L (o : Ops) (k : Nat) (hp : Hp) : List V → Option (List V × Hp × Hp)
  | [] => some ([], [], [])
  | v :: r => match close1 o k hp v with
    | some (v', E, h) => match close1L o (k + h.length) (E ++ hp) r with
      | some (r', E', h') => some (v' :: r', E' ++ E, h' ++ h)
      | none => none
    | none => none
def resL (o : Ops) (T : Tr) (tm : List V) (hp : Hp) : List ResultVar → Option (List V)
  | [] => some []
  | .tmp t :: r => match resL o T tm hp r with
    | some l => some (tm.getD t .dead :: l)
    | none => none
  | .cell a t :: r => match loadF o T hp t (tm.getD a .dead), resL o T tm hp r with
    | .ok v _, some l => some (v :: l)
    | _, _ => none
def oneOf : List V → V
  | [v] => v
  | vs => .tup vs
def retF (o : Ops) (T : Tr) (rs : List ResultVar) (K : V → Hp → Prop) (tm : List V) (hp : Hp) : Prop :=
  match resL o T tm hp rs with
  | some vs => match close1L o 0 hp vs with
    | some (vs', _, h) => K (normR (oneOf vs')) h
    | none => False
  | none => False
def retK (o : Ops) (T : Tr) (rs : List ResultVar) (K : V → Hp → Prop) (e : Exit) (tm : List V) (hp : Hp) : Prop :=
  match e with
  | .normal => retF o T rs K tm hp
  | .ret => retF o T rs K tm hp
  | _ => False
end Go.Ab
end
section
namespace Go.Ab
open Go.RowKit
inductive Loc where
  | box (B : Nat)
  | rw (B off len room sz : Nat)
  | nilrow
mutual
def wt (T : Tr) : V → Nat → Prop
  | .i k _, t => ∃ e, T.look t = some e ∧ e.desc = .int k
  | .s v, t => ∃ e, T.look t = some e ∧ match e.desc, v with
    | .int k, .int k' _ => k = k'
    | .bool, .bool _ => True
    | .string, .string _ => True
    | _, _ => False
  | .b _, t => ∃ e, T.look t = some e ∧ e.desc = .bool
  | .str _, t => ∃ e, T.look t = some e ∧ e.desc = .string
  | .nil, t => ∃ e u, T.look t = some e ∧ e.desc = .slice u
  | .sl u es, t => (∃ e, T.look t = some e ∧ e.desc = .slice u) ∧ wtL T u es
  | .agg cs, t => isAggT T t = true ∧ wtC T (cellTys T 8 t) cs
  | _, _ => False
def wtL (T : Tr) (t : Nat) : List V → Prop
  | [] => True
  | v :: r => wt T v t ∧ wtL T t r
def wtC (T : Tr) : List Nat → List V → Prop
  | ts, [] => ts = []
  | ts, v :: r => ∃ t ts', ts = t :: ts' ∧ isAggT T t = false ∧ wt T v t ∧ wtC T ts' r
end
section
variable (T : Tr) (φ : Nat → Option Loc) (w : World) (S : Nat → Prop)
mutual
def rel : V → Value → Prop
  | .s v, x => x = v ∧ v.oneCell' = true
  | .i k n, x => x = .int k n
  | .b c, x => x = .bool c
  | .str s, x => x = .string s
  | .nil, x => x = .slice none 0 0
  | .sl et es, x => ∃ A cap, x = .slice A es.length cap ∧ es.length ≤ cap ∧ es.length ≤ maxLen ∧ wtL T et es ∧ (es ≠ [] → ∃ ad e, A = some ad ∧ T.look et = some e ∧ 0 < e.size ∧ S ad.block ∧ relE ad e.size 0 es)
  | .agg cs, x => ∃ a, x = .agg a ∧ relL cs a.toList ∧ ∀ u ∈ a.toList, u.oneCell' = true
  | .tup cs, x => ∃ a, x = .tuple a ∧ relL cs a.toList
  | .ptr n j, x => ∃ B, φ n = some (.box B) ∧ x = .pointer (some ⟨B, j, none⟩)
  | .ep n i j, x => ∃ B off len room sz, φ n = some (.rw B off len room sz) ∧ 0 ≤ i ∧ i < len ∧ x = .pointer (some ⟨B, off + i.toNat * sz + j, none⟩)
  | .rp et es i j, x => ∃ ad e, T.look et = some e ∧ 0 < e.size ∧ wtL T et es ∧ S ad.block ∧ relE ad e.size 0 es ∧ 0 ≤ i ∧ i < es.length ∧ x = .pointer (some (ad.add (i.toNat * e.size + j)))
  | .row n, x => (∃ B off len room sz cap, φ n = some (.rw B off len room sz) ∧ x = .slice (some ⟨B, off, none⟩) len cap ∧ len ≤ cap ∧ cap ≤ maxLen ∧ off + cap * sz = room) ∨ (φ n = some .nilrow ∧ ∃ A, x = .slice A 0 0)
  | .rowp n lo ln, x => (∃ B off len room sz cap A, φ n = some (.rw B off len room sz) ∧ x = .slice (some A) ln.toNat cap ∧ 0 ≤ lo ∧ 0 ≤ ln ∧ lo + ln ≤ len ∧ ln ≤ cap ∧ cap ≤ maxLen ∧ off + lo.toNat * sz + cap * sz ≤ room ∧ (0 < cap → A = ⟨B, off + lo.toNat * sz, none⟩)) ∨ (φ n = some .nilrow ∧ (∃ A, x = .slice A 0 0) ∧ lo = 0 ∧ ln = 0)
  | .fn f fs cs, x => ∃ a b, x = .func f a b ∧ relL fs a.toList ∧ relL cs b.toList
  | .nlq g es, x => ∃ b, x = .bool b ∧ (b = g → es = [])
  | .mp t L, x => ∃ g es c, x = .map (some g) ∧ S g ∧ w.heap[g]? = some (.map es c) ∧ (∀ e ∈ es.toList, (e.key, e.val) ∈ L) ∧ (∀ p ∈ L, ∃ e ∈ es.toList, p = (e.key, e.val)) ∧ L.Pairwise (fun a b => a.1 ≠ b.1)
  | .mrow n, x => ∃ B, φ n = some (.box B) ∧ x = .map (some B)
  | .bs _ n j ln, x => ∃ B cap, φ n = some (.box B) ∧ x = .slice (some ⟨B, j, none⟩) ln cap ∧ ln ≤ cap ∧ cap ≤ maxLen
  | .dead, _ => True
def relL : List V → List Value → Prop
  | [], xs => xs = []
  | v :: r, xs => ∃ x xs', xs = x :: xs' ∧ rel v x ∧ relL r xs'
def relE (ad : Addr) (sz : Nat) : Nat → List V → Prop
  | _, [] => True
  | i, v :: r => (∃ x, rel v x ∧ x.cells.size = sz ∧ (∀ u ∈ x.cells.toList, u.oneCell' = true) ∧ ∀ j u, x.cells[j]? = some u → w.cell? (ad.add (i * sz + j)) = some u) ∧ relE ad sz (i + 1) r
end
end
theorem relL_iff {T φ w S} : ∀ {cs : List V} {xs : List Value}, relL T φ w S cs xs ↔ cs.length = xs.length ∧ ∀ (j : Nat) (c : V) (x : Value), cs[j]? = some c → xs[j]? = some x → rel T φ w S c x
  | [], xs => by
    simp only [relL, List.length_nil]
    constructor
    · rintro rfl; simp
    · rintro ⟨h, _⟩; exact List.eq_nil_of_length_eq_zero h.symm
  | c :: cs, xs => by
    simp only [relL]
    constructor
    · rintro ⟨x, xs', rfl, h1, h2⟩
      obtain ⟨h3, h4⟩ := relL_iff.1 h2
      refine ⟨by simp [h3], fun (j : Nat) c' x' hc hx => ?_⟩
      cases j with
      | zero => simp at hc hx; subst hc; subst hx; exact h1
      | succ j => simp at hc hx; exact h4 j c' x' hc hx
    · rintro ⟨h1, h2⟩
      cases xs with
      | nil => simp at h1
      | cons x xs' => exact ⟨x, xs', rfl, h2 0 c x rfl rfl, relL_iff.2 ⟨by simpa using h1, fun (j : Nat) c' x' hc hx => h2 (j + 1) c' x' (by simpa using hc) (by simpa using hx)⟩⟩
theorem relE_iff {T φ w S ad sz} : ∀ {es : List V} {i : Nat}, relE T φ w S ad sz i es ↔ ∀ k e, es[k]? = some e → ∃ x, rel T φ w S e x ∧ x.cells.size = sz ∧ (∀ u ∈ x.cells.toList, u.oneCell' = true) ∧ ∀ j u, x.cells[j]? = some u → w.cell? (ad.add ((i + k) * sz + j)) = some u
  | [], i => by simp [relE]
  | e :: es, i => by
    simp only [relE]
    constructor
    · rintro ⟨h1, h2⟩ k e' hk
      cases k with
      | zero => simp at hk; subst hk; simpa using h1
      | succ k =>
        simp at hk
        have := relE_iff.1 h2 k e' hk
        rwa [show i + 1 + k = i + (k + 1) from by omega] at this
    · intro h
      refine ⟨by simpa using h 0 e rfl, relE_iff.2 (fun k e' hk => ?_)⟩
      have := h (k + 1) e' (by simpa using hk)
      rwa [show i + (k + 1) = i + 1 + k from by omega] at this
theorem wtL_iff {T t} : ∀ {es : List V}, wtL T t es ↔ ∀ e ∈ es, wt T e t
  | [] => by simp [wtL]
  | e :: es => by simp [wtL, wtL_iff (es := es)]
def LocLe (φ φ' : Nat → Option Loc) : Prop := ∀ n l, φ n = some l → φ' n = some l
theorem LocLe.refl (φ) : LocLe φ φ := fun _ _ h => h
theorem LocLe.trans {a b c : Nat → Option Loc} (h : LocLe a b) (k : LocLe b c) : LocLe a c := fun n l x => k n l (h n l x)
section
variable {T : Tr} {φ φ' : Nat → Option Loc} {w w' : World} {S S' : Nat → Prop}
mutual
theorem rel_mono (hφ : LocLe φ φ') (hw : ∀ k, S k → w'.heap[k]? = w.heap[k]?) (hS : ∀ k, S k → S' k) : ∀ (v : V) (x : Value), rel T φ w S v x → rel T φ' w' S' v x
  | .s v, x, h => by simpa only [rel] using h
  | .i k n, x, h => by simpa only [rel] using h
  | .b c, x, h => by simpa only [rel] using h
  | .str s, x, h => by simpa only [rel] using h
  | .nil, x, h => by simpa only [rel] using h
  | .sl et es, x, h => by
    simp only [rel] at h ⊢
    obtain ⟨A, cap, h1, h2, h3, h5, h6⟩ := h
    refine ⟨A, cap, h1, h2, h3, h5, fun hne => ?_⟩
    obtain ⟨ad, e, ha, hl, hz, hs, he⟩ := h6 hne
    exact ⟨ad, e, ha, hl, hz, hS _ hs, relE_mono hφ hw hS es 0 ad e.size hs he⟩
  | .agg cs, x, h => by
    simp only [rel] at h ⊢
    obtain ⟨a, h1, h2, h3⟩ := h
    exact ⟨a, h1, relL_mono hφ hw hS cs _ h2, h3⟩
  | .tup cs, x, h => by
    simp only [rel] at h ⊢
    obtain ⟨a, h1, h2⟩ := h
    exact ⟨a, h1, relL_mono hφ hw hS cs _ h2⟩
  | .ptr n j, x, h => by
    simp only [rel] at h ⊢
    obtain ⟨B, h1, h2⟩ := h
    exact ⟨B, hφ _ _ h1, h2⟩
  | .ep n i j, x, h => by
    simp only [rel] at h ⊢
    obtain ⟨B, off, len, room, sz, h1, h2⟩ := h
    exact ⟨B, off, len, room, sz, hφ _ _ h1, h2⟩
  | .rp et es i j, x, h => by
    simp only [rel] at h ⊢
    obtain ⟨ad, e, h1, h0, h2, h3, h4, h5⟩ := h
    exact ⟨ad, e, h1, h0, h2, hS _ h3, relE_mono hφ hw hS es 0 ad e.size h3 h4, h5⟩
  | .row n, x, h => by
    simp only [rel] at h ⊢
    rcases h with ⟨B, off, len, room, sz, cap, h1, h2⟩ | ⟨h1, h2⟩
    · exact .inl ⟨B, off, len, room, sz, cap, hφ _ _ h1, h2⟩
    · exact .inr ⟨hφ _ _ h1, h2⟩
  | .rowp n lo ln, x, h => by
    simp only [rel] at h ⊢
    rcases h with ⟨B, off, len, room, sz, cap, A, h1, h2⟩ | ⟨h1, h2⟩
    · exact .inl ⟨B, off, len, room, sz, cap, A, hφ _ _ h1, h2⟩
    · exact .inr ⟨hφ _ _ h1, h2⟩
  | .fn f fs cs, x, h => by
    simp only [rel] at h ⊢
    obtain ⟨a, b, h1, h2, h3⟩ := h
    exact ⟨a, b, h1, relL_mono hφ hw hS fs _ h2, relL_mono hφ hw hS cs _ h3⟩
  | .nlq g es, x, h => by simpa only [rel] using h
  | .mp t L, x, h => by
    simp only [rel] at h ⊢
    obtain ⟨g, es, c, h1, h2, h3, h4⟩ := h
    exact ⟨g, es, c, h1, hS _ h2, (hw _ h2).trans h3, h4⟩
  | .mrow n, x, h => by
    simp only [rel] at h ⊢
    obtain ⟨B, h1, h2⟩ := h
    exact ⟨B, hφ _ _ h1, h2⟩
  | .bs et n j ln, x, h => by
    simp only [rel] at h ⊢
    obtain ⟨B, cap, h1, h2⟩ := h
    exact ⟨B, cap, hφ _ _ h1, h2⟩
  | .dead, x, h => by simp only [rel]
theorem relL_mono (hφ : LocLe φ φ') (hw : ∀ k, S k → w'.heap[k]? = w.heap[k]?) (hS : ∀ k, S k → S' k) : ∀ (cs : List V) (xs : List Value), relL T φ w S cs xs → relL T φ' w' S' cs xs
  | [], xs, h => by simpa only [relL] using h
  | v :: r, xs, h => by
    simp only [relL] at h ⊢
    obtain ⟨x, xs', h1, h2, h3⟩ := h
    exact ⟨x, xs', h1, rel_mono hφ hw hS v x h2, relL_mono hφ hw hS r xs' h3⟩
theorem relE_mono (hφ : LocLe φ φ') (hw : ∀ k, S k → w'.heap[k]? = w.heap[k]?) (hS : ∀ k, S k → S' k) : ∀ (es : List V) (i : Nat) (ad : Addr) (sz : Nat), S ad.block → relE T φ w S ad sz i es → relE T φ' w' S' ad sz i es
  | [], _, _, _, _, _ => by simp only [relE]
  | v :: r, i, ad, sz, hs, h => by
    simp only [relE] at h ⊢
    obtain ⟨⟨x, h1, h2, h3, h4⟩, h5⟩ := h
    refine ⟨⟨x, rel_mono hφ hw hS v x h1, h2, h3, fun j u hu => ?_⟩, relE_mono hφ hw hS r (i + 1) ad sz hs h5⟩
    have hb : (ad.add (i * sz + j)).block = ad.block := by unfold Addr.add; split <;> rfl
    rw [World.cell?_of_block (w := w) (by rw [hb]; exact hw _ hs)]
    exact h4 j u hu
end
end
def Blk.own : Blk → Bool
  | .cells _ _ => true
  | .row _ _ => true
  | .mb _ _ => true
  | _ => false
def Loc.blk : Loc → Option Nat
  | .box B => some B
  | .rw B _ _ _ _ => some B
  | .nilrow => none
def inRow (T : Tr) (φ : Nat → Option Loc) (w : World) (S : Nat → Prop) (arr : Array Value) (off sz : Nat) (es : List V) : Prop :=
  ∀ k e, es[k]? = some e → ∃ x, rel T φ w S e x ∧ x.cells.size = sz ∧ (∀ u ∈ x.cells.toList, u.oneCell' = true) ∧ ∀ j u, x.cells[j]? = some u → arr[off + k * sz + j]? = some u
def BlkOk (T : Tr) (φ : Nat → Option Loc) (w : World) (S : Nat → Prop) (n : Nat) : Blk → Prop
  | .cells t cs => ∃ B arr, φ n = some (.box B) ∧ w.heap[B]? = some (.cells arr t (0, 0)) ∧ relL T φ w S cs arr.toList ∧ ∀ u ∈ arr.toList, u.oneCell' = true
  | .row et es => wtL T et es ∧ ∃ e, T.look et = some e ∧ 0 < e.size ∧ ((∃ B off room arr, φ n = some (.rw B off es.length room e.size) ∧ w.heap[B]? = some (.cells arr et (0, 0)) ∧ off = 0 ∧ arr.size = room ∧ off + es.length * e.size ≤ room ∧ inRow T φ w S arr off e.size es) ∨ (φ n = some .nilrow ∧ es = []))
  | .ro et es => wtL T et es ∧ ∃ e, T.look et = some e ∧ 0 < e.size ∧ ((∃ B off room arr fz, φ n = some (.rw B off es.length room e.size) ∧ S B ∧ w.heap[B]? = some (.cells arr et fz) ∧ arr.size = room ∧ off + es.length * e.size ≤ room ∧ inRow T φ w S arr off e.size es) ∨ (φ n = some .nilrow ∧ es = []))
  | .mb t L => ∃ B es c, φ n = some (.box B) ∧ w.heap[B]? = some (.map es c) ∧ (∀ e ∈ es.toList, (e.key, e.val) ∈ L) ∧ (∀ p ∈ L, ∃ e ∈ es.toList, p = (e.key, e.val)) ∧ L.Pairwise (fun a b => a.1 ≠ b.1)
  | .gone => True
structure HOk (T : Tr) (φ : Nat → Option Loc) (b0 : Nat → Prop) (w : World) (S : Nat → Prop) (hp : Hp) : Prop where
  dom : ∀ n, φ n = none ↔ look hp n = none
  blk : ∀ n b, look hp n = some b → BlkOk T φ w S n b
  own : ∀ n b l B, look hp n = some b → b.own = true → φ n = some l → l.blk = some B → ¬ b0 B ∧ B < w.heap.size ∧ ¬ S B
  inj : ∀ n m b c l k B, look hp n = some b → look hp m = some c → b.own = true → c.own = true → φ n = some l → φ m = some k → l.blk = some B → k.blk = some B → n = m
  old : ∀ k, S k → k < w.heap.size
structure Base where
  w : World
  Z : Nat → Prop
  lt : ∀ k, Z k → k < w.heap.size
  anc : List (Nat × Loc)
  rd : Option Nat
abbrev oldZ (w : World) : Nat → Prop := fun k => k < w.heap.size
def Base.of (w : World) : Base := ⟨w, oldZ w, fun _ h => h, [], none⟩
structure Since (w0 : Base) (w : World) : Prop where
  os : w.os = w0.w.os
  tape : w.tape = w0.w.tape
  output : w.output = w0.w.output
  size : w0.w.heap.size ≤ w.heap.size
  block : ∀ k, w0.Z k → w.heap[k]? = w0.w.heap[k]?
theorem Since.below {w0 w : World} (h : Since (.of w0) w) : Below w0.heap.size w0 w := ⟨h.os, h.tape, h.output, h.size, h.block⟩
theorem Since.refl (w : World) : Since (.of w) w := ⟨rfl, rfl, rfl, Nat.le_refl _, fun _ _ => rfl⟩
theorem Since.fresh {w0 : Base} {w : World} (h : Since w0 w) : ¬ w0.Z w.heap.size := fun k => by have := w0.lt _ k; have := h.size; omega
def SLe (b0 : Nat → Prop) (S S' : Nat → Prop) : Prop := (∀ k, S k → S' k) ∧ ∀ k, S' k → S k ∨ ¬ b0 k
theorem SLe.refl {b0 : Nat → Prop} {S : Nat → Prop} : SLe b0 S S := ⟨fun _ h => h, fun _ h => .inl h⟩
theorem SLe.trans {b0 : Nat → Prop} {a b c : Nat → Prop} (h : SLe b0 a b) (k : SLe b0 b c) : SLe b0 a c :=
  ⟨fun x hx => k.1 x (h.1 x hx), fun x hx => (k.2 x hx).elim (fun hx => h.2 x hx) .inr⟩
structure Inv (T : Tr) (w0 : Base) (φ : Nat → Option Loc) (S : Nat → Prop) (tm : List V) (hp : Hp) (a : Act) (w : World) : Prop where
  since : Since w0 w
  size : tm.length = a.tmps.size
  tms : ∀ t, rel T φ w S (tm.getD t .dead) (a.tmps.getD t undef)
  dfr : a.defers = []
  heap : HOk T φ w0.Z w S hp
  anc : ∀ p ∈ w0.anc, φ p.1 = some p.2
end Go.Ab
end
section
namespace Go.Ab
open Go.RowKit
def asInt : V → Int
  | .i _ n => n
  | .s (.int _ n) => n
  | _ => 0
def cellAt (e : V) (j : Nat) : V := match e with
  | .agg cs => cs.getD j .dead
  | e => match j with
    | 0 => e
    | _ => .dead
def elAt (es : List V) (i : Int) (j : Nat) : V := cellAt (es.getD i.toNat .dead) j
def strOf : V → ByteArray
  | .str s => s
  | .s (.string s) => s
  | _ => .empty
def boolOf : V → Bool
  | .b c => c
  | .s (.bool c) => c
  | _ => false
def listOf : V → List V
  | .sl _ l => l
  | _ => []
def putCells (e : V) (j : Nat) (cs : List V) : V := match e with
  | .agg ds => .agg (place ds j cs)
  | e => match cs with
    | [v] => v
    | _ => e
def strCmp (op : BinOp) (x y : ByteArray) : Bool :=
  let eq := x.toList == y.toList
  let lt := Op.bytesLess x.toList y.toList
  match op with
  | .eql => eq
  | .neq => !eq
  | .lss => lt
  | .leq => lt || eq
  | .gtr => !(lt || eq)
  | .geq => !lt
  | _ => false
def arReal (op : BinOp) (k : IntKind) (a b : Int) : Int :=
  match op with
  | .add => k.wrap (a + b)
  | .sub => k.wrap (a - b)
  | .mul => k.wrap (a * b)
  | .quo => k.wrap (a.tdiv b)
  | .rem => a.tmod b
  | .and => k.wrap (BitVec.ofInt k.bits a &&& BitVec.ofInt k.bits b).toNat
  | .or => k.wrap (BitVec.ofInt k.bits a ||| BitVec.ofInt k.bits b).toNat
  | .xor => k.wrap (BitVec.ofInt k.bits a ^^^ BitVec.ofInt k.bits b).toNat
  | .andNot => k.wrap (BitVec.ofInt k.bits a &&& ~~~BitVec.ofInt k.bits b).toNat
  | .shl => k.wrap (a * 2 ^ (min b.toNat k.bits))
  | .shr => a.fdiv (2 ^ (min b.toNat k.bits))
  | _ => 0
def unReal (op : UnOp) (k : IntKind) (a : Int) : Int :=
  match op with
  | .neg => k.wrap (0 - a)
  | .xor => k.wrap (BitVec.ofInt k.bits (if k.signed then -1 else k.max) ^^^ BitVec.ofInt k.bits a).toNat
  | _ => a
def strBytes (s : ByteArray) : List V := s.data.toList.map fun b => .i .u8 b.toNat
def ovlReal (es : List V) (lo : Int) (xs : List V) : List V := es.take lo.toNat ++ xs.take (es.length - lo.toNat) ++ es.drop (lo.toNat + (xs.take (es.length - lo.toNat)).length)
def Body (P : Program) (f : Nat) : Prop := ∃ fn c, P.funcs[f]? = some fn ∧ (fn.name == "runtime.NumGoroutine") = false ∧ fn.body = some c
def Goes (P : Program) (f : Nat) (vals : Array Value) (w : World) (R : Ending → World → Prop) : Prop :=
  (Body P f ∧ Calls P f vals w R) ∨ ∃ x w', (callFunc f vals).run P w = .ok (.value x) w' ∧ R (.returned x) w'
theorem Goes.weaken {P : Program} {f : Nat} {args : Array Value} {w : World} {R R' : Ending → World → Prop} (h : Goes P f args w R) (hR : ∀ e w', R e w' → R' e w') : Goes P f args w R' := by
  rcases h with ⟨hb, h⟩ | ⟨x, w', h1, h2⟩
  · refine .inl ⟨hb, fun cs => ?_⟩
    obtain ⟨e, w', fr, h1, h2⟩ := h cs
    exact ⟨e, w', fr, hR _ _ h1, h2⟩
  · exact .inr ⟨x, w', h1, hR _ _ h2⟩
theorem Goes.calls {P : Program} {f : Nat} {args : Array Value} {w : World} {R : Ending → World → Prop} (h : Goes P f args w R) (hb : Body P f) : Calls P f args w R := by
  rcases h with ⟨_, h⟩ | ⟨x, w', h1, h2⟩
  · exact h
  · obtain ⟨fn, c, b1, b2, b3⟩ := hb
    have : (callFunc f args).run P w = .ok (.enter f args) w := by
      simp [callFunc, b1, b2, b3]
      simpa using b2
    rw [this] at h1
    cases h1
def GOk (T : Tr) (w : World) : Prop := ∀ g cs, T.gv g = some cs → (∃ t f, w.heap[g]? = some (.cells cs.toArray t f)) ∧ ∀ u ∈ cs, u.oneCell' = true
class GZ (T : Tr) (w0 : Base) : Prop where
  ok : GOk T w0.w
  z : ∀ g cs, T.gv g = some cs → w0.Z g
theorem GZ.of_ok {T : Tr} {w : World} (h : GOk T w) : GZ T (.of w) := ⟨h, fun g cs hg => by
  obtain ⟨⟨t, f, e⟩, _⟩ := h g cs hg
  exact (Array.getElem?_eq_some_iff.1 e).1⟩
theorem GZ.since {T : Tr} {w0 : Base} [g : GZ T w0] {w : World} (h : Since w0 w) : GOk T w := fun k cs hk => by
  obtain ⟨⟨t, f, e⟩, e2⟩ := g.ok k cs hk
  exact ⟨⟨t, f, (h.block k (g.z k cs hk)).trans e⟩, e2⟩
theorem gok_fl {bs : List Nat} {r : Tr} {w : World} (h : GOk r w) : GOk (.fl bs r) w := fun g cs hg => h g cs (by simpa only [Tr.gv] using hg)
theorem gok_node {k : Nat} {e : TE} {l r : Tr} {w : World} : GOk (.node k e l r) w := fun g cs h => by simp [Tr.gv] at h
def nameR : List (Nat × Nat) → Nat → Nat
  | [], n => n
  | (a, b) :: r, n => match a == n with
    | true => b
    | false => nameR r n
mutual
def renR (ρ : List (Nat × Nat)) : V → V
  | .ptr n j => .ptr (nameR ρ n) j
  | .ep n i j => .ep (nameR ρ n) i j
  | .row n => .row (nameR ρ n)
  | .rowp n lo ln => .rowp (nameR ρ n) lo ln
  | .mrow n => .mrow (nameR ρ n)
  | .bs et n j ln => .bs et (nameR ρ n) j ln
  | .agg cs => .agg (renRL ρ cs)
  | .tup cs => .tup (renRL ρ cs)
  | .fn f fs cs => .fn f (renRL ρ fs) (renRL ρ cs)
  | v => v
def renRL (ρ : List (Nat × Nat)) : List V → List V
  | [] => []
  | v :: r => renR ρ v :: renRL ρ r
end
def renRB (ρ : List (Nat × Nat)) : Blk → Blk
  | .cells t cs => .cells t (renRL ρ cs)
  | b => b
def hasN (hp : Hp) (n : Nat) : Bool := match look hp n with
  | some _ => true
  | none => false
mutual
def allR (hp : Hp) : V → Bool
  | .ptr n _ => hasN hp n
  | .ep n _ _ => hasN hp n
  | .row n => hasN hp n
  | .rowp n _ _ => hasN hp n
  | .mrow n => hasN hp n
  | .bs _ n _ _ => hasN hp n
  | .agg cs => allRL hp cs
  | .tup cs => allRL hp cs
  | .fn _ fs cs => match allRL hp fs with
    | true => allRL hp cs
    | false => false
  | _ => true
def allRL (hp : Hp) : List V → Bool
  | [] => true
  | v :: r => match allR hp v with
    | true => allRL hp r
    | false => false
end
def fitS1 (a b : V) : Prop := match b with
  | .sl u es => match a with
    | .nil => es = []
    | a => a = .sl u es
  | b => a = b
def fitL : List V → List V → Prop
  | [], [] => True
  | a :: r, b :: s => fitS1 a b ∧ fitL r s
  | _, _ => False
def fitV (a b : V) : Prop := match b with
  | .agg ds => match a with
    | .agg cs => fitL cs ds
    | _ => False
  | b => fitS1 a b
def sameB : Option Blk → Blk → Prop
  | some (.cells t cs), .cells t' cs' => t = t' ∧ fitL (cs.map normV) (cs'.map normV)
  | some (.row u es), .row u' es' => u = u' ∧ es = es'
  | some (.ro u es), .ro u' es' => u = u' ∧ es = es'
  | some (.mb t L), .mb t' L' => t = t' ∧ L = L'
  | some .gone, .gone => True
  | _, _ => False
def fitsH (ρ : List (Nat × Nat)) (hp : Hp) : Hp → Prop
  | [] => True
  | (n, b) :: r => sameB (look hp (nameR ρ n)) (renRB ρ b) ∧ fitsH ρ hp r
def okNames (hp : Hp) : List (Nat × V) → Bool
  | [] => true
  | (_, v) :: r => match allR hp v with
    | true => okNames hp r
    | false => false
def okBlks (hp : Hp) : Hp → Bool
  | [] => true
  | (_, b) :: r => match (match b with
      | .cells _ cs => allRL hp cs
      | _ => true) with
    | true => okBlks hp r
    | false => false
def once (ρ : List (Nat × Nat)) : Hp → List Nat → List Nat → Bool
  | [], _, _ => true
  | (n, _) :: r, as_, bs => match memN n as_ with
    | true => false
    | false => match memN (nameR ρ n) bs with
      | true => false
      | false => once ρ r (n :: as_) (nameR ρ n :: bs)
def okState (ρ : List (Nat × Nat)) (sl : List (Nat × V)) (hp' : Hp) : Bool := match okNames hp' sl with
  | true => match okBlks hp' hp' with
    | true => once ρ hp' [] []
    | false => false
  | false => false
def ancOk (ρ : List (Nat × Nat)) (hp : Hp) : List Nat → Bool
  | [] => true
  | n :: r => match hasN hp n with
    | true => match nameR ρ n == n with
      | true => ancOk ρ hp r
      | false => false
    | false => false
def FnB (P : Program) (T : Tr) (f : Nat) (args : List V) (hp : Hp) (ns : List Nat) (res : V) (E : Hp) : Prop :=
  ∀ (b : Base), GZ T b → ∀ (φ : Nat → Option Loc) (S : Nat → Prop) (vals : List Value), HOk T φ b.Z b.w S hp → relL T φ b.w S args vals →
    Goes P f vals.toArray b.w fun e w' => ∃ x φ' S', e = .returned x ∧ Since b w' ∧ HOk T φ' b.Z w' S' E ∧ rel T φ' w' S' res x ∧ SLe b.Z S S' ∧ ∀ n ∈ ns, φ' n = φ n
def renE (ρ : List (Nat × Nat)) (E : Hp) : Hp := E.map fun p => (nameR ρ p.1, renRB ρ p.2)
def newOk (ρ : List (Nat × Nat)) (ns : List Nat) (hp hp0 : Hp) : Hp → Bool
  | [] => true
  | (n, b) :: r => match (match hasN hp0 n with
      | true => match b with
        | .gone => true
        | _ => memN n ns
      | false => match look hp (nameR ρ n) with
        | some _ => false
        | none => true) with
    | true => newOk ρ ns hp hp0 r
    | false => false
def fitA : List V → List V → Prop
  | [], [] => True
  | a :: r, b :: s => fitV a b ∧ fitA r s
  | _, _ => False
def domOk (hp : Hp) : Hp → Bool
  | [] => true
  | (n, _) :: r => match hasN hp n with
    | true => domOk hp r
    | false => false
def liveE (E : Hp) : Hp := E.filter fun p => match p.2 with
  | .gone => false
  | _ => true
def CallsB (P : Program) (T : Tr) (f : Nat) (args : List V) (hp : Hp) (v : V) (E : Hp) : Prop :=
  ∃ (ρ : List (Nat × Nat)) (args0 : List V) (hp0 : Hp) (ns : List Nat) (res0 : V) (E0 : Hp), FnB P T f args0 hp0 ns res0 E0 ∧ fitA (args.map normV) ((renRL ρ args0).map normV) ∧ allRL hp0 args0 = true ∧ fitsH ρ hp hp0 ∧ okBlks hp0 hp0 = true ∧
    once ρ E0 [] [] = true ∧ once ρ hp0 [] [] = true ∧ domOk E0 hp0 = true ∧ newOk ρ ns hp hp0 E0 = true ∧ okBlks (liveE E0) E0 = true ∧ allR (liveE E0) res0 = true ∧ v = renR ρ res0 ∧ E = renE ρ E0
def Fn (P : Program) (T : Tr) (f : Nat) (args : List V) (res : V) (post : Hp) : Prop :=
  ∀ (w : World) (S : Nat → Prop) (vals : List Value), (∀ k, S k → k < w.heap.size) → GOk T w → relL T (fun _ => none) w S args vals →
    Goes P f vals.toArray w fun e w' => ∃ x φ' S', e = .returned x ∧ Since (.of w) w' ∧ HOk T φ' (oldZ w) w' S' post ∧ rel T φ' w' S' res x ∧ (∀ k, S' k → S k ∨ w.heap.size ≤ k)
def Post (T : Tr) (w0 : Base) (S0 : Nat → Prop) (K : Exit → List V → Hp → Prop) (e : Exit) (a : Act) (w : World) : Prop :=
  ∃ φ S tm hp, SLe w0.Z S0 S ∧ Inv T w0 φ S tm hp a w ∧ K e tm hp ∧ (match e with | .normal | .exit _ | .ret => True | _ => False)
def Fc (rd : Option Nat) : Fence := { fn := fun _ => True, depth := none, alive := false, round := rd }
def Sat (P : Program) (T : Tr) (w0 : Base) (c : Code) (K : Exit → List V → Hp → Prop) (tm : List V) (hp : Hp) : Prop :=
  ∀ φ S a w, Inv T w0 φ S tm hp a w → c.wpIn (Fc w0.rd) 0 P (Post T w0 S K) a w
noncomputable def real (P : Program) (T : Tr) (w0 : Base) : Ops where
  ar := arReal
  un := unReal
  cv k a := k.wrap a
  mn a b := if b < a then b else a
  mx a b := if b > a then b else a
  pl a b := a + b
  mi a b := a - b
  cmp := cmpLit
  nt b := !b
  beq a b := a == b
  an a b := a && b
  scmp := strCmp
  cat a b := a ++ b
  slen s := s.size
  sbyte s i := ((s[i.toNat]?).getD 0).toNat
  ssub s l h := s.extract l.toNat h.toNat
  ofB := strBytes
  toB es := ⟨(es.map fun e => UInt8.ofNat (asInt e).toNat).toArray⟩
  len es := es.length
  gi es i j := asInt (elAt es i j)
  gb es i j := boolOf (elAt es i j)
  gs es i j := strOf (elAt es i j)
  gl es i j := listOf (elAt es i j)
  sub es l h := (es.take h.toNat).drop l.toNat
  put es i j cs := es.set i.toNat (putCells (es.getD i.toNat .dead) j cs)
  app es xs := es ++ xs
  ovl := ovlReal
  rep n v := List.replicate n.toNat v
  ne0 n := n ≠ 0
  ge0 n := 0 ≤ n
  inb i n := 0 ≤ i ∧ i < n
  bnd l h n := 0 ≤ l ∧ l ≤ h ∧ h ≤ n
  room n b := n ≤ 140737488355328 ∧ n.toNat * b ≤ 140737488355328
  sroom a b := a.size + b.size ≤ 9223372036854775807
  need p q := p ∧ q
  br c A B := (c = true → A ()) ∧ (c = false → B ())
  call f args K := ∃ v h, Fn P T f args v h ∧ K v h
  callb f args hp K := ∃ v E, CallsB P T f args hp v E ∧ K v E
  loop b K tm hp := Sat P T w0 (.loop b) K tm hp
  cut a b K tm hp := Sat P T w0 (.seq a b) K tm hp
  nl es A B := (es = [] → A ()) ∧ B ()
inductive Res (P : Program) (T : Tr) : Out → V → Hp → Prop
  | ok {v E} : Res P T (.ok v E) v E
  | need {p k v E} : p → Res P T k v E → Res P T (.need p k) v E
  | brT {c t f v E} : c = true → Res P T t v E → Res P T (.br c t f) v E
  | brF {c t f v E} : c = false → Res P T f v E → Res P T (.br c t f) v E
  | call {f as_ k v E v0 h0} : Fn P T f as_ v0 h0 → Res P T (k v0 h0) v E → Res P T (.call f as_ k) v E
  | callb {f as_ hp v E} : CallsB P T f as_ hp v E → Res P T (.callb f as_ hp) v E
section
variable {P : Program} {T : Tr} {w0 : Base}
theorem res_of_out : ∀ {r : Out} {K : V → Hp → Prop}, outF (real P T w0) r K → ∃ v E, Res P T r v E ∧ K v E
  | .fail, _, h => h.elim
  | .ok v E, _, h => ⟨v, E, .ok, h⟩
  | .need p k, _, h => by
    obtain ⟨h1, h2⟩ := h
    obtain ⟨v, E, h3, h4⟩ := res_of_out h2
    exact ⟨v, E, .need h1 h3, h4⟩
  | .br c t f, _, h => by
    obtain ⟨h1, h2⟩ := h
    cases c with
    | true =>
      obtain ⟨v, E, h3, h4⟩ := res_of_out (h1 rfl)
      exact ⟨v, E, .brT rfl h3, h4⟩
    | false =>
      obtain ⟨v, E, h3, h4⟩ := res_of_out (h2 rfl)
      exact ⟨v, E, .brF rfl h3, h4⟩
  | .call f as_ k, _, h => by
    obtain ⟨v0, h0, h1, h2⟩ := h
    obtain ⟨v, E, h3, h4⟩ := res_of_out h2
    exact ⟨v, E, .call h1 h3, h4⟩
  | .callb f as_ hp, _, h => by
    obtain ⟨v0, h0, h1, h2⟩ := h
    exact ⟨v0, h0, .callb h1, h2⟩
theorem res_fail {v E} (h : Res P T .fail v E) : False := by cases h
theorem res_ok {v v' E E'} (h : Res P T (.ok v E) v' E') : v' = v ∧ E' = E := by cases h; exact ⟨rfl, rfl⟩
theorem res_need {p k v E} (h : Res P T (.need p k) v E) : p ∧ Res P T k v E := by cases h with | need h1 h2 => exact ⟨h1, h2⟩
structure Ext (T : Tr) (w0 : Base) (φ : Nat → Option Loc) (S : Nat → Prop) (hp : Hp) (w : World) (φ' : Nat → Option Loc) (S' : Nat → Prop) (E : Hp) (w' : World) : Prop where
  loc : LocLe φ φ'
  sle : SLe w0.Z S S'
  keep : ∀ k, S k → w'.heap[k]? = w.heap[k]?
  since : Since w0 w'
  heap : HOk T φ' w0.Z w' S' (E ++ hp)
theorem Ext.refl {φ S hp w} (hs : Since w0 w) (hh : HOk T φ w0.Z w S hp) : Ext T w0 φ S hp w φ S [] w :=
  ⟨LocLe.refl _, SLe.refl, fun _ _ => rfl, hs, hh⟩
theorem semAt_run {x : Oper} {a : Act} {w w' : World} {P : Program} {nx : Next} (rd : Option Nat) (h : (execOp a.eval x).run P w = .ok nx w') (hn : ∀ d, nx ≠ .defer d) : (x.semAt rd a.eval).run P w = .ok nx w' := by
  by_cases hx : ∀ c, x.op ≠ .defer c
  · rw [Oper.semAt_eq rd _ _ hx]; exact h
  · exfalso
    have : ∃ c, x.op = .defer c := Classical.byContradiction fun hc => hx fun c e => hc ⟨c, e⟩
    obtain ⟨c, hc⟩ := this
    unfold execOp at h
    rw [hc] at h
    simp only [Sem.run_bind] at h
    cases hr : (resolve a.eval c x.type).run P w <;> rw [hr] at h <;> simp [Result.andThen] at h
    exact hn _ h.1.symm
def Runs (P : Program) (x : Oper) (a : Act) (w : World) (R : Value → World → Prop) : Prop :=
  ∀ (rd : Option Nat) (next : Act → World → Prop) (Q : Exit → Act → World → Prop), (∀ xv w', R xv w' → next (a.put x.dst xv) w') → x.wpIn (Fc rd) 0 P a w next Q
theorem runs_value {x : Oper} {a : Act} {w w' : World} {xv : Value} {R : Value → World → Prop} (h : (execOp a.eval x).run P w = .ok (.value xv) w') (hR : R xv w') : Runs P x a w R := by
  intro rd next Q hn
  refine ⟨fun _ _ => trivial, ?_⟩
  rw [show (Fc rd).round = rd from rfl, semAt_run rd h (fun d e => by cases e)]
  exact hn _ _ hR
theorem runs_skip {x : Oper} {a : Act} {w w' : World} {R : Value → World → Prop} (h : (execOp a.eval x).run P w = .ok .skip w') (hR : R undef w') : Runs P x a w R := by
  intro rd next Q hn
  refine ⟨fun _ _ => trivial, ?_⟩
  rw [show (Fc rd).round = rd from rfl, semAt_run rd h (fun d e => by cases e)]
  exact hn _ _ hR
def Left (T : Tr) (w0 : Base) (φ : Nat → Option Loc) (S : Nat → Prop) (hp : Hp) (w : World) (v : V) (E : Hp) (xv : Value) (w' : World) : Prop :=
  ∃ φ' S', Ext T w0 φ S hp w φ' S' E w' ∧ rel T φ' w' S' v xv
theorem norm1_rel {φ S w} {v : V} {x : Value} (h : rel T φ w S v x) : rel T φ w S (norm1 v) x := by
  cases v with
  | s u =>
    simp only [rel] at h
    obtain ⟨rfl, h2⟩ := h
    cases x <;> simp_all [norm1, rel]
  | _ => exact h
theorem normL_rel {φ S w} : ∀ {cs : List V} {xs : List Value}, relL T φ w S cs xs → relL T φ w S (cs.map norm1) xs
  | [], xs, h => by simpa only [relL, List.map_nil] using h
  | v :: r, xs, h => by
    simp only [relL, List.map_cons] at h ⊢
    obtain ⟨x, xs', h1, h2, h3⟩ := h
    exact ⟨x, xs', h1, norm1_rel h2, normL_rel h3⟩
theorem norm_rel {φ S w} {v : V} {x : Value} (h : rel T φ w S v x) : rel T φ w S (normV v) x := by
  cases v with
  | agg cs =>
    simp only [normV, rel] at h ⊢
    obtain ⟨a, h1, h2, h3⟩ := h
    exact ⟨a, h1, normL_rel h2, h3⟩
  | s u => exact norm1_rel (v := .s u) h
  | _ => exact h
theorem normVL_rel {φ S w} : ∀ {cs : List V} {xs : List Value}, relL T φ w S cs xs → relL T φ w S (cs.map normV) xs
  | [], xs, h => by simpa only [relL, List.map_nil] using h
  | v :: r, xs, h => by
    simp only [relL, List.map_cons] at h ⊢
    obtain ⟨x, xs', h1, h2, h3⟩ := h
    exact ⟨x, xs', h1, norm_rel h2, normVL_rel h3⟩
theorem normR_rel {φ S w} {v : V} {x : Value} (h : rel T φ w S v x) : rel T φ w S (normR v) x := by
  cases v with
  | tup cs =>
    simp only [normR, rel] at h ⊢
    obtain ⟨a, h1, h2⟩ := h
    exact ⟨a, h1, normVL_rel h2⟩
  | agg cs => exact norm_rel (v := .agg cs) h
  | s u => exact norm_rel (v := .s u) h
  | _ => exact h
theorem getD_set {tm : List V} {t u : Nat} {v : V} : (tm.set t v).getD u .dead = if t = u ∧ t < tm.length then v else tm.getD u .dead := by
  simp only [List.getD_eq_getElem?_getD, List.getElem?_set]
  by_cases h : t = u
  · subst h
    by_cases h2 : t < tm.length
    · simp [h2]
    · simp [h2]
  · simp [h]
theorem put_getD {a : Act} {d : Nat} {x : Value} {u : Nat} : ((a.put (some d) x).tmps.getD u undef) = if d = u ∧ d < a.tmps.size then x else a.tmps.getD u undef := by
  simp only [Act.put, Array.getD_eq_getD_getElem?, Array.getElem?_setIfInBounds]
  by_cases h : d = u
  · subst h
    by_cases h2 : d < a.tmps.size
    · simp [h2]
    · simp [h2]
  · simp [h]
theorem Inv.step {φ S tm hp a w φ' S' E w'} {d : Option Nat} {v : V} {xv : Value} (h : Inv T w0 φ S tm hp a w) (hx : Ext T w0 φ S hp w φ' S' E w') (hv : rel T φ' w' S' v xv) : Inv T w0 φ' S' (setD tm d v) (E ++ hp) (a.put d xv) w' := by
  cases d with
  | none => exact ⟨hx.since, h.size, fun t => rel_mono hx.loc hx.keep hx.sle.1 _ _ (h.tms t), h.dfr, hx.heap, fun p hp => hx.loc _ _ (h.anc p hp)⟩
  | some d =>
    refine ⟨hx.since, by simp [setD, Act.put, h.size], fun t => ?_, h.dfr, hx.heap, fun p hp => hx.loc _ _ (h.anc p hp)⟩
    simp only [setD]
    rw [getD_set, put_getD, h.size]
    split
    · exact hv
    · exact rel_mono hx.loc hx.keep hx.sle.1 _ _ (h.tms t)
theorem ofS_rel {φ S w} : ∀ v : Value, rel T φ w S (ofS v) v := by
  intro v
  unfold ofS
  split
  · simp only [rel]
  · simp only [rel]
  · simp only [rel]
  · rename_i h1 h2 h3
    simp only [rel, true_and]
    cases v <;> first | rfl | exact absurd rfl (h2 _) | exact absurd rfl (h3 _)
theorem ofV_rel {φ S w} : ∀ v : Value, rel T φ w S (ofV v) v := by
  intro v
  unfold ofV
  split
  · rename_i cs
    split
    · rename_i h
      simp only [rel]
      refine ⟨cs, rfl, relL_iff.2 ⟨by simp, fun j c x hc hx => ?_⟩, List.all_eq_true.1 h⟩
      rw [List.getElem?_map, hx] at hc
      simp only [Option.map_some, Option.some.injEq] at hc
      subst hc
      exact ofS_rel x
    · simp only [rel]
  · exact ofS_rel _
theorem ev_rel {φ S tm hp a w} (h : Inv T w0 φ S tm hp a w) (x : Operand) : rel T φ w S (ev tm x) (a.eval x) := by
  cases x with
  | tmp t => exact h.tms t
  | const v => exact ofV_rel v
  | global g => simp [ev, rel, Act.eval, Value.oneCell']
  | func f => simp only [ev, rel, Act.eval, relL]; exact ⟨#[], #[], rfl, rfl, rfl⟩
end
end Go.Ab
end
section
namespace Go.Ab
open Go.RowKit
structure TyOk (P : Program) (T : Tr) : Prop where
  und : ∀ t e, T.look t = some e → P.underlying t = some e.desc
  info : ∀ t e, T.look t = some e → ∃ i, P.info? t = some i ∧ i.size = e.size ∧ i.bytes = e.bytes ∧ i.zero = some e.zero
  eq : ∀ t e, T.look t = some e → e.eq = true → P.stoodInHeld t = false ∧ P.eqGuardType P.depth t = false
  mixed : P.follows .mixedOrders = true
structure TOk (P : Program) (t : Nat) (e : TE) : Prop where
  und : P.underlying t = some e.desc
  info : ∃ i, P.info? t = some i ∧ i.size = e.size ∧ i.bytes = e.bytes ∧ i.zero = some e.zero
  eq : e.eq = true → P.stoodInHeld t = false ∧ P.eqGuardType P.depth t = false
theorem TOk.info_of {P : Program} {t : Nat} {e : TE} (h : (P.info? t).map (fun i => (i.size, i.bytes, i.zero)) = some (e.size, e.bytes, some e.zero)) : ∃ i, P.info? t = some i ∧ i.size = e.size ∧ i.bytes = e.bytes ∧ i.zero = some e.zero := by
  rw [Option.map_eq_some_iff] at h
  obtain ⟨i, h1, h2⟩ := h
  injection h2 with h2 h3
  injection h3 with h3 h4
  exact ⟨i, h1, h2, h3, h4⟩
def Tr.all (p : Nat → TE → Prop) : Tr → Prop
  | .nil => True
  | .gl _ r => r.all p
  | .fl _ r => r.all p
  | .node k e l r => p k e ∧ l.all p ∧ r.all p
theorem Tr.look_all {p : Nat → TE → Prop} : ∀ {T : Tr} {t : Nat} {e : TE}, T.all p → T.look t = some e → p t e
  | .nil, t, e, _, h => by simp [Tr.look] at h
  | .gl _ r, t, e, hp, h => Tr.look_all (T := r) hp (by simpa only [Tr.look] using h)
  | .fl _ r, t, e, hp, h => Tr.look_all (T := r) hp (by simpa only [Tr.look] using h)
  | .node k e0 l r, t, e, ⟨h1, h2, h3⟩, h => by
    unfold Tr.look at h
    split at h
    · rename_i hk
      injection h with h
      subst h
      rw [show t = k from by simpa using hk]
      exact h1
    · split at h
      · exact Tr.look_all h2 h
      · exact Tr.look_all h3 h
theorem TyOk.of_all {P : Program} {T : Tr} (h : T.all (TOk P)) (hm : P.follows .mixedOrders = true) : TyOk P T :=
  ⟨fun _ _ hl => (Tr.look_all h hl).und, fun _ _ hl => (Tr.look_all h hl).info, fun _ _ hl => (Tr.look_all h hl).eq, hm⟩
section
variable {P : Program} {T : Tr} {w0 : Base} {φ : Nat → Option Loc} {w : World} {S : Nat → Prop} {v : V} {x : Value} {hp : Hp}
theorem asI_lit {k n} (h : asI v = .lit k n) (hr : rel T φ w S v x) : x = .int k n := by
  unfold asI at h
  split at h
  · injection h with h1 h2; subst h1; subst h2; simp only [rel] at hr; exact hr.1
  · cases h
  · cases h
theorem asI_sym {k n} (h : asI v = .sym k n) (hr : rel T φ w S v x) : x = .int k n := by
  unfold asI at h
  split at h
  · cases h
  · injection h with h1 h2; subst h1; subst h2; simpa only [rel] using hr
  · cases h
theorem asB_lit {c} (h : asB v = .lit c) (hr : rel T φ w S v x) : x = .bool c := by
  unfold asB at h
  split at h
  · injection h with h1; subst h1; simp only [rel] at hr; exact hr.1
  · cases h
  · cases h
theorem asB_sym {c} (h : asB v = .sym c) (hr : rel T φ w S v x) : x = .bool c := by
  unfold asB at h
  split at h
  · cases h
  · injection h with h1; subst h1; simpa only [rel] using hr
  · cases h
theorem asS_some {s} (h : asS v = some s) (hr : rel T φ w S v x) : x = .string s := by
  unfold asS at h
  split at h
  · injection h with h1; subst h1; simp only [rel] at hr; exact hr.1
  · injection h with h1; subst h1; simpa only [rel] using hr
  · cases h
theorem asZ_some {n} (h : asZ v = some n) (hr : rel T φ w S v x) : ∃ k, x = .int k n := by
  unfold asZ at h
  split at h
  · injection h with h1; subst h1; simp only [rel] at hr; exact ⟨_, hr.1⟩
  · injection h with h1; subst h1; simp only [rel] at hr; exact ⟨_, hr⟩
  · cases h
theorem rel_i (k n) : rel T φ w S (.i k n) (.int k n) := by simp only [rel]
theorem rel_b (c) : rel T φ w S (.b c) (.bool c) := by simp only [rel]
theorem rel_str (c) : rel T φ w S (.str c) (.string c) := by simp only [rel]
theorem rel_si (k n) : rel T φ w S (.s (.int k n)) (.int k n) := by simp [rel, Value.oneCell']
theorem rel_sb (c) : rel T φ w S (.s (.bool c)) (.bool c) := by simp [rel, Value.oneCell']
theorem rel_ss (c) : rel T φ w S (.s (.string c)) (.string c) := by simp [rel, Value.oneCell']
def Gives (P : Program) (T : Tr) (φ : Nat → Option Loc) (w : World) (S : Nat → Prop) (m : Sem Value) (v : V) (E : Hp) : Prop := E = [] ∧ ∃ xv, m.run P w = .ok xv w ∧ rel T φ w S v xv
theorem run_arI {op : BinOp} {k : IntKind} {t : TypeId} {a b : Int} (ho : cls op = .ar) : (binOp op t (.int k a) (.int k b)).run P w = .ok (.int k (arReal op k a b)) w := by
  cases op <;> first | (simp [cls] at ho; done) | simp [binOp, Op.intArith, Op.intBits, arReal]
theorem run_dvI {op : BinOp} {k : IntKind} {t : TypeId} {a b : Int} (ho : cls op = .dv) (hb : b ≠ 0) : (binOp op t (.int k a) (.int k b)).run P w = .ok (.int k (arReal op k a b)) w := by
  cases op <;> first | (simp [cls] at ho; done) | simp [binOp, Op.intDiv, arReal, hb]
theorem run_shI {op : BinOp} {k k' : IntKind} {t : TypeId} {a b : Int} (ho : cls op = .sh) (hb : 0 ≤ b) : (binOp op t (.int k a) (.int k' b)).run P w = .ok (.int k (arReal op k a b)) w := by
  have hb' : ¬ b < 0 := by omega
  cases op <;> first | (simp [cls] at ho; done) | simp [binOp, Op.shift, arReal, hb']
theorem run_cmpI {op : BinOp} {k : IntKind} {t : TypeId} {a b : Int} (ho : cls op = .cmp) : (binOp op t (.int k a) (.int k b)).run P w = .ok (.bool (cmpLit op a b)) w := by
  cases op <;> first | (simp [cls] at ho; done) | simp [binOp, Op.intCmp, cmpLit]
theorem arI_ok {op : BinOp} {t : TypeId} {vx vy : V} {x y : Value} {v E} (h : Res P T (arI (real P T w0) op vx vy) v E) (hx : rel T φ w S vx x) (hy : rel T φ w S vy y)
    (hc : cls op = .ar ∨ (cls op = .dv ∧ ∃ n, asZ vy = some n ∧ n ≠ 0)) : Gives P T φ w S (binOp op t x y) v E := by
  have hrun : ∀ k a b, x = .int k a → y = .int k b → (binOp op t x y).run P w = .ok (.int k (arReal op k a b)) w := by
    intro k a b hx' hy'
    subst hx'; subst hy'
    rcases hc with hc | ⟨hc, n, hn, h0⟩
    · exact run_arI hc
    · obtain ⟨k', e⟩ := asZ_some hn hy
      injection e with e1 e2
      subst e2
      exact run_dvI hc h0
  unfold arI at h
  split at h
  · rename_i k a k' b ha hb
    split at h
    · rename_i hk
      have hk' : k = k' := by cases k <;> cases k' <;> first | rfl | cases hk
      subst hk'
      have hr := hrun k a b (asI_lit ha hx) (asI_lit hb hy)
      split at h <;> (obtain ⟨rfl, rfl⟩ := res_ok h; refine ⟨rfl, _, hr, ?_⟩; simp [rel, arReal, Value.oneCell', real])
    · exact (res_fail h).elim
  · rename_i k a k' b ha hb
    split at h
    · rename_i hk
      have hk' : k = k' := by cases k <;> cases k' <;> first | rfl | cases hk
      subst hk'
      have hr := hrun k a b (asI_lit ha hx) (asI_sym hb hy)
      obtain ⟨rfl, rfl⟩ := res_ok h; exact ⟨rfl, _, hr, rel_i _ _⟩
    · exact (res_fail h).elim
  · rename_i k a k' b ha hb
    split at h
    · rename_i hk
      have hk' : k = k' := by cases k <;> cases k' <;> first | rfl | cases hk
      subst hk'
      have hr := hrun k a b (asI_sym ha hx) (asI_lit hb hy)
      obtain ⟨rfl, rfl⟩ := res_ok h; exact ⟨rfl, _, hr, rel_i _ _⟩
    · exact (res_fail h).elim
  · rename_i k a k' b ha hb
    split at h
    · rename_i hk
      have hk' : k = k' := by cases k <;> cases k' <;> first | rfl | cases hk
      subst hk'
      have hr := hrun k a b (asI_sym ha hx) (asI_sym hb hy)
      obtain ⟨rfl, rfl⟩ := res_ok h; exact ⟨rfl, _, hr, rel_i _ _⟩
    · exact (res_fail h).elim
  · exact (res_fail h).elim
theorem cmpI_ok {op : BinOp} {t : TypeId} {vx vy : V} {x y : Value} {v E} (h : Res P T (cmpI (real P T w0) op vx vy) v E) (hx : rel T φ w S vx x) (hy : rel T φ w S vy y) (hc : cls op = .cmp) : Gives P T φ w S (binOp op t x y) v E := by
  have hrun : ∀ k a b, x = .int k a → y = .int k b → (binOp op t x y).run P w = .ok (.bool (cmpLit op a b)) w := by
    intro k a b hx' hy'
    subst hx'; subst hy'
    exact run_cmpI hc
  unfold cmpI at h
  split at h
  · rename_i k a k' b ha hb
    split at h
    · rename_i hk
      have hk' : k = k' := by cases k <;> cases k' <;> first | rfl | cases hk
      subst hk'
      obtain ⟨rfl, rfl⟩ := res_ok h; exact ⟨rfl, _, hrun k a b (asI_lit ha hx) (asI_lit hb hy), rel_sb _⟩
    · exact (res_fail h).elim
  · rename_i k a k' b ha hb
    split at h
    · rename_i hk
      have hk' : k = k' := by cases k <;> cases k' <;> first | rfl | cases hk
      subst hk'
      obtain ⟨rfl, rfl⟩ := res_ok h; exact ⟨rfl, _, hrun k a b (asI_lit ha hx) (asI_sym hb hy), rel_b _⟩
    · exact (res_fail h).elim
  · rename_i k a k' b ha hb
    split at h
    · rename_i hk
      have hk' : k = k' := by cases k <;> cases k' <;> first | rfl | cases hk
      subst hk'
      obtain ⟨rfl, rfl⟩ := res_ok h; exact ⟨rfl, _, hrun k a b (asI_sym ha hx) (asI_lit hb hy), rel_b _⟩
    · exact (res_fail h).elim
  · rename_i k a k' b ha hb
    split at h
    · rename_i hk
      have hk' : k = k' := by cases k <;> cases k' <;> first | rfl | cases hk
      subst hk'
      obtain ⟨rfl, rfl⟩ := res_ok h; exact ⟨rfl, _, hrun k a b (asI_sym ha hx) (asI_sym hb hy), rel_b _⟩
    · exact (res_fail h).elim
  · exact (res_fail h).elim
def bval : BV → Option Bool
  | .lit b => some b
  | .sym b => some b
  | .no => none
theorem kinds_eq {k k' : IntKind} (h : (k == k') = true) : k = k' := by cases k <;> cases k' <;> first | rfl | cases h
theorem eqI_ok {vx vy : V} {x y : Value} {r : BV} {d : Nat} {t : TypeId} {k0 : IntKind} (h : eqI (real P T w0) vx vy = some r) (hx : rel T φ w S vx x) (hy : rel T φ w S vy y) (hu : P.underlying t = some (.int k0)) : ∃ c, bval r = some c ∧ (Op.equalIn (d + 1) t x y).run P w = .ok c w := by
  have hrun : ∀ k a b, x = .int k a → y = .int k b → (Op.equalIn (d + 1) t x y).run P w = .ok (a == b) w := by
    intro k a b hx' hy'
    subst hx'; subst hy'
    exact run_equalIn_int w d t k k0 a b hu
  unfold eqI at h
  split at h
  · rename_i k a k' b ha hb
    split at h
    · rename_i hk
      obtain rfl := kinds_eq hk
      injection h with h; subst h
      exact ⟨_, rfl, hrun _ a b (asI_lit ha hx) (asI_lit hb hy)⟩
    · cases h
  · rename_i k a k' b ha hb
    split at h
    · rename_i hk
      obtain rfl := kinds_eq hk
      injection h with h; subst h
      exact ⟨_, rfl, hrun _ a b (asI_lit ha hx) (asI_sym hb hy)⟩
    · cases h
  · rename_i k a k' b ha hb
    split at h
    · rename_i hk
      obtain rfl := kinds_eq hk
      injection h with h; subst h
      exact ⟨_, rfl, hrun _ a b (asI_sym ha hx) (asI_lit hb hy)⟩
    · cases h
  · rename_i k a k' b ha hb
    split at h
    · rename_i hk
      obtain rfl := kinds_eq hk
      injection h with h; subst h
      exact ⟨_, rfl, hrun _ a b (asI_sym ha hx) (asI_sym hb hy)⟩
    · cases h
  · cases h
theorem eqBo_ok {vx vy : V} {x y : Value} {r : BV} {d : Nat} {t : TypeId} (h : eqBo (real P T w0) vx vy = some r) (hx : rel T φ w S vx x) (hy : rel T φ w S vy y) (hu : P.underlying t = some .bool) : ∃ c, bval r = some c ∧ (Op.equalIn (d + 1) t x y).run P w = .ok c w := by
  have hrun : ∀ a b, x = .bool a → y = .bool b → (Op.equalIn (d + 1) t x y).run P w = .ok (a == b) w := by
    intro a b hx' hy'
    subst hx'; subst hy'
    exact run_equalIn_bool' w d t a b hu
  unfold eqBo at h
  split at h
  · rename_i a b ha hb
    injection h with h; subst h
    exact ⟨_, rfl, hrun a b (asB_lit ha hx) (asB_lit hb hy)⟩
  · rename_i a b ha hb
    injection h with h; subst h
    exact ⟨_, rfl, hrun a b (asB_lit ha hx) (asB_sym hb hy)⟩
  · rename_i a b ha hb
    injection h with h; subst h
    exact ⟨_, rfl, hrun a b (asB_sym ha hx) (asB_lit hb hy)⟩
  · rename_i a b ha hb
    injection h with h; subst h
    exact ⟨_, rfl, hrun a b (asB_sym ha hx) (asB_sym hb hy)⟩
  · cases h
theorem eqSt_ok {vx vy : V} {x y : Value} {r : BV} {d : Nat} {t : TypeId} (h : eqSt (real P T w0) vx vy = some r) (hx : rel T φ w S vx x) (hy : rel T φ w S vy y) (hu : P.underlying t = some .string) : ∃ c, bval r = some c ∧ (Op.equalIn (d + 1) t x y).run P w = .ok c w := by
  unfold eqSt at h
  split at h
  · rename_i a b ha hb
    injection h with h; subst h
    have := asS_some ha hx; subst this
    have := asS_some hb hy; subst this
    exact ⟨_, rfl, run_equalIn_string w d t a b hu⟩
  · cases h
theorem eqD_ok {vx vy : V} {x y : Value} {r : BV} {d : Nat} {t : TypeId} {de : TypeDesc} (h : eqD (real P T w0) de vx vy = some r) (hx : rel T φ w S vx x) (hy : rel T φ w S vy y) (hu : P.underlying t = some de) : ∃ c, bval r = some c ∧ (Op.equalIn (d + 1) t x y).run P w = .ok c w := by
  unfold eqD at h
  split at h
  · exact eqI_ok h hx hy hu
  · exact eqBo_ok h hx hy hu
  · exact eqSt_ok h hx hy hu
  · cases h
theorem andB_val {a b : BV} {c d : Bool} (ha : bval a = some c) (hb : bval b = some d) : bval (andB (real P T w0) a b) = some (c && d) := by
  cases a with
  | lit a => simp [bval] at ha; subst ha; cases a <;> simp [andB, bval] at * <;> exact hb
  | sym a =>
    simp [bval] at ha; subst ha
    cases b with
    | lit b => simp [bval] at hb; subst hb; cases b <;> simp [andB, bval]
    | sym b => simp [bval] at hb; subst hb; simp [andB, bval, real]
    | no => cases hb
  | no => cases ha
theorem notB_val {a : BV} {c : Bool} (ha : bval a = some c) : bval (notB (real P T w0) a) = some (!c) := by
  cases a with
  | lit a => simp [bval] at ha; subst ha; rfl
  | sym a => simp [bval] at ha; subst ha; rfl
  | no => cases ha
theorem ofB_ok {r : BV} {c : Bool} {v E} (hb : bval r = some c) (h : Res P T (Ab.ofB r) v E) : E = [] ∧ rel T φ w S v (.bool c) := by
  cases r with
  | lit b => simp [bval] at hb; subst hb; obtain ⟨rfl, rfl⟩ := res_ok h; exact ⟨rfl, rel_sb _⟩
  | sym b => simp [bval] at hb; subst hb; obtain ⟨rfl, rfl⟩ := res_ok h; exact ⟨rfl, rel_b _⟩
  | no => cases hb
theorem run_partS {t : TypeId} {de : TypeDesc} (hu : P.underlying t = some de) (hd : isAggD de = false) {cs : Array Value} {off : Nat} {u : Value} (h : cs[off]? = some u) : (part t cs off).run P w = .ok u w := by
  have : (isAgg t).run P w = .ok false w := by
    simp only [isAgg, Sem.run_bind, run_underlying hu, Result.andThen_ok]
    cases de <;> first | (simp [isAggD] at hd; done) | rfl
  simp [part, Sem.run_bind, this, h]
theorem run_partA {t : TypeId} {de : TypeDesc} (hu : P.underlying t = some de) (hd : isAggD de = true) {i : TypeInfo} (hi : P.info? t = some i) {cs : Array Value} {off : Nat} : (part t cs off).run P w = .ok (.agg (cs.extract off (off + i.size))) w := by
  have : (isAgg t).run P w = .ok true w := by
    simp only [isAgg, Sem.run_bind, run_underlying hu, Result.andThen_ok]
    cases de <;> first | (simp [isAggD] at hd; done) | rfl
  simp [part, Sem.run_bind, this, sizeOf, run_typeInfo w hi]
theorem getD_some {α : Type} {l : List α} {i : Nat} {d : α} (h : i < l.length) : l[i]? = some (l.getD i d) := by simp [List.getD_eq_getElem?_getD, h]
theorem relL_get {cs : List V} {xs : List Value} (h : relL T φ w S cs xs) {j : Nat} (hj : j < cs.length) : ∃ u, xs[j]? = some u ∧ rel T φ w S (cs.getD j .dead) u := by
  obtain ⟨hl, hg⟩ := relL_iff.1 h
  have hj' : j < xs.length := by omega
  exact ⟨xs[j], List.getElem?_eq_getElem hj', hg j _ _ (getD_some hj) (List.getElem?_eq_getElem hj')⟩
theorem relL_sub {cs : List V} {xs : List Value} (h : relL T φ w S cs xs) (a b : Nat) : relL T φ w S ((cs.drop a).take b) ((xs.drop a).take b) := by
  obtain ⟨hl, hg⟩ := relL_iff.1 h
  refine relL_iff.2 ⟨by simp [hl], fun j c u hc hu => ?_⟩
  rw [List.getElem?_take] at hc hu
  split at hc
  · rename_i hjb
    rw [if_pos hjb] at hu
    rw [List.getElem?_drop] at hc hu
    exact hg _ _ _ hc hu
  · cases hc
theorem eqL_ok (ht : TyOk P T) : ∀ (fuel : Nat) (fs : List Field) (vx vy : List V) (xs ys : Array Value) (r : BV) (d : Nat), fuel ≤ d → eqL (real P T w0) T vx vy fuel fs = some r → relL T φ w S vx xs.toList → relL T φ w S vy ys.toList → ∃ c, bval r = some c ∧ (Op.eqFields (d + 1) xs ys fs).run P w = .ok c w := by
  intro fuel
  induction fuel with
  | zero =>
    intro fs vx vy xs ys r d hd h hx hy
    cases fs with
    | nil => simp only [eqL, Option.some.injEq] at h; subst h; exact ⟨true, rfl, by simp [Op.eqFields]⟩
    | cons f fs => simp [eqL] at h
  | succ fuel ih =>
    intro fs vx vy xs ys r d hd h hx hy
    cases fs with
    | nil => simp only [eqL, Option.some.injEq] at h; subst h; exact ⟨true, rfl, by simp [Op.eqFields]⟩
    | cons f fs =>
      simp only [eqL] at h
      split at h
      · cases h
      · rename_i hn
        have hn' : f.name ≠ "_" := by simpa using hn
        split at h
        · cases h
        · rename_i e he
          have hu := ht.und _ _ he
          split at h
          · rename_i a b ha hb
            injection h with h
            subst h
            obtain ⟨c2, hc2, hr2⟩ := ih fs vx vy xs ys b d (by omega) hb hx hy
            -- the field
            have key : ∃ c1 p q, bval a = some c1 ∧ (part f.type xs f.offset).run P w = .ok p w ∧ (part f.type ys f.offset).run P w = .ok q w ∧ (Op.equalIn (d + 1) f.type p q).run P w = .ok c1 w := by
              split at ha
              · rename_i gs hgs
                split at ha
                · rename_i h1 h2 h3
                  obtain ⟨i, hi, hs, _, _⟩ := ht.info _ _ he
                  obtain ⟨hp, _⟩ := ht.eq _ _ he h1
                  have hA : isAggD e.desc = true := by rw [hgs]; rfl
                  have hx1 : relL T φ w S ((vx.drop f.offset).take e.size) (xs.extract f.offset (f.offset + i.size)).toList := by
                    have := relL_sub hx f.offset e.size
                    rwa [show (xs.extract f.offset (f.offset + i.size)).toList = (xs.toList.drop f.offset).take e.size from by rw [hs]; simp [Array.toList_extract]]
                  have hy1 : relL T φ w S ((vy.drop f.offset).take e.size) (ys.extract f.offset (f.offset + i.size)).toList := by
                    have := relL_sub hy f.offset e.size
                    rwa [show (ys.extract f.offset (f.offset + i.size)).toList = (ys.toList.drop f.offset).take e.size from by rw [hs]; simp [Array.toList_extract]]
                  cases d with
                  | zero => omega
                  | succ d =>
                    obtain ⟨c1, hc1, hr1⟩ := ih gs.toList _ _ _ _ a d (by omega) ha hx1 hy1
                    refine ⟨c1, _, _, hc1, run_partA hu hA hi, run_partA hu hA hi, ?_⟩
                    have hf : P.fieldsOf f.type = gs := by simp [Program.fieldsOf, hu, hgs]
                    rw [run_equalIn_struct (P := P) w (d + 1) f.type _ _ (by rw [hf, hu, hgs]) hp, hf]
                    exact hr1
                · cases ha
              · cases ha
              · rename_i hns hna
                split at ha
                · rename_i h1 h2
                  have hA : isAggD e.desc = false := by
                    cases hd2 : e.desc <;> first | rfl | exact absurd hd2 (hns _) | exact absurd hd2 (hna _ _)
                  obtain ⟨p, hp1, hp2⟩ := relL_get hx (j := f.offset) (by simp [Nat.blt] at h1; omega)
                  obtain ⟨q, hq1, hq2⟩ := relL_get hy (j := f.offset) (by simp [Nat.blt] at h2; omega)
                  obtain ⟨c1, hc1, hr1⟩ := eqD_ok (d := d) (t := f.type) ha hp2 hq2 hu
                  exact ⟨c1, p, q, hc1, run_partS hu hA (by simpa using hp1), run_partS hu hA (by simpa using hq1), hr1⟩
                · cases ha
            obtain ⟨c1, p, q, hc1, hp, hq, hr1⟩ := key
            refine ⟨c1 && c2, andB_val hc1 hc2, ?_⟩
            rw [Op.eqFields]
            simp only [if_pos hn', Sem.run_bind, hp, hq, hr1, Result.andThen_ok]
            cases c1
            · simp
            · simpa using hr2
          · cases h
theorem run_strOp {op : BinOp} {t : TypeId} {a b : ByteArray} (ho : cls op = .cmp) : (binOp op t (.string a) (.string b)).run P w = .ok (.bool (strCmp op a b)) w := by
  cases op <;> first | (simp [cls] at ho; done) | simp [binOp, Op.stringOp, strCmp]
theorem eqGuard_plain {op : BinOp} {t : TypeId} {xo yo : Operand} {x y : Value} (hx : ∀ cs, x ≠ .agg cs) (hn : x ≠ .nilIface) : (eqGuard op t xo yo x y).run P w = .ok () w := by
  cases op <;> first | (simp [eqGuard]; done) | (cases x <;> first | exact absurd rfl (hx _) | exact absurd rfl hn | simp [eqGuard])
theorem binF_ok (ht : TyOk P T) {op : BinOp} {t : TypeId} {xo yo : Operand} {vx vy : V} {x y : Value} {v E} (h : Res P T (binF (real P T w0) T op t vx vy) v E) (hx : rel T φ w S vx x) (hy : rel T φ w S vy y) :
    Gives P T φ w S (do eqGuard op t xo yo x y; binOp op t x y) v E := by
  have plain : ∀ {m : Sem Value} {v E}, (∀ cs, x ≠ .agg cs) → x ≠ .nilIface → Gives P T φ w S m v E → Gives P T φ w S (do eqGuard op t xo yo x y; m) v E := by
    intro m v E h1 h2 ⟨h3, xv, h4, h5⟩
    exact ⟨h3, xv, by rw [Sem.run_bind, eqGuard_plain h1 h2]; exact h4, h5⟩
  unfold binF at h
  split at h
  · -- structs
    rename_i xs
    split at h
    · rename_i ys e he
      split at h
      · rename_i fs heq hdesc
        split at h
        · rename_i r hr
          simp only [rel] at hx hy
          obtain ⟨ax, rfl, hx1, _⟩ := hx
          obtain ⟨ay, rfl, hy1, _⟩ := hy
          obtain ⟨hp, hg⟩ := ht.eq _ _ he heq
          have hu := ht.und _ _ he
          obtain ⟨c, hc, hrun⟩ := eqL_ok (w0 := w0) ht 40 fs.toList xs ys ax ay r 9998 (by omega) hr hx1 hy1
          have hf : P.fieldsOf t = fs := by simp [Program.fieldsOf, hu, hdesc]
          have he2 : (Op.equalIn 10000 t (.agg ax) (.agg ay)).run P w = .ok c w := by
            rw [run_equalIn_struct (P := P) w 9999 t _ _ (by rw [hf, hu, hdesc]) hp, hf]; exact hrun
          split at h
          · obtain ⟨h1, h2⟩ := ofB_ok (S := S) (φ := φ) (w := w) hc h
            refine ⟨h1, .bool c, ?_, h2⟩
            rw [Sem.run_bind, run_eqGuard_agg (P := P) w .eql t xo yo ax ay hg]
            simp only [Result.andThen_ok]
            rw [run_eql_struct, he2]; rfl
          · obtain ⟨h1, h2⟩ := ofB_ok (S := S) (φ := φ) (w := w) (notB_val (P := P) (T := T) (w0 := w0) hc) h
            refine ⟨h1, .bool (!c), ?_, h2⟩
            rw [Sem.run_bind, run_eqGuard_agg (P := P) w .neq t xo yo ax ay hg]
            simp only [Result.andThen_ok]
            rw [run_neq_struct, he2]; rfl
          · exact (res_fail h).elim
        · exact (res_fail h).elim
      · exact (res_fail h).elim
    · exact (res_fail h).elim
  · split at h
    · rename_i hB
      split at h
      · rename_i a ha
        obtain rfl := asS_some ha hx
        split at h
        · rename_i b hb
          obtain rfl := asS_some hb hy
          split at h
          · obtain ⟨h0, h⟩ := res_need h
            obtain ⟨rfl, rfl⟩ := res_ok h
            refine plain (fun cs => by simp) (by simp) ⟨rfl, _, ?_, rel_str _⟩
            have h0' : ¬ (((a.size + b.size : Nat) : Int) > IntKind.i64.max) := by
              have : a.size + b.size ≤ 9223372036854775807 := h0
              have h2 : IntKind.i64.max = 9223372036854775807 := by decide
              rw [h2]; omega
            simp [binOp, Op.stringOp, real]
            simpa using h0'
          · rename_i hne
            split at h
            · rename_i hcl
              obtain ⟨rfl, rfl⟩ := res_ok h
              refine plain (fun cs => by simp) (by simp) ⟨rfl, _, run_strOp ?_, rel_b _⟩
              exact hcl
            · exact (res_fail h).elim
        · exact (res_fail h).elim
      · rename_i hS
        split at h
        · rename_i hcl
          have hint : ∃ k a, x = .int k a := by
            unfold arI at h
            split at h
            · rename_i k a _ _ ha _; exact ⟨k, a, asI_lit ha hx⟩
            · rename_i k a _ _ ha _; exact ⟨k, a, asI_lit ha hx⟩
            · rename_i k a _ _ ha _; exact ⟨k, a, asI_sym ha hx⟩
            · rename_i k a _ _ ha _; exact ⟨k, a, asI_sym ha hx⟩
            · exact (res_fail h).elim
          have hg := arI_ok (t := t) h hx hy (.inl hcl)
          obtain ⟨k, a, rfl⟩ := hint
          exact plain (fun cs => by simp) (by simp) hg
        · rename_i hcl
          split at h
          · rename_i n hn
            obtain ⟨h0, h⟩ := res_need h
            have hint : ∃ k a, x = .int k a := by
              unfold arI at h
              split at h
              · rename_i k a _ _ ha _; exact ⟨k, a, asI_lit ha hx⟩
              · rename_i k a _ _ ha _; exact ⟨k, a, asI_lit ha hx⟩
              · rename_i k a _ _ ha _; exact ⟨k, a, asI_sym ha hx⟩
              · rename_i k a _ _ ha _; exact ⟨k, a, asI_sym ha hx⟩
              · exact (res_fail h).elim
            have hg := arI_ok (t := t) h hx hy (.inr ⟨hcl, n, hn, h0⟩)
            obtain ⟨k, a, rfl⟩ := hint
            exact plain (fun cs => by simp) (by simp) hg
          · exact (res_fail h).elim
        · rename_i hcl
          split at h
          · rename_i k a n ha hn
            obtain ⟨h0, h⟩ := res_need h
            obtain ⟨rfl, rfl⟩ := res_ok h
            obtain rfl := asI_lit ha hx
            obtain ⟨k', rfl⟩ := asZ_some hn hy
            exact plain (fun cs => by simp) (by simp) ⟨rfl, _, run_shI hcl h0, rel_i _ _⟩
          · rename_i k a n ha hn
            obtain ⟨h0, h⟩ := res_need h
            obtain ⟨rfl, rfl⟩ := res_ok h
            obtain rfl := asI_sym ha hx
            obtain ⟨k', rfl⟩ := asZ_some hn hy
            exact plain (fun cs => by simp) (by simp) ⟨rfl, _, run_shI hcl h0, rel_i _ _⟩
          · exact (res_fail h).elim
        · rename_i hcl
          have hint : ∃ k a, x = .int k a := by
            unfold cmpI at h
            split at h
            · rename_i k a _ _ ha _; exact ⟨k, a, asI_lit ha hx⟩
            · rename_i k a _ _ ha _; exact ⟨k, a, asI_lit ha hx⟩
            · rename_i k a _ _ ha _; exact ⟨k, a, asI_sym ha hx⟩
            · rename_i k a _ _ ha _; exact ⟨k, a, asI_sym ha hx⟩
            · exact (res_fail h).elim
          have hg := cmpI_ok (t := t) h hx hy hcl
          obtain ⟨k, a, rfl⟩ := hint
          exact plain (fun cs => by simp) (by simp) hg
    · -- Bools
      rename_i hB
      split at h
      · rename_i e he
        split at h
        · rename_i r hdesc hr
          have hu := ht.und _ _ he
          rw [hdesc] at hu
          have hbx : ∃ c, x = .bool c := by
            unfold eqBo at hr
            split at hr
            · rename_i a b ha hb; exact ⟨_, asB_lit ha hx⟩
            · rename_i a b ha hb; exact ⟨_, asB_lit ha hx⟩
            · rename_i a b ha hb; exact ⟨_, asB_sym ha hx⟩
            · rename_i a b ha hb; exact ⟨_, asB_sym ha hx⟩
            · cases hr
          have hby : ∃ c, y = .bool c := by
            unfold eqBo at hr
            split at hr
            · rename_i a b ha hb; exact ⟨_, asB_lit hb hy⟩
            · rename_i a b ha hb; exact ⟨_, asB_sym hb hy⟩
            · rename_i a b ha hb; exact ⟨_, asB_lit hb hy⟩
            · rename_i a b ha hb; exact ⟨_, asB_sym hb hy⟩
            · cases hr
          obtain ⟨c, hc, hrun⟩ := eqBo_ok (w0 := w0) (d := 9999) (t := t) hr hx hy hu
          obtain ⟨bx, rfl⟩ := hbx
          obtain ⟨bY, rfl⟩ := hby
          split at h
          · obtain ⟨h1, h2⟩ := ofB_ok (S := S) (φ := φ) (w := w) hc h
            exact plain (fun cs => by simp) (by simp) ⟨h1, .bool c, by simp [binOp, Op.equal, Op.maxDepth, hrun], h2⟩
          · obtain ⟨h1, h2⟩ := ofB_ok (S := S) (φ := φ) (w := w) (notB_val (P := P) (T := T) (w0 := w0) hc) h
            exact plain (fun cs => by simp) (by simp) ⟨h1, .bool (!c), by simp [binOp, Op.equal, Op.maxDepth, hrun], h2⟩
          · exact (res_fail h).elim
        · exact (res_fail h).elim
      · exact (res_fail h).elim
theorem unF_ok {op : UnOp} {vx : V} {x : Value} {v E} (h : Res P T (unF (real P T w0) op vx) v E) (hx : rel T φ w S vx x) : Gives P T φ w S (Op.unary op x) v E := by
  unfold unF at h
  split at h
  · split at h
    · rename_i b hb; obtain rfl := asB_lit hb hx; obtain ⟨rfl, rfl⟩ := res_ok h; exact ⟨rfl, .bool (!b), by simp [Op.unary], rel_sb _⟩
    · rename_i b hb; obtain rfl := asB_sym hb hx; obtain ⟨rfl, rfl⟩ := res_ok h; exact ⟨rfl, .bool (!b), by simp [Op.unary], rel_b _⟩
    · exact (res_fail h).elim
  · split at h
    · rename_i k a ha; obtain rfl := asI_lit ha hx; obtain ⟨rfl, rfl⟩ := res_ok h; exact ⟨rfl, _, by simp [Op.unary, Op.intArith]; rfl, by simp [rel, Value.oneCell']⟩
    · rename_i k a ha; obtain rfl := asI_sym ha hx; obtain ⟨rfl, rfl⟩ := res_ok h; exact ⟨rfl, _, by simp [Op.unary, Op.intArith]; rfl, by simp [rel, real, unReal]⟩
    · exact (res_fail h).elim
  · split at h
    · rename_i k a ha; obtain rfl := asI_lit ha hx; obtain ⟨rfl, rfl⟩ := res_ok h; exact ⟨rfl, _, by simp [Op.unary, Op.intBits]; rfl, by simp [rel, real, unReal]⟩
    · rename_i k a ha; obtain rfl := asI_sym ha hx; obtain ⟨rfl, rfl⟩ := res_ok h; exact ⟨rfl, _, by simp [Op.unary, Op.intBits]; rfl, by simp [rel, real, unReal]⟩
    · exact (res_fail h).elim
  · exact (res_fail h).elim
end
end Go.Ab
end
section
namespace Go.Ab
open Go.RowKit
section
variable {P : Program} {T : Tr} {w0 : Base} {φ : Nat → Option Loc} {w : World} {S : Nat → Prop} {v : V} {x : Value} {hp : Hp}
theorem wtC_iff : ∀ {cs : List V} {ts : List Nat}, wtC T ts cs → cs.length = ts.length ∧ ∀ (j : Nat) (c : V), cs[j]? = some c → ∃ t, ts[j]? = some t ∧ isAggT T t = false ∧ wt T c t
  | [], ts, h => by simp only [wtC] at h; subst h; simp
  | c :: cs, ts, h => by
    simp only [wtC] at h
    obtain ⟨t, ts', rfl, h1, h2, h3⟩ := h
    obtain ⟨h4, h5⟩ := wtC_iff h3
    refine ⟨by simp [h4], fun j c' hc => ?_⟩
    cases j with
    | zero => simp at hc; subst hc; exact ⟨t, rfl, h1, h2⟩
    | succ j => simp at hc; simpa using h5 j c' hc
theorem wtC_of : ∀ {cs : List V} {ts : List Nat}, cs.length = ts.length → (∀ (j : Nat) (c : V), cs[j]? = some c → ∃ t, ts[j]? = some t ∧ isAggT T t = false ∧ wt T c t) → wtC T ts cs
  | [], ts, h, _ => by simp only [wtC]; exact List.eq_nil_of_length_eq_zero h.symm
  | c :: cs, ts, h, hh => by
    cases ts with
    | nil => simp at h
    | cons t ts' =>
      obtain ⟨t0, h1, h2, h3⟩ := hh 0 c rfl
      simp only [List.getElem?_cons_zero, Option.some.injEq] at h1
      subst h1
      simp only [wtC]
      exact ⟨t, ts', rfl, h2, h3, wtC_of (by simpa using h) (fun j c' hc => by simpa using hh (j + 1) c' (by simpa using hc))⟩
theorem aggT_of {t : Nat} {e : TE} (h : T.look t = some e) : isAggT T t = isAggD e.desc := by simp [isAggT, h]
theorem viewS_ok {t : Nat} {e : TE} {es : List V} {i : Int} {j : Nat} {u : Value} (ht : T.look t = some e) (ha : isAggD e.desc = false) (hw : wt T (elAt es i j) t) (hr : rel T φ w S (elAt es i j) u) :
    rel T φ w S (viewS (real P T w0) e es i j) u := by
  generalize hc : elAt es i j = c at hw hr
  unfold viewS
  cases c with
  | i k n =>
    simp only [wt] at hw
    obtain ⟨e', h1, h2⟩ := hw
    rw [ht] at h1; injection h1 with h1; subst h1
    rw [h2]
    simp only [real, hc, asInt]
    exact hr
  | s v =>
    simp only [wt] at hw
    obtain ⟨e', h1, h2⟩ := hw
    rw [ht] at h1; injection h1 with h1; subst h1
    simp only [rel] at hr
    obtain ⟨rfl, _⟩ := hr
    split at h2
    · rename_i hd _
      subst h2
      rw [hd]
      simp only [real, hc, asInt, rel]
    · rename_i hd _
      rw [hd]
      simp only [real, hc, boolOf, rel]
    · rename_i hd _
      rw [hd]
      simp only [real, hc, strOf, rel]
    · exact h2.elim
  | b c0 =>
    simp only [wt] at hw
    obtain ⟨e', h1, h2⟩ := hw
    rw [ht] at h1; injection h1 with h1; subst h1
    rw [h2]
    simp only [real, hc, boolOf]
    exact hr
  | str s0 =>
    simp only [wt] at hw
    obtain ⟨e', h1, h2⟩ := hw
    rw [ht] at h1; injection h1 with h1; subst h1
    rw [h2]
    simp only [real, hc, strOf]
    exact hr
  | nil =>
    simp only [wt] at hw
    obtain ⟨e', u', h1, h2⟩ := hw
    rw [ht] at h1; injection h1 with h1; subst h1
    rw [h2]
    simp only [rel] at hr
    subst hr
    simp only [real, hc, listOf, rel]
    exact ⟨none, 0, rfl, by simp, by simp [maxLen], by simp [wtL], fun h => absurd rfl h⟩
  | sl u' es' =>
    simp only [wt] at hw
    obtain ⟨⟨e', h1, h2⟩, h3⟩ := hw
    rw [ht] at h1; injection h1 with h1; subst h1
    rw [h2]
    simp only [real, hc, listOf]
    exact hr
  | agg cs =>
    simp only [wt] at hw
    rw [aggT_of ht, ha] at hw
    exact absurd hw.1 (by simp)
  | _ => simp only [wt] at hw
theorem viewL_ok {es : List V} {i : Int} : ∀ {ts : List Nat} {j : Nat} {us : List Value}, ts.length = us.length →
    (∀ (k t : Nat) (u : Value), ts[k]? = some t → us[k]? = some u → isAggT T t = false ∧ wt T (elAt es i (j + k)) t ∧ rel T φ w S (elAt es i (j + k)) u) → relL T φ w S (viewL (real P T w0) T es i j ts) us
  | [], j, us, hl, _ => by
    simp only [viewL, relL]
    exact List.eq_nil_of_length_eq_zero hl.symm
  | t :: ts, j, us, hl, hh => by
    cases us with
    | nil => simp at hl
    | cons u us =>
      simp only [viewL, relL]
      refine ⟨u, us, rfl, ?_, viewL_ok (by simpa using hl) (fun k t' u' h1 h2 => ?_)⟩
      · obtain ⟨h1, h2, h3⟩ := hh 0 t u rfl rfl
        cases hl2 : T.look t with
        | none =>
          simp only [rel]
        | some e =>
          rw [aggT_of hl2] at h1
          exact viewS_ok hl2 h1 (by simpa using h2) (by simpa using h3)
      · have := hh (k + 1) t' u' (by simpa using h1) (by simpa using h2)
        rwa [show j + 1 + k = j + (k + 1) from by omega]
theorem eqN_eq : ∀ {a b : List Nat}, eqN a b = true → a = b
  | [], [], _ => rfl
  | [], _ :: _, h => by simp [eqN] at h
  | _ :: _, [], h => by simp [eqN] at h
  | x :: a, y :: b, h => by simp only [eqN, Bool.and_eq_true, beq_iff_eq] at h; rw [h.1, eqN_eq h.2]
theorem cells_one {x : Value} (h : x.oneCell' = true) : x.cells = #[x] := by cases x <;> first | rfl | cases h
theorem view_ok {et t j : Nat} {e : TE} {es : List V} {i : Int} {x : Value} (ht : T.look t = some e) (hf : fits T et t j = true)
    (hw : wt T (es.getD i.toNat .dead) et) (hr : rel T φ w S (es.getD i.toNat .dead) x) (h1 : ∀ u ∈ x.cells.toList, u.oneCell' = true) :
    (isAggD e.desc = true → j + e.size ≤ x.cells.size ∧ rel T φ w S (view (real P T w0) T t es i j) (.agg (x.cells.extract j (j + e.size)))) ∧
    (isAggD e.desc = false → ∃ u, x.cells[j]? = some u ∧ rel T φ w S (view (real P T w0) T t es i j) u) := by
  generalize hel : es.getD i.toNat .dead = el at hw hr
  have hele : ∀ k, elAt es i k = cellAt el k := fun k => by unfold elAt; rw [hel]
  have hag := aggT_of (T := T) ht
  -- an element that is a struct
  have hagg : isAggT T et = true → ∃ cs a, el = .agg cs ∧ x = .agg a ∧ relL T φ w S cs a.toList ∧ wtC T (cellTys T 8 et) cs := by
    intro hA
    cases el with
    | agg cs =>
      simp only [wt] at hw
      simp only [rel] at hr
      obtain ⟨a, rfl, h2, _⟩ := hr
      exact ⟨cs, a, rfl, rfl, h2, hw.2⟩
    | i k n => simp only [wt] at hw; obtain ⟨e', h2, h3⟩ := hw; rw [aggT_of h2, h3] at hA; cases hA
    | s v =>
      simp only [wt] at hw
      obtain ⟨e', h2, h3⟩ := hw
      rw [aggT_of h2] at hA
      split at h3
      · rename_i hd; rw [hd] at hA; cases hA
      · rename_i hd; rw [hd] at hA; cases hA
      · rename_i hd; rw [hd] at hA; cases hA
      · exact h3.elim
    | b c => simp only [wt] at hw; obtain ⟨e', h2, h3⟩ := hw; rw [aggT_of h2, h3] at hA; cases hA
    | str s => simp only [wt] at hw; obtain ⟨e', h2, h3⟩ := hw; rw [aggT_of h2, h3] at hA; cases hA
    | nil => simp only [wt] at hw; obtain ⟨e', u, h2, h3⟩ := hw; rw [aggT_of h2, h3] at hA; cases hA
    | sl u es' => simp only [wt] at hw; obtain ⟨⟨e', h2, h3⟩, _⟩ := hw; rw [aggT_of h2, h3] at hA; cases hA
    | _ => simp only [wt] at hw
  unfold fits at hf
  constructor
  · intro hA
    rw [hag, hA] at hf
    simp only [Bool.and_eq_true, beq_iff_eq] at hf
    obtain ⟨⟨hf1, hf2⟩, hf3, hf4⟩ := hf
    obtain ⟨cs, a, rfl, rfl, hrl, hwc⟩ := hagg hf1
    have hts := eqN_eq hf2
    obtain ⟨hl, hg⟩ := wtC_iff hwc
    obtain ⟨hl2, hg2⟩ := relL_iff.1 hrl
    have hsz : sizeT T t = e.size := by simp [sizeT, ht]
    have hlen : (cellTys T 8 t).length = e.size := by rw [hf3, hsz]
    have hz : 0 < e.size := by rw [hsz] at hf4; simp [Nat.blt] at hf4; omega
    have hle : j + e.size ≤ (cellTys T 8 et).length := by
      have := congrArg List.length hts
      simp only [List.length_take, List.length_drop] at this
      omega
    have hjs : j + e.size ≤ a.size := by
      have : cs.length = a.size := by simpa using hl2
      omega
    simp only [view, ht, hA, Value.cells]
    refine ⟨hjs, ?_⟩
    simp only [rel]
    refine ⟨_, rfl, viewL_ok (by simp; omega) (fun k t' u hk hu => ?_), fun u hu => ?_⟩
    · have hks : k < e.size := by
        have := (List.getElem?_eq_some_iff.1 hk).1
        omega
      rw [← hts, List.getElem?_take, if_pos (by omega), List.getElem?_drop] at hk
      have hu' : a.toList[j + k]? = some u := by
        have hu2 : (a.extract j (j + e.size)).toList = (a.toList.drop j).take e.size := by simp [Array.toList_extract]
        rw [hu2, List.getElem?_take, if_pos hks, List.getElem?_drop] at hu
        exact hu
      have hjk : j + k < cs.length := by
        have : cs.length = a.size := by simpa using hl2
        omega
      obtain ⟨t2, h2, h3, h4⟩ := hg (j + k) _ (getD_some (d := .dead) hjk)
      rw [hk] at h2; injection h2 with h2; subst h2
      rw [hele]
      exact ⟨h3, h4, hg2 _ _ _ (getD_some hjk) hu'⟩
    · refine h1 u ?_
      have hu2 : (a.extract j (j + e.size)).toList = (a.toList.drop j).take e.size := by simp [Array.toList_extract]
      rw [hu2] at hu
      exact List.mem_of_mem_drop (List.mem_of_mem_take hu)
  · intro hA
    rw [hag, hA] at hf
    simp only at hf
    simp only [view, ht, hA]
    split at hf
    · rename_i hE
      simp only [Bool.and_eq_true, beq_iff_eq] at hf
      obtain ⟨hf1, hf2⟩ := hf
      obtain ⟨cs, a, rfl, rfl, hrl, hwc⟩ := hagg hE
      obtain ⟨hl, hg⟩ := wtC_iff hwc
      obtain ⟨hl2, hg2⟩ := relL_iff.1 hrl
      have hj : j < cs.length := by rw [hl]; simp [Nat.blt] at hf2; omega
      obtain ⟨t2, h2, h3, h4⟩ := hg j _ (getD_some (d := .dead) hj)
      have ht2 : t2 = t := by
        rw [← hf1, List.getD_eq_getElem?_getD, h2]; rfl
      subst ht2
      obtain ⟨u, hu, hru⟩ := relL_get hrl hj
      exact ⟨u, by simpa [Value.cells] using hu, viewS_ok ht hA (by rw [hele]; exact h4) (by rw [hele]; exact hru)⟩
    · rename_i hE
      simp only [Bool.and_eq_true, beq_iff_eq] at hf
      obtain ⟨rfl, rfl⟩ := hf
      have hone : x.oneCell' = true ∧ cellAt el 0 = el := by
        cases el with
        | agg cs => simp only [wt] at hw; rw [hE] at hw; exact absurd hw.1 (by simp)
        | i k n => simp only [rel] at hr; subst hr; exact ⟨rfl, rfl⟩
        | s v => simp only [rel] at hr; obtain ⟨rfl, hr2⟩ := hr; exact ⟨hr2, rfl⟩
        | b c => simp only [rel] at hr; subst hr; exact ⟨rfl, rfl⟩
        | str s => simp only [rel] at hr; subst hr; exact ⟨rfl, rfl⟩
        | nil => simp only [rel] at hr; subst hr; exact ⟨rfl, rfl⟩
        | sl u es' => simp only [rel] at hr; obtain ⟨A, cap, rfl, _⟩ := hr; exact ⟨rfl, rfl⟩
        | _ => simp only [wt] at hw
      refine ⟨x, by rw [cells_one hone.1]; rfl, viewS_ok ht hA ?_ ?_⟩
      · rw [hele, hone.2]; exact hw
      · rw [hele, hone.2]; exact hr
theorem add_at0 (B o n : Nat) : (⟨B, o, none⟩ : Addr).add n = ⟨B, o + n, none⟩ := by
  unfold Addr.add
  split
  · rename_i h; subst h; rfl
  · rfl
theorem add_add (a : Addr) (m n : Nat) : (a.add m).add n = a.add (m + n) := by
  unfold Addr.add
  by_cases hm : m = 0
  · subst hm
    simp only [if_true, Nat.zero_add]
  · by_cases hn : n = 0
    · subst hn; simp [hm]
    · have : ¬ (m + n = 0) := by omega
      simp [hm, hn, Nat.add_assoc]
theorem run_loadVarA {t : TypeId} {de : TypeDesc} {i : TypeInfo} (hu : P.underlying t = some de) (hd : isAggD de = true) (hi : P.info? t = some i) {a : Addr} {cs : List Value} (hl : cs.length = i.size)
    (h : ∀ j u, cs[j]? = some u → w.cell? (a.add j) = some u) : (loadVar t a).run P w = .ok (.agg cs.toArray) w := by
  have h1 : (isAgg t).run P w = .ok true w := by
    simp only [isAgg, Sem.run_bind, run_underlying hu, Result.andThen_ok]
    cases de <;> first | (simp [isAggD] at hd; done) | rfl
  simp only [loadVar, Sem.run_bind, h1, Result.andThen_ok, if_true, sizeOf, run_typeInfo w hi, Sem.run_pure]
  rw [← hl, run_loadCells_list w a cs h]
  rfl
theorem run_loadVarS {t : TypeId} {de : TypeDesc} (hu : P.underlying t = some de) (hd : isAggD de = false) {a : Addr} {u : Value} (h : w.cell? a = some u) : (loadVar t a).run P w = .ok u w := by
  have h1 : (isAgg t).run P w = .ok false w := by
    simp only [isAgg, Sem.run_bind, run_underlying hu, Result.andThen_ok]
    cases de <;> first | (simp [isAggD] at hd; done) | rfl
  simp [loadVar, Sem.run_bind, h1, run_load, h]
theorem wt_get {et : Nat} {es : List V} (h : wtL T et es) {k : Nat} (hk : k < es.length) : wt T (es.getD k .dead) et := by
  refine wtL_iff.1 h _ ?_
  rw [List.getD_eq_getElem?_getD, List.getElem?_eq_getElem hk]
  exact List.getElem_mem hk
theorem part_gives (htok : TyOk P T) {et t j : Nat} {e : TE} {es : List V} {i : Int} {x : Value} {ad : Addr} (ht : T.look t = some e) (hf : fits T et t j = true)
    (hw : wt T (es.getD i.toNat .dead) et) (hr : rel T φ w S (es.getD i.toNat .dead) x) (h1 : ∀ u ∈ x.cells.toList, u.oneCell' = true)
    (hc : ∀ k u, x.cells[k]? = some u → w.cell? (ad.add k) = some u) {v : V} {E : Hp} (h : Res P T (.ok (view (real P T w0) T t es i j) []) v E) :
    Gives P T φ w S (loadVar t (ad.add j)) v E := by
  obtain ⟨rfl, rfl⟩ := res_ok h
  obtain ⟨hA, hS⟩ := view_ok (P := P) (w0 := w0) (φ := φ) (w := w) (S := S) ht hf hw hr h1
  obtain ⟨i0, hi, hs, _⟩ := htok.info _ _ ht
  have hu := htok.und _ _ ht
  cases hd : isAggD e.desc with
  | true =>
    obtain ⟨hle, hv⟩ := hA hd
    refine ⟨rfl, _, run_loadVarA (cs := (x.cells.extract j (j + e.size)).toList) hu hd hi (by rw [hs]; simp; omega) (fun k u hk => ?_), ?_⟩
    · have hu2 : (x.cells.extract j (j + e.size)).toList = (x.cells.toList.drop j).take e.size := by simp [Array.toList_extract]
      rw [hu2, List.getElem?_take] at hk
      have hks : k < e.size := by
        by_cases h : k < e.size
        · exact h
        · rw [if_neg h] at hk; cases hk
      rw [if_pos hks, List.getElem?_drop] at hk
      rw [add_add]
      exact hc _ _ (by simpa using hk)
    · rwa [Array.toArray_toList]
  | false =>
    obtain ⟨u, hu1, hv⟩ := hS hd
    exact ⟨rfl, u, run_loadVarS hu hd (hc _ _ hu1), hv⟩
theorem loadF_ok {b0 : Nat → Prop} (htok : TyOk P T) (hh : HOk T φ b0 w S hp) {t : Nat} {va : V} {x : Value} {v : V} {E : Hp} (h : Res P T (loadF (real P T w0) T hp t va) v E) (hr : rel T φ w S va x) : Gives P T φ w S (Instr.loadAt t x) v E := by
  unfold loadF at h
  split at h
  · exact (res_fail h).elim
  · rename_i e he
    obtain ⟨i0, hi, hs, _⟩ := htok.info _ _ he
    have hu := htok.und _ _ he
    split at h
    · -- a box
      rename_i n off
      simp only [rel] at hr
      obtain ⟨B, hB, rfl⟩ := hr
      split at h
      · rename_i t0 cs hl
        split at h
        · rename_i hle
          obtain ⟨rfl, rfl⟩ := res_ok h
          obtain ⟨B', arr, h1, h2, h3, h4⟩ := hh.blk _ _ hl
          rw [hB] at h1; injection h1 with h1; injection h1 with h1; subst h1
          rw [Bool.and_eq_true] at hle
          have hle' : off + e.size ≤ cs.length := by
            rw [show sizeT T t = e.size from by simp [sizeT, he]] at hle
            exact Nat.le_of_ble_eq_true hle.1
          have hlt : off < cs.length := by have := hle.2; simp [Nat.blt] at this; omega
          obtain ⟨hl1, hl2⟩ := relL_iff.1 h3
          have hrun : (Instr.loadAt t (.pointer (some ⟨B, off, none⟩))).run P w = (loadVar t ⟨B, off, none⟩).run P w := by simp [Instr.loadAt, Instr.sureAddr]
          unfold partOf
          rw [aggT_of he]
          cases hd : isAggD e.desc with
          | true =>
            have hcell : ∀ (k : Nat) (u : Value), ((arr.toList.drop off).take i0.size)[k]? = some u → w.cell? ((⟨B, off, none⟩ : Addr).add k) = some u := by
              intro k u hk
              rw [add_at0, cell_of_row w B _ arr t0 (0, 0) h2]
              rw [List.getElem?_take] at hk
              have hks : k < i0.size := by
                by_cases h : k < i0.size
                · exact h
                · rw [if_neg h] at hk; cases hk
              rw [if_pos hks, List.getElem?_drop] at hk
              simpa using hk
            refine ⟨rfl, _, hrun.trans (run_loadVarA (cs := (arr.toList.drop off).take i0.size) hu hd hi (by simp at hl1 ⊢; omega) hcell), ?_⟩
            · simp only [rel]
              refine ⟨_, rfl, ?_, fun u hu => h4 u (List.mem_of_mem_drop (List.mem_of_mem_take hu))⟩
              rw [hs, show sizeT T t = e.size from by simp [sizeT, he]]
              exact relL_sub h3 _ _
          | false =>
            obtain ⟨u, h5, h6⟩ := relL_get h3 hlt
            exact ⟨rfl, u, by rw [hrun]; exact run_loadVarS hu hd (by rw [cell_of_row w B _ arr t0 (0, 0) h2]; simpa using h5), h6⟩
        · exact (res_fail h).elim
      · exact (res_fail h).elim
    · -- a row's element
      rename_i n i j
      simp only [rel] at hr
      obtain ⟨B, off, len, room, sz, hφ, h0, hlt, rfl⟩ := hr
      have hrow : ∀ et es, (∃ e', T.look et = some e' ∧ wtL T et es ∧ ((∃ B off room arr fz, φ n = some (.rw B off es.length room e'.size) ∧ w.heap[B]? = some (.cells arr et fz) ∧ inRow T φ w S arr off e'.size es) ∨ (φ n = some .nilrow ∧ es = []))) →
          fits T et t j = true → Res P T (.ok (view (real P T w0) T t es i j) []) v E → Gives P T φ w S (Instr.loadAt t (.pointer (some ⟨B, off + i.toNat * sz + j, none⟩))) v E := by
        intro et es ⟨e', he', hwt, hb⟩ hf h
        rcases hb with ⟨B', off', room', arr, fz, h1, h2, h3⟩ | ⟨h1, _⟩
        · rw [hφ] at h1; injection h1 with h1; injection h1 with a1 a2 a3 a4 a5; subst a1; subst a2; subst a3; subst a4; subst a5
          have hk : i.toNat < es.length := by omega
          obtain ⟨x, hx1, hx2, hx3, hx4⟩ := h3 i.toNat _ (getD_some (d := .dead) hk)
          have := part_gives (ad := ⟨B, off + i.toNat * e'.size, none⟩) htok he hf (wt_get hwt hk) hx1 hx3 (fun k u hu => by rw [add_at0, cell_of_row w B _ arr et fz h2]; exact hx4 k u hu) h
          rw [add_at0] at this
          obtain ⟨g1, xv, g2, g3⟩ := this
          exact ⟨g1, xv, by simp only [Instr.loadAt, Instr.sureAddr, Sem.run_bind, Sem.run_pure, Result.andThen_ok]; exact g2, g3⟩
        · rw [hφ] at h1; cases h1
      split at h
      · rename_i et es hl
        split at h
        · rename_i hf
          obtain ⟨hwt, e', he', hz, hb⟩ := hh.blk _ _ hl
          refine hrow et es ⟨e', he', hwt, ?_⟩ hf h
          rcases hb with ⟨B, off, room, arr, h1, h2, _, _, _, h3⟩ | hb
          · exact .inl ⟨B, off, room, arr, (0, 0), h1, h2, h3⟩
          · exact .inr hb
        · exact (res_fail h).elim
      · rename_i et es hl
        split at h
        · rename_i hf
          obtain ⟨hwt, e', he', hz, hb⟩ := hh.blk _ _ hl
          refine hrow et es ⟨e', he', hwt, ?_⟩ hf h
          rcases hb with ⟨B, off, room, arr, fz, h1, _, h2, _, _, h3⟩ | hb
          · exact .inl ⟨B, off, room, arr, fz, h1, h2, h3⟩
          · exact .inr hb
        · exact (res_fail h).elim
      · exact (res_fail h).elim
    · -- an element that is only read
      rename_i et es i j
      simp only [rel] at hr
      obtain ⟨ad, e', he', hz, hwt, hS, hE, h0, hlt, rfl⟩ := hr
      split at h
      · rename_i hf
        have hk : i.toNat < es.length := by omega
        obtain ⟨x, hx1, hx2, hx3, hx4⟩ := relE_iff.1 hE i.toNat _ (getD_some (d := .dead) hk)
        have := part_gives (ad := ad.add (i.toNat * e'.size)) htok he hf (wt_get hwt hk) hx1 hx3 (fun k u hu => by rw [add_add]; simpa using hx4 k u hu) h
        rw [add_add] at this
        obtain ⟨g1, xv, g2, g3⟩ := this
        exact ⟨g1, xv, by simp only [Instr.loadAt, Instr.sureAddr, Sem.run_bind, Sem.run_pure, Result.andThen_ok]; exact g2, g3⟩
      · exact (res_fail h).elim
    · exact (res_fail h).elim
end
end Go.Ab
end
section
namespace Go.Ab
open Go.RowKit
section
variable {P : Program} {T : Tr} {w0 : Base} {φ : Nat → Option Loc} {w : World} {S : Nat → Prop} {v : V} {x : Value} {hp : Hp} {b0 : Nat → Prop}
theorem sizeT_info (htok : TyOk P T) {t : Nat} (h : sizeT T t ≠ 0) : ∃ i, P.info? t = some i ∧ i.size = sizeT T t := by
  unfold sizeT at h ⊢
  split at h
  · rename_i e he
    obtain ⟨i, h1, h2, _⟩ := htok.info _ _ he
    exact ⟨i, h1, h2⟩
  · exact absurd rfl h
theorem run_fieldAt {t f : Nat} {fs : Array Field} {fd : Field} {a : Addr} {i : TypeInfo} (hu : P.underlying t = some (.struct fs)) (hf : fs[f]? = some fd) (hi : P.info? fd.type = some i) (hz : i.size ≠ 0) :
    (Instr.fieldAt t (.pointer (some a)) f).run P w = .ok (.pointer (some (a.add fd.offset))) w := by
  simp [Instr.fieldAt, run_underlying hu, hf, Instr.sureAddr, fieldPlace, sizeOf, run_typeInfo w hi, hz]
theorem fieldAddrF_ok (htok : TyOk P T) {t f : Nat} {va : V} {v E} (h : Res P T (fieldAddrF T t f va) v E) (hr : rel T φ w S va x) : Gives P T φ w S (Instr.fieldAt t x f) v E := by
  unfold fieldAddrF at h
  split at h
  · rename_i fd hfd
    unfold fieldOff at hfd
    split at hfd
    · rename_i e he
      split at hfd
      · rename_i fs hfs
        have hu := htok.und _ _ he
        rw [hfs] at hu
        split at h
        · rename_i n j hz
          obtain ⟨rfl, rfl⟩ := res_ok h
          obtain ⟨i0, hi, hs⟩ := sizeT_info htok (t := fd.type) (by simpa using hz)
          simp only [rel] at hr
          obtain ⟨B, hB, rfl⟩ := hr
          refine ⟨rfl, _, run_fieldAt hu hfd hi (by rw [hs]; simpa using hz), ?_⟩
          simp only [rel]
          exact ⟨B, hB, by rw [add_at0]⟩
        · rename_i n i j hz
          obtain ⟨rfl, rfl⟩ := res_ok h
          obtain ⟨i0, hi, hs⟩ := sizeT_info htok (t := fd.type) (by simpa using hz)
          simp only [rel] at hr
          obtain ⟨B, off, len, room, sz, hB, h0, h1, rfl⟩ := hr
          refine ⟨rfl, _, run_fieldAt hu hfd hi (by rw [hs]; simpa using hz), ?_⟩
          simp only [rel]
          exact ⟨B, off, len, room, sz, hB, h0, h1, by rw [add_at0, Nat.add_assoc]⟩
        · rename_i u es i j hz
          obtain ⟨rfl, rfl⟩ := res_ok h
          obtain ⟨i0, hi, hs⟩ := sizeT_info htok (t := fd.type) (by simpa using hz)
          simp only [rel] at hr
          obtain ⟨ad, e', h1, h2, h3, h4, h5, h6, h7, rfl⟩ := hr
          refine ⟨rfl, _, run_fieldAt hu hfd hi (by rw [hs]; simpa using hz), ?_⟩
          simp only [rel]
          exact ⟨ad, e', h1, h2, h3, h4, h5, h6, h7, by rw [add_add, Nat.add_assoc]⟩
        · exact (res_fail h).elim
      · cases hfd
    · cases hfd
  · exact (res_fail h).elim
theorem run_indexAt_slice {t u : Nat} {i0 : TypeInfo} {k : IntKind} {i : Int} {a : Addr} {len cap : Nat} (hu : P.underlying t = some (.slice u)) (hi : P.info? u = some i0) (h0 : 0 ≤ i) (h1 : i < len) :
    (Instr.indexAt t (.slice (some a) len cap) (.int k i)).run P w = .ok (.pointer (some (a.add (i.toNat * i0.size)))) w := by
  simp [Instr.indexAt, asIntOf, run_underlying hu, h0, h1, sizeOf, run_typeInfo w hi]
theorem nilrow_none {es : List V} {i : Int} (h0 : 0 ≤ i) (h1 : i < (es.length : Int)) (h : es = []) : False := by
  subst h; simp at h1; omega
theorem idxAddr_ok (htok : TyOk P T) (hh : HOk T φ b0 w S hp) {t u : Nat} {va vi : V} {y : Value} {v E} (hu : P.underlying t = some (.slice u)) (h : Res P T (idxAddr (real P T w0) T hp u va vi) v E) (hr : rel T φ w S va x) (hy : rel T φ w S vi y) :
    Gives P T φ w S (Instr.indexAt t x y) v E := by
  unfold idxAddr at h
  split at h
  · rename_i eu i heu hz
    obtain ⟨k, rfl⟩ := asZ_some hz hy
    obtain ⟨i0, hi, hs, _⟩ := htok.info _ _ heu
    split at h
    · rename_i u' es
      split at h
      · rename_i hU
        obtain rfl : u = u' := by simpa using hU
        obtain ⟨⟨h0, h1⟩, h⟩ := res_need h
        obtain ⟨rfl, rfl⟩ := res_ok h
        simp only [rel] at hr
        obtain ⟨A, cap, rfl, h2, h3, h4, h5⟩ := hr
        have hne : es ≠ [] := fun he => nilrow_none h0 h1 he
        obtain ⟨ad, e', rfl, he', hz', hS, hE⟩ := h5 hne
        rw [heu] at he'; injection he' with he'; subst he'
        refine ⟨rfl, _, run_indexAt_slice hu hi h0 h1, ?_⟩
        simp only [rel]
        exact ⟨ad, eu, heu, hz', h4, hS, hE, h0, h1, by rw [hs, Nat.add_zero]⟩
      · exact (res_fail h).elim
    · rename_i n
      have key : ∀ es : List V, (∃ e', T.look u = some e' ∧ ((∃ B off room, φ n = some (.rw B off es.length room e'.size)) ∨ (φ n = some .nilrow ∧ es = []))) → 0 ≤ i → i < (es.length : Int) →
          Gives P T φ w S (Instr.indexAt t x (.int k i)) (.ep n i 0) [] := by
        intro es ⟨e', he', hb⟩ h0 h1
        rw [heu] at he'; injection he' with he'; subst he'
        rcases hb with ⟨B, off, room, hφ⟩ | ⟨_, he⟩
        · simp only [rel] at hr
          rcases hr with ⟨B', off', len, room', sz, cap, h2, rfl, _⟩ | ⟨h2, _⟩
          · rw [hφ] at h2; injection h2 with h2; injection h2 with a1 a2 a3 a4 a5; subst a1; subst a2; subst a3; subst a4; subst a5
            refine ⟨rfl, _, run_indexAt_slice hu hi h0 h1, ?_⟩
            simp only [rel]
            exact ⟨B, off, es.length, room, eu.size, hφ, h0, h1, by rw [add_at0, hs, Nat.add_zero]⟩
          · rw [hφ] at h2; cases h2
        · exact (nilrow_none h0 h1 he).elim
      split at h
      · rename_i u' es hl
        split at h
        · rename_i hU
          obtain rfl : u = u' := by simpa using hU
          obtain ⟨⟨h0, h1⟩, h⟩ := res_need h
          obtain ⟨rfl, rfl⟩ := res_ok h
          obtain ⟨_, e', he', _, hb⟩ := hh.blk _ _ hl
          refine key es ⟨e', he', ?_⟩ h0 h1
          rcases hb with ⟨B, off, room, arr, h2, _⟩ | hb
          · exact .inl ⟨B, off, room, h2⟩
          · exact .inr hb
        · exact (res_fail h).elim
      · rename_i u' es hl
        split at h
        · rename_i hU
          obtain rfl : u = u' := by simpa using hU
          obtain ⟨⟨h0, h1⟩, h⟩ := res_need h
          obtain ⟨rfl, rfl⟩ := res_ok h
          obtain ⟨_, e', he', _, hb⟩ := hh.blk _ _ hl
          refine key es ⟨e', he', ?_⟩ h0 h1
          rcases hb with ⟨B, off, room, arr, fz, h2, _⟩ | hb
          · exact .inl ⟨B, off, room, h2⟩
          · exact .inr hb
        · exact (res_fail h).elim
      · exact (res_fail h).elim
    · rename_i n lo ln
      have key : ∀ es : List V, (∃ e', T.look u = some e' ∧ ((∃ B off room, φ n = some (.rw B off es.length room e'.size)) ∨ (φ n = some .nilrow ∧ es = []))) → 0 ≤ i → i < ln →
          Gives P T φ w S (Instr.indexAt t x (.int k i)) (.ep n (lo + i) 0) [] := by
        intro es ⟨e', he', hb⟩ h0 h1
        rw [heu] at he'; injection he' with he'; subst he'
        simp only [rel] at hr
        rcases hr with ⟨B', off', len, room', sz, cap, A, h2, rfl, l0, l1, l2, l3, l4, l5, l6⟩ | ⟨h2, ⟨_, rfl⟩, l0, l1⟩
        · rcases hb with ⟨B, off, room, hφ⟩ | ⟨hφ, he⟩
          · rw [hφ] at h2; injection h2 with h2; injection h2 with a1 a2 a3 a4 a5; subst a1; subst a2; subst a3; subst a4; subst a5
            obtain rfl := l6 (by omega)
            refine ⟨rfl, _, run_indexAt_slice hu hi h0 (by omega), ?_⟩
            simp only [rel]
            refine ⟨B, off, es.length, room, eu.size, hφ, by omega, by omega, ?_⟩
            rw [add_at0, hs, Nat.add_zero, Int.toNat_add l0 h0, Nat.add_mul, Nat.add_assoc]
          · rw [hφ] at h2; cases h2
        · omega
      split at h
      · rename_i u' es hl
        split at h
        · rename_i hU
          obtain rfl : u = u' := by simpa using hU
          obtain ⟨⟨h0, h1⟩, h⟩ := res_need h
          obtain ⟨rfl, rfl⟩ := res_ok h
          obtain ⟨_, e', he', _, hb⟩ := hh.blk _ _ hl
          refine key es ⟨e', he', ?_⟩ h0 h1
          rcases hb with ⟨B, off, room, arr, h2, _⟩ | hb
          · exact .inl ⟨B, off, room, h2⟩
          · exact .inr hb
        · exact (res_fail h).elim
      · rename_i u' es hl
        split at h
        · rename_i hU
          obtain rfl : u = u' := by simpa using hU
          obtain ⟨⟨h0, h1⟩, h⟩ := res_need h
          obtain ⟨rfl, rfl⟩ := res_ok h
          obtain ⟨_, e', he', _, hb⟩ := hh.blk _ _ hl
          refine key es ⟨e', he', ?_⟩ h0 h1
          rcases hb with ⟨B, off, room, arr, fz, h2, _⟩ | hb
          · exact .inl ⟨B, off, room, h2⟩
          · exact .inr hb
        · exact (res_fail h).elim
      · exact (res_fail h).elim
    · exact (res_fail h).elim
  · exact (res_fail h).elim
theorem natOf_some {v : V} {n : Nat} (h : natOf v = some n) (hr : rel T φ w S v x) : ∃ k, x = .int k n := by
  unfold natOf at h
  split at h
  · split at h
    · injection h with h; subst h
      simp only [rel] at hr
      exact ⟨_, hr.1⟩
    · cases h
  · cases h
theorem idxArr_ok (htok : TyOk P T) {t n u : Nat} {va vi : V} {y : Value} {v E} (hu : P.underlying t = some (.array n u)) (hsz : sizeT T u ≠ 0)
    (h : Res P T (match natOf vi, va with
        | some i, .ptr m j => match i.blt n with
          | true => .ok (.ptr m (j + i * sizeT T u)) []
          | false => .fail
        | _, _ => .fail) v E) (hr : rel T φ w S va x) (hy : rel T φ w S vi y) : Gives P T φ w S (Instr.indexAt t x y) v E := by
  split at h
  · rename_i i m j hn
    obtain ⟨k, rfl⟩ := natOf_some hn hy
    obtain ⟨i0, hi, hs⟩ := sizeT_info htok hsz
    split at h
    · rename_i hlt
      obtain ⟨rfl, rfl⟩ := res_ok h
      have hlt' : i < n := by simp [Nat.blt] at hlt; omega
      simp only [rel] at hr
      obtain ⟨B, hB, rfl⟩ := hr
      refine ⟨rfl, .pointer (some ⟨B, j + i * i0.size, none⟩), ?_, ?_⟩
      · simp [Instr.indexAt, asIntOf, run_underlying hu, Instr.sureAddr, hlt', sizeOf, run_typeInfo w hi, add_at0]
      · simp only [rel]; exact ⟨B, hB, by rw [hs]⟩
    · exact (res_fail h).elim
  · exact (res_fail h).elim
theorem partOf_ok (htok : TyOk P T) {t off : Nat} {e : TE} {cs : List V} {a : Array Value} (ht : T.look t = some e) (hle : off + e.size ≤ cs.length) (hlt : off < cs.length) (hr : relL T φ w S cs a.toList) (h1 : ∀ u ∈ a.toList, u.oneCell' = true) :
    ∃ xv, (part t a off).run P w = .ok xv w ∧ rel T φ w S (partOf T t cs off) xv := by
  obtain ⟨i0, hi, hs, _⟩ := htok.info _ _ ht
  have hu := htok.und _ _ ht
  unfold partOf
  rw [aggT_of ht]
  cases hd : isAggD e.desc with
  | true =>
    refine ⟨_, run_partA hu hd hi, ?_⟩
    have hx : (a.extract off (off + i0.size)).toList = (a.toList.drop off).take e.size := by rw [hs]; simp [Array.toList_extract]
    simp only [rel]
    refine ⟨_, rfl, ?_, fun u hu => ?_⟩
    · rw [hx, show sizeT T t = e.size from by simp [sizeT, ht]]
      exact relL_sub hr _ _
    · rw [hx] at hu
      exact h1 u (List.mem_of_mem_drop (List.mem_of_mem_take hu))
  | false =>
    obtain ⟨u, h2, h3⟩ := relL_get hr hlt
    exact ⟨u, run_partS hu hd (by simpa using h2), h3⟩
theorem okPart_of {t off : Nat} {cs : List V} (h : okPart T t cs off = true) : ∃ e, T.look t = some e ∧ off + e.size ≤ cs.length ∧ off < cs.length := by
  unfold okPart at h
  split at h
  · rename_i e he
    rw [Bool.and_eq_true] at h
    refine ⟨e, he, Nat.le_of_ble_eq_true h.1, ?_⟩
    have := h.2
    simp [Nat.blt] at this
    omega
  · cases h
theorem fieldF_ok (htok : TyOk P T) {t f : Nat} {va : V} {v E} (h : Res P T (match fieldOff T t f, va with
    | some fd, .agg cs => match okPart T fd.type cs fd.offset with
      | true => .ok (partOf T fd.type cs fd.offset) []
      | false => .fail
    | _, _ => .fail) v E) (hr : rel T φ w S va x) : Gives P T φ w S (Instr.field t x f) v E := by
  split at h
  · rename_i fd cs hfd
    split at h
    · rename_i hok
      obtain ⟨rfl, rfl⟩ := res_ok h
      obtain ⟨e, he, hle, hlt⟩ := okPart_of hok
      simp only [rel] at hr
      obtain ⟨a, rfl, h2, h3⟩ := hr
      obtain ⟨xv, h4, h5⟩ := partOf_ok htok he hle hlt h2 h3
      unfold fieldOff at hfd
      split at hfd
      · rename_i e' he'
        split at hfd
        · rename_i fs hfs
          have hu := htok.und _ _ he'
          rw [hfs] at hu
          exact ⟨rfl, xv, by simp [Instr.field, run_underlying hu, hfd, asAgg, h4], h5⟩
        · cases hfd
      · cases hfd
    · exact (res_fail h).elim
  · exact (res_fail h).elim
theorem indexStr_ok {t : Nat} {vi va : V} {y : Value} {v E} (hu : P.underlying t = some .string) (h : Res P T (match asS va, asZ vi with
        | some s, some i => .need ((real P T w0).inb i ((real P T w0).slen s)) (.ok (.i .u8 ((real P T w0).sbyte s i)) [])
        | _, _ => .fail) v E) (hr : rel T φ w S va x) (hy : rel T φ w S vi y) : Gives P T φ w S (Instr.index t x y) v E := by
  split at h
  · rename_i s i hs hz
    obtain rfl := asS_some hs hr
    obtain ⟨k, rfl⟩ := asZ_some hz hy
    obtain ⟨⟨h0, h1⟩, h⟩ := res_need h
    obtain ⟨rfl, rfl⟩ := res_ok h
    have hlt : i.toNat < s.size := by simp only [real] at h1; omega
    have hb : s[i.toNat]? = some s[i.toNat] := by simp [hlt]
    refine ⟨rfl, .int .u8 (s[i.toNat]).toNat, ?_, ?_⟩
    · simp [Instr.index, asIntOf, run_underlying hu, h0, hb]
    · simp only [rel, real, hb, Option.getD_some]
  · exact (res_fail h).elim
theorem indexArr_ok (htok : TyOk P T) {t n u : Nat} {va vi : V} {y : Value} {v E} (hu : P.underlying t = some (.array n u)) (h : Res P T (match natOf vi, va with
        | some i, .agg cs => match i.blt n && okPart T u cs (i * sizeT T u) with
          | true => .ok (partOf T u cs (i * sizeT T u)) []
          | false => .fail
        | _, _ => .fail) v E) (hr : rel T φ w S va x) (hy : rel T φ w S vi y) : Gives P T φ w S (Instr.index t x y) v E := by
  split at h
  · rename_i i cs hn
    obtain ⟨k, rfl⟩ := natOf_some hn hy
    split at h
    · rename_i hok
      rw [Bool.and_eq_true] at hok
      obtain ⟨rfl, rfl⟩ := res_ok h
      obtain ⟨e, he, hle, hlt⟩ := okPart_of hok.2
      have hlt' : i < n := by have := hok.1; simp [Nat.blt] at this; omega
      simp only [rel] at hr
      obtain ⟨a, rfl, h2, h3⟩ := hr
      obtain ⟨xv, h4, h5⟩ := partOf_ok htok he hle hlt h2 h3
      obtain ⟨i0, hi, hs, _⟩ := htok.info _ _ he
      have hsz : sizeT T u = i0.size := by simp [sizeT, he, hs]
      exact ⟨rfl, xv, by simp [Instr.index, asIntOf, run_underlying hu, hlt', sizeOf, run_typeInfo w hi, ← hsz, h4], h5⟩
    · exact (res_fail h).elim
  · exact (res_fail h).elim
theorem extract_ok {i : Nat} {va : V} {v E} (h : Res P T (match va with
    | .tup cs => match i.blt cs.length with
      | true => .ok (cs.getD i .dead) []
      | false => .fail
    | _ => .fail) v E) (hr : rel T φ w S va x) : Gives P T φ w S (Instr.extract x i) v E := by
  split at h
  · rename_i cs
    split at h
    · rename_i hlt
      obtain ⟨rfl, rfl⟩ := res_ok h
      simp only [rel] at hr
      obtain ⟨a, rfl, h2⟩ := hr
      obtain ⟨u, h3, h4⟩ := relL_get h2 (j := i) (by simp [Nat.blt] at hlt; omega)
      exact ⟨rfl, u, by simp at h3; simp [Instr.extract, h3], h4⟩
    · exact (res_fail h).elim
  · exact (res_fail h).elim
theorem lenF_ok (htok : TyOk P T) (hh : HOk T φ b0 w S hp) {t : Nat} {va : V} {v E} {args : Array TypeId} (hargs : args[0]? = some t) {ty : TypeId} (h : Res P T (lenF (real P T w0) T hp t va) v E) (hr : rel T φ w S va x) : Gives P T φ w S (Builtin.len_ args ty #[x]) v E := by
  unfold lenF at h
  split at h
  · exact (res_fail h).elim
  · rename_i e he
    have hu := htok.und _ _ he
    split at h
    · rename_i n u hd
      rw [hd] at hu
      obtain ⟨rfl, rfl⟩ := res_ok h
      exact ⟨rfl, _, by simp [Builtin.len_, hargs, run_underlying hu]; rfl, rel_si _ _⟩
    · rename_i hd
      rw [hd] at hu
      split at h
      · obtain ⟨rfl, rfl⟩ := res_ok h
        simp only [rel] at hr; subst hr
        exact ⟨rfl, _, by simp [Builtin.len_, hargs, run_underlying hu]; rfl, rel_i _ _⟩
      · obtain ⟨rfl, rfl⟩ := res_ok h
        simp only [rel] at hr; obtain ⟨rfl, _⟩ := hr
        exact ⟨rfl, _, by simp [Builtin.len_, hargs, run_underlying hu]; rfl, rel_si _ _⟩
      · exact (res_fail h).elim
    · rename_i u hd
      rw [hd] at hu
      have hrun : ∀ A n c, x = .slice A n c → (Builtin.len_ args ty #[x]).run P w = .ok (.int .i64 n) w := by
        intro A n c hx
        subst hx
        simp [Builtin.len_, hargs, run_underlying hu, goInt]
      split at h
      · obtain ⟨rfl, rfl⟩ := res_ok h
        simp only [rel] at hr
        exact ⟨rfl, _, hrun _ _ _ hr, rel_si _ _⟩
      · obtain ⟨rfl, rfl⟩ := res_ok h
        simp only [rel] at hr
        obtain ⟨A, cap, hx, _⟩ := hr
        exact ⟨rfl, _, hrun _ _ _ hx, rel_i _ _⟩
      · rename_i n
        have key : ∀ es : List V, ((∃ B off room sz, φ n = some (.rw B off es.length room sz)) ∨ (φ n = some .nilrow ∧ es = [])) → Gives P T φ w S (Builtin.len_ args ty #[x]) (.i .i64 ((real P T w0).len es)) [] := by
          intro es hb
          simp only [rel] at hr
          rcases hb with ⟨B, off, room, sz, hφ⟩ | ⟨hφ, rfl⟩
          · rcases hr with ⟨B', off', len, room', sz', cap, h2, hx, _⟩ | ⟨h2, _⟩
            · rw [hφ] at h2; injection h2 with h2; injection h2 with a1 a2 a3 a4 a5; subst a3
              exact ⟨rfl, _, hrun _ _ _ hx, rel_i _ _⟩
            · rw [hφ] at h2; cases h2
          · rcases hr with ⟨B', off', len, room', sz', cap, h2, hx, _⟩ | ⟨_, _, hx⟩
            · rw [hφ] at h2; cases h2
            · exact ⟨rfl, _, hrun _ _ _ hx, rel_i _ _⟩
        split at h
        · rename_i et es hl
          obtain ⟨rfl, rfl⟩ := res_ok h
          obtain ⟨_, e', _, _, hb⟩ := hh.blk _ _ hl
          refine key es ?_
          rcases hb with ⟨B, off, room, arr, h2, _⟩ | hb
          · exact .inl ⟨B, off, room, _, h2⟩
          · exact .inr hb
        · rename_i et es hl
          obtain ⟨rfl, rfl⟩ := res_ok h
          obtain ⟨_, e', _, _, hb⟩ := hh.blk _ _ hl
          refine key es ?_
          rcases hb with ⟨B, off, room, arr, fz, h2, _⟩ | hb
          · exact .inl ⟨B, off, room, _, h2⟩
          · exact .inr hb
        · exact (res_fail h).elim
      · rename_i n lo ln
        obtain ⟨rfl, rfl⟩ := res_ok h
        simp only [rel] at hr
        rcases hr with ⟨B, off, len, room, sz, cap, A, h2, hx, l0, l1, _⟩ | ⟨h2, ⟨_, hx⟩, l0, l1⟩
        · refine ⟨rfl, _, hrun _ _ _ hx, ?_⟩
          rw [Int.toNat_of_nonneg l1]
          exact rel_i _ _
        · subst l1
          exact ⟨rfl, _, hrun _ _ _ hx, rel_i _ _⟩
      · exact (res_fail h).elim
    · exact (res_fail h).elim
end
end Go.Ab
end
section
namespace Go.Ab
open Go.RowKit
section
variable {P : Program} {T : Tr} {w0 : Base} {φ φ' : Nat → Option Loc} {w w' : World} {S S' : Nat → Prop} {v : V} {x : Value} {hp : Hp} {b0 : Nat → Prop}
theorem inRow_mono {arr : Array Value} {off sz : Nat} {es : List V} (hφ : LocLe φ φ') (hw : ∀ k, S k → w'.heap[k]? = w.heap[k]?) (hS : ∀ k, S k → S' k) (h : inRow T φ w S arr off sz es) : inRow T φ' w' S' arr off sz es := by
  intro k e hk
  obtain ⟨x, h1, h2⟩ := h k e hk
  exact ⟨x, rel_mono hφ hw hS _ _ h1, h2⟩
theorem BlkOk.mono {n : Nat} {b : Blk} (hφ : LocLe φ φ') (hw : ∀ k, S k → w'.heap[k]? = w.heap[k]?) (hS : ∀ k, S k → S' k)
    (ho : b.own = true → ∀ l B, φ n = some l → l.blk = some B → w'.heap[B]? = w.heap[B]?) (h : BlkOk T φ w S n b) : BlkOk T φ' w' S' n b := by
  cases b with
  | cells t cs =>
    obtain ⟨B, arr, h1, h2, h3, h4⟩ := h
    exact ⟨B, arr, hφ _ _ h1, (ho rfl _ _ h1 rfl).trans h2, relL_mono hφ hw hS _ _ h3, h4⟩
  | row et es =>
    obtain ⟨h0, e, he, hz, h⟩ := h
    refine ⟨h0, e, he, hz, ?_⟩
    rcases h with ⟨B, off, room, arr, h1, h2, h0', h3, h4, h5⟩ | ⟨h1, h2⟩
    · exact .inl ⟨B, off, room, arr, hφ _ _ h1, (ho rfl _ _ h1 rfl).trans h2, h0', h3, h4, inRow_mono hφ hw hS h5⟩
    · exact .inr ⟨hφ _ _ h1, h2⟩
  | ro et es =>
    obtain ⟨h0, e, he, hz, h⟩ := h
    refine ⟨h0, e, he, hz, ?_⟩
    rcases h with ⟨B, off, room, arr, fz, h1, hs, h2, h3, h4, h5⟩ | ⟨h1, h2⟩
    · exact .inl ⟨B, off, room, arr, fz, hφ _ _ h1, hS _ hs, (hw _ hs).trans h2, h3, h4, inRow_mono hφ hw hS h5⟩
    · exact .inr ⟨hφ _ _ h1, h2⟩
  | mb t L =>
    obtain ⟨B, es, c, h1, h2, h3⟩ := h
    exact ⟨B, es, c, hφ _ _ h1, (ho rfl _ _ h1 rfl).trans h2, h3⟩
  | gone => trivial
theorem look_cons {n m : Nat} {b : Blk} {hp : Hp} : look ((n, b) :: hp) m = if n = m then some b else look hp m := by
  simp only [look]
  by_cases h : n = m
  · subst h; simp
  · have : (n == m) = false := by simpa using h
    rw [this, if_neg h]
theorem HOk.cons {n : Nat} {b : Blk} (h : HOk T φ b0 w S hp) (hle : LocLe φ φ') (hne : ∀ m, m ≠ n → φ' m = φ m) (hn : φ' n ≠ none)
    (hw : ∀ k, S k → w'.heap[k]? = w.heap[k]?) (hS : ∀ k, S k → S' k)
    (ho : ∀ m c l B, m ≠ n → look hp m = some c → c.own = true → φ m = some l → l.blk = some B → w'.heap[B]? = w.heap[B]? ∧ ¬ S' B)
    (hsz : w.heap.size ≤ w'.heap.size) (hb : BlkOk T φ' w' S' n b)
    (hown : b.own = true → ∀ l B, φ' n = some l → l.blk = some B → ¬ b0 B ∧ B < w'.heap.size ∧ ¬ S' B ∧ ∀ m c k, m ≠ n → look hp m = some c → c.own = true → φ m = some k → k.blk ≠ some B)
    (hold : ∀ k, S' k → k < w'.heap.size) : HOk T φ' b0 w' S' ((n, b) :: hp) := by
  refine ⟨fun m => ?_, fun m c hm => ?_, fun m c l B hm hc hl hB => ?_, fun m m' c c' l k B hm hm' hc hc' hl hk hB hB' => ?_, hold⟩
  · rw [look_cons]
    by_cases e : n = m
    · subst e; rw [if_pos rfl]; simp [hn]
    · rw [if_neg e, hne m (fun h => e h.symm)]; exact h.dom m
  · rw [look_cons] at hm
    by_cases e : n = m
    · subst e; rw [if_pos rfl] at hm; injection hm with hm; subst hm; exact hb
    · rw [if_neg e] at hm
      exact (h.blk m c hm).mono hle hw hS (fun hc l B hl hB => (ho m c l B (fun h => e h.symm) hm hc hl hB).1)
  · rw [look_cons] at hm
    by_cases e : n = m
    · subst e; rw [if_pos rfl] at hm; injection hm with hm; subst hm
      obtain ⟨h1, h2, h3, _⟩ := hown hc l B hl hB
      exact ⟨h1, h2, h3⟩
    · rw [if_neg e] at hm
      rw [hne m (fun h => e h.symm)] at hl
      obtain ⟨h1, h2, _⟩ := h.own m c l B hm hc hl hB
      exact ⟨h1, Nat.lt_of_lt_of_le h2 hsz, (ho m c l B (fun h => e h.symm) hm hc hl hB).2⟩
  · rw [look_cons] at hm hm'
    by_cases e : n = m
    · subst e; rw [if_pos rfl] at hm; injection hm with hm; subst hm
      by_cases e' : n = m'
      · exact e'
      · rw [if_neg e'] at hm'
        rw [hne m' (fun h => e' h.symm)] at hk
        obtain ⟨_, _, _, h4⟩ := hown hc l B hl hB
        exact absurd hB' (h4 m' c' k (fun h => e' h.symm) hm' hc' hk)
    · rw [if_neg e] at hm
      rw [hne m (fun h => e h.symm)] at hl
      by_cases e' : n = m'
      · subst e'; rw [if_pos rfl] at hm'; injection hm' with hm'; subst hm'
        obtain ⟨_, _, _, h4⟩ := hown hc' k B hk hB'
        exact absurd hB (h4 m c l (fun h => e h.symm) hm hc hl)
      · rw [if_neg e'] at hm'
        rw [hne m' (fun h => e' h.symm)] at hk
        exact h.inj m m' c c' l k B hm hm' hc hc' hl hk hB hB'
theorem HOk.drop {n : Nat} {b b' : Blk} (h : HOk T φ b0 w S hp) (hl : look hp n = some b) (ho : b'.own = false) (hb : BlkOk T φ w S n b') : HOk T φ b0 w S ((n, b') :: hp) := by
  refine h.cons (LocLe.refl _) (fun _ _ => rfl) (fun e => ?_) (fun _ _ => rfl) (fun _ h => h) (fun m c l B hm hc hc2 hl2 hB => ⟨rfl, (h.own m c l B hc hc2 hl2 hB).2.2⟩) (Nat.le_refl _) hb (fun e => by rw [ho] at e; cases e) h.old
  have := (h.dom n).1 e
  rw [hl] at this
  cases this
theorem HOk.freeze {n et : Nat} {es : List V} (h : HOk T φ b0 w S hp) (hl : look hp n = some (.row et es)) : ∃ S', (∀ k, S k → S' k) ∧ HOk T φ b0 w S' ((n, .ro et es) :: hp) ∧ (∀ k, S' k → S k ∨ ∃ l, φ n = some l ∧ l.blk = some k) := by
  obtain ⟨hw, e, he, hz, hb⟩ := h.blk n _ hl
  rcases hb with ⟨B, off, room, arr, h1, h2, h0', h3, h4, h5⟩ | ⟨h1, h2⟩
  · refine ⟨fun k => S k ∨ k = B, fun k hk => .inl hk, ?_, fun k hk => ?_⟩
    · obtain ⟨o1, o2, o3⟩ := h.own n _ _ B hl rfl h1 rfl
      refine h.cons (LocLe.refl _) (fun _ _ => rfl) (by rw [h1]; simp) (fun _ _ => rfl) (fun k hk => .inl hk) (fun m c l B' hm hc hc2 hl2 hB => ⟨rfl, fun hS => ?_⟩) (Nat.le_refl _) ?_ (fun e => by cases e) (fun k hk => ?_)
      · rcases hS with hS | hS
        · exact (h.own m c l B' hc hc2 hl2 hB).2.2 hS
        · subst hS; exact hm (h.inj m n c _ l _ B' hc hl hc2 rfl hl2 h1 hB rfl)
      · exact ⟨hw, e, he, hz, .inl ⟨B, off, room, arr, (0, 0), h1, .inr rfl, h2, h3, h4, inRow_mono (LocLe.refl _) (fun _ _ => rfl) (fun k hk => .inl hk) h5⟩⟩
      · rcases hk with hk | hk
        · exact h.old k hk
        · subst hk; exact o2
    · rcases hk with hk | hk
      · exact .inl hk
      · subst hk; exact .inr ⟨_, h1, rfl⟩
  · exact ⟨S, fun k hk => hk, h.drop hl rfl ⟨hw, e, he, hz, .inr ⟨h1, h2⟩⟩, fun k hk => .inl hk⟩
theorem HOk.perm {hp' : Hp} (h : HOk T φ b0 w S hp) (he : ∀ k, look hp k = look hp' k) : HOk T φ b0 w S hp' :=
  ⟨fun n => by rw [← he]; exact h.dom n, fun n b hb => h.blk n b (by rw [he]; exact hb), fun n b l B hb => h.own n b l B (by rw [he]; exact hb), fun n m b c l k B hb hc => h.inj n m b c l k B (by rw [he]; exact hb) (by rw [he]; exact hc), h.old⟩
def upd (φ : Nat → Option Loc) (n : Nat) (l : Loc) : Nat → Option Loc := fun m => if m = n then some l else φ m
theorem upd_self {n : Nat} {l : Loc} : upd φ n l n = some l := by simp [upd]
theorem upd_ne {n m : Nat} {l : Loc} (h : m ≠ n) : upd φ n l m = φ m := by simp [upd, h]
theorem upd_le {n : Nat} {l : Loc} (h : φ n = none) : LocLe φ (upd φ n l) := fun m k hm => by
  by_cases e : m = n
  · subst e; rw [h] at hm; cases hm
  · rw [upd_ne e]; exact hm
theorem Since.alloc {w0 : Base} {w : World} (h : Since w0 w) (o : Obj) : Since w0 (w.alloc o) :=
  ⟨h.os, h.tape, h.output, by simp; exact Nat.le_succ_of_le h.size, fun k hk => (Below.heap_alloc w o k (Nat.lt_of_lt_of_le (w0.lt k hk) h.size)).trans (h.block k hk)⟩
theorem Since.drew {w0 : Base} {w : World} (h : Since w0 w) : Since w0 w.drew := ⟨h.os, h.tape, h.output, h.size, h.block⟩
theorem Since.setRow {w0 : Base} {w : World} (h : Since w0 w) {B : Nat} (hB : ¬ w0.Z B) (cs : Array Value) : Since w0 (w.setRow B cs) :=
  ⟨h.os, h.tape, h.output, by simp; exact h.size, fun k hk => (setRow_other w B k cs (fun e => hB (e ▸ hk))).trans (h.block k hk)⟩
theorem HOk.new {n t : Nat} {b : Blk} {l : Loc} {arr : Array Value} (h : HOk T φ b0 w S hp) (hn : look hp n = none) (hl : l.blk = some w.heap.size) (hb0 : ¬ b0 w.heap.size)
    (hb : BlkOk T (upd φ n l) (w.alloc (.cells arr t)) S n b) : HOk T (upd φ n l) b0 (w.alloc (.cells arr t)) S ((n, b) :: hp) := by
  have hφ : φ n = none := (h.dom n).2 hn
  refine h.cons (upd_le hφ) (fun m hm => upd_ne hm) (by rw [upd_self]; simp) (fun k hk => Below.heap_alloc w _ k (h.old k hk)) (fun _ h => h) (fun m c l' B hm hc hc2 hl2 hB => ?_) (by simp) hb (fun _ l' B hl' hB => ?_) (fun k hk => by simp; exact Nat.lt_succ_of_lt (h.old k hk))
  · obtain ⟨_, o2, o3⟩ := h.own m c l' B hc hc2 hl2 hB
    exact ⟨Below.heap_alloc w _ B o2, o3⟩
  · rw [upd_self] at hl'; injection hl' with hl'; subst hl'
    rw [hl] at hB; injection hB with hB; subst hB
    refine ⟨hb0, by simp, fun hS => absurd (h.old _ hS) (Nat.lt_irrefl _), fun m c k hm hc hc2 hk hB => ?_⟩
    exact absurd (h.own m c k _ hc hc2 hk hB).2.1 (Nat.lt_irrefl _)
theorem HOk.drew (h : HOk T φ b0 w S hp) : HOk T φ b0 w.drew S hp := by
  exact ⟨h.dom, fun n b hb => BlkOk.mono (w := w) (LocLe.refl _) (fun _ _ => rfl) (fun _ h => h) (fun _ _ _ _ _ => rfl) (h.blk n b hb), h.own, h.inj, h.old⟩
theorem Ext.new {n t : Nat} {b : Blk} {l : Loc} {arr : Array Value} (hs : Since w0 w) (h : HOk T φ w0.Z w S hp) (hn : look hp n = none) (hl : l.blk = some w.heap.size)
    (hb : BlkOk T (upd φ n l) (w.alloc (.cells arr t)) S n b) : Ext T w0 φ S hp w (upd φ n l) S [(n, b)] (w.alloc (.cells arr t)) :=
  ⟨upd_le ((h.dom n).2 hn), SLe.refl, fun k hk => Below.heap_alloc w _ k (h.old k hk), hs.alloc _, h.new hn hl hs.fresh hb⟩
theorem stor_cells (hs : stor v = true) (hr : rel T φ w S v x) : relL T φ w S (cellsOf v) x.cells.toList ∧ ∀ u ∈ x.cells.toList, u.oneCell' = true := by
  have one : x.oneCell' = true → cellsOf v = [v] → relL T φ w S (cellsOf v) x.cells.toList ∧ ∀ u ∈ x.cells.toList, u.oneCell' = true := by
    intro h1 h2
    rw [h2, cells_one h1]
    simp only [relL]
    exact ⟨⟨x, [], rfl, hr, rfl⟩, fun u hu => by simp at hu; subst hu; exact h1⟩
  cases v with
  | nlq g es => cases hs
  | mp t L => refine one ?_ rfl; simp only [rel] at hr; obtain ⟨g, es, c, rfl, _⟩ := hr; rfl
  | mrow n => refine one ?_ rfl; simp only [rel] at hr; obtain ⟨B, _, rfl⟩ := hr; rfl
  | bs a b c d => cases hs
  | dead => cases hs
  | tup cs => cases hs
  | agg cs => simp only [rel] at hr; obtain ⟨a, rfl, h2, h3⟩ := hr; exact ⟨h2, h3⟩
  | s v => refine one ?_ rfl; simp only [rel] at hr; obtain ⟨rfl, h⟩ := hr; exact h
  | i k n => refine one ?_ rfl; simp only [rel] at hr; subst hr; rfl
  | b c => refine one ?_ rfl; simp only [rel] at hr; subst hr; rfl
  | str c => refine one ?_ rfl; simp only [rel] at hr; subst hr; rfl
  | nil => refine one ?_ rfl; simp only [rel] at hr; subst hr; rfl
  | sl et es => refine one ?_ rfl; simp only [rel] at hr; obtain ⟨A, cap, rfl, _⟩ := hr; rfl
  | ptr n j => refine one ?_ rfl; simp only [rel] at hr; obtain ⟨B, _, rfl⟩ := hr; rfl
  | ep n i j => refine one ?_ rfl; simp only [rel] at hr; obtain ⟨B, off, len, room, sz, _, _, _, rfl⟩ := hr; rfl
  | rp et es i j => refine one ?_ rfl; simp only [rel] at hr; obtain ⟨ad, e, _, _, _, _, _, _, _, rfl⟩ := hr; rfl
  | row n => refine one ?_ rfl; simp only [rel] at hr; rcases hr with ⟨B, off, len, room, sz, cap, _, rfl, _⟩ | ⟨_, _, rfl⟩ <;> rfl
  | rowp n lo ln => refine one ?_ rfl; simp only [rel] at hr; rcases hr with ⟨B, off, len, room, sz, cap, A, _, rfl, _⟩ | ⟨_, ⟨_, rfl⟩, _⟩ <;> rfl
  | fn f fs cs => refine one ?_ rfl; simp only [rel] at hr; obtain ⟨a, b, rfl, _⟩ := hr; rfl
theorem box_left {t n : Nat} (hs : Since w0 w) (h : HOk T φ w0.Z w S hp) (hn : look hp n = none) (hst : stor v = true) (hr : rel T φ w S v x) :
    Left T w0 φ S hp w (.ptr n 0) [(n, .cells t (cellsOf v))] (.pointer (some ⟨w.heap.size, 0, none⟩)) (w.alloc (.cells x.cells t)) := by
  obtain ⟨h1, h2⟩ := stor_cells hst hr
  refine ⟨_, _, Ext.new (l := .box w.heap.size) hs h hn rfl ?_, ?_⟩
  · exact ⟨w.heap.size, x.cells, upd_self, heap_alloc_new w _, relL_mono (upd_le ((h.dom n).2 hn)) (fun k hk => Below.heap_alloc w _ k (h.old k hk)) (fun _ h => h) _ _ h1, h2⟩
  · simp only [rel]; exact ⟨_, upd_self, rfl⟩
theorem zero_rel (e : TE) : rel T φ w S (zeroV e) e.zero := ofV_rel _
theorem zeroN_rel (e : TE) : rel T φ w S (zeroN e) e.zero := norm_rel (zero_rel e)
theorem unNilS_rel {t : Nat} {v : V} {x : Value} (h : rel T φ w S v x) : rel T φ w S (unNilS T t v) x := by
  unfold unNilS
  split
  · split
    · split
      · simp only [rel] at h ⊢
        subst h
        exact ⟨none, 0, rfl, Nat.le_refl _, Nat.zero_le _, by simp [wtL], fun hne => absurd rfl hne⟩
      · exact h
    · exact h
  · exact h
theorem unNilL_rel : ∀ {ts : List Nat} {cs : List V} {xs : List Value}, relL T φ w S cs xs → relL T φ w S (unNilL T ts cs) xs
  | [], cs, xs, h => by simpa only [unNilL] using h
  | t :: ts, [], xs, h => by simpa only [unNilL] using h
  | t :: ts, v :: r, xs, h => by
    simp only [relL, unNilL] at h ⊢
    obtain ⟨x, xs', h1, h2, h3⟩ := h
    exact ⟨x, xs', h1, unNilS_rel h2, unNilL_rel h3⟩
theorem unNil_rel {t : Nat} {v : V} {x : Value} (h : rel T φ w S v x) : rel T φ w S (unNil T t v) x := by
  unfold unNil
  split
  · simp only [rel] at h ⊢
    obtain ⟨a, h1, h2, h3⟩ := h
    exact ⟨a, h1, unNilL_rel h2, h3⟩
  · exact unNilS_rel h
theorem unNilP_fst {t : Nat} : ∀ {ps : List (Nat × V)}, (unNilP T t ps).map (·.1) = ps.map (·.1)
  | [] => rfl
  | (i, v) :: r => by simp [unNilP, unNilP_fst (ps := r)]
theorem unNilP_rel {t : Nat} : ∀ {ps : List (Nat × V)} {xs : List Value}, relL T φ w S (ps.map (·.2)) xs → relL T φ w S ((unNilP T t ps).map (·.2)) xs
  | [], xs, h => by simpa only [unNilP] using h
  | (i, v) :: r, xs, h => by
    simp only [relL, unNilP, List.map_cons] at h ⊢
    obtain ⟨x, xs', h1, h2, h3⟩ := h
    exact ⟨x, xs', h1, unNil_rel h2, unNilP_rel h3⟩
theorem zeroT_rel (t : Nat) (e : TE) : rel T φ w S (zeroT T t e) e.zero := unNil_rel (zeroN_rel e)
end
end Go.Ab
end
section
namespace Go.Ab
open Go.RowKit
section
variable {P : Program} {T : Tr} {w0 : Base} {φ φ' : Nat → Option Loc} {w w' : World} {S S' : Nat → Prop} {v : V} {x : Value} {hp : Hp} {b0 : Nat → Prop}
def LeftS (T : Tr) (w0 : Base) (φ : Nat → Option Loc) (S : Nat → Prop) (hp : Hp) (w : World) (E : Hp) (w' : World) : Prop :=
  ∃ φ' S', Ext T w0 φ S hp w φ' S' E w'
theorem relL_app {a b : List V} {c d : List Value} (h : relL T φ w S a c) (k : relL T φ w S b d) : relL T φ w S (a ++ b) (c ++ d) := by
  obtain ⟨h1, h2⟩ := relL_iff.1 h
  obtain ⟨k1, k2⟩ := relL_iff.1 k
  refine relL_iff.2 ⟨by simp [h1, k1], fun j p q hp hq => ?_⟩
  rw [List.getElem?_append] at hp hq
  rw [← h1] at hq
  split at hp
  · rename_i hlt
    rw [if_pos hlt] at hq
    exact h2 _ _ _ hp hq
  · rename_i hlt
    rw [if_neg hlt] at hq
    exact k2 _ _ _ hp hq
theorem relL_drop {a : List V} {c : List Value} (h : relL T φ w S a c) (n : Nat) : relL T φ w S (a.drop n) (c.drop n) := by
  obtain ⟨h1, h2⟩ := relL_iff.1 h
  exact relL_iff.2 ⟨by simp [h1], fun j p q hp hq => h2 _ _ _ (by simpa using hp) (by simpa using hq)⟩
theorem relL_take {a : List V} {c : List Value} (h : relL T φ w S a c) (n : Nat) : relL T φ w S (a.take n) (c.take n) := by
  have := relL_sub h 0 n
  simpa using this
theorem run_storeVar {t : TypeId} {i : TypeInfo} (hi : P.info? t = some i) {B off : Nat} {arr : Array Value} {t0 : TypeId} (hB : w.heap[B]? = some (.cells arr t0 (0, 0))) {xv : Value} (hs : xv.cells.size = i.size) (hle : off + xv.cells.size ≤ arr.size)
    (h1 : ∀ u ∈ xv.cells.toList, u.oneCell' = true) : (Instr.storeAt t (.pointer (some ⟨B, off, none⟩)) xv).run P w = .ok () (w.setRow B (arr.toList.take off ++ xv.cells.toList ++ arr.toList.drop (off + xv.cells.size)).toArray) := by
  have hst := run_storeCells_at P B off t0 xv.cells.toList 0 arr w hB (by simpa using hle) h1
  simp only [Nat.add_zero, Array.length_toList] at hst
  simp [Instr.storeAt, Instr.sureAddr, storeVar, sizeOf, run_typeInfo w hi, hs]
  rw [hst, hs, List.append_assoc]
theorem HOk.write {n B : Nat} {b b' : Blk} {l : Loc} {arr : Array Value} (h : HOk T φ b0 w S hp) (hl : look hp n = some b) (ho : b.own = true) (ho' : b'.own = true) (hφ : φ n = some l) (hlB : l.blk = some B)
    (hb : BlkOk T φ (w.setRow B arr) S n b') : HOk T φ b0 (w.setRow B arr) S ((n, b') :: hp) := by
  obtain ⟨o1, o2, o3⟩ := h.own n b l B hl ho hφ hlB
  refine h.cons (LocLe.refl _) (fun _ _ => rfl) (by rw [hφ]; simp) (fun k hk => setRow_other w B k arr (fun e => o3 (e ▸ hk))) (fun _ h => h) (fun m c l' B' hm hc hc2 hl2 hB => ?_) (by simp) hb (fun _ l' B' hl' hB' => ?_) (fun k hk => by simp; exact h.old k hk)
  · refine ⟨setRow_other w B B' arr (fun e => ?_), (h.own m c l' B' hc hc2 hl2 hB).2.2⟩
    subst e
    exact hm (h.inj m n c b l' l B' hc hl hc2 ho hl2 hφ hB hlB)
  · rw [hφ] at hl'; injection hl' with hl'; subst hl'
    rw [hlB] at hB'; injection hB' with hB'; subst hB'
    refine ⟨o1, by simp; exact o2, o3, fun m c k hm hc hc2 hk hB => ?_⟩
    exact hm (h.inj m n c b k l B hc hl hc2 ho hk hφ hB hlB)
theorem Ext.write {n B : Nat} {b b' : Blk} {l : Loc} {arr : Array Value} (hs : Since w0 w) (h : HOk T φ w0.Z w S hp) (hl : look hp n = some b) (ho : b.own = true) (ho' : b'.own = true) (hφ : φ n = some l) (hlB : l.blk = some B)
    (hb : BlkOk T φ (w.setRow B arr) S n b') : Ext T w0 φ S hp w φ S [(n, b')] (w.setRow B arr) := by
  obtain ⟨o1, o2, o3⟩ := h.own n b l B hl ho hφ hlB
  exact ⟨LocLe.refl _, SLe.refl, fun k hk => setRow_other w B k arr (fun e => o3 (e ▸ hk)), hs.setRow o1 arr, h.write hl ho ho' hφ hlB hb⟩
theorem Ext.trans {φ1 φ2 : Nat → Option Loc} {S1 S2 : Nat → Prop} {w1 w2 : World} {E1 E2 : Hp} (h : Ext T w0 φ S hp w φ1 S1 E1 w1) (k : Ext T w0 φ1 S1 (E1 ++ hp) w1 φ2 S2 E2 w2) : Ext T w0 φ S hp w φ2 S2 (E2 ++ E1) w2 :=
  ⟨h.loc.trans k.loc, h.sle.trans k.sle, fun x hx => (k.keep x (h.sle.1 x hx)).trans (h.keep x hx), k.since, by rw [List.append_assoc]; exact k.heap⟩
theorem storeBox_ok (htok : TyOk P T) (hs : Since w0 w) (hh : HOk T φ w0.Z w S hp) {t n off u : Nat} {cs : List V} {a : Value} (hl : look hp n = some (.cells u cs))
    (ha : rel T φ w S (.ptr n off) a) (hr : rel T φ w S v x) (hst : stor v = true) (hsz : (cellsOf v).length = sizeT T t) (hz : sizeT T t ≠ 0) (hle : off + (cellsOf v).length ≤ cs.length) :
    ∃ w', (Instr.storeAt t a x).run P w = .ok () w' ∧ LeftS T w0 φ S hp w [(n, .cells u (place cs off (cellsOf v)))] w' := by
  simp only [rel] at ha
  obtain ⟨B, hB, rfl⟩ := ha
  obtain ⟨h1, h2⟩ := stor_cells hst hr
  obtain ⟨B', arr, b1, b2, b3, b4⟩ := hh.blk _ _ hl
  rw [hB] at b1; injection b1 with b1; injection b1 with b1; subst b1
  obtain ⟨hl1, _⟩ := relL_iff.1 h1
  obtain ⟨hl3, _⟩ := relL_iff.1 b3
  have hcs : (cellsOf v).length = x.cells.size := by simpa using hl1
  have harr : cs.length = arr.size := by simpa using hl3
  obtain ⟨i0, hi, hsi⟩ := sizeT_info htok hz
  refine ⟨_, run_storeVar hi b2 (by omega) (by omega) h2, φ, S, Ext.write hs hh hl rfl rfl hB rfl ?_⟩
  refine ⟨B, _, hB, setRow_heap w B arr _ u (0, 0) b2, ?_, ?_⟩
  · have hkeep : ∀ k, S k → (w.setRow B (arr.toList.take off ++ x.cells.toList ++ arr.toList.drop (off + x.cells.size)).toArray).heap[k]? = w.heap[k]? := fun k hk => setRow_other w B k _ (fun e => (hh.own n _ _ B hl rfl hB rfl).2.2 (e ▸ hk))
    refine relL_mono (LocLe.refl _) hkeep (fun _ h => h) _ _ ?_
    simp only [place]
    rw [hcs]
    exact relL_app (relL_app (relL_take b3 off) h1) (relL_drop b3 _)
  · intro q hq
    simp only [List.mem_append] at hq
    rcases hq with (hq | hq) | hq
    · exact b4 q (List.mem_of_mem_take hq)
    · exact h2 q hq
    · exact b4 q (List.mem_of_mem_drop hq)
theorem splice_get {α : Type} (L N : List α) (p : Nat) (h : p + N.length ≤ L.length) (q : Nat) : (L.take p ++ N ++ L.drop (p + N.length))[q]? = if q < p then L[q]? else if q < p + N.length then N[q - p]? else L[q]? := by
  rw [List.append_assoc, List.getElem?_append, List.length_take, Nat.min_eq_left (by omega)]
  by_cases h1 : q < p
  · rw [if_pos h1, if_pos h1, List.getElem?_take, if_pos h1]
  · rw [if_neg h1, if_neg h1, List.getElem?_append]
    by_cases h2 : q < p + N.length
    · rw [if_pos (by omega), if_pos h2]
    · rw [if_neg (by omega), if_neg h2, List.getElem?_drop]
      congr 1
      omega
theorem chkS_wt {t : Nat} (h : chkS T t v = true) (hr : rel T φ w S v x) : wt T v t ∧ isAggT T t = false := by
  unfold chkS at h
  split at h
  · cases h
  · rename_i e he
    rw [aggT_of he]
    split at h
    · rename_i hd; rw [kinds_eq h] at hd; simp only [wt]; exact ⟨⟨e, he, hd⟩, by rw [hd]; rfl⟩
    · rename_i hd; simp only [wt]; exact ⟨⟨e, he, by rw [hd]; exact kinds_eq h⟩, by rw [hd]; rfl⟩
    · rename_i hd; simp only [wt]; exact ⟨⟨e, he, hd⟩, by rw [hd]; rfl⟩
    · rename_i hd; simp only [wt]; exact ⟨⟨e, he, by rw [hd]; trivial⟩, by rw [hd]; rfl⟩
    · rename_i hd; simp only [wt]; exact ⟨⟨e, he, hd⟩, by rw [hd]; rfl⟩
    · rename_i hd; simp only [wt]; exact ⟨⟨e, he, by rw [hd]; trivial⟩, by rw [hd]; rfl⟩
    · rename_i hd; simp only [wt]; exact ⟨⟨e, _, he, hd⟩, by rw [hd]; rfl⟩
    · rename_i u u' es hd
      have : u = u' := by simpa using h
      subst this
      simp only [rel] at hr
      obtain ⟨A, cap, _, _, _, hw, _⟩ := hr
      simp only [wt]
      exact ⟨⟨⟨e, he, hd⟩, hw⟩, by rw [hd]; rfl⟩
    · cases h
theorem chkL_wt : ∀ {ts : List Nat} {vs : List V} {xs : List Value}, chkL T ts vs = true → relL T φ w S vs xs → wtC T ts vs
  | [], [], _, _, _ => by simp only [wtC]
  | [], _ :: _, _, h, _ => by simp [chkL] at h
  | _ :: _, [], _, h, _ => by simp [chkL] at h
  | t :: ts, v :: vs, xs, h, hr => by
    simp only [chkL, Bool.and_eq_true] at h
    simp only [relL] at hr
    obtain ⟨x, xs', rfl, h1, h2⟩ := hr
    obtain ⟨k1, k2⟩ := chkS_wt h.1 h1
    simp only [wtC]
    exact ⟨t, ts, rfl, k2, k1, chkL_wt h.2 h2⟩
theorem chk_wt {t : Nat} (h : chk T t v = true) (hr : rel T φ w S v x) : wt T v t := by
  unfold chk at h
  split at h
  · cases h
  · rename_i e he
    split at h
    · rename_i cs hd
      simp only [rel] at hr
      obtain ⟨a, rfl, h2, _⟩ := hr
      simp only [wt]
      exact ⟨by rw [aggT_of he, hd], chkL_wt h h2⟩
    · exact (chkS_wt h hr).1
    · cases h
theorem wt_agg {et : Nat} {e : V} (h : wt T e et) (hA : isAggT T et = true) : ∃ cs, e = .agg cs ∧ wtC T (cellTys T 8 et) cs := by
  cases e with
  | agg cs => simp only [wt] at h; exact ⟨cs, rfl, h.2⟩
  | i k n => simp only [wt] at h; obtain ⟨e', h2, h3⟩ := h; rw [aggT_of h2, h3] at hA; cases hA
  | s v =>
    simp only [wt] at h
    obtain ⟨e', h2, h3⟩ := h
    rw [aggT_of h2] at hA
    split at h3
    · rename_i hd; rw [hd] at hA; cases hA
    · rename_i hd; rw [hd] at hA; cases hA
    · rename_i hd; rw [hd] at hA; cases hA
    · exact h3.elim
  | b c => simp only [wt] at h; obtain ⟨e', h2, h3⟩ := h; rw [aggT_of h2, h3] at hA; cases hA
  | str s => simp only [wt] at h; obtain ⟨e', h2, h3⟩ := h; rw [aggT_of h2, h3] at hA; cases hA
  | nil => simp only [wt] at h; obtain ⟨e', u, h2, h3⟩ := h; rw [aggT_of h2, h3] at hA; cases hA
  | sl u es' => simp only [wt] at h; obtain ⟨⟨e', h2, h3⟩, _⟩ := h; rw [aggT_of h2, h3] at hA; cases hA
  | _ => simp only [wt] at h
theorem wt_one {et : Nat} {e : V} (h : wt T e et) (hA : isAggT T et = false) (hr : rel T φ w S e x) : x.oneCell' = true ∧ cellsOf e = [e] := by
  cases e with
  | agg cs => simp only [wt] at h; rw [hA] at h; exact absurd h.1 (by simp)
  | i k n => simp only [rel] at hr; subst hr; exact ⟨rfl, rfl⟩
  | s v => simp only [rel] at hr; obtain ⟨rfl, hr2⟩ := hr; exact ⟨hr2, rfl⟩
  | b c => simp only [rel] at hr; subst hr; exact ⟨rfl, rfl⟩
  | str s => simp only [rel] at hr; subst hr; exact ⟨rfl, rfl⟩
  | nil => simp only [rel] at hr; subst hr; exact ⟨rfl, rfl⟩
  | sl u es' => simp only [rel] at hr; obtain ⟨A, cap, rfl, _⟩ := hr; exact ⟨rfl, rfl⟩
  | _ => simp only [wt] at h
theorem put_el {et t j : Nat} {e : V} {xe : Value} (hwe : wt T e et) (hre : rel T φ w S e xe) (h1e : ∀ u ∈ xe.cells.toList, u.oneCell' = true) (hf : fits T et t j = true) (hc : chk T t v = true) (hr : rel T φ w S v x) (hsz : sizeT T t ≠ 0) :
    ∃ x', wt T (putCells e j (cellsOf v)) et ∧ rel T φ w S (putCells e j (cellsOf v)) x' ∧ x'.cells.size = xe.cells.size ∧ (∀ u ∈ x'.cells.toList, u.oneCell' = true) ∧ j + x.cells.size ≤ xe.cells.size ∧
      x'.cells.toList = xe.cells.toList.take j ++ x.cells.toList ++ xe.cells.toList.drop (j + x.cells.size) := by
  have hwv := chk_wt hc hr
  cases hA : isAggT T et with
  | true =>
    obtain ⟨ds, rfl, hwc⟩ := wt_agg hwe hA
    simp only [rel] at hre
    obtain ⟨a, rfl, hra, _⟩ := hre
    obtain ⟨l1, g1⟩ := wtC_iff hwc
    obtain ⟨l2, g2⟩ := relL_iff.1 hra
    have key : ∀ (vs : List V) (us : Array Value) (ts : List Nat), wtC T ts vs → relL T φ w S vs us.toList → (∀ u ∈ us.toList, u.oneCell' = true) → ((cellTys T 8 et).drop j).take ts.length = ts → j + ts.length ≤ (cellTys T 8 et).length →
        ∃ x', wt T (.agg (place ds j vs)) et ∧ rel T φ w S (.agg (place ds j vs)) x' ∧ x'.cells.size = a.size ∧ (∀ u ∈ x'.cells.toList, u.oneCell' = true) ∧ j + us.size ≤ a.size ∧ x'.cells.toList = a.toList.take j ++ us.toList ++ a.toList.drop (j + us.size) := by
      intro vs us ts hwv' hrv h1 hts hle
      obtain ⟨l3, g3⟩ := wtC_iff hwv'
      obtain ⟨l4, g4⟩ := relL_iff.1 hrv
      have e1 : vs.length = us.size := by simpa using l4
      have e2 : ds.length = a.size := by simpa using l2
      refine ⟨.agg (a.toList.take j ++ us.toList ++ a.toList.drop (j + us.size)).toArray, ?_, ?_, ?_, ?_, by omega, rfl⟩
      · simp only [wt]
        refine ⟨hA, wtC_of ?_ (fun q c hq => ?_)⟩
        · simp only [place, List.length_append, List.length_take, List.length_drop]; omega
        · simp only [place] at hq
          rw [splice_get _ _ _ (by omega)] at hq
          by_cases q1 : q < j
          · rw [if_pos q1] at hq; exact g1 q c hq
          · rw [if_neg q1] at hq
            by_cases q2 : q < j + vs.length
            · rw [if_pos q2] at hq
              obtain ⟨t', k1, k2⟩ := g3 (q - j) c hq
              refine ⟨t', ?_, k2⟩
              rw [← hts, List.getElem?_take, if_pos (by omega), List.getElem?_drop] at k1
              rwa [show j + (q - j) = q from by omega] at k1
            · rw [if_neg q2] at hq; exact g1 q c hq
      · simp only [rel]
        refine ⟨_, rfl, ?_, ?_⟩
        · simp only [place, e1]
          exact relL_app (relL_app (relL_take hra j) hrv) (relL_drop hra _)
        · intro u hu
          simp only [List.mem_append] at hu
          rcases hu with (hu | hu) | hu
          · exact h1e u (List.mem_of_mem_take hu)
          · exact h1 u hu
          · exact h1e u (List.mem_of_mem_drop hu)
      · simp [Value.cells]; omega
      · intro u hu
        simp only [Value.cells, List.mem_append] at hu
        rcases hu with (hu | hu) | hu
        · exact h1e u (List.mem_of_mem_take hu)
        · exact h1 u hu
        · exact h1e u (List.mem_of_mem_drop hu)
    unfold fits at hf
    cases hT : isAggT T t with
    | true =>
      rw [hT] at hf
      simp only [Bool.and_eq_true, beq_iff_eq] at hf
      obtain ⟨⟨_, hf2⟩, hf3, hf4⟩ := hf
      obtain ⟨vs, rfl, hwv2⟩ := wt_agg hwv hT
      simp only [rel] at hr
      obtain ⟨us, rfl, hrv, h1v⟩ := hr
      have hts := eqN_eq hf2
      have hpos : 0 < (cellTys T 8 t).length := by rw [hf3]; omega
      have hlen := congrArg List.length hts
      simp only [List.length_take, List.length_drop] at hlen
      exact key vs us _ hwv2 hrv h1v hts (by omega)
    | false =>
      rw [hT, hA] at hf
      simp only [Bool.and_eq_true, beq_iff_eq] at hf
      obtain ⟨hf1, hf2⟩ := hf
      obtain ⟨o1, o2⟩ := wt_one hwv hT hr
      have hj : j < (cellTys T 8 et).length := by simp [Nat.blt] at hf2; omega
      have hgj : (cellTys T 8 et)[j]? = some t := by
        rw [← hf1]; exact getD_some hj
      rw [o2, cells_one o1]
      refine key [v] #[x] [t] (by simp only [wtC]; exact ⟨t, [], rfl, hT, hwv, rfl⟩) (by simp only [relL]; exact ⟨x, [], rfl, hr, rfl⟩) (fun u hu => by simp at hu; subst hu; exact o1) ?_ (by simp; omega)
      apply List.ext_getElem?
      intro q
      rw [List.getElem?_take]
      by_cases hq : q < 1
      · have : q = 0 := by omega
        subst this
        simp [hgj]
      · have : ¬ (q < [t].length) := hq
        rw [if_neg this, List.getElem?_eq_none (by simp; omega)]
  | false =>
    unfold fits at hf
    have hT : isAggT T t = false := by
      cases hT : isAggT T t with
      | false => rfl
      | true => rw [hT, hA] at hf; simp at hf
    rw [hT, hA] at hf
    simp only [Bool.and_eq_true, beq_iff_eq] at hf
    obtain ⟨rfl, rfl⟩ := hf
    obtain ⟨o1, o2⟩ := wt_one hwv hT hr
    obtain ⟨p1, p2⟩ := wt_one hwe hA hre
    have hput : putCells e 0 [v] = v := by
      cases e <;> first | rfl | (simp only [wt] at hwe; rw [hA] at hwe; exact absurd hwe.1 (by simp))
    rw [o2, hput]
    refine ⟨x, hwv, hr, by rw [cells_one o1, cells_one p1]; rfl, fun u hu => by rw [cells_one o1] at hu; simp at hu; subst hu; exact o1, by rw [cells_one o1, cells_one p1]; simp, by rw [cells_one o1, cells_one p1]; simp⟩
theorem chkS_stor {t : Nat} (h : chkS T t v = true) : stor v = true := by
  unfold chkS at h
  split at h
  · cases h
  · split at h <;> first | rfl | cases h
theorem chk_stor {t : Nat} (h : chk T t v = true) : stor v = true := by
  unfold chk at h
  split at h
  · cases h
  · split at h
    · rfl
    · exact chkS_stor h
    · cases h
theorem storeRow_ok (htok : TyOk P T) (hs : Since w0 w) (hh : HOk T φ w0.Z w S hp) {t n et j : Nat} {i : Int} {es : List V} {a : Value} (hl : look hp n = some (.row et es))
    (ha : rel T φ w S (.ep n i j) a) (hr : rel T φ w S v x) (hf : fits T et t j = true) (hc : chk T t v = true) (hz : sizeT T t ≠ 0) (hcl : (cellsOf v).length = sizeT T t) :
    ∃ w', (Instr.storeAt t a x).run P w = .ok () w' ∧ LeftS T w0 φ S hp w [(n, .row et ((real P T w0).put es i j (cellsOf v)))] w' := by
  simp only [rel] at ha
  obtain ⟨B, off, len, room, sz, hφ, h0, hlt, rfl⟩ := ha
  obtain ⟨hwt, e, he, hze, hb⟩ := hh.blk _ _ hl
  rcases hb with ⟨B', off', room', arr, b1, b2, b0', b3, b4, b5⟩ | ⟨b1, _⟩
  case inr => rw [hφ] at b1; cases b1
  rw [hφ] at b1; injection b1 with b1; injection b1 with a1 a2 a3 a4 a5; subst a1; subst a2; subst a3; subst a4; subst a5
  have hk : i.toNat < es.length := by omega
  have hel : es[i.toNat]? = some (es.getD i.toNat .dead) := getD_some hk
  obtain ⟨xe, e1, e2, e3, e4⟩ := b5 i.toNat _ hel
  obtain ⟨x', p1, p2, p3, p4, p5, p6⟩ := put_el (wt_get hwt hk) e1 e3 hf hc hr hz
  obtain ⟨i0, hi, hsi⟩ := sizeT_info htok hz
  have hxs : x.cells.size = i0.size := by
    have := (relL_iff.1 (stor_cells (chk_stor hc) hr).1).1
    rw [hsi, ← hcl, this]; simp
  have hfit : off + i.toNat * e.size + j + x.cells.size ≤ arr.size := by
    have : (i.toNat + 1) * e.size ≤ es.length * e.size := Nat.mul_le_mul_right _ hk
    rw [Nat.add_mul, Nat.one_mul] at this
    rw [e2] at p5
    omega
  have hone : ∀ u ∈ x.cells.toList, u.oneCell' = true := by
    intro u hu
    refine p4 u ?_
    rw [p6]
    simp [hu]
  refine ⟨_, run_storeVar hi b2 hxs hfit hone, φ, S, Ext.write hs hh hl rfl rfl hφ rfl ?_⟩
  have hkeep : ∀ k, S k → (w.setRow B (arr.toList.take (off + i.toNat * e.size + j) ++ x.cells.toList ++ arr.toList.drop (off + i.toNat * e.size + j + x.cells.size)).toArray).heap[k]? = w.heap[k]? := fun k hk => setRow_other w B k _ (fun h => (hh.own n _ _ B hl rfl hφ rfl).2.2 (h ▸ hk))
  have hlen : ((real P T w0).put es i j (cellsOf v)).length = es.length := by simp [real]
  have hput : ∀ q, ((real P T w0).put es i j (cellsOf v))[q]? = if i.toNat = q then some (putCells (es.getD i.toNat .dead) j (cellsOf v)) else es[q]? := by
    intro q
    simp only [real, List.getElem?_set]
    by_cases hq : i.toNat = q
    · subst hq; rw [if_pos rfl, if_pos rfl, if_pos hk]
    · rw [if_neg hq, if_neg hq]
  refine ⟨wtL_iff.2 (fun q hq => ?_), e, he, hze, .inl ⟨B, off, room, _, by rw [hlen]; exact hφ, setRow_heap w B arr _ et (0, 0) b2, b0', ?_, by rw [hlen]; exact b4, ?_⟩⟩
  · simp only [real] at hq
    rcases List.mem_or_eq_of_mem_set hq with hq | hq
    · exact wtL_iff.1 hwt q hq
    · subst hq; exact p1
  · simp; omega
  · intro q c hq
    rw [hput] at hq
    by_cases hqi : i.toNat = q
    · rw [if_pos hqi] at hq
      injection hq with hq
      subst hq; subst hqi
      refine ⟨x', rel_mono (LocLe.refl _) hkeep (fun _ h => h) _ _ p2, by rw [p3, e2], p4, fun r u hu => ?_⟩
      rw [List.getElem?_toArray, ← Array.length_toList (xs := x.cells), splice_get _ _ _ (by simpa using hfit)]
      have hu' : x'.cells.toList[r]? = some u := by simpa using hu
      rw [p6, ← Array.length_toList (xs := x.cells), splice_get _ _ _ (by simpa using p5)] at hu'
      by_cases r1 : r < j
      · rw [if_pos r1] at hu'
        rw [if_pos (by omega)]
        simpa using e4 r u (by simpa using hu')
      · rw [if_neg r1] at hu'
        by_cases r2 : r < j + x.cells.toList.length
        · rw [if_pos r2] at hu'
          rw [if_neg (by omega), if_pos (by omega)]
          rwa [show off + i.toNat * e.size + r - (off + i.toNat * e.size + j) = r - j from by omega]
        · rw [if_neg r2] at hu'
          rw [if_neg (by omega), if_neg (by omega)]
          simpa using e4 r u (by simpa using hu')
    · rw [if_neg hqi] at hq
      obtain ⟨y, y1, y2, y3, y4⟩ := b5 q c hq
      refine ⟨y, rel_mono (LocLe.refl _) hkeep (fun _ h => h) _ _ y1, y2, y3, fun r u hu => ?_⟩
      rw [List.getElem?_toArray, ← Array.length_toList (xs := x.cells), splice_get _ _ _ (by simpa using hfit)]
      have hr : r < e.size := by
        have := (Array.getElem?_eq_some_iff.1 hu).1
        omega
      have hold : arr.toList[off + q * e.size + r]? = some u := by simpa using y4 r u hu
      rw [e2] at p5
      have p5' : j + x.cells.toList.length ≤ e.size := by simpa using p5
      rcases Nat.lt_or_gt_of_ne hqi with hlt | hgt
      · have : (i.toNat + 1) * e.size ≤ q * e.size := Nat.mul_le_mul_right _ hlt
        rw [Nat.add_mul, Nat.one_mul] at this
        rw [if_neg (by omega), if_neg (by omega)]
        exact hold
      · have : (q + 1) * e.size ≤ i.toNat * e.size := Nat.mul_le_mul_right _ hgt
        rw [Nat.add_mul, Nat.one_mul] at this
        rw [if_pos (by omega)]
        exact hold
end
end Go.Ab
end
section
namespace Go.Ab
open Go.RowKit
section
variable {P : Program} {T : Tr} {w0 : Base} {φ φ' : Nat → Option Loc} {w w' : World} {S S' : Nat → Prop} {v : V} {x : Value} {hp : Hp} {b0 : Nat → Prop}
theorem row_sl {n et : Nat} {es : List V} {e : TE} (he : T.look et = some e) (hz : 0 < e.size) (hw : wtL T et es) (hS : ∀ l B, φ n = some l → l.blk = some B → S B)
    (hb : (∃ B off room arr fz, φ n = some (.rw B off es.length room e.size) ∧ w.heap[B]? = some (.cells arr et fz) ∧ inRow T φ w S arr off e.size es) ∨ (φ n = some .nilrow ∧ es = []))
    (hr : rel T φ w S (.row n) x) : rel T φ w S (.sl et es) x := by
  simp only [rel] at hr ⊢
  rcases hb with ⟨B, off, room, arr, fz, h1, h2, h3⟩ | ⟨h1, rfl⟩
  · rcases hr with ⟨B', off', len, room', sz, cap, k1, k2, k3, k4, k5⟩ | ⟨k1, _⟩
    · rw [h1] at k1; injection k1 with k1; injection k1 with a1 a2 a3 a4 a5; subst a1; subst a2; subst a3; subst a4; subst a5
      refine ⟨_, cap, k2, k3, Nat.le_trans k3 k4, hw, fun hne => ⟨⟨B, off, none⟩, e, rfl, he, hz, hS _ _ h1 rfl, relE_iff.2 (fun k c hk => ?_)⟩⟩
      obtain ⟨y, y1, y2, y3, y4⟩ := h3 k c hk
      refine ⟨y, y1, y2, y3, fun j u hu => ?_⟩
      rw [add_at0, cell_of_row w B _ arr et fz h2, Nat.zero_add, ← Nat.add_assoc]
      exact y4 j u hu
    · rw [h1] at k1; cases k1
  · rcases hr with ⟨B', off', len, room', sz, cap, k1, _⟩ | ⟨_, A, k2⟩
    · rw [h1] at k1; cases k1
    · exact ⟨A, 0, k2, by simp, by simp [maxLen], by simp [wtL], fun h => absurd rfl h⟩
theorem row_form {n et : Nat} {es : List V} (hh : HOk T φ b0 w S hp) (hl : look hp n = some (.row et es)) : wtL T et es ∧ ∃ e, T.look et = some e ∧ 0 < e.size ∧ ((∃ B off room arr fz, φ n = some (.rw B off es.length room e.size) ∧ w.heap[B]? = some (.cells arr et fz) ∧ inRow T φ w S arr off e.size es) ∨ (φ n = some .nilrow ∧ es = [])) := by
  obtain ⟨h0, e, he, hz, hb⟩ := hh.blk _ _ hl
  refine ⟨h0, e, he, hz, ?_⟩
  rcases hb with ⟨B, off, room, arr, h1, h2, _, _, _, h3⟩ | hb
  · exact .inl ⟨B, off, room, arr, (0, 0), h1, h2, h3⟩
  · exact .inr hb
theorem ro_form {n et : Nat} {es : List V} (hh : HOk T φ b0 w S hp) (hl : look hp n = some (.ro et es)) : wtL T et es ∧ ∃ e, T.look et = some e ∧ 0 < e.size ∧ ((∃ B off room arr fz, φ n = some (.rw B off es.length room e.size) ∧ w.heap[B]? = some (.cells arr et fz) ∧ inRow T φ w S arr off e.size es) ∨ (φ n = some .nilrow ∧ es = [])) := by
  obtain ⟨h0, e, he, hz, hb⟩ := hh.blk _ _ hl
  refine ⟨h0, e, he, hz, ?_⟩
  rcases hb with ⟨B, off, room, arr, fz, h1, _, h2, _, _, h3⟩ | hb
  · exact .inl ⟨B, off, room, arr, fz, h1, h2, h3⟩
  · exact .inr hb
theorem ro_S {n et : Nat} {es : List V} (hh : HOk T φ b0 w S hp) (hl : look hp n = some (.ro et es)) : ∀ l B, φ n = some l → l.blk = some B → S B := by
  intro l B h1 h2
  obtain ⟨h0, e, he, hz, hb⟩ := hh.blk _ _ hl
  rcases hb with ⟨B', off, room, arr, fz, k1, k2, _⟩ | ⟨k1, _⟩
  · rw [h1] at k1; injection k1 with k1; subst k1
    injection h2 with h2; subst h2; exact k2
  · rw [h1] at k1; injection k1 with k1; subst k1; cases h2
theorem frzS_ok {v' : V} {E : Hp} (hh : HOk T φ b0 w S hp) (hr : rel T φ w S v x) (h : frzS hp v = (v', E)) : ∃ S', SLe b0 S S' ∧ HOk T φ b0 w S' (E ++ hp) ∧ rel T φ w S' v' x := by
  have id : ∀ {v' : V} {E : Hp}, (v', ([] : Hp)) = (v', E) → rel T φ w S v' x → ∃ S', SLe b0 S S' ∧ HOk T φ b0 w S' (E ++ hp) ∧ rel T φ w S' v' x := by
    intro v' E h1 h2
    injection h1 with h1 h3
    subst h3
    exact ⟨S, SLe.refl, hh, h2⟩
  have dd : ∀ {v' : V} {E : Hp}, (V.dead, ([] : Hp)) = (v', E) → ∃ S', SLe b0 S S' ∧ HOk T φ b0 w S' (E ++ hp) ∧ rel T φ w S' v' x := by
    intro v' E h1
    injection h1 with h1 h3
    subst h3; subst h1
    exact ⟨S, SLe.refl, hh, by simp only [rel]⟩
  cases v with
  | row n =>
    simp only [frzS] at h
    split at h
    · rename_i et es hl
      injection h with h1 h2
      subst h1; subst h2
      obtain ⟨S', s1, s2, s3⟩ := hh.freeze hl
      refine ⟨S', ⟨s1, fun k hk => (s3 k hk).imp (fun h => h) (fun ⟨l, hl1, hl2⟩ => (hh.own n _ l k hl rfl hl1 hl2).1)⟩, s2, ?_⟩
      have hl' : look ((n, Blk.ro et es) :: hp) n = some (.ro et es) := by rw [look_cons, if_pos rfl]
      obtain ⟨hw, e, he, hz, hb⟩ := ro_form s2 hl'
      exact row_sl he hz hw (ro_S s2 hl') hb (rel_mono (LocLe.refl _) (fun _ _ => rfl) s1 _ _ hr)
    · rename_i et es hl
      injection h with h1 h2
      subst h1; subst h2
      obtain ⟨hw, e, he, hz, hb⟩ := ro_form hh hl
      exact ⟨S, SLe.refl, hh, row_sl he hz hw (ro_S hh hl) hb hr⟩
    · exact dd h
  | ptr _ _ => exact dd h
  | ep _ _ _ => exact dd h
  | rowp _ _ _ => exact dd h
  | agg _ => exact dd h
  | tup _ => exact dd h
  | fn _ _ _ => exact dd h
  | s _ => simp only [frzS] at h; injection h with h1 h2; subst h1; subst h2; exact id rfl hr
  | i _ _ => simp only [frzS] at h; injection h with h1 h2; subst h1; subst h2; exact id rfl hr
  | b _ => simp only [frzS] at h; injection h with h1 h2; subst h1; subst h2; exact id rfl hr
  | str _ => simp only [frzS] at h; injection h with h1 h2; subst h1; subst h2; exact id rfl hr
  | nil => simp only [frzS] at h; injection h with h1 h2; subst h1; subst h2; exact id rfl hr
  | sl _ _ => simp only [frzS] at h; injection h with h1 h2; subst h1; subst h2; exact id rfl hr
  | rp _ _ _ _ => simp only [frzS] at h; injection h with h1 h2; subst h1; subst h2; exact id rfl hr
  | nlq g es => exact dd h
  | mrow n => exact dd h
  | bs _ _ _ _ => exact dd h
  | mp _ _ => simp only [frzS] at h; injection h with h1 h2; subst h1; subst h2; exact id rfl hr
  | dead => exact dd h
theorem frzL_ok : ∀ {cs cs' : List V} {xs : List Value} {E : Hp} {hp : Hp} {S : Nat → Prop}, HOk T φ b0 w S hp → relL T φ w S cs xs → frzL hp cs = (cs', E) → ∃ S', SLe b0 S S' ∧ HOk T φ b0 w S' (E ++ hp) ∧ relL T φ w S' cs' xs
  | [], cs', xs, E, hp, S, hh, hr, h => by
    simp only [frzL] at h
    injection h with h1 h2
    subst h1; subst h2
    exact ⟨S, SLe.refl, hh, hr⟩
  | v :: r, cs', xs, E, hp, S, hh, hr, h => by
    simp only [frzL] at h
    cases hv : frzS hp v with
    | mk v1 E1 =>
      rw [hv] at h
      simp only at h
      cases hq : frzL (E1 ++ hp) r with
      | mk r2 E2 =>
        rw [hq] at h
        simp only at h
        injection h with h1 h2
        subst h1; subst h2
        simp only [relL] at hr
        obtain ⟨x, xs', rfl, k1, k2⟩ := hr
        obtain ⟨S1, s1, s2, s3⟩ := frzS_ok hh k1 hv
        obtain ⟨S2, t1, t2, t3⟩ := frzL_ok s2 (relL_mono (LocLe.refl _) (fun _ _ => rfl) s1.1 _ _ k2) hq
        refine ⟨S2, s1.trans t1, by rw [List.append_assoc]; exact t2, ?_⟩
        simp only [relL]
        exact ⟨x, xs', rfl, rel_mono (LocLe.refl _) (fun _ _ => rfl) t1.1 _ _ s3, t3⟩
theorem frz_ok {v' : V} {E : Hp} (hh : HOk T φ b0 w S hp) (hr : rel T φ w S v x) (h : frz hp v = (v', E)) : ∃ S', SLe b0 S S' ∧ HOk T φ b0 w S' (E ++ hp) ∧ rel T φ w S' v' x := by
  unfold frz at h
  split at h
  · rename_i cs
    cases hq : frzL hp cs with
    | mk cs' E' =>
      rw [hq] at h
      simp only at h
      injection h with h1 h2
      subst h1; subst h2
      simp only [rel] at hr
      obtain ⟨a, rfl, k1, k2⟩ := hr
      obtain ⟨S', s1, s2, s3⟩ := frzL_ok hh k1 hq
      refine ⟨S', s1, s2, ?_⟩
      simp only [rel]
      exact ⟨a, rfl, s3, k2⟩
  · exact frzS_ok hh hr h
theorem frzP_ok : ∀ {ps ps' : List (Nat × V)} {qs : List (Nat × Value)} {E : Hp} {hp : Hp} {S : Nat → Prop}, HOk T φ b0 w S hp → ps.map (·.1) = qs.map (·.1) → relL T φ w S (ps.map (·.2)) (qs.map (·.2)) → frzP hp ps = (ps', E) →
    ∃ S', SLe b0 S S' ∧ HOk T φ b0 w S' (E ++ hp) ∧ ps'.map (·.1) = qs.map (·.1) ∧ relL T φ w S' (ps'.map (·.2)) (qs.map (·.2))
  | [], ps', qs, E, hp, S, hh, he, hr, h => by
    simp only [frzP] at h
    injection h with h1 h2
    subst h1; subst h2
    exact ⟨S, SLe.refl, hh, he, hr⟩
  | (i, v) :: r, ps', qs, E, hp, S, hh, he, hr, h => by
    simp only [frzP] at h
    cases hv : frz hp v with
    | mk v1 E1 =>
      rw [hv] at h
      simp only at h
      cases hq : frzP (E1 ++ hp) r with
      | mk r2 E2 =>
        rw [hq] at h
        simp only at h
        injection h with h1 h2
        subst h1; subst h2
        cases qs with
        | nil => simp at he
        | cons q qs =>
          simp only [List.map_cons, relL] at hr
          obtain ⟨x, xs', e1, k1, k2⟩ := hr
          injection e1 with e1 e2
          subst e1; subst e2
          simp only [List.map_cons, List.cons.injEq] at he
          obtain ⟨S1, s1, s2, s3⟩ := frz_ok hh k1 hv
          obtain ⟨S2, t1, t2, t3, t4⟩ := frzP_ok s2 he.2 (relL_mono (LocLe.refl _) (fun _ _ => rfl) s1.1 _ _ k2) hq
          refine ⟨S2, s1.trans t1, by rw [List.append_assoc]; exact t2, by simp [he.1, t3], ?_⟩
          simp only [List.map_cons, relL]
          exact ⟨_, _, rfl, norm_rel (rel_mono (LocLe.refl _) (fun _ _ => rfl) t1.1 _ _ s3), t4⟩
def OB (φ : Nat → Option Loc) (ns : List Nat) (k : Nat) : Prop := ∃ n ∈ ns, ∃ l, φ n = some l ∧ l.blk = some k
theorem relE_sub {ad : Addr} {sz : Nat} {es : List V} {l h : Nat} (hr : relE T φ w S ad sz 0 es) : relE T φ w S (ad.add (l * sz)) sz 0 ((es.take h).drop l) := by
  refine relE_iff.2 (fun k e hk => ?_)
  rw [List.getElem?_drop, List.getElem?_take] at hk
  split at hk
  · obtain ⟨x, x1, x2, x3, x4⟩ := relE_iff.1 hr (l + k) e hk
    refine ⟨x, x1, x2, x3, fun j u hu => ?_⟩
    rw [add_add, show l * sz + ((0 + k) * sz + j) = (0 + (l + k)) * sz + j from by rw [Nat.zero_add, Nat.zero_add, Nat.add_mul]; omega]
    exact x4 j u hu
  · cases hk
theorem wtL_sub {et : Nat} {es : List V} (l h : Nat) (hw : wtL T et es) : wtL T et ((es.take h).drop l) :=
  wtL_iff.2 fun e he => wtL_iff.1 hw e (List.mem_of_mem_take (List.mem_of_mem_drop he))
theorem expS_ok (hh : HOk T φ b0 w S hp) (hr : rel T φ w S v x) : rel T φ w (fun k => S k ∨ OB φ (rowsS v) k) (expS (real P T w0) hp v) x := by
  have up : ∀ v, rel T φ w S v x → rel T φ w (fun k => S k ∨ OB φ (rowsS v) k) v x := fun v h => rel_mono (LocLe.refl _) (fun _ _ => rfl) (fun k hk => .inl hk) _ _ h
  cases v with
  | row n =>
    simp only [expS]
    have hS : ∀ l B, φ n = some l → l.blk = some B → (S B ∨ OB φ (rowsS (.row n)) B) := fun l B h1 h2 => .inr ⟨n, by simp [rowsS], l, h1, h2⟩
    have go : ∀ {et es}, (wtL T et es ∧ ∃ e, T.look et = some e ∧ 0 < e.size ∧ ((∃ B off room arr fz, φ n = some (.rw B off es.length room e.size) ∧ w.heap[B]? = some (.cells arr et fz) ∧ inRow T φ w S arr off e.size es) ∨ (φ n = some .nilrow ∧ es = []))) → rel T φ w (fun k => S k ∨ OB φ (rowsS (.row n)) k) (.sl et es) x := by
      intro et es ⟨hw, e, he, hz, hb⟩
      refine row_sl he hz hw hS ?_ (up _ hr)
      rcases hb with ⟨B, off, room, arr, fz, h1, h2, h3⟩ | hb
      · exact .inl ⟨B, off, room, arr, fz, h1, h2, inRow_mono (LocLe.refl _) (fun _ _ => rfl) (fun k hk => .inl hk) h3⟩
      · exact .inr hb
    split
    · rename_i et es hl; exact go (row_form hh hl)
    · rename_i et es hl; exact go (ro_form hh hl)
    · simp only [rel]
  | rowp n lo ln =>
    simp only [expS]
    have go : ∀ {et es}, (wtL T et es ∧ ∃ e, T.look et = some e ∧ 0 < e.size ∧ ((∃ B off room arr fz, φ n = some (.rw B off es.length room e.size) ∧ w.heap[B]? = some (.cells arr et fz) ∧ inRow T φ w S arr off e.size es) ∨ (φ n = some .nilrow ∧ es = []))) → rel T φ w (fun k => S k ∨ OB φ (rowsS (.rowp n lo ln)) k) (.sl et ((real P T w0).sub es lo ((real P T w0).pl lo ln))) x := by
      intro et es ⟨hw, e, he, hz, hb⟩
      simp only [rel] at hr ⊢
      rcases hb with ⟨B, off, room, arr, fz, h1, h2, h3⟩ | ⟨h1, rfl⟩
      · rcases hr with ⟨B', off', len, room', sz, cap, A, k1, k2, k3, k4, k5, k6, k7, k8, k9⟩ | ⟨k1, _⟩
        · rw [h1] at k1; injection k1 with k1; injection k1 with a1 a2 a3 a4 a5; subst a1; subst a2; subst a3; subst a4; subst a5
          have hlen : ((es.take (lo + ln).toNat).drop lo.toNat).length = ln.toNat := by simp; omega
          refine ⟨some A, cap, by simp only [real]; rw [hlen]; exact k2, by simp only [real]; rw [hlen]; omega, by simp only [real]; rw [hlen]; omega, by simp only [real]; exact wtL_sub _ _ hw, fun hne => ?_⟩
          have hpos : 0 < cap := by
            rcases Nat.eq_zero_or_pos cap with h | h
            · exfalso; apply hne; simp only [real]; apply List.eq_nil_of_length_eq_zero; rw [hlen]; omega
            · exact h
          obtain rfl := k9 hpos
          refine ⟨_, e, rfl, he, hz, .inr ⟨n, by simp [rowsS], _, h1, rfl⟩, ?_⟩
          have hE : relE T φ w (fun k => S k ∨ OB φ (rowsS (.rowp n lo ln)) k) ⟨B, off, none⟩ e.size 0 es := relE_iff.2 (fun k c hk => by
            obtain ⟨y, y1, y2, y3, y4⟩ := h3 k c hk
            refine ⟨y, rel_mono (LocLe.refl _) (fun _ _ => rfl) (fun k hk => .inl hk) _ _ y1, y2, y3, fun j u hu => ?_⟩
            rw [add_at0, cell_of_row w B _ arr et fz h2, Nat.zero_add, ← Nat.add_assoc]
            exact y4 j u hu)
          have := relE_sub (l := lo.toNat) (h := (lo + ln).toNat) hE
          rw [add_at0] at this
          exact this
        · rw [h1] at k1; cases k1
      · rcases hr with ⟨B', off', len, room', sz, cap, A, k1, _⟩ | ⟨_, ⟨A, k2⟩, k3, k4⟩
        · rw [h1] at k1; cases k1
        · subst k2
          refine ⟨A, 0, by simp [real], by simp [real], by simp [real, maxLen], by simp [real, wtL], fun h => absurd (by simp [real]) h⟩
    split
    · rename_i et es hl; exact go (row_form hh hl)
    · rename_i et es hl; exact go (ro_form hh hl)
    · simp only [rel]
  | ptr n j => simp only [expS, rel]
  | nlq g es => simp only [expS, rel]
  | mrow n => simp only [expS, rel]
  | bs a b c d => simp only [expS, rel]
  | ep n i j => simp only [expS, rel]
  | agg cs => simp only [expS, rel]
  | tup cs => simp only [expS, rel]
  | fn f fs cs =>
    cases fs with
    | nil => cases cs with
      | nil => simp only [expS]; exact up _ hr
      | cons c cs => simp only [expS, rel]
    | cons c fs => simp only [expS, rel]
  | _ => exact up _ hr
theorem expL_ok (hh : HOk T φ b0 w S hp) : ∀ {cs : List V} {xs : List Value}, relL T φ w S cs xs → relL T φ w (fun k => S k ∨ OB φ ((cs.map rowsS).flatten) k) (cs.map (expS (real P T w0) hp)) xs
  | [], xs, h => by simpa only [relL, List.map_nil] using h
  | v :: r, xs, h => by
    simp only [relL, List.map_cons] at h ⊢
    obtain ⟨x, xs', h1, h2, h3⟩ := h
    have sub : ∀ {a b : List Nat}, (∀ n ∈ a, n ∈ b) → ∀ k, (S k ∨ OB φ a k) → (S k ∨ OB φ b k) := by
      intro a b hab k hk
      rcases hk with hk | ⟨n, hn, r⟩
      · exact .inl hk
      · exact .inr ⟨n, hab n hn, r⟩
    refine ⟨x, xs', h1, rel_mono (LocLe.refl _) (fun _ _ => rfl) (sub (fun n hn => ?_)) _ _ (expS_ok hh h2), relL_mono (LocLe.refl _) (fun _ _ => rfl) (sub (fun n hn => ?_)) _ _ (expL_ok hh h3)⟩
    · simp only [List.flatten_cons, List.mem_append]; exact .inl hn
    · simp only [List.flatten_cons, List.mem_append]; exact .inr hn
theorem exp_ok (hh : HOk T φ b0 w S hp) (hr : rel T φ w S v x) : rel T φ w (fun k => S k ∨ OB φ (rowsOf v) k) (Ab.exp (real P T w0) hp v) x := by
  unfold Ab.exp
  split
  · rename_i cs
    simp only [rel] at hr ⊢
    obtain ⟨a, rfl, h1, h2⟩ := hr
    exact ⟨a, rfl, expL_ok hh h1, h2⟩
  · rename_i hne
    have : rowsOf v = rowsS v := by
      unfold rowsOf
      split
      · exact absurd rfl (hne _)
      · rfl
    rw [this]
    exact expS_ok hh hr
end
end Go.Ab
end
section
namespace Go.Ab
open Go.RowKit
section
variable {P : Program} {T : Tr} {w0 : Base} {φ φ' : Nat → Option Loc} {w w' : World} {S S' : Nat → Prop} {v : V} {x : Value} {hp : Hp} {b0 : Nat → Prop}
theorem cells_of_relE {ad : Addr} {sz : Nat} : ∀ {es : List V} {i : Nat}, relE T φ w S ad sz i es → ∃ news : List Value, news.length = es.length * sz ∧ (∀ j u, news[j]? = some u → w.cell? (ad.add (i * sz + j)) = some u) ∧ (∀ u ∈ news, u.oneCell' = true) ∧ inRow T φ w S news.toArray 0 sz es
  | [], i, _ => ⟨[], by simp, by simp, by simp, fun k e hk => by simp at hk⟩
  | e :: es, i, h => by
    simp only [relE] at h
    obtain ⟨⟨y, y1, y2, y3, y4⟩, h2⟩ := h
    obtain ⟨news, n1, n2, n3, n4⟩ := cells_of_relE h2
    refine ⟨y.cells.toList ++ news, by simp [n1, y2, Nat.add_mul]; omega, fun j u hu => ?_, fun u hu => ?_, fun k c hk => ?_⟩
    · rw [List.getElem?_append] at hu
      split at hu
      · exact y4 j u (by simpa using hu)
      · rename_i hlt
        have := n2 _ u hu
        simp only [Array.length_toList, y2] at hlt this
        rwa [show (i + 1) * sz + (j - sz) = i * sz + j from by rw [Nat.add_mul]; omega] at this
    · rcases List.mem_append.1 hu with hu | hu
      · exact y3 u hu
      · exact n3 u hu
    · cases k with
      | zero =>
        simp at hk; subst hk
        refine ⟨y, y1, y2, y3, fun j u hu => ?_⟩
        have hj : j < y.cells.size := (Array.getElem?_eq_some_iff.1 hu).1
        simp only [Nat.zero_mul, Nat.zero_add, List.getElem?_toArray]
        rw [List.getElem?_append, if_pos (by simpa using hj)]
        simpa using hu
      | succ k =>
        simp at hk
        obtain ⟨z, z1, z2, z3, z4⟩ := n4 k c hk
        refine ⟨z, z1, z2, z3, fun j u hu => ?_⟩
        have := z4 j u hu
        simp only [Nat.zero_add, List.getElem?_toArray] at this ⊢
        rw [List.getElem?_append, if_neg (by simp [y2, Nat.add_mul]; omega)]
        simp only [Array.length_toList, y2]
        rwa [show (k + 1) * sz + j - sz = k * sz + j from by rw [Nat.add_mul]; omega]
theorem relE_of_inRow {B off sz : Nat} {arr : Array Value} {et : Nat} {fz : Nat × Nat} {es : List V} (h2 : w.heap[B]? = some (.cells arr et fz)) (h : inRow T φ w S arr off sz es) : relE T φ w S ⟨B, off, none⟩ sz 0 es :=
  relE_iff.2 (fun k c hk => by
    obtain ⟨y, y1, y2, y3, y4⟩ := h k c hk
    refine ⟨y, y1, y2, y3, fun j u hu => ?_⟩
    rw [add_at0, cell_of_row w B _ arr et fz h2, Nat.zero_add, ← Nat.add_assoc]
    exact y4 j u hu)
structure Src (P : Program) (T : Tr) (φ : Nat → Option Loc) (w : World) (S : Nat → Prop) (u sz : Nat) (xs : List V) (x : Value) (news : List Value) : Prop where
  wt : wtL T u xs
  nl : news.length = xs.length * sz
  one : ∀ u ∈ news, u.oneCell' = true
  row : inRow T φ w S news.toArray 0 sz xs
  len : ∀ w1, (Builtin.lenOf x).run P w1 = .ok xs.length w1
  first : ∀ w1 m, w1.heap = w.heap → m ≤ xs.length → (Builtin.firstCells sz m x).run P w1 = .ok (news.take (m * sz)).toArray w1
  max : xs.length ≤ maxLen ∨ True
theorem cell_heap {w1 : World} (h : w1.heap = w.heap) (a : Addr) : w1.cell? a = w.cell? a := by unfold World.cell?; rw [h]
theorem src_sl {u : Nat} {e : TE} {es : List V} {A : Option Addr} {cap : Nat} (hw : wtL T u es) (hE : es ≠ [] → ∃ ad, A = some ad ∧ relE T φ w S ad e.size 0 es) :
    ∃ news, Src P T φ w S u e.size es (.slice A es.length cap) news := by
  by_cases hne : es = []
  · subst hne
    refine ⟨[], hw, by simp, by simp, fun k e hk => by simp at hk, fun w1 => by simp [Builtin.lenOf], fun w1 m _ hm => ?_, .inr trivial⟩
    obtain rfl : m = 0 := by simpa using hm
    cases A with
    | none => simp [Builtin.firstCells]
    | some ad => simp [Builtin.firstCells, loadCells, loadCellsFrom]
  · obtain ⟨ad, rfl, hE2⟩ := hE hne
    obtain ⟨news, n1, n2, n3, n4⟩ := cells_of_relE hE2
    refine ⟨news, hw, n1, n3, n4, fun w1 => by simp [Builtin.lenOf], fun w1 m hh hm => ?_, .inr trivial⟩
    have hle : m * e.size ≤ news.length := by rw [n1]; exact Nat.mul_le_mul_right _ hm
    refine run_firstCells_some (P := P) w1 e.size m ad es.length cap _ (by simp; omega) (fun j q hq => ?_)
    rw [List.getElem?_take] at hq
    split at hq
    · rw [cell_heap hh]
      have := n2 j q hq
      rwa [Nat.zero_mul, Nat.zero_add] at this
    · cases hq
theorem isU8_of {u : Nat} (h : isU8 T u = true) : ∃ e, T.look u = some e ∧ e.desc = .int .u8 := by
  unfold isU8 at h
  split at h
  · rename_i e he
    split at h
    · rename_i hd; exact ⟨e, he, hd⟩
    · cases h
  · cases h
theorem strBytes_wt {u : Nat} {s : ByteArray} (h : isU8 T u = true) : wtL T u (strBytes s) := by
  obtain ⟨e, he, hd⟩ := isU8_of h
  refine wtL_iff.2 (fun v hv => ?_)
  simp only [strBytes, List.mem_map] at hv
  obtain ⟨b, _, rfl⟩ := hv
  simp only [wt]
  exact ⟨e, he, hd⟩
theorem src_str {u : Nat} {s : ByteArray} (h : isU8 T u = true) : ∃ news, Src P T φ w S u 1 (strBytes s) (.string s) news := by
  refine ⟨s.data.toList.map fun b => .int .u8 b.toNat, strBytes_wt h, by simp [strBytes], fun u hu => ?_, fun k e hk => ?_, fun w1 => ?_, fun w1 m _ hm => ?_, .inr trivial⟩
  · simp only [List.mem_map] at hu
    obtain ⟨b, _, rfl⟩ := hu
    rfl
  · simp only [strBytes, List.getElem?_map, Option.map_eq_some_iff] at hk
    obtain ⟨b, hb, rfl⟩ := hk
    refine ⟨.int .u8 b.toNat, by simp only [rel], rfl, fun u hu => by simp [Value.cells] at hu; subst hu; rfl, fun j u hu => ?_⟩
    cases j with
    | zero => simp [Value.cells] at hu; subst hu; simp at hb; simp [hb]
    | succ j => simp [Value.cells] at hu
  · simp [Builtin.lenOf, strBytes]
  · simp only [Builtin.firstCells, Sem.run_pure, Nat.mul_one]
    congr 1
    simp only [strBytes, List.length_map, Array.length_toList] at hm
    apply Array.ext'
    simp [ByteArray.data_extract, List.map_take]
theorem src_ok (htok : TyOk P T) (hh : HOk T φ b0 w S hp) {u : Nat} {eu : TE} {xs : List V} (he : T.look u = some eu) (h : srcL (real P T w0) hp v = some xs) (hk : okSrc T hp u v = true) (hr : rel T φ w S v x) :
    ∃ news, Src P T φ w S u eu.size xs x news := by
  have hrow : ∀ {n et es}, (wtL T et es ∧ ∃ e, T.look et = some e ∧ 0 < e.size ∧ ((∃ B off room arr fz, φ n = some (.rw B off es.length room e.size) ∧ w.heap[B]? = some (.cells arr et fz) ∧ inRow T φ w S arr off e.size es) ∨ (φ n = some .nilrow ∧ es = []))) → u = et →
      (rel T φ w S (.row n) x → ∃ news, Src P T φ w S u eu.size es x news) ∧ (∀ lo ln, rel T φ w S (.rowp n lo ln) x → ∃ news, Src P T φ w S u eu.size ((es.take (lo + ln).toNat).drop lo.toNat) x news) := by
    intro n et es ⟨hw, e, he', hz, hb⟩ hue
    subst hue
    rw [he] at he'; injection he' with he'; subst he'
    constructor
    · intro hr
      simp only [rel] at hr
      rcases hb with ⟨B, off, room, arr, fz, h1, h2, h3⟩ | ⟨h1, rfl⟩
      · rcases hr with ⟨B', off', len, room', sz, cap, k1, k2, _⟩ | ⟨k1, _⟩
        · rw [h1] at k1; injection k1 with k1; injection k1 with a1 a2 a3 a4 a5; subst a1; subst a2; subst a3; subst a4; subst a5
          subst k2
          exact src_sl hw (fun _ => ⟨_, rfl, relE_of_inRow h2 h3⟩)
        · rw [h1] at k1; cases k1
      · rcases hr with ⟨B', off', len, room', sz, cap, k1, _⟩ | ⟨_, A, k2⟩
        · rw [h1] at k1; cases k1
        · subst k2
          exact src_sl (es := []) hw (fun h => absurd rfl h)
    · intro lo ln hr
      simp only [rel] at hr
      rcases hb with ⟨B, off, room, arr, fz, h1, h2, h3⟩ | ⟨h1, rfl⟩
      · rcases hr with ⟨B', off', len, room', sz, cap, A, k1, k2, k3, k4, k5, k6, k7, k8, k9⟩ | ⟨k1, _⟩
        · rw [h1] at k1; injection k1 with k1; injection k1 with a1 a2 a3 a4 a5; subst a1; subst a2; subst a3; subst a4; subst a5
          subst k2
          have hlen : ((es.take (lo + ln).toNat).drop lo.toNat).length = ln.toNat := by simp; omega
          rw [← hlen]
          refine src_sl (wtL_sub _ _ hw) (fun hne => ?_)
          have hpos : 0 < cap := by
            rcases Nat.eq_zero_or_pos cap with h | h
            · exfalso; apply hne; apply List.eq_nil_of_length_eq_zero; rw [hlen]; omega
            · exact h
          obtain rfl := k9 hpos
          have := relE_sub (l := lo.toNat) (h := (lo + ln).toNat) (relE_of_inRow h2 h3)
          rw [add_at0] at this
          exact ⟨_, rfl, this⟩
        · rw [h1] at k1; cases k1
      · rcases hr with ⟨B', off', len, room', sz, cap, A, k1, _⟩ | ⟨_, ⟨A, k2⟩, k3, k4⟩
        · rw [h1] at k1; cases k1
        · subst k2
          have : (([] : List V).take (lo + ln).toNat).drop lo.toNat = [] := by simp
          rw [this]
          exact src_sl (es := []) hw (fun h => absurd rfl h)
  unfold srcL at h
  split at h
  · injection h with h; subst h
    simp only [rel] at hr; subst hr
    exact src_sl (es := []) (by simp [wtL]) (fun h => absurd rfl h)
  · injection h with h; subst h
    simp only [okSrc, Bool.and_eq_true, beq_iff_eq] at hk
    simp only [rel] at hr; subst hr
    have : eu.size = 1 := by have := hk.2; simpa [sizeT, he] using this
    rw [this]
    exact src_str hk.1
  · injection h with h; subst h
    simp only [okSrc, Bool.and_eq_true, beq_iff_eq] at hk
    simp only [rel] at hr
    obtain ⟨rfl, _⟩ := hr
    have : eu.size = 1 := by have := hk.2; simpa [sizeT, he] using this
    rw [this]
    exact src_str hk.1
  · split at h
    · rename_i et es heq
      injection h with h; subst h
      cases v with
      | sl u' es' =>
        simp only [Ab.exp, expS] at heq
        injection heq with h1 h2
        subst h1; subst h2
        simp only [okSrc, srcT, beq_iff_eq] at hk
        subst hk
        simp only [rel] at hr
        obtain ⟨A, cap, rfl, k2, k3, k4, k5⟩ := hr
        refine src_sl k4 (fun hne => ?_)
        obtain ⟨ad, e, k6, k7, _, _, k8⟩ := k5 hne
        rw [he] at k7; injection k7 with k7; subst k7
        exact ⟨ad, k6, k8⟩
      | row n =>
        simp only [Ab.exp, expS] at heq
        split at heq
        · rename_i et' es' hl
          injection heq with h1 h2
          subst h1; subst h2
          simp only [okSrc, srcT, hl, beq_iff_eq] at hk
          exact (hrow (row_form hh hl) hk).1 hr
        · rename_i et' es' hl
          injection heq with h1 h2
          subst h1; subst h2
          simp only [okSrc, srcT, hl, beq_iff_eq] at hk
          exact (hrow (ro_form hh hl) hk).1 hr
        · cases heq
      | rowp n lo ln =>
        simp only [Ab.exp, expS] at heq
        split at heq
        · rename_i et' es' hl
          injection heq with h1 h2
          subst h1; subst h2
          simp only [okSrc, srcT, hl, beq_iff_eq] at hk
          exact (hrow (row_form hh hl) hk).2 lo ln hr
        · rename_i et' es' hl
          injection heq with h1 h2
          subst h1; subst h2
          simp only [okSrc, srcT, hl, beq_iff_eq] at hk
          exact (hrow (ro_form hh hl) hk).2 lo ln hr
        · cases heq
      | agg cs => simp only [Ab.exp] at heq; cases heq
      | fn f fs cs =>
        simp only [Ab.exp, expS] at heq
        split at heq <;> cases heq
      | _ => simp only [Ab.exp, expS] at heq; cases heq
    · cases h
end
end Go.Ab
end
section
namespace Go.Ab
open Go.RowKit
section
variable {P : Program} {T : Tr} {w0 : Base} {φ φ' : Nat → Option Loc} {w w' : World} {S S' : Nat → Prop} {v : V} {x : Value} {hp : Hp} {b0 : Nat → Prop}
theorem run_app_none {A : Option Addr} {t ty e : TypeId} {i : TypeInfo} (ht : P.underlying t = some (.slice e)) (hi : P.info? e = some i) {x : Value} (hlen : ∀ w1, (Builtin.lenOf x).run P w1 = .ok 0 w1) (hf : (Builtin.firstCells i.size 0 x).run P w = .ok #[] w) :
    (Builtin.append_ #[t, t] ty #[.slice A 0 0, x]).run P w = .ok (.slice A 0 0) w := by
  cases A <;> simp [Builtin.append_, run_underlying ht, sizeOf, typeInfo, hi, hlen, hf, storeCells]
theorem run_app_room {t ty e : TypeId} {i : TypeInfo} (ht : P.underlying t = some (.slice e)) (hi : P.info? e = some i) {x : Value} {m g sLen sCap : Nat} {news : List Value} {cur : Array Value} (hlen : ∀ w1, (Builtin.lenOf x).run P w1 = .ok m w1)
    (hf : (Builtin.firstCells i.size m x).run P w = .ok news.toArray w) (hg : w.heap[g]? = some (.cells cur e (0, 0))) (h1 : ∀ u ∈ news, u.oneCell' = true) (hroom : sLen + m ≤ sCap) (hfit : sLen * i.size + news.length ≤ cur.size) :
    (Builtin.append_ #[t, t] ty #[.slice (some ⟨g, 0, none⟩) sLen sCap, x]).run P w = .ok (.slice (some ⟨g, 0, none⟩) (sLen + m) sCap) (w.setRow g (cur.toList.take (sLen * i.size) ++ news ++ cur.toList.drop (sLen * i.size + news.length)).toArray) := by
  have hst := run_storeCells_at P g (sLen * i.size) e news 0 cur w hg (by simpa using hfit) h1
  simp only [Nat.add_zero] at hst
  simp [Builtin.append_, run_underlying ht, sizeOf, typeInfo, hi, hlen, hroom, hf, add_at0, hst]
theorem run_app_grow {t ty e : TypeId} {i : TypeInfo} {z : Value} (ht : P.underlying t = some (.slice e)) (hi : P.info? e = some i) (hz : i.zero = some z) {x : Value} {m sLen sCap : Nat} {base : Option Addr} {olds news : List Value} (hlen : ∀ w1, (Builtin.lenOf x).run P w1 = .ok m w1)
    (ho : (Builtin.firstCells i.size sLen (.slice base sLen sCap)).run P w.drew = .ok olds.toArray w.drew) (hf : (Builtin.firstCells i.size m x).run P w.drew = .ok news.toArray w.drew)
    (hg : sCap < sLen + m) (h63 : ((sLen + m : Nat) : Int) ≤ 9223372036854775807) (hfit : Builtin.nextslicecap (sLen + m) sCap * i.bytes ≤ 281474976710656) :
    (Builtin.append_ #[t, t] ty #[.slice base sLen sCap, x]).run P w = .ok (.slice (some ⟨w.heap.size, 0, none⟩) (sLen + m) (grownCap w (sLen + m) sCap e))
        (w.drew.alloc (.cells (olds ++ news ++ (Builtin.zeroCells z.cells (grownCap w (sLen + m) sCap e - (sLen + m))).toList).toArray e)) := by
  have hn : ¬ (sLen + m ≤ sCap) := by omega
  have h63' : ¬ (9223372036854775807 < ((sLen : Int) + (m : Int))) := by omega
  have h48' : ¬ (281474976710656 < Builtin.nextslicecap (sLen + m) sCap * i.bytes) := by omega
  simp [Builtin.append_, run_underlying ht, sizeOf, typeInfo, zeroValue, hi, hz, hlen, hn, h63', h48', Question.forced, hf, ho, newRow, grownCap]
  congr 2
  apply Array.ext'
  simp
theorem inRow_app {sz : Nat} {es xs : List V} {arr : Array Value} {news : List Value} {rest : List Value} (h : inRow T φ w S arr 0 sz es) (hl : es.length * sz ≤ arr.size) (hn : inRow T φ w S news.toArray 0 sz xs) (hnl : news.length = xs.length * sz) :
    inRow T φ w S (arr.toList.take (es.length * sz) ++ news ++ rest).toArray 0 sz (es ++ xs) := by
  intro k e hk
  rw [List.getElem?_append] at hk
  split at hk
  · rename_i hlt
    obtain ⟨y, y1, y2, y3, y4⟩ := h k e hk
    refine ⟨y, y1, y2, y3, fun j u hu => ?_⟩
    have hj : j < sz := by have := (Array.getElem?_eq_some_iff.1 hu).1; omega
    have hle : (k + 1) * sz ≤ es.length * sz := Nat.mul_le_mul_right _ hlt
    rw [Nat.add_mul, Nat.one_mul] at hle
    have := y4 j u hu
    simp only [Nat.zero_add, List.getElem?_toArray] at this ⊢
    rw [List.append_assoc, List.getElem?_append, if_pos (by simp; omega), List.getElem?_take, if_pos (by omega)]
    simpa using this
  · rename_i hlt
    obtain ⟨y, y1, y2, y3, y4⟩ := hn (k - es.length) e hk
    refine ⟨y, y1, y2, y3, fun j u hu => ?_⟩
    have hj : j < sz := by have := (Array.getElem?_eq_some_iff.1 hu).1; omega
    have hkx : k - es.length < xs.length := (List.getElem?_eq_some_iff.1 hk).1
    have hle : (k - es.length + 1) * sz ≤ xs.length * sz := Nat.mul_le_mul_right _ hkx
    rw [Nat.add_mul, Nat.one_mul] at hle
    have := y4 j u hu
    simp only [Nat.zero_add, List.getElem?_toArray] at this ⊢
    have hks : k * sz = es.length * sz + (k - es.length) * sz := by rw [← Nat.add_mul]; congr 1; omega
    have htk : (arr.toList.take (es.length * sz)).length = es.length * sz := by simp; omega
    rw [List.append_assoc, List.getElem?_append, if_neg (by rw [htk]; omega), List.getElem?_append, htk, if_pos (by omega)]
    rwa [show k * sz + j - es.length * sz = (k - es.length) * sz + j from by omega]
theorem wtL_app {u : Nat} {es xs : List V} (h : wtL T u es) (k : wtL T u xs) : wtL T u (es ++ xs) :=
  wtL_iff.2 fun e he => by
    rcases List.mem_append.1 he with he | he
    · exact wtL_iff.1 h e he
    · exact wtL_iff.1 k e he
theorem newRow_left {m u : Nat} {eu : TE} {es : List V} {arr : Array Value} {cap : Nat} {w1 : World} (hs : Since w0 w1) (hh : HOk T φ w0.Z w1 S hp) (hw1 : ∀ k, S k → w1.heap[k]? = w.heap[k]?) (hm : look hp m = none) (he : T.look u = some eu) (hz : 0 < eu.size) (hwt : wtL T u es)
    (hsz : arr.size = cap * eu.size) (hle : es.length ≤ cap) (hc : cap ≤ maxLen) (hrow : inRow T φ w1 S arr 0 eu.size es) :
    Left T w0 φ S hp w (.row m) [(m, .row u es)] (.slice (some ⟨w1.heap.size, 0, none⟩) es.length cap) (w1.alloc (.cells arr u)) := by
  have hφ : φ m = none := (hh.dom m).2 hm
  have hkeep : ∀ k, S k → (w1.alloc (.cells arr u)).heap[k]? = w1.heap[k]? := fun k hk => Below.heap_alloc w1 _ k (hh.old k hk)
  refine ⟨upd φ m (.rw w1.heap.size 0 es.length arr.size eu.size), S, ⟨upd_le hφ, SLe.refl, fun k hk => (hkeep k hk).trans (hw1 k hk), hs.alloc _, hh.new hm rfl hs.fresh ?_⟩, ?_⟩
  · refine ⟨hwt, eu, he, hz, .inl ⟨w1.heap.size, 0, arr.size, arr, upd_self, heap_alloc_new w1 _, rfl, rfl, ?_, inRow_mono (upd_le hφ) hkeep (fun _ h => h) hrow⟩⟩
    rw [hsz]
    have := Nat.mul_le_mul_right eu.size hle
    omega
  · simp only [rel]
    exact .inl ⟨w1.heap.size, 0, es.length, arr.size, eu.size, cap, upd_self, rfl, hle, hc, by omega⟩
theorem nilRow_left {A : Option Addr} {m u : Nat} {eu : TE} (hs : Since w0 w) (hh : HOk T φ w0.Z w S hp) (hm : look hp m = none) (he : T.look u = some eu) (hz : 0 < eu.size) :
    Left T w0 φ S hp w (.row m) [(m, .row u [])] (.slice A 0 0) w := by
  have hφ : φ m = none := (hh.dom m).2 hm
  refine ⟨upd φ m .nilrow, S, ⟨upd_le hφ, SLe.refl, fun _ _ => rfl, hs, ?_⟩, ?_⟩
  · refine hh.cons (upd_le hφ) (fun k hk => upd_ne hk) (by rw [upd_self]; simp) (fun _ _ => rfl) (fun _ h => h) (fun k c l B hk hc hc2 hl hB => ⟨rfl, (hh.own k c l B hc hc2 hl hB).2.2⟩) (Nat.le_refl _) ?_ (fun _ l B hl hB => ?_) hh.old
    · exact ⟨by simp [wtL], eu, he, hz, .inr ⟨upd_self, rfl⟩⟩
    · rw [upd_self] at hl; injection hl with hl; subst hl; cases hB
  · simp only [rel]; exact .inr ⟨upd_self, _, rfl⟩
theorem Left.after {E1 E2 : Hp} {φ1 : Nat → Option Loc} {S1 : Nat → Prop} {w1 w2 : World} (h : Ext T w0 φ S hp w φ1 S1 E1 w1) (k : Left T w0 φ1 S1 (E1 ++ hp) w1 v E2 x w2) : Left T w0 φ S hp w v (E2 ++ E1) x w2 := by
  obtain ⟨φ2, S2, k1, k2⟩ := k
  exact ⟨φ2, S2, h.trans k1, k2⟩
theorem gone_ext {n : Nat} {b : Blk} (hs : Since w0 w) (hh : HOk T φ w0.Z w S hp) (hl : look hp n = some b) : Ext T w0 φ S hp w φ S [(n, .gone)] w :=
  ⟨LocLe.refl _, SLe.refl, fun _ _ => rfl, hs, hh.drop hl rfl trivial⟩
theorem appCore (hs : Since w0 w) (hh : HOk T φ w0.Z w S hp) {t t2 ty u' m : Nat} {eu' : TE} {vs : V} {ys yx : Value} {v : V} {E : Hp} {xs : List V} {news : List Value} (heu : T.look u' = some eu') (hpos' : 0 < eu'.size) (hzok : zok eu' = true) (hmn : look hp m = none)
    (xwt : wtL T u' xs) (xnl : news.length = xs.length * eu'.size) (xone : ∀ q ∈ news, q.oneCell' = true) (xrow : inRow T φ w S news.toArray 0 eu'.size xs)
    (R0 : ∀ {A : Option Addr}, xs.length = 0 → (Builtin.append_ #[t, t2] ty #[.slice A 0 0, yx]).run P w = .ok (.slice A 0 0) w)
    (R1 : ∀ {g sLen sCap : Nat} {cur : Array Value}, w.heap[g]? = some (.cells cur u' (0, 0)) → sLen + xs.length ≤ sCap → sLen * eu'.size + news.length ≤ cur.size → (Builtin.append_ #[t, t2] ty #[.slice (some ⟨g, 0, none⟩) sLen sCap, yx]).run P w = .ok (.slice (some ⟨g, 0, none⟩) (sLen + xs.length) sCap) (w.setRow g (cur.toList.take (sLen * eu'.size) ++ news ++ cur.toList.drop (sLen * eu'.size + news.length)).toArray))
    (R2 : ∀ {sLen sCap : Nat} {base : Option Addr} {olds : List Value}, (Builtin.firstCells eu'.size sLen (.slice base sLen sCap)).run P w.drew = .ok olds.toArray w.drew → sCap < sLen + xs.length → ((sLen + xs.length : Nat) : Int) ≤ 9223372036854775807 → Builtin.nextslicecap (sLen + xs.length) sCap * eu'.bytes ≤ 281474976710656 →
      (Builtin.append_ #[t, t2] ty #[.slice base sLen sCap, yx]).run P w = .ok (.slice (some ⟨w.heap.size, 0, none⟩) (sLen + xs.length) (grownCap w (sLen + xs.length) sCap u')) (w.drew.alloc (.cells (olds ++ news ++ (Builtin.zeroCells eu'.zero.cells (grownCap w (sLen + xs.length) sCap u' - (sLen + xs.length))).toList).toArray u')))
    (h : Res P T (match vs with
      | .nil => .need ((real P T w0).room ((real P T w0).len xs) eu'.bytes) (.ok (.row m) [(m, .row u' xs)])
      | .row n => match look hp n with
        | some (.row u2 es) => match u' == u2 with
          | true => .need ((real P T w0).room ((real P T w0).len ((real P T w0).app es xs)) eu'.bytes) (.ok (.row m) [(m, .row u' ((real P T w0).app es xs)), (n, .gone)])
          | false => .fail
        | _ => .fail
      | _ => .fail) v E)
    (hrs : rel T φ w S vs ys) : ∃ xv w', (Builtin.append_ #[t, t2] ty #[ys, yx]).run P w = .ok xv w' ∧ Left T w0 φ S hp w v E xv w' := by
  -- the case in which a new block is made
  have grow : ∀ (es : List V) (sCap : Nat) (base : Option Addr) (olds : List Value), wtL T u' es → olds.length = es.length * eu'.size → inRow T φ w S olds.toArray 0 eu'.size es → sCap < es.length + xs.length →
      ((es ++ xs).length ≤ 140737488355328 ∧ (es ++ xs).length * eu'.bytes ≤ 140737488355328) → (Builtin.firstCells eu'.size es.length (.slice base es.length sCap)).run P w.drew = .ok olds.toArray w.drew →
      ∃ xv w', (Builtin.append_ #[t, t2] ty #[.slice base es.length sCap, yx]).run P w = .ok xv w' ∧ Left T w0 φ S hp w (.row m) [(m, .row u' (es ++ xs))] xv w' := by
    intro es sCap base olds hwt hol hor hlt hroom hof
    have hlen2 : (es ++ xs).length = es.length + xs.length := by simp
    rw [hlen2] at hroom
    have hnl : (news.take (xs.length * eu'.size)) = news := by rw [← xnl]; exact List.take_length
    have hrun := R2 hof hlt (by omega) (growslice_fits hlt hroom.2)
    have hge := grownCap_ge w (es.length + xs.length) sCap u'
    have hcm : grownCap w (es.length + xs.length) sCap u' ≤ maxLen := grownCap_le_maxLen w _ sCap u' (by simp only [maxLen]; omega)
    refine ⟨_, _, hrun, ?_⟩
    have hzs : eu'.zero.cells.size = eu'.size := by simpa [zok] using hzok
    have hrow := inRow_app (rest := (Builtin.zeroCells eu'.zero.cells (grownCap w (es.length + xs.length) sCap u' - (es.length + xs.length))).toList) hor (by simp [hol]) xrow xnl
    rw [show (olds.toArray.toList.take (es.length * eu'.size)) = olds from by rw [← hol]; simp] at hrow
    have := newRow_left (w := w) (w1 := w.drew) (m := m) (cap := grownCap w (es.length + xs.length) sCap u') hs.drew hh.drew (fun _ _ => rfl) hmn heu hpos' (wtL_app hwt xwt) (by
      simp only [List.size_toArray, List.length_append, Array.length_toList, size_zeroCells, hol, xnl, hzs, ← Nat.add_mul]
      congr 1
      omega) (by rw [hlen2]; exact hge) hcm (inRow_mono (w := w) (w' := w.drew) (LocLe.refl _) (fun _ _ => rfl) (fun _ h => h) hrow)
    rw [hlen2] at this
    exact this
  have none : ∀ {A : Option Addr}, ((xs.length : Int) ≤ 140737488355328 ∧ (xs.length : Int).toNat * eu'.bytes ≤ 140737488355328) → ∃ xv w', (Builtin.append_ #[t, t2] ty #[.slice A 0 0, yx]).run P w = .ok xv w' ∧ Left T w0 φ S hp w (.row m) [(m, .row u' xs)] xv w' := by
    intro A hroom
    by_cases h0 : xs.length = 0
    · have hxs0 : xs = [] := List.eq_nil_of_length_eq_zero h0
      refine ⟨_, _, R0 h0, ?_⟩
      rw [hxs0]
      exact nilRow_left hs hh hmn heu hpos'
    · have := grow [] 0 A [] (by simp [wtL]) (by simp) (fun k e hk => by simp at hk) (by simp; omega) ⟨by simp; omega, by simpa using hroom.2⟩ (by cases A <;> simp [Builtin.firstCells, loadCells, loadCellsFrom])
      simpa using this
  split at h
  · -- nil
    obtain ⟨hroom, h⟩ := res_need h
    obtain ⟨rfl, rfl⟩ := res_ok h
    simp only [rel] at hrs
    subst hrs
    exact none hroom
  · -- a row
    rename_i n
    split at h
    · rename_i u2 es hl
      split at h
      · rename_i hu
        obtain rfl : u' = u2 := by simpa using hu
        obtain ⟨hroom, h⟩ := res_need h
        obtain ⟨rfl, rfl⟩ := res_ok h
        obtain ⟨hwt, e', he', hz', hb⟩ := hh.blk _ _ hl
        rw [heu] at he'; injection he' with he'; subst he'
        have hmn2 : m ≠ n := fun e => by subst e; rw [hl] at hmn; cases hmn
        have hmn' : look ((n, Blk.gone) :: hp) m = Option.none := by rw [look_cons, if_neg (fun e => hmn2 e.symm)]; exact hmn
        simp only [rel] at hrs
        rcases hb with ⟨B, off, room, arr, h1, h2, h3, h4, h5, h6⟩ | ⟨h1, h2⟩
        · rcases hrs with ⟨B', off', len', room', sz', cap, k1, k2, k3, k4, k5⟩ | ⟨k1, _⟩
          · rw [h1] at k1; injection k1 with k1; injection k1 with a1 a2 a3 a4 a5; subst a1; subst a2; subst a3; subst a4; subst a5
            subst h3; subst k2
            simp only [real, List.length_append] at hroom
            have hroom2 : (es.length + xs.length) * eu'.bytes ≤ 140737488355328 := by
              have := hroom.2
              rwa [show ((es.length + xs.length : Nat) : Int).toNat = es.length + xs.length from by omega] at this
            by_cases hfit : es.length + xs.length ≤ cap
            · -- in place
              have hnl : (news.take (xs.length * eu'.size)) = news := by rw [← xnl]; exact List.take_length
              have hfc : es.length * eu'.size + news.length ≤ arr.size := by
                rw [xnl, ← Nat.add_mul, h4, ← k5, Nat.zero_add]; exact Nat.mul_le_mul_right _ hfit
              have hrun := R1 h2 hfit hfc
              refine ⟨_, _, hrun, Left.after (E2 := [(m, .row u' (es ++ xs))]) (gone_ext hs hh hl) ?_⟩
              have hh1 : HOk T φ w0.Z w S ((n, .gone) :: hp) := hh.drop hl rfl trivial
              obtain ⟨o1, o2, o3⟩ := hh.own n _ _ B hl rfl h1 rfl
              have hφm : φ m = Option.none := (hh.dom m).2 hmn
              have hkeep : ∀ k, S k → (w.setRow B (arr.toList.take (es.length * eu'.size) ++ news ++ arr.toList.drop (es.length * eu'.size + news.length)).toArray).heap[k]? = w.heap[k]? := fun k hk => setRow_other w B k _ (fun e => o3 (e ▸ hk))
              refine ⟨upd φ m (.rw B 0 (es ++ xs).length room eu'.size), S, ⟨upd_le hφm, SLe.refl, hkeep, hs.setRow o1 _, ?_⟩, ?_⟩
              · refine hh1.cons (upd_le hφm) (fun k hk => upd_ne hk) (by rw [upd_self]; simp) hkeep (fun _ h => h) (fun k c l B' hk hc hc2 hl2 hB => ?_) (by simp) ?_ (fun _ l B' hl2 hB => ?_) (fun k hk => by simp; exact hh.old k hk)
                · rw [look_cons] at hc
                  by_cases en : n = k
                  · rw [if_pos en] at hc; injection hc with hc; subst hc; cases hc2
                  · rw [if_neg en] at hc
                    exact ⟨setRow_other w B B' _ (fun e => en (by subst e; exact hh.inj n k _ c _ l B' hl hc rfl hc2 h1 hl2 rfl hB)), (hh.own k c l B' hc hc2 hl2 hB).2.2⟩
                · refine ⟨wtL_app hwt xwt, eu', heu, hpos', .inl ⟨B, 0, room, _, upd_self, setRow_heap w B arr _ u' (0, 0) h2, rfl, ?_, ?_, ?_⟩⟩
                  · simp; omega
                  · simp only [List.length_append]; rw [Nat.zero_add, ← k5, Nat.zero_add]; exact Nat.mul_le_mul_right _ hfit
                  · exact inRow_mono (upd_le hφm) hkeep (fun _ h => h) (inRow_app h6 (by omega) xrow xnl)
                · rw [upd_self] at hl2; injection hl2 with hl2; subst hl2; injection hB with hB; subst hB
                  refine ⟨o1, by simp; exact o2, o3, fun k c l hk hc hc2 hl2 hB => ?_⟩
                  rw [look_cons] at hc
                  by_cases en : n = k
                  · rw [if_pos en] at hc; injection hc with hc; subst hc; cases hc2
                  · rw [if_neg en] at hc
                    exact en (hh.inj n k _ c _ l B hl hc rfl hc2 h1 hl2 rfl hB)
              · simp only [rel]
                exact .inl ⟨B, 0, (es ++ xs).length, room, eu'.size, cap, upd_self, by simp, by simp; exact hfit, k4, k5⟩
            · -- a new block
              have hol : (arr.toList.take (es.length * eu'.size)).length = es.length * eu'.size := by simp; omega
              have hor : inRow T φ w S (arr.toList.take (es.length * eu'.size)).toArray 0 eu'.size es := by
                intro k e hk
                obtain ⟨y, y1, y2, y3, y4⟩ := h6 k e hk
                refine ⟨y, y1, y2, y3, fun j q hq => ?_⟩
                have hj : j < eu'.size := by have := (Array.getElem?_eq_some_iff.1 hq).1; omega
                have hkx := (List.getElem?_eq_some_iff.1 hk).1
                have hle : (k + 1) * eu'.size ≤ es.length * eu'.size := Nat.mul_le_mul_right _ hkx
                rw [Nat.add_mul, Nat.one_mul] at hle
                have := y4 j q hq
                simp only [Nat.zero_add, List.getElem?_toArray] at this ⊢
                rw [List.getElem?_take, if_pos (by omega)]
                simpa using this
              have := grow es cap (some ⟨B, 0, Option.none⟩) (arr.toList.take (es.length * eu'.size)) hwt hol hor (by omega) (by simp only [List.length_append]; exact ⟨by omega, hroom2⟩)
                (run_firstCells_some (P := P) w.drew eu'.size es.length ⟨B, 0, Option.none⟩ es.length cap _ hol (fun j q hq => by
                  rw [List.getElem?_take] at hq
                  split at hq
                  · rw [add_at0, cell_of_row w.drew B _ arr u' (0, 0) h2, Nat.zero_add]; simpa using hq
                  · cases hq))
              obtain ⟨xv, w', hrun, φ', S', hE, hr⟩ := this
              refine ⟨xv, w', hrun, φ', S', ⟨hE.loc, hE.sle, hE.keep, hE.since, ?_⟩, hr⟩
              -- the old row goes
              have hl' : look ([(m, Blk.row u' (es ++ xs))] ++ hp) n = some (.row u' es) := by
                show look ((m, Blk.row u' (es ++ xs)) :: hp) n = _
                rw [look_cons, if_neg hmn2]; exact hl
              have hd1 := hE.heap.drop hl' (b' := .gone) rfl trivial
              refine hd1.perm (fun k => ?_)
              show look ((n, Blk.gone) :: (m, Blk.row u' (es ++ xs)) :: hp) k = look ((m, Blk.row u' (es ++ xs)) :: (n, Blk.gone) :: hp) k
              simp only [look_cons]
              by_cases e1 : n = k
              · by_cases e2 : m = k
                · exact absurd (e2.trans e1.symm) hmn2
                · rw [if_pos e1, if_neg e2, if_pos e1]
              · rw [if_neg e1, if_neg e1]
          · rw [h1] at k1; cases k1
        · rcases hrs with ⟨B', off', len', room', sz', cap, k1, _⟩ | ⟨_, A, k2⟩
          · rw [h1] at k1; cases k1
          · subst h2; subst k2
            simp only [real, List.nil_append] at hroom
            obtain ⟨xv, w', hrun, φ', S', hE, hr⟩ := none hroom
            refine ⟨xv, w', hrun, φ', S', ⟨hE.loc, hE.sle, hE.keep, hE.since, ?_⟩, hr⟩
            have hl' : look ([(m, Blk.row u' xs)] ++ hp) n = some (.row u' []) := by
              show look ((m, Blk.row u' xs) :: hp) n = _
              rw [look_cons, if_neg hmn2]; exact hl
            have hd1 := hE.heap.drop hl' (b' := .gone) rfl trivial
            refine hd1.perm (fun k => ?_)
            show look ((n, Blk.gone) :: (m, Blk.row u' xs) :: hp) k = look ((m, Blk.row u' ((real P T w0).app [] xs)) :: (n, Blk.gone) :: hp) k
            simp only [look_cons, real, List.nil_append]
            by_cases e1 : n = k
            · by_cases e2 : m = k
              · exact absurd (e2.trans e1.symm) hmn2
              · rw [if_pos e1, if_neg e2, if_pos e1]
            · rw [if_neg e1, if_neg e1]
      · exact (res_fail h).elim
    · exact (res_fail h).elim
  · exact (res_fail h).elim
theorem appF_ok (htok : TyOk P T) (hs : Since w0 w) (hh : HOk T φ w0.Z w S hp) {t ty : Nat} {vs vx : V} {ys yx : Value} {dm : Option Nat} {v : V} {E : Hp} (hm : ∀ m, dm = some m → look hp m = none) (h : Res P T (appF (real P T w0) T hp t vs vx dm) v E)
    (hrs : rel T φ w S vs ys) (hrx : rel T φ w S vx yx) : ∃ xv w', (Builtin.append_ #[t, t] ty #[ys, yx]).run P w = .ok xv w' ∧ Left T w0 φ S hp w v E xv w' := by
  unfold appF at h
  split at h
  · rename_i u eu m xs hel hxs
    have hmn := hm m rfl
    unfold elemT at hel
    split at hel
    · rename_i et het
      split at hel
      · rename_i u' hd
        split at hel
        · rename_i eu' heu
          injection hel with hel
          injection hel with e1 e2
          subst e1; subst e2
          have ht := htok.und _ _ het
          rw [hd] at ht
          obtain ⟨i, hi, hsz, hby, hzz⟩ := htok.info _ _ heu
          split at h
          · rename_i hok
            rw [Bool.and_eq_true, Bool.and_eq_true] at hok
            obtain ⟨⟨hok, hzok⟩, hpos⟩ := hok
            have hpos' : 0 < eu'.size := by simp [Nat.blt] at hpos; omega
            obtain ⟨news, hsrc⟩ := src_ok htok hh heu hxs hok hrx
            have hlen := hsrc.len
            exact appCore hs hh heu hpos' hzok hmn hsrc.wt hsrc.nl hsrc.one hsrc.row
              (fun h0 => run_app_none (ty := ty) ht hi (fun w1 => by rw [hlen w1, h0]) (by rw [hsz, hsrc.first w 0 rfl (Nat.zero_le _)]; simp))
              (fun hg hfit hfc => by
                have hnf := hsrc.first w xs.length rfl (Nat.le_refl _)
                rw [show news.take (xs.length * eu'.size) = news from by rw [← hsrc.nl]; exact List.take_length] at hnf
                have hrun := run_app_room (ty := ty) ht hi hlen (by rw [hsz]; exact hnf) hg hsrc.one hfit (by rw [hsz]; exact hfc)
                rw [hsz] at hrun
                exact hrun)
              (fun hof hlt h63 hfit => by
                have hnf := hsrc.first w.drew xs.length rfl (Nat.le_refl _)
                rw [show news.take (xs.length * eu'.size) = news from by rw [← hsrc.nl]; exact List.take_length] at hnf
                exact run_app_grow (ty := ty) ht hi hzz hlen (by rw [hsz]; exact hof) (by rw [hsz]; exact hnf) hlt h63 (by rw [hby]; exact hfit)) h hrs
          · exact (res_fail h).elim
        · cases hel
      · cases hel
    · cases hel
  · exact (res_fail h).elim
end
end Go.Ab
end
section
namespace Go.Ab
open Go.RowKit
section
variable {P : Program} {T : Tr} {w0 : Base} {φ φ' : Nat → Option Loc} {w w' : World} {S S' : Nat → Prop} {v : V} {x : Value} {hp : Hp} {b0 : Nat → Prop}
theorem run_copy {t t' ty e : TypeId} {i : TypeInfo} (ht : P.underlying t = some (.slice e)) (hi : P.info? e = some i) {x : Value} {m n : Nat} {g off dLen dCap : Nat} {news : List Value} {cur : Array Value} (hlen : ∀ w1, (Builtin.lenOf x).run P w1 = .ok m w1)
    (hn : n = Nat.min m dLen) (hf : (Builtin.firstCells i.size n x).run P w = .ok news.toArray w) (hg : w.heap[g]? = some (.cells cur e (0, 0))) (h1 : ∀ u ∈ news, u.oneCell' = true) (hfit : off + news.length ≤ cur.size) :
    (Builtin.copy_ #[t, t'] ty #[.slice (some ⟨g, off, none⟩) dLen dCap, x]).run P w = .ok (.int .i64 n) (w.setRow g (cur.toList.take off ++ news ++ cur.toList.drop (off + news.length)).toArray) := by
  have hst := run_storeCells_at P g off e news 0 cur w hg (by simpa using hfit) h1
  simp only [Nat.add_zero] at hst
  subst hn
  simp [Builtin.copy_, run_underlying ht, sizeOf, typeInfo, hi, hlen, hf, hst, goInt]
theorem run_copy_nil {A : Option Addr} {t t' ty e : TypeId} {i : TypeInfo} (ht : P.underlying t = some (.slice e)) (hi : P.info? e = some i) {x : Value} {m : Nat} (hlen : ∀ w1, (Builtin.lenOf x).run P w1 = .ok m w1) (hf : (Builtin.firstCells i.size 0 x).run P w = .ok #[] w) :
    (Builtin.copy_ #[t, t'] ty #[.slice A 0 0, x]).run P w = .ok (.int .i64 0) w := by
  cases A <;> simp [Builtin.copy_, run_underlying ht, sizeOf, typeInfo, hi, hlen, hf, goInt, storeCells]
theorem inRow_over {sz lo n : Nat} {es xs : List V} {arr : Array Value} {news : List Value} (h : inRow T φ w S arr 0 sz es) (hl : es.length * sz ≤ arr.size) (hn : inRow T φ w S news.toArray 0 sz xs) (hnl : news.length = xs.length * sz) (hle : lo + xs.length ≤ es.length) :
    inRow T φ w S (arr.toList.take (lo * sz) ++ news ++ arr.toList.drop (lo * sz + news.length)).toArray 0 sz (es.take lo ++ xs ++ es.drop (lo + xs.length)) := by
  have hfit : lo * sz + news.length ≤ arr.toList.length := by
    rw [hnl, ← Nat.add_mul, Array.length_toList]
    exact Nat.le_trans (Nat.mul_le_mul_right _ hle) hl
  intro k e hk
  rw [splice_get _ _ _ hle] at hk
  have old : es[k]? = some e → (k < lo ∨ lo + xs.length ≤ k) → ∃ y, rel T φ w S e y ∧ y.cells.size = sz ∧ (∀ u ∈ y.cells.toList, u.oneCell' = true) ∧ ∀ j u, y.cells[j]? = some u → (arr.toList.take (lo * sz) ++ news ++ arr.toList.drop (lo * sz + news.length)).toArray[0 + k * sz + j]? = some u := by
    intro hk hpos
    obtain ⟨y, y1, y2, y3, y4⟩ := h k e hk
    refine ⟨y, y1, y2, y3, fun j u hu => ?_⟩
    have hj : j < sz := by have := (Array.getElem?_eq_some_iff.1 hu).1; omega
    have := y4 j u hu
    simp only [Nat.zero_add, List.getElem?_toArray] at this ⊢
    rw [splice_get _ _ _ hfit]
    rcases hpos with hpos | hpos
    · have : (k + 1) * sz ≤ lo * sz := Nat.mul_le_mul_right _ hpos
      rw [Nat.add_mul, Nat.one_mul] at this
      rw [if_pos (by omega)]
      simpa using y4 j u hu
    · have : (lo + xs.length) * sz ≤ k * sz := Nat.mul_le_mul_right _ hpos
      rw [Nat.add_mul] at this
      rw [if_neg (by omega), if_neg (by omega)]
      simpa using y4 j u hu
  by_cases k1 : k < lo
  · rw [if_pos k1] at hk; exact old hk (.inl k1)
  · rw [if_neg k1] at hk
    by_cases k2 : k < lo + xs.length
    · rw [if_pos k2] at hk
      obtain ⟨y, y1, y2, y3, y4⟩ := hn (k - lo) e hk
      refine ⟨y, y1, y2, y3, fun j u hu => ?_⟩
      have hj : j < sz := by have := (Array.getElem?_eq_some_iff.1 hu).1; omega
      have := y4 j u hu
      simp only [Nat.zero_add, List.getElem?_toArray] at this ⊢
      have e1 : k * sz = lo * sz + (k - lo) * sz := by rw [← Nat.add_mul]; congr 1; omega
      have e2 : (k - lo + 1) * sz ≤ xs.length * sz := Nat.mul_le_mul_right _ (by omega)
      rw [Nat.add_mul, Nat.one_mul] at e2
      rw [splice_get _ _ _ hfit, if_neg (by omega), if_pos (by omega)]
      rwa [show k * sz + j - lo * sz = (k - lo) * sz + j from by omega]
    · rw [if_neg k2] at hk; exact old hk (.inr (by omega))
theorem Src.take {u sz m : Nat} {xs : List V} {news : List Value} (h : Src P T φ w S u sz xs x news) (hm : m ≤ xs.length) : inRow T φ w S (news.take (m * sz)).toArray 0 sz (xs.take m) ∧ (news.take (m * sz)).length = (xs.take m).length * sz ∧ wtL T u (xs.take m) := by
  refine ⟨fun k e hk => ?_, ?_, ?_⟩
  · rw [List.getElem?_take] at hk
    split at hk
    · rename_i hkm
      obtain ⟨y, y1, y2, y3, y4⟩ := h.row k e hk
      refine ⟨y, y1, y2, y3, fun j q hq => ?_⟩
      have hj : j < sz := by have := (Array.getElem?_eq_some_iff.1 hq).1; omega
      have := y4 j q hq
      simp only [Nat.zero_add, List.getElem?_toArray] at this ⊢
      have e2 : (k + 1) * sz ≤ m * sz := Nat.mul_le_mul_right _ hkm
      rw [Nat.add_mul, Nat.one_mul] at e2
      rw [List.getElem?_take, if_pos (by omega)]
      exact this
    · cases hk
  · rw [List.length_take, h.nl, List.length_take, Nat.min_eq_left hm, Nat.min_eq_left (Nat.mul_le_mul_right _ hm)]
  · exact wtL_iff.2 fun e he => wtL_iff.1 h.wt e (List.mem_of_mem_take he)
theorem elemT_of {t : Nat} {u : Nat} {eu : TE} (h : elemT T t = some (u, eu)) : ∃ e, T.look t = some e ∧ e.desc = .slice u ∧ T.look u = some eu := by
  unfold elemT at h
  split at h
  · rename_i e he
    split at h
    · rename_i u' hd
      split at h
      · rename_i eu' heu
        injection h with h; injection h with h1 h2; subst h1; subst h2
        exact ⟨e, he, hd, heu⟩
      · cases h
    · cases h
  · cases h
theorem copyF_ok (htok : TyOk P T) (hs : Since w0 w) (hh : HOk T φ w0.Z w S hp) {t t' ty : Nat} {vd vx : V} {yd yx : Value} {v : V} {E : Hp} (h : Res P T (copyF (real P T w0) T hp t vd vx) v E)
    (hrd : rel T φ w S vd yd) (hrx : rel T φ w S vx yx) : ∃ xv w', (Builtin.copy_ #[t, t'] ty #[yd, yx]).run P w = .ok xv w' ∧ Left T w0 φ S hp w v E xv w' := by
  unfold copyF at h
  split at h
  · rename_i u eu xs hel hxs
    obtain ⟨et, het, hd, heu⟩ := elemT_of hel
    have ht := htok.und _ _ het
    rw [hd] at ht
    obtain ⟨i, hi, hsz, hby, hzz⟩ := htok.info _ _ heu
    split at h
    · rename_i hok
      obtain ⟨news, hsrc⟩ := src_ok htok hh heu hxs hok hrx
      have nilcase : ∀ {A : Option Addr}, yd = .slice A 0 0 → (Builtin.copy_ #[t, t'] ty #[yd, yx]).run P w = .ok (.int .i64 0) w := by
        intro A e
        subst e
        exact run_copy_nil ht hi hsrc.len (by rw [hsz, hsrc.first w 0 rfl (Nat.zero_le _)]; simp)
      -- the row is written
      have main : ∀ (n : Nat) (es : List V) (lo dl cap B room : Nat) (arr : Array Value), look hp n = some (.row u es) → φ n = some (.rw B 0 es.length room eu.size) → w.heap[B]? = some (.cells arr u (0, 0)) → arr.size = room → es.length * eu.size ≤ room → inRow T φ w S arr 0 eu.size es → wtL T u es → 0 < eu.size → lo + dl ≤ es.length →
          yd = .slice (some ⟨B, lo * eu.size, none⟩) dl cap →
          ∃ w', (Builtin.copy_ #[t, t'] ty #[yd, yx]).run P w = .ok (.int .i64 (Nat.min xs.length dl)) w' ∧ LeftS T w0 φ S hp w [(n, .row u (es.take lo ++ xs.take (Nat.min xs.length dl) ++ es.drop (lo + (xs.take (Nat.min xs.length dl)).length)))] w' := by
        intro n es lo dl cap B room arr hl hφ hB hroom hfit hrow hwt hpos hlo hyd
        have hmin : Nat.min xs.length dl ≤ xs.length := Nat.min_le_left _ _
        have hmin2 : Nat.min xs.length dl ≤ dl := Nat.min_le_right _ _
        obtain ⟨s1, s2, s3⟩ := hsrc.take hmin
        have hxl : (xs.take (Nat.min xs.length dl)).length = Nat.min xs.length dl := by rw [List.length_take]; exact Nat.min_eq_left hmin
        have hlo2 : lo + (xs.take (Nat.min xs.length dl)).length ≤ es.length := by rw [hxl]; omega
        have hfc : lo * eu.size + (news.take (Nat.min xs.length dl * eu.size)).length ≤ arr.size := by
          rw [s2, ← Nat.add_mul, hroom]
          exact Nat.le_trans (Nat.mul_le_mul_right _ hlo2) hfit
        subst hyd
        have hrun := run_copy (t' := t') (ty := ty) (n := Nat.min xs.length dl) (off := lo * eu.size) (dLen := dl) (dCap := cap) ht hi hsrc.len rfl (by rw [hsz]; exact hsrc.first w _ rfl hmin) hB (fun q hq => hsrc.one q (List.mem_of_mem_take hq)) hfc
        have o3 := (hh.own n _ _ B hl rfl hφ rfl).2.2
        have hkeep : ∀ k, S k → (w.setRow B (arr.toList.take (lo * eu.size) ++ news.take (Nat.min xs.length dl * eu.size) ++ arr.toList.drop (lo * eu.size + (news.take (Nat.min xs.length dl * eu.size)).length)).toArray).heap[k]? = w.heap[k]? := fun k hk => setRow_other w B k _ (fun e => o3 (e ▸ hk))
        have hlen : (es.take lo ++ xs.take (Nat.min xs.length dl) ++ es.drop (lo + (xs.take (Nat.min xs.length dl)).length)).length = es.length := by
          simp only [List.length_append, List.length_take, List.length_drop] at hlo2 ⊢
          omega
        refine ⟨_, hrun, φ, S, Ext.write hs hh hl rfl rfl hφ rfl ⟨?_, eu, heu, hpos, .inl ⟨B, 0, room, _, by rw [hlen]; exact hφ, setRow_heap w B arr _ u (0, 0) hB, rfl, ?_, by rw [hlen, Nat.zero_add]; exact hfit, ?_⟩⟩⟩
        · refine wtL_iff.2 (fun e he => ?_)
          simp only [List.mem_append] at he
          rcases he with (he | he) | he
          · exact wtL_iff.1 hwt e (List.mem_of_mem_take he)
          · exact wtL_iff.1 s3 e he
          · exact wtL_iff.1 hwt e (List.mem_of_mem_drop he)
        · simp only [List.size_toArray, List.length_append, List.length_take, List.length_drop, Array.length_toList] at hfc ⊢
          omega
        · exact inRow_mono (LocLe.refl _) hkeep (fun _ h => h) (inRow_over (n := 0) hrow (by omega) s1 s2 hlo2)
      split at h
      · -- nil
        obtain ⟨rfl, rfl⟩ := res_ok h
        simp only [rel] at hrd
        exact ⟨_, w, nilcase hrd, φ, S, Ext.refl hs hh, rel_si _ _⟩
      · rename_i n
        split at h
        · rename_i u2 es hl
          split at h
          · rename_i hu
            obtain rfl : u = u2 := by simpa using hu
            obtain ⟨rfl, rfl⟩ := res_ok h
            obtain ⟨hwt, e', he', hz', hb⟩ := hh.blk _ _ hl
            rw [heu] at he'; injection he' with he'; subst he'
            simp only [rel] at hrd
            rcases hb with ⟨B, off, room, arr, h1, h2, h3, h4, h5, h6⟩ | ⟨h1, h2⟩
            · rcases hrd with ⟨B', off', len', room', sz', cap, k1, k2, k3, k4, k5⟩ | ⟨k1, _⟩
              · rw [h1] at k1; injection k1 with k1; injection k1 with a1 a2 a3 a4 a5; subst a1; subst a2; subst a3; subst a4; subst a5
                subst h3
                obtain ⟨w', hrun, hL⟩ := main n es 0 es.length cap B room arr hl h1 h2 h4 (by omega) h6 hwt hz' (by omega) (by rw [k2]; simp)
                refine ⟨_, w', hrun, ?_⟩
                obtain ⟨φ', S', hE⟩ := hL
                refine ⟨φ', S', ?_, ?_⟩
                · have : (real P T w0).ovl es 0 xs = es.take 0 ++ xs.take (Nat.min xs.length es.length) ++ es.drop (0 + (xs.take (Nat.min xs.length es.length)).length) := by
                    simp only [real, ovlReal, Int.toNat_zero, Nat.sub_zero]
                    have : xs.take es.length = xs.take (Nat.min xs.length es.length) := by
                      rcases Nat.le_total xs.length es.length with h | h
                      · rw [show Nat.min xs.length es.length = xs.length from Nat.min_eq_left h, List.take_length, List.take_of_length_le h]
                      · rw [show Nat.min xs.length es.length = es.length from Nat.min_eq_right h]
                    rw [this]
                  rw [this]; exact hE
                · simp only [rel, real]
                  congr 1
                  have : (Nat.min xs.length es.length : Nat) = if (es.length : Int) < xs.length then es.length else xs.length := by
                    rcases Nat.lt_or_ge es.length xs.length with h | h
                    · rw [if_pos (by omega)]; exact Nat.min_eq_right (by omega)
                    · rw [if_neg (by omega)]; exact Nat.min_eq_left h
                  rw [this]
                  split <;> rfl
              · rw [h1] at k1; cases k1
            · rcases hrd with ⟨B', off', len', room', sz', cap, k1, _⟩ | ⟨_, _, k2⟩
              · rw [h1] at k1; cases k1
              · subst h2
                refine ⟨_, w, nilcase k2, φ, S, ?_, ?_⟩
                · have hh2 : HOk T φ w0.Z w S ((n, .row u []) :: hp) := hh.perm (fun k => by
                    rw [look_cons]
                    split
                    · rename_i e; subst e; exact hl
                    · rfl)
                  have : (real P T w0).ovl [] 0 xs = [] := by simp [real, ovlReal]
                  rw [this]
                  exact ⟨LocLe.refl _, SLe.refl, fun _ _ => rfl, hs, hh2⟩
                · simp only [rel, real, List.length_nil]
                  congr 1
                  split
                  · rfl
                  · omega
          · exact (res_fail h).elim
        · exact (res_fail h).elim
      · rename_i n lo ln
        split at h
        · rename_i u2 es hl
          split at h
          · rename_i hu
            obtain rfl : u = u2 := by simpa using hu
            obtain ⟨rfl, rfl⟩ := res_ok h
            obtain ⟨hwt, e', he', hz', hb⟩ := hh.blk _ _ hl
            rw [heu] at he'; injection he' with he'; subst he'
            simp only [rel] at hrd
            -- the number that is copied
            have hmn : ∀ (dl : Nat), ln = dl → ((real P T w0).mn ((real P T w0).len xs) ln) = ((Nat.min xs.length dl : Nat) : Int) := by
              intro dl hdl
              subst hdl
              simp only [real]
              rcases Nat.lt_or_ge dl xs.length with h | h
              · rw [if_pos (by omega), show Nat.min xs.length dl = dl from Nat.min_eq_right (by omega)]
              · rw [if_neg (by omega), show Nat.min xs.length dl = xs.length from Nat.min_eq_left h]
            rcases hb with ⟨B, off, room, arr, h1, h2, h3, h4, h5, h6⟩ | ⟨h1, h2⟩
            · rcases hrd with ⟨B', off', len', room', sz', cap, A, k1, k2, k3, k4, k5, k6, k7, k8, k9⟩ | ⟨k1, _⟩
              · rw [h1] at k1; injection k1 with k1; injection k1 with a1 a2 a3 a4 a5; subst a1; subst a2; subst a3; subst a4; subst a5
                subst h3
                have hln : ln = (ln.toNat : Int) := by omega
                have hovl : (real P T w0).ovl es lo ((real P T w0).sub xs 0 ((real P T w0).mn ((real P T w0).len xs) ln)) = es.take lo.toNat ++ xs.take (Nat.min xs.length ln.toNat) ++ es.drop (lo.toNat + (xs.take (Nat.min xs.length ln.toNat)).length) := by
                  rw [hmn ln.toNat hln]
                  simp only [real, ovlReal, Int.toNat_natCast, Int.toNat_zero, List.drop_zero]
                  have hle : (xs.take (Nat.min xs.length ln.toNat)).length ≤ es.length - lo.toNat := by
                    have hq : Nat.min xs.length ln.toNat ≤ ln.toNat := Nat.min_le_right _ _
                    have hq2 : Nat.min xs.length ln.toNat ≤ xs.length := Nat.min_le_left _ _
                    rw [List.length_take, Nat.min_eq_left hq2]
                    omega
                  rw [List.take_of_length_le hle]
                rw [hovl, hmn ln.toNat hln]
                by_cases hcap : 0 < cap
                · obtain rfl := k9 hcap
                  obtain ⟨w', hrun, hL⟩ := main n es lo.toNat ln.toNat cap B room arr hl h1 h2 h4 (by omega) h6 hwt hz' (by omega) (by rw [k2, Nat.zero_add])
                  obtain ⟨φ', S', hE⟩ := hL
                  exact ⟨_, w', hrun, φ', S', hE, by simp only [rel]⟩
                · -- nothing is copied
                  have hl0 : ln.toNat = 0 := by omega
                  rw [hl0]
                  rw [hl0] at k2
                  have hm0 : Nat.min xs.length 0 = 0 := Nat.min_eq_right (Nat.zero_le _)
                  rw [hm0]
                  refine ⟨.int .i64 0, w, ?_, φ, S, ?_, by simp [rel]⟩
                  · subst k2
                    have hf := hsrc.first w 0 rfl (Nat.zero_le _)
                    simp [Builtin.copy_, run_underlying ht, sizeOf, typeInfo, hi, hsrc.len, hsz, hm0, hf, goInt, storeCells]
                  · have : es.take lo.toNat ++ xs.take 0 ++ es.drop (lo.toNat + (xs.take 0).length) = es := by simp
                    rw [this]
                    have hh2 : HOk T φ w0.Z w S ((n, .row u es) :: hp) := hh.perm (fun k => by
                    rw [look_cons]
                    split
                    · rename_i e; subst e; exact hl
                    · rfl)
                    exact ⟨LocLe.refl _, SLe.refl, fun _ _ => rfl, hs, hh2⟩
              · rw [h1] at k1; cases k1
            · rcases hrd with ⟨B', off', len', room', sz', cap, A, k1, _⟩ | ⟨_, ⟨_, k2⟩, k3, k4⟩
              · rw [h1] at k1; cases k1
              · subst h2; subst k3; subst k4
                refine ⟨_, w, nilcase k2, φ, S, ?_, ?_⟩
                · have hh2 : HOk T φ w0.Z w S ((n, .row u []) :: hp) := hh.perm (fun k => by
                    rw [look_cons]
                    split
                    · rename_i e; subst e; exact hl
                    · rfl)
                  have : (real P T w0).ovl [] 0 ((real P T w0).sub xs 0 ((real P T w0).mn ((real P T w0).len xs) 0)) = [] := by simp [real, ovlReal]
                  rw [this]
                  exact ⟨LocLe.refl _, SLe.refl, fun _ _ => rfl, hs, hh2⟩
                · simp only [rel, real]
                  congr 1
                  split
                  · rfl
                  · omega
          · exact (res_fail h).elim
        · exact (res_fail h).elim
      · exact (res_fail h).elim
    · exact (res_fail h).elim
  · exact (res_fail h).elim
end
end Go.Ab
end
