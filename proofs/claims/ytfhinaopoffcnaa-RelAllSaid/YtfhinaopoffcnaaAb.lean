/- The abstract machine: values as trees, an evaluator with fuel, its limit. No world, no tape, no order of its own. -/
import GoSem.Core.View
namespace Go.Ab

/-- What right a slice bears on the room behind its end: none; there is no room; its own, by a token. -/
inductive Tok where
  | non | rig | own (t e : Nat)
  deriving DecidableEq

/-- Values. 'sl', 'ptr': what they lead to stands in them (never written again). 'mp', 'ms', 'mm': into a block of the heap. -/
inductive AV where
  | undef
  | b (x : Bool) | i (k : IntKind) (n : Int) | s (x : ByteArray)
  | nilp | nilf | nili
  | agg (cs : List AV) | tup (cs : List AV)
  | sl (cs : List AV) (n : Nat) (t : Tok)
  | ptr (cs : List AV)
  | mp (id off : Nat)
  | ms (id off n : Nat)
  | fn (f : Nat) (fst caps : List AV)
  | ifc (t : Nat) (v : AV)
  | mm (id : Nat)
  deriving Inhabited

inductive Blk where
  | cells (cs : List AV) (ro : Bool)
  | map (es : List (AV × AV))
  | tok (live : Bool)

abbrev Env := Nat → AV
structure G where
  hp : Nat → Option Blk
  nx : Nat

def upd {α : Type} (e : Nat → α) (d : Nat) (v : α) : Nat → α := fun k => if k = d then v else e k
def put (e : Env) (d : Option Nat) (v : AV) : Env := match d with | some d => upd e d v | none => e

inductive Opd where
  | t (n : Nat)
  | c (v : AV)
def Opd.ev (e : Env) : Opd → AV
  | .t n => e n
  | .c v => v
def evo (e : Env) : Option Opd → Option AV
  | none => none
  | some x => some (x.ev e)

/-- How a call is made: 'pure': on frozen arguments, nothing is locked; 'lock': the same, what is handed over is locked; 'thaw': what comes back is the caller's own; 'raw': in the caller's heap. -/
inductive Mode where
  | pure | lock | thaw | raw

inductive AOp where
  | mv (x : Opd)
  | pick (c a b : Opd)
  | new (zero : List AV)
  | box (x : Opd)
  | boxI (x : Opd)
  | build (zero : List AV) (parts : List (Nat × Nat × Opd))
  | bsl (imm : Bool) (n : Nat) (zero : List AV) (parts : List (Nat × Nat × Opd))
  | ld (agg : Option Nat) (x : Opd)
  | st (n : Nat) (a x : Opd)
  | stL (n : Nat) (a x : Opd)
  | nilck (x : Opd)
  | bin (op : BinOp) (x y : Opd)
  | eqb (neg : Bool) (x y : Opd)
  | eqn (neg : Bool) (x y : Opd)
  | eqa (neg : Bool) (ks : List Nat) (x y : Opd)
  | un (op : UnOp) (x : Opd)
  | conv (k : IntKind) (x : Opd)
  | mkfn (f : Nat) (fst caps : List Opd)
  | mkmap
  | mput (m k v : Opd)
  | mget (m k : Opd)
  | mksl (zero : List AV) (esz : Nat) (bytes : Nat) (len cap : Opd)
  | slice (esz : Nat) (x : Opd) (lo hi mx : Option Opd)
  | fa (off : Nat) (x : Opd)
  | fld (off : Nat) (agg : Option Nat) (x : Opd)
  | ia (esz : Nat) (x i : Opd)
  | iaa (len esz : Nat) (x i : Opd)
  | idx (len esz : Nat) (agg : Option Nat) (x i : Opd)
  | sidx (x i : Opd)
  | ext (i : Nat) (x : Opd)
  | len (x : Opd)
  | slen (x : Opd)
  | sslice (x : Opd) (lo hi : Option Opd)
  | mx (x y : Opd)
  | mn (x y : Opd)
  | app (esz bytes : Nat) (x y : Opd)
  | call (m : Mode) (f : Opd) (args : List Opd)

structure AOper where
  dst : Option Nat
  op : AOp
  grd : Option (Nat × Bool) := none
  pre : List Nat := []

inductive ACode where
  | skip
  | reg (draw : Bool) (ops : List AOper)
  | seq (a b : ACode)
  | cond (c : Opd) (t f : ACode)
  | blk (id : Nat) (c : ACode)
  | loop (c : ACode)
  | ext (id : Nat)
  | ret

inductive ARes where
  | t (n : Nat)
  | cell (n : Nat) (agg : Option Nat)
structure AFun where
  res : List ARes
  body : ACode

inductive Out where
  | nrm | ext (n : Nat) | ret

abbrev CS := Nat → List AV → G → Option (AV × G)

/-! ### whole numbers, comparisons -/
def ibin (op : BinOp) (k : IntKind) (x y : Int) : Option AV :=
  match op with
  | .add => some (.i k (k.wrap (x + y)))
  | .sub => some (.i k (k.wrap (x - y)))
  | .mul => some (.i k (k.wrap (x * y)))
  | .quo => if y = 0 then none else some (.i k (k.wrap (x.tdiv y)))
  | .rem => if y = 0 then none else some (.i k (x.tmod y))
  | .and => some (.i k (k.wrap ((BitVec.ofInt k.bits x &&& BitVec.ofInt k.bits y).toNat : Nat)))
  | .or => some (.i k (k.wrap ((BitVec.ofInt k.bits x ||| BitVec.ofInt k.bits y).toNat : Nat)))
  | .xor => some (.i k (k.wrap ((BitVec.ofInt k.bits x ^^^ BitVec.ofInt k.bits y).toNat : Nat)))
  | .andNot => some (.i k (k.wrap ((BitVec.ofInt k.bits x &&& ~~~ BitVec.ofInt k.bits y).toNat : Nat)))
  | .eql => some (.b (x == y))
  | .neq => some (.b (x != y))
  | .lss => some (.b (decide (x < y)))
  | .leq => some (.b (decide (x ≤ y)))
  | .gtr => some (.b (decide (x > y)))
  | .geq => some (.b (decide (x ≥ y)))
  | _ => none
def ishift (op : BinOp) (k : IntKind) (x y : Int) : Option AV :=
  if y < 0 then none else
  match op with
  | .shl => some (.i k (k.wrap (x * 2 ^ (min y.toNat k.bits))))
  | .shr => some (.i k (x.fdiv (2 ^ (min y.toNat k.bits))))
  | _ => none
/-- Are two cells alike, of a kind (0: whole numbers, 1: bools, 2: strings)? -/
def cellEq : Nat → AV → AV → Option Bool
  | 0, .i j x, .i k y => if j = k then some (x == y) else none
  | 1, .b x, .b y => some (x == y)
  | 2, .s x, .s y => some (x.toList == y.toList)
  | _, _, _ => none
def cellsEq : List Nat → List AV → List AV → Option Bool
  | [], [], [] => some true
  | k :: ks, x :: xs, y :: ys => match cellEq k x y, cellsEq ks xs ys with
    | some a, some b => some (a && b)
    | _, _ => none
  | _, _, _ => none
/-- Against nil: a pointer, a function. -/
def aeqn : AV → AV → Option Bool
  | .nilp, .nilp => some true
  | .nilp, .ptr _ | .ptr _, .nilp => some false
  | .nilp, .mp _ _ | .mp _ _, .nilp => some false
  | _, _ => none
def aeqb : AV → AV → Option Bool
  | .b x, .b y => some (x == y)
  | _, _ => none
def aeqa (ks : List Nat) : AV → AV → Option Bool
  | .agg xs, .agg ys => cellsEq ks xs ys
  | _, _ => none
def negb (neg : Bool) : Option Bool → Option AV
  | some x => some (.b (if neg then !x else x))
  | none => none
def sbin (op : BinOp) (x y : ByteArray) : Option AV :=
  match op with
  | .add => if ((x.size + y.size : Nat) : Int) > IntKind.i64.max then none else some (.s (x ++ y))
  | .eql => some (.b (x.toList == y.toList))
  | .neq => some (.b (!(x.toList == y.toList)))
  | _ => none
def abin (op : BinOp) (x y : AV) : Option AV :=
  match op, x, y with
  | .shl, .i k a, .i _ b => ishift .shl k a b
  | .shr, .i k a, .i _ b => ishift .shr k a b
  | _, .i k a, .i k' b => if k = k' then ibin op k a b else none
  | _, .s a, .s b => sbin op a b
  | _, _, _ => none
def aun (op : UnOp) (x : AV) : Option AV :=
  match op, x with
  | .neg, .i k n => ibin .sub k 0 n
  | .xor, .i k n => ibin .xor k (if k.signed then -1 else k.max) n
  | .not, .b x => some (.b !x)
  | _, _ => none

/-! ### rows -/
def cellsOf : AV → List AV
  | .agg cs => cs
  | v => [v]
/-- May a value lie in a cell? -/
def one : AV → Bool
  | .agg _ | .tup _ | .undef => false
  | _ => true
def part (cs : List AV) (off : Nat) : Option Nat → Option AV
  | none => cs[off]?
  | some n => if off + n ≤ cs.length then some (.agg ((cs.drop off).take n)) else none
def splice (cs : List AV) (off : Nat) (vs : List AV) : List AV :=
  match vs with
  | [v] => cs.set off v
  | _ => cs.take off ++ vs ++ cs.drop (off + vs.length)
def fill (e : Env) (cs : List AV) : List (Nat × Nat × Opd) → Option (List AV)
  | [] => some cs
  | (off, n, x) :: ps =>
    if (cellsOf (x.ev e)).length = n ∧ off + n ≤ cs.length ∧ (cellsOf (x.ev e)).all one then fill e (splice cs off (cellsOf (x.ev e))) ps else none

/-! ### what leads into the heap is laid out -/
def Tok.drop : Tok → Tok
  | _ => .non
mutual
/-- The value without ids and tokens. -/
def frz (hp : Nat → Option Blk) : Nat → AV → Option AV
  | 0, _ => none
  | k + 1, v => match v with
    | .agg cs => (frzL hp k cs).map .agg
    | .tup cs => (frzL hp k cs).map .tup
    | .sl cs n _ => some (.sl cs n .non)
    | .mp id off => match hp id with
      | some (.cells cs _) => (frzL hp k (cs.drop off)).map .ptr
      | _ => none
    | .ms id off n => match hp id with
      | some (.cells cs _) => (frzL hp k (cs.drop off)).map fun cs => .sl cs n .non
      | _ => none
    | .fn f a b => match frzL hp k a, frzL hp k b with
      | some a, some b => some (.fn f a b)
      | _, _ => none
    | .ifc t v => (frz hp k v).map (.ifc t)
    | .mm _ => none
    | v => some v
def frzL (hp : Nat → Option Blk) : Nat → List AV → Option (List AV)
  | _, [] => some []
  | k, c :: cs => match frz hp k c, frzL hp k cs with
    | some c, some cs => some (c :: cs)
    | _, _ => none
end
/-- Which blocks are met on the way. -/
def vis (hp : Nat → Option Blk) : Nat → AV → List Nat
  | 0, _ => []
  | k + 1, v => match v with
    | .agg cs | .tup cs => cs.flatMap (vis hp k)
    | .mp id off | .ms id off _ => id :: (match hp id with
      | some (.cells cs _) => (cs.drop off).flatMap (vis hp k)
      | _ => [])
    | .fn _ a b => a.flatMap (vis hp k) ++ b.flatMap (vis hp k)
    | .ifc _ v => vis hp k v
    | _ => []
/-- A plain value: nothing in it leads anywhere. -/
def flat : AV → Bool
  | .b _ | .i _ _ | .s _ | .nilp | .nilf | .nili => true
  | _ => false
def depth : Nat := 9
def lock (hp : Nat → Option Blk) (ids : List Nat) : Nat → Option Blk := fun id =>
  if ids.contains id then (match hp id with | some (.cells cs _) => some (.cells cs true) | o => o) else hp id

def mlook (es : List (AV × AV)) (k : ByteArray) : Option AV :=
  match es with
  | [] => none
  | (.s x, v) :: es => if k == x then some v else mlook es k
  | _ :: _ => none

def lim64 : Int := 9223372036854775807

def rd (g : G) (al : Nat → Bool) (id : Nat) : Option Blk := if al id then g.hp id else none

/-! ### one operation, on what its operands are -/
def vMap (g : G) : Option AV → Option (AV × G)
  | some v => some (v, g)
  | none => none
def vMapL (f : List AV → AV) (g : G) : Option (List AV) → Option (AV × G)
  | some v => some (f v, g)
  | none => none
def vPick (c a b : AV) (g : G) : Option (AV × G) := match c with
  | .b t => some (if t then a else b, g)
  | _ => none
def vBox (id : Nat) (v : AV) (g : G) : Option (AV × G) :=
  if (cellsOf v).all one then some (.mp id 0, ⟨upd g.hp id (some (.cells (cellsOf v) false)), g.nx⟩) else none
def vBoxI (v : AV) (g : G) : Option (AV × G) :=
  if (cellsOf v).all one then vMapL .ptr g (frzL (fun _ => none) depth (cellsOf v)) else none
def vBsl (id : Nat) (imm : Bool) (n : Nat) (cs : Option (List AV)) (g : G) : Option (AV × G) := match cs with
  | none => none
  | some cs =>
    if imm then vMapL (fun cs => .sl cs n .rig) g (frzL (fun _ => none) depth cs)
    else some (.ms id 0 n, ⟨upd g.hp id (some (.cells cs false)), g.nx⟩)
def vLd (al : Nat → Bool) (agg : Option Nat) (x : AV) (g : G) : Option (AV × G) := match x with
  | .ptr cs => vMap g (part cs 0 agg)
  | .mp b off => match rd g al b with
    | some (.cells cs _) => vMap g (part cs off agg)
    | _ => none
  | _ => none
def vSt (al : Nat → Bool) (n : Nat) (a x : AV) (g : G) : Option (AV × G) := match a with
  | .mp b off => match rd g al b with
    | some (.cells cs false) =>
      if (cellsOf x).length = n ∧ off + n ≤ cs.length ∧ (cellsOf x).all one then
        some (.undef, ⟨upd g.hp b (some (.cells (splice cs off (cellsOf x)) false)), g.nx⟩)
      else none
    | _ => none
  | _ => none
def vNil (x : AV) (g : G) : Option (AV × G) := match x with
  | .ptr cs => some (.ptr cs, g)
  | .mp b off => some (.mp b off, g)
  | .fn f a c => some (.fn f a c, g)
  | _ => none
def vConv (k : IntKind) (x : AV) (g : G) : Option (AV × G) := match x with
  | .i _ n => some (.i k (k.wrap n), g)
  | _ => none
def vMput (al : Nat → Bool) (m k v : AV) (g : G) : Option (AV × G) := match m, k with
  | .mm b, .s k => match rd g al b with
    | some (.map es) => match mlook es k with
      | none => if one v then some (.undef, ⟨upd g.hp b (some (.map (es ++ [(.s k, v)]))), g.nx⟩) else none
      | some _ => none
    | _ => none
  | _, _ => none
def vMget (al : Nat → Bool) (m k : AV) (g : G) : Option (AV × G) := match m, k with
  | .mm b, .s k => match rd g al b with
    | some (.map es) => vMap g (mlook es k)
    | _ => none
  | _, _ => none
def vMksl (id : Nat) (zero : List AV) (esz bytes : Nat) (len cap : AV) (g : G) : Option (AV × G) := match len, cap with
  | .i .i64 n, .i .i64 c =>
    if 0 ≤ n ∧ n ≤ c ∧ c ≤ lim64 ∧ (bytes : Int) * c ≤ 2 ^ 47 then
      if n = 0 then some (.sl [] 0 (.own id esz), ⟨upd g.hp id (some (.tok true)), g.nx⟩)
      else if n = c ∧ zero.length = esz then some (.ms id 0 n.toNat, ⟨upd g.hp id (some (.cells ((List.replicate n.toNat zero).flatten) false)), g.nx⟩)
      else none
    else none
  | _, _ => none
def bnd (dflt : Nat) : Option AV → Option Int
  | none => some (dflt : Int)
  | some (.i _ z) => some z
  | _ => none
def vSlice (esz : Nat) (x : AV) (lo hi mx : Option AV) (g : G) : Option (AV × G) := match x with
  | .sl cs n t => match bnd 0 lo, bnd n hi, mx with
    | some lo, some hi, none => if 0 ≤ lo ∧ lo ≤ hi ∧ hi ≤ n then some (.sl ((cs.drop (lo.toNat * esz)).take ((hi.toNat - lo.toNat) * esz)) (hi.toNat - lo.toNat) (if t = .rig ∧ hi = n then .rig else .non), g) else none
    | some lo, some hi, some (.i _ m) => if 0 ≤ lo ∧ lo ≤ hi ∧ hi = m ∧ hi ≤ n then some (.sl ((cs.drop (lo.toNat * esz)).take ((hi.toNat - lo.toNat) * esz)) (hi.toNat - lo.toNat) .rig, g) else none
    | _, _, _ => none
  | _ => none
def vSslice (x : AV) (lo hi : Option AV) (g : G) : Option (AV × G) := match x with
  | .s s => match bnd 0 lo, bnd s.size hi with
    | some lo, some hi => if 0 ≤ lo ∧ lo ≤ hi ∧ hi ≤ s.size then some (.s (s.extract lo.toNat hi.toNat), g) else none
    | _, _ => none
  | _ => none
def vFa (off : Nat) (x : AV) (g : G) : Option (AV × G) := match x with
  | .ptr cs => if off < cs.length then some (.ptr (cs.drop off), g) else none
  | .mp b o => some (.mp b (o + off), g)
  | _ => none
def vFld (off : Nat) (agg : Option Nat) (x : AV) (g : G) : Option (AV × G) := match x with
  | .agg cs => vMap g (part cs off agg)
  | _ => none
def vIa (esz : Nat) (x i : AV) (g : G) : Option (AV × G) := match x, i with
  | .sl cs n _, .i _ z => if 0 ≤ z ∧ z < n then some (.ptr (cs.drop (z.toNat * esz)), g) else none
  | .ms b off n, .i _ z => if 0 ≤ z ∧ z < n then some (.mp b (off + z.toNat * esz), g) else none
  | _, _ => none
def vIaa (len esz : Nat) (x i : AV) (g : G) : Option (AV × G) := match x, i with
  | .ptr cs, .i _ z => if 0 ≤ z ∧ z < len then some (.ptr (cs.drop (z.toNat * esz)), g) else none
  | .mp b off, .i _ z => if 0 ≤ z ∧ z < len then some (.mp b (off + z.toNat * esz), g) else none
  | _, _ => none
def vIdx (len esz : Nat) (agg : Option Nat) (x i : AV) (g : G) : Option (AV × G) := match x, i with
  | .agg cs, .i _ z => if 0 ≤ z ∧ z < len then vMap g (part cs (z.toNat * esz) agg) else none
  | _, _ => none
def vSidx (x i : AV) (g : G) : Option (AV × G) := match x, i with
  | .s s, .i _ z => if h : 0 ≤ z ∧ z.toNat < s.size then some (.i .u8 ((s[z.toNat]'h.2).toNat : Int), g) else none
  | _, _ => none
def vExt (i : Nat) (x : AV) (g : G) : Option (AV × G) := match x with
  | .tup cs => vMap g (cs[i]?)
  | _ => none
def vLen (x : AV) (g : G) : Option (AV × G) := match x with
  | .sl _ n _ => some (.i .i64 n, g)
  | .ms _ _ n => some (.i .i64 n, g)
  | _ => none
def vSlen (x : AV) (g : G) : Option (AV × G) := match x with
  | .s s => some (.i .i64 s.size, g)
  | _ => none
def vMx (x y : AV) (g : G) : Option (AV × G) := match x, y with
  | .i k a, .i _ b => some (.i k (if b > a then b else a), g)
  | _, _ => none
def vMn (x y : AV) (g : G) : Option (AV × G) := match x, y with
  | .i k a, .i _ b => some (.i k (if b < a then b else a), g)
  | _, _ => none
def vSrc (al : Nat → Bool) (esz : Nat) (y : AV) (g : G) : Option (List AV × Nat) := match y with
  | .sl ds m _ => some (ds, m)
  | .ms b off m => match rd g al b with
    | some (.cells ds _) => match frzL (fun _ => none) depth ((ds.drop off).take (m * esz)) with
      | some ds => some (ds, m)
      | none => none
    | _ => none
  | _ => none
def vApp (al : Nat → Bool) (id esz bytes : Nat) (x y : AV) (g : G) : Option (AV × G) := match x with
  | .sl cs n t => match vSrc al esz y g with
    | none => none
    | some (ds, m) =>
      if (n + m) * bytes ≤ 2 ^ 46 ∧ n + m ≤ 2 ^ 62 ∧ cs.length = n * esz ∧ ds.length = m * esz then
        match t with
        | .non => none
        | .rig => if m = 0 then some (.sl cs n .rig, g) else some (.sl (cs ++ ds) (n + m) (.own id esz), ⟨upd g.hp id (some (.tok true)), g.nx⟩)
        | .own tk e => match rd g al tk with
          | some (.tok true) => if e = esz then some (.sl (cs ++ ds) (n + m) (.own id esz), ⟨upd (upd g.hp tk (some (.tok false))) id (some (.tok true)), g.nx⟩) else none
          | _ => none
      else none
  | _ => none

section
variable (call : CS)
def vCall (al : Nat → Bool) (id : Nat) (m : Mode) (f : AV) (args : List AV) (g : G) : Option (AV × G) := match f with
  | .fn fid fst caps => match m with
    | .raw => call fid (fst ++ args ++ caps) g
    | .pure => match frzL (rd g al) depth (fst ++ args ++ caps) with
      | none => none
      | some bs => match call fid bs ⟨fun _ => none, 0⟩ with
        | none => none
        | some (v, g') => match frz g'.hp depth v with
          | none => none
          | some v => if flat v || ((fst ++ args ++ caps).flatMap (vis (rd g al) depth)).isEmpty then some (v, g) else none
    | .lock => match frzL (rd g al) depth (fst ++ args ++ caps) with
      | none => none
      | some bs => match call fid bs ⟨fun _ => none, 0⟩ with
        | none => none
        | some (v, g') => match frz g'.hp depth v with
          | none => none
          | some v => some (v, ⟨lock g.hp ((fst ++ args ++ caps).flatMap (vis (rd g al) depth)), g.nx⟩)
    | .thaw => match frzL (rd g al) depth (fst ++ args ++ caps) with
      | none => none
      | some bs => match call fid bs ⟨fun _ => none, 0⟩ with
        | some (.mp b 0, g') => match g'.hp b with
          | some (.cells cs false) => match frzL g'.hp depth cs with
            | some cs' =>
              if ((fst ++ args ++ caps).flatMap (vis (rd g al) depth)).isEmpty && !(cs.flatMap (vis g'.hp depth)).contains b then some (.mp id 0, ⟨upd g.hp id (some (.cells cs' false)), g.nx⟩) else none
            | none => none
          | _ => none
        | _ => none
  | _ => none

def opE (al : Nat → Bool) (lo : Nat) (id : Nat) (op : AOp) (e : Env) (g : G) : Option (AV × G) :=
  match op with
  | .mv x => some (x.ev e, g)
  | .pick c a b => vPick (c.ev e) (a.ev e) (b.ev e) g
  | .new zero => some (.mp id 0, ⟨upd g.hp id (some (.cells zero false)), g.nx⟩)
  | .box x => vBox id (x.ev e) g
  | .boxI x => vBoxI (x.ev e) g
  | .build zero parts => vMapL .agg g (fill e zero parts)
  | .bsl imm n zero parts => vBsl id imm n (fill e zero parts) g
  | .ld agg x => vLd al agg (x.ev e) g
  | .st n a x => vSt al n (a.ev e) (x.ev e) g
  | .stL n a x => vSt (fun i => decide (lo ≤ i) && al i) n (a.ev e) (x.ev e) g
  | .nilck x => vNil (x.ev e) g
  | .bin op x y => vMap g (abin op (x.ev e) (y.ev e))
  | .eqb neg x y => vMap g (negb neg (aeqb (x.ev e) (y.ev e)))
  | .eqn neg x y => vMap g (negb neg (aeqn (x.ev e) (y.ev e)))
  | .eqa neg ks x y => vMap g (negb neg (aeqa ks (x.ev e) (y.ev e)))
  | .un op x => vMap g (aun op (x.ev e))
  | .conv k x => vConv k (x.ev e) g
  | .mkfn f fst caps => some (.fn f (fst.map (·.ev e)) (caps.map (·.ev e)), g)
  | .mkmap => some (.mm id, ⟨upd g.hp id (some (.map [])), g.nx⟩)
  | .mput m k v => vMput al (m.ev e) (k.ev e) (v.ev e) g
  | .mget m k => vMget al (m.ev e) (k.ev e) g
  | .mksl zero esz bytes len cap => vMksl id zero esz bytes (len.ev e) (cap.ev e) g
  | .slice esz x lo hi mx => vSlice esz (x.ev e) (evo e lo) (evo e hi) (evo e mx) g
  | .fa off x => vFa off (x.ev e) g
  | .fld off agg x => vFld off agg (x.ev e) g
  | .ia esz x i => vIa esz (x.ev e) (i.ev e) g
  | .iaa len esz x i => vIaa len esz (x.ev e) (i.ev e) g
  | .idx len esz agg x i => vIdx len esz agg (x.ev e) (i.ev e) g
  | .sidx x i => vSidx (x.ev e) (i.ev e) g
  | .ext i x => vExt i (x.ev e) g
  | .len x => vLen (x.ev e) g
  | .slen x => vSlen (x.ev e) g
  | .sslice x lo hi => vSslice (x.ev e) (evo e lo) (evo e hi) g
  | .mx x y => vMx (x.ev e) (y.ev e) g
  | .mn x y => vMn (x.ev e) (y.ev e) g
  | .app esz bytes x y => vApp al id esz bytes (x.ev e) (y.ev e) g
  | .call m f args => vCall call al id m (f.ev e) (args.map (·.ev e)) g

def wanted (e : Env) : Option (Nat × Bool) → Bool
  | none => true
  | some (t, w) => match e t with
    | .b x => x == w
    | _ => false
def allow (draw : Bool) (base : Nat) (pre : List Nat) : Nat → Bool := fun id =>
  !draw || decide (id < base) || pre.contains (id - base)

def regE (draw : Bool) (base : Nat) : Nat → List AOper → Env → G → Option (Env × G)
  | _, [], e, g => some (e, g)
  | j, o :: os, e, g =>
    if wanted e o.grd then
      match opE call (allow draw base o.pre) base (base + j) o.op e g with
      | some (v, g) => regE draw base (j + 1) os (put e o.dst v) g
      | none => none
    else regE draw base (j + 1) os (put e o.dst .undef) g

def iter (f : Env → G → Option (Out × Env × G)) : Nat → Env → G → Option (Out × Env × G)
  | 0, _, _ => none
  | k + 1, e, g => match f e g with
    | some (.nrm, e, g) => iter f k e g
    | r => r

def codeE (k : Nat) : ACode → Env → G → Option (Out × Env × G)
  | .skip, e, g => some (.nrm, e, g)
  | .reg draw ops, e, g => match regE call draw g.nx 0 ops e { g with nx := g.nx + ops.length } with
    | some (e, g) => some (.nrm, e, g)
    | none => none
  | .seq a b, e, g => match codeE k a e g with
    | some (.nrm, e, g) => codeE k b e g
    | r => r
  | .cond c t f, e, g => match c.ev e with
    | .b x => if x then codeE k t e g else codeE k f e g
    | _ => none
  | .blk id c, e, g => match codeE k c e g with
    | some (.ext n, e, g) => some (if n = id then .nrm else .ext n, e, g)
    | r => r
  | .loop c, e, g => iter (codeE k c) k e g
  | .ext id, e, g => some (.ext id, e, g)
  | .ret, e, g => some (.ret, e, g)
end

def resOne (e : Env) (g : G) : ARes → Option AV
  | .t n => some (e n)
  | .cell n agg => match e n with
    | .mp b off => match g.hp b with
      | some (.cells cs _) => part cs off agg
      | _ => none
    | _ => none
def resAll (e : Env) (g : G) : List ARes → Option (List AV)
  | [] => some []
  | r :: rs => match resOne e g r, resAll e g rs with
    | some v, some vs => some (v :: vs)
    | _, _ => none
def resE (rs : List ARes) (e : Env) (g : G) : Option AV :=
  match resAll e g rs with
  | some [v] => some v
  | some vs => some (.tup vs)
  | none => none
def argEnv (args : List AV) : Env := fun t => args.getD t .undef

abbrev Funs := Nat → Option AFun
def callE (F : Funs) : Nat → CS
  | 0, _, _, _ => none
  | k + 1, f, args, g => match F f with
    | none => none
    | some fn => match codeE (callE F k) k fn.body (argEnv args) g with
      | some (.nrm, e, g) | some (.ret, e, g) => (resE fn.res e g).map (·, g)
      | _ => none

def g0 : G := ⟨fun _ => none, 0⟩
end Go.Ab
