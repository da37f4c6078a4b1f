/- What RulesNumbers rests on, part 1: lemmas, no claim of its own. -/
import GoSem.Core.View
import GoSem.Op.String
import Derived.Below
import Derived.Deep.AppendSrc
import Derived.Orders
import Derived.Laws.Entries
import Derived.Laws.Slices
import Derived.Deep.Upon
import Derived.Laws.StructEq
import Derived.ChangeKeysEq
import Derived.Laws.Pointers
set_option maxRecDepth 100000
set_option maxHeartbeats 16000000
open Nat renaming reduceAdd → qa, reduceMul → qb, reduceSub → qc
section
namespace Go.Ab
inductive Tok where
 | non | rig | own (t e:Nat)
 deriving DecidableEq
inductive AV where
 | undef
 | b (x:Bool) | i (k:IntKind) (n:Int) | s (x:ByteArray)
 | nilp | nilf | nili
 | agg (cs:List AV) | tup (cs:List AV)
 | sl (cs:List AV) (n:Nat) (t:Tok)
 | ptr (cs:List AV)
 | mp (id off:Nat)
 | ms (id off n:Nat)
 | mc (id k esz n:Nat)
 | fn (f:Nat) (fst caps:List AV)
 | ifc (t:Nat) (v:AV)
 | mm (id:Nat)
 deriving Inhabited
inductive Blk where
 | cells (cs:List AV) (ro:Bool)
 | map (es:List (AV × AV))
 | tok (live:Bool)
abbrev Env:=Nat→AV
structure G where
 hp:Nat→Option Blk
 nx:Nat
def upd {α:Type} (e:Nat→α) (d:Nat) (v:α):Nat→α:=fun k => if k = d then v else e k
def put (e:Env) (d:Option Nat) (v:AV):Env:=match d with | some d => upd e d v | none => e
inductive Opd where
 | t (n:Nat)
 | c (v:AV)
def Opd.ev (e:Env):Opd→AV
 | .t n => e n
 | .c v => v
def evo (e:Env):Option Opd→Option AV
 | none => none
 | some x => some (x.ev e)
inductive Mode where
 | pure | lock | thaw | raw | melt | see
inductive AOp where
 | mv (x:Opd)
 | pick (c a b:Opd)
 | new (zero:List AV)
 | box (x:Opd)
 | boxI (x:Opd)
 | build (zero:List AV) (parts:List (Nat × Nat × Opd))
 | bsl (imm:Bool) (n:Nat) (zero:List AV) (parts:List (Nat × Nat × Opd))
 | ld (agg:Option Nat) (x:Opd)
 | ldF (agg:Option Nat) (x:Opd)
 | ldQ (agg:Option Nat) (x:Opd) (t:Nat)
 | st (n:Nat) (a x:Opd)
 | stL (n:Nat) (a x:Opd)
 | stW (n:Nat) (a x:Opd)
 | stN (n:Nat) (a x:Opd) (ts:List Nat)
 | nilck (x:Opd)
 | bin (op:BinOp) (x y:Opd)
 | eqb (neg:Bool) (x y:Opd)
 | eqn (neg:Bool) (x y:Opd)
 | eqs (neg:Bool) (x:Opd)
 | eqa (neg:Bool) (ks:List Nat) (x y:Opd)
 | un (op:UnOp) (x:Opd)
 | conv (k:IntKind) (x:Opd)
 | mkfn (f:Nat) (fst caps:List Opd)
 | mkmap
 | mput (m k v:Opd)
 | mget (m k:Opd)
 | mksl (zero:List AV) (esz:Nat) (bytes:Nat) (len cap:Opd)
 | slice (esz:Nat) (x:Opd) (lo hi mx:Option Opd)
 | fa (off:Nat) (x:Opd)
 | fld (off:Nat) (agg:Option Nat) (x:Opd)
 | ia (esz:Nat) (x i:Opd)
 | iaa (len esz:Nat) (x i:Opd)
 | idx (len esz:Nat) (agg:Option Nat) (x i:Opd)
 | sidx (x i:Opd)
 | ext (i:Nat) (x:Opd)
 | len (x:Opd)
 | slen (x:Opd)
 | sslice (x:Opd) (lo hi:Option Opd)
 | mx (x y:Opd)
 | mn (x y:Opd)
 | app (esz bytes:Nat) (x y:Opd)
 | appM (esz bytes:Nat) (x y:Opd)
 | cutM (esz:Nat) (x hi:Opd)
 | clr (esz:Nat) (zero:List AV) (x:Opd)
 | bad
 | call (m:Mode) (f:Opd) (args:List Opd)
structure AOper where
 dst:Option Nat
 op:AOp
 grd:Option (Nat × Bool):=none
 pre:List Nat:=[]
inductive ACode where
 | skip
 | reg (draw:Bool) (ops:List AOper)
 | seq (a b:ACode)
 | cond (c:Opd) (t f:ACode)
 | blk (id:Nat) (c:ACode)
 | lck (t:Nat) (c:ACode)
 | lckS (t:Nat) (c:ACode)
 | imm (t:Nat) (c:ACode)
 | tmp (c:ACode)
 | scp (c:ACode)
 | lab
 | loop (c:ACode)
 | ext (id:Nat)
 | ret
 | prim (n:Nat) (h:List AV→(Nat→Option Blk)→Option (AV × Option (Nat × List AV)))
inductive ARes where
 | t (n:Nat)
 | cell (n:Nat) (agg:Option Nat)
structure AFun where
 res:List ARes
 body:ACode
inductive Out where
 | nrm | ext (n:Nat) | ret
abbrev CS:=Nat→List AV→G→Option (AV × G)
def ibin (op:BinOp) (k:IntKind) (x y:Int):Option AV:=
 match op with
 | .add => some (.i k (k.wrap (x + y)))
 | .sub => some (.i k (k.wrap (x - y)))
 | .mul => some (.i k (k.wrap (x * y)))
 | .quo => if y = 0 then none else some (.i k (k.wrap (x.tdiv y)))
 | .rem => if y = 0 then none else some (.i k (x.tmod y))
 | .and => some (.i k (k.wrap ((BitVec.ofInt k.bits x &&& BitVec.ofInt k.bits y).toNat:Nat)))
 | .or => some (.i k (k.wrap ((BitVec.ofInt k.bits x ||| BitVec.ofInt k.bits y).toNat:Nat)))
 | .xor => some (.i k (k.wrap ((BitVec.ofInt k.bits x ^^^ BitVec.ofInt k.bits y).toNat:Nat)))
 | .andNot => some (.i k (k.wrap ((BitVec.ofInt k.bits x &&& ~~~ BitVec.ofInt k.bits y).toNat:Nat)))
 | .eql => some (.b (x == y))
 | .neq => some (.b (x != y))
 | .lss => some (.b (decide (x < y)))
 | .leq => some (.b (decide (x≤y)))
 | .gtr => some (.b (decide (x > y)))
 | .geq => some (.b (decide (x ≥ y)))
 | _ => none
def ishift (op:BinOp) (k:IntKind) (x y:Int):Option AV:=
 if y < 0 then none else
 match op with
 | .shl => some (.i k (k.wrap (x * 2 ^ (min y.toNat k.bits))))
 | .shr => some (.i k (x.fdiv (2 ^ (min y.toNat k.bits))))
 | _ => none
def cellEq:Nat→AV→AV→Option Bool
 | 0,.i j x,.i k y => if j = k then some (x == y) else none
 | 1,.b x,.b y => some (x == y)
 | 2,.s x,.s y => some (x.toList == y.toList)
 | _,_,_ => none
def cellsEq:List Nat→List AV→List AV→Option Bool
 | [],[],[] => some true
 | k :: ks,x :: xs,y :: ys => match cellEq k x y,cellsEq ks xs ys with
   | some a,some b => some (a && b)
   | _,_ => none
 | _,_,_ => none
def aeqn:AV→AV→Option Bool
 | .nilp,.nilp => some true
 | .nilp,.ptr _ | .ptr _,.nilp => some false
 | .nilp,.mp _ _ | .mp _ _,.nilp => some false
 | _,_ => none
def aeqs:AV→Option Bool
 | .sl _ n _ => if 0 < n then some false else none
 | .ms _ _ _ => some false
 | _ => none
def aeqb:AV→AV→Option Bool
 | .b x,.b y => some (x == y)
 | _,_ => none
def aeqa (ks:List Nat):AV→AV→Option Bool
 | .agg xs,.agg ys => cellsEq ks xs ys
 | _,_ => none
def negb (neg:Bool):Option Bool→Option AV
 | some x => some (.b (if neg then !x else x))
 | none => none
def sbin (op:BinOp) (x y:ByteArray):Option AV:=
 match op with
 | .add => if ((x.size + y.size:Nat):Int) > IntKind.i64.max then none else some (.s (x ++ y))
 | .eql => some (.b (x.toList == y.toList))
 | .neq => some (.b (!(x.toList == y.toList)))
 | .lss => some (.b (Go.Op.bytesLess x.toList y.toList))
 | _ => none
def abin (op:BinOp) (x y:AV):Option AV:=
 match op,x,y with
 | .shl,.i k a,.i _ b => ishift .shl k a b
 | .shr,.i k a,.i _ b => ishift .shr k a b
 | _,.i k a,.i k' b => if k = k' then ibin op k a b else none
 | _,.s a,.s b => sbin op a b
 | _,_,_ => none
def aun (op:UnOp) (x:AV):Option AV:=
 match op,x with
 | .neg,.i k n => ibin .sub k 0 n
 | .xor,.i k n => ibin .xor k (if k.signed then -1 else k.max) n
 | .not,.b x => some (.b !x)
 | _,_ => none
def cellsOf:AV→List AV
 | .agg cs => cs
 | v => [v]
def one:AV→Bool
 | .agg _ | .tup _ | .undef | .mc _ _ _ _ => false
 | _ => true
def part (cs:List AV) (off:Nat):Option Nat→Option AV
 | none => cs[off]?
 | some n => if off + n≤cs.length then some (.agg ((cs.drop off).take n)) else none
def splice (cs:List AV) (off:Nat) (vs:List AV):List AV:=
 match vs with
 | [v] => cs.set off v
 | _ => cs.take off ++ vs ++ cs.drop (off + vs.length)
def fill (e:Env) (cs:List AV):List (Nat × Nat × Opd)→Option (List AV)
 | [] => some cs
 | (off,n,x) :: ps =>
   if (cellsOf (x.ev e)).length = n∧off + n≤cs.length∧(cellsOf (x.ev e)).all one then fill e (splice cs off (cellsOf (x.ev e))) ps else none
def Tok.drop:Tok→Tok
 | _ => .non
mutual
/-- The value without ids and tokens. -/
def frz (hp:Nat→Option Blk):Nat→AV→Option AV
 | 0,_ => none
 | k + 1,v => match v with
   | .agg cs => (frzL hp k cs).map .agg
   | .tup cs => (frzL hp k cs).map .tup
   | .sl cs n _ => some (.sl cs n .non)
   | .mp id off => match hp id with
     | some (.cells cs _) => (frzL hp k (cs.drop off)).map .ptr
     | _ => none
   | .ms id off n => match hp id with
     | some (.cells cs _) => (frzL hp k (cs.drop off)).map fun cs => .sl cs n .non
     | _ => none
   | .fn f a b => match frzL hp k a,frzL hp k b with
     | some a,some b => some (.fn f a b)
     | _,_ => none
   | .ifc t v => (frz hp k v).map (.ifc t)
   | .mm _ => none
   | .mc _ _ _ _ => none
   | v => some v
def frzL (hp:Nat→Option Blk):Nat→List AV→Option (List AV)
 | _,[] => some []
 | k,c :: cs => match frz hp k c,frzL hp k cs with
   | some c,some cs => some (c :: cs)
   | _,_ => none
end
def vis (hp:Nat→Option Blk):Nat→AV→List Nat
 | 0,_ => []
 | k + 1,v => match v with
   | .agg cs | .tup cs => cs.flatMap (vis hp k)
   | .mp id off | .ms id off _ => match hp id with
     | some (.cells cs ro) => (if ro then [] else [id]) ++ (cs.drop off).flatMap (vis hp k)
     | _ => [id]
   | .fn _ a b => a.flatMap (vis hp k) ++ b.flatMap (vis hp k)
   | .ifc _ v => vis hp k v
   | _ => []
def flat:AV→Bool
 | .b _ | .i _ _ | .s _ | .nilp | .nilf | .nili => true
 | _ => false
def depth:Nat:=9
def lock (hp:Nat→Option Blk) (ids:List Nat):Nat→Option Blk:=fun id =>
 if ids.contains id then (match hp id with | some (.cells cs _) => some (.cells cs true) | o => o) else hp id
def mlook (es:List (AV × AV)) (k:ByteArray):Option AV:=
 match es with
 | [] => none
 | (.s x,v) :: es => if k == x then some v else mlook es k
 | _ :: _ => none
def lim64:Int:=9223372036854775807
def rd (g:G) (al:Nat→Bool) (id:Nat):Option Blk:=if al id then g.hp id else none
def vMap (g:G):Option AV→Option (AV × G)
 | some v => some (v,g)
 | none => none
def vMapL (f:List AV→AV) (g:G):Option (List AV)→Option (AV × G)
 | some v => some (f v,g)
 | none => none
def vPick (c a b:AV) (g:G):Option (AV × G):=match c with
 | .b t => some (if t then a else b,g)
 | _ => none
def vBox (id:Nat) (v:AV) (g:G):Option (AV × G):=
 if (cellsOf v).all one then some (.mp id 0,⟨upd g.hp id (some (.cells (cellsOf v) false)),g.nx⟩) else none
def vBoxI (v:AV) (g:G):Option (AV × G):=
 if (cellsOf v).all one then vMapL .ptr g (frzL (fun _ => none) depth (cellsOf v)) else none
def vBsl (id:Nat) (imm:Bool) (n:Nat) (cs:Option (List AV)) (g:G):Option (AV × G):=match cs with
 | none => none
 | some cs =>
   if imm then vMapL (fun cs => .sl cs n .rig) g (frzL (fun _ => none) depth cs)
   else some (.ms id 0 n,⟨upd g.hp id (some (.cells cs false)),g.nx⟩)
def vLd (al:Nat→Bool) (agg:Option Nat) (x:AV) (g:G):Option (AV × G):=match x with
 | .ptr cs => vMap g (part cs 0 agg)
 | .mp b off => match rd g al b with
   | some (.cells cs _) => vMap g (part cs off agg)
   | _ => none
 | _ => none
def vLdF (al:Nat→Bool) (agg:Option Nat) (x:AV) (g:G):Option (AV × G):=match x with
 | .ptr cs => vMap g (part cs 0 agg)
 | .mp b off => match rd g al b with
   | some (.cells cs true) => vMap g (part cs off agg)
   | _ => none
 | _ => none
def ids1:AV→List Nat
 | .mp b _ => [b]
 | _ => []
def vLdQ (al:Nat→Bool) (agg:Option Nat) (x q:AV) (g:G):Option (AV × G):=match x with
 | .mp b off => if (ids1 q).contains b then (match rd g al b with
   | some (.cells cs _) => vMap g (part cs off agg)
   | _ => none) else none
 | _ => none
def vSt (al:Nat→Bool) (n:Nat) (a x:AV) (g:G):Option (AV × G):=match a with
 | .mp b off => match rd g al b with
   | some (.cells cs false) =>
     if (cellsOf x).length = n∧off + n≤cs.length∧(cellsOf x).all one then
      some (.undef,⟨upd g.hp b (some (.cells (splice cs off (cellsOf x)) false)),g.nx⟩)
     else none
   | _ => none
 | _ => none
def vClr (al:Nat→Bool) (esz:Nat) (zero:List AV) (x:AV) (g:G):Option (AV × G):=match x with
 | .ms b off n => match rd g al b with
   | some (.cells cs false) =>
     if 0 < n∧zero.length = esz∧off + n * esz≤cs.length then
      some (.tup [],⟨upd g.hp b (some (.cells (splice cs off (List.replicate n zero).flatten) false)),g.nx⟩)
     else none
   | _ => none
 | _ => none
def vStN (al:Nat→Bool) (n:Nat) (a x:AV) (qs:List AV) (g:G):Option (AV × G):=
 if (ids1 a).all (fun b => !(qs.flatMap ids1).contains b) then vSt al n a x g else none
def vNil (x:AV) (g:G):Option (AV × G):=match x with
 | .ptr cs => some (.ptr cs,g)
 | .mp b off => some (.mp b off,g)
 | .fn f a c => some (.fn f a c,g)
 | _ => none
def vConv (k:IntKind) (x:AV) (g:G):Option (AV × G):=match x with
 | .i _ n => some (.i k (k.wrap n),g)
 | _ => none
def vMput (al:Nat→Bool) (m k v:AV) (g:G):Option (AV × G):=match m,k with
 | .mm b,.s k => match rd g al b with
   | some (.map es) => match mlook es k with
     | none => if one v then some (.undef,⟨upd g.hp b (some (.map (es ++ [(.s k,v)]))),g.nx⟩) else none
     | some _ => none
   | _ => none
 | _,_ => none
def vMget (al:Nat→Bool) (m k:AV) (g:G):Option (AV × G):=match m,k with
 | .mm b,.s k => match rd g al b with
   | some (.map es) => vMap g (mlook es k)
   | _ => none
 | _,_ => none
def vMksl (id:Nat) (zero:List AV) (esz bytes:Nat) (len cap:AV) (g:G):Option (AV × G):=match len,cap with
 | .i .i64 n,.i .i64 c =>
   if 0≤n∧n≤c∧c≤lim64∧(bytes:Int) * c≤2 ^ 47 then
    if n = 0 then some (.sl [] 0 (.own id esz),⟨upd g.hp id (some (.tok true)),g.nx⟩)
    else if n = c∧zero.length = esz then some (.ms id 0 n.toNat,⟨upd g.hp id (some (.cells ((List.replicate n.toNat zero).flatten) false)),g.nx⟩)
    else none
   else none
 | _,_ => none
def bnd (dflt:Nat):Option AV→Option Int
 | none => some (dflt:Int)
 | some (.i _ z) => some z
 | _ => none
def vSlice (esz:Nat) (x:AV) (lo hi mx:Option AV) (g:G):Option (AV × G):=match x with
 | .sl cs n t => match bnd 0 lo,bnd n hi,mx with
   | some lo,some hi,none => if 0≤lo∧lo≤hi∧hi≤n then some (.sl ((cs.drop (lo.toNat * esz)).take ((hi.toNat - lo.toNat) * esz)) (hi.toNat - lo.toNat) (if t = .rig∧hi = n then .rig else .non),g) else none
   | some lo,some hi,some (.i _ m) => if 0≤lo∧lo≤hi∧hi = m∧hi≤n then some (.sl ((cs.drop (lo.toNat * esz)).take ((hi.toNat - lo.toNat) * esz)) (hi.toNat - lo.toNat) .rig,g) else none
   | _,_,_ => none
 | .ms id off n => match lo,hi,mx with
   | some (.i _ l),none,none => if 0 < l∧l < n∧0 < esz then some (.ms id (off + l.toNat * esz) (n - l.toNat),g) else none
   | none,some (.i _ k),none => if off = 0∧1≤n∧0≤k∧k≤n then some (.mc id k.toNat esz n,g) else none
   | _,_,_ => none
 | _ => none
def vSslice (x:AV) (lo hi:Option AV) (g:G):Option (AV × G):=match x with
 | .s s => match bnd 0 lo,bnd s.size hi with
   | some lo,some hi => if 0≤lo∧lo≤hi∧hi≤s.size then some (.s (s.extract lo.toNat hi.toNat),g) else none
   | _,_ => none
 | _ => none
def vFa (off:Nat) (x:AV) (g:G):Option (AV × G):=match x with
 | .ptr cs => if off < cs.length then some (.ptr (cs.drop off),g) else none
 | .mp b o => some (.mp b (o + off),g)
 | _ => none
def vFld (off:Nat) (agg:Option Nat) (x:AV) (g:G):Option (AV × G):=match x with
 | .agg cs => vMap g (part cs off agg)
 | _ => none
def vIa (esz:Nat) (x i:AV) (g:G):Option (AV × G):=match x,i with
 | .sl cs n _,.i _ z => if 0≤z∧z < n then some (.ptr (cs.drop (z.toNat * esz)),g) else none
 | .ms b off n,.i _ z => if 0≤z∧z < n then some (.mp b (off + z.toNat * esz),g) else none
 | _,_ => none
def vIaa (len esz:Nat) (x i:AV) (g:G):Option (AV × G):=match x,i with
 | .ptr cs,.i _ z => if 0≤z∧z < len then some (.ptr (cs.drop (z.toNat * esz)),g) else none
 | .mp b off,.i _ z => if 0≤z∧z < len then some (.mp b (off + z.toNat * esz),g) else none
 | _,_ => none
def vIdx (len esz:Nat) (agg:Option Nat) (x i:AV) (g:G):Option (AV × G):=match x,i with
 | .agg cs,.i _ z => if 0≤z∧z < len then vMap g (part cs (z.toNat * esz) agg) else none
 | _,_ => none
def vSidx (x i:AV) (g:G):Option (AV × G):=match x,i with
 | .s s,.i _ z => if h:0≤z∧z.toNat < s.size then some (.i .u8 ((s[z.toNat]'h.2).toNat:Int),g) else none
 | _,_ => none
def vExt (i:Nat) (x:AV) (g:G):Option (AV × G):=match x with
 | .tup cs => vMap g (cs[i]?)
 | _ => none
def vLen (x:AV) (g:G):Option (AV × G):=match x with
 | .sl _ n _ => some (.i .i64 n,g)
 | .ms _ _ n => some (.i .i64 n,g)
 | _ => none
def vSlen (x:AV) (g:G):Option (AV × G):=match x with
 | .s s => some (.i .i64 s.size,g)
 | _ => none
def vMx (x y:AV) (g:G):Option (AV × G):=match x,y with
 | .i k a,.i _ b => some (.i k (if b > a then b else a),g)
 | _,_ => none
def vMn (x y:AV) (g:G):Option (AV × G):=match x,y with
 | .i k a,.i _ b => some (.i k (if b < a then b else a),g)
 | _,_ => none
def vSrc (al:Nat→Bool) (esz:Nat) (y:AV) (g:G):Option (List AV × Nat):=match y with
 | .sl ds m _ => some (ds,m)
 | .ms b off m => match rd g al b with
   | some (.cells ds _) => match frzL (fun _ => none) depth ((ds.drop off).take (m * esz)) with
     | some ds => some (ds,m)
     | none => none
   | _ => none
 | _ => none
def vApp (al:Nat→Bool) (id esz bytes:Nat) (x y:AV) (g:G):Option (AV × G):=match x with
 | .sl cs n t => match vSrc al esz y g with
   | none => none
   | some (ds,m) =>
     if (n + m) * bytes≤2 ^ 46∧n + m≤2 ^ 62∧cs.length = n * esz∧ds.length = m * esz then
      match t with
      | .non => none
      | .rig => if m = 0 then some (.sl cs n .rig,g) else some (.sl (cs ++ ds) (n + m) (.own id esz),⟨upd g.hp id (some (.tok true)),g.nx⟩)
      | .own tk e => match rd g al tk with
        | some (.tok true) => if e = esz then some (.sl (cs ++ ds) (n + m) (.own id esz),⟨upd (upd g.hp tk (some (.tok false))) id (some (.tok true)),g.nx⟩) else none
        | _ => none
     else none
 | _ => none
def vSrcM (al:Nat→Bool) (esz:Nat) (y:AV) (g:G):Option (List AV × Nat):=match y with
 | .sl ds m _ => some (ds,m)
 | .ms b off m => match rd g al b with
   | some (.cells ds _) => some ((ds.drop off).take (m * esz),m)
   | _ => none
 | _ => none
def vAppM (al:Nat→Bool) (id esz bytes:Nat) (x y:AV) (g:G):Option (AV × G):=match vSrcM al esz y g with
 | none => none
 | some (ds,m) => match x with
   | .sl [] 0 .rig =>
     if m = 0∧ds.length = 0 then some (.sl [] 0 .rig,g)
     else if 1≤m∧m * bytes≤2 ^ 46∧m≤2 ^ 62∧ds.length = m * esz∧ds.all one then some (.ms id 0 m,⟨upd g.hp id (some (.cells ds false)),g.nx⟩) else none
   | .ms b 0 n => match rd g al b with
     | some (.cells cs false) =>
       if 1≤n∧1≤m∧(n + m) * bytes≤2 ^ 46∧n + m≤2 ^ 62∧cs.length = n * esz∧ds.length = m * esz∧ds.all one then
        some (.ms id 0 (n + m),⟨upd (upd g.hp b (some (.tok false))) id (some (.cells (cs ++ ds) false)),g.nx⟩)
       else none
     | _ => none
   | .mc b k e n => match rd g al b with
     | some (.cells cs false) =>
       if e = esz∧1≤n∧k≤n∧1≤m∧(k + m) * bytes≤2 ^ 46∧k + m≤2 ^ 62∧cs.length = n * esz∧ds.length = m * esz∧ds.all one then
        some (.ms id 0 (k + m),⟨upd (upd g.hp b (some (.tok false))) id (some (.cells (cs.take (k * esz) ++ ds) false)),g.nx⟩)
       else none
     | _ => none
   | _ => none
def vCutM (al:Nat→Bool) (id esz:Nat) (x hi:AV) (g:G):Option (AV × G):=match x,hi with
 | .ms b 0 n,.i _ k => match rd g al b with
   | some (.cells cs false) =>
     if 0≤k∧k≤n∧1≤n∧cs.length = n * esz then some (.ms id 0 k.toNat,⟨upd (upd g.hp b (some (.tok false))) id (some (.cells (cs.take (k.toNat * esz)) false)),g.nx⟩) else none
   | _ => none
 | _,_ => none
open Classical in
noncomputable def seeR (g:G) (r:Option (AV × G)):Option (AV × G):=match r with
 | some (v,g') => if ∀ i b,g.hp i = some b→g'.hp i = some b then some (v,g') else none
 | none => none
theorem seeR_inv {g:G} {r:Option (AV × G)} {v:AV × G} (h:seeR g r = some v):∃ g',r = some (v.1,g')∧v.2 = g'∧∀ i b,g.hp i = some b→g'.hp i = some b:=by
 unfold seeR at h
 split at h
 ·split at h
  ·rename_i hk
   cases h
   exact ⟨_,rfl,rfl,hk⟩
  ·cases h
 ·cases h
theorem seeR_some {g g':G} {v:AV} (h:∀ i b,g.hp i = some b→g'.hp i = some b):seeR g (some (v,g')) = some (v,g'):=if_pos h
section
variable (call:CS)
noncomputable def vCall (al:Nat→Bool) (id:Nat) (m:Mode) (f:AV) (args:List AV) (g:G):Option (AV × G):=match f with
 | .fn fid fst caps => match m with
   | .raw => call fid (fst ++ args ++ caps) g
   | .see => seeR g (call fid (fst ++ args ++ caps) g)
   | .pure => match frzL (rd g al) depth (fst ++ args ++ caps) with
     | none => none
     | some bs => match call fid bs ⟨fun _ => none,0⟩ with
       | none => none
       | some (v,g') => match frz g'.hp depth v with
         | none => none
         | some v => if flat v || ((fst ++ args ++ caps).flatMap (vis (rd g al) depth)).isEmpty then some (v,g) else none
   | .lock => match frzL (rd g al) depth (fst ++ args ++ caps) with
     | none => none
     | some bs => match call fid bs ⟨fun _ => none,0⟩ with
       | none => none
       | some (v,g') => match frz g'.hp depth v with
         | none => none
         | some v => some (v,⟨lock g.hp ((fst ++ args ++ caps).flatMap (vis (rd g al) depth)),g.nx⟩)
   | .thaw => match frzL (rd g al) depth (fst ++ args ++ caps) with
     | none => none
     | some bs => match call fid bs ⟨fun _ => none,0⟩ with
       | some (.mp b 0,g') => match g'.hp b with
         | some (.cells cs false) => match frzL g'.hp depth cs with
           | some cs' =>
             if ((fst ++ args ++ caps).flatMap (vis (rd g al) depth)).isEmpty && !(cs.flatMap (vis g'.hp depth)).contains b then some (.mp id 0,⟨upd g.hp id (some (.cells cs' false)),g.nx⟩) else none
           | none => none
         | _ => none
       | _ => none
   | .melt => match frzL (rd g al) depth (fst ++ args ++ caps) with
     | none => none
     | some bs => match call fid bs ⟨fun _ => none,0⟩ with
       | some (.ms b 0 n,g') => match g'.hp b with
         | some (.cells cs false) => match frzL g'.hp depth cs with
           | some cs' =>
             if ((fst ++ args ++ caps).flatMap (vis (rd g al) depth)).isEmpty && !(cs.flatMap (vis g'.hp depth)).contains b then some (.ms id 0 n,⟨upd g.hp id (some (.cells cs' false)),g.nx⟩) else none
           | none => none
         | _ => none
       | _ => none
 | _ => none
noncomputable def opE (al:Nat→Bool) (lo:Nat) (id:Nat) (op:AOp) (e:Env) (g:G):Option (AV × G):=
 match op with
 | .mv x => some (x.ev e,g)
 | .pick c a b => vPick (c.ev e) (a.ev e) (b.ev e) g
 | .new zero => some (.mp id 0,⟨upd g.hp id (some (.cells zero false)),g.nx⟩)
 | .box x => vBox id (x.ev e) g
 | .boxI x => vBoxI (x.ev e) g
 | .build zero parts => vMapL .agg g (fill e zero parts)
 | .bsl imm n zero parts => vBsl id imm n (fill e zero parts) g
 | .ld agg x => vLd al agg (x.ev e) g
 | .ldF agg x => vLdF al agg (x.ev e) g
 | .ldQ agg x t => vLdQ al agg (x.ev e) (e t) g
 | .st n a x => vSt al n (a.ev e) (x.ev e) g
 | .stL n a x => vSt (fun i => decide (lo≤i) && al i) n (a.ev e) (x.ev e) g
 | .stW n a x => vSt al n (a.ev e) (x.ev e) g
 | .stN n a x ts => vStN al n (a.ev e) (x.ev e) (ts.map e) g
 | .nilck x => vNil (x.ev e) g
 | .bin op x y => vMap g (abin op (x.ev e) (y.ev e))
 | .eqb neg x y => vMap g (negb neg (aeqb (x.ev e) (y.ev e)))
 | .eqn neg x y => vMap g (negb neg (aeqn (x.ev e) (y.ev e)))
 | .eqs neg x => vMap g (negb neg (aeqs (x.ev e)))
 | .eqa neg ks x y => vMap g (negb neg (aeqa ks (x.ev e) (y.ev e)))
 | .un op x => vMap g (aun op (x.ev e))
 | .conv k x => vConv k (x.ev e) g
 | .mkfn f fst caps => some (.fn f (fst.map (·.ev e)) (caps.map (·.ev e)),g)
 | .mkmap => some (.mm id,⟨upd g.hp id (some (.map [])),g.nx⟩)
 | .mput m k v => vMput al (m.ev e) (k.ev e) (v.ev e) g
 | .mget m k => vMget al (m.ev e) (k.ev e) g
 | .mksl zero esz bytes len cap => vMksl id zero esz bytes (len.ev e) (cap.ev e) g
 | .slice esz x lo hi mx => vSlice esz (x.ev e) (evo e lo) (evo e hi) (evo e mx) g
 | .fa off x => vFa off (x.ev e) g
 | .fld off agg x => vFld off agg (x.ev e) g
 | .ia esz x i => vIa esz (x.ev e) (i.ev e) g
 | .iaa len esz x i => vIaa len esz (x.ev e) (i.ev e) g
 | .idx len esz agg x i => vIdx len esz agg (x.ev e) (i.ev e) g
 | .sidx x i => vSidx (x.ev e) (i.ev e) g
 | .ext i x => vExt i (x.ev e) g
 | .len x => vLen (x.ev e) g
 | .slen x => vSlen (x.ev e) g
 | .sslice x lo hi => vSslice (x.ev e) (evo e lo) (evo e hi) g
 | .mx x y => vMx (x.ev e) (y.ev e) g
 | .mn x y => vMn (x.ev e) (y.ev e) g
 | .app esz bytes x y => vApp al id esz bytes (x.ev e) (y.ev e) g
 | .appM esz bytes x y => vAppM al id esz bytes (x.ev e) (y.ev e) g
 | .cutM esz x hi => vCutM al id esz (x.ev e) (hi.ev e) g
 | .clr esz zero x => vClr al esz zero (x.ev e) g
 | .bad => none
 | .call m f args => vCall call al id m (f.ev e) (args.map (·.ev e)) g
def wanted (e:Env):Option (Nat × Bool)→Bool
 | none => true
 | some (t,w) => match e t with
   | .b x => x == w
   | _ => false
def allow (draw:Bool) (base:Nat) (pre:List Nat):Nat→Bool:=fun id =>
 !draw || decide (id < base) || pre.contains (id - base)
noncomputable def regE (draw:Bool) (base:Nat):Nat→List AOper→Env→G→Option (Env × G)
 | _,[],e,g => some (e,g)
 | j,o :: os,e,g =>
   if wanted e o.grd then
    match opE call (allow draw base o.pre) base (base + j) o.op e g with
    | some (v,g) => regE draw base (j + 1) os (put e o.dst v) g
    | none => none
   else regE draw base (j + 1) os (put e o.dst .undef) g
def tmpOk (hp hp2:Nat→Option Blk) (n:Nat):Bool:=(List.range n).all fun i => match hp i with
 | some (.map _) => false
 | some (.tok true) => (match hp2 i with | some (.tok true) => true | _ => false)
 | some (.cells _ _) => (match hp2 i with | some (.cells _ _) => true | _ => false)
 | _ => true
def rigid (hp:Nat→Option Blk) (v:AV):AV:=if flat v then v else match v with
 | .mp id off => if (hp id).isSome then .mp id off else .undef
 | _ => .undef
def tmpEnv (hp:Nat→Option Blk) (e:Env):Env:=fun t => rigid hp (e t)
def primE (h:List AV→(Nat→Option Blk)→Option (AV × Option (Nat × List AV))) (asx:List AV) (g:G):Option (AV × G):=match h asx g.hp with
 | none => none
 | some (v,none) => some (v,g)
 | some (v,some (id,cs)) => match g.hp id with
   | some (.cells _ false) => some (v,⟨upd g.hp id (some (.cells cs false)),g.nx⟩)
   | _ => none
def iter (f:Env→G→Option (Out × Env × G)):Nat→Env→G→Option (Out × Env × G)
 | 0,_,_ => none
 | k + 1,e,g => match f e g with
   | some (.nrm,e,g) => iter f k e g
   | r => r
noncomputable def codeE (k:Nat):ACode→Env→G→Option (Out × Env × G)
 | .skip,e,g => some (.nrm,e,g)
 | .reg draw ops,e,g => match regE call draw g.nx 0 ops e { g with nx:=g.nx + ops.length } with
   | some (e,g) => some (.nrm,e,g)
   | none => none
 | .seq a b,e,g => match codeE k a e g with
   | some (.nrm,e,g) => codeE k b e g
   | r => r
 | .cond c t f,e,g => match c.ev e with
   | .b x => if x then codeE k t e g else codeE k f e g
   | _ => none
 | .blk id c,e,g => match codeE k c e g with
   | some (.ext n,e,g) => some (if n = id then .nrm else .ext n,e,g)
   | r => r
 | .lck t c,e,g => codeE k c e ⟨lock g.hp (vis g.hp depth (e t)),g.nx⟩
 | .lckS t c,e,g => codeE k c e ⟨lock g.hp (ids1 (e t)),g.nx⟩
 | .imm t c,e,g => match frz g.hp depth (e t) with
   | some v => codeE k c (upd e t v) ⟨lock g.hp (vis g.hp depth (e t)),g.nx⟩
   | none => none
 | .tmp c,e,g => match codeE k c e ⟨lock g.hp (List.range g.nx),g.nx⟩ with
   | some (o,e2,g2) => if tmpOk g.hp g2.hp g.nx then some (o,tmpEnv g.hp e2,⟨g.hp,g2.nx⟩) else none
   | none => none
 | .scp c,e,g => codeE k c e g
 | .lab,e,g => some (.nrm,e,g)
 | .loop c,e,g => iter (codeE k c) k e g
 | .ext id,e,g => some (.ext id,e,g)
 | .ret,e,g => some (.ret,e,g)
 | .prim n h,e,g => match primE h ((List.range n).map e) g with
   | some (v,g) => some (.ret,upd e 0 v,g)
   | none => none
end
def resOne (e:Env) (g:G):ARes→Option AV
 | .t n => some (e n)
 | .cell n agg => match e n with
   | .mp b off => match g.hp b with
     | some (.cells cs _) => part cs off agg
     | _ => none
   | _ => none
def resAll (e:Env) (g:G):List ARes→Option (List AV)
 | [] => some []
 | r :: rs => match resOne e g r,resAll e g rs with
   | some v,some vs => some (v :: vs)
   | _,_ => none
def resE (rs:List ARes) (e:Env) (g:G):Option AV:=
 match resAll e g rs with
 | some [v] => some v
 | some vs => some (.tup vs)
 | none => none
def argEnv (args:List AV):Env:=fun t => args.getD t .undef
abbrev Funs:=Nat→Option AFun
def arB (fn:AFun) (asx:List AV):Bool:=match fn.body with
 | .prim n _ => asx.length == n
 | _ => true
noncomputable def callE (F:Funs):Nat→CS
 | 0,_,_,_ => none
 | k + 1,f,args,g => match F f with
   | none => none
   | some fn => match arB fn args with
     | false => none
     | true => match codeE (callE F k) k fn.body (argEnv args) g with
       | some (.nrm,e,g) | some (.ret,e,g) => (resE fn.res e g).map (·,g)
       | _ => none
def g0:G:=⟨fun _ => none,0⟩
@[reducible] def qo (d : Nat) (o : AOp) : AOper := { dst := some d, op := o }
@[reducible] def qg (d : Nat) (o : AOp) (g : Nat) (w : Bool) : AOper := { dst := some d, op := o, grd := some (g, w) }
@[reducible] def qm (d t : Nat) : AOper := { dst := some d, op := .mv (.t t) }
@[reducible] def qn (o : AOp) : AOper := { dst := none, op := o }
@[reducible] def qnp (o : AOp) (p : List Nat) : AOper := { dst := none, op := o, pre := p }
@[reducible] def qp (d : Nat) (o : AOp) (p : List Nat) : AOper := { dst := some d, op := o, pre := p }
end Go.Ab
end
section
namespace Go.Ab
open Go.RowKit
structure Cx where
 num:Nat→Nat
 base:Nat
 J:Addr→Prop
 w:World
 loc:Nat→Nat × Nat
 hp:Nat→Option Blk
def Cx.wr (c:Cx) (ad:Addr):Prop:=
 (∃ id cs,c.hp id = some (.cells cs false)∧(c.loc id).1 = ad.block) ∨
 (∃ id,c.hp id = some (.tok true)∧(c.loc id).1 = ad.block∧(c.loc id).2≤ad.off)
def Cx.I (c:Cx) (ad:Addr):Prop:=(ad.block < c.base∧c.J ad)∨(c.base≤ad.block∧ad.block < c.w.heap.size∧¬ c.wr ad)
def TokOk (c:Cx) (τ e n len:Nat) (a:Option Addr) (cap:Nat):Prop:=
 (c.hp τ).isSome∧(c.hp τ = some (.tok true)→len = n * e∧∃ off,a = some ⟨(c.loc τ).1,off,none⟩∧(c.loc τ).2 = off + n * e ∧
  ∃ vs ty,c.w.heap[(c.loc τ).1]? = some (.cells vs ty (0,0))∧off + cap * e≤vs.size)
def MsOk (c:Cx) (id off n cap:Nat):Prop:=
 ∀ cs ro e,c.hp id = some (.cells cs ro)→off = 0→1≤n→cs.length = n * e→∀ (vs:Array Value) (ty:TypeId),c.w.heap[(c.loc id).1]? = some (.cells vs ty (0,0))→cap * e≤vs.size
def McOk (c:Cx) (id e n cap:Nat):Prop:=
 ∀ cs ro,c.hp id = some (.cells cs ro)→cs.length = n * e→∀ (vs:Array Value) (ty:TypeId),c.w.heap[(c.loc id).1]? = some (.cells vs ty (0,0))→cap * e≤vs.size
inductive Rep (c:Cx):Bool→AV→Value→Prop
 | undef {m} (v) (hb:∀ x,v≠.bool x):Rep c m .undef v
 | b {m} (x):Rep c m (.b x) (.bool x)
 | i {m} (k n):Rep c m (.i k n) (.int k n)
 | s {m} (x):Rep c m (.s x) (.string x)
 | nilp {m}:Rep c m .nilp (.pointer none)
 | nilf {m}:Rep c m .nilf .nilFunc
 | nili {m}:Rep c m .nili .nilIface
 | agg {m cs} (vs:List Value) (hl:cs.length = vs.length) (h:∀ (j:Nat) x v,cs[j]? = some x→vs[j]? = some v→Rep c m x v):Rep c m (.agg cs) (.agg vs.toArray)
 | tup {m cs} (vs:List Value) (hl:cs.length = vs.length) (h:∀ (j:Nat) x v,cs[j]? = some x→vs[j]? = some v→Rep c m x v):Rep c m (.tup cs) (.tuple vs.toArray)
 | sl {m cs n t a cap} (ad:Addr) (vs:List Value) (hc:n≤cap) (hm:cap≤maxLen) (hr:t = .rig→cap = n) (ho:m = false→∀ τ e,t≠.own τ e)
   (hz:0 < n→a.isSome) (h1:∀ v∈vs,v.oneCell' = true) (hl:cs.length = vs.length) (ha:cs≠[]→a = some ad) (hk:∀ (j:Nat) v,vs[j]? = some v→c.I (ad.add j)∧c.w.cell? (ad.add j) = some v)
   (h:∀ (j:Nat) x v,cs[j]? = some x→vs[j]? = some v→Rep c false x v) (ht:∀ τ e,t = .own τ e→TokOk c τ e n cs.length a cap):Rep c m (.sl cs n t) (.slice a n cap)
 | ptr {m cs} (ad:Addr) (vs:List Value) (h1:∀ v∈vs,v.oneCell' = true) (hl:cs.length = vs.length) (hk:∀ (j:Nat) v,vs[j]? = some v→c.I (ad.add j)∧c.w.cell? (ad.add j) = some v)
   (h:∀ (j:Nat) x v,cs[j]? = some x→vs[j]? = some v→Rep c false x v):Rep c m (.ptr cs) (.pointer (some ad))
 | mp (id off) (h:(c.hp id).isSome):Rep c true (.mp id off) (.pointer (some ⟨(c.loc id).1,off,none⟩))
 | ms (id off n cap) (h:(c.hp id).isSome) (hc:n≤cap) (hm:cap≤maxLen) (hp:MsOk c id off n cap):Rep c true (.ms id off n) (.slice (some ⟨(c.loc id).1,off,none⟩) n cap)
 | mc (id k e n cap) (h:(c.hp id).isSome) (hk:k≤n) (hc:n≤cap) (hm:cap≤maxLen) (hp:McOk c id e n cap):Rep c true (.mc id k e n) (.slice (some ⟨(c.loc id).1,0,none⟩) k cap)
 | fn {m f asx bs} (vs us:List Value) (hl:asx.length = vs.length) (hl':bs.length = us.length) (h:∀ (j:Nat) x v,asx[j]? = some x→vs[j]? = some v→Rep c m x v)
   (h':∀ (j:Nat) x v,bs[j]? = some x→us[j]? = some v→Rep c m x v):Rep c m (.fn f asx bs) (.func (.func (c.num f)) vs.toArray us.toArray)
 | mm (id) (h:(c.hp id).isSome):Rep c true (.mm id) (.map (some (c.loc id).1))
structure Evo (c c':Cx):Prop where
 num:c'.num = c.num
 base:c'.base = c.base
 J:c'.J = c.J
 below:Below c.base c.w c'.w
 imm:∀ ad,c.I ad→c'.I ad∧∀ v,c.w.cell? ad = some v→c'.w.cell? ad = some v
 ids:∀ id,(c.hp id).isSome→(c'.hp id).isSome∧c'.loc id = c.loc id
 tok:∀ id,(c.hp id).isSome→c'.hp id = some (.tok true)→c.hp id = some (.tok true) ∧
  ∀ vs ty,c.w.heap[(c.loc id).1]? = some (.cells vs ty (0,0))→∃ vs',c'.w.heap[(c.loc id).1]? = some (.cells vs' ty (0,0))∧vs'.size = vs.size
 cel:∀ id cs' ro',(c.hp id).isSome→c'.hp id = some (.cells cs' ro')→∃ cs ro,c.hp id = some (.cells cs ro)∧cs.length = cs'.length ∧
  ∀ (vs':Array Value) (ty:TypeId),c'.w.heap[(c.loc id).1]? = some (.cells vs' ty (0,0))→∃ vs:Array Value,c.w.heap[(c.loc id).1]? = some (.cells vs ty (0,0))∧vs.size≤vs'.size
 /-- (Where the number of 1000001 is 0.) -/
 dr:c.num 1000001 = 0→c.w.drawn≤c'.w.drawn
theorem Evo.refl (c:Cx):Evo c c:=⟨rfl,rfl,rfl,Below.refl _ _,fun _ h => ⟨h,fun _ h => h⟩,fun _ h => ⟨h,rfl⟩,fun _ _ h => ⟨h,fun vs _ h => ⟨vs,h,rfl⟩⟩,fun _ cs ro _ h => ⟨cs,ro,h,rfl,fun vs _ h => ⟨vs,h,Nat.le_refl _⟩⟩,fun _ => Nat.le_refl _⟩
theorem Evo.trans {a b c:Cx} (h:Evo a b) (k:Evo b c):Evo a c where
 num:=k.num.trans h.num
 dr:=fun h0 => Nat.le_trans (h.dr h0) (k.dr (by rw[h.num];exact h0))
 base:=k.base.trans h.base
 J:=k.J.trans h.J
 below:=h.below.trans (h.base ▸ k.below)
 imm:=fun ad hI => ⟨(k.imm ad (h.imm ad hI).1).1,fun v hv => (k.imm ad (h.imm ad hI).1).2 v ((h.imm ad hI).2 v hv)⟩
 ids:=fun id hi => ⟨(k.ids id (h.ids id hi).1).1,(k.ids id (h.ids id hi).1).2.trans (h.ids id hi).2⟩
 tok:=fun id hi ht => by
  obtain ⟨h1,h2⟩:=k.tok id (h.ids id hi).1 ht
  obtain ⟨h3,h4⟩:=h.tok id hi h1
  refine ⟨h3,fun vs ty hv => ?_⟩
  obtain ⟨vs',hv',hs'⟩:=h4 vs ty hv
  rw[←(h.ids id hi).2] at hv' ⊢
  obtain ⟨vs'',hv'',hs''⟩:=h2 vs' ty hv'
  exact ⟨vs'',hv'',hs''.trans hs'⟩
 cel:=fun id cs2 ro2 hi h2 => by
  obtain ⟨cs1,ro1,h1,e1,f1⟩:=k.cel id cs2 ro2 (h.ids id hi).1 h2
  obtain ⟨cs0,ro0,h0,e0,f0⟩:=h.cel id cs1 ro1 hi h1
  refine ⟨cs0,ro0,h0,e0.trans e1,fun vs2 ty hv => ?_⟩
  rw[←(h.ids id hi).2] at hv
  obtain ⟨vs1,hv1,l1⟩:=f1 vs2 ty hv
  rw[(h.ids id hi).2] at hv1
  obtain ⟨vs0,hv0,l0⟩:=f0 vs1 ty hv1
  exact ⟨vs0,hv0,Nat.le_trans l0 l1⟩
theorem MsOk.evo {c c':Cx} (E:Evo c c') {id off n cap:Nat} (hi:(c.hp id).isSome) (h:MsOk c id off n cap):MsOk c' id off n cap:=by
 intro cs ro e hc ho hn hl vs ty hv
 obtain ⟨cs0,ro0,h0,e0,f0⟩:=E.cel id cs ro hi hc
 rw[(E.ids id hi).2] at hv
 obtain ⟨vs0,hv0,l0⟩:=f0 vs ty hv
 exact Nat.le_trans (h cs0 ro0 e h0 ho hn (e0.trans hl) vs0 ty hv0) l0
theorem McOk.evo {c c':Cx} (E:Evo c c') {id e n cap:Nat} (hi:(c.hp id).isSome) (h:McOk c id e n cap):McOk c' id e n cap:=by
 intro cs ro hc hl vs ty hv
 obtain ⟨cs0,ro0,h0,e0,f0⟩:=E.cel id cs ro hi hc
 rw[(E.ids id hi).2] at hv
 obtain ⟨vs0,hv0,l0⟩:=f0 vs ty hv
 exact Nat.le_trans (h cs0 ro0 h0 (e0.trans hl) vs0 ty hv0) l0
theorem TokOk.evo {c c':Cx} (E:Evo c c') {τ e n len a cap} (h:TokOk c τ e n len a cap):TokOk c' τ e n len a cap:=by
 obtain ⟨h1,h2⟩:=h
 refine ⟨(E.ids τ h1).1,fun ht => ?_⟩
 obtain ⟨h3,h4⟩:=E.tok τ h1 ht
 obtain ⟨h5,off,h6,h7,vs,ty,h8,h9⟩:=h2 h3
 obtain ⟨vs',h10,h11⟩:=h4 vs ty h8
 rw[(E.ids τ h1).2]
 exact ⟨h5,off,h6,h7,vs',ty,h10,by omega⟩
theorem Rep.evo {c c':Cx} (E:Evo c c') {m x v} (h:Rep c m x v):Rep c' m x v:=by
 induction h with
 | undef v hb => exact .undef v hb
 | b x => exact .b x
 | i k n => exact .i k n
 | s x => exact .s x
 | nilp => exact .nilp
 | nilf => exact .nilf
 | nili => exact .nili
 | agg vs hl _ ih => exact .agg vs hl ih
 | tup vs hl _ ih => exact .tup vs hl ih
 | sl ad vs hc hm hr ho hz h1 hl ha hk _ ht ih => exact .sl ad vs hc hm hr ho hz h1 hl ha (fun j v hv => ⟨(E.imm _ (hk j v hv).1).1,(E.imm _ (hk j v hv).1).2 v (hk j v hv).2⟩) ih (fun τ e h => (ht τ e h).evo E)
 | ptr ad vs h1 hl hk _ ih => exact .ptr ad vs h1 hl (fun j v hv => ⟨(E.imm _ (hk j v hv).1).1,(E.imm _ (hk j v hv).1).2 v (hk j v hv).2⟩) ih
 | mp id off h => rw[←(E.ids id h).2];exact .mp id off (E.ids id h).1
 | ms id off n cap h hc hm hp => rw[←(E.ids id h).2];exact .ms id off n cap (E.ids id h).1 hc hm (hp.evo E h)
 | mc id k e n cap h hk hc hm hp => rw[←(E.ids id h).2];exact .mc id k e n cap (E.ids id h).1 hk hc hm (hp.evo E h)
 | fn vs us hl hl' _ _ ih ih' => rw[←E.num];exact .fn vs us hl hl' ih ih'
 | mm id h => rw[←(E.ids id h).2];exact .mm id (E.ids id h).1
theorem Rep.up {c:Cx} {m x v} (h:Rep c m x v):Rep c true x v:=by
 induction h with
 | undef v hb => exact .undef v hb
 | b x => exact .b x
 | i k n => exact .i k n
 | s x => exact .s x
 | nilp => exact .nilp
 | nilf => exact .nilf
 | nili => exact .nili
 | agg vs hl _ ih => exact .agg vs hl ih
 | tup vs hl _ ih => exact .tup vs hl ih
 | sl ad vs hc hm hr ho hz h1 hl ha hk h ht _ => exact .sl ad vs hc hm hr (fun h => by cases h) hz h1 hl ha hk h ht
 | ptr ad vs h1 hl hk h _ => exact .ptr ad vs h1 hl hk h
 | mp id off h => exact .mp id off h
 | ms id off n cap h hc hm hp => exact .ms id off n cap h hc hm hp
 | mc id k e n cap h hk hc hm hp => exact .mc id k e n cap h hk hc hm hp
 | fn vs us hl hl' _ _ ih ih' => exact .fn vs us hl hl' ih ih'
 | mm id h => exact .mm id h
theorem Rep.undef0 {c:Cx} {m}:Rep c m .undef Go.undef:=.undef _ (by intro x h;simp[Go.undef] at h)
theorem Rep.one {c:Cx} {m x v} (h:Rep c m x v) (h1:one x = true):v.oneCell' = true:=by
 cases h<;>first | rfl | (simp[Ab.one] at h1)
def Reps (c:Cx) (m:Bool) (cs:List AV) (vs:List Value):Prop:=cs.length = vs.length∧∀ (j:Nat) x v,cs[j]? = some x→vs[j]? = some v→Rep c m x v
theorem Reps.evo {c c':Cx} (E:Evo c c') {m cs vs} (h:Reps c m cs vs):Reps c' m cs vs:=⟨h.1,fun j x v hx hv => (h.2 j x v hx hv).evo E⟩
theorem Reps.nil {c m}:Reps c m [] []:=⟨rfl,fun _ _ _ h => by simp at h⟩
theorem Reps.cons {c m x v cs vs} (h:Rep c m x v) (t:Reps c m cs vs):Reps c m (x :: cs) (v :: vs):=by
 refine ⟨by simp[t.1],fun j y u hy hu => ?_⟩
 cases j with
 | zero => simp at hy hu;subst hy;subst hu;exact h
 | succ j => simp at hy hu;exact t.2 j y u hy hu
theorem Reps.cons_inv {c m x cs vs} (h:Reps c m (x :: cs) vs):∃ v us,vs = v :: us∧Rep c m x v∧Reps c m cs us:=by
 cases vs with
 | nil => simp[Reps] at h
 | cons v us => exact ⟨v,us,rfl,h.2 0 x v rfl rfl,by simpa using h.1,fun j y u hy hu => h.2 (j + 1) y u (by simpa using hy) (by simpa using hu)⟩
theorem Reps.nil_inv {c m vs} (h:Reps c m [] vs):vs = []:=by
 cases vs with
 | nil => rfl
 | cons _ _ => simp[Reps] at h
theorem Reps.append {c m cs vs ds us} (h:Reps c m cs vs) (k:Reps c m ds us):Reps c m (cs ++ ds) (vs ++ us):=by
 refine ⟨by simp[h.1,k.1],fun j x v hx hv => ?_⟩
 by_cases hj:j < cs.length
 ·rw[List.getElem?_append_left hj] at hx
  rw[List.getElem?_append_left (h.1 ▸ hj)] at hv
  exact h.2 j x v hx hv
 ·rw[List.getElem?_append_right (by omega)] at hx
  rw[List.getElem?_append_right (by have:=h.1;omega),←h.1] at hv
  exact k.2 _ x v hx hv
theorem Reps.drop {c m cs vs} (h:Reps c m cs vs) (n:Nat):Reps c m (cs.drop n) (vs.drop n):=
 ⟨by simp[h.1],fun j x v hx hv => by rw[List.getElem?_drop] at hx hv;exact h.2 _ x v hx hv⟩
theorem Reps.take {c m cs vs} (h:Reps c m cs vs) (n:Nat):Reps c m (cs.take n) (vs.take n):=by
 refine ⟨by simp[h.1],fun j x v hx hv => ?_⟩
 rw[List.getElem?_take] at hx hv
 split at hx
 ·rename_i hj;simp only[hj,if_true] at hv;exact h.2 _ x v hx hv
 ·cases hx
theorem Reps.set {c m cs vs} (h:Reps c m cs vs) (n:Nat) {x v} (k:Rep c m x v):Reps c m (cs.set n x) (vs.set n v):=by
 refine ⟨by simp[h.1],fun j y u hy hu => ?_⟩
 by_cases hj:n = j
 ·subst hj
  by_cases hl:n < cs.length
  ·rw[List.getElem?_set_self hl] at hy
   rw[List.getElem?_set_self (h.1 ▸ hl)] at hu
   cases hy;cases hu;exact k
  ·rw[List.getElem?_eq_none (by simp;omega)] at hy;cases hy
 ·rw[List.getElem?_set_ne hj] at hy hu
  exact h.2 j y u hy hu
theorem Reps.up {c m cs vs} (h:Reps c m cs vs):Reps c true cs vs:=⟨h.1,fun j x v hx hv => (h.2 j x v hx hv).up⟩
theorem Reps.ones {c m cs vs} (h:Reps c m cs vs) (h1:cs.all Ab.one = true):∀ v∈vs,v.oneCell' = true:=by
 intro v hv
 obtain ⟨j,hj,rfl⟩:=List.mem_iff_getElem.1 hv
 have hj':j < cs.length:=h.1 ▸ hj
 refine (h.2 j cs[j] vs[j] (List.getElem?_eq_getElem hj') (List.getElem?_eq_getElem hj)).one ?_
 exact List.all_eq_true.1 h1 _ (List.getElem_mem hj')
theorem Reps.get {c m cs vs} (h:Reps c m cs vs) {j:Nat} {x:AV} (hx:cs[j]? = some x):∃ v,vs[j]? = some v∧Rep c m x v:=by
 have hj:j < cs.length:=(List.getElem?_eq_some_iff.1 hx).1
 exact ⟨vs[j]'(h.1 ▸ hj),List.getElem?_eq_getElem _,h.2 j x _ hx (List.getElem?_eq_getElem _)⟩
def Cx.live (c:Cx) (id:Nat):Prop:=∃ b,c.hp id = some b∧b≠.tok false
def tab10:Array Value:=((List.range 20).map fun i => Value.int .u64 ((10 ^ i:Nat):Int)).toArray
def GlOk (c:Cx):Prop:=∀ k,c.num 1000000 = k + 1→k < c.base∧∃ ty fr,c.w.heap[k]? = some (.cells tab10 ty fr)
theorem GlOk.evo {c c':Cx} (E:Evo c c') (h:GlOk c):GlOk c':=fun k h0 => by
 rw[E.num] at h0
 obtain ⟨h1,ty,fr,h2⟩:=h k h0
 exact ⟨by rw[E.base];exact h1,ty,fr,by rw[E.below.block k h1];exact h2⟩
structure Ok (c:Cx) (nx:Nat):Prop where
 basele:c.base≤c.w.heap.size
 cells:∀ id cs ro,c.hp id = some (.cells cs ro)→c.base≤(c.loc id).1∧∃ (vs us:List Value) (ty:TypeId),c.w.heap[(c.loc id).1]? = some (.cells (vs ++ us).toArray ty (0,0))∧Reps c true cs vs∧cs.all Ab.one = true
 maps:∀ id es,c.hp id = some (.map es)→c.base≤(c.loc id).1∧∃ (ms:List MapEntry) (clock:Nat),c.w.heap[(c.loc id).1]? = some (.map ms.toArray clock)∧es.length = ms.length ∧
  ∀ (j:Nat) k v en,es[j]? = some (k,v)→ms[j]? = some en→(∃ s,k = .s s∧en.key = .string s)∧Rep c true v en.val
 toks:∀ id,c.hp id = some (.tok true)→c.base≤(c.loc id).1∧∃ (vs:Array Value) (ty:TypeId),c.w.heap[(c.loc id).1]? = some (.cells vs ty (0,0))
 inj:∀ i j,i≠j→c.live i→c.live j→(c.loc i).1≠(c.loc j).1
 fresh:∀ id,nx≤id→c.hp id = none
 gl:GlOk c
theorem Ok.lt {c:Cx} {nx:Nat} (h:Ok c nx) {id:Nat} (hl:c.live id):(c.loc id).1 < c.w.heap.size:=by
 obtain ⟨b,hb,hne⟩:=hl
 have key:∀ o,c.w.heap[(c.loc id).1]? = some o→(c.loc id).1 < c.w.heap.size:=fun o ho => (Array.getElem?_eq_some_iff.1 ho).1
 cases b with
 | cells cs ro => obtain ⟨_,vs,us,ty,hh,_⟩:=h.cells id cs ro hb;exact key _ hh
 | map es => obtain ⟨_,ms,cl,hh,_⟩:=h.maps id es hb;exact key _ hh
 | tok l =>
   cases l with
   | true => obtain ⟨_,vs,ty,hh⟩:=h.toks id hb;exact key _ hh
   | false => exact absurd rfl hne
def Cx.drew (c:Cx):Cx:={ c with w:=c.w.drew }
theorem Evo.drew (c:Cx):Evo c c.drew:=⟨rfl,rfl,rfl,(Below.refl _ _).drew,fun _ h => ⟨h,fun _ h => h⟩,fun _ h => ⟨h,rfl⟩,fun _ _ h => ⟨h,fun vs _ h => ⟨vs,h,rfl⟩⟩,fun _ cs ro _ h => ⟨cs,ro,h,rfl,fun vs _ h => ⟨vs,h,Nat.le_refl _⟩⟩,fun _ => Nat.le_succ _⟩
theorem Ok.drew {c:Cx} {nx:Nat} (h:Ok c nx):Ok c.drew nx where
 basele:=h.basele
 cells:=fun id cs ro hh => by
  obtain ⟨h1,vs,us,ty,h2,h3,h4⟩:=h.cells id cs ro hh
  exact ⟨h1,vs,us,ty,h2,h3.evo (Evo.drew c),h4⟩
 maps:=fun id es hh => by
  obtain ⟨h1,ms,cl,h2,h3,h4⟩:=h.maps id es hh
  exact ⟨h1,ms,cl,h2,h3,fun j k v en hx hv => ⟨(h4 j k v en hx hv).1,(h4 j k v en hx hv).2.evo (Evo.drew c)⟩⟩
 toks:=h.toks
 inj:=h.inj
 fresh:=h.fresh
 gl:=h.gl.evo (Evo.drew c)
def Cx.alloc (c:Cx) (id:Nat) (o:Obj) (lo:Nat) (b:Blk):Cx:={ c with w:=c.w.alloc o,loc:=upd c.loc id (c.w.heap.size,lo),hp:=upd c.hp id (some b) }
theorem cell_new {w:World} {o:Obj} {ad:Addr} (h:ad.block < w.heap.size):(w.alloc o).cell? ad = w.cell? ad:=World.cell?_alloc_lt w o ad h
theorem heap_new {w:World} {o:Obj} {k:Nat} (h:k < w.heap.size):(w.alloc o).heap[k]? = w.heap[k]?:=Below.heap_alloc w o k h
theorem heap_last (w:World) (o:Obj):(w.alloc o).heap[w.heap.size]? = some o:=by show (w.heap.push o)[_]? = _;simp
theorem Evo.alloc {c:Cx} {nx:Nat} (K:Ok c nx) {id:Nat} (hid:c.hp id = none) (o:Obj) (lo:Nat) (b:Blk):Evo c (c.alloc id o lo b) where
 num:=rfl
 dr:=fun _ => Nat.le_refl _
 base:=rfl
 J:=rfl
 below:=(Below.refl _ _).alloc K.basele o
 imm:=fun ad hI => by
  have hlt:ad.block < c.w.heap.size:=by
   rcases hI with ⟨h1,_⟩ | ⟨_,h2,_⟩
   ·have:=K.basele;omega
   ·exact h2
  refine ⟨?_,fun v hv => by rw[←hv];exact cell_new hlt⟩
  rcases hI with h1 | ⟨h1,h2,h3⟩
  ·exact .inl h1
  ·refine .inr ⟨h1,by show _ < (c.w.alloc o).heap.size;simp;omega,fun hw => h3 ?_⟩
   rcases hw with ⟨i,cs,hi,hb⟩ | ⟨i,hi,hb,hlo⟩
   ·by_cases he:i = id
    ·subst he;simp[Cx.alloc,upd] at hb;omega
    ·simp[Cx.alloc,upd,he] at hi hb;exact .inl ⟨i,cs,hi,hb⟩
   ·by_cases he:i = id
    ·subst he;simp[Cx.alloc,upd] at hb;omega
    ·simp[Cx.alloc,upd,he] at hi hb hlo;exact .inr ⟨i,hi,hb,hlo⟩
 ids:=fun i hi => by
  have he:i≠id:=fun he => by rw[he,hid] at hi;cases hi
  simp[Cx.alloc,upd,he];exact Option.isSome_iff_exists.1 hi |>.elim fun b hb => by simp[hb]
 tok:=fun i hi ht => by
  have he:i≠id:=fun he => by rw[he,hid] at hi;cases hi
  simp[Cx.alloc,upd,he] at ht
  refine ⟨ht,fun vs ty hv => ⟨vs,?_,rfl⟩⟩
  show (c.w.alloc o).heap[_]? = _
  rw[heap_new (Array.getElem?_eq_some_iff.1 hv).1]
  exact hv
 cel:=fun i cs ro hi hc => by
  have he:i≠id:=fun he => by rw[he,hid] at hi;cases hi
  simp[Cx.alloc,upd,he] at hc
  refine ⟨cs,ro,hc,rfl,fun vs ty hv => ⟨vs,?_,Nat.le_refl _⟩⟩
  have hlt:=K.lt (id:=i) ⟨_,hc,by simp⟩
  have hv:(c.w.alloc o).heap[(c.loc i).1]? = _:=hv
  rw[heap_new hlt] at hv
  exact hv
theorem live_alloc {c:Cx} {id i:Nat} {o:Obj} {lo:Nat} {b:Blk} (he:i≠id):(c.alloc id o lo b).live i↔c.live i:=by
 simp[Cx.live,Cx.alloc,upd,he]
theorem loc_alloc {c:Cx} {id i:Nat} {o:Obj} {lo:Nat} {b:Blk} (he:i≠id):(c.alloc id o lo b).loc i = c.loc i:=by
 simp[Cx.alloc,upd,he]
theorem loc_alloc_same {c:Cx} {id:Nat} {o:Obj} {lo:Nat} {b:Blk}:(c.alloc id o lo b).loc id = (c.w.heap.size,lo):=by
 simp[Cx.alloc,upd]
theorem hp_alloc {c:Cx} {id i:Nat} {o:Obj} {lo:Nat} {b:Blk} (he:i≠id):(c.alloc id o lo b).hp i = c.hp i:=by
 simp[Cx.alloc,upd,he]
theorem hp_alloc_same {c:Cx} {id:Nat} {o:Obj} {lo:Nat} {b:Blk}:(c.alloc id o lo b).hp id = some b:=by
 simp[Cx.alloc,upd]
theorem MsOk.new {c:Cx} {id lo:Nat} {vs:Array Value} {ty:TypeId} {cs:List AV} {ro:Bool} {n cap:Nat} (h:∀ e,1≤n→cs.length = n * e→cap * e≤vs.size):MsOk (c.alloc id (.cells vs ty (0,0)) lo (.cells cs ro)) id 0 n cap:=by
 intro cs' ro' e hc _ hn hl vs' ty' hv
 rw[hp_alloc_same] at hc
 cases hc
 rw[loc_alloc_same] at hv
 have hv:(c.w.alloc (.cells vs ty (0,0))).heap[c.w.heap.size]? = some (.cells vs' ty' (0,0)):=hv
 rw[heap_last] at hv
 cases hv
 exact h e hn hl
def NewOk (c:Cx) (o:Obj):Blk→Prop
 | .cells cs _ => ∃ (vs us:List Value) (ty:TypeId),o = .cells (vs ++ us).toArray ty (0,0)∧Reps c true cs vs∧cs.all Ab.one = true
 | .map es => es = []∧∃ cl,o = .map #[] cl
 | .tok l => l = true∧∃ (vs:Array Value) (ty:TypeId),o = .cells vs ty (0,0)
theorem Ok.alloc {c:Cx} {nx:Nat} (K:Ok c nx) {id:Nat} (hid:c.hp id = none) (hlt:id < nx) {o:Obj} {lo:Nat} {b:Blk} (hn:NewOk c o b):Ok (c.alloc id o lo b) nx:=by
 have E:=Evo.alloc K hid o lo b
 have old:∀ i,c.live i→i≠id:=fun i ⟨b,hb,_⟩ he => by rw[he,hid] at hb;cases hb
 refine ⟨?_,?_,?_,?_,?_,?_,K.gl.evo E⟩
 ·show c.base≤(c.w.alloc o).heap.size
  have:=K.basele
  simp;omega
 ·intro i cs ro hi
  by_cases he:i = id
  ·subst he
   rw[hp_alloc_same] at hi
   cases hi
   obtain ⟨vs,us,ty,ho,hr,h1⟩:=hn
   rw[loc_alloc_same]
   exact ⟨K.basele,vs,us,ty,by rw[←ho];exact heap_last _ _,hr.evo E,h1⟩
  ·rw[hp_alloc he] at hi
   obtain ⟨h1,vs,us,ty,h2,h3,h4⟩:=K.cells i cs ro hi
   rw[loc_alloc he]
   exact ⟨h1,vs,us,ty,by show (c.w.alloc o).heap[_]? = _;rw[heap_new (Array.getElem?_eq_some_iff.1 h2).1];exact h2,h3.evo E,h4⟩
 ·intro i es hi
  by_cases he:i = id
  ·subst he
   rw[hp_alloc_same] at hi
   cases hi
   obtain ⟨rfl,cl,ho⟩:=hn
   rw[loc_alloc_same]
   exact ⟨K.basele,[],cl,by rw[show ([]:List MapEntry).toArray = #[] from rfl,←ho];exact heap_last _ _,rfl,fun j k v en hx => by simp at hx⟩
  ·rw[hp_alloc he] at hi
   obtain ⟨h1,ms,cl,h2,h3,h4⟩:=K.maps i es hi
   rw[loc_alloc he]
   exact ⟨h1,ms,cl,by show (c.w.alloc o).heap[_]? = _;rw[heap_new (Array.getElem?_eq_some_iff.1 h2).1];exact h2,h3,fun j k v en hx hv => ⟨(h4 j k v en hx hv).1,(h4 j k v en hx hv).2.evo E⟩⟩
 ·intro i hi
  by_cases he:i = id
  ·subst he
   rw[hp_alloc_same] at hi
   cases hi
   obtain ⟨_,vs,ty,ho⟩:=hn
   rw[loc_alloc_same]
   exact ⟨K.basele,vs,ty,by rw[←ho];exact heap_last _ _⟩
  ·rw[hp_alloc he] at hi
   obtain ⟨h1,vs,ty,h2⟩:=K.toks i hi
   rw[loc_alloc he]
   exact ⟨h1,vs,ty,by show (c.w.alloc o).heap[_]? = _;rw[heap_new (Array.getElem?_eq_some_iff.1 h2).1];exact h2⟩
 ·intro i j hij hi hj
  by_cases hei:i = id
  ·have hej:j≠id:=fun h => hij (hei.trans h.symm)
   subst hei
   rw[loc_alloc_same,loc_alloc hej]
   have:=K.lt ((live_alloc hej).1 hj)
   show c.w.heap.size≠_
   omega
  ·by_cases hej:j = id
   ·subst hej
    rw[loc_alloc_same,loc_alloc hei]
    have:=K.lt ((live_alloc hei).1 hi)
    show _≠c.w.heap.size
    omega
   ·rw[loc_alloc hei,loc_alloc hej]
    exact K.inj i j hij ((live_alloc hei).1 hi) ((live_alloc hej).1 hj)
 ·intro i hi
  have he:i≠id:=by omega
  rw[hp_alloc he]
  exact K.fresh i hi
end Go.Ab
end
section
set_option linter.unusedVariables false
namespace Go.Ab
open Go.RowKit
def lset {α:Type}:List α→Nat→List α→List α
 | l,_,[] => l
 | l,o,x :: xs => lset (l.set o x) (o + 1) xs
theorem lset_length {α:Type}:∀ (xs l:List α) (o:Nat),(lset l o xs).length = l.length
 | [],_,_ => rfl
 | x :: xs,l,o => by rw[lset,lset_length];simp
theorem lset_eq {α:Type}:∀ (xs l:List α) (o:Nat),o + xs.length≤l.length→lset l o xs = l.take o ++ xs ++ l.drop (o + xs.length)
 | [],l,o,_ => by simp[lset]
 | x :: xs,l,o,h => by
   simp at h
   rw[lset,lset_eq xs _ _ (by simp;omega)]
   have h1:(l.set o x).take (o + 1) = l.take o ++ [x]:=by
    apply List.ext_getElem?
    intro j
    by_cases hj:j < o
    ·rw[List.getElem?_append_left (by simp;omega),List.getElem?_take,List.getElem?_take,List.getElem?_set_ne (by omega)]
     simp[hj,Nat.lt_succ_of_lt hj]
    ·by_cases hje:j = o
     ·subst hje
      rw[List.getElem?_append_right (by simp;omega),List.getElem?_take,List.getElem?_set_self (by omega)]
      simp
      rw[Nat.min_eq_left (by omega)]
      simp
     ·rw[List.getElem?_eq_none (by simp;omega),List.getElem?_eq_none (by simp;omega)]
   have h2:(l.set o x).drop (o + 1 + xs.length) = l.drop (o + (xs.length + 1)):=by
    apply List.ext_getElem?
    intro j
    rw[List.getElem?_drop,List.getElem?_drop,List.getElem?_set_ne (by omega)]
    congr 1
    omega
   rw[h1,h2]
   simp
theorem lset_append {α:Type}:∀ (xs l r:List α) (o:Nat),o + xs.length≤l.length→lset (l ++ r) o xs = lset l o xs ++ r
 | [],l,r,o,_ => rfl
 | x :: xs,l,r,o,h => by
   simp at h
   rw[lset,lset,List.set_append_left _ _ (by omega),lset_append xs _ r _ (by simp;omega)]
theorem splice_eq (cs:List AV) (o:Nat) (xs:List AV) (h:o + xs.length≤cs.length):splice cs o xs = lset cs o xs:=by
 unfold splice
 split
 ·rfl
 ·rw[lset_eq xs cs o h]
theorem Reps.lsetAll {c:Cx} {m:Bool}:∀ (xs:List AV) (us:List Value) (cs:List AV) (vs:List Value) (o:Nat),Reps c m cs vs→Reps c m xs us→Reps c m (Ab.lset cs o xs) (Ab.lset vs o us)
 | [],us,cs,vs,o,h,k => by
   have:=k.nil_inv
   subst this
   exact h
 | x :: xs,us,cs,vs,o,h,k => by
   obtain ⟨v,us',rfl,hv,k'⟩:=k.cons_inv
   exact Reps.lsetAll xs us' _ _ _ (h.set o hv) k'
theorem lset_all {p:AV→Bool}:∀ (xs cs:List AV) (o:Nat),cs.all p = true→xs.all p = true→(lset cs o xs).all p = true
 | [],_,_,h,_ => h
 | x :: xs,cs,o,h,k => by
   simp only[List.all_cons,Bool.and_eq_true] at k
   refine lset_all xs _ _ ?_ k.2
   rw[List.all_eq_true] at h ⊢
   intro y hy
   rcases List.mem_or_eq_of_mem_set hy with h1 | h1
   ·exact h y h1
   ·rw[h1];exact k.1
theorem heap_setCells_other (b:Nat):∀ (vs:List Value) (o:Nat) (w:World) (k:Nat),k≠b→(w.setCells b o vs).heap[k]? = w.heap[k]?
 | [],_,_,_,_ => rfl
 | v :: r,o,w,k,h => by rw[World.setCells,heap_setCells_other b r _ _ _ h];exact Below.heap_setCell w _ _ _ h
theorem size_setCells (b:Nat):∀ (vs:List Value) (o:Nat) (w:World),(w.setCells b o vs).heap.size = w.heap.size
 | [],_,_ => rfl
 | v :: r,o,w => by rw[World.setCells,size_setCells b r];simp
theorem heap_setCells_same (b:Nat):∀ (vs:List Value) (o:Nat) (w:World) (us:List Value) (ty:TypeId) (f:Nat × Nat),w.heap[b]? = some (.cells us.toArray ty f)→(w.setCells b o vs).heap[b]? = some (.cells (lset us o vs).toArray ty f)
 | [],_,_,_,_,_,h => h
 | v :: r,o,w,us,ty,f,h => by
   rw[World.setCells,lset]
   refine heap_setCells_same b r _ _ _ ty f ?_
   simp only[World.setCell,Array.getElem?_modify,if_true,h,Option.map_some]
   simp
theorem below_setCells (b:Nat) {B:Nat} {a:World}:∀ (vs:List Value) (o:Nat) (w:World),Below B a w→B≤b→Below B a (w.setCells b o vs)
 | [],_,_,h,_ => h
 | v :: r,o,w,h,hb => below_setCells b r _ _ (h.setCell hb v) hb
theorem drawn_setCells (b:Nat):∀ (vs:List Value) (o:Nat) (w:World),(w.setCells b o vs).drawn = w.drawn
 | [],_,_ => rfl
 | v :: r,o,w => (drawn_setCells b r _ _).trans rfl
theorem I_lt {c:Cx} (hb:c.base≤c.w.heap.size) {ad:Addr} (h:c.I ad):ad.block < c.w.heap.size:=by
 rcases h with ⟨h1,_⟩ | ⟨_,h2,_⟩
 ·omega
 ·exact h2
def Cx.store (c:Cx) (id off:Nat) (cs xs:List AV) (us:List Value):Cx:=
 { c with w:=c.w.setCells (c.loc id).1 off us,hp:=upd c.hp id (some (.cells (splice cs off xs) false)) }
theorem live_of {c:Cx} {id:Nat} {b:Blk} (h:c.hp id = some b) (hb:b≠.tok false):c.live id:=⟨b,h,hb⟩
theorem splice_len {cs xs:List AV} {o:Nat} (h:o + xs.length≤cs.length):(splice cs o xs).length = cs.length:=by rw[splice_eq _ _ _ h,lset_length]
theorem Evo.store {c:Cx} {nx:Nat} (K:Ok c nx) {id off:Nat} {cs xs:List AV} {us:List Value} (hid:c.hp id = some (.cells cs false)) (hf:off + xs.length≤cs.length):Evo c (c.store id off cs xs us) where
 num:=rfl
 dr:=fun _ => Nat.le_of_eq (drawn_setCells _ _ _ _).symm
 base:=rfl
 J:=rfl
 below:=below_setCells _ _ _ _ (Below.refl _ _) (K.cells id cs _ hid).1
 imm:=fun ad hI => by
  have hne:ad.block≠(c.loc id).1:=by
   intro he
   rcases hI with ⟨h1,_⟩ | ⟨_,_,h3⟩
   ·have:=(K.cells id cs _ hid).1;omega
   ·exact h3 (.inl ⟨id,cs,hid,he.symm⟩)
  refine ⟨?_,fun v hv => by rw[←hv];exact World.cell?_setCells_out _ _ _ _ _ (fun h => absurd h hne)⟩
  rcases hI with h1 | ⟨h1,h2,h3⟩
  ·exact .inl h1
  ·refine .inr ⟨h1,by show _ < (c.w.setCells _ _ _).heap.size;rw[size_setCells];exact h2,fun hw => h3 ?_⟩
   rcases hw with ⟨i,ds,hi,hb⟩ | ⟨i,hi,hb,hlo⟩
   ·by_cases he:i = id
    ·subst he;exact .inl ⟨i,cs,hid,hb⟩
    ·simp[Cx.store,upd,he] at hi;exact .inl ⟨i,ds,hi,hb⟩
   ·by_cases he:i = id
    ·subst he;simp[Cx.store,upd] at hi
    ·simp[Cx.store,upd,he] at hi;exact .inr ⟨i,hi,hb,hlo⟩
 ids:=fun i hi => by
  by_cases he:i = id
  ·subst he;simp[Cx.store,upd]
  ·exact ⟨by simpa [Cx.store,upd,he] using hi,rfl⟩
 tok:=fun i hi ht => by
  by_cases he:i = id
  ·subst he;simp[Cx.store,upd] at ht
  ·simp[Cx.store,upd,he] at ht
   refine ⟨ht,fun vs ty hv => ⟨vs,?_,rfl⟩⟩
   show (c.w.setCells _ _ _).heap[_]? = _
   rw[heap_setCells_other _ _ _ _ _ (K.inj i id he (live_of ht (by simp)) (live_of hid (by simp)))]
   exact hv
 cel:=fun i ds ro hi h => by
  by_cases he:i = id
  ·subst he
   simp[Cx.store,upd] at h
   obtain ⟨rfl,rfl⟩:=h
   refine ⟨cs,false,hid,(splice_len hf).symm,fun vs ty hv => ?_⟩
   obtain ⟨_,ws,rs,ty0,g2,_⟩:=K.cells i cs _ hid
   have g3:=heap_setCells_same _ us off _ _ _ _ g2
   have hv:(c.w.setCells (c.loc i).1 off us).heap[(c.loc i).1]? = _:=hv
   rw[g3] at hv
   cases hv
   exact ⟨_,g2,by simp[lset_length]⟩
  ·simp[Cx.store,upd,he] at h
   refine ⟨ds,ro,h,rfl,fun vs ty hv => ⟨vs,?_,Nat.le_refl _⟩⟩
   have hv:(c.w.setCells (c.loc id).1 off us).heap[(c.loc i).1]? = _:=hv
   rwa [heap_setCells_other _ _ _ _ _ (K.inj i id he (live_of h (by simp)) (live_of hid (by simp)))] at hv
theorem Ok.store {c:Cx} {nx:Nat} (K:Ok c nx) {id off:Nat} {cs xs:List AV} {us:List Value} (hid:c.hp id = some (.cells cs false)) (hr:Reps c true xs us) (hf:off + xs.length≤cs.length) (h1:xs.all Ab.one = true):
  Ok (c.store id off cs xs us) nx:=by
 have E:=Evo.store K (off:=off) (xs:=xs) (us:=us) hid hf
 have hlive:∀ i,(c.store id off cs xs us).live i→c.live i:=by
  intro i ⟨b,hb,hn⟩
  by_cases he:i = id
  ·subst he;exact live_of hid (by simp)
  ·simp[Cx.store,upd,he] at hb;exact ⟨b,hb,hn⟩
 have hne:∀ i b,i≠id→c.hp i = some b→b≠.tok false→(c.store id off cs xs us).w.heap[(c.loc i).1]? = c.w.heap[(c.loc i).1]?:=fun i b he hb hn =>
  heap_setCells_other _ _ _ _ _ (K.inj i id he (live_of hb hn) (live_of hid (by simp)))
 refine ⟨?_,?_,?_,?_,?_,?_,K.gl.evo E⟩
 ·show c.base≤(c.w.setCells _ _ _).heap.size
  rw[size_setCells];exact K.basele
 ·intro i ds ro hi
  by_cases he:i = id
  ·subst he
   simp[Cx.store,upd] at hi
   obtain ⟨rfl,rfl⟩:=hi
   obtain ⟨g1,vs,rs,ty,g2,g3,g4⟩:=K.cells i cs _ hid
   have g5:=heap_setCells_same _ us off _ _ _ _ g2
   rw[lset_append us vs rs off (by rw[←hr.1,←g3.1];exact hf)] at g5
   refine ⟨g1,lset vs off us,rs,ty,g5,?_,?_⟩
   ·rw[splice_eq cs off xs hf];exact (Reps.lsetAll _ _ _ _ off g3 hr).evo E
   ·rw[splice_eq cs off xs hf];exact lset_all _ _ _ g4 h1
  ·simp[Cx.store,upd,he] at hi
   obtain ⟨g1,vs,rs,ty,g2,g3,g4⟩:=K.cells i ds ro hi
   exact ⟨g1,vs,rs,ty,by rw[←g2];exact hne i _ he hi (by simp),g3.evo E,g4⟩
 ·intro i es hi
  have he:i≠id:=fun he => by subst he;simp[Cx.store,upd] at hi
  simp[Cx.store,upd,he] at hi
  obtain ⟨g1,ms,cl,g2,g3,g4⟩:=K.maps i es hi
  exact ⟨g1,ms,cl,by rw[←g2];exact hne i _ he hi (by simp),g3,fun j k v en hx hv => ⟨(g4 j k v en hx hv).1,(g4 j k v en hx hv).2.evo E⟩⟩
 ·intro i hi
  have he:i≠id:=fun he => by subst he;simp[Cx.store,upd] at hi
  simp[Cx.store,upd,he] at hi
  obtain ⟨g1,vs,ty,g2⟩:=K.toks i hi
  exact ⟨g1,vs,ty,by rw[←g2];exact hne i _ he hi (by simp)⟩
 ·intro i j hij hi hj
  exact K.inj i j hij (hlive i hi) (hlive j hj)
 ·intro i hi
  have he:i≠id:=fun he => by subst he;rw[K.fresh i hi] at hid;cases hid
  simpa [Cx.store,upd,he] using K.fresh i hi
def Cx.kill (c:Cx) (τ:Nat):Cx:={ c with hp:=upd c.hp τ (some (.tok false)) }
theorem Evo.kill {c:Cx} {τ:Nat} (ht:c.hp τ = some (.tok true)):Evo c (c.kill τ) where
 num:=rfl
 dr:=fun _ => Nat.le_refl _
 base:=rfl
 J:=rfl
 below:=Below.refl _ _
 imm:=fun ad hI => by
  refine ⟨?_,fun v hv => hv⟩
  rcases hI with h1 | ⟨h1,h2,h3⟩
  ·exact .inl h1
  ·refine .inr ⟨h1,h2,fun hw => h3 ?_⟩
   rcases hw with ⟨i,ds,hi,hb⟩ | ⟨i,hi,hb,hlo⟩
   ·by_cases he:i = τ
    ·subst he;simp[Cx.kill,upd] at hi
    ·simp[Cx.kill,upd,he] at hi;exact .inl ⟨i,ds,hi,hb⟩
   ·by_cases he:i = τ
    ·subst he;simp[Cx.kill,upd] at hi
    ·simp[Cx.kill,upd,he] at hi;exact .inr ⟨i,hi,hb,hlo⟩
 ids:=fun i hi => by
  by_cases he:i = τ
  ·subst he;simp[Cx.kill,upd]
  ·exact ⟨by simpa [Cx.kill,upd,he] using hi,rfl⟩
 tok:=fun i hi h => by
  by_cases he:i = τ
  ·subst he;simp[Cx.kill,upd] at h
  ·simp[Cx.kill,upd,he] at h;exact ⟨h,fun vs _ hv => ⟨vs,hv,rfl⟩⟩
 cel:=fun i ds ro hi h => by
  by_cases he:i = τ
  ·subst he;simp[Cx.kill,upd] at h
  ·simp[Cx.kill,upd,he] at h;exact ⟨ds,ro,h,rfl,fun vs _ hv => ⟨vs,hv,Nat.le_refl _⟩⟩
theorem Ok.kill {c:Cx} {nx:Nat} (K:Ok c nx) {τ:Nat} (ht:c.hp τ = some (.tok true)):Ok (c.kill τ) nx:=by
 have E:=Evo.kill ht
 have hlive:∀ i,(c.kill τ).live i→c.live i:=by
  intro i ⟨b,hb,hn⟩
  by_cases he:i = τ
  ·subst he;exact live_of ht (by simp)
  ·simp[Cx.kill,upd,he] at hb;exact ⟨b,hb,hn⟩
 refine ⟨K.basele,?_,?_,?_,fun i j hij hi hj => K.inj i j hij (hlive i hi) (hlive j hj),?_,K.gl.evo E⟩
 ·intro i ds ro hi
  have he:i≠τ:=fun he => by subst he;simp[Cx.kill,upd] at hi
  simp[Cx.kill,upd,he] at hi
  obtain ⟨g1,vs,rs,ty,g2,g3,g4⟩:=K.cells i ds ro hi
  exact ⟨g1,vs,rs,ty,g2,g3.evo E,g4⟩
 ·intro i es hi
  have he:i≠τ:=fun he => by subst he;simp[Cx.kill,upd] at hi
  simp[Cx.kill,upd,he] at hi
  obtain ⟨g1,ms,cl,g2,g3,g4⟩:=K.maps i es hi
  exact ⟨g1,ms,cl,g2,g3,fun j k v en hx hv => ⟨(g4 j k v en hx hv).1,(g4 j k v en hx hv).2.evo E⟩⟩
 ·intro i hi
  have he:i≠τ:=fun he => by subst he;simp[Cx.kill,upd] at hi
  simp[Cx.kill,upd,he] at hi
  exact K.toks i hi
 ·intro i hi
  have he:i≠τ:=fun he => by subst he;rw[K.fresh i hi] at ht;cases ht
  simpa [Cx.kill,upd,he] using K.fresh i hi
def Cx.onto (c:Cx) (τ id k:Nat) (us:List Value):Cx:=
 { c with w:=c.w.setCells (c.loc τ).1 (c.loc τ).2 us,loc:=upd c.loc id ((c.loc τ).1,(c.loc τ).2 + k),hp:=upd (upd c.hp τ (some (.tok false))) id (some (.tok true)) }
theorem heap_setCells_cells {w:World} {b:Nat} {vs:Array Value} {ty:TypeId} (h:w.heap[b]? = some (.cells vs ty (0,0))) (o:Nat) (us:List Value):
  ∃ vs',(w.setCells b o us).heap[b]? = some (.cells vs' ty (0,0))∧vs'.size = vs.size:=by
 refine ⟨_,heap_setCells_same b us o w vs.toList ty (0,0) (by simpa using h),?_⟩
 simp[lset_length]
theorem Evo.onto {c:Cx} {nx:Nat} (K:Ok c nx) {τ id k:Nat} {us:List Value} (ht:c.hp τ = some (.tok true)) (hid:c.hp id = none):Evo c (c.onto τ id k us):=by
 have hτ:τ≠id:=fun he => by rw[he,hid] at ht;cases ht
 have hsome:∀ i,(c.hp i).isSome→i≠id:=fun i hi he => by rw[he,hid] at hi;cases hi
 refine ⟨rfl,rfl,rfl,below_setCells _ _ _ _ (Below.refl _ _) (K.toks τ ht).1,?_,?_,?_,?_,fun _ => Nat.le_of_eq (drawn_setCells _ _ _ _).symm⟩
 ·intro ad hI
  have hout:ad.block = (c.loc τ).1→ad.off < (c.loc τ).2:=by
   intro he
   rcases hI with ⟨h1,_⟩ | ⟨_,_,h3⟩
   ·have:=(K.toks τ ht).1;omega
   ·rcases Nat.lt_or_ge ad.off (c.loc τ).2 with h | h
    ·exact h
    ·exact absurd (.inr ⟨τ,ht,he.symm,h⟩) h3
  refine ⟨?_,fun v hv => by rw[←hv];exact World.cell?_setCells_out _ _ _ _ _ (fun h _ => .inl (hout h))⟩
  rcases hI with h1 | ⟨h1,h2,h3⟩
  ·exact .inl h1
  ·refine .inr ⟨h1,by show _ < (c.w.setCells _ _ _).heap.size;rw[size_setCells];exact h2,fun hw => h3 ?_⟩
   rcases hw with ⟨i,ds,hi,hb⟩ | ⟨i,hi,hb,hlo⟩
   ·by_cases he:i = id
    ·subst he;simp[Cx.onto,upd] at hi
    ·by_cases he':i = τ
     ·subst he';simp[Cx.onto,upd,he] at hi
     ·simp[Cx.onto,upd,he,he'] at hi hb;exact .inl ⟨i,ds,hi,hb⟩
   ·by_cases he:i = id
    ·subst he
     simp[Cx.onto,upd] at hb hlo
     exact .inr ⟨τ,ht,hb,by omega⟩
    ·by_cases he':i = τ
     ·subst he';simp[Cx.onto,upd,he] at hi
     ·simp[Cx.onto,upd,he,he'] at hi hb hlo;exact .inr ⟨i,hi,hb,hlo⟩
 ·intro i hi
  have he:=hsome i hi
  by_cases he':i = τ
  ·subst he';simp[Cx.onto,upd,he]
  ·refine ⟨by simpa [Cx.onto,upd,he,he'] using hi,by simp[Cx.onto,upd,he]⟩
 ·intro i hi h
  have he:=hsome i hi
  by_cases he':i = τ
  ·subst he';simp[Cx.onto,upd,he] at h
  ·simp[Cx.onto,upd,he,he'] at h
   refine ⟨h,fun vs ty hv => ⟨vs,?_,rfl⟩⟩
   show (c.w.setCells _ _ _).heap[_]? = _
   rw[heap_setCells_other _ _ _ _ _ (K.inj i τ he' (live_of h (by simp)) (live_of ht (by simp)))]
   exact hv
 ·intro i ds ro hi h
  have he:=hsome i hi
  by_cases he':i = τ
  ·subst he';simp[Cx.onto,upd,he] at h
  ·simp[Cx.onto,upd,he,he'] at h
   refine ⟨ds,ro,h,rfl,fun vs ty hv => ⟨vs,?_,Nat.le_refl _⟩⟩
   have hv:(c.w.setCells (c.loc τ).1 (c.loc τ).2 us).heap[(c.loc i).1]? = _:=hv
   rwa [heap_setCells_other _ _ _ _ _ (K.inj i τ he' (live_of h (by simp)) (live_of ht (by simp)))] at hv
theorem Ok.onto {c:Cx} {nx:Nat} (K:Ok c nx) {τ id k:Nat} {us:List Value} (ht:c.hp τ = some (.tok true)) (hid:c.hp id = none) (hlt:id < nx):Ok (c.onto τ id k us) nx:=by
 have E:=Evo.onto K (k:=k) (us:=us) ht hid
 have hτ:τ≠id:=fun he => by rw[he,hid] at ht;cases ht
 have lt:=live_of ht (by simp)
 -- who lives then: the new one,or an elder one other than τ
 have hlive:∀ i,(c.onto τ id k us).live i→(i = id∨(i≠id∧i≠τ∧c.live i)):=by
  intro i ⟨b,hb,hn⟩
  by_cases he:i = id
  ·exact .inl he
  ·by_cases he':i = τ
   ·subst he';simp[Cx.onto,upd,he] at hb;exact absurd hb.symm hn
   ·simp[Cx.onto,upd,he,he'] at hb;exact .inr ⟨he,he',b,hb,hn⟩
 have hne:∀ i b,i≠id→i≠τ→c.hp i = some b→b≠.tok false→(c.onto τ id k us).w.heap[(c.loc i).1]? = c.w.heap[(c.loc i).1]?:=fun i b he he' hb hn =>
  heap_setCells_other _ _ _ _ _ (K.inj i τ he' (live_of hb hn) lt)
 refine ⟨?_,?_,?_,?_,?_,?_,K.gl.evo E⟩
 ·show c.base≤(c.w.setCells _ _ _).heap.size
  rw[size_setCells];exact K.basele
 ·intro i ds ro hi
  have he:i≠id:=fun he => by subst he;simp[Cx.onto,upd] at hi
  have he':i≠τ:=fun he' => by subst he';simp[Cx.onto,upd,he] at hi
  simp[Cx.onto,upd,he,he'] at hi
  obtain ⟨g1,vs,rs,ty,g2,g3,g4⟩:=K.cells i ds ro hi
  have hl:(c.onto τ id k us).loc i = c.loc i:=by simp[Cx.onto,upd,he]
  rw[hl]
  exact ⟨g1,vs,rs,ty,by rw[←g2];exact hne i _ he he' hi (by simp),g3.evo E,g4⟩
 ·intro i es hi
  have he:i≠id:=fun he => by subst he;simp[Cx.onto,upd] at hi
  have he':i≠τ:=fun he' => by subst he';simp[Cx.onto,upd,he] at hi
  simp[Cx.onto,upd,he,he'] at hi
  obtain ⟨g1,ms,cl,g2,g3,g4⟩:=K.maps i es hi
  have hl:(c.onto τ id k us).loc i = c.loc i:=by simp[Cx.onto,upd,he]
  rw[hl]
  exact ⟨g1,ms,cl,by rw[←g2];exact hne i _ he he' hi (by simp),g3,fun j k v en hx hv => ⟨(g4 j k v en hx hv).1,(g4 j k v en hx hv).2.evo E⟩⟩
 ·intro i hi
  by_cases he:i = id
  ·subst he
   obtain ⟨g1,vs,ty,g2⟩:=K.toks τ ht
   obtain ⟨vs',g3,_⟩:=heap_setCells_cells g2 (c.loc τ).2 us
   have hl:(c.onto τ i k us).loc i = ((c.loc τ).1,(c.loc τ).2 + k):=by simp[Cx.onto,upd]
   rw[hl]
   exact ⟨g1,vs',ty,g3⟩
  ·have he':i≠τ:=fun he' => by subst he';simp[Cx.onto,upd,he] at hi
   simp[Cx.onto,upd,he,he'] at hi
   obtain ⟨g1,vs,ty,g2⟩:=K.toks i hi
   have hl:(c.onto τ id k us).loc i = c.loc i:=by simp[Cx.onto,upd,he]
   rw[hl]
   exact ⟨g1,vs,ty,by rw[←g2];exact hne i _ he he' hi (by simp)⟩
 ·intro i j hij hi hj
  have hl:∀ i,i≠id→(c.onto τ id k us).loc i = c.loc i:=fun i he => by simp[Cx.onto,upd,he]
  have hls:(c.onto τ id k us).loc id = ((c.loc τ).1,(c.loc τ).2 + k):=by simp[Cx.onto,upd]
  rcases hlive i hi with rfl | ⟨hi1,hi2,hi3⟩
  ·rcases hlive j hj with rfl | ⟨hj1,hj2,hj3⟩
   ·exact absurd rfl hij
   ·rw[hls,hl j hj1];exact fun h => K.inj j τ hj2 hj3 lt h.symm
  ·rcases hlive j hj with rfl | ⟨hj1,hj2,hj3⟩
   ·rw[hls,hl i hi1];exact K.inj i τ hi2 hi3 lt
   ·rw[hl i hi1,hl j hj1];exact K.inj i j hij hi3 hj3
 ·intro i hi
  have he:i≠id:=by omega
  have he':i≠τ:=fun he => by subst he;rw[K.fresh i hi] at ht;cases ht
  simpa [Cx.onto,upd,he,he'] using K.fresh i hi
def Cx.lock (c:Cx) (ids:List Nat):Cx:={ c with hp:=Ab.lock c.hp ids }
theorem lock_cases (hp:Nat→Option Blk) (ids:List Nat) (i:Nat):(Ab.lock hp ids i = hp i)∨(i∈ids∧∃ cs ro,hp i = some (.cells cs ro)∧Ab.lock hp ids i = some (.cells cs true)):=by
 unfold Ab.lock
 by_cases h:ids.contains i = true
 ·rw[if_pos h]
  cases hb:hp i with
  | none => exact .inl rfl
  | some b =>
    cases b with
    | cells cs ro => exact .inr ⟨by simpa using h,cs,ro,rfl,rfl⟩
    | map es => exact .inl rfl
    | tok l => exact .inl rfl
 ·rw[if_neg h];exact .inl rfl
theorem lock_mem {hp:Nat→Option Blk} {ids:List Nat} {i:Nat} (h:i∈ids) {cs ro} (hi:hp i = some (.cells cs ro)):Ab.lock hp ids i = some (.cells cs true):=by
 unfold Ab.lock;rw[if_pos (by simpa using h),hi]
theorem Evo.lock (c:Cx) (ids:List Nat):Evo c (c.lock ids) where
 num:=rfl
 dr:=fun _ => Nat.le_refl _
 base:=rfl
 J:=rfl
 below:=Below.refl _ _
 imm:=fun ad hI => by
  refine ⟨?_,fun v hv => hv⟩
  rcases hI with h1 | ⟨h1,h2,h3⟩
  ·exact .inl h1
  ·refine .inr ⟨h1,h2,fun hw => h3 ?_⟩
   rcases hw with ⟨i,ds,hi,hb⟩ | ⟨i,hi,hb,hlo⟩
   ·rcases lock_cases c.hp ids i with h | ⟨_,cs,ro,_,h⟩
    ·exact .inl ⟨i,ds,by rw[←h];exact hi,hb⟩
    ·rw[show (c.lock ids).hp i = some (.cells cs true) from h] at hi;cases hi
   ·rcases lock_cases c.hp ids i with h | ⟨_,cs,ro,_,h⟩
    ·exact .inr ⟨i,by rw[←h];exact hi,hb,hlo⟩
    ·rw[show (c.lock ids).hp i = some (.cells cs true) from h] at hi;cases hi
 ids:=fun i hi => by
  refine ⟨?_,rfl⟩
  rcases lock_cases c.hp ids i with h | ⟨_,cs,ro,_,h⟩
  ·show (Ab.lock c.hp ids i).isSome;rw[h];exact hi
  ·show (Ab.lock c.hp ids i).isSome;rw[h];rfl
 tok:=fun i hi ht => by
  rcases lock_cases c.hp ids i with h | ⟨_,cs,ro,_,h⟩
  ·exact ⟨by rw[←h];exact ht,fun vs _ hv => ⟨vs,hv,rfl⟩⟩
  ·rw[show (c.lock ids).hp i = some (.cells cs true) from h] at ht;cases ht
 cel:=fun i ds ro hi hc => by
  rcases lock_cases c.hp ids i with h | ⟨_,cs,ro',h1,h⟩
  ·exact ⟨ds,ro,by rw[←h];exact hc,rfl,fun vs _ hv => ⟨vs,hv,Nat.le_refl _⟩⟩
  ·rw[show (c.lock ids).hp i = some (.cells cs true) from h] at hc
   cases hc
   exact ⟨_,_,h1,rfl,fun vs _ hv => ⟨vs,hv,Nat.le_refl _⟩⟩
theorem Ok.lock {c:Cx} {nx:Nat} (K:Ok c nx) (ids:List Nat):Ok (c.lock ids) nx:=by
 have E:=Evo.lock c ids
 have hlive:∀ i,(c.lock ids).live i→c.live i:=by
  intro i ⟨b,hb,hn⟩
  rcases lock_cases c.hp ids i with h | ⟨_,cs,ro,h1,_⟩
  ·exact ⟨b,by rw[←h];exact hb,hn⟩
  ·exact ⟨_,h1,by simp⟩
 refine ⟨K.basele,?_,?_,?_,fun i j hij hi hj => K.inj i j hij (hlive i hi) (hlive j hj),?_,K.gl.evo E⟩
 ·intro i ds ro hi
  rcases lock_cases c.hp ids i with h | ⟨_,cs,ro',h1,h⟩
  ·obtain ⟨g1,vs,rs,ty,g2,g3,g4⟩:=K.cells i ds ro (by rw[←h];exact hi)
   exact ⟨g1,vs,rs,ty,g2,g3.evo E,g4⟩
  ·rw[show (c.lock ids).hp i = some (.cells cs true) from h] at hi
   cases hi
   obtain ⟨g1,vs,rs,ty,g2,g3,g4⟩:=K.cells i _ _ h1
   exact ⟨g1,vs,rs,ty,g2,g3.evo E,g4⟩
 ·intro i es hi
  rcases lock_cases c.hp ids i with h | ⟨_,cs,ro',h1,h⟩
  ·obtain ⟨g1,ms,cl,g2,g3,g4⟩:=K.maps i es (by rw[←h];exact hi)
   exact ⟨g1,ms,cl,g2,g3,fun j k v en hx hv => ⟨(g4 j k v en hx hv).1,(g4 j k v en hx hv).2.evo E⟩⟩
  ·rw[show (c.lock ids).hp i = some (.cells cs true) from h] at hi;cases hi
 ·intro i hi
  rcases lock_cases c.hp ids i with h | ⟨_,cs,ro',h1,h⟩
  ·exact K.toks i (by rw[←h];exact hi)
  ·rw[show (c.lock ids).hp i = some (.cells cs true) from h] at hi;cases hi
 ·intro i hi
  rcases lock_cases c.hp ids i with h | ⟨_,cs,ro',h1,h⟩
  ·show Ab.lock c.hp ids i = none;rw[h];exact K.fresh i hi
  ·rw[K.fresh i hi] at h1;cases h1
theorem add_add (ad:Addr) (i j:Nat) (hs:ad.spot = none):(ad.add i).add j = ad.add (i + j):=by
 obtain ⟨b,o,s⟩:=ad
 simp only at hs
 subst hs
 simp only[Addr.add]
 by_cases hi:i = 0
 ·subst hi;simp
 ·by_cases hj:j = 0
  ·subst hj;simp[hi]
  ·simp[hi,hj];omega
theorem add_mk (b o j:Nat):(⟨b,o,none⟩:Addr).add j = ⟨b,o + j,none⟩:=by
 simp only[Addr.add];split
 ·subst_vars;rfl
 ·rfl
theorem cell_of_heap {w:World} {b:Nat} {vs:Array Value} {ty:TypeId} {f:Nat × Nat} (h:w.heap[b]? = some (.cells vs ty f)) (o:Nat):w.cell? ⟨b,o,none⟩ = vs[o]?:=by
 simp[World.cell?,h]
mutual
theorem frz_rep {c:Cx} {nx:Nat} (K:Ok c nx) {hp:Nat→Option Blk} (hh:∀ i b,hp i = some b→c.hp i = some b) {ids:List Nat}:∀ (k:Nat) {x x':AV} {v:Value},frz hp k x = some x'→(∀ i∈vis hp k x,i∈ids)→Rep c true x v→Rep (c.lock ids) false x' v
 | 0,_,_,_,h,_,_ => by simp[frz] at h
 | k + 1,x,x',v,h,hv,hr => by
   cases hr with
   | undef v hb => simp only[frz] at h;cases h;exact .undef v hb
   | b x => simp only[frz] at h;cases h;exact .b x
   | i k n => simp only[frz] at h;cases h;exact .i k n
   | s x => simp only[frz] at h;cases h;exact .s x
   | nilp => simp only[frz] at h;cases h;exact .nilp
   | nilf => simp only[frz] at h;cases h;exact .nilf
   | nili => simp only[frz] at h;cases h;exact .nili
   | @agg _ cs vs hl hc =>
     simp only[frz] at h
     cases hf:frzL hp k cs with
     | none => rw[hf] at h;cases h
     | some cs' =>
       rw[hf] at h;cases h
       have:=frzL_rep K hh k hf (fun i hi => hv i (by simpa [vis] using hi)) ⟨hl,hc⟩
       exact .agg vs this.1 this.2
   | @tup _ cs vs hl hc =>
     simp only[frz] at h
     cases hf:frzL hp k cs with
     | none => rw[hf] at h;cases h
     | some cs' =>
       rw[hf] at h;cases h
       have:=frzL_rep K hh k hf (fun i hi => hv i (by simpa [vis] using hi)) ⟨hl,hc⟩
       exact .tup vs this.1 this.2
   | sl ad vs hc hm hr ho hz h1 hl ha hk hrep ht =>
     simp only[frz] at h;cases h
     exact Rep.evo (Evo.lock c ids) (.sl ad vs hc hm (fun h => by cases h) (fun _ _ _ h => by cases h) hz h1 hl ha hk hrep (fun _ _ h => by cases h))
   | ptr ad vs h1 hl hk hrep =>
     simp only[frz] at h;cases h
     exact Rep.evo (Evo.lock c ids) (.ptr ad vs h1 hl hk hrep)
   | mp id off hs =>
     simp only[frz] at h
     cases hb:hp id with
     | none => rw[hb] at h;cases h
     | some b =>
       rw[hb] at h
       cases b with
       | map es => cases h
       | tok l => cases h
       | cells cs ro =>
         simp only at h
         cases hf:frzL hp k (cs.drop off) with
         | none => rw[hf] at h;cases h
         | some cs' =>
           rw[hf] at h;cases h
           have hci:=hh _ _ hb
           obtain ⟨g1,vs,rs,ty,g2,g3,g4⟩:=K.cells id cs ro hci
           have hlk:(c.lock ids).hp id = some (.cells cs true):=by
            cases ro with
            | false => exact lock_mem (hv id (by simp[vis,hb])) hci
            | true =>
              rcases lock_cases c.hp ids id with h | ⟨_,cs',ro',h1,h2⟩
              ·show Ab.lock _ _ _ = _;rw[h];exact hci
              ·rw[hci] at h1;cases h1;exact h2
           have:=frzL_rep K hh k hf (fun i hi => hv i (by
            simp only[vis,hb]
            exact List.mem_append_right _ hi)) (g3.drop off)
           refine .ptr ⟨(c.loc id).1,off,none⟩ (vs.drop off) (fun u hu => g3.ones g4 u (List.mem_of_mem_drop hu)) this.1 (fun j u hu => ?_) this.2
           rw[List.getElem?_drop] at hu
           rw[add_mk]
           refine ⟨?_,?_⟩
           ·refine .inr ⟨g1,(Array.getElem?_eq_some_iff.1 g2).1,fun hw => ?_⟩
            rcases hw with ⟨i,ds,hi,hbk⟩ | ⟨i,hi,hbk,_⟩
            ·by_cases he:i = id
             ·subst he;rw[hlk] at hi;cases hi
             ·have hli:c.live i:=by
               rcases lock_cases c.hp ids i with h | ⟨_,cs,ro,h1,_⟩
               ·exact ⟨_,by rw[←h];exact hi,by simp⟩
               ·exact ⟨_,h1,by simp⟩
              exact K.inj i id he hli (live_of hci (by simp)) hbk
            ·by_cases he:i = id
             ·subst he;rw[hlk] at hi;cases hi
             ·have hli:c.live i:=by
               rcases lock_cases c.hp ids i with h | ⟨_,cs,ro,h1,_⟩
               ·exact ⟨_,by rw[←h];exact hi,by simp⟩
               ·exact ⟨_,h1,by simp⟩
              exact K.inj i id he hli (live_of hci (by simp)) hbk
           ·show c.w.cell? _ = _
            rw[cell_of_heap g2,List.getElem?_toArray,List.getElem?_append_left (List.getElem?_eq_some_iff.1 hu).1]
            exact hu
   | mc id k e n cap hs => simp[frz] at h
   | ms id off n cap hs hcap hm hmo =>
     simp only[frz] at h
     cases hb:hp id with
     | none => rw[hb] at h;cases h
     | some b =>
       rw[hb] at h
       cases b with
       | map es => cases h
       | tok l => cases h
       | cells cs ro =>
         simp only at h
         cases hf:frzL hp k (cs.drop off) with
         | none => rw[hf] at h;cases h
         | some cs' =>
           rw[hf] at h;cases h
           have hci:=hh _ _ hb
           obtain ⟨g1,vs,rs,ty,g2,g3,g4⟩:=K.cells id cs ro hci
           have hlk:(c.lock ids).hp id = some (.cells cs true):=by
            cases ro with
            | false => exact lock_mem (hv id (by simp[vis,hb])) hci
            | true =>
              rcases lock_cases c.hp ids id with h | ⟨_,cs',ro',h1,h2⟩
              ·show Ab.lock _ _ _ = _;rw[h];exact hci
              ·rw[hci] at h1;cases h1;exact h2
           have:=frzL_rep K hh k hf (fun i hi => hv i (by
            simp only[vis,hb]
            exact List.mem_append_right _ hi)) (g3.drop off)
           refine .sl ⟨(c.loc id).1,off,none⟩ (vs.drop off) hcap hm (fun h => by cases h) (fun _ _ _ h => by cases h) (fun _ => rfl) (fun u hu => g3.ones g4 u (List.mem_of_mem_drop hu)) this.1 (fun _ => rfl) (fun j u hu => ?_) this.2 (fun _ _ h => by cases h)
           rw[List.getElem?_drop] at hu
           rw[add_mk]
           refine ⟨?_,?_⟩
           ·refine .inr ⟨g1,(Array.getElem?_eq_some_iff.1 g2).1,fun hw => ?_⟩
            rcases hw with ⟨i,ds,hi,hbk⟩ | ⟨i,hi,hbk,_⟩
            ·by_cases he:i = id
             ·subst he;rw[hlk] at hi;cases hi
             ·have hli:c.live i:=by
               rcases lock_cases c.hp ids i with h | ⟨_,cs,ro,h1,_⟩
               ·exact ⟨_,by rw[←h];exact hi,by simp⟩
               ·exact ⟨_,h1,by simp⟩
              exact K.inj i id he hli (live_of hci (by simp)) hbk
            ·by_cases he:i = id
             ·subst he;rw[hlk] at hi;cases hi
             ·have hli:c.live i:=by
               rcases lock_cases c.hp ids i with h | ⟨_,cs,ro,h1,_⟩
               ·exact ⟨_,by rw[←h];exact hi,by simp⟩
               ·exact ⟨_,h1,by simp⟩
              exact K.inj i id he hli (live_of hci (by simp)) hbk
           ·show c.w.cell? _ = _
            rw[cell_of_heap g2,List.getElem?_toArray,List.getElem?_append_left (List.getElem?_eq_some_iff.1 hu).1]
            exact hu
   | @fn _ f asx bs vs us hl hl' hr hr' =>
     simp only[frz] at h
     cases hf:frzL hp k asx with
     | none => rw[hf] at h;cases h
     | some as' =>
       rw[hf] at h
       cases hf':frzL hp k bs with
       | none => rw[hf'] at h;cases h
       | some bs' =>
         rw[hf'] at h;cases h
         have h1:=frzL_rep K hh k hf (fun i hi => hv i (by simp only[vis];exact List.mem_append_left _ hi)) ⟨hl,hr⟩
         have h2:=frzL_rep K hh k hf' (fun i hi => hv i (by simp only[vis];exact List.mem_append_right _ hi)) ⟨hl',hr'⟩
         exact .fn vs us h1.1 h2.1 h1.2 h2.2
   | mm id hs => simp only[frz] at h;cases h
theorem frzL_rep {c:Cx} {nx:Nat} (K:Ok c nx) {hp:Nat→Option Blk} (hh:∀ i b,hp i = some b→c.hp i = some b) {ids:List Nat}:∀ (k:Nat) {cs cs':List AV} {vs:List Value},frzL hp k cs = some cs'→(∀ i∈cs.flatMap (vis hp k),i∈ids)→Reps c true cs vs→Reps (c.lock ids) false cs' vs
 | k,[],cs',vs,h,_,hr => by
   simp only[frzL] at h;cases h
   rw[hr.nil_inv];exact Reps.nil
 | k,x :: cs,cs',vs,h,hv,hr => by
   simp only[frzL] at h
   obtain ⟨v,us,rfl,hx,ht⟩:=hr.cons_inv
   split at h
   ·rename_i y ys hy hys
    cases h
    exact Reps.cons (frz_rep K hh k hy (fun i hi => hv i (by simp[hi])) hx) (frzL_rep K hh k hys (fun i hi => hv i (by
     simp only[List.flatMap_cons];exact List.mem_append_right _ hi)) ht)
   ·cases h
end
mutual
theorem vis_none:∀ (k:Nat) {x y:AV},frz (fun _ => none) k x = some y→vis (fun _ => none) k x = []
 | 0,_,_,h => by simp[frz] at h
 | k + 1,x,y,h => by
   cases x with
   | agg cs =>
     simp only[frz] at h
     cases hf:frzL (fun _ => none) k cs with
     | none => rw[hf] at h;cases h
     | some ds => simp only[vis];exact visL_none k hf
   | tup cs =>
     simp only[frz] at h
     cases hf:frzL (fun _ => none) k cs with
     | none => rw[hf] at h;cases h
     | some ds => simp only[vis];exact visL_none k hf
   | fn f asx bs =>
     simp only[frz] at h
     cases hf:frzL (fun _ => none) k asx with
     | none => rw[hf] at h;cases h
     | some as' =>
       cases hf':frzL (fun _ => none) k bs with
       | none => rw[hf,hf'] at h;cases h
       | some bs' => simp only[vis];rw[visL_none k hf,visL_none k hf'];rfl
   | ifc t v =>
     simp only[frz] at h
     cases hf:frz (fun _ => none) k v with
     | none => rw[hf] at h;cases h
     | some v' => simp only[vis];exact vis_none k hf
   | mp id off => simp[frz] at h
   | ms id off n => simp[frz] at h
   | mm id => simp[frz] at h
   | mc id k e n => simp[frz] at h
   | undef => rfl
   | b x => rfl
   | i k n => rfl
   | s x => rfl
   | nilp => rfl
   | nilf => rfl
   | nili => rfl
   | sl cs n t => rfl
   | ptr cs => rfl
theorem visL_none:∀ (k:Nat) {cs ds:List AV},frzL (fun _ => none) k cs = some ds→cs.flatMap (vis (fun _ => none) k) = []
 | k,[],_,_ => rfl
 | k,x :: cs,ds,h => by
   simp only[frzL] at h
   split at h
   ·rename_i hx hs
    rw[List.flatMap_cons,vis_none k hx,visL_none k hs]
    rfl
   ·cases h
end
theorem lock_nil (c:Cx):c.lock [] = c:=by
 unfold Cx.lock
 congr 1
theorem frzL_none {c:Cx} {nx:Nat} (K:Ok c nx) {k:Nat} {cs cs':List AV} {vs:List Value} (h:frzL (fun _ => none) k cs = some cs') (hr:Reps c true cs vs):Reps c false cs' vs:=by
 have:=frzL_rep K (hp:=fun _ => none) (ids:=[]) (fun _ _ h => by cases h) k h (by rw[visL_none k h];exact fun _ h => h) hr
 rwa [lock_nil] at this
end Go.Ab
end
section
set_option linter.unusedVariables false
namespace Go.Ab
open Go.RowKit
def constB:AV→Value→Bool
 | .b x,.bool y => x == y
 | .i k n,.int j m => decide (k = j) && decide (n = m)
 | .s x,.string y => decide (x = y)
 | .nilp,.pointer none => true
 | .nilf,.nilFunc => true
 | .nili,.nilIface => true
 | .sl [] 0 .rig,.slice none 0 0 => true
 | _,_ => false
def constsB:List AV→List Value→Bool
 | [],[] => true
 | x :: xs,v :: vs => constB x v && constsB xs vs
 | _,_ => false
theorem rep_nilsl (c:Cx) (m:Bool):Rep c m (.sl [] 0 .rig) (.slice none 0 0):=
 .sl ⟨0,0,none⟩ [] (Nat.le_refl _) (Nat.zero_le _) (fun _ => rfl) (fun _ _ _ h => by cases h) (fun h => absurd h (Nat.lt_irrefl _)) (fun _ h => by simp at h) rfl (fun h => absurd rfl h) (fun _ _ h => by simp at h) (fun _ _ _ h => by simp at h) (fun _ _ h => by cases h)
theorem constB_rep {x:AV} {v:Value} (h:constB x v = true) (c:Cx) (m:Bool):Rep c m x v:=by
 unfold constB at h
 split at h
 ·simp at h;subst h;exact .b _
 ·simp at h;obtain ⟨rfl,rfl⟩:=h;exact .i _ _
 ·simp at h;subst h;exact .s _
 ·exact .nilp
 ·exact .nilf
 ·exact .nili
 ·exact rep_nilsl c m
 ·cases h
theorem constsB_rep:∀ {xs:List AV} {vs:List Value},constsB xs vs = true→∀ (c:Cx) (m:Bool),Reps c m xs vs
 | [],[],_,c,m => Reps.nil
 | x :: xs,v :: vs,h,c,m => by
   simp only[constsB,Bool.and_eq_true] at h
   exact Reps.cons (constB_rep h.1 c m) (constsB_rep h.2 c m)
 | [],_ :: _,h,_,_ => by simp[constsB] at h
 | _ :: _,[],h,_,_ => by simp[constsB] at h
theorem constB_one {x:AV} {v:Value} (h:constB x v = true):Ab.one x = true:=by
 unfold constB at h
 split at h<;>first | rfl | cases h
theorem constsB_one:∀ {xs:List AV} {vs:List Value},constsB xs vs = true→xs.all Ab.one = true
 | [],[],_ => rfl
 | x :: xs,v :: vs,h => by
   simp only[constsB,Bool.and_eq_true] at h
   simp only[List.all_cons,constB_one h.1,constsB_one h.2,Bool.and_self]
 | [],_ :: _,h => by simp[constsB] at h
 | _ :: _,[],h => by simp[constsB] at h
section
variable (P:Program) (nm:Nat→Nat)
def opdB:Operand→Opd→Bool
 | .tmp t,.t n => t == n
 | .const (.agg cs),.c (.agg xs) => constsB xs cs.toList
 | .const v,.c x => constB x v
 | .func f,.c (.fn n [] []) => nm n == f
 | _,_ => false
def opdsB:List Operand→List Opd→Bool
 | [],[] => true
 | x :: xs,y :: ys => opdB nm x y && opdsB xs ys
 | _,_ => false
def opdO:Option Operand→Option Opd→Bool
 | none,none => true
 | some x,some y => opdB nm x y
 | _,_ => false
def isAggB (t:TypeId):Bool:=match P.underlying t with | some (.struct _) | some (.array _ _) => true | _ => false
def aggB (t:TypeId):Option Nat→Bool
 | none => !isAggB P t && (P.underlying t).isSome && (P.info? t).isSome
 | some n => isAggB P t && ((P.info? t).map (·.size) == some n)
def zeroB (t:TypeId) (zero:List AV):Bool:=match P.info? t with
 | some i => match i.zero with
   | some z => constsB zero z.cells.toList && (i.size == zero.length)
   | none => false
 | none => false
def sizeB (t:TypeId) (n:Nat):Bool:=(P.info? t).map (·.size) == some n
def partsB (place:Nat→Option (Nat × Nat)):List (Nat × Operand)→List (Nat × Nat × Opd)→Bool
 | [],[] => true
 | (i,x) :: ps,(off,n,y) :: qs => (place i == some (off,n)) && opdB nm x y && partsB place ps qs
 | _,_ => false
def fieldPlaces (fs:Array Field):Array (Option (Nat × Nat)):=fs.map fun f => (P.info? f.type).map fun i => (f.offset,i.size)
def kindB (t:TypeId):Option Nat:=
 if aggB P t none && sizeB P t 1 then (match P.underlying t with
  | some (.int _) => some 0
  | some .bool => some 1
  | some .string => some 2
  | _ => none) else none
def eqFieldsB:Nat→List Field→List Nat→Bool
 | _,[],[] => true
 | n,f :: fs,k :: ks => (f.name != "_") && (f.offset == n) && (kindB P f.type == some k) && eqFieldsB (n + 1) fs ks
 | _,_,_ => false
def opB (o:Op) (ao:AOp):Bool:=
 match ao with
 | .mv x => match o with
   | .move y | .assign y => opdB nm y x
   | _ => false
 | .pick c a b => match o with
   | .pick c' a' b' => opdB nm c' c && opdB nm a' a && opdB nm b' b
   | _ => false
 | .new zero => match o with
   | .alloc t => zeroB P t zero
   | _ => false
 | .box x => match o with
   | .box _ y => opdB nm y x
   | _ => false
 | .boxI x => match o with
   | .box _ y => opdB nm y x
   | _ => false
 | .build zero parts => match o with
   | .build t ps => zeroB P t zero && (match P.underlying t with
     | some (.struct fs) => (fieldPlaces P fs).all (·.isSome) && partsB nm (fun i => ((fieldPlaces P fs)[i]?).bind id) ps.toList parts
     | some (.array _ e) => (match P.info? e with | some i => partsB nm (fun j => some (j * i.size,i.size)) ps.toList parts | none => false)
     | _ => false)
   | _ => false
 | .bsl _ n zero parts => match o with
   | .buildSlice t len ps => (match P.underlying t with
     | some (.slice e) => (match P.info? e with
       | some i => (match i.zero with
         | some z => (len == n) && decide (len * i.size≤2 ^ 24) && decide (len≤2 ^ 24) && (z.cells.size == i.size) &&
          constsB zero ((Array.range (len * i.size)).map (z.cells[· % z.cells.size]!)).toList && partsB nm (fun j => some (j * i.size,i.size)) ps.toList parts
         | none => false)
       | none => false)
     | _ => false)
   | _ => false
 | .ld agg x => match o with
   | .load t y => aggB P t agg && opdB nm y x
   | _ => false
 | .ldQ agg x _ => match o with
   | .load t y => aggB P t agg && opdB nm y x
   | _ => false
 | .stN n a x _ => match o with
   | .store t b y => sizeB P t n && opdB nm b a && opdB nm y x
   | _ => false
 | .ldF agg x => match o with
   | .load t y => aggB P t agg && opdB nm y x
   | _ => false
 | .stW n a x => match o with
   | .store t b y => sizeB P t n && opdB nm b a && opdB nm y x
   | _ => false
 | .st n a x => match o with
   | .store t b y => sizeB P t n && opdB nm b a && opdB nm y x
   | _ => false
 | .stL n a x => match o with
   | .store t b y => sizeB P t n && opdB nm b a && opdB nm y x
   | _ => false
 | .nilck x => match o with
   | .nilCheck y => opdB nm y x
   | _ => false
 | .un op x => match o with
   | .unOp op' _ y => decide (op' = op) && opdB nm y x
   | _ => false
 | .conv k x => match o with
   | .convert _ dst y => (match P.underlying dst with | some (.int k') => decide (k' = k) | _ => false) && (P.underlying (match o with | .convert s _ _ => s | _ => 0)).isSome && opdB nm y x
   | _ => false
 | .mkfn f fst caps => match o with
   | .makeFunc (.func f') a b => (nm f == f') && opdsB nm a.toList fst && opdsB nm b.toList caps
   | _ => false
 | .mksl zero esz bytes len cap => match o with
   | .makeSlice t l c => (match P.underlying t with
     | some (.slice e) => zeroB P e zero && (match P.info? e with | some i => (i.size == esz) && (i.bytes == bytes) && decide (0 < esz) | none => false)
     | _ => false) && opdB nm l len && opdB nm c cap
   | _ => false
 | .slice esz x lo hi mx => match o with
   | .slice t y l h m => (match P.underlying t with
     | some (.slice e) => sizeB P e esz
     | _ => false) && opdB nm y x && opdO nm l lo && opdO nm h hi && opdO nm m mx && (mx.isNone || hi.isSome)
   | _ => false
 | .fa off x => match o with
   | .fieldAddr t y f => (match P.underlying t with
     | some (.struct fs) => (match fs[f]? with
       | some fd => (fd.offset == off) && (match P.info? fd.type with | some i => i.size != 0 | none => false)
       | none => false)
     | _ => false) && opdB nm y x
   | _ => false
 | .fld off agg x => match o with
   | .field t y f => (match P.underlying t with
     | some (.struct fs) => (match fs[f]? with
       | some fd => (fd.offset == off) && aggB P fd.type agg
       | none => false)
     | _ => false) && opdB nm y x
   | _ => false
 | .ia esz x i => match o with
   | .indexAddr t y j => (match P.underlying t with
     | some (.slice e) => sizeB P e esz
     | _ => false) && opdB nm y x && opdB nm j i
   | _ => false
 | .iaa len esz x i => match o with
   | .indexAddr t y j => (match P.underlying t with
     | some (.array n e) => (n == len) && sizeB P e esz
     | _ => false) && opdB nm y x && opdB nm j i
   | _ => false
 | .idx len esz agg x i => match o with
   | .index t y j => (match P.underlying t with
     | some (.array n e) => (n == len) && sizeB P e esz && aggB P e agg
     | _ => false) && opdB nm y x && opdB nm j i
   | _ => false
 | .sidx x i => match o with
   | .index t y j => (match P.underlying t with | some .string => true | _ => false) && opdB nm y x && opdB nm j i
   | _ => false
 | .ext i x => match o with
   | .extract y j => (i == j) && opdB nm y x
   | _ => false
 | .len x => match o with
   | .call c => (match c.callee with | .builtin .len => true | _ => false) && (match c.args.toList,c.argTypes.toList with
     | [y],[t] => opdB nm y x && (match P.underlying t with | some (.slice _) => true | _ => false)
     | _,_ => false)
   | _ => false
 | .slen x => match o with
   | .call c => (match c.callee with | .builtin .len => true | _ => false) && (match c.args.toList,c.argTypes.toList with
     | [y],[t] => opdB nm y x && (match P.underlying t with | some .string => true | _ => false)
     | _,_ => false)
   | _ => false
 | .sslice x lo hi => match o with
   | .slice t y l h none => (match P.underlying t with | some .string => true | _ => false) && opdB nm y x && opdO nm l lo && opdO nm h hi
   | _ => false
 | .mx x y => match o with
   | .call c => (match c.callee with | .builtin .max => true | _ => false) && opdsB nm c.args.toList [x,y]
   | _ => false
 | .mn x y => match o with
   | .call c => (match c.callee with | .builtin .min => true | _ => false) && opdsB nm c.args.toList [x,y]
   | _ => false
 | .app esz bytes x y => match o with
   | .call c => (match c.callee with | .builtin .append => true | _ => false) && opdsB nm c.args.toList [x,y] && (match c.argTypes.toList with
     | [t,u] => (match P.underlying t,P.underlying u with
       | some (.slice e),some (.slice _) => (match P.info? e with
         | some i => (i.size == esz) && (i.bytes == bytes) && (match i.zero with | some z => (z.cells.size == esz) && decide (0 < esz) | none => false)
         | none => false)
       | _,_ => false)
     | _ => false)
   | _ => false
 | .appM esz bytes x y => match o with
   | .call c => (match c.callee with | .builtin .append => true | _ => false) && opdsB nm c.args.toList [x,y] && (match c.argTypes.toList with
     | [t,u] => (match P.underlying t,P.underlying u with
       | some (.slice e),some (.slice _) => (match P.info? e with
         | some i => (i.size == esz) && (i.bytes == bytes) && (match i.zero with | some z => (z.cells.size == esz) && decide (0 < esz) | none => false)
         | none => false)
       | _,_ => false)
     | _ => false)
   | _ => false
 | .clr esz zero x => match o with
   | .call c => (match c.callee with | .builtin .clear => true | _ => false) && (match c.args.toList,c.argTypes.toList with
     | [y],[t] => opdB nm y x && (match P.underlying t with | some (.slice el) => zeroB P el zero && (match P.info? el with | some i => (i.size == esz) && decide (0 < esz) | none => false) | _ => false)
     | _,_ => false)
   | _ => false
 | .cutM esz x hi => match o with
   | .slice t y none (some h) none => (match P.underlying t with
     | some (.slice e) => sizeB P e esz
     | _ => false) && opdB nm y x && opdB nm h hi
   | _ => false
 | .bad => true
 | .call _ f args => match o with
   | .call c => (match c.callee with | .value g => opdB nm g f | _ => false) && opdsB nm c.args.toList args
   | _ => false
 | .mkmap => match o with
   | .makeMap _ none => true
   | _ => false
 | .mput m k v => match o with
   | .insert t m' k' v' | .mapUpdate t m' k' v' => (match P.underlying t with
     | some (.map kt _) => (match P.underlying kt with | some .string => true | _ => false)
     | _ => false) && opdB nm m' m && opdB nm k' k && opdB nm v' v
   | _ => false
 | .mget m k => match o with
   | .lookup t m' k' false => (match P.underlying t with
     | some (.map kt _) => (match P.underlying kt with | some .string => true | _ => false)
     | _ => false) && opdB nm m' m && opdB nm k' k
   | _ => false
 | .bin op x y => match o with
   | .binOp op' t a b _ => decide (op' = op) && opdB nm a x && opdB nm b y
   | _ => false
 | .eqb neg x y => match o with
   | .binOp op t a b _ => decide (op = if neg then .neq else .eql) && opdB nm a x && opdB nm b y && (match P.underlying t with | some .bool => true | _ => false)
   | _ => false
 | .eqn neg x y => match o with
   | .binOp op t a b _ => decide (op = if neg then .neq else .eql) && opdB nm a x && opdB nm b y && (match P.underlying t with | some (.pointer _) => true | _ => false)
   | _ => false
 | .eqs neg x => match o with
   | .binOp op t a (.const (.slice none _ _)) _ => decide (op = if neg then .neq else .eql) && opdB nm a x && (match P.underlying t with | some (.slice _) => true | _ => false)
   | _ => false
 | .eqa neg ks x y => match o with
   | .binOp op t a b _ => decide (op = if neg then .neq else .eql) && opdB nm a x && opdB nm b y && !P.eqGuardType P.depth t && (match P.underlying t with
     | some (.array n e) => (match kindB P e with | some k => ks == List.replicate n k | none => false)
     | some (.struct fs) => !P.stoodInHeld t && eqFieldsB P 0 fs.toList ks
     | _ => false)
   | _ => false
end
end Go.Ab
end
section
set_option linter.unusedVariables false
set_option linter.unusedSimpArgs false
namespace Go.Ab
open Go.RowKit
def EnvOk (c:Cx) (e:Env) (a:Act):Prop:=∀ t,Rep c true (e t) (a.tmps.getD t Go.undef)
theorem EnvOk.evo {c c':Cx} (E:Evo c c') {e:Env} {a:Act} (h:EnvOk c e a):EnvOk c' e a:=fun t => (h t).evo E
theorem opdB_rep {c:Cx} {e:Env} {a:Act} (he:EnvOk c e a) {o:Operand} {y:Opd} (h:opdB c.num o y = true):Rep c true (y.ev e) (a.eval o):=by
 unfold opdB at h
 split at h
 ·simp at h;subst h;exact he _
 ·rename_i cs xs
  have:=constsB_rep h c true
  have k:=Rep.agg (c:=c) cs.toList this.1 this.2
  show Rep c true (.agg xs) (.agg cs)
  simpa using k
 ·exact constB_rep h c true
 ·simp at h
  subst h
  exact Rep.fn [] [] rfl rfl (fun _ _ _ h => by simp at h) (fun _ _ _ h => by simp at h)
 ·cases h
theorem opdsB_rep {c:Cx} {e:Env} {a:Act} (he:EnvOk c e a):∀ {os:List Operand} {ys:List Opd},opdsB c.num os ys = true→Reps c true (ys.map (·.ev e)) (os.map a.eval)
 | [],[],_ => Reps.nil
 | o :: os,y :: ys,h => by
   simp only[opdsB,Bool.and_eq_true] at h
   exact Reps.cons (opdB_rep he h.1) (opdsB_rep he h.2)
 | [],_ :: _,h => by simp[opdsB] at h
 | _ :: _,[],h => by simp[opdsB] at h
def Does (P:Program) (o:Oper) (a:Act) (c:Cx) (r:AV × G):Prop:=
 ∃ n c' val,(execOp a.eval o).run P c.w = .ok n c'.w∧(n = .value val∨(n = .skip∧val = Go.undef))∧Evo c c'∧Ok c' r.2.nx∧c'.hp = r.2.hp∧Rep c' true r.1 val
theorem Does.quiet {P:Program} {o:Oper} {a:Act} {c:Cx} {v:AV} {g:G} {val:Value} (K:Ok c g.nx) (hg:c.hp = g.hp) (hr:Rep c true v val)
  (h:(execOp a.eval o).run P c.w = .ok (.value val) c.w):Does P o a c (v,g):=
 ⟨_,c,val,h,.inl rfl,Evo.refl c,K,hg,hr⟩
theorem part_add {c:Cx} {m:Bool} {cs:List AV} {vs:List Value} (h:Reps c m cs vs) {off:Nat} {x:AV} {agg:Option Nat} (hp:part cs off agg = some x):
  (∀ n,agg = some n→∃ us:List Value,us.length = n∧(∀ (j:Nat) u,us[j]? = some u→vs[off + j]? = some u)∧Rep c m x (.agg us.toArray)) ∧
  (agg = none→∃ u,vs[off]? = some u∧Rep c m x u):=by
 refine ⟨fun n hn => ?_,fun hn => ?_⟩
 ·subst hn
  simp only[part] at hp
  split at hp
  ·rename_i hle
   cases hp
   have k:=(h.drop off).take n
   refine ⟨(vs.drop off).take n,by simp[←h.1];omega,fun j u hu => ?_,.agg _ k.1 k.2⟩
   rw[List.getElem?_take] at hu
   split at hu
   ·rwa [List.getElem?_drop] at hu
   ·cases hu
  ·cases hp
 ·subst hn
  simp only[part] at hp
  exact h.get hp
theorem aggB_none {P:Program} {t:TypeId} (h:aggB P t none = true):∃ d i,P.underlying t = some d∧P.info? t = some i∧(∀ w,(isAgg t).run P w = .ok false w):=by
 simp only[aggB,Bool.and_eq_true,Bool.not_eq_true'] at h
 obtain ⟨⟨h1,h2⟩,h3⟩:=h
 obtain ⟨d,hd⟩:=Option.isSome_iff_exists.1 h2
 obtain ⟨i,hi⟩:=Option.isSome_iff_exists.1 h3
 refine ⟨d,i,hd,hi,fun w => ?_⟩
 unfold isAggB at h1
 rw[hd] at h1
 cases d<;>first | (simp at h1;done) | simp[isAgg,run_underlying hd]
theorem aggB_some {P:Program} {t:TypeId} {n:Nat} (h:aggB P t (some n) = true):∃ i,P.info? t = some i∧i.size = n∧(∀ w,(isAgg t).run P w = .ok true w):=by
 simp only[aggB,Bool.and_eq_true,beq_iff_eq,Option.map_eq_some_iff] at h
 obtain ⟨h1,i,hi,hs⟩:=h
 refine ⟨i,hi,hs,fun w => ?_⟩
 unfold isAggB at h1
 cases hd:P.underlying t with
 | none => rw[hd] at h1;cases h1
 | some d =>
   rw[hd] at h1
   cases d<;>first | (simp at h1;done) | simp[isAgg,run_underlying hd]
theorem sizeB_some {P:Program} {t:TypeId} {n:Nat} (h:sizeB P t n = true):∃ i,P.info? t = some i∧i.size = n:=by
 simpa [sizeB] using h
theorem zeroB_some {P:Program} {t:TypeId} {zero:List AV} (h:zeroB P t zero = true):∃ i z,P.info? t = some i∧i.zero = some z∧constsB zero z.cells.toList = true∧i.size = zero.length:=by
 unfold zeroB at h
 split at h
 ·rename_i i hi
  split at h
  ·rename_i z hz
   simp only[Bool.and_eq_true,beq_iff_eq] at h
   exact ⟨i,z,hi,hz,h.1,h.2⟩
  ·cases h
 ·cases h
theorem run_loadVar_ab {P:Program} {c:Cx} {m:Bool} {w:World} {t:TypeId} {agg:Option Nat} (ht:aggB P t agg = true) {ad:Addr} {cs:List AV} {vs:List Value} (hr:Reps c m cs vs) {off:Nat} {x:AV} (hp:part cs off agg = some x)
  (hc:∀ (j:Nat) u,vs[off + j]? = some u→w.cell? (ad.add j) = some u):∃ val,(loadVar t ad).run P w = .ok val w∧Rep c m x val:=by
 cases agg with
 | none =>
   obtain ⟨d,i,hd,hi,hagg⟩:=aggB_none ht
   obtain ⟨u,hu,hx⟩:=(part_add hr hp).2 rfl
   refine ⟨u,?_,hx⟩
   have:=hc 0 u (by simpa using hu)
   simp only[Addr.add,if_true] at this
   simp[loadVar,hagg,this]
 | some n =>
   obtain ⟨i,hi,hs,hagg⟩:=aggB_some ht
   obtain ⟨us,hl,hu,hx⟩:=(part_add hr hp).1 n rfl
   refine ⟨_,?_,hx⟩
   have:=run_loadCells_list (P:=P) w ad us (fun j v hv => hc j v (hu j v hv))
   rw[hl] at this
   simp[loadVar,hagg,sizeOf,typeInfo,hi,hs,this]
theorem Does.fresh {P:Program} {o:Oper} {a:Act} {c:Cx} {g:G} {id:Nat} (K:Ok c g.nx) (hg:c.hp = g.hp) (hid:c.hp id = none) (hlt:id < g.nx) {ob:Obj} {lo:Nat} {b:Blk} (hn:NewOk c ob b) (v:AV) (val:Value)
  (hrep:Rep (c.alloc id ob lo b) true v val) (hrun:(execOp a.eval o).run P c.w = .ok (.value val) (c.w.alloc ob)):Does P o a c (v,⟨upd g.hp id (some b),g.nx⟩):=
 ⟨_,c.alloc id ob lo b,val,hrun,.inl rfl,Evo.alloc K hid ob lo b,K.alloc hid hlt hn,by simp[Cx.alloc,hg],hrep⟩
theorem rep_new {c:Cx} {id:Nat} {ob:Obj} {lo:Nat} {b:Blk}:Rep (c.alloc id ob lo b) true (.mp id 0) (.pointer (some ⟨c.w.heap.size,0,none⟩)):=by
 have:=Rep.mp (c:=c.alloc id ob lo b) id 0 (by rw[hp_alloc_same];rfl)
 rwa [loc_alloc_same] at this
def Cx.grow (c:Cx) (w':World):Cx:={ c with w:=w' }
theorem Evo.grow {c:Cx} {nx:Nat} (K:Ok c nx) {w':World} (hb:Below c.w.heap.size c.w w') (hd:c.num 1000001 = 0→c.w.drawn≤w'.drawn):Evo c (c.grow w') where
 num:=rfl
 dr:=hd
 base:=rfl
 J:=rfl
 below:=hb.mono K.basele
 imm:=fun ad hI => by
  have hlt:=I_lt K.basele hI
  refine ⟨?_,fun v hv => by rw[←hv];exact hb.cell hlt⟩
  rcases hI with h1 | ⟨h1,h2,h3⟩
  ·exact .inl h1
  ·exact .inr ⟨h1,Nat.lt_of_lt_of_le h2 hb.size,h3⟩
 ids:=fun i hi => ⟨hi,rfl⟩
 tok:=fun i hi ht => ⟨ht,fun vs ty hv => ⟨vs,by rw[←hv];exact hb.block _ (Array.getElem?_eq_some_iff.1 hv).1,rfl⟩⟩
 cel:=fun i cs ro hi hc => by
  refine ⟨cs,ro,hc,rfl,fun vs ty hv => ⟨vs,?_,Nat.le_refl _⟩⟩
  have hlt:=K.lt (id:=i) ⟨_,hc,by simp⟩
  rw[←hv];exact (hb.block _ hlt).symm
theorem Ok.grow {c:Cx} {nx:Nat} (K:Ok c nx) {w':World} (hb:Below c.w.heap.size c.w w') (hd:c.num 1000001 = 0→c.w.drawn≤w'.drawn):Ok (c.grow w') nx where
 basele:=Nat.le_trans K.basele hb.size
 cells:=fun id cs ro hh => by
  obtain ⟨h1,vs,rs,ty,h2,h3,h4⟩:=K.cells id cs ro hh
  exact ⟨h1,vs,rs,ty,by rw[←h2];exact hb.block _ (Array.getElem?_eq_some_iff.1 h2).1,h3.evo (Evo.grow K hb hd),h4⟩
 maps:=fun id es hh => by
  obtain ⟨h1,ms,cl,h2,h3,h4⟩:=K.maps id es hh
  exact ⟨h1,ms,cl,by rw[←h2];exact hb.block _ (Array.getElem?_eq_some_iff.1 h2).1,h3,fun j k v en hx hv => ⟨(h4 j k v en hx hv).1,(h4 j k v en hx hv).2.evo (Evo.grow K hb hd)⟩⟩
 toks:=fun id hh => by
  obtain ⟨h1,vs,ty,h2⟩:=K.toks id hh
  exact ⟨h1,vs,ty,by rw[←h2];exact hb.block _ (Array.getElem?_eq_some_iff.1 h2).1⟩
 inj:=K.inj
 fresh:=K.fresh
 gl:=K.gl.evo (Evo.grow K hb hd)
theorem I_beside {c:Cx} {nx:Nat} (K:Ok c nx) {w':World} {ad:Addr} (h1:c.w.heap.size≤ad.block) (h2:ad.block < w'.heap.size):(c.grow w').I ad:=by
 refine .inr ⟨Nat.le_trans K.basele h1,h2,fun hw => ?_⟩
 rcases hw with ⟨i,cs,hi,hb⟩ | ⟨i,hi,hb,_⟩
 ·have:=K.lt (live_of hi (by simp));have hb':(c.loc i).1 = ad.block:=hb;omega
 ·have:=K.lt (live_of hi (by simp));have hb':(c.loc i).1 = ad.block:=hb;omega
theorem cells_rep {c:Cx} {m:Bool} {x:AV} {v:Value} (h:Rep c m x v) (hcs:(cellsOf x).all Ab.one = true):Reps c m (cellsOf x) v.cells.toList:=by
 cases h with
 | agg vs hl h => exact ⟨by simpa [cellsOf,Value.cells] using hl,by simpa [cellsOf,Value.cells] using h⟩
 | undef v hb => simp[cellsOf,Ab.one] at hcs
 | b x => exact Reps.cons (.b x) Reps.nil
 | i k n => exact Reps.cons (.i k n) Reps.nil
 | s x => exact Reps.cons (.s x) Reps.nil
 | nilp => exact Reps.cons .nilp Reps.nil
 | nilf => exact Reps.cons .nilf Reps.nil
 | nili => exact Reps.cons .nili Reps.nil
 | tup vs hl h => exact Reps.cons (.tup vs hl h) Reps.nil
 | sl ad vs hc hm hr ho hz h1 hl ha hk h ht => exact Reps.cons (.sl ad vs hc hm hr ho hz h1 hl ha hk h ht) Reps.nil
 | ptr ad vs h1 hl hk h => exact Reps.cons (.ptr ad vs h1 hl hk h) Reps.nil
 | mp id off h => exact Reps.cons (.mp id off h) Reps.nil
 | ms id off n cap h hc hm hp => exact Reps.cons (.ms id off n cap h hc hm hp) Reps.nil
 | mc id k e n cap h hk hc hm hp => simp[cellsOf,Ab.one] at hcs
 | fn vs us hl hl' h h' => exact Reps.cons (.fn vs us hl hl' h h') Reps.nil
 | mm id h => exact Reps.cons (.mm id h) Reps.nil
theorem rep_b {c m t v} (h:Rep c m (.b t) v):v = .bool t:=by cases h;rfl
theorem rep_i {c m k n v} (h:Rep c m (.i k n) v):v = .int k n:=by cases h;rfl
theorem rep_s {c m x v} (h:Rep c m (.s x) v):v = .string x:=by cases h;rfl
theorem rep_agg {c m cs v} (h:Rep c m (.agg cs) v):∃ vs:List Value,v = .agg vs.toArray∧Reps c m cs vs:=by cases h with | agg vs hl h => exact ⟨vs,rfl,hl,h⟩
theorem rep_tup {c m cs v} (h:Rep c m (.tup cs) v):∃ vs:List Value,v = .tuple vs.toArray∧Reps c m cs vs:=by cases h with | tup vs hl h => exact ⟨vs,rfl,hl,h⟩
theorem rep_ptr {c m cs v} (h:Rep c m (.ptr cs) v):∃ (ad:Addr) (vs:List Value),v = .pointer (some ad)∧(∀ v∈vs,v.oneCell' = true)∧Reps c false cs vs∧∀ (j:Nat) u,vs[j]? = some u→c.I (ad.add j)∧c.w.cell? (ad.add j) = some u:=by
 cases h with | ptr ad vs h1 hl hk h => exact ⟨ad,vs,rfl,h1,⟨hl,h⟩,hk⟩
theorem rep_mp {c m id off v} (h:Rep c m (.mp id off) v):v = .pointer (some ⟨(c.loc id).1,off,none⟩):=by cases h;rfl
theorem rep_mp_some {c m id off v} (h:Rep c m (.mp id off) v):(c.hp id).isSome:=by cases h;assumption
theorem rep_ms {c m id off n v} (h:Rep c m (.ms id off n) v):∃ cap,v = .slice (some ⟨(c.loc id).1,off,none⟩) n cap∧n≤cap∧cap≤maxLen∧(c.hp id).isSome:=by cases h with | ms id off n cap h h1 h2 hp => exact ⟨cap,rfl,h1,h2,h⟩
theorem rep_ms' {c m id off n v} (h:Rep c m (.ms id off n) v):∃ cap,v = .slice (some ⟨(c.loc id).1,off,none⟩) n cap∧n≤cap∧cap≤maxLen∧(c.hp id).isSome∧MsOk c id off n cap:=by cases h with | ms id off n cap h h1 h2 hp => exact ⟨cap,rfl,h1,h2,h,hp⟩
theorem rep_mc {c m id k e n v} (h:Rep c m (.mc id k e n) v):∃ cap,v = .slice (some ⟨(c.loc id).1,0,none⟩) k cap∧k≤n∧n≤cap∧cap≤maxLen∧(c.hp id).isSome∧McOk c id e n cap:=by cases h with | mc id k e n cap h h0 h1 h2 hp => exact ⟨cap,rfl,h0,h1,h2,h,hp⟩
theorem rep_fn {c m f asx bs v} (h:Rep c m (.fn f asx bs) v):∃ vs us:List Value,v = .func (.func (c.num f)) vs.toArray us.toArray∧Reps c m asx vs∧Reps c m bs us:=by
 cases h with | fn vs us hl hl' h h' => exact ⟨vs,us,rfl,⟨hl,h⟩,⟨hl',h'⟩⟩
theorem rep_mm {c m id v} (h:Rep c m (.mm id) v):v = .map (some (c.loc id).1):=by cases h;rfl
theorem rep_sl {c m cs n t v} (h:Rep c m (.sl cs n t) v):∃ (a:Option Addr) (cap:Nat) (ad:Addr) (vs:List Value),v = .slice a n cap∧n≤cap∧cap≤maxLen∧(t = .rig→cap = n)∧(0 < n→a.isSome)∧(∀ v∈vs,v.oneCell' = true)∧Reps c false cs vs∧(cs≠[]→a = some ad) ∧
  (∀ (j:Nat) u,vs[j]? = some u→c.I (ad.add j)∧c.w.cell? (ad.add j) = some u)∧(∀ τ e,t = .own τ e→TokOk c τ e n cs.length a cap):=by
 cases h with | sl ad vs hc hm hr ho hz h1 hl ha hk h ht => exact ⟨_,_,ad,vs,rfl,hc,hm,hr,hz,h1,⟨hl,h⟩,ha,hk,ht⟩
theorem spot_of {w:World} {ad:Addr} {u:Value} (h:w.cell? ad = some u):ad.spot = none:=by
 unfold World.cell? at h
 split at h
 ·cases hs:ad.spot with
  | none => rfl
  | some _ => simp[hs] at h
 ·cases h
theorem add_zero (ad:Addr):ad.add 0 = ad:=by simp[Addr.add]
section
variable {P:Program} {o:Oper} {a:Act} {c:Cx} {e:Env} {g:G} {al:Nat→Bool} {id:Nat} {r:AV × G}
theorem s_mv (he:EnvOk c e a) (K:Ok c g.nx) (hg:c.hp = g.hp) {x:Opd} (ho:opB P c.num o.op (.mv x) = true) (h:some (x.ev e,g) = some r):Does P o a c r:=by
 cases h
 obtain ⟨dst,op,ty,pos,after,guard⟩:=o
 simp only[opB] at ho
 split at ho
 ·exact Does.quiet K hg (opdB_rep he ho) (by simp[execOp])
 ·exact Does.quiet K hg (opdB_rep he ho) (by simp[execOp])
 ·cases ho
theorem s_pick (he:EnvOk c e a) (K:Ok c g.nx) (hg:c.hp = g.hp) {x y z:Opd} (ho:opB P c.num o.op (.pick x y z) = true) (h:vPick (x.ev e) (y.ev e) (z.ev e) g = some r):Does P o a c r:=by
 obtain ⟨dst,op,ty,pos,after,guard⟩:=o
 simp only[opB] at ho
 split at ho
 ·simp only[Bool.and_eq_true] at ho
  obtain ⟨⟨h1,h2⟩,h3⟩:=ho
  have r1:=opdB_rep he h1
  have r2:=opdB_rep he h2
  have r3:=opdB_rep he h3
  unfold vPick at h
  split at h
  ·rename_i t hx
   rw[hx] at r1
   have hv:=rep_b r1
   cases h
   cases t with
   | true => exact Does.quiet K hg r2 (by simp[execOp,hv,asBool])
   | false => exact Does.quiet K hg r3 (by simp[execOp,hv,asBool])
  ·cases h
 ·cases ho
theorem s_new (he:EnvOk c e a) (K:Ok c g.nx) (hg:c.hp = g.hp) (hid:c.hp id = none) (hlt:id < g.nx) {zero:List AV} (ho:opB P c.num o.op (.new zero) = true) (h:some (AV.mp id 0,(⟨upd g.hp id (some (.cells zero false)),g.nx⟩:G)) = some r):Does P o a c r:=by
 cases h
 obtain ⟨dst,op,ty,pos,after,guard⟩:=o
 simp only[opB] at ho
 split at ho
 ·rename_i t
  obtain ⟨i,z,hi,hz,hc,hs⟩:=zeroB_some ho
  have hn:NewOk c (.cells z.cells t) (.cells zero false):=⟨z.cells.toList,[],t,by simp,constsB_rep hc c true,constsB_one hc⟩
  exact Does.fresh (lo:=0) K hg hid hlt hn _ _ rep_new (by simp[execOp,Instr.alloc,zeroValue,typeInfo,hi,hz,newVar,newRow])
 ·cases ho
theorem s_box (he:EnvOk c e a) (K:Ok c g.nx) (hg:c.hp = g.hp) (hid:c.hp id = none) (hlt:id < g.nx) {x:Opd} (ho:opB P c.num o.op (.box x) = true) (h:vBox id (x.ev e) g = some r):Does P o a c r:=by
 obtain ⟨dst,op,ty,pos,after,guard⟩:=o
 simp only[opB] at ho
 split at ho
 ·rename_i t y
  unfold vBox at h
  split at h
  ·rename_i h1
   have hr:=cells_rep (opdB_rep he ho) h1
   cases h
   have hn:NewOk c (.cells (a.eval y).cells t) (.cells (cellsOf (x.ev e)) false):=⟨(a.eval y).cells.toList,[],t,by simp,hr,h1⟩
   exact Does.fresh (lo:=0) K hg hid hlt hn _ _ rep_new (by simp[execOp,Instr.box,newVar,newRow])
  ·cases h
 ·cases ho
theorem s_ld (he:EnvOk c e a) (K:Ok c g.nx) (hg:c.hp = g.hp) {agg:Option Nat} {x:Opd} (ho:opB P c.num o.op (.ld agg x) = true) (h:vLd al agg (x.ev e) g = some r):Does P o a c r:=by
 obtain ⟨dst,op,ty,pos,after,guard⟩:=o
 simp only[opB] at ho
 split at ho
 ·rename_i t y
  simp only[Bool.and_eq_true] at ho
  obtain ⟨h1,h2⟩:=ho
  have hr:=opdB_rep he h2
  unfold vLd at h
  split at h
  ·rename_i cs hx
   rw[hx] at hr
   obtain ⟨ad,vs,hv,hone,hreps,hk⟩:=rep_ptr hr
   cases hp:part cs 0 agg with
   | none => rw[hp] at h;cases h
   | some v =>
     rw[hp] at h;cases h
     obtain ⟨val,hrun,hval⟩:=run_loadVar_ab (P:=P) (w:=c.w) h1 hreps hp (ad:=ad) (fun j u hu => (hk j u (by simpa using hu)).2)
     exact Does.quiet K hg hval.up (by simp[execOp,hv,Instr.loadAt,Instr.sureAddr,hrun])
  ·rename_i b off hx
   rw[hx] at hr
   have hv:=rep_mp hr
   split at h
   ·rename_i cs ro hb
    have hb':c.hp b = some (.cells cs ro):=by
     unfold rd at hb;split at hb
     ·rw[hg];exact hb
     ·cases hb
    obtain ⟨_,vs,rs,ty',g2,g3,_⟩:=K.cells b cs ro hb'
    cases hp:part cs off agg with
    | none => rw[hp] at h;cases h
    | some v =>
      rw[hp] at h;cases h
      obtain ⟨val,hrun,hval⟩:=run_loadVar_ab (P:=P) (w:=c.w) h1 g3 hp (ad:=⟨(c.loc b).1,off,none⟩) (fun j u hu => by rw[add_mk,cell_of_heap g2,List.getElem?_toArray,List.getElem?_append_left (List.getElem?_eq_some_iff.1 hu).1];exact hu)
      exact Does.quiet K hg hval (by simp[execOp,hv,Instr.loadAt,Instr.sureAddr,hrun])
   ·cases h
  ·cases h
 ·cases ho
theorem s_st0 (he:EnvOk c e a) (K:Ok c g.nx) (hg:c.hp = g.hp) {n:Nat} {x y:Opd} (ho:opB P c.num o.op (.st n x y) = true) (h:vSt al n (x.ev e) (y.ev e) g = some r):Does P o a c r:=by
 obtain ⟨dst,op,ty,pos,after,guard⟩:=o
 simp only[opB] at ho
 split at ho
 ·rename_i t p q
  simp only[Bool.and_eq_true] at ho
  obtain ⟨⟨h1,h2⟩,h3⟩:=ho
  have hr:=opdB_rep he h2
  obtain ⟨i,hi,hs⟩:=sizeB_some h1
  unfold vSt at h
  split at h
  ·rename_i b off hx
   rw[hx] at hr
   have hv:=rep_mp hr
   split at h
   ·rename_i cs hb
    have hb':c.hp b = some (.cells cs false):=by
     unfold rd at hb;split at hb
     ·rw[hg];exact hb
     ·cases hb
    split at h
    ·rename_i hc
     obtain ⟨c1,c2,c3⟩:=hc
     have hq:=cells_rep (opdB_rep he h3) c3
     cases h
     obtain ⟨_,vs,rs,ty',g2,g3,_⟩:=K.cells b cs _ hb'
     have hl2:(cellsOf (y.ev e)).length = (a.eval q).cells.size:=by simpa using hq.1
     have hlen:(a.eval q).cells.size = i.size:=by omega
     have hst:=run_storeCells_cells (P:=P) (c.loc b).1 off (a.eval q).cells.toList 0 c.w (fun j hj => by
       rw[cell_of_heap g2]
       have:=g3.1
       simp at hj ⊢
       omega) (fun j hj => by simp[World.frozen?,g2]) (hq.ones c3)
     refine ⟨.skip,c.store b off cs (cellsOf (y.ev e)) (a.eval q).cells.toList,Go.undef,?_,.inr ⟨rfl,rfl⟩,Evo.store K hb' (by omega),K.store hb' hq (by omega) c3,by simp[Cx.store,hg],Rep.undef0⟩
     show _ = Result.ok Next.skip (c.w.setCells (c.loc b).1 off (a.eval q).cells.toList)
     simp only[Nat.add_zero] at hst
     simp[execOp,hv,Instr.storeAt,Instr.sureAddr,storeVar,sizeOf,typeInfo,hi,hlen,hst]
    ·cases h
   ·cases h
  ·cases h
 ·cases ho
theorem s_st (he:EnvOk c e a) (K:Ok c g.nx) (hg:c.hp = g.hp) {n:Nat} {x y:Opd} (ho:opB P c.num o.op (.st n x y) = true) (h:vSt al n (x.ev e) (y.ev e) g = some r):Does P o a c r:=s_st0 he K hg ho h
theorem s_stL (he:EnvOk c e a) (K:Ok c g.nx) (hg:c.hp = g.hp) {n:Nat} {x y:Opd} (ho:opB P c.num o.op (.stL n x y) = true) (h:vSt al n (x.ev e) (y.ev e) g = some r):Does P o a c r:=s_st0 he K hg (by simpa only[opB] using ho) h
theorem s_stW (he:EnvOk c e a) (K:Ok c g.nx) (hg:c.hp = g.hp) {n:Nat} {x y:Opd} (ho:opB P c.num o.op (.stW n x y) = true) (h:vSt al n (x.ev e) (y.ev e) g = some r):Does P o a c r:=s_st0 he K hg (by simpa only[opB] using ho) h
theorem s_stN (he:EnvOk c e a) (K:Ok c g.nx) (hg:c.hp = g.hp) {n:Nat} {x y:Opd} {ts:List Nat} {qs:List AV} (ho:opB P c.num o.op (.stN n x y ts) = true) (h:vStN al n (x.ev e) (y.ev e) qs g = some r):Does P o a c r:=by
 unfold vStN at h
 split at h
 ·exact s_st0 he K hg (by simpa only[opB] using ho) h
 ·cases h
theorem s_ldQ (he:EnvOk c e a) (K:Ok c g.nx) (hg:c.hp = g.hp) {agg:Option Nat} {x:Opd} {t:Nat} {q:AV} (ho:opB P c.num o.op (.ldQ agg x t) = true) (h:vLdQ al agg (x.ev e) q g = some r):Does P o a c r:=by
 refine s_ld (al:=al) he K hg (agg:=agg) (x:=x) (by simpa only[opB] using ho) ?_
 cases hx:x.ev e with
 | mp b off =>
   rw[hx] at h
   unfold vLdQ at h
   unfold vLd
   dsimp only at h ⊢
   split at h
   ·exact h
   ·cases h
 | _ => rw[hx] at h;unfold vLdQ at h;simp at h
theorem s_ldF (he:EnvOk c e a) (K:Ok c g.nx) (hg:c.hp = g.hp) {agg:Option Nat} {x:Opd} (ho:opB P c.num o.op (.ldF agg x) = true) (h:vLdF al agg (x.ev e) g = some r):Does P o a c r:=by
 refine s_ld (al:=al) he K hg (agg:=agg) (x:=x) (by simpa only[opB] using ho) ?_
 unfold vLdF at h
 unfold vLd
 split at h
 ·exact h
 ·split at h
  ·rename_i hb
   simp only[hb]
   exact h
  ·cases h
 ·cases h
theorem s_nilck (he:EnvOk c e a) (K:Ok c g.nx) (hg:c.hp = g.hp) {x:Opd} (ho:opB P c.num o.op (.nilck x) = true) (h:vNil (x.ev e) g = some r):Does P o a c r:=by
 obtain ⟨dst,op,ty,pos,after,guard⟩:=o
 simp only[opB] at ho
 split at ho
 ·rename_i y
  have hr:=opdB_rep he ho
  unfold vNil at h
  split at h
  ·rename_i cs hx
   cases h
   rw[hx] at hr
   obtain ⟨ad,vs,hv,_⟩:=rep_ptr hr
   exact Does.quiet K hg hr (by simp[execOp,hv])
  ·rename_i b off hx
   cases h
   rw[hx] at hr
   have hv:=rep_mp hr
   exact Does.quiet K hg hr (by simp[execOp,hv])
  ·rename_i f asx bs hx
   cases h
   rw[hx] at hr
   obtain ⟨vs,us,hv,_⟩:=rep_fn hr
   exact Does.quiet K hg hr (by simp[execOp,hv])
  ·cases h
 ·cases ho
end
end Go.Ab
end
section
set_option linter.unusedVariables false
set_option linter.unusedSimpArgs false
namespace Go.Ab
open Go.RowKit
section
variable {P:Program} {o:Oper} {a:Act} {c:Cx} {e:Env} {g:G} {al:Nat→Bool} {id:Nat} {r:AV × G}
theorem ibin_run {op:BinOp} {k:IntKind} {x y:Int} {v:AV} (h:ibin op k x y = some v) (c:Cx):∃ val,Rep c true v val∧∀ w:World,(binOp op 0 (.int k x) (.int k y)).run P w = .ok val w∧∀ t,(binOp op t (.int k x) (.int k y)) = binOp op 0 (.int k x) (.int k y):=by
 cases op<;>simp only[ibin] at h<;>first
  | (cases h;done)
  | (cases h;exact ⟨_,.i _ _,fun w => ⟨by simp[binOp,Op.intArith,Op.intBits,Op.intCmp],fun t => by simp[binOp]⟩⟩)
  | (cases h;exact ⟨_,.b _,fun w => ⟨by simp[binOp,Op.intArith,Op.intBits,Op.intCmp],fun t => by simp[binOp]⟩⟩)
  | (split at h
     ·cases h
     ·rename_i hy
      cases h
      exact ⟨_,.i _ _,fun w => ⟨by simp[binOp,Op.intDiv,hy],fun t => by simp[binOp]⟩⟩)
theorem ishift_run {op:BinOp} {k l:IntKind} {x y:Int} {v:AV} (hop:op = .shl∨op = .shr) (h:ishift op k x y = some v) (c:Cx) (t:TypeId):∃ val,Rep c true v val∧∀ w:World,(binOp op t (.int k x) (.int l y)).run P w = .ok val w:=by
 unfold ishift at h
 split at h
 ·cases h
 ·rename_i hy
  rcases hop with rfl | rfl
  ·simp only at h;cases h
   exact ⟨_,.i _ _,fun w => by simp[binOp,Op.shift,hy]⟩
  ·simp only at h;cases h
   exact ⟨_,.i _ _,fun w => by simp[binOp,Op.shift,hy]⟩
theorem s_un (he:EnvOk c e a) (K:Ok c g.nx) (hg:c.hp = g.hp) {op:UnOp} {x:Opd} (ho:opB P c.num o.op (.un op x) = true) (h:vMap g (aun op (x.ev e)) = some r):Does P o a c r:=by
 obtain ⟨dst,oop,ty,pos,after,guard⟩:=o
 simp only[opB] at ho
 split at ho
 ·rename_i op' t y
  simp only[Bool.and_eq_true,decide_eq_true_eq] at ho
  obtain ⟨rfl,h2⟩:=ho
  have hr:=opdB_rep he h2
  cases hu:aun op' (x.ev e) with
  | none => rw[hu] at h;cases h
  | some v =>
    rw[hu] at h;cases h
    unfold aun at hu
    split at hu
    ·rename_i k n hx
     rw[hx] at hr
     have hv:=rep_i hr
     simp only[ibin] at hu;cases hu
     exact Does.quiet K hg (.i _ _) (by simp[execOp,hv,Op.unary,Op.intArith])
    ·rename_i k n hx
     rw[hx] at hr
     have hv:=rep_i hr
     simp only[ibin] at hu;cases hu
     exact Does.quiet K hg (.i _ _) (by simp[execOp,hv,Op.unary,Op.intBits])
    ·rename_i b hx
     rw[hx] at hr
     have hv:=rep_b hr
     cases hu
     exact Does.quiet K hg (.b _) (by simp[execOp,hv,Op.unary])
    ·cases hu
 ·cases ho
theorem s_conv (he:EnvOk c e a) (K:Ok c g.nx) (hg:c.hp = g.hp) {k:IntKind} {x:Opd} (ho:opB P c.num o.op (.conv k x) = true) (h:vConv k (x.ev e) g = some r):Does P o a c r:=by
 obtain ⟨dst,op,ty,pos,after,guard⟩:=o
 simp only[opB] at ho
 split at ho
 ·rename_i src dt y
  simp only[Bool.and_eq_true] at ho
  obtain ⟨⟨h1,h3⟩,h2⟩:=ho
  have hr:=opdB_rep he h2
  unfold vConv at h
  split at h
  ·rename_i k' n hx
   rw[hx] at hr
   have hv:=rep_i hr
   cases h
   split at h1
   ·rename_i k'' hd
    simp at h1
    subst h1
    obtain ⟨d,hs⟩:=Option.isSome_iff_exists.1 h3
    exact Does.quiet K hg (.i _ _) (by simp[execOp,hv,convert,run_underlying hd,run_underlying hs,Conv.intToInt])
   ·cases h1
  ·cases h
 ·cases ho
theorem s_mkfn (he:EnvOk c e a) (K:Ok c g.nx) (hg:c.hp = g.hp) {f:Nat} {fst caps:List Opd} (ho:opB P c.num o.op (.mkfn f fst caps) = true) (h:some (AV.fn f (fst.map (·.ev e)) (caps.map (·.ev e)),g) = some r):Does P o a c r:=by
 obtain ⟨dst,op,ty,pos,after,guard⟩:=o
 cases h
 simp only[opB] at ho
 split at ho
 ·rename_i f' asx bs
  simp only[Bool.and_eq_true,beq_iff_eq] at ho
  obtain ⟨⟨rfl,h1⟩,h2⟩:=ho
  have r1:=opdsB_rep he h1
  have r2:=opdsB_rep he h2
  exact Does.quiet K hg (.fn _ _ r1.1 r2.1 r1.2 r2.2) (by simp[execOp,Instr.makeFunc];exact ⟨by apply Array.ext';simp,by apply Array.ext';simp⟩)
 ·cases ho
theorem s_fa (he:EnvOk c e a) (K:Ok c g.nx) (hg:c.hp = g.hp) {off:Nat} {x:Opd} (ho:opB P c.num o.op (.fa off x) = true) (h:vFa off (x.ev e) g = some r):Does P o a c r:=by
 obtain ⟨dst,op,ty,pos,after,guard⟩:=o
 simp only[opB] at ho
 split at ho
 ·rename_i t y f
  simp only[Bool.and_eq_true] at ho
  obtain ⟨h1,h2⟩:=ho
  have hr:=opdB_rep he h2
  split at h1
  ·rename_i fs hu
   split at h1
   ·rename_i fd hf
    simp only[Bool.and_eq_true,beq_iff_eq] at h1
    obtain ⟨rfl,h3⟩:=h1
    split at h3
    ·rename_i i hi
     simp only[bne_iff_ne,ne_eq] at h3
     unfold vFa at h
     split at h
     ·rename_i cs hx
      rw[hx] at hr
      split at h
      ·rename_i hlt
       cases h
       obtain ⟨ad,vs,hv,hone,hreps,hk⟩:=rep_ptr hr
       have hl:=hreps.1
       have hsp:ad.spot = none:=by
        have hv0:vs[0]? = some (vs[0]'(by omega)):=List.getElem?_eq_getElem _
        have:=(hk 0 _ hv0).2
        rw[add_zero] at this
        exact spot_of this
       refine Does.quiet K hg (val:=.pointer (some (ad.add fd.offset))) (.ptr (ad.add fd.offset) (vs.drop fd.offset) (fun u hu => hone u (List.mem_of_mem_drop hu)) (by simp[hl]) (fun j u hu => ?_) (hreps.drop _).2) ?_
       ·rw[List.getElem?_drop] at hu
        rw[add_add _ _ _ hsp]
        exact hk _ u hu
       ·simp[execOp,hv,Instr.fieldAt,run_underlying hu,hf,Instr.sureAddr,fieldPlace,sizeOf,typeInfo,hi,h3]
      ·cases h
     ·rename_i b off' hx
      cases h
      rw[hx] at hr
      have hv:=rep_mp hr
      have hs:=rep_mp_some hr
      refine Does.quiet K hg (.mp b (off' + fd.offset) hs) ?_
      simp[execOp,hv,Instr.fieldAt,run_underlying hu,hf,Instr.sureAddr,fieldPlace,sizeOf,typeInfo,hi,h3,add_mk]
     ·cases h
    ·cases h3
   ·cases h1
  ·cases h1
 ·cases ho
theorem part_run {t:TypeId} {agg:Option Nat} (ht:aggB P t agg = true) {m:Bool} {cs:List AV} {vs:List Value} (hr:Reps c m cs vs) {off:Nat} {x:AV} (hp:part cs off agg = some x):
  ∃ val,(∀ w,(Go.part t vs.toArray off).run P w = .ok val w)∧Rep c m x val:=by
 cases agg with
 | none =>
   obtain ⟨d,i,hd,hi,hagg⟩:=aggB_none ht
   obtain ⟨u,hu,hx⟩:=(part_add hr hp).2 rfl
   exact ⟨u,fun w => by simp[Go.part,hagg,hu],hx⟩
 | some n =>
   obtain ⟨i,hi,hs,hagg⟩:=aggB_some ht
   simp only[part] at hp
   split at hp
   ·rename_i hle
    cases hp
    have k:=(hr.drop off).take n
    refine ⟨.agg ((vs.drop off).take n).toArray,fun w => ?_,.agg _ k.1 k.2⟩
    simp only[Go.part,Sem.run_bind,hagg,Result.andThen_ok,if_true,sizeOf,typeInfo,run_program,hi,Sem.run_pure,hs]
    congr 2
    apply Array.ext'
    simp[List.extract_eq_take_drop]
   ·cases hp
theorem s_fld (he:EnvOk c e a) (K:Ok c g.nx) (hg:c.hp = g.hp) {off:Nat} {agg:Option Nat} {x:Opd} (ho:opB P c.num o.op (.fld off agg x) = true) (h:vFld off agg (x.ev e) g = some r):Does P o a c r:=by
 obtain ⟨dst,op,ty,pos,after,guard⟩:=o
 simp only[opB] at ho
 split at ho
 ·rename_i t y f
  simp only[Bool.and_eq_true] at ho
  obtain ⟨h1,h2⟩:=ho
  have hr:=opdB_rep he h2
  split at h1
  ·rename_i fs hu
   split at h1
   ·rename_i fd hf
    simp only[Bool.and_eq_true,beq_iff_eq] at h1
    obtain ⟨rfl,h3⟩:=h1
    unfold vFld at h
    split at h
    ·rename_i cs hx
     rw[hx] at hr
     obtain ⟨vs,hv,hreps⟩:=rep_agg hr
     cases hp:part cs fd.offset agg with
     | none => rw[hp] at h;cases h
     | some v =>
       rw[hp] at h;cases h
       obtain ⟨val,hrun,hval⟩:=part_run h3 hreps hp
       exact Does.quiet K hg hval (by simp[execOp,hv,Instr.field,run_underlying hu,hf,asAgg,hrun])
    ·cases h
   ·cases h1
  ·cases h1
 ·cases ho
theorem rep_ptr_drop {ad:Addr} {cs:List AV} {vs:List Value} (hone:∀ v∈vs,v.oneCell' = true) (hreps:Reps c false cs vs) (hk:∀ (j:Nat) u,vs[j]? = some u→c.I (ad.add j)∧c.w.cell? (ad.add j) = some u) (k:Nat):Rep c true (.ptr (cs.drop k)) (.pointer (some (ad.add k))):=by
 refine .ptr (ad.add k) (vs.drop k) (fun u hu => hone u (List.mem_of_mem_drop hu)) (by simp[hreps.1]) (fun j u hu => ?_) (hreps.drop _).2
 rw[List.getElem?_drop] at hu
 have h:=hk _ u hu
 by_cases hk0:k = 0
 ·subst hk0;rw[add_zero];simpa using h
 ·rw[add_add _ _ _ ?_]
  ·exact h
  ·have h2:=spot_of h.2
   unfold Addr.add at h2
   split at h2
   ·omega
   ·have hv0:vs[0]? = some (vs[0]'(by have:=(List.getElem?_eq_some_iff.1 hu).1;omega)):=List.getElem?_eq_getElem _
    have:=(hk 0 _ hv0).2
    rw[add_zero] at this
    exact spot_of this
theorem s_ia (he:EnvOk c e a) (K:Ok c g.nx) (hg:c.hp = g.hp) {esz:Nat} {x i:Opd} (ho:opB P c.num o.op (.ia esz x i) = true) (h:vIa esz (x.ev e) (i.ev e) g = some r):Does P o a c r:=by
 obtain ⟨dst,op,ty,pos,after,guard⟩:=o
 simp only[opB] at ho
 split at ho
 ·rename_i t y j
  simp only[Bool.and_eq_true] at ho
  obtain ⟨⟨h1,h2⟩,h3⟩:=ho
  have hr:=opdB_rep he h2
  have hi:=opdB_rep he h3
  split at h1
  ·rename_i el hu
   obtain ⟨inf,hinf,hs⟩:=sizeB_some h1
   unfold vIa at h
   split at h
   ·rename_i cs n tk k z hx hz
    rw[hx] at hr
    rw[hz] at hi
    have hv2:=rep_i hi
    obtain ⟨ao,cap,ad,vs,hv,hc,hm,hrig,hz',hone,hreps,ha,hk,_⟩:=rep_sl hr
    split at h
    ·rename_i hb
     cases h
     obtain ⟨ad',hao⟩:=Option.isSome_iff_exists.1 (hz' (by omega))
     by_cases hcs:cs = []
     ·subst hcs
      have hvs:=hreps.nil_inv
      subst hvs hao
      refine Does.quiet K hg (val:=.pointer (some (ad'.add (z.toNat * esz)))) (.ptr _ [] (fun _ h => by simp at h) (by simp) (fun j u hu => by simp at hu) (fun j x v hx => by simp at hx)) ?_
      simp[execOp,hv,hv2,Instr.indexAt,run_underlying hu,asIntOf,hb.1,hb.2,sizeOf,typeInfo,hinf,hs]
     ·have hao':=ha hcs
      subst hao'
      refine Does.quiet K hg (rep_ptr_drop hone hreps hk (z.toNat * esz)) ?_
      simp[execOp,hv,hv2,Instr.indexAt,run_underlying hu,asIntOf,hb.1,hb.2,sizeOf,typeInfo,hinf,hs]
    ·cases h
   ·rename_i b off n k z hx hz
    rw[hx] at hr
    rw[hz] at hi
    have hv2:=rep_i hi
    obtain ⟨cap,hv,hc,hm,hsome⟩:=rep_ms hr
    split at h
    ·rename_i hb
     cases h
     refine Does.quiet K hg (.mp b (off + z.toNat * esz) hsome) ?_
     simp[execOp,hv,hv2,Instr.indexAt,run_underlying hu,asIntOf,hb.1,hb.2,sizeOf,typeInfo,hinf,hs,add_mk]
    ·cases h
   ·cases h
  ·cases h1
 ·cases ho
end
end Go.Ab
end
section
set_option linter.unusedVariables false
set_option linter.unusedSimpArgs false
namespace Go.Ab
open Go.RowKit
section
variable {P:Program} {o:Oper} {a:Act} {c:Cx} {e:Env} {g:G} {al:Nat→Bool} {id:Nat} {r:AV × G}
theorem s_iaa (he:EnvOk c e a) (K:Ok c g.nx) (hg:c.hp = g.hp) {len esz:Nat} {x i:Opd} (ho:opB P c.num o.op (.iaa len esz x i) = true) (h:vIaa len esz (x.ev e) (i.ev e) g = some r):Does P o a c r:=by
 obtain ⟨dst,op,ty,pos,after,guard⟩:=o
 simp only[opB] at ho
 split at ho
 ·rename_i t y j
  simp only[Bool.and_eq_true] at ho
  obtain ⟨⟨h1,h2⟩,h3⟩:=ho
  have hr:=opdB_rep he h2
  have hi:=opdB_rep he h3
  split at h1
  ·rename_i n el hu
   simp only[Bool.and_eq_true,beq_iff_eq] at h1
   obtain ⟨rfl,h1⟩:=h1
   obtain ⟨inf,hinf,hs⟩:=sizeB_some h1
   unfold vIaa at h
   split at h
   ·rename_i cs k z hx hz
    rw[hx] at hr
    rw[hz] at hi
    have hv2:=rep_i hi
    obtain ⟨ad,vs,hv,hone,hreps,hk⟩:=rep_ptr hr
    split at h
    ·rename_i hb
     cases h
     refine Does.quiet K hg (rep_ptr_drop hone hreps hk (z.toNat * esz)) ?_
     simp[execOp,hv,hv2,Instr.indexAt,run_underlying hu,asIntOf,Instr.sureAddr,hb.1,hb.2,sizeOf,typeInfo,hinf,hs]
    ·cases h
   ·rename_i b off k z hx hz
    rw[hx] at hr
    rw[hz] at hi
    have hv2:=rep_i hi
    have hv:=rep_mp hr
    split at h
    ·rename_i hb
     cases h
     refine Does.quiet K hg (.mp b (off + z.toNat * esz) (rep_mp_some hr)) ?_
     simp[execOp,hv,hv2,Instr.indexAt,run_underlying hu,asIntOf,Instr.sureAddr,hb.1,hb.2,sizeOf,typeInfo,hinf,hs,add_mk]
    ·cases h
   ·cases h
  ·cases h1
 ·cases ho
theorem s_idx (he:EnvOk c e a) (K:Ok c g.nx) (hg:c.hp = g.hp) {len esz:Nat} {agg:Option Nat} {x i:Opd} (ho:opB P c.num o.op (.idx len esz agg x i) = true) (h:vIdx len esz agg (x.ev e) (i.ev e) g = some r):Does P o a c r:=by
 obtain ⟨dst,op,ty,pos,after,guard⟩:=o
 simp only[opB] at ho
 split at ho
 ·rename_i t y j
  simp only[Bool.and_eq_true] at ho
  obtain ⟨⟨h1,h2⟩,h3⟩:=ho
  have hr:=opdB_rep he h2
  have hi:=opdB_rep he h3
  split at h1
  ·rename_i n el hu
   simp only[Bool.and_eq_true,beq_iff_eq] at h1
   obtain ⟨⟨rfl,h1⟩,h4⟩:=h1
   obtain ⟨inf,hinf,hs⟩:=sizeB_some h1
   unfold vIdx at h
   split at h
   ·rename_i cs k z hx hz
    rw[hx] at hr
    rw[hz] at hi
    have hv2:=rep_i hi
    obtain ⟨vs,hv,hreps⟩:=rep_agg hr
    split at h
    ·rename_i hb
     cases hp:part cs (z.toNat * esz) agg with
     | none => rw[hp] at h;cases h
     | some v =>
       rw[hp] at h;cases h
       obtain ⟨val,hrun,hval⟩:=part_run h4 hreps hp
       exact Does.quiet K hg hval (by simp[execOp,hv,hv2,Instr.index,run_underlying hu,asIntOf,hb.1,hb.2,sizeOf,typeInfo,hinf,hs,hrun])
    ·cases h
   ·cases h
  ·cases h1
 ·cases ho
theorem s_sidx (he:EnvOk c e a) (K:Ok c g.nx) (hg:c.hp = g.hp) {x i:Opd} (ho:opB P c.num o.op (.sidx x i) = true) (h:vSidx (x.ev e) (i.ev e) g = some r):Does P o a c r:=by
 obtain ⟨dst,op,ty,pos,after,guard⟩:=o
 simp only[opB] at ho
 split at ho
 ·rename_i t y j
  simp only[Bool.and_eq_true] at ho
  obtain ⟨⟨h1,h2⟩,h3⟩:=ho
  have hr:=opdB_rep he h2
  have hi:=opdB_rep he h3
  split at h1
  ·rename_i hu
   unfold vSidx at h
   split at h
   ·rename_i s k z hx hz
    rw[hx] at hr
    rw[hz] at hi
    have hv2:=rep_i hi
    have hv:=rep_s hr
    split at h
    ·rename_i hb
     cases h
     exact Does.quiet K hg (.i _ _) (by simp[execOp,hv,hv2,Instr.index,run_underlying hu,asIntOf,hb.1,hb.2])
    ·cases h
   ·cases h
  ·cases h1
 ·cases ho
theorem s_ext (he:EnvOk c e a) (K:Ok c g.nx) (hg:c.hp = g.hp) {i:Nat} {x:Opd} (ho:opB P c.num o.op (.ext i x) = true) (h:vExt i (x.ev e) g = some r):Does P o a c r:=by
 obtain ⟨dst,op,ty,pos,after,guard⟩:=o
 simp only[opB] at ho
 split at ho
 ·rename_i y j
  simp only[Bool.and_eq_true,beq_iff_eq] at ho
  obtain ⟨rfl,h2⟩:=ho
  have hr:=opdB_rep he h2
  unfold vExt at h
  split at h
  ·rename_i cs hx
   rw[hx] at hr
   obtain ⟨vs,hv,hreps⟩:=rep_tup hr
   cases hp:cs[i]? with
   | none => rw[hp] at h;cases h
   | some v =>
     rw[hp] at h;cases h
     obtain ⟨u,hu,hval⟩:=hreps.get hp
     exact Does.quiet K hg hval (by simp[execOp,hv,Instr.extract,hu])
  ·cases h
 ·cases ho
theorem list_one {α:Type} {asx:Array α} {x:α} (h:asx.toList = [x]):asx = #[x]:=by apply Array.ext';simpa using h
theorem list_two {α:Type} {asx:Array α} {x y:α} (h:asx.toList = [x,y]):asx = #[x,y]:=by apply Array.ext';simpa using h
theorem opds_two {os:List Operand} {x y:Opd} {nm:Nat→Nat} (h:opdsB nm os [x,y] = true):∃ p q,os = [p,q]∧opdB nm p x = true∧opdB nm q y = true:=by
 match os,h with
 | [p,q],h => simp[opdsB] at h;exact ⟨p,q,rfl,h.1,h.2⟩
 | [],h => simp[opdsB] at h
 | [_],h => simp[opdsB] at h
 | _ :: _ :: _ :: _,h => simp[opdsB] at h
theorem s_len (he:EnvOk c e a) (K:Ok c g.nx) (hg:c.hp = g.hp) {x:Opd} (ho:opB P c.num o.op (.len x) = true) (h:vLen (x.ev e) g = some r):Does P o a c r:=by
 obtain ⟨dst,op,ty,pos,after,guard⟩:=o
 simp only[opB] at ho
 split at ho
 ·rename_i cl
  obtain ⟨callee,args,argTypes⟩:=cl
  simp only[Bool.and_eq_true] at ho
  obtain ⟨h1,h2⟩:=ho
  split at h1
  ·split at h2
   ·rename_i y t ha ht
    have ha':=list_one ha
    have ht':=list_one ht
    subst ha' ht'
    simp only[Bool.and_eq_true] at h2
    obtain ⟨h3,h4⟩:=h2
    have hr:=opdB_rep he h3
    split at h4
    ·rename_i el hu
     unfold vLen at h
     split at h
     ·rename_i cs n tk hx
      rw[hx] at hr
      cases h
      obtain ⟨ao,cap,ad,vs,hv,_⟩:=rep_sl hr
      exact Does.quiet K hg (.i _ _) (by simp[execOp,hv,resolve,invoke,builtin,Builtin.len_,run_underlying hu,goInt])
     ·rename_i b off n hx
      rw[hx] at hr
      cases h
      obtain ⟨cap,hv,_⟩:=rep_ms hr
      exact Does.quiet K hg (.i _ _) (by simp[execOp,hv,resolve,invoke,builtin,Builtin.len_,run_underlying hu,goInt])
     ·cases h
    ·cases h4
   ·cases h2
  ·cases h1
 ·cases ho
theorem s_slen (he:EnvOk c e a) (K:Ok c g.nx) (hg:c.hp = g.hp) {x:Opd} (ho:opB P c.num o.op (.slen x) = true) (h:vSlen (x.ev e) g = some r):Does P o a c r:=by
 obtain ⟨dst,op,ty,pos,after,guard⟩:=o
 simp only[opB] at ho
 split at ho
 ·rename_i cl
  obtain ⟨callee,args,argTypes⟩:=cl
  simp only[Bool.and_eq_true] at ho
  obtain ⟨h1,h2⟩:=ho
  split at h1
  ·split at h2
   ·rename_i y t ha ht
    have ha':=list_one ha
    have ht':=list_one ht
    subst ha' ht'
    simp only[Bool.and_eq_true] at h2
    obtain ⟨h3,h4⟩:=h2
    have hr:=opdB_rep he h3
    split at h4
    ·rename_i hu
     unfold vSlen at h
     split at h
     ·rename_i s hx
      rw[hx] at hr
      cases h
      exact Does.quiet K hg (.i _ _) (by simp[execOp,rep_s hr,resolve,invoke,builtin,Builtin.len_,run_underlying hu,goInt])
     ·cases h
    ·cases h4
   ·cases h2
  ·cases h1
 ·cases ho
theorem s_mx (he:EnvOk c e a) (K:Ok c g.nx) (hg:c.hp = g.hp) {x y:Opd} (ho:opB P c.num o.op (.mx x y) = true) (h:vMx (x.ev e) (y.ev e) g = some r):Does P o a c r:=by
 obtain ⟨dst,op,ty,pos,after,guard⟩:=o
 simp only[opB] at ho
 split at ho
 ·rename_i cl
  obtain ⟨callee,args,argTypes⟩:=cl
  simp only[Bool.and_eq_true] at ho
  obtain ⟨h1,h2⟩:=ho
  split at h1
  ·obtain ⟨p,q,hargs,h3,h4⟩:=opds_two h2
   have:=list_two hargs
   subst this
   have r1:=opdB_rep he h3
   have r2:=opdB_rep he h4
   unfold vMx at h
   split at h
   ·rename_i k u k' v hx hy
    rw[hx] at r1
    rw[hy] at r2
    cases h
    exact Does.quiet K hg (.i _ _) (by simp[execOp,rep_i r1,rep_i r2,resolve,invoke,builtin,Builtin.max_,Builtin.max2])
   ·cases h
  ·cases h1
 ·cases ho
theorem s_mn (he:EnvOk c e a) (K:Ok c g.nx) (hg:c.hp = g.hp) {x y:Opd} (ho:opB P c.num o.op (.mn x y) = true) (h:vMn (x.ev e) (y.ev e) g = some r):Does P o a c r:=by
 obtain ⟨dst,op,ty,pos,after,guard⟩:=o
 simp only[opB] at ho
 split at ho
 ·rename_i cl
  obtain ⟨callee,args,argTypes⟩:=cl
  simp only[Bool.and_eq_true] at ho
  obtain ⟨h1,h2⟩:=ho
  split at h1
  ·obtain ⟨p,q,hargs,h3,h4⟩:=opds_two h2
   have:=list_two hargs
   subst this
   have r1:=opdB_rep he h3
   have r2:=opdB_rep he h4
   unfold vMn at h
   split at h
   ·rename_i k u k' v hx hy
    rw[hx] at r1
    rw[hy] at r2
    cases h
    exact Does.quiet K hg (.i _ _) (by simp[execOp,rep_i r1,rep_i r2,resolve,invoke,builtin,Builtin.min_,Builtin.min2])
   ·cases h
  ·cases h1
 ·cases ho
theorem foldl_set:∀ (vs:List Value) (k off:Nat) (cs:Array Value),(vs.zipIdx k).foldl (fun cs (x:Value × Nat) => cs.setIfInBounds (off + x.2) x.1) cs = (lset cs.toList (off + k) vs).toArray
 | [],k,off,cs => by simp[lset]
 | v :: vs,k,off,cs => by
   rw[List.zipIdx_cons,List.foldl_cons,foldl_set vs (k + 1) off,lset]
   simp[Nat.add_assoc]
theorem fill_rep {place:Nat→Option (Nat × Nat)} (he:EnvOk c e a):∀ {ps:List (Nat × Operand)} {qs:List (Nat × Nat × Opd)} {cs cs':List AV} {vs:List Value},partsB c.num place ps qs = true→fill e cs qs = some cs'→Reps c true cs vs→cs.all Ab.one = true →
  ∃ vs':List Value,Instr.fill place vs.toArray (ps.map fun p => (p.1,a.eval p.2)) = some vs'.toArray∧Reps c true cs' vs'∧cs'.all Ab.one = true
 | [],[],cs,cs',vs,_,h,hr,h1 => by
   simp only[fill] at h;cases h
   exact ⟨vs,rfl,hr,h1⟩
 | (i,x) :: ps,(off,n,y) :: qs,cs,cs',vs,hp,h,hr,h1 => by
   simp only[partsB,Bool.and_eq_true,beq_iff_eq] at hp
   obtain ⟨⟨p1,p2⟩,p3⟩:=hp
   simp only[fill] at h
   split at h
   ·rename_i hc
    obtain ⟨c1,c2,c3⟩:=hc
    have hx:=cells_rep (opdB_rep he p2) c3
    have hl:(cellsOf (y.ev e)).length = (a.eval x).cells.size:=by simpa using hx.1
    have hsz:cs.length = vs.length:=hr.1
    rw[splice_eq _ _ _ (by omega)] at h
    have hr':=Reps.lsetAll (cellsOf (y.ev e)) _ cs vs off hr hx
    obtain ⟨vs',k1,k2,k3⟩:=fill_rep he p3 h hr' (lset_all _ _ _ h1 c3)
    refine ⟨vs',?_,k2,k3⟩
    simp only[List.map_cons,Instr.fill,p1]
    rw[if_neg (by simp;omega)]
    have hf:=foldl_set (a.eval x).cells.toList 0 off vs.toArray
    simp only[Nat.add_zero] at hf
    rw[←k1]
    congr 1
    rw[←hf]
    rw[←Array.foldl_toList,Array.toList_zipIdx]
   ·cases h
 | [],_ :: _,_,_,_,hp,_,_,_ => by simp[partsB] at hp
 | _ :: _,[],_,_,_,hp,_,_,_ => by simp[partsB] at hp
end
end Go.Ab
end
section
set_option linter.unusedVariables false
set_option linter.unusedSimpArgs false
namespace Go.Ab
open Go.RowKit
section
variable {P:Program} {o:Oper} {a:Act} {c:Cx} {e:Env} {g:G} {al:Nat→Bool} {id:Nat} {r:AV × G}
theorem mapM_places {P:Program} (w:World):∀ (fs:List Field) (acc:List (Nat × Nat)),(∀ f∈fs,(P.info? f.type).isSome) →
  (List.mapM (m:=Sem) (fun f:Field => do pure (f.offset,←sizeOf f.type)) fs).run P w = .ok (fs.map fun f => (f.offset,P.cellsOf f.type)) w
 | [],acc,_ => by simp
 | f :: fs,acc,h => by
   obtain ⟨i,hi⟩:=Option.isSome_iff_exists.1 (h f (by simp))
   have ih:=mapM_places (P:=P) w fs acc (fun f hf => h f (by simp[hf]))
   have hs:P.cellsOf f.type = i.size:=by simp[Program.cellsOf,hi]
   rw[List.mapM_cons]
   simp only[Sem.run_bind,sizeOf,typeInfo,run_program,Result.andThen_ok,hi,Sem.run_pure,List.map_cons,hs]
   have ih':=ih
   simp only[sizeOf,typeInfo] at ih'
   rw[ih']
   rfl
theorem s_build (he:EnvOk c e a) (K:Ok c g.nx) (hg:c.hp = g.hp) {zero:List AV} {ps} (ho:opB P c.num o.op (.build zero ps) = true) (h:vMapL .agg g (fill e zero ps) = some r):Does P o a c r:=by
 obtain ⟨dst,op,ty,pos,after,guard⟩:=o
 simp only[opB] at ho
 split at ho
 ·rename_i t qs
  simp only[Bool.and_eq_true] at ho
  obtain ⟨h1,h2⟩:=ho
  obtain ⟨i,z,hi,hz,hc,hs⟩:=zeroB_some h1
  cases hf:fill e zero ps with
  | none => rw[hf] at h;cases h
  | some cs =>
    rw[hf] at h;cases h
    split at h2
    ·rename_i fs hu
     simp only[Bool.and_eq_true] at h2
     obtain ⟨h3,h4⟩:=h2
     obtain ⟨vs',k1,k2,k3⟩:=fill_rep he h4 hf (constsB_rep hc c true) (constsB_one hc)
     refine Does.quiet K hg (val:=.agg vs'.toArray) (.agg _ k2.1 k2.2) ?_
     have hall:∀ f∈fs.toList,(P.info? f.type).isSome:=by
      intro f hf
      rw[Array.all_eq_true_iff_forall_mem] at h3
      have:=h3 ((P.info? f.type).map fun i => (f.offset,i.size)) (by
       unfold fieldPlaces
       rw[Array.mem_map]
       exact ⟨f,by simpa using hf,rfl⟩)
      simpa using this
     have hm:=mapM_places (P:=P) c.w fs.toList [] hall
     have hm':(Array.mapM (m:=Sem) (fun f:Field => do pure (f.offset,←sizeOf f.type)) fs).run P c.w = .ok ((fs.toList.map fun f => (f.offset,P.cellsOf f.type)).toArray) c.w:=by
      rw[Array.mapM_eq_mapM_toList]
      simp only[Sem.run_map,hm,Result.andThen_ok]
     have hpl:(fun i:Nat => ((fieldPlaces P fs)[i]?).bind id) = (fun i:Nat => ((fs.toList.map fun f => (f.offset,P.cellsOf f.type)).toArray)[i]?):=by
      funext i
      simp only[fieldPlaces,Array.getElem?_map,List.getElem?_toArray,List.getElem?_map,Array.getElem?_toList]
      cases hfi:fs[i]? with
      | none => rfl
      | some f =>
        obtain ⟨i',hi'⟩:=Option.isSome_iff_exists.1 (hall f (by simpa using Array.mem_of_getElem? hfi))
        simp[hi',Program.cellsOf]
     rw[hpl] at k1
     have k1':Instr.fill (fun i:Nat => ((fs.toList.map fun f => (f.offset,P.cellsOf f.type)).toArray)[i]?) z.cells (qs.map fun p => (p.1,a.eval p.2)).toList = some vs'.toArray:=by simpa using k1
     simp only[execOp,Instr.build,Sem.run_bind,zeroValue,typeInfo,run_program,Result.andThen_ok,hi,hz,Sem.run_pure,run_underlying hu]
     rw[hm']
     simp only[Result.andThen_ok,k1',Sem.run_pure]
    ·rename_i n el hu
     split at h2
     ·rename_i inf hinf
      obtain ⟨vs',k1,k2,k3⟩:=fill_rep he h2 hf (constsB_rep hc c true) (constsB_one hc)
      refine Does.quiet K hg (val:=.agg vs'.toArray) (.agg _ k2.1 k2.2) ?_
      have k1':Instr.fill (fun j:Nat => some (j * inf.size,inf.size)) z.cells (qs.map fun p => (p.1,a.eval p.2)).toList = some vs'.toArray:=by simpa using k1
      simp only[execOp,Instr.build,Sem.run_bind,zeroValue,typeInfo,run_program,Result.andThen_ok,hi,hz,Sem.run_pure,run_underlying hu,sizeOf,hinf,k1']
     ·cases h2
    ·cases h2
 ·cases ho
theorem s_bsl (he:EnvOk c e a) (K:Ok c g.nx) (hg:c.hp = g.hp) (hid:c.hp id = none) (hlt:id < g.nx) {imm:Bool} {n:Nat} {zero:List AV} {ps} (ho:opB P c.num o.op (.bsl imm n zero ps) = true) (h:vBsl id imm n (fill e zero ps) g = some r):Does P o a c r:=by
 obtain ⟨dst,op,ty,pos,after,guard⟩:=o
 simp only[opB] at ho
 split at ho
 ·rename_i t len qs
  split at ho
  ·rename_i el hu
   split at ho
   ·rename_i i hi
    split at ho
    ·rename_i z hz
     simp only[Bool.and_eq_true,beq_iff_eq,decide_eq_true_eq] at ho
     obtain ⟨⟨⟨⟨⟨rfl,h2⟩,h2'⟩,h3⟩,h4⟩,h5⟩:=ho
     cases hf:fill e zero ps with
     | none => rw[hf] at h;cases h
     | some cs =>
       rw[hf] at h
       obtain ⟨vs',k1,k2,k3⟩:=fill_rep he h5 hf (constsB_rep h4 c true) (constsB_one h4)
       have hbig:¬ (len * i.size > 2 ^ 24):=by omega
       have k1':Instr.fill (fun j:Nat => some (j * i.size,i.size)) ((Array.range (len * i.size)).map (z.cells[· % z.cells.size]!)) (qs.map fun p => (p.1,a.eval p.2)).toList = some vs'.toArray:=by
        rw[Array.toArray_toList] at k1
        rw[Array.toList_map];exact k1
       have hrun:(execOp a.eval { dst:=dst,op:=.buildSlice t len qs,type:=ty,pos:=pos,after:=after,guard:=guard }).run P c.w = .ok (.value (.slice (some ⟨c.w.heap.size,0,none⟩) len len)) (c.w.alloc (.cells vs'.toArray el)):=by
        by_cases h0:len * i.size = 0
        ·have hr0:(Array.range (len * i.size)).map (z.cells[· % z.cells.size]!) = #[]:=by rw[h0];apply Array.ext';simp
         have hr1:(Array.range 0).map ((#[]:Array Value)[· % (#[]:Array Value).size]!) = #[]:=by apply Array.ext';simp
         rw[hr0] at k1'
         simp only[execOp,Instr.buildSlice,Sem.run_bind,run_underlying hu,Result.andThen_ok,sizeOf,typeInfo,run_program,hi,Sem.run_pure,hbig,if_false,Sem.run_ite,h0,if_true,hr1,k1',newRow,run_newObj,World.alloc_eq]
         simp
        ·simp only[execOp,Instr.buildSlice,Sem.run_bind,run_underlying hu,Result.andThen_ok,sizeOf,typeInfo,run_program,hi,Sem.run_pure,hbig,if_false,Sem.run_ite,h0,zeroValue,hz,k1',newRow,run_newObj,World.alloc_eq]
       have hlen:len≤maxLen:=by simp only[maxLen];omega
       unfold vBsl at h
       cases imm with
       | true =>
         simp only[if_true] at h
         cases hz':frzL (fun _ => none) depth cs with
         | none => rw[hz'] at h;cases h
         | some cs' =>
           rw[hz'] at h;cases h
           have hb:Below c.w.heap.size c.w (c.w.alloc (.cells vs'.toArray el)):=(Below.refl _ _).alloc (Nat.le_refl _) _
           have hr:=(frzL_none K hz' k2).evo (Evo.grow K hb (fun _ => Nat.le_refl _))
           refine ⟨_,c.grow (c.w.alloc (.cells vs'.toArray el)),.slice (some ⟨c.w.heap.size,0,none⟩) len len,hrun,.inl rfl,Evo.grow K hb (fun _ => Nat.le_refl _),K.grow hb (fun _ => Nat.le_refl _),hg,?_⟩
           refine .sl ⟨c.w.heap.size,0,none⟩ vs' (Nat.le_refl _) hlen (fun _ => rfl) (fun _ _ _ h => by cases h) (fun _ => rfl) (k2.ones k3) hr.1 (fun _ => rfl) (fun j u hu => ?_) hr.2 (fun _ _ h => by cases h)
           rw[add_mk]
           refine ⟨I_beside K (Nat.le_refl _) (by simp),?_⟩
           show (c.w.alloc _).cell? _ = _
           rw[cell_of_heap (heap_last _ _)]
           simpa using hu
       | false =>
         simp only[Bool.false_eq_true,if_false] at h
         cases h
         have hn:NewOk c (.cells vs'.toArray el) (.cells cs false):=⟨vs',[],el,by rw[List.append_nil],k2,k3⟩
         refine Does.fresh (lo:=0) K hg hid hlt hn _ _ ?_ hrun
         have:=Rep.ms (c:=c.alloc id (.cells vs'.toArray el) 0 (.cells cs false)) id 0 len len (by rw[hp_alloc_same];rfl) (Nat.le_refl _) hlen (MsOk.new fun e' _ hl' => by rw[←hl',k2.1];simp)
         rwa [loc_alloc_same] at this
    ·cases ho
   ·cases ho
  ·cases ho
 ·cases ho
theorem s_boxI (he:EnvOk c e a) (K:Ok c g.nx) (hg:c.hp = g.hp) {x:Opd} (ho:opB P c.num o.op (.boxI x) = true) (h:vBoxI (x.ev e) g = some r):Does P o a c r:=by
 obtain ⟨dst,op,ty,pos,after,guard⟩:=o
 simp only[opB] at ho
 split at ho
 ·rename_i t y
  unfold vBoxI at h
  split at h
  ·rename_i h1
   have hr:=cells_rep (opdB_rep he ho) h1
   cases hz':frzL (fun _ => none) depth (cellsOf (x.ev e)) with
   | none => rw[hz'] at h;cases h
   | some cs' =>
     rw[hz'] at h;cases h
     have hb:Below c.w.heap.size c.w (c.w.alloc (.cells (a.eval y).cells t)):=(Below.refl _ _).alloc (Nat.le_refl _) _
     have hr':=(frzL_none K hz' hr).evo (Evo.grow K hb (fun _ => Nat.le_refl _))
     refine ⟨.value (.pointer (some ⟨c.w.heap.size,0,none⟩)),c.grow (c.w.alloc (.cells (a.eval y).cells t)),.pointer (some ⟨c.w.heap.size,0,none⟩),?_,.inl rfl,Evo.grow K hb (fun _ => Nat.le_refl _),K.grow hb (fun _ => Nat.le_refl _),hg,?_⟩
     ·show _ = Result.ok _ (c.w.alloc _)
      simp[execOp,Instr.box,newVar,newRow]
     ·refine .ptr ⟨c.w.heap.size,0,none⟩ (a.eval y).cells.toList (hr.ones h1) hr'.1 (fun j u hu => ?_) hr'.2
      rw[add_mk]
      refine ⟨I_beside K (Nat.le_refl _) (by simp),?_⟩
      show (c.w.alloc _).cell? _ = _
      rw[cell_of_heap (heap_last _ _)]
      simpa using hu
  ·cases h
 ·cases ho
theorem bnd_run {w:World} {dflt:Nat} {oo:Option Operand} {oy:Option Opd} (he:EnvOk c e a) (ho:opdO c.num oo oy = true) {z:Int} (hb:bnd dflt (evo e oy) = some z) {y:Nat} (h0:0≤z) (h1:z≤y) (code:BoundsCode):
  (oo = none∧oy = none∧z = dflt)∨(∃ x k,oo = some x∧a.eval x = .int k z∧(Instr.sliceBound (.int k z) y code).run P w = .ok z.toNat w):=by
 cases oo with
 | none =>
   cases oy with
   | none => simp[evo,bnd] at hb;exact .inl ⟨rfl,rfl,hb.symm⟩
   | some q => simp[opdO] at ho
 | some x =>
   cases oy with
   | none => simp[opdO] at ho
   | some q =>
     simp only[opdO] at ho
     have hr:=opdB_rep he ho
     simp only[evo] at hb
     unfold bnd at hb
     split at hb
     ·rename_i hn;cases hn
     ·rename_i k z' hq
      cases hb
      rw[Option.some.inj hq] at hr
      exact .inr ⟨x,k,rfl,rep_i hr,by simp[Instr.sliceBound,asIntOf,h0,h1]⟩
     ·cases hb
end
end Go.Ab
end
section
set_option linter.unusedVariables false
set_option linter.unusedSimpArgs false
namespace Go.Ab
open Go.RowKit
section
variable {P:Program} {o:Oper} {a:Act} {c:Cx} {e:Env} {g:G} {al:Nat→Bool} {id:Nat} {r:AV × G}
theorem rep_sub {cs:List AV} {n cap:Nat} {ao:Option Addr} {ad:Addr} {vs:List Value} (hc:n≤cap) (hm:cap≤maxLen) (hz:0 < n→ao.isSome) (hone:∀ v∈vs,v.oneCell' = true) (hreps:Reps c false cs vs) (ha:cs≠[]→ao = some ad)
  (hk:∀ (j:Nat) u,vs[j]? = some u→c.I (ad.add j)∧c.w.cell? (ad.add j) = some u) {lo hi m esz:Nat} (h1:lo≤hi) (h2:hi≤n) (h3:hi≤m) (h4:m≤cap) {t:Tok} (ht:∀ τ e,t≠.own τ e) (hr:t = .rig→m = hi):
  Rep c true (.sl ((cs.drop (lo * esz)).take ((hi - lo) * esz)) (hi - lo) t) (.slice (if m = lo then ao else ao.map (·.add (lo * esz))) (hi - lo) (m - lo)):=by
 have hreps':=(hreps.drop (lo * esz)).take ((hi - lo) * esz)
 refine .sl (ad.add (lo * esz)) ((vs.drop (lo * esz)).take ((hi - lo) * esz)) (by omega) (by omega) (fun h => by have:=hr h;omega) (fun _ => ht) (fun h => ?_) (fun u hu => hone u (List.mem_of_mem_drop (List.mem_of_mem_take hu))) hreps'.1 (fun h => ?_) (fun j u hu => ?_) hreps'.2 (fun τ e h => absurd h (ht τ e))
 ·have:=hz (by omega)
  split
  ·exact this
  ·simpa using this
 ·have hcs:cs≠[]:=by intro h';subst h';simp at h
  by_cases hml:m = lo
  ·exfalso
   have:hi - lo = 0:=by omega
   rw[this] at h
   simp at h
  ·rw[if_neg hml,ha hcs]
   rfl
 ·rw[List.getElem?_take] at hu
  split at hu
  ·rw[List.getElem?_drop] at hu
   have h:=hk _ u hu
   by_cases hk0:lo * esz = 0
   ·rw[hk0,add_zero]
    rw[hk0] at h
    simpa using h
   ·rw[add_add _ _ _ ?_]
    ·exact h
    ·have hv0:vs[0]? = some (vs[0]'(by have:=(List.getElem?_eq_some_iff.1 hu).1;omega)):=List.getElem?_eq_getElem _
     have:=(hk 0 _ hv0).2
     rw[add_zero] at this
     exact spot_of this
  ·cases hu
theorem s_slice (he:EnvOk c e a) (K:Ok c g.nx) (hg:c.hp = g.hp) {esz:Nat} {x:Opd} {lo hi mx:Option Opd} (ho:opB P c.num o.op (.slice esz x lo hi mx) = true) (h:vSlice esz (x.ev e) (evo e lo) (evo e hi) (evo e mx) g = some r):Does P o a c r:=by
 obtain ⟨dst,op,ty,pos,after,guard⟩:=o
 simp only[opB] at ho
 split at ho
 ·rename_i t y l hh m
  simp only[Bool.and_eq_true] at ho
  obtain ⟨⟨⟨⟨⟨h1,h2⟩,h3⟩,h4⟩,h5⟩,h6⟩:=ho
  have hr:=opdB_rep he h2
  split at h1
  ·rename_i el hu
   obtain ⟨inf,hinf,hs⟩:=sizeB_some h1
   unfold vSlice at h
   split at h
   ·rename_i cs n tk hx
    rw[hx] at hr
    obtain ⟨ao,cap,ad,vs,hv,hc,hm,hrig,hz,hone,hreps,ha,hk,_⟩:=rep_sl hr
    split at h
    ·-- no third index
     rename_i zl zh hl hhi hmx
     split at h
     ·rename_i hb
      obtain ⟨b1,b2,b3⟩:=hb
      cases h
      have hmn:m = none:=by
       cases m with
       | none => rfl
       | some _ =>
         cases mx with
         | none => simp[opdO] at h5
         | some _ => simp[evo] at hmx
      subst hmn
      have e1:(zl.toNat:Int) = zl:=Int.toNat_of_nonneg b1
      have e2:(zh.toNat:Int) = zh:=Int.toNat_of_nonneg (by omega)
      have hrun:(execOp a.eval { dst:=dst,op:=.slice t y l hh none,type:=ty,pos:=pos,after:=after,guard:=guard }).run P c.w = .ok (.value (.slice (if cap = zl.toNat then ao else ao.map (·.add (zl.toNat * esz))) (zh.toNat - zl.toNat) (cap - zl.toNat))) c.w:=by
       rcases bnd_run (P:=P) (w:=c.w) (y:=cap) he h4 hhi (by omega) (by omega) .sliceAcap with ⟨rfl,rfl,hzh⟩ | ⟨x2,k2,rfl,hx2,hr2⟩
       ·subst hzh
        rcases bnd_run (P:=P) (w:=c.w) (y:=n) he h3 hl b1 (by omega) .sliceB with ⟨rfl,rfl,hzl⟩ | ⟨x1,k1,rfl,hx1,hr1⟩
        ·subst hzl
         simp[execOp,hv,Instr.sliceAt,Instr.slice,Instr.sliceBounds,run_underlying hu,sizeOf,typeInfo,hinf,hs]
        ·simp[execOp,hv,Instr.sliceAt,Instr.slice,Instr.sliceBounds,run_underlying hu,sizeOf,typeInfo,hinf,hs,hx1,hr1]
       ·rcases bnd_run (P:=P) (w:=c.w) (y:=zh.toNat) he h3 hl b1 (by omega) .sliceB with ⟨rfl,rfl,hzl⟩ | ⟨x1,k1,rfl,hx1,hr1⟩
        ·subst hzl
         simp[execOp,hv,Instr.sliceAt,Instr.slice,Instr.sliceBounds,run_underlying hu,sizeOf,typeInfo,hinf,hs,hx2,hr2]
        ·simp[execOp,hv,Instr.sliceAt,Instr.slice,Instr.sliceBounds,run_underlying hu,sizeOf,typeInfo,hinf,hs,hx1,hr1,hx2,hr2]
      refine Does.quiet K hg ?_ hrun
      refine rep_sub hc hm hz hone hreps ha hk (by omega) (by omega) (by omega) (Nat.le_refl _) (fun τ e => by split<;>simp) (fun h => ?_)
      split at h
      ·rename_i hcc;have:=hrig hcc.1;omega
      ·cases h
     ·cases h
    ·rename_i zl zh k mz hl hhi hmx
     split at h
     ·rename_i hb
      obtain ⟨b1,b2,b3,b4⟩:=hb
      cases h
      have e1:(zl.toNat:Int) = zl:=Int.toNat_of_nonneg b1
      have e2:(zh.toNat:Int) = zh:=Int.toNat_of_nonneg (by omega)
      obtain ⟨q,rfl⟩:∃ q,mx = some q:=by cases mx with | none => simp[evo] at hmx | some q => exact ⟨q,rfl⟩
      obtain ⟨xm,rfl⟩:∃ xm,m = some xm:=by cases m with | none => simp[opdO] at h5 | some q => exact ⟨q,rfl⟩
      simp only[opdO] at h5
      simp only[evo] at hmx
      have hxm:=opdB_rep he h5
      rw[Option.some.inj hmx] at hxm
      have hvm:=rep_i hxm
      subst b3
      have hrm:(Instr.sliceBound (.int k zh) cap .slice3Acap).run P c.w = .ok zh.toNat c.w:=by simp[Instr.sliceBound,asIntOf,show 0≤zh by omega,show zh≤cap by omega]
      rcases bnd_run (P:=P) (w:=c.w) (y:=zh.toNat) he h4 hhi (by omega) (by omega) .slice3B with ⟨rfl,rfl,hzh⟩ | ⟨x2,k2,rfl,hx2,hr2⟩
      ·simp at h6
      ·have hrun:(execOp a.eval { dst:=dst,op:=.slice t y l (some x2) (some xm),type:=ty,pos:=pos,after:=after,guard:=guard }).run P c.w = .ok (.value (.slice (if zh.toNat = zl.toNat then ao else ao.map (·.add (zl.toNat * esz))) (zh.toNat - zl.toNat) (zh.toNat - zl.toNat))) c.w:=by
        rcases bnd_run (P:=P) (w:=c.w) (y:=zh.toNat) he h3 hl b1 (by omega) .slice3C with ⟨rfl,rfl,hzl⟩ | ⟨x1,k1,rfl,hx1,hr1⟩
        ·subst hzl
         simp[execOp,hv,Instr.sliceAt,Instr.slice,Instr.sliceBounds,run_underlying hu,sizeOf,typeInfo,hinf,hs,hx2,hr2,hvm,hrm]
        ·simp[execOp,hv,Instr.sliceAt,Instr.slice,Instr.sliceBounds,run_underlying hu,sizeOf,typeInfo,hinf,hs,hx1,hr1,hx2,hr2,hvm,hrm]
       refine Does.quiet K hg ?_ hrun
       exact rep_sub hc hm hz hone hreps ha hk (by omega) (by omega) (Nat.le_refl _) (by omega) (fun τ e => by simp) (fun _ => rfl)
     ·cases h
    ·cases h
   ·rename_i id off n hx
    rw[hx] at hr
    obtain ⟨cap,hv,hc,hm,hs2,hms⟩:=rep_ms' hr
    split at h
    ·rename_i kl zl hl hhi hmx
     split at h
     ·rename_i hb
      obtain ⟨b1,b2,b3⟩:=hb
      cases h
      have hmn:m = none:=by
       cases m with
       | none => rfl
       | some _ =>
         cases mx with
         | none => simp[opdO] at h5
         | some _ => simp[evo] at hmx
      have hhn:hh = none:=by
       cases hh with
       | none => rfl
       | some _ =>
         cases hi with
         | none => simp[opdO] at h4
         | some _ => simp[evo] at hhi
      subst hmn hhn
      have e1:(zl.toNat:Int) = zl:=Int.toNat_of_nonneg (by omega)
      have hne:cap≠zl.toNat:=by omega
      have hrun:(execOp a.eval { dst:=dst,op:=.slice t y l none none,type:=ty,pos:=pos,after:=after,guard:=guard }).run P c.w = .ok (.value (.slice (some ⟨(c.loc id).1,off + zl.toNat * esz,none⟩) (n - zl.toNat) (cap - zl.toNat))) c.w:=by
       rcases bnd_run (P:=P) (w:=c.w) (dflt:=0) (y:=n) he h3 (z:=zl) (by rw[hl];rfl) (by omega) (by omega) .sliceB with ⟨rfl,rfl,hzl⟩ | ⟨x1,k1,rfl,hx1,hr1⟩
       ·simp[evo] at hl
       ·simp[execOp,hv,Instr.sliceAt,Instr.slice,Instr.sliceBounds,run_underlying hu,sizeOf,typeInfo,hinf,hs,hx1,hr1,hne,Addr.add]
      refine Does.quiet K hg ?_ hrun
      have hpos:0 < zl.toNat * esz:=Nat.mul_pos (by omega) b3
      exact Rep.ms id _ _ _ hs2 (by omega) (by omega) (fun cs ro e' _ h0 => absurd h0 (by omega))
     ·cases h
    ·rename_i kz zk hl hhi hmx
     split at h
     ·rename_i hb
      obtain ⟨b0,b1,b2,b3⟩:=hb
      cases h
      have hmn:m = none:=by
       cases m with
       | none => rfl
       | some _ =>
         cases mx with
         | none => simp[opdO] at h5
         | some _ => simp[evo] at hmx
      have hln:l = none:=by
       cases l with
       | none => rfl
       | some _ =>
         cases lo with
         | none => simp[opdO] at h3
         | some _ => simp[evo] at hl
      subst hmn hln b0
      have e1:(zk.toNat:Int) = zk:=Int.toNat_of_nonneg (by omega)
      have hrun:(execOp a.eval { dst:=dst,op:=.slice t y none hh none,type:=ty,pos:=pos,after:=after,guard:=guard }).run P c.w = .ok (.value (.slice (some ⟨(c.loc id).1,0,none⟩) zk.toNat cap)) c.w:=by
       rcases bnd_run (P:=P) (w:=c.w) (dflt:=n) (y:=cap) he h4 (z:=zk) (by rw[hhi];rfl) (by omega) (by omega) .sliceAcap with ⟨rfl,rfl,hzl⟩ | ⟨x1,k1,rfl,hx1,hr1⟩
       ·simp[evo] at hhi
       ·simp[execOp,hv,Instr.sliceAt,Instr.slice,Instr.sliceBounds,run_underlying hu,sizeOf,typeInfo,hinf,hs,hx1,hr1]
        exact fun _ => by simp[Addr.add]
      refine Does.quiet K hg ?_ hrun
      exact Rep.mc id _ _ _ _ hs2 (by omega) hc hm (fun cs ro hcs hcl vs ty hv => hms cs ro esz hcs rfl b1 hcl vs ty hv)
     ·cases h
    ·cases h
   ·cases h
  ·cases h1
 ·cases ho
theorem s_sslice (he:EnvOk c e a) (K:Ok c g.nx) (hg:c.hp = g.hp) {x:Opd} {lo hi:Option Opd} (ho:opB P c.num o.op (.sslice x lo hi) = true) (h:vSslice (x.ev e) (evo e lo) (evo e hi) g = some r):Does P o a c r:=by
 obtain ⟨dst,op,ty,pos,after,guard⟩:=o
 simp only[opB] at ho
 split at ho
 ·rename_i t y l hh
  simp only[Bool.and_eq_true] at ho
  obtain ⟨⟨⟨h1,h2⟩,h3⟩,h4⟩:=ho
  have hr:=opdB_rep he h2
  split at h1
  ·rename_i hu
   unfold vSslice at h
   split at h
   ·rename_i s hx
    rw[hx] at hr
    have hv:=rep_s hr
    split at h
    ·rename_i zl zh hl hhi
     split at h
     ·rename_i hb
      obtain ⟨b1,b2,b3⟩:=hb
      cases h
      refine Does.quiet K hg (.s _) ?_
      rcases bnd_run (P:=P) (w:=c.w) (y:=s.size) he h4 hhi (by omega) (by omega) .sliceAlen with ⟨rfl,rfl,hzh⟩ | ⟨x2,k2,rfl,hx2,hr2⟩
      ·subst hzh
       rcases bnd_run (P:=P) (w:=c.w) (y:=s.size) he h3 hl b1 (by omega) .sliceB with ⟨rfl,rfl,hzl⟩ | ⟨x1,k1,rfl,hx1,hr1⟩
       ·subst hzl
        simp[execOp,hv,Instr.sliceAt,Instr.slice,Instr.sliceBounds,run_underlying hu]
       ·simp[execOp,hv,Instr.sliceAt,Instr.slice,Instr.sliceBounds,run_underlying hu,hx1,hr1]
      ·rcases bnd_run (P:=P) (w:=c.w) (y:=zh.toNat) he h3 hl b1 (by omega) .sliceB with ⟨rfl,rfl,hzl⟩ | ⟨x1,k1,rfl,hx1,hr1⟩
       ·subst hzl
        simp[execOp,hv,Instr.sliceAt,Instr.slice,Instr.sliceBounds,run_underlying hu,hx2,hr2]
       ·simp[execOp,hv,Instr.sliceAt,Instr.slice,Instr.sliceBounds,run_underlying hu,hx1,hr1,hx2,hr2]
     ·cases h
    ·cases h
   ·cases h
  ·cases h1
 ·cases ho
end
end Go.Ab
end
section
set_option linter.unusedVariables false
set_option linter.unusedSimpArgs false
namespace Go.Ab
open Go.RowKit
section
variable {P:Program} {o:Oper} {a:Act} {c:Cx} {e:Env} {g:G} {al:Nat→Bool} {id:Nat} {r:AV × G}
theorem eqGuard_ii (op:BinOp) (t:TypeId) (x y:Operand) (k l:IntKind) (n m:Int) (w:World):(eqGuard op t x y (.int k n) (.int l m)).run P w = .ok () w:=by cases op<;>simp[eqGuard]
theorem eqGuard_ss (op:BinOp) (t:TypeId) (x y:Operand) (n m:ByteArray) (w:World):(eqGuard op t x y (.string n) (.string m)).run P w = .ok () w:=by cases op<;>simp[eqGuard]
theorem eqGuard_bb (op:BinOp) (t:TypeId) (x y:Operand) (n m:Bool) (w:World):(eqGuard op t x y (.bool n) (.bool m)).run P w = .ok () w:=by cases op<;>simp[eqGuard]
theorem eqGuard_pp (op:BinOp) (t:TypeId) (x y:Operand) (n m:Option Addr) (w:World):(eqGuard op t x y (.pointer n) (.pointer m)).run P w = .ok () w:=by cases op<;>simp[eqGuard]
theorem s_bin (he:EnvOk c e a) (K:Ok c g.nx) (hg:c.hp = g.hp) {op:BinOp} {x y:Opd} (ho:opB P c.num o.op (.bin op x y) = true) (h:vMap g (abin op (x.ev e) (y.ev e)) = some r):Does P o a c r:=by
 obtain ⟨dst,oop,ty,pos,after,guard⟩:=o
 simp only[opB] at ho
 split at ho
 ·rename_i op' t p q u
  simp only[Bool.and_eq_true,decide_eq_true_eq] at ho
  obtain ⟨⟨rfl,h1⟩,h2⟩:=ho
  have r1:=opdB_rep he h1
  have r2:=opdB_rep he h2
  cases hv:abin op' (x.ev e) (y.ev e) with
  | none => rw[hv] at h;cases h
  | some v =>
    rw[hv] at h;cases h
    unfold abin at hv
    split at hv
    ·rename_i k n l m hx hy
     rw[hx] at r1
     rw[hy] at r2
     obtain ⟨val,hval,hrun⟩:=ishift_run (P:=P) (.inl rfl) hv c t (l:=l)
     exact Does.quiet K hg hval (by simp[execOp,rep_i r1,rep_i r2,eqGuard_ii,hrun])
    ·rename_i k n l m hx hy
     rw[hx] at r1
     rw[hy] at r2
     obtain ⟨val,hval,hrun⟩:=ishift_run (P:=P) (.inr rfl) hv c t (l:=l)
     exact Does.quiet K hg hval (by simp[execOp,rep_i r1,rep_i r2,eqGuard_ii,hrun])
    ·rename_i k n l m _ _ hx hy
     rw[hx] at r1
     rw[hy] at r2
     split at hv
     ·rename_i hkl
      subst hkl
      obtain ⟨val,hval,hrun⟩:=ibin_run (P:=P) hv c
      obtain ⟨h3,h4⟩:=hrun c.w
      exact Does.quiet K hg hval (by simp[execOp,rep_i r1,rep_i r2,eqGuard_ii,h4 t,h3])
     ·cases hv
    ·rename_i n m hx hy
     rw[hx] at r1
     rw[hy] at r2
     unfold sbin at hv
     split at hv
     ·split at hv
      ·cases hv
      ·rename_i hs
       cases hv
       exact Does.quiet K hg (.s _) (by simp only[execOp,rep_s r1,rep_s r2,Sem.run_bind,eqGuard_ss,Result.andThen_ok,binOp,Op.stringOp,hs,if_false,Sem.run_pure])
     ·cases hv
      exact Does.quiet K hg (.b _) (by simp[execOp,rep_s r1,rep_s r2,eqGuard_ss,binOp,Op.stringOp])
     ·cases hv
      exact Does.quiet K hg (.b _) (by simp[execOp,rep_s r1,rep_s r2,eqGuard_ss,binOp,Op.stringOp])
     ·cases hv
      exact Does.quiet K hg (.b _) (by simp[execOp,rep_s r1,rep_s r2,eqGuard_ss,binOp,Op.stringOp])
     ·cases hv
    ·cases hv
 ·cases ho
theorem s_eqb (he:EnvOk c e a) (K:Ok c g.nx) (hg:c.hp = g.hp) {neg:Bool} {x y:Opd} (ho:opB P c.num o.op (.eqb neg x y) = true) (h:vMap g (negb neg (aeqb (x.ev e) (y.ev e))) = some r):Does P o a c r:=by
 obtain ⟨dst,oop,ty,pos,after,guard⟩:=o
 simp only[opB] at ho
 split at ho
 ·rename_i op' t p q u
  simp only[Bool.and_eq_true,decide_eq_true_eq] at ho
  obtain ⟨⟨⟨hop,h1⟩,h2⟩,h3⟩:=ho
  have r1:=opdB_rep he h1
  have r2:=opdB_rep he h2
  split at h3
  ·rename_i hu
   unfold aeqb at h
   split at h
   ·rename_i n m hx hy
    rw[hx] at r1
    rw[hy] at r2
    simp only[negb,vMap] at h
    cases h
    cases neg with
    | true =>
      simp only[if_true] at hop ⊢
      subst hop
      exact Does.quiet K hg (.b _) (by simp[execOp,rep_b r1,rep_b r2,eqGuard_bb,binOp,run_equal_bool c.w t n m hu])
    | false =>
      simp only[Bool.false_eq_true,if_false] at hop ⊢
      subst hop
      exact Does.quiet K hg (.b _) (by simp[execOp,rep_b r1,rep_b r2,eqGuard_bb,binOp,run_equal_bool c.w t n m hu])
   ·cases h
  ·cases h3
 ·cases ho
theorem run_equalIn_pp (d:Nat) {t el:TypeId} (hu:P.underlying t = some (.pointer el)) (p q:Option Addr) (hpq:p = none∨q = none) (w:World):(Op.equalIn (d + 1) t (.pointer p) (.pointer q)).run P w = .ok (p.isNone && q.isNone) w:=by
 rcases hpq with rfl | rfl
 ·simp only[Op.equalIn,Sem.run_bind,run_underlying hu,Result.andThen_ok,Sem.run_pure]
  simp
 ·cases p
  ·simp only[Op.equalIn,Sem.run_bind,run_underlying hu,Result.andThen_ok,Sem.run_pure]
   simp
  ·simp only[Op.equalIn,Sem.run_bind,run_underlying hu,Result.andThen_ok,Sem.run_pure]
   simp
theorem run_equal_pp {t el:TypeId} (hu:P.underlying t = some (.pointer el)) (p q:Option Addr) (hpq:p = none∨q = none) (w:World):(Op.equal t (.pointer p) (.pointer q)).run P w = .ok (p.isNone && q.isNone) w:=
 run_equalIn_pp 9999 hu p q hpq w
theorem aeqn_rep {x y:AV} {vx vy:Value} {res:Bool} (h:aeqn x y = some res) (r1:Rep c true x vx) (r2:Rep c true y vy):∃ p q,vx = .pointer p∧vy = .pointer q∧(p = none∨q = none)∧res = (p.isNone && q.isNone):=by
 unfold aeqn at h
 split at h
 ·cases h;cases r1;cases r2;exact ⟨none,none,rfl,rfl,.inl rfl,rfl⟩
 ·cases h;cases r1;obtain ⟨ad,_,hv,_⟩:=rep_ptr r2;exact ⟨none,some ad,rfl,hv,.inl rfl,rfl⟩
 ·cases h;cases r2;obtain ⟨ad,_,hv,_⟩:=rep_ptr r1;exact ⟨some ad,none,hv,rfl,.inr rfl,rfl⟩
 ·cases h;cases r1;have:=rep_mp r2;exact ⟨none,_,rfl,this,.inl rfl,rfl⟩
 ·cases h;cases r2;have:=rep_mp r1;exact ⟨_,none,this,rfl,.inr rfl,rfl⟩
 ·cases h
theorem s_eqn (he:EnvOk c e a) (K:Ok c g.nx) (hg:c.hp = g.hp) {neg:Bool} {x y:Opd} (ho:opB P c.num o.op (.eqn neg x y) = true) (h:vMap g (negb neg (aeqn (x.ev e) (y.ev e))) = some r):Does P o a c r:=by
 obtain ⟨dst,oop,ty,pos,after,guard⟩:=o
 simp only[opB] at ho
 split at ho
 ·rename_i op' t p q u
  simp only[Bool.and_eq_true,decide_eq_true_eq] at ho
  obtain ⟨⟨⟨hop,h1⟩,h2⟩,h3⟩:=ho
  have r1:=opdB_rep he h1
  have r2:=opdB_rep he h2
  split at h3
  ·rename_i el hu
   cases hv:aeqn (x.ev e) (y.ev e) with
   | none => rw[hv] at h;cases h
   | some res =>
     rw[hv] at h
     simp only[negb,vMap] at h
     cases h
     obtain ⟨pa,qa,e1,e2,hpq,hres⟩:=aeqn_rep hv r1 r2
     have hrun:=run_equal_pp (P:=P) hu pa qa hpq c.w
     cases neg with
     | true =>
       simp only[if_true] at hop ⊢
       subst hop
       exact Does.quiet K hg (.b _) (by simp[execOp,e1,e2,eqGuard_pp,binOp,hrun,hres])
     | false =>
       simp only[Bool.false_eq_true,if_false] at hop ⊢
       subst hop
       exact Does.quiet K hg (.b _) (by simp[execOp,e1,e2,eqGuard_pp,binOp,hrun,hres])
  ·cases h3
 ·cases ho
theorem eqGuard_sc (op:BinOp) (t:TypeId) (x y:Operand) (p q:Option Addr) (n m i j:Nat) (w:World):(eqGuard op t x y (.slice p n m) (.slice q i j)).run P w = .ok () w:=by cases op<;>simp[eqGuard]
theorem run_equalIn_sc (d:Nat) {t el:TypeId} (hu:P.underlying t = some (.slice el)) (p:Addr) (n m i j:Nat) (w:World):(Op.equalIn (d + 1) t (.slice (some p) n m) (.slice none i j)).run P w = .ok false w:=by
 simp only[Op.equalIn,Sem.run_bind,run_underlying hu,Result.andThen_ok,Sem.run_pure]
theorem run_equal_sc {t el:TypeId} (hu:P.underlying t = some (.slice el)) (p:Addr) (n m i j:Nat) (w:World):(Op.equal t (.slice (some p) n m) (.slice none i j)).run P w = .ok false w:=
 run_equalIn_sc 9999 hu p n m i j w
theorem aeqs_rep {x:AV} {v:Value} {res:Bool} (h:aeqs x = some res) (r1:Rep c true x v):res = false∧∃ p n m,v = .slice (some p) n m:=by
 unfold aeqs at h
 split at h
 ·split at h
  ·rename_i hn
   cases h
   obtain ⟨ao,cap,ad,vs,hv,hc,hm,hrig,hz,_⟩:=rep_sl r1
   have:=hz hn
   cases ao with
   | none => cases this
   | some p => exact ⟨rfl,p,_,_,hv⟩
  ·cases h
 ·cases h
  cases r1
  exact ⟨rfl,_,_,_,rfl⟩
 ·cases h
theorem s_eqs (he:EnvOk c e a) (K:Ok c g.nx) (hg:c.hp = g.hp) {neg:Bool} {x:Opd} (ho:opB P c.num o.op (.eqs neg x) = true) (h:vMap g (negb neg (aeqs (x.ev e))) = some r):Does P o a c r:=by
 obtain ⟨dst,oop,ty,pos,after,guard⟩:=o
 simp only[opB] at ho
 split at ho
 ·rename_i op' t p q1 q2 u
  simp only[Bool.and_eq_true,decide_eq_true_eq] at ho
  obtain ⟨⟨hop,h1⟩,h3⟩:=ho
  have r1:=opdB_rep he h1
  split at h3
  ·rename_i el hu
   cases hv:aeqs (x.ev e) with
   | none => rw[hv] at h;cases h
   | some res =>
     rw[hv] at h
     simp only[negb,vMap] at h
     cases h
     obtain ⟨rfl,pa,n,m,e1⟩:=aeqs_rep hv r1
     have hrun:=run_equal_sc (P:=P) hu pa n m q1 q2 c.w
     have e2:a.eval (.const (.slice none q1 q2)) = .slice none q1 q2:=rfl
     cases neg with
     | true =>
       simp only[if_true] at hop ⊢
       subst hop
       exact Does.quiet K hg (.b _) (by simp[execOp,e1,e2,eqGuard_sc,binOp,hrun])
     | false =>
       simp only[Bool.false_eq_true,if_false] at hop ⊢
       subst hop
       exact Does.quiet K hg (.b _) (by simp[execOp,e1,e2,eqGuard_sc,binOp,hrun])
  ·cases h3
 ·cases ho
theorem cellEq_run {k:Nat} {x y:AV} {vx vy:Value} {res:Bool} (h:cellEq k x y = some res) (r1:Rep c true x vx) (r2:Rep c true y vy) {t:TypeId} (hk:kindB P t = some k) (d:Nat) (w:World):(Op.equalIn (d + 1) t vx vy).run P w = .ok res w:=by
 unfold kindB at hk
 split at hk
 ·unfold cellEq at h
  split at h
  ·rw[rep_i r1,rep_i r2]
   split at h
   ·rename_i hjk
    subst hjk
    cases h
    split at hk
    ·rename_i hu;exact run_equalIn_int w d t _ _ _ _ hu
    ·cases hk
    ·cases hk
    ·cases hk
   ·cases h
  ·rw[rep_b r1,rep_b r2]
   cases h
   split at hk
   ·cases hk
   ·rename_i hu;exact run_equalIn_bool w d t _ _ hu
   ·cases hk
   ·cases hk
  ·rw[rep_s r1,rep_s r2]
   cases h
   split at hk
   ·cases hk
   ·cases hk
   ·rename_i hu;exact run_equalIn_string w d t _ _ hu
   ·cases hk
  ·cases h
 ·cases hk
theorem kindB_part {t:TypeId} {k:Nat} (hk:kindB P t = some k):aggB P t none = true∧P.cellsOf t = 1:=by
 unfold kindB at hk
 split at hk
 ·rename_i h
  simp only[Bool.and_eq_true] at h
  refine ⟨h.1,?_⟩
  obtain ⟨i,hi,hs⟩:=sizeB_some h.2
  simp[Program.cellsOf,hi,hs]
 ·cases hk
theorem part_cell {t:TypeId} (ht:aggB P t none = true) {vs:List Value} {j:Nat} {u:Value} (hu:vs[j]? = some u) (w:World):(Go.part t vs.toArray j).run P w = .ok u w:=by
 obtain ⟨d,i,hd,hi,hagg⟩:=aggB_none ht
 simp[Go.part,hagg,hu]
theorem eqItems_run {el:TypeId} {k:Nat} (hk:kindB P el = some k) (d:Nat) (w:World) {vs us:List Value}:∀ (n j:Nat) {xs ys:List AV} {res:Bool},cellsEq (List.replicate n k) xs ys = some res→Reps c true xs (vs.drop j)→Reps c true ys (us.drop j) →
  (Op.eqItems (d + 1) el (P.cellsOf el) vs.toArray us.toArray (List.range' j n)).run P w = .ok res w
 | 0,j,xs,ys,res,h,h1,h2 => by
   cases xs<;>cases ys<;>simp[cellsEq] at h
   subst h
   simp[Op.eqItems]
 | n + 1,j,xs,ys,res,h,h1,h2 => by
   obtain ⟨hp,hs⟩:=kindB_part hk
   cases xs with
   | nil => simp[List.replicate_succ,cellsEq] at h
   | cons x xs =>
     cases ys with
     | nil => simp[List.replicate_succ,cellsEq] at h
     | cons y ys =>
       simp only[List.replicate_succ,cellsEq] at h
       split at h
       ·rename_i p q hp' hq'
        cases h
        obtain ⟨v,vr,ev,rv,rvs⟩:=h1.cons_inv
        obtain ⟨u,ur,eu,ru,rus⟩:=h2.cons_inv
        have hv:vs[j]? = some v:=by
         have:(vs.drop j)[0]? = some v:=by rw[ev];rfl
         simpa using this
        have hu:us[j]? = some u:=by
         have:(us.drop j)[0]? = some u:=by rw[eu];rfl
         simpa using this
        have hvd:vs.drop (j + 1) = vr:=by rw[←List.drop_drop,ev];rfl
        have hud:us.drop (j + 1) = ur:=by rw[←List.drop_drop,eu];rfl
        have ih:=eqItems_run hk d w n (j + 1) hq' (by rw[hvd];exact rvs) (by rw[hud];exact rus)
        rw[hs] at ih
        rw[List.range'_succ,hs]
        simp only[Op.eqItems,Nat.mul_one,Sem.run_bind,part_cell hp hv,part_cell hp hu,Result.andThen_ok,cellEq_run hp' rv ru hk]
        cases p with
        | true => simpa using ih
        | false => simp
       ·cases h
theorem eqFields_run (d:Nat) (w:World) {vs us:List Value}:∀ (fs:List Field) (ks:List Nat) (j:Nat) {xs ys:List AV} {res:Bool},eqFieldsB P j fs ks = true→cellsEq ks xs ys = some res→Reps c true xs (vs.drop j)→Reps c true ys (us.drop j) →
  (Op.eqFields (d + 1) vs.toArray us.toArray fs).run P w = .ok res w
 | [],[],j,xs,ys,res,hb,h,h1,h2 => by
   cases xs<;>cases ys<;>simp[cellsEq] at h
   subst h
   simp[Op.eqFields]
 | [],_ :: _,_,_,_,_,hb,_,_,_ => by simp[eqFieldsB] at hb
 | _ :: _,[],_,_,_,_,hb,_,_,_ => by simp[eqFieldsB] at hb
 | f :: fs,k :: ks,j,xs,ys,res,hb,h,h1,h2 => by
   simp only[eqFieldsB,Bool.and_eq_true,bne_iff_ne,ne_eq,beq_iff_eq] at hb
   obtain ⟨⟨⟨b1,b2⟩,b3⟩,b4⟩:=hb
   obtain ⟨hp,hs⟩:=kindB_part b3
   cases xs with
   | nil => simp[cellsEq] at h
   | cons x xs =>
     cases ys with
     | nil => simp[cellsEq] at h
     | cons y ys =>
       simp only[cellsEq] at h
       split at h
       ·rename_i p q hp' hq'
        cases h
        obtain ⟨v,vr,ev,rv,rvs⟩:=h1.cons_inv
        obtain ⟨u,ur,eu,ru,rus⟩:=h2.cons_inv
        have hv:vs[j]? = some v:=by
         have:(vs.drop j)[0]? = some v:=by rw[ev];rfl
         simpa using this
        have hu:us[j]? = some u:=by
         have:(us.drop j)[0]? = some u:=by rw[eu];rfl
         simpa using this
        have hvd:vs.drop (j + 1) = vr:=by rw[←List.drop_drop,ev];rfl
        have hud:us.drop (j + 1) = ur:=by rw[←List.drop_drop,eu];rfl
        have ih:=eqFields_run d w fs ks (j + 1) b4 hq' (by rw[hvd];exact rvs) (by rw[hud];exact rus)
        simp only[Op.eqFields,b1,ne_eq,not_false_eq_true,if_true,b2,Sem.run_bind,part_cell hp hv,part_cell hp hu,Result.andThen_ok,cellEq_run hp' rv ru b3]
        cases p with
        | true => simpa using ih
        | false => simp
       ·cases h
theorem s_eqa (he:EnvOk c e a) (K:Ok c g.nx) (hg:c.hp = g.hp) {neg:Bool} {ks:List Nat} {x y:Opd} (ho:opB P c.num o.op (.eqa neg ks x y) = true) (h:vMap g (negb neg (aeqa ks (x.ev e) (y.ev e))) = some r):Does P o a c r:=by
 obtain ⟨dst,oop,ty,pos,after,guard⟩:=o
 simp only[opB] at ho
 split at ho
 ·rename_i op' t p q u
  simp only[Bool.and_eq_true,decide_eq_true_eq,Bool.not_eq_true'] at ho
  obtain ⟨⟨⟨⟨hop,h1⟩,h2⟩,hgd⟩,h3⟩:=ho
  have r1:=opdB_rep he h1
  have r2:=opdB_rep he h2
  cases hv:aeqa ks (x.ev e) (y.ev e) with
  | none => rw[hv] at h;cases h
  | some res =>
    rw[hv] at h
    simp only[negb,vMap] at h
    cases h
    unfold aeqa at hv
    split at hv
    ·rename_i xs ys hx hy
     rw[hx] at r1
     rw[hy] at r2
     obtain ⟨vs,e1,k1⟩:=rep_agg r1
     obtain ⟨us,e2,k2⟩:=rep_agg r2
     have hrun:(Op.equalIn 10000 t (.agg vs.toArray) (.agg us.toArray)).run P c.w = .ok res c.w:=by
      split at h3
      ·rename_i n el hu
       split at h3
       ·rename_i k hk
        simp only[beq_iff_eq] at h3
        subst h3
        obtain ⟨i,hi,_⟩:=sizeB_some (P:=P) (t:=el) (n:=1) (by
         unfold kindB at hk;split at hk
         ·rename_i hh;simp only[Bool.and_eq_true] at hh;exact hh.2
         ·cases hk)
        rw[show (10000:Nat) = 9999 + 1 from rfl,run_equalIn_array c.w 9999 vs.toArray us.toArray hu hi,List.range_eq_range']
        exact eqItems_run hk 9998 c.w n 0 hv (by simpa using k1) (by simpa using k2)
       ·cases h3
      ·rename_i fs hu
       simp only[Bool.and_eq_true,Bool.not_eq_true'] at h3
       have hf:P.fieldsOf t = fs:=by simp[Program.fieldsOf,hu]
       rw[show (10000:Nat) = 9999 + 1 from rfl,run_equalIn_struct c.w 9999 t vs.toArray us.toArray (by rw[hf];exact hu) h3.1,hf]
       exact eqFields_run 9998 c.w fs.toList ks 0 h3.2 hv (by simpa using k1) (by simpa using k2)
      ·cases h3
     have hgr:=fun op => run_eqGuard_agg (P:=P) c.w op t p q vs.toArray us.toArray hgd
     cases neg with
     | true =>
       simp only[if_true] at hop ⊢
       subst hop
       refine Does.quiet K hg (.b _) ?_
       simp only[execOp,e1,e2,Sem.run_bind,hgr,Result.andThen_ok,run_neq_struct,hrun,Sem.run_pure]
     | false =>
       simp only[Bool.false_eq_true,if_false] at hop ⊢
       subst hop
       refine Does.quiet K hg (.b _) ?_
       simp only[execOp,e1,e2,Sem.run_bind,hgr,Result.andThen_ok,run_eql_struct,hrun,Sem.run_pure]
    ·cases hv
 ·cases ho
end
end Go.Ab
end
section
set_option linter.unusedVariables false
set_option linter.unusedSimpArgs false
namespace Go.Ab
open Go.RowKit
section
variable {P:Program} {o:Oper} {a:Act} {c:Cx} {e:Env} {g:G} {al:Nat→Bool} {id:Nat} {r:AV × G}
theorem flatten_range (l:List Value) (hl:0 < l.length):∀ n:Nat,(List.range (n * l.length)).map (fun i => l[i % l.length]!) = (List.replicate n l).flatten
 | 0 => by simp
 | n + 1 => by
   rw[Nat.succ_mul,List.range_add,List.map_append,flatten_range l hl n,List.replicate_succ',List.flatten_append]
   congr 1
   simp only[List.map_map,List.flatten_cons,List.flatten_nil,List.append_nil]
   apply List.ext_getElem?
   intro j
   rw[List.getElem?_map]
   by_cases hj:j < l.length
   ·rw[List.getElem?_range hj,List.getElem?_eq_getElem hj]
    simp only[Option.map_some,Function.comp_apply]
    rw[Nat.mul_comm n,Nat.mul_add_mod,Nat.mod_eq_of_lt hj]
    simp[hj]
   ·rw[List.getElem?_eq_none (by simp;omega),List.getElem?_eq_none (by omega)]
    rfl
theorem Reps.replicate {m:Bool} {cs:List AV} {vs:List Value} (h:Reps c m cs vs):∀ n:Nat,Reps c m (List.replicate n cs).flatten (List.replicate n vs).flatten
 | 0 => Reps.nil
 | n + 1 => by
   rw[List.replicate_succ,List.replicate_succ,List.flatten_cons,List.flatten_cons]
   exact h.append (Reps.replicate h n)
theorem all_flatten {p:AV→Bool} {cs:List AV} (h:cs.all p = true):∀ n:Nat,((List.replicate n cs).flatten).all p = true
 | 0 => rfl
 | n + 1 => by rw[List.replicate_succ,List.flatten_cons,List.all_append,h,all_flatten h n];rfl
theorem wrap_id {n:Int} (h0:0≤n) (h1:n≤9223372036854775807):IntKind.i64.wrap n = n:=by
 simp[IntKind.wrap,IntKind.bits,IntKind.signed]
 omega
theorem s_mksl (he:EnvOk c e a) (K:Ok c g.nx) (hg:c.hp = g.hp) (hid:c.hp id = none) (hlt:id < g.nx) {zero:List AV} {esz bytes:Nat} {len cap:Opd} (ho:opB P c.num o.op (.mksl zero esz bytes len cap) = true) (h:vMksl id zero esz bytes (len.ev e) (cap.ev e) g = some r):Does P o a c r:=by
 obtain ⟨dst,op,ty,pos,after,guard⟩:=o
 simp only[opB] at ho
 split at ho
 ·rename_i t lo co
  simp only[Bool.and_eq_true] at ho
  obtain ⟨⟨h1,h2⟩,h3⟩:=ho
  have r1:=opdB_rep he h2
  have r2:=opdB_rep he h3
  split at h1
  ·rename_i el hu
   simp only[Bool.and_eq_true] at h1
   obtain ⟨h4,h5⟩:=h1
   obtain ⟨i,z,hi,hz,hc,hs⟩:=zeroB_some h4
   rw[hi] at h5
   simp only[Bool.and_eq_true,beq_iff_eq,decide_eq_true_eq] at h5
   obtain ⟨⟨h6,h7⟩,h8⟩:=h5
   unfold vMksl at h
   split at h
   ·rename_i n m hx hy
    rw[hx] at r1
    rw[hy] at r2
    have v1:=rep_i r1
    have v2:=rep_i r2
    split at h
    ·rename_i hb
     obtain ⟨b1,b2,b3,b4⟩:=hb
     simp only[lim64] at b3
     have hzs:z.cells.size = esz:=by
      have:=(constsB_rep hc c true).1
      simp only[Array.length_toList] at this
      omega
     have hrun:(execOp a.eval { dst:=dst,op:=.makeSlice t lo co,type:=ty,pos:=pos,after:=after,guard:=guard }).run P c.w = .ok (.value (.slice (some ⟨c.w.heap.size,0,none⟩) n.toNat m.toNat)) (c.w.alloc (.cells ((Array.range (m.toNat * esz)).map (z.cells[· % z.cells.size]!)) el)):=by
      have w1:=wrap_id b1 (by omega:n≤9223372036854775807)
      have w2:=wrap_id (by omega:0≤m) b3
      have hb':¬ (281474976710656 < (i.bytes:Int) * m):=by rw[h7];omega
      by_cases h0:m.toNat * esz = 0
      ·have hm0:m.toNat = 0:=by rcases Nat.mul_eq_zero.1 h0 with h | h<;>omega
       have hr1:(Array.range 0).map ((#[]:Array Value)[· % (#[]:Array Value).size]!) = #[]:=by apply Array.ext';simp
       have hr0:(Array.range (m.toNat * esz)).map (z.cells[· % z.cells.size]!) = #[]:=by rw[h0];apply Array.ext';simp
       rw[hr0]
       simp only[execOp,v1,v2,Instr.makeSlice,Sem.run_bind,run_underlying hu,Result.andThen_ok,asInt,asIntOf,typeInfo,run_program,hi,Sem.run_pure,w1,w2,sizeOf,h6]
       simp[hb',show ¬ m < 0 by omega,show ¬ n < 0 by omega,show ¬ m < n by omega,h0,newRow,hm0,hi]
       congr 2
      ·simp only[execOp,v1,v2,Instr.makeSlice,Sem.run_bind,run_underlying hu,Result.andThen_ok,asInt,asIntOf,typeInfo,run_program,hi,Sem.run_pure,w1,w2,sizeOf,h6]
       simp only[Nat.mul_eq_zero,not_or] at h0
       simp[hb',show ¬ m < 0 by omega,show ¬ n < 0 by omega,show ¬ m < n by omega,h0,zeroValue,typeInfo,hi,hz,newRow,h6]
       intro h
       rcases Nat.mul_eq_zero.1 h with h | h
       ·exact absurd h h0.1
       ·exact absurd h h0.2
     split at h
     ·rename_i hn0
      subst hn0
      cases h
      have hn:NewOk c (.cells ((Array.range (m.toNat * esz)).map (z.cells[· % z.cells.size]!)) el) (.tok true):=⟨rfl,_,el,rfl⟩
      refine Does.fresh (lo:=0) K hg hid hlt hn _ _ ?_ hrun
      refine .sl ⟨0,0,none⟩ [] (Nat.zero_le _) (by simp only[maxLen];omega) (fun h => by cases h) (fun h => by cases h) (fun h => by simp at h) (fun _ h => by simp at h) rfl (fun h => absurd rfl h) (fun j u h => by simp at h) (fun j x v h => by simp at h) (fun τ e' ht => ?_)
      cases ht
      refine ⟨by rw[hp_alloc_same];rfl,fun _ => ⟨by simp,0,by rw[loc_alloc_same],by rw[loc_alloc_same];simp,_,el,by rw[loc_alloc_same];exact heap_last _ _,by simp⟩⟩
     ·split at h
      ·rename_i hnc
       obtain ⟨rfl,hzl⟩:=hnc
       cases h
       have hcells:((Array.range (n.toNat * esz)).map (z.cells[· % z.cells.size]!)) = ((List.replicate n.toNat z.cells.toList).flatten).toArray:=by
        apply Array.ext'
        have:=flatten_range z.cells.toList (by rw[Array.length_toList];omega) n.toNat
        rw[Array.length_toList,hzs] at this
        simp only[Array.toList_map,Array.toList_range]
        rw[←this]
        apply List.map_congr_left
        intro j _
        rw[hzs]
        simp[getElem!_def]
       have hn:NewOk c (.cells ((Array.range (n.toNat * esz)).map (z.cells[· % z.cells.size]!)) el) (.cells (List.replicate n.toNat zero).flatten false):=⟨_,[],el,by rw[hcells,List.append_nil],Reps.replicate (constsB_rep hc c true) _,all_flatten (constsB_one hc) _⟩
       refine Does.fresh (lo:=0) K hg hid hlt hn _ _ ?_ hrun
       have:=Rep.ms (c:=c.alloc id (.cells ((Array.range (n.toNat * esz)).map (z.cells[· % z.cells.size]!)) el) 0 (.cells (List.replicate n.toNat zero).flatten false)) id 0 n.toNat n.toNat (by rw[hp_alloc_same];rfl) (Nat.le_refl _) (by simp only[maxLen];omega) (MsOk.new fun e' hn' hl' => by
        rw[←hl',hcells,(Reps.replicate (constsB_rep hc c true) n.toNat).1];simp)
       rwa [loc_alloc_same] at this
      ·cases h
    ·cases h
   ·cases h
  ·cases h1
 ·cases ho
theorem src_of {esz:Nat} {y:AV} {v:Value} {ds:List AV} {m:Nat} (K:Ok c g.nx) (hg:c.hp = g.hp) (hr:Rep c true y v) (h:vSrc al esz y g = some (ds,m)) (hl:ds.length = m * esz) (hz:0 < esz) {u:TypeId} {el':TypeId} (hu:P.underlying u = some (.slice el')):
  ∃ news:List Value,Src P esz u v m news c.w∧Reps c false ds news:=by
 unfold vSrc at h
 split at h
 ·rename_i ds' m' tk
  cases h
  obtain ⟨ao,cap,ad,vs,rfl,hc,hm,hrig,hz',hone,hreps,ha,hk,_⟩:=rep_sl hr
  refine ⟨vs,?_,hreps⟩
  cases ao with
  | none =>
    have hm0:m = 0:=by
     rcases Nat.eq_zero_or_pos m with h | h
     ·exact h
     ·have:=hz' h;cases this
    subst hm0
    have:vs = []:=by
     have:=hreps.1
     rw[hl] at this
     simp at this
     exact List.length_eq_zero_iff.1 this.symm
    subst this
    exact Src.ofNil (P:=P) c.w hu cap
  | some ad' =>
    have hcell:∀ (j:Nat) u,vs[j]? = some u→c.w.cell? (ad'.add j) = some u:=by
     intro j u hu
     have hne:ds≠[]:=by
      intro h'
      subst h'
      rw[hreps.nil_inv] at hu
      simp at hu
     have:=ha hne
     cases this
     exact (hk j u hu).2
    exact Src.ofSlice (P:=P) c.w hu ad' m cap vs (by rw[←hreps.1,hl]) hcell hone
 ·rename_i b off m'
  obtain ⟨cap,rfl,hc,hm,hsome⟩:=rep_ms hr
  split at h
  ·rename_i cs ro hb
   have hb':c.hp b = some (.cells cs ro):=by
    unfold rd at hb;split at hb
    ·rw[hg];exact hb
    ·cases hb
   obtain ⟨_,vs,rs,ty',g2,g3,g4⟩:=K.cells b cs ro hb'
   split at h
   ·rename_i ds' hf
    cases h
    have hreps:=frzL_none K hf ((g3.drop off).take (m * esz))
    refine ⟨(vs.drop off).take (m * esz),?_,hreps⟩
    refine Src.ofSlice (P:=P) c.w hu ⟨(c.loc b).1,off,none⟩ m cap _ (by rw[←hreps.1,hl]) (fun j u hu => ?_) (fun u hu => g3.ones g4 u (List.mem_of_mem_drop (List.mem_of_mem_take hu)))
    rw[List.getElem?_take] at hu
    split at hu
    ·rw[List.getElem?_drop] at hu
     rw[add_mk,cell_of_heap g2,List.getElem?_toArray,List.getElem?_append_left (List.getElem?_eq_some_iff.1 hu).1]
     exact hu
    ·cases hu
   ·cases h
  ·cases h
 ·cases h
theorem firstCells_ab {esz n cap:Nat} {ao:Option Addr} {ad:Addr} {cs:List AV} {vs:List Value} (hz:0 < n→ao.isSome) (hreps:Reps c false cs vs) (ha:cs≠[]→ao = some ad) (hk:∀ (j:Nat) u,vs[j]? = some u→c.I (ad.add j)∧c.w.cell? (ad.add j) = some u)
  (hl:cs.length = n * esz):(Builtin.firstCells esz n (.slice ao n cap)).run P c.w.drew = .ok vs.toArray c.w.drew:=by
 cases ao with
 | none =>
   have hn:n = 0:=by
    rcases Nat.eq_zero_or_pos n with h | h
    ·exact h
    ·have:=hz h;cases this
   subst hn
   have:vs = []:=by
    have:=hreps.1
    rw[hl] at this
    simp at this
    exact List.length_eq_zero_iff.1 this.symm
   subst this
   exact run_firstCells_none c.w.drew esz 0 0 cap
 | some ad' =>
   refine run_firstCells_some c.w.drew esz n ad' n cap vs (by rw[←hreps.1,hl]) (fun j u hu => ?_)
   have hne:cs≠[]:=by
    intro h'
    subst h'
    rw[hreps.nil_inv] at hu
    simp at hu
   have:=ha hne
   cases this
   exact (hk j u hu).2
theorem grownCap_le' (w:World) (need old:Nat) (el:TypeId) (h:need≤2 ^ 62):need≤grownCap w need old el∧grownCap w need old el≤9223372036854775807:=by
 unfold grownCap
 simp only[Question.cut]
 have h1:w.tape w.drawn (.appendCap need old el) % (2 ^ 63 - need) < 2 ^ 63 - need:=Nat.mod_lt _ (by omega)
 omega
theorem grown_does {o:Oper} {c':Cx} {cs ds:List AV} {olds news:List Value} {n m esz:Nat} {el:TypeId} {zs:Array Value} (E:Evo c c') (K:Ok c' g.nx) (hid:c'.hp id = none) (hlt:id < g.nx)
  (h1:Reps c' false cs olds) (h2:Reps c' false ds news) (o1:∀ v∈olds,v.oneCell' = true) (o2:∀ v∈news,v.oneCell' = true) (hl:cs.length = n * esz) (hl':ds.length = m * esz) {cap:Nat} (hc:n + m≤cap) (hm:cap≤maxLen) (hzs:zs.size = (cap - (n + m)) * esz)
  (hrun:(execOp a.eval o).run P c.w = .ok (.value (.slice (some ⟨c'.w.heap.size,0,none⟩) (n + m) cap)) (c'.w.alloc (.cells ((olds ++ news).toArray ++ zs) el))):
  Does P o a c (.sl (cs ++ ds) (n + m) (.own id esz),⟨upd c'.hp id (some (.tok true)),g.nx⟩):=by
 have hn:NewOk c' (.cells ((olds ++ news).toArray ++ zs) el) (.tok true):=⟨rfl,_,el,rfl⟩
 have E2:=Evo.alloc K hid (.cells ((olds ++ news).toArray ++ zs) el) ((n + m) * esz) (.tok true)
 refine ⟨_,c'.alloc id (.cells ((olds ++ news).toArray ++ zs) el) ((n + m) * esz) (.tok true),_,hrun,.inl rfl,E.trans E2,K.alloc hid hlt hn,rfl,?_⟩
 have hr:=(h1.append h2).evo E2
 have hlen:(olds ++ news).length = (n + m) * esz:=by
  rw[List.length_append,←h1.1,←h2.1,hl,hl',Nat.add_mul]
 refine .sl ⟨c'.w.heap.size,0,none⟩ (olds ++ news) hc hm (fun h => by cases h) (fun h => by cases h) (fun _ => rfl) (fun v hv => ?_) hr.1 (fun _ => rfl) (fun j u hu => ?_) hr.2 (fun τ e' ht => ?_)
 ·rcases List.mem_append.1 hv with h | h
  ·exact o1 v h
  ·exact o2 v h
 ·have hj:j < (olds ++ news).length:=(List.getElem?_eq_some_iff.1 hu).1
  rw[add_mk]
  refine ⟨.inr ⟨K.basele,by show _ < (c'.w.alloc _).heap.size;simp,fun hw => ?_⟩,?_⟩
  ·rcases hw with ⟨i,xs,hi,hb⟩ | ⟨i,hi,hb,hlo⟩
   ·by_cases he:i = id
    ·subst he;rw[hp_alloc_same] at hi;cases hi
    ·rw[hp_alloc he] at hi
     rw[loc_alloc he] at hb
     have hb':(c'.loc i).1 = c'.w.heap.size:=hb
     have:=K.lt (live_of hi (by simp))
     omega
   ·by_cases he:i = id
    ·subst he
     rw[loc_alloc_same] at hlo
     have hlo':(n + m) * esz≤0 + j:=hlo
     omega
    ·rw[hp_alloc he] at hi
     rw[loc_alloc he] at hb
     have hb':(c'.loc i).1 = c'.w.heap.size:=hb
     have:=K.lt (live_of hi (by simp))
     omega
  ·show (c'.w.alloc _).cell? _ = _
   rw[cell_of_heap (heap_last _ _)]
   rw[Array.getElem?_append_left (by simp only[List.size_toArray];omega)]
   simpa using hu
 ·cases ht
  refine ⟨by rw[hp_alloc_same];rfl,fun _ => ⟨by rw[List.length_append,hl,hl',Nat.add_mul],0,by rw[loc_alloc_same],by rw[loc_alloc_same];simp,_,el,by rw[loc_alloc_same];exact heap_last _ _,?_⟩⟩
  rw[Array.size_append,hzs]
  simp only[List.size_toArray,hlen]
  rw[←Nat.add_mul]
  have:n + m + (cap - (n + m)) = cap:=by omega
  rw[this]
  omega
end
end Go.Ab
end
section
set_option linter.unusedVariables false
set_option linter.unusedSimpArgs false
namespace Go.Ab
open Go.RowKit
section
variable {P:Program} {o:Oper} {a:Act} {c:Cx} {e:Env} {g:G} {al:Nat→Bool} {id:Nat} {r:AV × G}
theorem s_app (he:EnvOk c e a) (K:Ok c g.nx) (hg:c.hp = g.hp) (hid:c.hp id = none) (hlt:id < g.nx) {esz bytes:Nat} {x y:Opd} (ho:opB P c.num o.op (.app esz bytes x y) = true) (h:vApp al id esz bytes (x.ev e) (y.ev e) g = some r):Does P o a c r:=by
 obtain ⟨dst,op,ty,pos,after,guard⟩:=o
 simp only[opB] at ho
 split at ho
 ·rename_i cl
  obtain ⟨callee,args,argTypes⟩:=cl
  simp only[Bool.and_eq_true] at ho
  obtain ⟨⟨h1,h2⟩,h3⟩:=ho
  split at h1
  ·obtain ⟨p,q,hargs,ho1,ho2⟩:=opds_two h2
   have:=list_two hargs
   subst this
   have r1:=opdB_rep he ho1
   have r2:=opdB_rep he ho2
   split at h3
   ·rename_i t u hty
    have:=list_two hty
    subst this
    split at h3
    ·rename_i el el' hu hu'
     split at h3
     ·rename_i i hi
      simp only[Bool.and_eq_true,beq_iff_eq] at h3
      obtain ⟨⟨rfl,rfl⟩,h3⟩:=h3
      split at h3
      ·rename_i z hz
       simp only[Bool.and_eq_true,beq_iff_eq,decide_eq_true_eq] at h3
       obtain ⟨hzs,hpos⟩:=h3
       have key:∀ w:World,(execOp a.eval { dst:=dst,op:=.call { callee:=.builtin .append,args:=#[p,q],argTypes:=#[t,u] },type:=ty,pos:=pos,after:=after,guard:=guard }).run P w = ((Builtin.append_ #[t,u] ty #[a.eval p,a.eval q]).run P w).andThen fun v w' => .ok (.value v) w':=by
        intro w
        simp[execOp,resolve,invoke,builtin]
       unfold vApp at h
       split at h
       ·rename_i cs n tk hx
        rw[hx] at r1
        obtain ⟨ao,cap,ad,vs,hv,hc,hm,hrig,hz',hone,hreps,ha,hk,htok⟩:=rep_sl r1
        split at h
        ·cases h
        ·rename_i ds m hsrc
         split at h
         ·rename_i hcond
          obtain ⟨c1,c2,c3,c4⟩:=hcond
          obtain ⟨news,S,hnews⟩:=src_of K hg r2 hsrc c4 hpos hu'
          have hfit:∀ old,old < n + m→Builtin.nextslicecap (n + m) old * i.bytes≤281474976710656:=fun old ho => growslice_fits ho (by omega)
          have hold:=firstCells_ab (P:=P) (c:=c) (cap:=cap) hz' hreps ha hk c3
          have hgc:=grownCap_le' c.w (n + m) cap el c2
          have hg3:cap < n + m→(execOp a.eval { dst:=dst,op:=.call { callee:=.builtin .append,args:=#[p,q],argTypes:=#[t,u] },type:=ty,pos:=pos,after:=after,guard:=guard }).run P c.w = .ok (.value (.slice (some ⟨c.w.heap.size,0,none⟩) (n + m) (grownCap c.w (n + m) cap el))) (c.w.drew.alloc (.cells ((vs ++ news).toArray ++ Builtin.zeroCells z.cells (grownCap c.w (n + m) cap el - (n + m))) el)):=by
           intro hlt'
           rw[key,hv,run_append_grow_src (P:=P) c.w t u ty el i z hu hi hz ao n cap vs hold (a.eval q) m news S hlt' (by omega) (hfit cap hlt')]
           rfl
          have hzc:(Builtin.zeroCells z.cells (grownCap c.w (n + m) cap el - (n + m))).size = (grownCap c.w (n + m) cap el - (n + m)) * i.size:=by simp[Builtin.zeroCells,hzs]
          split at h
          ·cases h
          ·-- no room
           have hcap:=hrig rfl
           split at h
           ·rename_i hm0
            subst hm0
            cases h
            have hn0:news = []:=by
             have:=hnews.1
             rw[c4] at this
             simp at this
             exact List.length_eq_zero_iff.1 this.symm
            subst hn0
            refine Does.quiet K hg (r1.up) ?_
            rw[key,hv,run_append_nothing (P:=P) c.w t u ty el i hu hi ao n cap hc (a.eval q) S]
            rfl
           ·rename_i hm0
            cases h
            have hlt':cap < n + m:=by omega
            have E:=Evo.drew c
            have:=grown_does (P:=P) (a:=a) (c:=c) (g:=g) (id:=id) (o:={ dst:=dst,op:=.call { callee:=.builtin .append,args:=#[p,q],argTypes:=#[t,u] },type:=ty,pos:=pos,after:=after,guard:=guard }) E K.drew hid hlt (hreps.evo E) (hnews.evo E) hone S.one c3 c4 hgc.1 (by simp only[maxLen];exact hgc.2) hzc (hg3 hlt')
            rw[←hg]
            exact this
          ·rename_i τ e'
           split at h
           ·rename_i htk
            split at h
            ·rename_i he'
             subst he'
             cases h
             have htk:c.hp τ = some (.tok true):=by
              unfold rd at htk;split at htk
              ·rw[hg];exact htk
              ·cases htk
             obtain ⟨t1,t2⟩:=htok τ _ rfl
             obtain ⟨t3,off,t4,t5,us,ty',t6,t7⟩:=t2 htk
             have hτ:τ≠id:=fun hh => by rw[hh,hid] at htk;cases htk
             by_cases hroom:n + m≤cap
             ·have hsize:off + n * i.size + news.length≤us.size:=by
               rw[←hnews.1,c4,Nat.add_assoc,←Nat.add_mul]
               exact Nat.le_trans (Nat.add_le_add_left (Nat.mul_le_mul_right _ hroom) _) t7
              have hrun:=run_append_room_src (P:=P) c.w t u ty el i hu hi (c.loc τ).1 off n cap (a.eval q) m news S hroom (fun j hj => by
               rw[cell_of_heap t6]
               simp;omega) (fun j hj => by simp[World.frozen?,t6])
              have E:=Evo.onto K (k:=m * i.size) (us:=news) htk hid
              rw[←t5] at hrun
              refine ⟨_,c.onto τ id (m * i.size) news,.slice ao (n + m) cap,?_,.inl rfl,E,K.onto htk hid hlt,by simp[Cx.onto,hg],?_⟩
              ·rw[key,hv,t4,hrun]
               rfl
              ·have hr:=(hreps.append hnews).evo E
               have hlive:=live_of htk (by simp)
               refine .sl ⟨(c.loc τ).1,off,none⟩ (vs ++ news) hroom hm (fun h => by cases h) (fun h => by cases h) (fun _ => by rw[t4];rfl) (fun v hv => ?_) hr.1 (fun _ => t4) (fun j u hu => ?_) hr.2 (fun τ' e'' ht => ?_)
               ·rcases List.mem_append.1 hv with h | h
                ·exact hone v h
                ·exact S.one v h
               ·by_cases hj:j < vs.length
                ·rw[List.getElem?_append_left hj] at hu
                 have hne:cs≠[]:=by
                  intro h'
                  subst h'
                  have:=hreps.1
                  simp at this
                  omega
                 have hao:=ha hne
                 rw[t4] at hao
                 cases hao
                 have:=hk j u hu
                 exact ⟨(E.imm _ this.1).1,(E.imm _ this.1).2 u this.2⟩
                ·rw[List.getElem?_append_right (by omega)] at hu
                 have hj2:j - vs.length < news.length:=(List.getElem?_eq_some_iff.1 hu).1
                 have hvl:vs.length = n * i.size:=by rw[←hreps.1,c3]
                 rw[add_mk]
                 refine ⟨.inr ⟨(K.toks τ htk).1,?_,fun hw => ?_⟩,?_⟩
                 ·show _ < (c.w.setCells _ _ _).heap.size
                  rw[size_setCells]
                  exact (Array.getElem?_eq_some_iff.1 t6).1
                 ·have hml:news.length = m * i.size:=by rw[←hnews.1,c4]
                  rcases hw with ⟨k,xs,hi',hb⟩ | ⟨k,hi',hb,hlo⟩
                  ·by_cases hke:k = id
                   ·subst hke;simp[Cx.onto,upd] at hi'
                   ·by_cases hke':k = τ
                    ·subst hke';simp[Cx.onto,upd,hke] at hi'
                    ·simp[Cx.onto,upd,hke,hke'] at hi' hb
                     exact K.inj k τ hke' (live_of hi' (by simp)) hlive hb
                  ·by_cases hke:k = id
                   ·subst hke
                    simp[Cx.onto,upd] at hlo
                    omega
                   ·by_cases hke':k = τ
                    ·subst hke';simp[Cx.onto,upd,hke] at hi'
                    ·simp[Cx.onto,upd,hke,hke'] at hi' hb
                     exact K.inj k τ hke' (live_of hi' (by simp)) hlive hb
                 ·show (c.w.setCells (c.loc τ).1 (c.loc τ).2 news).cell? _ = _
                  have:=World.cell?_setCells_in (c.loc τ).1 news (c.loc τ).2 c.w (fun j' hj' => by
                   rw[cell_of_heap t6]
                   simp;omega) (j - vs.length) hj2
                  rw[show off + j = (c.loc τ).2 + (j - vs.length) by omega,this,←hu,List.getElem?_eq_getElem hj2]
               ·cases ht
                obtain ⟨vs',k1,k2⟩:=heap_setCells_cells t6 (c.loc τ).2 news
                have hl:(c.onto τ id (m * i.size) news).loc id = ((c.loc τ).1,(c.loc τ).2 + m * i.size):=by simp[Cx.onto,upd]
                refine ⟨by simp[Cx.onto,upd],fun _ => ⟨by rw[List.length_append,c3,c4,Nat.add_mul],off,by rw[hl];exact t4,by rw[hl];show (c.loc τ).2 + m * i.size = _;rw[t5,Nat.add_assoc,←Nat.add_mul],vs',ty',by rw[hl];exact k1,by rw[k2];exact t7⟩⟩
             ·have hlt':cap < n + m:=by omega
              have E:=(Evo.kill htk).trans (Evo.drew (c.kill τ))
              have hid':(c.kill τ).drew.hp id = none:=by
               show upd c.hp τ _ id = none
               rw[upd,if_neg (fun h => hτ h.symm)];exact hid
              have:=grown_does (P:=P) (a:=a) (c:=c) (g:=g) (id:=id) (o:={ dst:=dst,op:=.call { callee:=.builtin .append,args:=#[p,q],argTypes:=#[t,u] },type:=ty,pos:=pos,after:=after,guard:=guard }) E (K.kill htk).drew hid' hlt (hreps.evo E) (hnews.evo E) hone S.one c3 c4 hgc.1 (by simp only[maxLen];exact hgc.2) hzc (hg3 hlt')
              rw[←hg]
              exact this
            ·cases h
           ·cases h
         ·cases h
       ·cases h
      ·cases h3
     ·cases h3
    ·cases h3
   ·cases h3
  ·cases h1
 ·cases ho
end
end Go.Ab
end
section
set_option linter.unusedVariables false
set_option linter.unusedSimpArgs false
namespace Go.Ab
open Go.RowKit
def setBlk (w:World) (b:Nat) (o:Obj):World:={ w with heap:=w.heap.setIfInBounds b o }
theorem setBlk_other {w:World} {b k:Nat} {o:Obj} (h:k≠b):(setBlk w b o).heap[k]? = w.heap[k]?:=by
 simp only[setBlk]
 rw[Array.getElem?_setIfInBounds_ne (by omega)]
theorem setBlk_same {w:World} {b:Nat} {o:Obj} (h:b < w.heap.size):(setBlk w b o).heap[b]? = some o:=by
 simp only[setBlk]
 rw[Array.getElem?_setIfInBounds_self_of_lt h]
theorem setBlk_size {w:World} {b:Nat} {o:Obj}:(setBlk w b o).heap.size = w.heap.size:=by simp[setBlk]
theorem setBlk_cell {w:World} {b:Nat} {o:Obj} {ad:Addr} (h:ad.block≠b):(setBlk w b o).cell? ad = w.cell? ad:=by
 simp only[World.cell?,setBlk_other h]
def Cx.mset (c:Cx) (id:Nat) (es:List (AV × AV)) (o:Obj):Cx:={ c with w:=setBlk c.w (c.loc id).1 o,hp:=upd c.hp id (some (.map es)) }
theorem Evo.mset {c:Cx} {nx:Nat} (K:Ok c nx) {id:Nat} {es es':List (AV × AV)} {o:Obj} (hid:c.hp id = some (.map es)):Evo c (c.mset id es' o):=by
 obtain ⟨m1,ms,cl,m2,_⟩:=K.maps id es hid
 refine ⟨rfl,rfl,rfl,?_,?_,?_,?_,?_,fun _ => Nat.le_refl _⟩
 ·exact ⟨rfl,rfl,rfl,by show _≤(setBlk c.w _ _).heap.size;rw[setBlk_size];exact Nat.le_refl _,fun k hk => setBlk_other (by omega)⟩
 ·intro ad hI
  refine ⟨?_,fun v hv => ?_⟩
  ·rcases hI with h1 | ⟨h1,h2,h3⟩
   ·exact .inl h1
   ·refine .inr ⟨h1,by show _ < (setBlk c.w _ _).heap.size;rw[setBlk_size];exact h2,fun hw => h3 ?_⟩
    rcases hw with ⟨i,ds,hi,hb⟩ | ⟨i,hi,hb,hlo⟩
    ·by_cases he:i = id
     ·subst he;simp[Cx.mset,upd] at hi
     ·simp[Cx.mset,upd,he] at hi;exact .inl ⟨i,ds,hi,hb⟩
    ·by_cases he:i = id
     ·subst he;simp[Cx.mset,upd] at hi
     ·simp[Cx.mset,upd,he] at hi;exact .inr ⟨i,hi,hb,hlo⟩
  ·by_cases hb:ad.block = (c.loc id).1
   ·simp[World.cell?,hb,m2] at hv
   ·show (setBlk c.w _ _).cell? ad = _
    rw[setBlk_cell hb];exact hv
 ·intro i hi
  by_cases he:i = id
  ·subst he;simp[Cx.mset,upd]
  ·exact ⟨by simpa [Cx.mset,upd,he] using hi,rfl⟩
 ·intro i hi ht
  by_cases he:i = id
  ·subst he;simp[Cx.mset,upd] at ht
  ·simp[Cx.mset,upd,he] at ht
   refine ⟨ht,fun vs ty hv => ⟨vs,?_,rfl⟩⟩
   show (setBlk c.w _ _).heap[_]? = _
   rw[setBlk_other (K.inj i id he (live_of ht (by simp)) (live_of hid (by simp)))]
   exact hv
 ·intro i ds ro hi h
  by_cases he:i = id
  ·subst he;simp[Cx.mset,upd] at h
  ·simp[Cx.mset,upd,he] at h
   refine ⟨ds,ro,h,rfl,fun vs ty hv => ⟨vs,?_,Nat.le_refl _⟩⟩
   have hv:(setBlk c.w (c.loc id).1 o).heap[(c.loc i).1]? = _:=hv
   rwa [setBlk_other (K.inj i id he (live_of h (by simp)) (live_of hid (by simp)))] at hv
theorem Ok.mset {c:Cx} {nx:Nat} (K:Ok c nx) {id:Nat} {es es':List (AV × AV)} (hid:c.hp id = some (.map es)) {ms':List MapEntry} {cl':Nat} (hl:es'.length = ms'.length)
  (hm:∀ (j:Nat) k v en,es'[j]? = some (k,v)→ms'[j]? = some en→(∃ s,k = .s s∧en.key = .string s)∧Rep c true v en.val):Ok (c.mset id es' (.map ms'.toArray cl')) nx:=by
 have E:=Evo.mset K (es':=es') (o:=.map ms'.toArray cl') hid
 obtain ⟨m1,ms,cl,m2,_⟩:=K.maps id es hid
 have hlive:∀ i,(c.mset id es' (.map ms'.toArray cl')).live i→c.live i:=by
  intro i ⟨b,hb,hn⟩
  by_cases he:i = id
  ·subst he;exact live_of hid (by simp)
  ·simp[Cx.mset,upd,he] at hb;exact ⟨b,hb,hn⟩
 have hne:∀ i b,i≠id→c.hp i = some b→b≠.tok false→(c.mset id es' (.map ms'.toArray cl')).w.heap[(c.loc i).1]? = c.w.heap[(c.loc i).1]?:=fun i b he hb hn =>
  setBlk_other (K.inj i id he (live_of hb hn) (live_of hid (by simp)))
 refine ⟨?_,?_,?_,?_,fun i j hij hi hj => K.inj i j hij (hlive i hi) (hlive j hj),?_,K.gl.evo E⟩
 ·show c.base≤(setBlk c.w _ _).heap.size
  rw[setBlk_size];exact K.basele
 ·intro i ds ro hi
  have he:i≠id:=fun he => by subst he;simp[Cx.mset,upd] at hi
  simp[Cx.mset,upd,he] at hi
  obtain ⟨g1,vs,rs,ty,g2,g3,g4⟩:=K.cells i ds ro hi
  exact ⟨g1,vs,rs,ty,by rw[←g2];exact hne i _ he hi (by simp),g3.evo E,g4⟩
 ·intro i ds hi
  by_cases he:i = id
  ·subst he
   simp[Cx.mset,upd] at hi
   subst hi
   exact ⟨m1,ms',cl',setBlk_same (Array.getElem?_eq_some_iff.1 m2).1,hl,fun j k v en hx hv => ⟨(hm j k v en hx hv).1,(hm j k v en hx hv).2.evo E⟩⟩
  ·simp[Cx.mset,upd,he] at hi
   obtain ⟨g1,ms,cl,g2,g3,g4⟩:=K.maps i ds hi
   exact ⟨g1,ms,cl,by rw[←g2];exact hne i _ he hi (by simp),g3,fun j k v en hx hv => ⟨(g4 j k v en hx hv).1,(g4 j k v en hx hv).2.evo E⟩⟩
 ·intro i hi
  have he:i≠id:=fun he => by subst he;simp[Cx.mset,upd] at hi
  simp[Cx.mset,upd,he] at hi
  obtain ⟨g1,vs,ty,g2⟩:=K.toks i hi
  exact ⟨g1,vs,ty,by rw[←g2];exact hne i _ he hi (by simp)⟩
 ·intro i hi
  have he:i≠id:=fun he => by subst he;rw[K.fresh i hi] at hid;cases hid
  simpa [Cx.mset,upd,he] using K.fresh i hi
section
variable {P:Program} {o:Oper} {a:Act} {c:Cx} {e:Env} {g:G} {al:Nat→Bool} {id:Nat} {r:AV × G}
theorem s_mkmap (K:Ok c g.nx) (hg:c.hp = g.hp) (hid:c.hp id = none) (hlt:id < g.nx) (ho:opB P c.num o.op .mkmap = true) (h:some (AV.mm id,(⟨upd g.hp id (some (.map [])),g.nx⟩:G)) = some r):Does P o a c r:=by
 cases h
 obtain ⟨dst,op,ty,pos,after,guard⟩:=o
 simp only[opB] at ho
 split at ho
 ·rename_i t
  have hn:NewOk c (.map #[] 0) (.map []):=⟨rfl,0,rfl⟩
  refine Does.fresh (lo:=0) (ob:=.map #[] 0) K hg hid hlt hn _ (.map (some c.w.heap.size)) ?_ (by simp[execOp,Instr.makeMap])
  have:=Rep.mm (c:=c.alloc id (.map #[] 0) 0 (.map [])) id (by rw[hp_alloc_same];rfl)
  rwa [loc_alloc_same] at this
 ·cases ho
theorem checkKey_string (b:Bool) (n:Nat) {t:TypeId} (hu:P.underlying t = some .string) (s:ByteArray) (w:World):(Instr.checkKey b (n + 1) t (.string s)).run P w = .ok () w:=by
 simp only[Instr.checkKey,Sem.run_bind,run_underlying hu,Result.andThen_ok,Sem.run_pure]
theorem findNow_rep {k:ByteArray}:∀ {es:List (AV × AV)} {ms:List MapEntry} (j:Nat),es.length = ms.length→(∀ (j:Nat) k v en,es[j]? = some (k,v)→ms[j]? = some en→(∃ s,k = .s s∧en.key = .string s)∧Rep c true v en.val) →
  (mlook es k = none→Instr.findNow .string (.string k) ms j = some none)∧(∀ v,mlook es k = some v→∃ i val,Instr.findNow .string (.string k) ms j = some (some (i,val))∧Rep c true v val)
 | [],[],j,_,_ => ⟨fun _ => rfl,fun v h => by simp[mlook] at h⟩
 | [],_ :: _,_,hl,_ => by simp at hl
 | _ :: _,[],_,hl,_ => by simp at hl
 | (x,v) :: es,en :: ms,j,hl,h => by
   obtain ⟨⟨s,rfl,hk⟩,hv⟩:=h 0 x v en rfl rfl
   have ih:=findNow_rep (k:=k) (es:=es) (ms:=ms) (j + 1) (by simpa using hl) (fun i k v en hx hv => h (i + 1) k v en (by simpa using hx) (by simpa using hv))
   by_cases hks:(k == s) = true
   ·refine ⟨fun hn => by simp[mlook,hks] at hn,fun v' hv' => ?_⟩
    simp only[mlook,hks,if_true] at hv'
    cases hv'
    exact ⟨j,en.val,by simp only[Instr.findNow,Instr.sameNow,hk,hks],hv⟩
   ·have hks':(k == s) = false:=by simpa using hks
    refine ⟨fun hn => ?_,fun v' hv' => ?_⟩
    ·simp only[mlook,hks',Bool.false_eq_true,if_false] at hn
     simp only[Instr.findNow,Instr.sameNow,hk,hks']
     exact ih.1 hn
    ·simp only[mlook,hks',Bool.false_eq_true,if_false] at hv'
     obtain ⟨i,val,h1,h2⟩:=ih.2 v' hv'
     exact ⟨i,val,by simp only[Instr.findNow,Instr.sameNow,hk,hks'];exact h1,h2⟩
theorem s_mget (he:EnvOk c e a) (K:Ok c g.nx) (hg:c.hp = g.hp) {m k:Opd} (ho:opB P c.num o.op (.mget m k) = true) (h:vMget al (m.ev e) (k.ev e) g = some r):Does P o a c r:=by
 obtain ⟨dst,op,ty,pos,after,guard⟩:=o
 simp only[opB] at ho
 split at ho
 ·rename_i t m' k'
  simp only[Bool.and_eq_true] at ho
  obtain ⟨⟨h1,h2⟩,h3⟩:=ho
  have r1:=opdB_rep he h2
  have r2:=opdB_rep he h3
  split at h1
  ·rename_i kt el hu
   split at h1
   ·rename_i huk
    unfold vMget at h
    split at h
    ·rename_i b s hx hy
     rw[hx] at r1
     rw[hy] at r2
     have v1:=rep_mm r1
     have v2:=rep_s r2
     split at h
     ·rename_i es hb
      have hb':c.hp b = some (.map es):=by
       unfold rd at hb;split at hb
       ·rw[hg];exact hb
       ·cases hb
      obtain ⟨_,ms,cl,m2,m3,m4⟩:=K.maps b es hb'
      cases hl:mlook es s with
      | none => rw[hl] at h;cases h
      | some v =>
        rw[hl] at h;cases h
        obtain ⟨i,val,f1,f2⟩:=(findNow_rep (c:=c) (k:=s) 0 m3 m4).2 v hl
        refine Does.quiet K hg f2 ?_
        have hck:=fun b => checkKey_string (P:=P) b 9999 huk s c.w
        have hget:(getObj (c.loc b).1).run P c.w = .ok (.map ms.toArray cl) c.w:=by simp[getObj,Sem.run,m2]
        simp only[execOp,v1,v2,Instr.lookup,Sem.run_bind,run_underlying hu,Result.andThen_ok,hget,Sem.run_pure,Instr.findKey,run_underlying huk]
        rw[show (10000:Nat) = 9999 + 1 from rfl,hck]
        simp[f1]
     ·cases h
    ·cases h
   ·cases h1
  ·cases h1
 ·cases ho
theorem mput_does {op:Op} {dst ty pos after guard} {t kt el:TypeId} {m' k' v':Operand} (hop:op = .insert t m' k' v'∨op = .mapUpdate t m' k' v') (he:EnvOk c e a) (K:Ok c g.nx) (hg:c.hp = g.hp) {m k v:Opd} (hu:P.underlying t = some (.map kt el)) (huk:P.underlying kt = some .string)
  (h1:opdB c.num m' m = true) (h2:opdB c.num k' k = true) (h3:opdB c.num v' v = true) (h:vMput al (m.ev e) (k.ev e) (v.ev e) g = some r):Does P { dst:=dst,op:=op,type:=ty,pos:=pos,after:=after,guard:=guard } a c r:=by
 have r1:=opdB_rep he h1
 have r2:=opdB_rep he h2
 have r3:=opdB_rep he h3
 unfold vMput at h
 split at h
 ·rename_i b s hx hy
  rw[hx] at r1
  rw[hy] at r2
  have v1:=rep_mm r1
  have v2:=rep_s r2
  split at h
  ·rename_i es hb
   have hb':c.hp b = some (.map es):=by
    unfold rd at hb;split at hb
    ·rw[hg];exact hb
    ·cases hb
   obtain ⟨_,ms,cl,m2,m3,m4⟩:=K.maps b es hb'
   split at h
   ·rename_i hl
    split at h
    ·rename_i h1v
     cases h
     have f1:=(findNow_rep (c:=c) (k:=s) 0 m3 m4).1 hl
     have hK:=K.mset hb' (es':=es ++ [(.s s,v.ev e)]) (ms':=ms ++ [({ key:=.string s,val:=a.eval v',born:=cl }:MapEntry)]) (cl':=cl + 1) (by simp[m3]) (fun j k2 v2 en hx hv => by
      by_cases hj:j < es.length
      ·rw[List.getElem?_append_left hj] at hx
       rw[List.getElem?_append_left (by omega)] at hv
       exact m4 j k2 v2 en hx hv
      ·rw[List.getElem?_append_right (by omega)] at hx
       rw[List.getElem?_append_right (by omega),←m3] at hv
       cases hjj:j - es.length with
       | zero =>
         rw[hjj] at hx hv
         simp at hx hv
         obtain ⟨rfl,rfl⟩:=hx
         subst hv
         exact ⟨⟨s,rfl,rfl⟩,r3⟩
       | succ n => rw[hjj] at hx;simp at hx)
     refine ⟨.skip,c.mset b (es ++ [(.s s,v.ev e)]) (Obj.map (ms ++ [({ key:=.string s,val:=a.eval v',born:=cl }:MapEntry)]).toArray (cl + 1)),Go.undef,?_,.inr ⟨rfl,rfl⟩,Evo.mset K hb',hK,by simp[Cx.mset,hg],Rep.undef0⟩
     have hck:=fun b => checkKey_string (P:=P) b 9999 huk s c.w
     have hget:(getObj (c.loc b).1).run P c.w = .ok (.map ms.toArray cl) c.w:=by simp[getObj,Sem.run,m2]
     have hset:∀ ob,(setObj (c.loc b).1 ob).run P c.w = .ok () (setBlk c.w (c.loc b).1 ob):=fun ob => by simp[setObj,Sem.run,m2,setBlk]
     show _ = Result.ok Next.skip (setBlk c.w (c.loc b).1 _)
     rcases hop with rfl | rfl
     ·simp only[execOp,v1,v2,Instr.mapUpdate,Sem.run_bind,run_underlying hu,Result.andThen_ok,hget,Sem.run_pure,Instr.findKey,run_underlying huk]
      rw[show (10000:Nat) = 9999 + 1 from rfl,hck]
      simp[f1,hset]
     ·simp only[execOp,v1,v2,Instr.mapUpdate,Sem.run_bind,run_underlying hu,Result.andThen_ok,hget,Sem.run_pure,Instr.findKey,run_underlying huk]
      rw[show (10000:Nat) = 9999 + 1 from rfl,hck]
      simp[f1,hset]
    ·cases h
   ·cases h
  ·cases h
 ·cases h
theorem s_mput (he:EnvOk c e a) (K:Ok c g.nx) (hg:c.hp = g.hp) {m k v:Opd} (ho:opB P c.num o.op (.mput m k v) = true) (h:vMput al (m.ev e) (k.ev e) (v.ev e) g = some r):Does P o a c r:=by
 obtain ⟨dst,op,ty,pos,after,guard⟩:=o
 simp only[opB] at ho
 split at ho
 ·rename_i t m' k' v'
  simp only[Bool.and_eq_true] at ho
  obtain ⟨⟨⟨h1,h2⟩,h3⟩,h4⟩:=ho
  split at h1
  ·rename_i kt el hu
   split at h1
   ·rename_i huk
    exact mput_does (.inl rfl) he K hg hu huk h2 h3 h4 h
   ·cases h1
  ·cases h1
 ·rename_i t m' k' v'
  simp only[Bool.and_eq_true] at ho
  obtain ⟨⟨⟨h1,h2⟩,h3⟩,h4⟩:=ho
  split at h1
  ·rename_i kt el hu
   split at h1
   ·rename_i huk
    exact mput_does (.inr rfl) he K hg hu huk h2 h3 h4 h
   ·cases h1
  ·cases h1
 ·cases ho
end
end Go.Ab
end
section
set_option linter.unusedVariables false
set_option linter.unusedSimpArgs false
namespace Go.Ab
open Go.RowKit
def CallOk (P:Program) (num:Nat→Nat) (call:CS):Prop:=
 ∀ f asx g v g',call f asx g = some (v,g')→(g.nx≤g'.nx∧∀ i,i < g.nx→g.hp i = none→g'.hp i = none)∧∀ (c:Cx) (vargs:List Value),c.num = num→c.hp = g.hp→Ok c g.nx→Reps c true asx vargs →
   Calls P (num f) vargs.toArray c.w (fun en w' => ∃ val c',en = .returned val∧c'.w = w'∧Evo c c'∧Ok c' g'.nx∧c'.hp = g'.hp∧Rep c' true v val)∧(∃ fn,P.funcs[num f]? = some fn∧fn.body.isSome∧(fn.name == "runtime.NumGoroutine") = false)
theorem Rep.move {c c':Cx} (hn:c'.num = c.num) (hI:∀ ad,c.I ad→c'.I ad∧∀ v,c.w.cell? ad = some v→c'.w.cell? ad = some v) {m:Bool} {x:AV} {v:Value} (h:Rep c m x v) (hm:m = false):Rep c' m x v:=by
 induction h with
 | undef v hb => exact .undef v hb
 | b x => exact .b x
 | i k n => exact .i k n
 | s x => exact .s x
 | nilp => exact .nilp
 | nilf => exact .nilf
 | nili => exact .nili
 | agg vs hl _ ih => exact .agg vs hl fun j x v h1 h2 => ih j x v h1 h2 hm
 | tup vs hl _ ih => exact .tup vs hl fun j x v h1 h2 => ih j x v h1 h2 hm
 | sl ad vs hc hm' hr ho hz h1 hl ha hk _ ht ih => exact .sl ad vs hc hm' hr ho hz h1 hl ha (fun j v hv => ⟨(hI _ (hk j v hv).1).1,(hI _ (hk j v hv).1).2 v (hk j v hv).2⟩) (fun j x v h1 h2 => ih j x v h1 h2 rfl) (fun τ e h => absurd h (ho hm τ e))
 | ptr ad vs h1 hl hk _ ih => exact .ptr ad vs h1 hl (fun j v hv => ⟨(hI _ (hk j v hv).1).1,(hI _ (hk j v hv).1).2 v (hk j v hv).2⟩) (fun j x v h1 h2 => ih j x v h1 h2 rfl)
 | mp id off h => cases hm
 | ms id off n cap h hc hm' => cases hm
 | mc id k e n cap h => cases hm
 | fn vs us hl hl' _ _ ih ih' => rw[←hn];exact .fn vs us hl hl' (fun j x v h1 h2 => ih j x v h1 h2 hm) (fun j x v h1 h2 => ih' j x v h1 h2 hm)
 | mm id h => cases hm
theorem Reps.move {c c':Cx} (hn:c'.num = c.num) (hI:∀ ad,c.I ad→c'.I ad∧∀ v,c.w.cell? ad = some v→c'.w.cell? ad = some v) {cs:List AV} {vs:List Value} (h:Reps c false cs vs):Reps c' false cs vs:=
 ⟨h.1,fun j x v hx hv => (h.2 j x v hx hv).move hn hI rfl⟩
theorem rep_flat {c c':Cx} {m m':Bool} {x:AV} {v:Value} (hf:flat x = true) (h:Rep c m x v):Rep c' m' x v:=by
 cases h<;>first | (simp[flat] at hf;done) | constructor
mutual
theorem frz_one {hp:Nat→Option Blk}:∀ (k:Nat) {x y:AV},frz hp k x = some y→Ab.one x = true→Ab.one y = true
 | 0,_,_,h,_ => by simp[frz] at h
 | k + 1,x,y,h,h1 => by
   cases x with
   | agg cs => simp[Ab.one] at h1
   | tup cs => simp[Ab.one] at h1
   | undef => simp[Ab.one] at h1
   | mc id k e n => simp[Ab.one] at h1
   | b x => simp only[frz] at h;cases h;rfl
   | i k n => simp only[frz] at h;cases h;rfl
   | s x => simp only[frz] at h;cases h;rfl
   | nilp => simp only[frz] at h;cases h;rfl
   | nilf => simp only[frz] at h;cases h;rfl
   | nili => simp only[frz] at h;cases h;rfl
   | sl cs n t => simp only[frz] at h;cases h;rfl
   | ptr cs => simp only[frz] at h;cases h;rfl
   | mp id off =>
     simp only[frz] at h
     split at h
     ·cases hf:frzL hp k (List.drop off _) with
      | none => rw[hf] at h;cases h
      | some z => rw[hf] at h;cases h;rfl
     ·cases h
   | ms id off n =>
     simp only[frz] at h
     split at h
     ·cases hf:frzL hp k (List.drop off _) with
      | none => rw[hf] at h;cases h
      | some z => rw[hf] at h;cases h;rfl
     ·cases h
   | fn f a b =>
     simp only[frz] at h
     split at h
     ·cases h;rfl
     ·cases h
   | ifc t v =>
     simp only[frz] at h
     cases hf:frz hp k v with
     | none => rw[hf] at h;cases h
     | some z => rw[hf] at h;cases h;rfl
   | mm id => simp only[frz] at h;cases h
theorem frzL_ones {hp:Nat→Option Blk}:∀ (k:Nat) {cs ds:List AV},frzL hp k cs = some ds→cs.all Ab.one = true→ds.all Ab.one = true
 | k,[],ds,h,_ => by simp only[frzL] at h;cases h;rfl
 | k,x :: cs,ds,h,h1 => by
   simp only[frzL] at h
   simp only[List.all_cons,Bool.and_eq_true] at h1
   split at h
   ·rename_i hx hs
    cases h
    simp only[List.all_cons,frz_one k hx h1.1,frzL_ones k hs h1.2,Bool.and_self]
   ·cases h
end
def Cx.callee (c:Cx):Cx:={ num:=c.num,base:=c.w.heap.size,J:=c.I,w:=c.w,loc:=fun _ => (0,0),hp:=fun _ => none }
theorem Ok.callee {c:Cx} {nx:Nat} (K:Ok c nx):Ok c.callee 0:=⟨Nat.le_refl _,(fun _ _ _ h => by cases h),(fun _ _ h => by cases h),(fun _ h => by cases h),(fun _ _ _ h => by obtain ⟨_,h,_⟩:=h;cases h),(fun _ _ => rfl),fun k h0 => by obtain ⟨_,ty,fr,h2⟩:=K.gl k h0;exact ⟨(Array.getElem?_eq_some_iff.1 h2).1,ty,fr,h2⟩⟩
theorem rd_hp {c:Cx} {g:G} {al:Nat→Bool} (hg:c.hp = g.hp):∀ i b,rd g al i = some b→c.hp i = some b:=by
 intro i b hb
 unfold rd at hb
 split at hb
 ·rw[hg];exact hb
 ·cases hb
theorem callee_I {c:Cx} {nx:Nat} (K:Ok c nx) (ad:Addr) (h:c.I ad):c.callee.I ad∧∀ v,c.w.cell? ad = some v→c.callee.w.cell? ad = some v:=
 ⟨.inl ⟨I_lt K.basele h,h⟩,fun _ h => h⟩
theorem callee_reps {c:Cx} {nx:Nat} (K:Ok c nx) {cs:List AV} {vs:List Value} (h:Reps c false cs vs):Reps c.callee true cs vs:=
 (Reps.move (c:=c) (c':=c.callee) rfl (callee_I K) h).up
theorem back_I {c cc:Cx} {nx:Nat} (K:Ok c nx) (E:Evo c.callee cc) (ids:List Nat) (ad:Addr) (h:(cc.lock ids).I ad):(c.grow cc.w).I ad∧∀ v,cc.w.cell? ad = some v→(c.grow cc.w).w.cell? ad = some v:=by
 refine ⟨?_,fun _ h => h⟩
 have hb:Below c.w.heap.size c.w cc.w:=E.below
 rcases h with ⟨h1,h2⟩ | ⟨h1,h2,_⟩
 ·have hJ:c.I ad:=by
   have:(cc.lock ids).J = c.I:=E.J
   rw[this] at h2;exact h2
  exact ((Evo.grow K hb E.dr).imm ad hJ).1
 ·have hbase:(cc.lock ids).base = c.w.heap.size:=E.base
  rw[hbase] at h1
  exact I_beside K h1 h2
section
variable {P:Program} {o:Oper} {a:Act} {c:Cx} {e:Env} {g:G} {al:Nat→Bool} {lo id:Nat} {r:AV × G} {call:CS}
def DoesWp (P:Program) (o:Oper) (a:Act) (c:Cx) (r:AV × G):Prop:=
 ∀ (K:Act→World→Prop) (Q:Exit→Act→World→Prop),(∀ c' val,Evo c c'→Ok c' r.2.nx→c'.hp = r.2.hp→Rep c' true r.1 val→K (a.put o.dst val) c'.w)→o.wp P a c.w K Q
theorem Does.wp (h:Does P o a c r):DoesWp P o a c r:=by
 intro K Q hK
 obtain ⟨n,c',val,hrun,hn,E,Kk,hh,hr⟩:=h
 unfold Oper.wp
 rw[hrun]
 rcases hn with rfl | ⟨rfl,rfl⟩
 ·exact hK c' val E Kk hh hr
 ·exact hK c' _ E Kk hh hr
theorem calls_wp {f:FuncId} {args:Array Value} {R:Ending→World→Prop} {dst op ty pos after guard} (hrun:(execOp a.eval { dst:=dst,op:=op,type:=ty,pos:=pos,after:=after,guard:=guard }).run P c.w = .ok (.enter f args) c.w) (hc:Calls P f args c.w R)
  {K:Act→World→Prop} {Q:Exit→Act→World→Prop} (h:∀ en w',R en w'→∃ v,en = .returned v∧K (a.put dst v) w'):Oper.wp P { dst:=dst,op:=op,type:=ty,pos:=pos,after:=after,guard:=guard } a c.w K Q:=by
 unfold Oper.wp
 rw[hrun]
 refine hc.mono fun en w' hR => ?_
 obtain ⟨v,rfl,hk⟩:=h en w' hR
 exact hk
theorem s_call (hcall:CallOk P c.num call) (he:EnvOk c e a) (K:Ok c g.nx) (hg:c.hp = g.hp) (hid:c.hp id = none) (hlt:id < g.nx) {m:Mode} {f:Opd} {args:List Opd} (ho:opB P c.num o.op (.call m f args) = true) (h:vCall call al id m (f.ev e) (args.map (·.ev e)) g = some r):DoesWp P o a c r:=by
 obtain ⟨dst,op,ty,pos,after,guard⟩:=o
 simp only[opB] at ho
 split at ho
 ·rename_i cl
  obtain ⟨cal,asx,ts⟩:=cl
  simp only[Bool.and_eq_true] at ho
  obtain ⟨h1,h2⟩:=ho
  split at h1
  ·rename_i fo
   have rf:=opdB_rep he h1
   have ra:=opdsB_rep he h2
   intro Kn Q hK
   unfold vCall at h
   split at h
   ·rename_i fid fst caps hx
    rw[hx] at rf
    obtain ⟨vs,us,hv,hvs,hus⟩:=rep_fn rf
    have hargs:Reps c true (fst ++ args.map (·.ev e) ++ caps) (vs ++ asx.toList.map a.eval ++ us):=(hvs.append ra).append hus
    have hrun:∀ fn,P.funcs[c.num fid]? = some fn→fn.body.isSome→(fn.name == "runtime.NumGoroutine") = false→(execOp a.eval { dst:=dst,op:=.call { callee:=.value fo,args:=asx,argTypes:=ts },type:=ty,pos:=pos,after:=after,guard:=guard }).run P c.w = .ok (.enter (c.num fid) (vs ++ asx.toList.map a.eval ++ us).toArray) c.w:=by
     intro fn hf hb hn
     have hb':fn.body.isNone = false:=by cases hh:fn.body with | none => rw[hh] at hb;cases hb | some _ => rfl
     simp only[execOp,resolve,hv,Deferred.ofValue,Sem.run_bind,Sem.run_pure,Result.andThen_ok,invoke,callFunc,run_program,hf,hn,hb',Bool.false_eq_true,if_false]
     congr 2
     apply Array.ext'
     simp
    cases m with
    | raw =>
      obtain ⟨_,hc⟩:=hcall fid _ g r.1 r.2 h
      obtain ⟨hcl,fn,hf,hb,hn⟩:=hc c _ rfl hg K hargs
      refine calls_wp (hrun fn hf hb hn) hcl ?_
      rintro en w' ⟨val,c',rfl,rfl,E,Kk,hh,hr⟩
      exact ⟨val,rfl,hK c' val E Kk hh hr⟩
    | see =>
      simp only at h
      obtain ⟨g',hce,h3,hkp⟩:=seeR_inv h
      rw[←h3] at hce
      obtain ⟨_,hc⟩:=hcall fid _ g r.1 r.2 hce
      obtain ⟨hcl,fn,hf,hb,hn⟩:=hc c _ rfl hg K hargs
      refine calls_wp (hrun fn hf hb hn) hcl ?_
      rintro en w' ⟨val,c',rfl,rfl,E,Kk,hh,hr⟩
      exact ⟨val,rfl,hK c' val E Kk hh hr⟩
    | pure =>
      simp only at h
      split at h
      ·cases h
      ·rename_i bs hbs
       split at h
       ·cases h
       ·rename_i v g' hcr
        split at h
        ·cases h
        ·rename_i v2 hfz
         split at h
         ·rename_i hcond
          cases h
          have hfr:=frzL_rep K (hp:=rd g al) (ids:=(fst ++ args.map (·.ev e) ++ caps).flatMap (vis (rd g al) depth)) (rd_hp hg) depth hbs (fun _ h => h) hargs
          have Kl:=K.lock ((fst ++ args.map (·.ev e) ++ caps).flatMap (vis (rd g al) depth))
          obtain ⟨_,hc⟩:=hcall fid _ _ v g' hcr
          obtain ⟨hcl,fn,hf,hb,hn⟩:=hc (c.lock ((fst ++ args.map (·.ev e) ++ caps).flatMap (vis (rd g al) depth))).callee _ rfl rfl (Ok.callee Kl) (callee_reps Kl hfr)
          refine calls_wp (hrun fn hf hb hn) hcl ?_
          rintro en w' ⟨val,cc,rfl,rfl,E,Kk,hh,hr⟩
          have hbel:Below c.w.heap.size c.w cc.w:=E.below
          refine ⟨val,rfl,?_⟩
          have hr2:=frz_rep Kk (hp:=g'.hp) (ids:=vis g'.hp depth v) (fun i b hb => by rw[hh];exact hb) depth hfz (fun _ h => h) hr
          simp only[Bool.or_eq_true] at hcond
          rcases hcond with hfl | hem
          ·exact hK (c.grow cc.w) val (Evo.grow K hbel E.dr) (K.grow hbel E.dr) hg (rep_flat hfl hr2)
          ·have hnil:(fst ++ args.map (·.ev e) ++ caps).flatMap (vis (rd g al) depth) = []:=by simpa using hem
           rw[hnil,lock_nil] at E
           have hr3:=(hr2.move (c':=c.grow cc.w) (by show c.num = cc.num;exact E.num.symm) (back_I K E _) rfl).up
           exact hK (c.grow cc.w) val (Evo.grow K hbel E.dr) (K.grow hbel E.dr) hg hr3
         ·cases h
    | lock =>
      simp only at h
      split at h
      ·cases h
      ·rename_i bs hbs
       split at h
       ·cases h
       ·rename_i v g' hcr
        split at h
        ·cases h
        ·rename_i v2 hfz
         cases h
         have hfr:=frzL_rep K (hp:=rd g al) (ids:=(fst ++ args.map (·.ev e) ++ caps).flatMap (vis (rd g al) depth)) (rd_hp hg) depth hbs (fun _ h => h) hargs
         have Kl:=K.lock ((fst ++ args.map (·.ev e) ++ caps).flatMap (vis (rd g al) depth))
         have El:=Evo.lock c ((fst ++ args.map (·.ev e) ++ caps).flatMap (vis (rd g al) depth))
         obtain ⟨_,hc⟩:=hcall fid _ _ v g' hcr
         obtain ⟨hcl,fn,hf,hb,hn⟩:=hc (c.lock ((fst ++ args.map (·.ev e) ++ caps).flatMap (vis (rd g al) depth))).callee _ rfl rfl (Ok.callee Kl) (callee_reps Kl hfr)
         refine calls_wp (hrun fn hf hb hn) hcl ?_
         rintro en w' ⟨val,cc,rfl,rfl,E,Kk,hh,hr⟩
         have hbel:Below c.w.heap.size c.w cc.w:=E.below
         refine ⟨val,rfl,?_⟩
         have hr2:=frz_rep Kk (hp:=g'.hp) (ids:=vis g'.hp depth v) (fun i b hb => by rw[hh];exact hb) depth hfz (fun _ h => h) hr
         have hr3:=(hr2.move (c':=(c.lock ((fst ++ args.map (·.ev e) ++ caps).flatMap (vis (rd g al) depth))).grow cc.w) (by show c.num = cc.num;exact E.num.symm) (back_I Kl E _) rfl).up
         exact hK ((c.lock ((fst ++ args.map (·.ev e) ++ caps).flatMap (vis (rd g al) depth))).grow cc.w) val (El.trans (Evo.grow Kl hbel E.dr)) (Kl.grow hbel E.dr) (by show Ab.lock c.hp _ = _;rw[hg]) hr3
    | thaw =>
      simp only at h
      split at h
      ·cases h
      ·rename_i bs hbs
       split at h
       ·rename_i b g' hcr
        split at h
        ·rename_i cs hb
         split at h
         ·rename_i cs' hfz
          split at h
          ·rename_i hcond
           cases h
           simp only[Bool.and_eq_true,Bool.not_eq_true'] at hcond
           obtain ⟨hem,hnb⟩:=hcond
           have hnil:(fst ++ args.map (·.ev e) ++ caps).flatMap (vis (rd g al) depth) = []:=by simpa using hem
           have hfr:=frzL_rep K (hp:=rd g al) (ids:=(fst ++ args.map (·.ev e) ++ caps).flatMap (vis (rd g al) depth)) (rd_hp hg) depth hbs (fun _ h => h) hargs
           rw[hnil,lock_nil] at hfr
           obtain ⟨_,hc⟩:=hcall fid _ _ _ g' hcr
           obtain ⟨hcl,fn,hf,hbd,hn⟩:=hc c.callee _ rfl rfl (Ok.callee K) (callee_reps K hfr)
           refine calls_wp (hrun fn hf hbd hn) hcl ?_
           rintro en w' ⟨val,cc,rfl,rfl,E,Kk,hh,hr⟩
           have hbel:Below c.w.heap.size c.w cc.w:=E.below
           have hvp:=rep_mp hr
           have hcb:cc.hp b = some (.cells cs false):=by rw[hh];exact hb
           obtain ⟨g1,vs',rs',ty',g2,g3,g4⟩:=Kk.cells b cs _ hcb
           have hbase:cc.base = c.w.heap.size:=E.base
           rw[hbase] at g1
           have hr2:=frzL_rep Kk (hp:=g'.hp) (ids:=cs.flatMap (vis g'.hp depth)) (fun i b hb => by rw[hh];exact hb) depth hfz (fun _ h => h) g3
           have hnbm:b ∉ cs.flatMap (vis g'.hp depth):=by simpa using hnb
           -- the caller's state,the block its own
           have hloc:∀ i,i≠id→upd c.loc id ((cc.loc b).1,0) i = c.loc i:=fun i hi => by rw[upd,if_neg hi]
           have hhp:∀ i,i≠id→upd c.hp id (some (.cells cs' false)) i = c.hp i:=fun i hi => by rw[upd,if_neg hi]
           let c':Cx:={ (c.grow cc.w) with loc:=upd c.loc id ((cc.loc b).1,0),hp:=upd c.hp id (some (.cells cs' false)) }
           have hls:c'.loc id = ((cc.loc b).1,0):=by show upd _ _ _ _ = _;rw[upd,if_pos rfl]
           have hhs:c'.hp id = some (.cells cs' false):=by show upd _ _ _ _ = _;rw[upd,if_pos rfl]
           have El:Evo c c':=by
            refine ⟨rfl,rfl,rfl,hbel.mono K.basele,?_,?_,?_,?_,E.dr⟩
            ·intro ad hI
             have hlt':=I_lt K.basele hI
             refine ⟨?_,fun v hv => by rw[←hv];exact hbel.cell hlt'⟩
             rcases hI with h1 | ⟨h1,h2,h3⟩
             ·exact .inl h1
             ·refine .inr ⟨h1,Nat.lt_of_lt_of_le h2 hbel.size,fun hw => h3 ?_⟩
              rcases hw with ⟨i,ds,hi,hbk⟩ | ⟨i,hi,hbk,hlo⟩
              ·by_cases hie:i = id
               ·subst hie;rw[hls] at hbk;have:(cc.loc b).1 = ad.block:=hbk;omega
               ·rw[show c'.hp i = c.hp i from hhp i hie] at hi;rw[show c'.loc i = c.loc i from hloc i hie] at hbk;exact .inl ⟨i,ds,hi,hbk⟩
              ·by_cases hie:i = id
               ·subst hie;rw[hhs] at hi;cases hi
               ·rw[show c'.hp i = c.hp i from hhp i hie] at hi;rw[show c'.loc i = c.loc i from hloc i hie] at hbk hlo;exact .inr ⟨i,hi,hbk,hlo⟩
            ·intro i hi
             have hie:i≠id:=fun hie => by rw[hie,hid] at hi;cases hi
             exact ⟨by rw[show c'.hp i = c.hp i from hhp i hie];exact hi,hloc i hie⟩
            ·intro i hi ht
             have hie:i≠id:=fun hie => by rw[hie,hid] at hi;cases hi
             rw[show c'.hp i = c.hp i from hhp i hie] at ht
             exact ⟨ht,fun vs ty hv => ⟨vs,by rw[←hv];exact hbel.block _ (Array.getElem?_eq_some_iff.1 hv).1,rfl⟩⟩
            ·intro i ds ro hi hc'
             have hie:i≠id:=fun hie => by rw[hie,hid] at hi;cases hi
             rw[show c'.hp i = c.hp i from hhp i hie] at hc'
             refine ⟨ds,ro,hc',rfl,fun vs ty hv => ⟨vs,?_,Nat.le_refl _⟩⟩
             have hlt':=K.lt (id:=i) ⟨_,hc',by simp⟩
             rw[←hv];exact (hbel.block _ hlt').symm
           have hback:∀ ad,(cc.lock (cs.flatMap (vis g'.hp depth))).I ad→c'.I ad∧∀ v,cc.w.cell? ad = some v→c'.w.cell? ad = some v:=by
            intro ad hI
            refine ⟨?_,fun _ h => h⟩
            have hne:ad.block≠(cc.loc b).1:=by
             rcases hI with ⟨h1,_⟩ | ⟨_,_,h3⟩
             ·have h1':ad.block < cc.base:=h1
              omega
             ·intro hEq
              refine h3 (.inl ⟨b,cs,?_,hEq.symm⟩)
              rcases lock_cases cc.hp (cs.flatMap (vis g'.hp depth)) b with h | ⟨hm,_⟩
              ·show Ab.lock _ _ _ = _;rw[h];exact hcb
              ·exact absurd hm hnbm
            rcases (back_I K E _ ad hI).1 with h1 | ⟨h1,h2,h3⟩
            ·exact .inl h1
            ·refine .inr ⟨h1,h2,fun hw => h3 ?_⟩
             rcases hw with ⟨i,ds,hi,hbk⟩ | ⟨i,hi,hbk,hlo⟩
             ·by_cases hie:i = id
              ·subst hie;rw[hls] at hbk;exact absurd hbk.symm hne
              ·rw[show c'.hp i = c.hp i from hhp i hie] at hi;rw[show c'.loc i = c.loc i from hloc i hie] at hbk;exact .inl ⟨i,ds,hi,hbk⟩
             ·by_cases hie:i = id
              ·subst hie;rw[hhs] at hi;cases hi
              ·rw[show c'.hp i = c.hp i from hhp i hie] at hi;rw[show c'.loc i = c.loc i from hloc i hie] at hbk hlo;exact .inr ⟨i,hi,hbk,hlo⟩
           have hr3:=(hr2.move (c':=c') (by show c.num = cc.num;exact E.num.symm) hback).up
           have hlive:∀ i,i≠id→c'.live i→c.live i:=fun i hi ⟨b',hb',hn'⟩ => ⟨b',by rw[←show c'.hp i = c.hp i from hhp i hi];exact hb',hn'⟩
           have Kl:Ok c' g.nx:=by
            refine ⟨Nat.le_trans K.basele hbel.size,?_,?_,?_,?_,?_,K.gl.evo El⟩
            ·intro i ds ro hi
             by_cases hie:i = id
             ·subst hie
              rw[hhs] at hi;cases hi
              rw[hls]
              exact ⟨Nat.le_trans K.basele g1,vs',rs',ty',g2,hr3,frzL_ones depth hfz g4⟩
             ·rw[show c'.hp i = c.hp i from hhp i hie] at hi
              obtain ⟨k1,ws,wr,wt,k2,k3,k4⟩:=K.cells i ds ro hi
              rw[show c'.loc i = c.loc i from hloc i hie]
              exact ⟨k1,ws,wr,wt,by rw[←k2];exact hbel.block _ (Array.getElem?_eq_some_iff.1 k2).1,k3.evo El,k4⟩
            ·intro i es hi
             have hie:i≠id:=fun hie => by subst hie;rw[hhs] at hi;cases hi
             rw[show c'.hp i = c.hp i from hhp i hie] at hi
             obtain ⟨k1,ms,cl,k2,k3,k4⟩:=K.maps i es hi
             rw[show c'.loc i = c.loc i from hloc i hie]
             exact ⟨k1,ms,cl,by rw[←k2];exact hbel.block _ (Array.getElem?_eq_some_iff.1 k2).1,k3,fun j k v en hx hv => ⟨(k4 j k v en hx hv).1,(k4 j k v en hx hv).2.evo El⟩⟩
            ·intro i hi
             have hie:i≠id:=fun hie => by subst hie;rw[hhs] at hi;cases hi
             rw[show c'.hp i = c.hp i from hhp i hie] at hi
             obtain ⟨k1,ws,wt,k2⟩:=K.toks i hi
             rw[show c'.loc i = c.loc i from hloc i hie]
             exact ⟨k1,ws,wt,by rw[←k2];exact hbel.block _ (Array.getElem?_eq_some_iff.1 k2).1⟩
            ·intro i j hij hi hj
             by_cases hie:i = id
             ·have hje:j≠id:=fun h => hij (hie.trans h.symm)
              subst hie
              have:=K.lt (hlive j hje hj)
              rw[hls,show c'.loc j = c.loc j from hloc j hje]
              show (cc.loc b).1≠_
              omega
             ·by_cases hje:j = id
              ·subst hje
               have:=K.lt (hlive i hie hi)
               rw[hls,show c'.loc i = c.loc i from hloc i hie]
               show _≠(cc.loc b).1
               omega
              ·rw[show c'.loc i = c.loc i from hloc i hie,show c'.loc j = c.loc j from hloc j hje]
               exact K.inj i j hij (hlive i hie hi) (hlive j hje hj)
            ·intro i hi
             have hie:i≠id:=by have hi':g.nx≤i:=hi;omega
             rw[show c'.hp i = c.hp i from hhp i hie]
             exact K.fresh i hi
           refine ⟨val,rfl,hK c' val El Kl (by show upd c.hp id _ = upd g.hp id _;rw[hg]) ?_⟩
           rw[hvp]
           have:=Rep.mp (c:=c') id 0 (by rw[hhs];rfl)
           rw[hls] at this
           exact this
          ·cases h
         ·cases h
        ·cases h
       ·cases h
    | melt =>
      simp only at h
      split at h
      ·cases h
      ·rename_i bs hbs
       split at h
       ·rename_i b n g' hcr
        split at h
        ·rename_i cs hb
         split at h
         ·rename_i cs' hfz
          split at h
          ·rename_i hcond
           cases h
           simp only[Bool.and_eq_true,Bool.not_eq_true'] at hcond
           obtain ⟨hem,hnb⟩:=hcond
           have hnil:(fst ++ args.map (·.ev e) ++ caps).flatMap (vis (rd g al) depth) = []:=by simpa using hem
           have hfr:=frzL_rep K (hp:=rd g al) (ids:=(fst ++ args.map (·.ev e) ++ caps).flatMap (vis (rd g al) depth)) (rd_hp hg) depth hbs (fun _ h => h) hargs
           rw[hnil,lock_nil] at hfr
           obtain ⟨_,hc⟩:=hcall fid _ _ _ g' hcr
           obtain ⟨hcl,fn,hf,hbd,hn⟩:=hc c.callee _ rfl rfl (Ok.callee K) (callee_reps K hfr)
           refine calls_wp (hrun fn hf hbd hn) hcl ?_
           rintro en w' ⟨val,cc,rfl,rfl,E,Kk,hh,hr⟩
           have hbel:Below c.w.heap.size c.w cc.w:=E.below
           obtain ⟨cap,hvp,hcap1,hcap2,_,hMs⟩:=rep_ms' hr
           have hcb:cc.hp b = some (.cells cs false):=by rw[hh];exact hb
           obtain ⟨g1,vs',rs',ty',g2,g3,g4⟩:=Kk.cells b cs _ hcb
           have hbase:cc.base = c.w.heap.size:=E.base
           rw[hbase] at g1
           have hr2:=frzL_rep Kk (hp:=g'.hp) (ids:=cs.flatMap (vis g'.hp depth)) (fun i b hb => by rw[hh];exact hb) depth hfz (fun _ h => h) g3
           have hnbm:b ∉ cs.flatMap (vis g'.hp depth):=by simpa using hnb
           -- the caller's state,the block its own
           have hloc:∀ i,i≠id→upd c.loc id ((cc.loc b).1,0) i = c.loc i:=fun i hi => by rw[upd,if_neg hi]
           have hhp:∀ i,i≠id→upd c.hp id (some (.cells cs' false)) i = c.hp i:=fun i hi => by rw[upd,if_neg hi]
           let c':Cx:={ (c.grow cc.w) with loc:=upd c.loc id ((cc.loc b).1,0),hp:=upd c.hp id (some (.cells cs' false)) }
           have hls:c'.loc id = ((cc.loc b).1,0):=by show upd _ _ _ _ = _;rw[upd,if_pos rfl]
           have hhs:c'.hp id = some (.cells cs' false):=by show upd _ _ _ _ = _;rw[upd,if_pos rfl]
           have El:Evo c c':=by
            refine ⟨rfl,rfl,rfl,hbel.mono K.basele,?_,?_,?_,?_,E.dr⟩
            ·intro ad hI
             have hlt':=I_lt K.basele hI
             refine ⟨?_,fun v hv => by rw[←hv];exact hbel.cell hlt'⟩
             rcases hI with h1 | ⟨h1,h2,h3⟩
             ·exact .inl h1
             ·refine .inr ⟨h1,Nat.lt_of_lt_of_le h2 hbel.size,fun hw => h3 ?_⟩
              rcases hw with ⟨i,ds,hi,hbk⟩ | ⟨i,hi,hbk,hlo⟩
              ·by_cases hie:i = id
               ·subst hie;rw[hls] at hbk;have:(cc.loc b).1 = ad.block:=hbk;omega
               ·rw[show c'.hp i = c.hp i from hhp i hie] at hi;rw[show c'.loc i = c.loc i from hloc i hie] at hbk;exact .inl ⟨i,ds,hi,hbk⟩
              ·by_cases hie:i = id
               ·subst hie;rw[hhs] at hi;cases hi
               ·rw[show c'.hp i = c.hp i from hhp i hie] at hi;rw[show c'.loc i = c.loc i from hloc i hie] at hbk hlo;exact .inr ⟨i,hi,hbk,hlo⟩
            ·intro i hi
             have hie:i≠id:=fun hie => by rw[hie,hid] at hi;cases hi
             exact ⟨by rw[show c'.hp i = c.hp i from hhp i hie];exact hi,hloc i hie⟩
            ·intro i hi ht
             have hie:i≠id:=fun hie => by rw[hie,hid] at hi;cases hi
             rw[show c'.hp i = c.hp i from hhp i hie] at ht
             exact ⟨ht,fun vs ty hv => ⟨vs,by rw[←hv];exact hbel.block _ (Array.getElem?_eq_some_iff.1 hv).1,rfl⟩⟩
            ·intro i ds ro hi hc'
             have hie:i≠id:=fun hie => by rw[hie,hid] at hi;cases hi
             rw[show c'.hp i = c.hp i from hhp i hie] at hc'
             refine ⟨ds,ro,hc',rfl,fun vs ty hv => ⟨vs,?_,Nat.le_refl _⟩⟩
             have hlt':=K.lt (id:=i) ⟨_,hc',by simp⟩
             rw[←hv];exact (hbel.block _ hlt').symm
           have hback:∀ ad,(cc.lock (cs.flatMap (vis g'.hp depth))).I ad→c'.I ad∧∀ v,cc.w.cell? ad = some v→c'.w.cell? ad = some v:=by
            intro ad hI
            refine ⟨?_,fun _ h => h⟩
            have hne:ad.block≠(cc.loc b).1:=by
             rcases hI with ⟨h1,_⟩ | ⟨_,_,h3⟩
             ·have h1':ad.block < cc.base:=h1
              omega
             ·intro hEq
              refine h3 (.inl ⟨b,cs,?_,hEq.symm⟩)
              rcases lock_cases cc.hp (cs.flatMap (vis g'.hp depth)) b with h | ⟨hm,_⟩
              ·show Ab.lock _ _ _ = _;rw[h];exact hcb
              ·exact absurd hm hnbm
            rcases (back_I K E _ ad hI).1 with h1 | ⟨h1,h2,h3⟩
            ·exact .inl h1
            ·refine .inr ⟨h1,h2,fun hw => h3 ?_⟩
             rcases hw with ⟨i,ds,hi,hbk⟩ | ⟨i,hi,hbk,hlo⟩
             ·by_cases hie:i = id
              ·subst hie;rw[hls] at hbk;exact absurd hbk.symm hne
              ·rw[show c'.hp i = c.hp i from hhp i hie] at hi;rw[show c'.loc i = c.loc i from hloc i hie] at hbk;exact .inl ⟨i,ds,hi,hbk⟩
             ·by_cases hie:i = id
              ·subst hie;rw[hhs] at hi;cases hi
              ·rw[show c'.hp i = c.hp i from hhp i hie] at hi;rw[show c'.loc i = c.loc i from hloc i hie] at hbk hlo;exact .inr ⟨i,hi,hbk,hlo⟩
           have hr3:=(hr2.move (c':=c') (by show c.num = cc.num;exact E.num.symm) hback).up
           have hlive:∀ i,i≠id→c'.live i→c.live i:=fun i hi ⟨b',hb',hn'⟩ => ⟨b',by rw[←show c'.hp i = c.hp i from hhp i hi];exact hb',hn'⟩
           have Kl:Ok c' g.nx:=by
            refine ⟨Nat.le_trans K.basele hbel.size,?_,?_,?_,?_,?_,K.gl.evo El⟩
            ·intro i ds ro hi
             by_cases hie:i = id
             ·subst hie
              rw[hhs] at hi;cases hi
              rw[hls]
              exact ⟨Nat.le_trans K.basele g1,vs',rs',ty',g2,hr3,frzL_ones depth hfz g4⟩
             ·rw[show c'.hp i = c.hp i from hhp i hie] at hi
              obtain ⟨k1,ws,wr,wt,k2,k3,k4⟩:=K.cells i ds ro hi
              rw[show c'.loc i = c.loc i from hloc i hie]
              exact ⟨k1,ws,wr,wt,by rw[←k2];exact hbel.block _ (Array.getElem?_eq_some_iff.1 k2).1,k3.evo El,k4⟩
            ·intro i es hi
             have hie:i≠id:=fun hie => by subst hie;rw[hhs] at hi;cases hi
             rw[show c'.hp i = c.hp i from hhp i hie] at hi
             obtain ⟨k1,ms,cl,k2,k3,k4⟩:=K.maps i es hi
             rw[show c'.loc i = c.loc i from hloc i hie]
             exact ⟨k1,ms,cl,by rw[←k2];exact hbel.block _ (Array.getElem?_eq_some_iff.1 k2).1,k3,fun j k v en hx hv => ⟨(k4 j k v en hx hv).1,(k4 j k v en hx hv).2.evo El⟩⟩
            ·intro i hi
             have hie:i≠id:=fun hie => by subst hie;rw[hhs] at hi;cases hi
             rw[show c'.hp i = c.hp i from hhp i hie] at hi
             obtain ⟨k1,ws,wt,k2⟩:=K.toks i hi
             rw[show c'.loc i = c.loc i from hloc i hie]
             exact ⟨k1,ws,wt,by rw[←k2];exact hbel.block _ (Array.getElem?_eq_some_iff.1 k2).1⟩
            ·intro i j hij hi hj
             by_cases hie:i = id
             ·have hje:j≠id:=fun h => hij (hie.trans h.symm)
              subst hie
              have:=K.lt (hlive j hje hj)
              rw[hls,show c'.loc j = c.loc j from hloc j hje]
              show (cc.loc b).1≠_
              omega
             ·by_cases hje:j = id
              ·subst hje
               have:=K.lt (hlive i hie hi)
               rw[hls,show c'.loc i = c.loc i from hloc i hie]
               show _≠(cc.loc b).1
               omega
              ·rw[show c'.loc i = c.loc i from hloc i hie,show c'.loc j = c.loc j from hloc j hje]
               exact K.inj i j hij (hlive i hie hi) (hlive j hje hj)
            ·intro i hi
             have hie:i≠id:=by have hi':g.nx≤i:=hi;omega
             rw[show c'.hp i = c.hp i from hhp i hie]
             exact K.fresh i hi
           refine ⟨val,rfl,hK c' val El Kl (by show upd c.hp id _ = upd g.hp id _;rw[hg]) ?_⟩
           rw[hvp]
           have:=Rep.ms (c:=c') id 0 n cap (by rw[hhs];rfl) hcap1 hcap2 (by
            intro ds ro e' hd _ hn' hl' ws wt hw
            rw[hhs] at hd
            cases hd
            rw[hls] at hw
            have hlen:cs'.length = cs.length:=hr2.1.trans g3.1.symm
            exact hMs cs false e' hcb rfl hn' (by omega) ws wt hw)
           rw[hls] at this
           exact this
          ·cases h
         ·cases h
        ·cases h
       ·cases h
   ·cases h
  ·cases h1
 ·cases ho
end
end Go.Ab
end
section
set_option linter.unusedVariables false
set_option linter.unusedSimpArgs false
namespace Go.Ab
open Go.RowKit
theorem Evo.bury {c:Cx} {τ:Nat} {cs:List AV} (ht:c.hp τ = some (.cells cs false)):Evo c (c.kill τ) where
 num:=rfl
 dr:=fun _ => Nat.le_refl _
 base:=rfl
 J:=rfl
 below:=Below.refl _ _
 imm:=fun ad hI => by
  refine ⟨?_,fun v hv => hv⟩
  rcases hI with h1 | ⟨h1,h2,h3⟩
  ·exact .inl h1
  ·refine .inr ⟨h1,h2,fun hw => h3 ?_⟩
   rcases hw with ⟨i,ds,hi,hb⟩ | ⟨i,hi,hb,hlo⟩
   ·by_cases he:i = τ
    ·subst he;simp[Cx.kill,upd] at hi
    ·simp[Cx.kill,upd,he] at hi;exact .inl ⟨i,ds,hi,hb⟩
   ·by_cases he:i = τ
    ·subst he;simp[Cx.kill,upd] at hi
    ·simp[Cx.kill,upd,he] at hi;exact .inr ⟨i,hi,hb,hlo⟩
 ids:=fun i hi => by
  by_cases he:i = τ
  ·subst he;simp[Cx.kill,upd]
  ·exact ⟨by simpa [Cx.kill,upd,he] using hi,rfl⟩
 tok:=fun i hi h => by
  by_cases he:i = τ
  ·subst he;simp[Cx.kill,upd] at h
  ·simp[Cx.kill,upd,he] at h;exact ⟨h,fun vs _ hv => ⟨vs,hv,rfl⟩⟩
 cel:=fun i ds ro hi h => by
  by_cases he:i = τ
  ·subst he;simp[Cx.kill,upd] at h
  ·simp[Cx.kill,upd,he] at h;exact ⟨ds,ro,h,rfl,fun vs _ hv => ⟨vs,hv,Nat.le_refl _⟩⟩
theorem Ok.bury {c:Cx} {nx:Nat} (K:Ok c nx) {τ:Nat} {cs:List AV} (ht:c.hp τ = some (.cells cs false)):Ok (c.kill τ) nx:=by
 have E:=Evo.bury ht
 have hlive:∀ i,(c.kill τ).live i→c.live i:=by
  intro i ⟨b,hb,hn⟩
  by_cases he:i = τ
  ·subst he;exact live_of ht (by simp)
  ·simp[Cx.kill,upd,he] at hb;exact ⟨b,hb,hn⟩
 refine ⟨K.basele,?_,?_,?_,fun i j hij hi hj => K.inj i j hij (hlive i hi) (hlive j hj),?_,K.gl.evo E⟩
 ·intro i ds ro hi
  have he:i≠τ:=fun he => by subst he;simp[Cx.kill,upd] at hi
  simp[Cx.kill,upd,he] at hi
  obtain ⟨g1,vs,rs,ty,g2,g3,g4⟩:=K.cells i ds ro hi
  exact ⟨g1,vs,rs,ty,g2,g3.evo E,g4⟩
 ·intro i es hi
  have he:i≠τ:=fun he => by subst he;simp[Cx.kill,upd] at hi
  simp[Cx.kill,upd,he] at hi
  obtain ⟨g1,ms,cl,g2,g3,g4⟩:=K.maps i es hi
  exact ⟨g1,ms,cl,g2,g3,fun j k v en hx hv => ⟨(g4 j k v en hx hv).1,(g4 j k v en hx hv).2.evo E⟩⟩
 ·intro i hi
  have he:i≠τ:=fun he => by subst he;simp[Cx.kill,upd] at hi
  simp[Cx.kill,upd,he] at hi
  exact K.toks i hi
 ·intro i hi
  have he:i≠τ:=fun he => by subst he;rw[K.fresh i hi] at ht;cases ht
  simpa [Cx.kill,upd,he] using K.fresh i hi
def Cx.ext (c:Cx) (b id:Nat) (cs':List AV) (o:Nat) (us:List Value):Cx:=
 { c with w:=c.w.setCells (c.loc b).1 o us,loc:=upd c.loc id (c.loc b),hp:=upd (upd c.hp b (some (.tok false))) id (some (.cells cs' false)) }
theorem Evo.ext {c:Cx} {nx:Nat} (K:Ok c nx) {b id o:Nat} {cs cs':List AV} {us:List Value} (hb:c.hp b = some (.cells cs false)) (hid:c.hp id = none):Evo c (c.ext b id cs' o us):=by
 have hbi:b≠id:=fun he => by rw[he,hid] at hb;cases hb
 have hsome:∀ i,(c.hp i).isSome→i≠id:=fun i hi he => by rw[he,hid] at hi;cases hi
 refine ⟨rfl,rfl,rfl,below_setCells _ _ _ _ (Below.refl _ _) (K.cells b cs _ hb).1,?_,?_,?_,?_,fun _ => Nat.le_of_eq (drawn_setCells _ _ _ _).symm⟩
 ·intro ad hI
  have hne:ad.block≠(c.loc b).1:=by
   intro he
   rcases hI with ⟨h1,_⟩ | ⟨_,_,h3⟩
   ·have:=(K.cells b cs _ hb).1;omega
   ·exact h3 (.inl ⟨b,cs,hb,he.symm⟩)
  refine ⟨?_,fun v hv => by rw[←hv];exact World.cell?_setCells_out _ _ _ _ _ (fun h => absurd h hne)⟩
  rcases hI with h1 | ⟨h1,h2,h3⟩
  ·exact .inl h1
  ·refine .inr ⟨h1,by show _ < (c.w.setCells _ _ _).heap.size;rw[size_setCells];exact h2,fun hw => h3 ?_⟩
   rcases hw with ⟨i,ds,hi,hbk⟩ | ⟨i,hi,hbk,hlo⟩
   ·by_cases he:i = id
    ·subst he
     simp[Cx.ext,upd] at hbk
     exact absurd hbk.symm hne
    ·by_cases he':i = b
     ·subst he';simp[Cx.ext,upd,he] at hi
     ·simp[Cx.ext,upd,he,he'] at hi hbk;exact .inl ⟨i,ds,hi,hbk⟩
   ·by_cases he:i = id
    ·subst he;simp[Cx.ext,upd] at hi
    ·by_cases he':i = b
     ·subst he';simp[Cx.ext,upd,he] at hi
     ·simp[Cx.ext,upd,he,he'] at hi hbk hlo;exact .inr ⟨i,hi,hbk,hlo⟩
 ·intro i hi
  have he:=hsome i hi
  by_cases he':i = b
  ·subst he';simp[Cx.ext,upd,he]
  ·refine ⟨by simpa [Cx.ext,upd,he,he'] using hi,by simp[Cx.ext,upd,he]⟩
 ·intro i hi h
  have he:=hsome i hi
  by_cases he':i = b
  ·subst he';simp[Cx.ext,upd,he] at h
  ·simp[Cx.ext,upd,he,he'] at h
   refine ⟨h,fun vs ty hv => ⟨vs,?_,rfl⟩⟩
   show (c.w.setCells _ _ _).heap[_]? = _
   rw[heap_setCells_other _ _ _ _ _ (K.inj i b he' (live_of h (by simp)) (live_of hb (by simp)))]
   exact hv
 ·intro i ds ro hi h
  have he:=hsome i hi
  by_cases he':i = b
  ·subst he';simp[Cx.ext,upd,he] at h
  ·simp[Cx.ext,upd,he,he'] at h
   refine ⟨ds,ro,h,rfl,fun vs ty hv => ⟨vs,?_,Nat.le_refl _⟩⟩
   have hv:(c.w.setCells (c.loc b).1 o us).heap[(c.loc i).1]? = _:=hv
   rwa [heap_setCells_other _ _ _ _ _ (K.inj i b he' (live_of h (by simp)) (live_of hb (by simp)))] at hv
theorem Ok.ext {c:Cx} {nx:Nat} (K:Ok c nx) {b id o:Nat} {cs cs':List AV} {us:List Value} (hb:c.hp b = some (.cells cs false)) (hid:c.hp id = none) (hlt:id < nx)
  {vs rs:List Value} {ty:TypeId} (h1:(c.w.setCells (c.loc b).1 o us).heap[(c.loc b).1]? = some (.cells (vs ++ rs).toArray ty (0,0))) (h2:Reps c true cs' vs) (h3:cs'.all Ab.one = true):Ok (c.ext b id cs' o us) nx:=by
 have E:=Evo.ext K (cs':=cs') (o:=o) (us:=us) hb hid
 have hbi:b≠id:=fun he => by rw[he,hid] at hb;cases hb
 have lb:=live_of hb (by simp)
 have hlive:∀ i,(c.ext b id cs' o us).live i→(i = id∨(i≠id∧i≠b∧c.live i)):=by
  intro i ⟨bl,hbl,hn⟩
  by_cases he:i = id
  ·exact .inl he
  ·by_cases he':i = b
   ·subst he';simp[Cx.ext,upd,he] at hbl;exact absurd hbl.symm hn
   ·simp[Cx.ext,upd,he,he'] at hbl;exact .inr ⟨he,he',bl,hbl,hn⟩
 have hne:∀ i bl,i≠b→c.hp i = some bl→bl≠.tok false→(c.ext b id cs' o us).w.heap[(c.loc i).1]? = c.w.heap[(c.loc i).1]?:=fun i bl he' hbl hn =>
  heap_setCells_other _ _ _ _ _ (K.inj i b he' (live_of hbl hn) lb)
 have hl:∀ i,i≠id→(c.ext b id cs' o us).loc i = c.loc i:=fun i he => by simp[Cx.ext,upd,he]
 have hls:(c.ext b id cs' o us).loc id = c.loc b:=by simp[Cx.ext,upd]
 refine ⟨?_,?_,?_,?_,?_,?_,K.gl.evo E⟩
 ·show c.base≤(c.w.setCells _ _ _).heap.size
  rw[size_setCells];exact K.basele
 ·intro i ds ro hi
  by_cases he:i = id
  ·subst he
   simp[Cx.ext,upd] at hi
   obtain ⟨rfl,rfl⟩:=hi
   rw[hls]
   exact ⟨(K.cells b cs _ hb).1,vs,rs,ty,h1,h2.evo E,h3⟩
  ·have he':i≠b:=fun he' => by subst he';simp[Cx.ext,upd,he] at hi
   simp[Cx.ext,upd,he,he'] at hi
   obtain ⟨g1,ws,rs',ty',g2,g3,g4⟩:=K.cells i ds ro hi
   rw[hl i he]
   exact ⟨g1,ws,rs',ty',by rw[←g2];exact hne i _ he' hi (by simp),g3.evo E,g4⟩
 ·intro i es hi
  have he:i≠id:=fun he => by subst he;simp[Cx.ext,upd] at hi
  have he':i≠b:=fun he' => by subst he';simp[Cx.ext,upd,he] at hi
  simp[Cx.ext,upd,he,he'] at hi
  obtain ⟨g1,ms,cl,g2,g3,g4⟩:=K.maps i es hi
  rw[hl i he]
  exact ⟨g1,ms,cl,by rw[←g2];exact hne i _ he' hi (by simp),g3,fun j k v en hx hv => ⟨(g4 j k v en hx hv).1,(g4 j k v en hx hv).2.evo E⟩⟩
 ·intro i hi
  have he:i≠id:=fun he => by subst he;simp[Cx.ext,upd] at hi
  have he':i≠b:=fun he' => by subst he';simp[Cx.ext,upd,he] at hi
  simp[Cx.ext,upd,he,he'] at hi
  obtain ⟨g1,ws,ty',g2⟩:=K.toks i hi
  rw[hl i he]
  exact ⟨g1,ws,ty',by rw[←g2];exact hne i _ he' hi (by simp)⟩
 ·intro i j hij hi hj
  rcases hlive i hi with rfl | ⟨hi1,hi2,hi3⟩
  ·rcases hlive j hj with rfl | ⟨hj1,hj2,hj3⟩
   ·exact absurd rfl hij
   ·rw[hls,hl j hj1];exact fun h => K.inj j b hj2 hj3 lb h.symm
  ·rcases hlive j hj with rfl | ⟨hj1,hj2,hj3⟩
   ·rw[hls,hl i hi1];exact K.inj i b hi2 hi3 lb
   ·rw[hl i hi1,hl j hj1];exact K.inj i j hij hi3 hj3
 ·intro i hi
  have he:i≠id:=by omega
  have he':i≠b:=fun he => by subst he;rw[K.fresh i hi] at hb;cases hb
  simpa [Cx.ext,upd,he,he'] using K.fresh i hi
theorem Rep.ext {c:Cx} {nx:Nat} (K:Ok c nx) {b id o n cap:Nat} {cs cs':List AV} {us:List Value} (hb:c.hp b = some (.cells cs false)) {vs rs:List Value} {ty:TypeId} (h1:(c.w.setCells (c.loc b).1 o us).heap[(c.loc b).1]? = some (.cells (vs ++ rs).toArray ty (0,0)))
  (hc:n≤cap) (hm:cap≤maxLen) (hs:∀ e,1≤n→cs'.length = n * e→cap * e≤(vs ++ rs).length):Rep (c.ext b id cs' o us) true (.ms id 0 n) (.slice (some ⟨(c.loc b).1,0,none⟩) n cap):=by
 have hls:(c.ext b id cs' o us).loc id = c.loc b:=by simp[Cx.ext,upd]
 have hhs:(c.ext b id cs' o us).hp id = some (.cells cs' false):=by simp[Cx.ext,upd]
 have:=Rep.ms (c:=c.ext b id cs' o us) id 0 n cap (by rw[hhs];rfl) hc hm (by
  intro ds ro e hd _ hn hl ws ty' hw
  rw[hhs] at hd
  cases hd
  rw[hls] at hw
  have hw:(c.w.setCells (c.loc b).1 o us).heap[(c.loc b).1]? = _:=hw
  rw[h1] at hw
  cases hw
  have:=hs e hn hl
  simpa using this)
 rwa [hls] at this
section
variable {P:Program} {o:Oper} {a:Act} {c:Cx} {e:Env} {g:G} {al:Nat→Bool} {id:Nat} {r:AV × G}
theorem src_ofM {esz:Nat} {y:AV} {v:Value} {ds:List AV} {m:Nat} (K:Ok c g.nx) (hg:c.hp = g.hp) (hr:Rep c true y v) (h:vSrcM al esz y g = some (ds,m)) (hl:ds.length = m * esz) (hz:0 < esz) {u:TypeId} {el':TypeId} (hu:P.underlying u = some (.slice el')):
  ∃ news:List Value,Src P esz u v m news c.w∧Reps c true ds news:=by
 unfold vSrcM at h
 split at h
 ·rename_i ds' m' tk
  have h0:vSrc al esz (.sl ds' m' tk) g = some (ds,m):=h
  obtain ⟨news,h1,h2⟩:=src_of K hg hr h0 hl hz hu
  exact ⟨news,h1,h2.up⟩
 ·rename_i b off m'
  obtain ⟨cap,rfl,hc,hm,hsome⟩:=rep_ms hr
  split at h
  ·rename_i cs ro hb
   have hb':c.hp b = some (.cells cs ro):=by
    unfold rd at hb;split at hb
    ·rw[hg];exact hb
    ·cases hb
   obtain ⟨_,vs,rs,ty',g2,g3,g4⟩:=K.cells b cs ro hb'
   cases h
   have hreps:=(g3.drop off).take (m * esz)
   refine ⟨(vs.drop off).take (m * esz),?_,hreps⟩
   refine Src.ofSlice (P:=P) c.w hu ⟨(c.loc b).1,off,none⟩ m cap _ (by rw[←hreps.1,hl]) (fun j u hu => ?_) (fun u hu => g3.ones g4 u (List.mem_of_mem_drop (List.mem_of_mem_take hu)))
   rw[List.getElem?_take] at hu
   split at hu
   ·rw[List.getElem?_drop] at hu
    rw[add_mk,cell_of_heap g2,List.getElem?_toArray,List.getElem?_append_left (List.getElem?_eq_some_iff.1 hu).1]
    exact hu
   ·cases hu
  ·cases h
 ·cases h
theorem grown_doesM {o:Oper} {c':Cx} {cs ds:List AV} {olds news:List Value} {n m esz:Nat} {el:TypeId} {zs:Array Value} (E:Evo c c') (K:Ok c' g.nx) (hid:c'.hp id = none) (hlt:id < g.nx)
  (h1:Reps c' true cs olds) (h2:Reps c' true ds news) (h3:(cs ++ ds).all Ab.one = true) (hl:cs.length = n * esz) (hl':ds.length = m * esz) {cap:Nat} (hc:n + m≤cap) (hm:cap≤maxLen) (hzs:zs.size = (cap - (n + m)) * esz)
  (hrun:(execOp a.eval o).run P c.w = .ok (.value (.slice (some ⟨c'.w.heap.size,0,none⟩) (n + m) cap)) (c'.w.alloc (.cells ((olds ++ news).toArray ++ zs) el))):
  Does P o a c (.ms id 0 (n + m),⟨upd c'.hp id (some (.cells (cs ++ ds) false)),g.nx⟩):=by
 have hlen:(cs ++ ds).length = (n + m) * esz:=by rw[List.length_append,hl,hl',Nat.add_mul]
 have hn:NewOk c' (.cells ((olds ++ news).toArray ++ zs) el) (.cells (cs ++ ds) false):=⟨olds ++ news,zs.toList,el,by simp,h1.append h2,h3⟩
 have E2:=Evo.alloc K hid (.cells ((olds ++ news).toArray ++ zs) el) 0 (.cells (cs ++ ds) false)
 refine ⟨_,c'.alloc id (.cells ((olds ++ news).toArray ++ zs) el) 0 (.cells (cs ++ ds) false),_,hrun,.inl rfl,E.trans E2,K.alloc hid hlt hn,rfl,?_⟩
 have hol:(olds ++ news).length = (n + m) * esz:=by rw[←hlen,(h1.append h2).1]
 have:=Rep.ms (c:=c'.alloc id (.cells ((olds ++ news).toArray ++ zs) el) 0 (.cells (cs ++ ds) false)) id 0 (n + m) cap (by rw[hp_alloc_same];rfl) hc hm (MsOk.new fun e' hn' hl'' => by
  rw[hlen] at hl''
  have he:esz = e':=Nat.eq_of_mul_eq_mul_left (by omega) hl''
  subst he
  rw[Array.size_append,hzs]
  simp only[List.size_toArray,hol]
  rw[←Nat.add_mul]
  exact Nat.mul_le_mul_right _ (by omega))
 rwa [loc_alloc_same] at this
theorem s_appM (he:EnvOk c e a) (K:Ok c g.nx) (hg:c.hp = g.hp) (hid:c.hp id = none) (hlt:id < g.nx) {esz bytes:Nat} {x y:Opd} (ho:opB P c.num o.op (.appM esz bytes x y) = true) (h:vAppM al id esz bytes (x.ev e) (y.ev e) g = some r):Does P o a c r:=by
 obtain ⟨dst,op,ty,pos,after,guard⟩:=o
 simp only[opB] at ho
 split at ho
 ·rename_i cl
  obtain ⟨callee,args,argTypes⟩:=cl
  simp only[Bool.and_eq_true] at ho
  obtain ⟨⟨h1,h2⟩,h3⟩:=ho
  split at h1
  ·obtain ⟨p,q,hargs,ho1,ho2⟩:=opds_two h2
   have:=list_two hargs
   subst this
   have r1:=opdB_rep he ho1
   have r2:=opdB_rep he ho2
   split at h3
   ·rename_i t u hty
    have:=list_two hty
    subst this
    split at h3
    ·rename_i el el' hu hu'
     split at h3
     ·rename_i i hi
      simp only[Bool.and_eq_true,beq_iff_eq] at h3
      obtain ⟨⟨rfl,rfl⟩,h3⟩:=h3
      split at h3
      ·rename_i z hz
       simp only[Bool.and_eq_true,beq_iff_eq,decide_eq_true_eq] at h3
       obtain ⟨hzs,hpos⟩:=h3
       have key:∀ w:World,(execOp a.eval { dst:=dst,op:=.call { callee:=.builtin .append,args:=#[p,q],argTypes:=#[t,u] },type:=ty,pos:=pos,after:=after,guard:=guard }).run P w = ((Builtin.append_ #[t,u] ty #[a.eval p,a.eval q]).run P w).andThen fun v w' => .ok (.value v) w':=by
        intro w
        simp[execOp,resolve,invoke,builtin]
       unfold vAppM at h
       split at h
       ·cases h
       ·rename_i ds m hsrc
        split at h
        ·-- nothing yet
         rename_i hx
         rw[hx] at r1
         obtain ⟨ao,cap,ad,vs,hv,hc,hm,hrig,hz',hone,hreps,ha,hk,htok⟩:=rep_sl r1
         split at h
         ·rename_i h0
          obtain ⟨rfl,h02⟩:=h0
          cases h
          obtain ⟨news,S,hnews⟩:=src_ofM K hg r2 hsrc (by rw[h02,Nat.zero_mul]) hpos hu'
          have hn0:news = []:=by
           have:=hnews.1
           rw[h02] at this
           exact List.length_eq_zero_iff.1 this.symm
          subst hn0
          refine Does.quiet K hg (r1.up) ?_
          rw[key,hv,run_append_nothing (P:=P) c.w t u ty el i hu hi ao 0 cap hc (a.eval q) S]
          rfl
         split at h
         ·rename_i hcond
          obtain ⟨c0,c1,c2,c4,c5⟩:=hcond
          cases h
          have hcap:=hrig rfl
          subst hcap
          obtain ⟨news,S,hnews⟩:=src_ofM K hg r2 hsrc c4 hpos hu'
          have hvs:vs = []:=by have:=hreps.1;simp at this;exact List.length_eq_zero_iff.1 this.symm
          subst hvs
          have hold:=firstCells_ab (P:=P) (c:=c) (esz:=i.size) (n:=0) (cap:=0) hz' hreps ha hk (by simp)
          have hgc:=grownCap_le' c.w (0 + m) 0 el (by omega)
          have hfit:Builtin.nextslicecap (0 + m) 0 * i.bytes≤281474976710656:=growslice_fits (by omega) (by rw[Nat.zero_add];omega)
          have hzc:(Builtin.zeroCells z.cells (grownCap c.w (0 + m) 0 el - (0 + m))).size = (grownCap c.w (0 + m) 0 el - (0 + m)) * i.size:=by simp[Builtin.zeroCells,hzs]
          have E:=Evo.drew c
          have:=grown_doesM (P:=P) (a:=a) (c:=c) (g:=g) (id:=id) (cs:=[]) (olds:=[]) (n:=0) (o:={ dst:=dst,op:=.call { callee:=.builtin .append,args:=#[p,q],argTypes:=#[t,u] },type:=ty,pos:=pos,after:=after,guard:=guard }) E K.drew hid hlt Reps.nil (hnews.evo E) (by simpa using c5) (by simp) c4 hgc.1 (by simp only[maxLen];exact hgc.2) hzc (by
           rw[key,hv,run_append_grow_src (P:=P) c.w t u ty el i z hu hi hz ao 0 0 [] hold (a.eval q) m news S (by omega) (by omega) hfit]
           rfl)
          rw[←hg]
          simp only[List.nil_append,Nat.zero_add] at this
          exact this
         ·cases h
        ·rename_i b n hx
         rw[hx] at r1
         obtain ⟨cap,hv,hc,hm,hsome,hms⟩:=rep_ms' r1
         split at h
         ·rename_i cs hb
          have hb':c.hp b = some (.cells cs false):=by
           unfold rd at hb;split at hb
           ·rw[hg];exact hb
           ·cases hb
          split at h
          ·rename_i hcond
           obtain ⟨c0,c0',c1,c2,c3,c4,c5⟩:=hcond
           cases h
           obtain ⟨news,S,hnews⟩:=src_ofM K hg r2 hsrc c4 hpos hu'
           obtain ⟨g1,vs,rs,ty',g2,g3,g4⟩:=K.cells b cs _ hb'
           have hvl:vs.length = n * i.size:=by rw[←g3.1,c3]
           have hnl:news.length = m * i.size:=by rw[←hnews.1,c4]
           have hones:(cs ++ ds).all Ab.one = true:=by rw[List.all_append,g4,c5];rfl
           have hsz:=hms cs false i.size hb' rfl c0 c3 _ _ g2
           simp only[List.size_toArray,List.length_append] at hsz
           have hbid:b≠id:=fun hh => by rw[hh,hid] at hb';cases hb'
           by_cases hroom:n + m≤cap
           ·have hmul:(n + m) * i.size≤cap * i.size:=Nat.mul_le_mul_right _ hroom
            rw[Nat.add_mul] at hmul
            have hrun:=run_append_room_src (P:=P) c.w t u ty el i hu hi (c.loc b).1 0 n cap (a.eval q) m news S hroom (fun j hj => by
             rw[cell_of_heap g2]
             simp;omega) (fun j hj => by simp[World.frozen?,g2])
            have g5:=heap_setCells_same (c.loc b).1 news (0 + n * i.size) c.w _ _ _ g2
            have g6:lset (vs ++ rs) (0 + n * i.size) news = (vs ++ news) ++ rs.drop (m * i.size):=by
             rw[Nat.zero_add,←hvl]
             rw[lset_eq _ _ _ (by rw[List.length_append];omega),List.take_left,←hnl,List.drop_append]
             simp
            rw[g6] at g5
            refine ⟨_,c.ext b id (cs ++ ds) (0 + n * i.size) news,.slice (some ⟨(c.loc b).1,0,none⟩) (n + m) cap,?_,.inl rfl,Evo.ext K hb' hid,K.ext hb' hid hlt g5 (g3.append hnews) hones,by simp[Cx.ext,hg],?_⟩
            ·rw[key,hv,hrun]
             rfl
            ·refine Rep.ext K hb' g5 hroom hm (fun e' hn' hl' => ?_)
             rw[List.length_append,c3,c4,←Nat.add_mul] at hl'
             have he:i.size = e':=Nat.eq_of_mul_eq_mul_left (by omega) hl'
             subst he
             simp only[List.length_append,List.length_drop]
             omega
           ·have hlt':cap < n + m:=by omega
            have hold:(Builtin.firstCells i.size n (.slice (some ⟨(c.loc b).1,0,none⟩) n cap)).run P c.w.drew = .ok vs.toArray c.w.drew:=by
             refine run_firstCells_some c.w.drew i.size n ⟨(c.loc b).1,0,none⟩ n cap vs hvl (fun j u hu => ?_)
             rw[add_mk,Nat.zero_add]
             show c.w.cell? _ = _
             rw[cell_of_heap g2,List.getElem?_toArray,List.getElem?_append_left (List.getElem?_eq_some_iff.1 hu).1]
             exact hu
            have hfit:Builtin.nextslicecap (n + m) cap * i.bytes≤281474976710656:=growslice_fits hlt' (by omega)
            have hgc:=grownCap_le' c.w (n + m) cap el c2
            have hzc:(Builtin.zeroCells z.cells (grownCap c.w (n + m) cap el - (n + m))).size = (grownCap c.w (n + m) cap el - (n + m)) * i.size:=by simp[Builtin.zeroCells,hzs]
            have E:=(Evo.bury hb').trans (Evo.drew (c.kill b))
            have hid':(c.kill b).drew.hp id = none:=by
             show upd c.hp b _ id = none
             rw[upd,if_neg (fun h => hbid h.symm)];exact hid
            have:=grown_doesM (P:=P) (a:=a) (c:=c) (g:=g) (id:=id) (o:={ dst:=dst,op:=.call { callee:=.builtin .append,args:=#[p,q],argTypes:=#[t,u] },type:=ty,pos:=pos,after:=after,guard:=guard }) E (K.bury hb').drew hid' hlt (g3.evo E) (hnews.evo E) hones c3 c4 hgc.1 (by simp only[maxLen];exact hgc.2) hzc (by
             rw[key,hv,run_append_grow_src (P:=P) c.w t u ty el i z hu hi hz _ n cap vs hold (a.eval q) m news S hlt' (by omega) hfit]
             rfl)
            rw[←hg]
            exact this
          ·cases h
         ·cases h
        ·rename_i b k e0 n hx
         rw[hx] at r1
         obtain ⟨cap,hv,hkn,hc,hm,hsome,hms⟩:=rep_mc r1
         split at h
         ·rename_i cs hb
          have hb':c.hp b = some (.cells cs false):=by
           unfold rd at hb;split at hb
           ·rw[hg];exact hb
           ·cases hb
          split at h
          ·rename_i hcond
           obtain ⟨ce,cn,ck,c0',c1,c2,c3,c4,c5⟩:=hcond
           subst ce
           cases h
           obtain ⟨news,S,hnews⟩:=src_ofM K hg r2 hsrc c4 hpos hu'
           obtain ⟨g1,vs,rs,ty',g2,g3,g4⟩:=K.cells b cs _ hb'
           have hvl:vs.length = n * i.size:=by rw[←g3.1,c3]
           have hkl:k * i.size≤n * i.size:=Nat.mul_le_mul_right _ ck
           have hol:(vs.take (k * i.size)).length = k * i.size:=by rw[List.length_take];omega
           have hcl:(cs.take (k * i.size)).length = k * i.size:=by rw[List.length_take];omega
           have hnl:news.length = m * i.size:=by rw[←hnews.1,c4]
           have g3k:=g3.take (k * i.size)
           have hones:(cs.take (k * i.size) ++ ds).all Ab.one = true:=by
            rw[List.all_append,c5,Bool.and_true]
            rw[List.all_eq_true] at g4 ⊢;exact fun v hv => g4 v (List.mem_of_mem_take hv)
           have hsz:=hms cs false hb' c3 _ _ g2
           simp only[List.size_toArray,List.length_append] at hsz
           have hbid:b≠id:=fun hh => by rw[hh,hid] at hb';cases hb'
           by_cases hroom:k + m≤cap
           ·have hmul:(k + m) * i.size≤cap * i.size:=Nat.mul_le_mul_right _ hroom
            rw[Nat.add_mul] at hmul
            have hrun:=run_append_room_src (P:=P) c.w t u ty el i hu hi (c.loc b).1 0 k cap (a.eval q) m news S hroom (fun j hj => by
             rw[cell_of_heap g2]
             simp;omega) (fun j hj => by simp[World.frozen?,g2])
            have g5:=heap_setCells_same (c.loc b).1 news (0 + k * i.size) c.w _ _ _ g2
            have g6:lset (vs ++ rs) (0 + k * i.size) news = (vs.take (k * i.size) ++ news) ++ (vs ++ rs).drop (k * i.size + m * i.size):=by
             rw[Nat.zero_add]
             rw[lset_eq _ _ _ (by rw[List.length_append];omega),List.take_append_of_le_length (by omega),←hnl]
            rw[g6] at g5
            refine ⟨_,c.ext b id (cs.take (k * i.size) ++ ds) (0 + k * i.size) news,.slice (some ⟨(c.loc b).1,0,none⟩) (k + m) cap,?_,.inl rfl,Evo.ext K hb' hid,K.ext hb' hid hlt g5 (g3k.append hnews) hones,by simp[Cx.ext,hg],?_⟩
            ·rw[key,hv,hrun]
             rfl
            ·refine Rep.ext K hb' g5 hroom hm (fun e' hn' hl' => ?_)
             rw[List.length_append,hcl,c4,←Nat.add_mul] at hl'
             have he:i.size = e':=Nat.eq_of_mul_eq_mul_left (by omega) hl'
             subst he
             simp only[List.length_append,List.length_drop,hol]
             omega
           ·have hlt':cap < k + m:=by omega
            have hold:(Builtin.firstCells i.size k (.slice (some ⟨(c.loc b).1,0,none⟩) k cap)).run P c.w.drew = .ok (vs.take (k * i.size)).toArray c.w.drew:=by
             refine run_firstCells_some c.w.drew i.size k ⟨(c.loc b).1,0,none⟩ k cap (vs.take (k * i.size)) hol (fun j u hu => ?_)
             rw[add_mk,Nat.zero_add]
             show c.w.cell? _ = _
             rw[List.getElem?_take] at hu
             split at hu
             ·rw[cell_of_heap g2,List.getElem?_toArray,List.getElem?_append_left (List.getElem?_eq_some_iff.1 hu).1]
              exact hu
             ·cases hu
            have hfit:Builtin.nextslicecap (k + m) cap * i.bytes≤281474976710656:=growslice_fits hlt' (by omega)
            have hgc:=grownCap_le' c.w (k + m) cap el c2
            have hzc:(Builtin.zeroCells z.cells (grownCap c.w (k + m) cap el - (k + m))).size = (grownCap c.w (k + m) cap el - (k + m)) * i.size:=by simp[Builtin.zeroCells,hzs]
            have E:=(Evo.bury hb').trans (Evo.drew (c.kill b))
            have hid':(c.kill b).drew.hp id = none:=by
             show upd c.hp b _ id = none
             rw[upd,if_neg (fun h => hbid h.symm)];exact hid
            have:=grown_doesM (P:=P) (a:=a) (c:=c) (g:=g) (id:=id) (o:={ dst:=dst,op:=.call { callee:=.builtin .append,args:=#[p,q],argTypes:=#[t,u] },type:=ty,pos:=pos,after:=after,guard:=guard }) E (K.bury hb').drew hid' hlt (g3k.evo E) (hnews.evo E) hones hcl c4 hgc.1 (by simp only[maxLen];exact hgc.2) hzc (by
             rw[key,hv,run_append_grow_src (P:=P) c.w t u ty el i z hu hi hz _ k cap _ hold (a.eval q) m news S hlt' (by omega) hfit]
             rfl)
            rw[←hg]
            exact this
          ·cases h
         ·cases h
        ·cases h
      ·cases h3
     ·cases h3
    ·cases h3
   ·cases h3
  ·cases h1
 ·cases ho
theorem s_cutM (he:EnvOk c e a) (K:Ok c g.nx) (hg:c.hp = g.hp) (hid:c.hp id = none) (hlt:id < g.nx) {esz:Nat} {x hi:Opd} (ho:opB P c.num o.op (.cutM esz x hi) = true) (h:vCutM al id esz (x.ev e) (hi.ev e) g = some r):Does P o a c r:=by
 obtain ⟨dst,op,ty,pos,after,guard⟩:=o
 simp only[opB] at ho
 split at ho
 ·rename_i t y hh
  simp only[Bool.and_eq_true] at ho
  obtain ⟨⟨h1,h2⟩,h3⟩:=ho
  have r1:=opdB_rep he h2
  have r2:=opdB_rep he h3
  split at h1
  ·rename_i el hu
   obtain ⟨inf,hinf,hs⟩:=sizeB_some h1
   unfold vCutM at h
   split at h
   ·rename_i b n kk k hx hy
    rw[hx] at r1
    rw[hy] at r2
    obtain ⟨cap,hv,hc,hm,hsome,hms⟩:=rep_ms' r1
    have hv2:=rep_i r2
    split at h
    ·rename_i cs hb
     have hb':c.hp b = some (.cells cs false):=by
      unfold rd at hb;split at hb
      ·rw[hg];exact hb
      ·cases hb
     split at h
     ·rename_i hcond
      obtain ⟨c0,c1,c2,c3⟩:=hcond
      cases h
      obtain ⟨g1,vs,rs,ty',g2,g3,g4⟩:=K.cells b cs _ hb'
      have e2:(k.toNat:Int) = k:=Int.toNat_of_nonneg c0
      have hkn:k.toNat≤n:=by omega
      have hsz:=hms cs false esz hb' rfl c2 c3 _ _ g2
      have hvl:vs.length = n * esz:=by rw[←g3.1,c3]
      have hkm:k.toNat * esz≤n * esz:=Nat.mul_le_mul_right _ hkn
      have g5:(c.w.setCells (c.loc b).1 0 []).heap[(c.loc b).1]? = some (.cells (vs.take (k.toNat * esz) ++ (vs.drop (k.toNat * esz) ++ rs)).toArray ty' (0,0)):=by
       rw[←List.append_assoc,List.take_append_drop];exact g2
      refine ⟨_,c.ext b id (cs.take (k.toNat * esz)) 0 [],.slice (some ⟨(c.loc b).1,0,none⟩) k.toNat cap,?_,.inl rfl,Evo.ext K hb' hid,K.ext hb' hid hlt g5 (g3.take _) (by
       rw[List.all_eq_true] at g4 ⊢;exact fun v hv => g4 v (List.mem_of_mem_take hv)),by simp[Cx.ext,hg],?_⟩
      ·have hx2:a.eval hh = .int kk k:=hv2
       have ht:(k.toNat:Int) = k:=e2
       rcases bnd_run (P:=P) (w:=c.w) (y:=cap) (dflt:=n) (oo:=some hh) (oy:=some hi) (z:=k) he (by simpa [opdO] using h3) (by simp[evo,hy,bnd]) (by omega) (by omega) .sliceAcap with ⟨h0,_⟩ | ⟨x2,k2,h0,hx2,hr2⟩
       ·cases h0
       ·cases h0
        simp[execOp,hv,Instr.sliceAt,Instr.slice,Instr.sliceBounds,run_underlying hu,sizeOf,typeInfo,hinf,hs,hx2,hr2]
        exact ⟨fun _ => by simp[Addr.add],rfl⟩
      ·refine Rep.ext K hb' g5 (by omega) hm (fun e' hn' hl' => ?_)
       rw[List.length_take,Nat.min_eq_left (by omega)] at hl'
       have he:esz = e':=Nat.eq_of_mul_eq_mul_left (by omega) hl'
       subst he
       rw[←List.append_assoc,List.take_append_drop]
       simpa using hsz
     ·cases h
    ·cases h
   ·cases h
  ·cases h1
 ·cases ho
end
end Go.Ab
end
section
set_option linter.unusedVariables false
set_option linter.unusedSimpArgs false
namespace Go.Ab
open Go.RowKit
section
variable {P:Program} {o:Oper} {a:Act} {c:Cx} {e:Env} {g:G} {al:Nat→Bool} {r:AV × G}
theorem s_clr (he:EnvOk c e a) (K:Ok c g.nx) (hg:c.hp = g.hp) {esz:Nat} {zero:List AV} {x:Opd} (ho:opB P c.num o.op (.clr esz zero x) = true) (h:vClr al esz zero (x.ev e) g = some r):Does P o a c r:=by
 obtain ⟨dst,op,ty,pos,after,guard⟩:=o
 simp only[opB] at ho
 split at ho
 ·rename_i cl
  obtain ⟨callee,args,argTypes⟩:=cl
  simp only[Bool.and_eq_true] at ho
  obtain ⟨h1,h2⟩:=ho
  split at h1
  ·split at h2
   ·rename_i y t ha ht
    have ha':=list_one ha
    have ht':=list_one ht
    subst ha' ht'
    simp only[Bool.and_eq_true] at h2
    obtain ⟨h3,h4⟩:=h2
    have hr:=opdB_rep he h3
    split at h4
    ·rename_i el hu
     simp only[Bool.and_eq_true] at h4
     obtain ⟨h5,h6⟩:=h4
     obtain ⟨i,z,hi,hz,hc,hs⟩:=zeroB_some h5
     rw[hi] at h6
     simp only[Bool.and_eq_true,beq_iff_eq,decide_eq_true_eq] at h6
     obtain ⟨h6,h8⟩:=h6
     unfold vClr at h
     split at h
     ·rename_i b off n hx
      rw[hx] at hr
      obtain ⟨cap,hv,_⟩:=rep_ms hr
      split at h
      ·rename_i cs hb
       have hb':c.hp b = some (.cells cs false):=by
        unfold rd at hb;split at hb
        ·rw[hg];exact hb
        ·cases hb
       split at h
       ·rename_i hcnd
        obtain ⟨c0,c1,c2⟩:=hcnd
        cases h
        have hzr:=constsB_rep hc c true
        have hzs:z.cells.size = esz:=by
         have:=hzr.1
         simp only[Array.length_toList] at this
         omega
        have hcells:(Builtin.zeroCells z.cells n).toList = (List.replicate n z.cells.toList).flatten:=by
         unfold Builtin.zeroCells
         have:=flatten_range z.cells.toList (by rw[Array.length_toList];omega) n
         rw[Array.length_toList] at this
         simp only[Array.toList_map,Array.toList_range]
         rw[←this]
         apply List.map_congr_left
         intro j _
         simp[getElem!_def]
        have hq:Reps c true (List.replicate n zero).flatten (List.replicate n z.cells.toList).flatten:=Reps.replicate hzr _
        have hone:=all_flatten (constsB_one hc) n
        have hlen:(List.replicate n zero).flatten.length = n * esz:=by simp[c1]
        obtain ⟨_,vs,rs,ty',g2,g3,_⟩:=K.cells b cs _ hb'
        have hst:=run_storeCells_cells (P:=P) (c.loc b).1 off (List.replicate n z.cells.toList).flatten 0 c.w (fun j hj => by
          rw[cell_of_heap g2]
          have h9:=g3.1
          rw[←hq.1,hlen] at hj
          simp
          omega) (fun j hj => by simp[World.frozen?,g2]) (hq.ones hone)
        refine ⟨.value (.tuple #[]),c.store b off cs (List.replicate n zero).flatten (List.replicate n z.cells.toList).flatten,.tuple #[],?_,.inl rfl,Evo.store K hb' (by omega),K.store hb' hq (by omega) hone,by simp[Cx.store,hg],.tup [] rfl (fun j x v h => by simp at h)⟩
        obtain ⟨n,rfl⟩:∃ m,n = m + 1:=⟨n - 1,by omega⟩
        simp only[Nat.add_zero] at hst
        rw[←hcells] at hst ⊢
        simp[execOp,hv,resolve,invoke,builtin,Builtin.clear_,run_underlying hu,zeroValue,typeInfo,hi,hz,hst,Cx.store]
       ·cases h
      ·cases h
     ·cases h
    ·cases h4
   ·cases h2
  ·cases h1
 ·cases ho
end
end Go.Ab
end
section
set_option linter.unusedVariables false
set_option linter.unusedSimpArgs false
namespace Go.Ab
open Go.RowKit
section
variable {P:Program} {a:Act} {c:Cx} {e:Env} {g:G} {al:Nat→Bool} {lo id:Nat} {r:AV × G} {call:CS}
theorem op_sim {o:Oper} {ao:AOp} (hcall:CallOk P c.num call) (he:EnvOk c e a) (K:Ok c g.nx) (hg:c.hp = g.hp) (hid:c.hp id = none) (hlt:id < g.nx) (ho:opB P c.num o.op ao = true) (h:opE call al lo id ao e g = some r):DoesWp P o a c r:=by
 cases ao with
 | mv x => exact (s_mv he K hg ho h).wp
 | pick x y z => exact (s_pick he K hg ho h).wp
 | new z => exact (s_new he K hg hid hlt ho h).wp
 | box x => exact (s_box he K hg hid hlt ho h).wp
 | boxI x => exact (s_boxI he K hg ho h).wp
 | build z ps => exact (s_build he K hg ho h).wp
 | bsl imm n z ps => exact (s_bsl he K hg hid hlt ho h).wp
 | ld agg x => exact (s_ld he K hg ho h).wp
 | st n x y => exact (s_st he K hg ho h).wp
 | ldF agg x => exact (s_ldF he K hg ho h).wp
 | ldQ agg x t => exact (s_ldQ he K hg ho h).wp
 | stN n x y ts => exact (s_stN he K hg ho h).wp
 | stW n x y => exact (s_stW he K hg ho h).wp
 | stL n x y => exact (s_stL he K hg ho h).wp
 | nilck x => exact (s_nilck he K hg ho h).wp
 | bin op x y => exact (s_bin he K hg ho h).wp
 | eqb neg x y => exact (s_eqb he K hg ho h).wp
 | eqn neg x y => exact (s_eqn he K hg ho h).wp
 | eqs neg x => exact (s_eqs he K hg ho h).wp
 | eqa neg ks x y => exact (s_eqa he K hg ho h).wp
 | un op x => exact (s_un he K hg ho h).wp
 | conv k x => exact (s_conv he K hg ho h).wp
 | mkfn f a b => exact (s_mkfn he K hg ho h).wp
 | mkmap => exact (s_mkmap K hg hid hlt ho h).wp
 | mput m k v => exact (s_mput he K hg ho h).wp
 | mget m k => exact (s_mget he K hg ho h).wp
 | mksl z esz b l cp => exact (s_mksl he K hg hid hlt ho h).wp
 | slice esz x l hh m => exact (s_slice he K hg ho h).wp
 | sslice x l hh => exact (s_sslice he K hg ho h).wp
 | fa off x => exact (s_fa he K hg ho h).wp
 | fld off agg x => exact (s_fld he K hg ho h).wp
 | ia esz x i => exact (s_ia he K hg ho h).wp
 | iaa len esz x i => exact (s_iaa he K hg ho h).wp
 | idx len esz agg x i => exact (s_idx he K hg ho h).wp
 | sidx x i => exact (s_sidx he K hg ho h).wp
 | ext i x => exact (s_ext he K hg ho h).wp
 | len x => exact (s_len he K hg ho h).wp
 | slen x => exact (s_slen he K hg ho h).wp
 | mx x y => exact (s_mx he K hg ho h).wp
 | mn x y => exact (s_mn he K hg ho h).wp
 | app esz b x y => exact (s_app he K hg hid hlt ho h).wp
 | appM esz b x y => exact (s_appM he K hg hid hlt ho h).wp
 | cutM esz x y => exact (s_cutM he K hg hid hlt ho h).wp
 | clr esz z x => exact (s_clr he K hg ho h).wp
 | bad => cases h
 | call m f args => exact s_call hcall he K hg hid hlt ho h
end
def Keep (g g':G) (id:Nat):Prop:=g.nx≤g'.nx∧∀ i,i < g.nx→i≠id→g.hp i = none→g'.hp i = none
theorem keep_refl (g:G) (id:Nat):Keep g g id:=⟨Nat.le_refl _,fun _ _ _ h => h⟩
theorem keep_upd (g:G) (id:Nat) (b:Option Blk):Keep g ⟨upd g.hp id b,g.nx⟩ id:=⟨Nat.le_refl _,fun i _ hi h => by show upd _ _ _ _ = _;rw[upd,if_neg hi];exact h⟩
theorem keep_old {g:G} {id j:Nat} {b b':Blk} (hj:g.hp j = some b):Keep g ⟨upd g.hp j (some b'),g.nx⟩ id:=⟨Nat.le_refl _,fun i _ hi h => by
 show upd _ _ _ _ = _
 by_cases hij:i = j
 ·subst hij;rw[hj] at h;cases h
 ·rw[upd,if_neg hij];exact h⟩
theorem rd_g {g:G} {al:Nat→Bool} {i:Nat} {b:Blk} (h:rd g al i = some b):g.hp i = some b:=by
 unfold rd at h;split at h
 ·exact h
 ·cases h
theorem keep_map {g:G} {id:Nat} {o:Option AV} {r:AV × G} (h:vMap g o = some r):Keep g r.2 id:=by
 cases o with
 | none => cases h
 | some v => cases h;exact keep_refl _ _
theorem keep_mapL {g:G} {id:Nat} {f} {o:Option (List AV)} {r:AV × G} (h:vMapL f g o = some r):Keep g r.2 id:=by
 cases o with
 | none => cases h
 | some v => cases h;exact keep_refl _ _
def CallKeep (call:CS):Prop:=∀ f asx g v g',call f asx g = some (v,g')→g.nx≤g'.nx∧∀ i,i < g.nx→g.hp i = none→g'.hp i = none
theorem lock_none {hp:Nat→Option Blk} {ids:List Nat} {i:Nat} (h:hp i = none):lock hp ids i = none:=by
 rcases lock_cases hp ids i with h' | ⟨_,cs,ro,h1,_⟩
 ·rw[h'];exact h
 ·rw[h] at h1;cases h1
theorem opE_keep {call:CS} (hk:CallKeep call) {al:Nat→Bool} {lo id:Nat} {ao:AOp} {e:Env} {g:G} {r:AV × G} (h:opE call al lo id ao e g = some r):Keep g r.2 id:=by
 have kst:∀ {al' n x y},vSt al' n x y g = some r→Keep g r.2 id:=by
  intro al' n x y h
  unfold vSt at h
  split at h
  ·split at h
   ·rename_i hb
    split at h
    ·cases h;exact keep_old (rd_g hb)
    ·cases h
   ·cases h
  ·cases h
 cases ao<;>simp only[opE] at h
 case mv => cases h;exact keep_refl _ _
 case pick => unfold vPick at h;split at h<;>first | (cases h;exact keep_refl _ _) | cases h
 case new => cases h;exact keep_upd _ _ _
 case box => unfold vBox at h;split at h<;>first | (cases h;exact keep_upd _ _ _) | cases h
 case boxI => unfold vBoxI at h;split at h<;>first | exact keep_mapL h | cases h
 case build => exact keep_mapL h
 case bsl =>
  unfold vBsl at h
  split at h
  ·cases h
  ·split at h
   ·exact keep_mapL h
   ·cases h;exact keep_upd _ _ _
 case ld =>
  unfold vLd at h
  split at h
  ·exact keep_map h
  ·split at h
   ·exact keep_map h
   ·cases h
  ·cases h
 case st => exact kst h
 case stW => exact kst h
 case stN =>
  unfold vStN at h
  split at h
  ·exact kst h
  ·cases h
 case ldQ =>
  unfold vLdQ at h
  split at h
  ·split at h
   ·split at h
    ·exact keep_map h
    ·cases h
   ·cases h
  ·cases h
 case ldF =>
  unfold vLdF at h
  split at h
  ·exact keep_map h
  ·split at h
   ·exact keep_map h
   ·cases h
  ·cases h
 case stL => exact kst h
 case nilck => unfold vNil at h;split at h<;>first | (cases h;exact keep_refl _ _) | cases h
 case bin => exact keep_map h
 case eqb => exact keep_map h
 case eqn => exact keep_map h
 case eqs => exact keep_map h
 case eqa => exact keep_map h
 case un => exact keep_map h
 case conv => unfold vConv at h;split at h<;>first | (cases h;exact keep_refl _ _) | cases h
 case mkfn => cases h;exact keep_refl _ _
 case mkmap => cases h;exact keep_upd _ _ _
 case mput =>
  unfold vMput at h
  split at h
  ·split at h
   ·rename_i hb
    split at h
    ·split at h
     ·cases h;exact keep_old (rd_g hb)
     ·cases h
    ·cases h
   ·cases h
  ·cases h
 case mget =>
  unfold vMget at h
  split at h
  ·split at h
   ·exact keep_map h
   ·cases h
  ·cases h
 case mksl =>
  unfold vMksl at h
  split at h
  ·split at h
   ·split at h
    ·cases h;exact keep_upd _ _ _
    ·split at h
     ·cases h;exact keep_upd _ _ _
     ·cases h
   ·cases h
  ·cases h
 case slice =>
  unfold vSlice at h
  split at h
  ·split at h
   ·split at h<;>first | (cases h;exact keep_refl _ _) | cases h
   ·split at h<;>first | (cases h;exact keep_refl _ _) | cases h
   ·cases h
  ·split at h
   ·split at h<;>first | (cases h;exact keep_refl _ _) | cases h
   ·split at h<;>first | (cases h;exact keep_refl _ _) | cases h
   ·cases h
  ·cases h
 case sslice =>
  unfold vSslice at h
  split at h
  ·split at h
   ·split at h<;>first | (cases h;exact keep_refl _ _) | cases h
   ·cases h
  ·cases h
 case fa =>
  unfold vFa at h
  split at h
  ·split at h<;>first | (cases h;exact keep_refl _ _) | cases h
  ·cases h;exact keep_refl _ _
  ·cases h
 case fld => unfold vFld at h;split at h<;>first | exact keep_map h | cases h
 case ia =>
  unfold vIa at h
  split at h
  ·split at h<;>first | (cases h;exact keep_refl _ _) | cases h
  ·split at h<;>first | (cases h;exact keep_refl _ _) | cases h
  ·cases h
 case iaa =>
  unfold vIaa at h
  split at h
  ·split at h<;>first | (cases h;exact keep_refl _ _) | cases h
  ·split at h<;>first | (cases h;exact keep_refl _ _) | cases h
  ·cases h
 case idx =>
  unfold vIdx at h
  split at h
  ·split at h<;>first | exact keep_map h | cases h
  ·cases h
 case sidx =>
  unfold vSidx at h
  split at h
  ·split at h<;>first | (cases h;exact keep_refl _ _) | cases h
  ·cases h
 case ext => unfold vExt at h;split at h<;>first | exact keep_map h | cases h
 case len => unfold vLen at h;split at h<;>first | (cases h;exact keep_refl _ _) | cases h
 case slen => unfold vSlen at h;split at h<;>first | (cases h;exact keep_refl _ _) | cases h
 case mx => unfold vMx at h;split at h<;>first | (cases h;exact keep_refl _ _) | cases h
 case mn => unfold vMn at h;split at h<;>first | (cases h;exact keep_refl _ _) | cases h
 case app =>
  unfold vApp at h
  split at h
  ·split at h
   ·cases h
   ·split at h
    ·split at h
     ·cases h
     ·split at h
      ·cases h;exact keep_refl _ _
      ·cases h;exact keep_upd _ _ _
     ·split at h
      ·rename_i htk
       split at h
       ·cases h
        refine ⟨Nat.le_refl _,fun i _ hi hn => ?_⟩
        show upd _ _ _ _ = _
        rw[upd,if_neg hi,upd]
        split
        ·rename_i hit;subst hit;rw[rd_g htk] at hn;cases hn
        ·exact hn
       ·cases h
      ·cases h
    ·cases h
  ·cases h
 case appM =>
  unfold vAppM at h
  split at h
  ·cases h
  ·split at h
   ·split at h
    ·cases h;exact keep_refl _ _
    split at h
    ·cases h;exact keep_upd _ _ _
    ·cases h
   ·split at h
    ·rename_i hb
     split at h
     ·cases h
      refine ⟨Nat.le_refl _,fun i _ hi hn => ?_⟩
      show upd _ _ _ _ = _
      rw[upd,if_neg hi,upd]
      split
      ·rename_i hit;subst hit;rw[rd_g hb] at hn;cases hn
      ·exact hn
     ·cases h
    ·cases h
   ·split at h
    ·rename_i hb
     split at h
     ·cases h
      refine ⟨Nat.le_refl _,fun i _ hi hn => ?_⟩
      show upd _ _ _ _ = _
      rw[upd,if_neg hi,upd]
      split
      ·rename_i hit;subst hit;rw[rd_g hb] at hn;cases hn
      ·exact hn
     ·cases h
    ·cases h
   ·cases h
 case clr =>
  unfold vClr at h
  split at h
  ·split at h
   ·rename_i hb
    split at h
    ·cases h;exact keep_old (rd_g hb)
    ·cases h
   ·cases h
  ·cases h
 case cutM =>
  unfold vCutM at h
  split at h
  ·split at h
   ·rename_i hb
    split at h
    ·cases h
     refine ⟨Nat.le_refl _,fun i _ hi hn => ?_⟩
     show upd _ _ _ _ = _
     rw[upd,if_neg hi,upd]
     split
     ·rename_i hit;subst hit;rw[rd_g hb] at hn;cases hn
     ·exact hn
    ·cases h
   ·cases h
  ·cases h
 case bad => cases h
 case call =>
  rename_i m f args
  unfold vCall at h
  split at h
  ·cases m with
   | raw =>
     obtain ⟨h1,h2⟩:=hk _ _ _ r.1 r.2 h
     exact ⟨h1,fun i hi _ hn => h2 i hi hn⟩
   | see =>
     simp only at h
     obtain ⟨g',hc,h3,hkp⟩:=seeR_inv h
     obtain ⟨h1,h2⟩:=hk _ _ _ r.1 g' hc
     rw[h3]
     exact ⟨h1,fun i hi _ hn => h2 i hi hn⟩
   | pure =>
     simp only at h
     split at h
     ·cases h
     ·split at h
      ·cases h
      ·split at h
       ·cases h
       ·split at h<;>first | (cases h;exact keep_refl _ _) | cases h
   | lock =>
     simp only at h
     split at h
     ·cases h
     ·split at h
      ·cases h
      ·split at h
       ·cases h
       ·cases h
        exact ⟨Nat.le_refl _,fun i _ _ hn => lock_none hn⟩
   | thaw =>
     simp only at h
     split at h
     ·cases h
     ·split at h
      ·split at h
       ·split at h
        ·split at h<;>first | (cases h;exact keep_upd _ _ _) | cases h
        ·cases h
       ·cases h
      ·cases h
   | melt =>
     simp only at h
     split at h
     ·cases h
     ·split at h
      ·split at h
       ·split at h
        ·split at h<;>first | (cases h;exact keep_upd _ _ _) | cases h
        ·cases h
       ·cases h
      ·cases h
  ·cases h
end Go.Ab
end
section
set_option linter.unusedVariables false
set_option linter.unusedSimpArgs false
namespace Go.Ab
open Go.RowKit
def dstB (N:Nat):Option Nat→Bool
 | none => true
 | some d => decide (d < N)
def grdB (N:Nat) (ops:Array Oper):Option (Nat × Bool)→Option (Nat × Bool)→Bool
 | none,none => true
 | some (j,w),some (t,w') => ((ops[j]?).bind (·.dst) == some t) && (w == w') && decide (t < N)
 | _,_ => false
def operB (P:Program) (nm:Nat→Nat) (N:Nat) (ops:Array Oper) (o:Oper) (ao:AOper):Bool:=
 opB P nm o.op ao.op && (ao.dst == o.dst) && dstB N o.dst && grdB N ops o.guard ao.grd
def opersB (P:Program) (nm:Nat→Nat) (N:Nat) (ops:Array Oper):List Oper→List AOper→Bool
 | [],[] => true
 | o :: os,ao :: aos => operB P nm N ops o ao && opersB P nm N ops os aos
 | _,_ => false
structure St (N:Nat) (c:Cx) (e:Env) (g:G) (a:Act):Prop where
 env:EnvOk c e a
 ok:Ok c g.nx
 hp:c.hp = g.hp
 size:N≤a.tmps.size
 defers:a.defers = []
theorem put_size (a:Act) (d:Option Nat) (v:Value):(a.put d v).tmps.size = a.tmps.size:=by cases d<;>simp[Act.put]
theorem put_defers' (a:Act) (d:Option Nat) (v:Value):(a.put d v).defers = a.defers:=by cases d<;>rfl
theorem EnvOk.put {c:Cx} {e:Env} {a:Act} (h:EnvOk c e a) {d:Option Nat} {x:AV} {v:Value} (hd:dstB a.tmps.size d = true) (hr:Rep c true x v):EnvOk c (Ab.put e d x) (a.put d v):=by
 intro t
 cases d with
 | none => exact h t
 | some d =>
   simp only[dstB,decide_eq_true_eq] at hd
   simp only[Ab.put,upd,Act.put]
   by_cases ht:t = d
   ·subst ht
    rw[if_pos rfl]
    simpa [Array.getD_eq_getD_getElem?,Array.getElem?_setIfInBounds_self_of_lt hd] using hr
   ·rw[if_neg ht]
    have:=h t
    simp only[Array.getD_eq_getD_getElem?] at this ⊢
    rwa [Array.getElem?_setIfInBounds_ne (fun h => ht h.symm)]
theorem dstB_le {N M:Nat} (h:N≤M) {d:Option Nat} (hd:dstB N d = true):dstB M d = true:=by
 cases d with
 | none => rfl
 | some d => simp only[dstB,decide_eq_true_eq] at hd ⊢;omega
theorem St.step {N:Nat} {c c':Cx} {e:Env} {g g':G} {a:Act} (S:St N c e g a) (E:Evo c c') (K:Ok c' g'.nx) (hh:c'.hp = g'.hp) {d:Option Nat} {x:AV} {v:Value} (hd:dstB N d = true) (hr:Rep c' true x v):St N c' (Ab.put e d x) g' (a.put d v):=
 ⟨(S.env.evo E).put (dstB_le S.size hd) hr,K,hh,by rw[put_size];exact S.size,by rw[put_defers'];exact S.defers⟩
theorem wanted_eq {N:Nat} {c:Cx} {e:Env} {g:G} {a:Act} (S:St N c e g a) {ops:Array Oper} {o:Oper} {grd:Option (Nat × Bool)} (h:grdB N ops o.guard grd = true):wanted e grd = Region.wanted o (yielded ops a.tmps):=by
 unfold grdB at h
 unfold Region.wanted
 split at h
 ·rename_i h1
  rw[h1]
  rfl
 ·rename_i j w t w' h1
  rw[h1]
  simp only[Bool.and_eq_true,beq_iff_eq,decide_eq_true_eq] at h
  obtain ⟨⟨h2,rfl⟩,h3⟩:=h
  simp only[yielded,h2,Option.bind_some]
  have hr:=S.env t
  have hlt:t < a.tmps.size:=Nat.lt_of_lt_of_le h3 S.size
  rw[Array.getD_eq_getD_getElem?,Array.getElem?_eq_getElem hlt] at hr
  simp only[Option.getD_some] at hr
  rw[Array.getElem?_eq_getElem hlt]
  generalize a.tmps[t] = v at hr
  cases he:e t with
  | b x =>
    rw[he] at hr
    cases hr
    simp[wanted,he]
  | _ =>
    simp only[wanted,he]
    rw[he] at hr
    cases hr<;>first | (simp;done) | (rename_i hb;exact absurd rfl (hb _)) | (rename_i hb;simp[hb])
 ·cases h
noncomputable def opStep (call:CS) (draw:Bool) (base j:Nat) (o:AOper) (e:Env) (g:G):Option (Env × G):=
 if wanted e o.grd then
  match opE call (allow draw base o.pre) base (base + j) o.op e g with
  | some (v,g') => some (put e o.dst v,g')
  | none => none
 else some (put e o.dst .undef,g)
theorem regE_step (call:CS) (draw:Bool) (base j:Nat) (o:AOper) (os:List AOper) (e:Env) (g:G):regE call draw base j (o :: os) e g = (match opStep call draw base j o e g with | some (e',g') => regE call draw base (j + 1) os e' g' | none => none):=by
 simp only[regE,opStep]
 by_cases h:wanted e o.grd = true
 ·rw[if_pos h,if_pos h]
  cases opE call (allow draw base o.pre) base (base + j) o.op e g with
  | none => rfl
  | some r => rfl
 ·rw[if_neg h,if_neg h]
section
variable {P:Program} {call:CS} {N:Nat}
theorem opStep_wp {c:Cx} {e e':Env} {g g':G} {a:Act} (hcall:CallOk P c.num call) (S:St N c e g a) {ops:Array Oper} {j:Nat} {o:Oper} {ao:AOper} (hj:ops[j]? = some o) (ho:operB P c.num N ops o ao = true) {draw:Bool} {base:Nat}
  (hfree:g.hp (base + j) = none) (hlt:base + j < g.nx) (h:opStep call draw base j ao e g = some (e',g')) {K:Act→World→Prop} {Q:Exit→Act→World→Prop} (hK:∀ c' a',Evo c c'→St N c' e' g' a'→K a' c'.w):wpOp P ops Q j K a c.w:=by
 simp only[operB,Bool.and_eq_true,beq_iff_eq] at ho
 obtain ⟨⟨⟨h1,h2⟩,h3⟩,h4⟩:=ho
 have hw:=wanted_eq S h4
 unfold wpOp
 rw[hj]
 simp only
 unfold opStep at h
 by_cases hwt:wanted e ao.grd = true
 ·rw[if_pos hwt] at h
  rw[←hw,if_pos hwt]
  split at h
  ·rename_i v g1 hop
   cases h
   refine .inl (op_sim hcall S.env S.ok S.hp (by rw[S.hp];exact hfree) hlt h1 hop K Q (fun c' val E Kk hh hr => ?_))
   have hd:dstB N ao.dst = true:=by rw[h2];exact h3
   have:=hK c' _ E (S.step E Kk hh hd hr)
   rwa [h2] at this
  ·cases h
 ·rw[if_neg hwt] at h
  cases h
  have hwf:wanted e ao.grd = false:=by simpa using hwt
  rw[←hw,hwf]
  simp only[Bool.false_eq_true,if_false]
  have hd:dstB N ao.dst = true:=by rw[h2];exact h3
  have:=hK c _ (Evo.refl c) (S.step (Evo.refl c) S.ok S.hp hd Rep.undef0)
  rwa [h2] at this
theorem opStep_keep (hk:CallKeep call) {draw:Bool} {base j:Nat} {o:AOper} {e e':Env} {g g':G} (h:opStep call draw base j o e g = some (e',g')):Keep g g' (base + j):=by
 unfold opStep at h
 split at h
 ·split at h
  ·rename_i hop
   cases h
   exact opE_keep hk hop
  ·cases h
 ·cases h
  exact keep_refl _ _
theorem reg_wp {num:Nat→Nat} (hcall:CallOk P num call) (hk:CallKeep call) {ops:Array Oper} {Q:Exit→Act→World→Prop} {draw:Bool} {base n:Nat} {e':Env} {g':G}:∀ (os:List Oper) (aos:List AOper) (j:Nat) {c:Cx} {e:Env} {g:G} {a:Act},c.num = num→(∀ i o,os[i]? = some o→ops[j + i]? = some o)→opersB P num N ops os aos = true→j + os.length = n →
  St N c e g a→base + n≤g.nx→(∀ i,j≤i→i < n→g.hp (base + i) = none)→regE call draw base j aos e g = some (e',g')→(∀ c' a',Evo c c'→St N c' e' g' a'→Q .normal a' c'.w)→wpOps P ops Q (List.range' j os.length) a c.w
 | [],[],j,c,e,g,a,_,_,_,_,S,_,_,h,hQ => by
   simp only[regE] at h
   cases h
   exact hQ c a (Evo.refl c) S
 | [],_ :: _,_,_,_,_,_,_,_,h,_,_,_,_,_,_ => by simp[opersB] at h
 | _ :: _,[],_,_,_,_,_,_,_,h,_,_,_,_,_,_ => by simp[opersB] at h
 | o :: os,ao :: aos,j,c,e,g,a,hnum,hops,hb,hn,S,hnx,hfree,h,hQ => by
   simp only[opersB,Bool.and_eq_true] at hb
   rw[regE_step] at h
   simp only[List.length_cons] at hn
   rw[List.length_cons,List.range'_succ,wpOps_cons]
   split at h
   ·rename_i e1 g1 hst
    have hkp:=opStep_keep hk hst
    refine opStep_wp (hnum ▸ hcall) S (by simpa using hops 0 o rfl) (hnum ▸ hb.1) (hfree j (Nat.le_refl _) (by omega)) (by omega) hst (fun c1 a1 E1 S1 => ?_)
    exact reg_wp hcall hk os aos (j + 1) (E1.num.trans hnum) (fun i o' hi => by have:=hops (i + 1) o' (by simpa using hi);rwa [show j + (i + 1) = j + 1 + i by omega] at this) hb.2 (by omega) S1 (Nat.le_trans hnx hkp.1)
     (fun i h1 h2 => hkp.2 _ (by omega) (by omega) (hfree i (by omega) h2)) h (fun c' a' E' S' => hQ c' a' (E1.trans E') S')
   ·cases h
end
end Go.Ab
end
