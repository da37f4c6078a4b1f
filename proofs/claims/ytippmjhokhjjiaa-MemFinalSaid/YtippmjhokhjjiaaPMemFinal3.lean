/- What MemFinal rests on, part 3: lemmas, no claim of its own. -/
import Derived.Test.YtippmjhokhjjiaaPMemFinal2
set_option maxRecDepth 100000
set_option maxHeartbeats 16000000
open Nat renaming reduceAdd → qa, reduceMul → qb, reduceSub → qc
section
set_option linter.unusedVariables false
namespace Go.Ab
section
variable (F:Funs)
def W (c:ACode) (e:Env) (g:G) (Q:Out→Env→G→Prop):Prop:=∃ o e' g',codeS F c e g = some (o,e',g')∧Q o e' g'
def WR (d:Bool) (b j:Nat) (ops:List AOper) (e:Env) (g:G) (K:Env→G→Prop):Prop:=∃ e' g',regE (callS F) d b j ops e g = some (e',g')∧K e' g'
def thenQ (b:ACode) (Q:Out→Env→G→Prop):Out→Env→G→Prop
 | .nrm,e,g => W F b e g Q
 | o,e,g => Q o e g
def selW (t f:ACode) (e:Env) (g:G) (Q:Out→Env→G→Prop):AV→Prop
 | .b true => W F t e g Q
 | .b false => W F f e g Q
 | _ => False
def blkQ (id:Nat) (Q:Out→Env→G→Prop):Out→Env→G→Prop
 | .ext n,e,g => if n = id then Q .nrm e g else Q (.ext n) e g
 | o,e,g => Q o e g
def nrmQ (Q:Out→Env→G→Prop) (e:Env) (g:G):Prop:=Q .nrm e g
def bindO (d:Bool) (b j:Nat) (dst:Option Nat) (os:List AOper) (e:Env) (K:Env→G→Prop):Option (AV × G)→Prop
 | some (v,g) => WR F d b j os (put e dst v) g K
 | none => False
def selO (d:Bool) (b j:Nat) (dst:Option Nat) (os:List AOper) (e:Env) (op:AOp) (pre:List Nat) (g:G) (K:Env→G→Prop) (w:Bool):Prop:=
 if w then bindO F d b (j + 1) dst os e K (opE (callS F) (allow d b pre) b (b + j) op e g) else WR F d b (j + 1) os (put e dst .undef) g K
end
section
variable {F:Funs}
theorem W_skip {e g Q}:W F .skip e g Q = Q .nrm e g:=by
 unfold W;rw[codeS_skip];apply propext
 exact ⟨fun ⟨o,e',g',h,q⟩ => by cases h;exact q,fun q => ⟨_,_,_,rfl,q⟩⟩
theorem W_ext {id e g Q}:W F (.ext id) e g Q = Q (.ext id) e g:=by
 unfold W;rw[codeS_ext];apply propext
 exact ⟨fun ⟨o,e',g',h,q⟩ => by cases h;exact q,fun q => ⟨_,_,_,rfl,q⟩⟩
theorem W_ret {e g Q}:W F .ret e g Q = Q .ret e g:=by
 unfold W;rw[codeS_ret];apply propext
 exact ⟨fun ⟨o,e',g',h,q⟩ => by cases h;exact q,fun q => ⟨_,_,_,rfl,q⟩⟩
theorem W_seq {a b e g Q}:W F (.seq a b) e g Q = W F a e g (thenQ F b Q):=by
 unfold W;rw[cS_seq];apply propext
 constructor
 ·intro ⟨o,e',g',h,q⟩
  cases hc:codeS F a e g with
  | none => rw[hc] at h;cases h
  | some r =>
    obtain ⟨o1,e1,g1⟩:=r
    rw[hc] at h
    refine ⟨o1,e1,g1,rfl,?_⟩
    cases o1 with
    | nrm => exact ⟨o,e',g',h,q⟩
    | ext n => cases h;exact q
    | ret => cases h;exact q
 ·intro ⟨o,e',g',h,q⟩
  rw[h]
  cases o with
  | nrm => exact q
  | ext n => exact ⟨_,_,_,rfl,q⟩
  | ret => exact ⟨_,_,_,rfl,q⟩
theorem thenQ_nrm {b Q e g}:thenQ F b Q .nrm e g = W F b e g Q:=rfl
theorem thenQ_ext {b Q n e g}:thenQ F b Q (.ext n) e g = Q (.ext n) e g:=rfl
theorem thenQ_ret {b Q e g}:thenQ F b Q .ret e g = Q .ret e g:=rfl
theorem W_cond {c t f e g Q}:W F (.cond c t f) e g Q = selW F t f e g Q (c.ev e):=by
 unfold W;rw[cS_cond];apply propext
 generalize c.ev e = v
 cases v<;>simp only[selS,selW]<;>try (constructor<;>(intro h;first | exact h.elim | (obtain ⟨_,_,_,h,_⟩:=h;cases h)))
 rename_i x
 cases x<;>simp[W]
theorem selW_true {t f e g Q}:selW F t f e g Q (.b true) = W F t e g Q:=rfl
theorem selW_false {t f e g Q}:selW F t f e g Q (.b false) = W F f e g Q:=rfl
theorem W_scp {c e g Q}:W F (.scp c) e g Q = W F c e g Q:=by unfold W;rw[codeS_scp]
theorem W_lab {e g Q}:W F .lab e g Q = Q .nrm e g:=by
 unfold W;rw[codeS_lab];apply propext
 exact ⟨fun ⟨o,e',g',h,q⟩ => by cases h;exact q,fun q => ⟨_,_,_,rfl,q⟩⟩
theorem W_blk {id c e g Q}:W F (.blk id c) e g Q = W F c e g (blkQ id Q):=by
 unfold W;rw[cS_blk];apply propext
 constructor
 ·intro ⟨o,e',g',h,q⟩
  cases hc:codeS F c e g with
  | none => rw[hc] at h;cases h
  | some r =>
    obtain ⟨o1,e1,g1⟩:=r
    rw[hc] at h
    refine ⟨o1,e1,g1,rfl,?_⟩
    cases o1 with
    | nrm => cases h;exact q
    | ext n =>
      cases h
      show if n = id then _ else _
      split
      ·rename_i hn;rw[if_pos hn] at q;exact q
      ·rename_i hn;rw[if_neg hn] at q;exact q
    | ret => cases h;exact q
 ·intro ⟨o,e',g',h,q⟩
  rw[h]
  cases o with
  | nrm => exact ⟨_,_,_,rfl,q⟩
  | ext n =>
    refine ⟨_,_,_,rfl,?_⟩
    have q:if n = id then Q .nrm e' g' else Q (.ext n) e' g':=q
    split
    ·rename_i hn;rw[if_pos hn] at q;exact q
    ·rename_i hn;rw[if_neg hn] at q;exact q
  | ret => exact ⟨_,_,_,rfl,q⟩
theorem blkQ_nrm {id Q e g}:blkQ id Q .nrm e g = Q .nrm e g:=rfl
theorem blkQ_ret {id Q e g}:blkQ id Q .ret e g = Q .ret e g:=rfl
theorem blkQ_same {id Q e g}:blkQ id Q (.ext id) e g = Q .nrm e g:=if_pos rfl
theorem blkQ_ne {id n Q e g} (h:n≠id):blkQ id Q (.ext n) e g = Q (.ext n) e g:=if_neg h
theorem W_reg {d ops e g Q}:W F (.reg d ops) e g Q = WR F d g.nx 0 ops e ⟨g.hp,g.nx + ops.length⟩ (nrmQ Q):=by
 unfold W WR;rw[cS_reg];apply propext
 constructor
 ·intro ⟨o,e',g',h,q⟩
  cases hc:regE (callS F) d g.nx 0 ops e ⟨g.hp,g.nx + ops.length⟩ with
  | none => rw[hc] at h;cases h
  | some r =>
    rw[hc] at h
    cases h
    exact ⟨_,_,rfl,q⟩
 ·intro ⟨e',g',h,q⟩
  rw[h]
  exact ⟨.nrm,e',g',rfl,q⟩
theorem nrmQ_is {Q e g}:nrmQ Q e g = Q .nrm e g:=rfl
theorem WR_nil {d b j e g K}:WR F d b j [] e g K = K e g:=by
 unfold WR;apply propext
 simp only[regE_nil]
 exact ⟨fun ⟨e',g',h,q⟩ => by cases h;exact q,fun q => ⟨_,_,rfl,q⟩⟩
theorem WR_cons {d b j dst op grd pre os e g K}:WR F d b j ({ dst,op,grd,pre } :: os) e g K = selO F d b j dst os e op pre g K (wanted e grd):=by
 unfold WR;rw[regE_cons]
 generalize wanted e grd = w
 cases w
 ·rfl
 ·rw[selR_true]
  show _ = bindO _ _ _ _ _ _ _ _ _
  cases opE (callS F) (allow d b pre) b (b + j) op e g with
  | none =>
    apply propext
    constructor
    ·intro ⟨_,_,h,_⟩;cases h
    ·intro h;exact False.elim h
  | some r => rfl
theorem selO_true {d b j dst os e op pre g K}:selO F d b j dst os e op pre g K true = bindO F d b (j + 1) dst os e K (opE (callS F) (allow d b pre) b (b + j) op e g):=rfl
theorem selO_false {d b j dst os e op pre g K}:selO F d b j dst os e op pre g K false = WR F d b (j + 1) os (put e dst .undef) g K:=rfl
theorem bindO_some {d b j dst os e K v g}:bindO F d b j dst os e K (some (v,g)) = WR F d b j os (put e dst v) g K:=rfl
theorem W_mono {c e g} {Q Q':Out→Env→G→Prop} (h:W F c e g Q) (hq:∀ o e g,Q o e g→Q' o e g):W F c e g Q':=by
 obtain ⟨o,e',g',h1,h2⟩:=h;exact ⟨o,e',g',h1,hq _ _ _ h2⟩
def loopQ (I:Nat→Env→G→Prop) (m:Nat) (Q:Out→Env→G→Prop):Out→Env→G→Prop
 | .nrm,e,g => ∃ m',m' < m∧I m' e g
 | o,e,g => Q o e g
theorem loopQ_nrm {I m Q e g}:loopQ I m Q .nrm e g = ∃ m',m' < m∧I m' e g:=rfl
theorem loopQ_ext {I m Q n e g}:loopQ I m Q (.ext n) e g = Q (.ext n) e g:=rfl
theorem loopQ_ret {I m Q e g}:loopQ I m Q .ret e g = Q .ret e g:=rfl
theorem W_loop {c e g Q} (I:Nat→Env→G→Prop) (n:Nat) (h0:I n e g) (h:∀ m e g,I m e g→W F c e g (loopQ I m Q)):W F (.loop c) e g Q:=by
 have key:∀ m e g,I m e g→W F (.loop c) e g Q:=by
  intro m
  induction m using Nat.strongRecOn with
  | _ m ih =>
    intro e g hI
    obtain ⟨o,e1,g1,h1,h2⟩:=h m e g hI
    unfold W
    rw[cS_loop,h1]
    cases o with
    | nrm =>
      obtain ⟨m',hm,hI'⟩:=h2
      exact ih m' hm e1 g1 hI'
    | ext n => exact ⟨_,_,_,rfl,h2⟩
    | ret => exact ⟨_,_,_,rfl,h2⟩
 exact key n e g h0
noncomputable def pureS (F:Funs) (f:Nat) (asx:List AV):Option AV:=match callS F f asx g0 with
 | some (v,g) => frz g.hp depth v
 | none => none
noncomputable def vPure (F:Funs) (al:Nat→Bool) (f:AV) (args:List AV) (g:G):Option (AV × G):=vCall (callS F) al 0 .pure f args g
theorem o_pure {al lo id e g} (f:Opd) (asx:List Opd):opE (callS F) al lo id (.call .pure f asx) e g = vPure F al (f.ev e) (asx.map (·.ev e)) g:=rfl
theorem vPure_ok {al:Nat→Bool} {fid:Nat} {fst caps args bs:List AV} {g:G} {v:AV} (h1:frzL (rd g al) depth (fst ++ args ++ caps) = some bs) (h2:pureS F fid bs = some v) (h3:(flat v || ((fst ++ args ++ caps).flatMap (vis (rd g al) depth)).isEmpty) = true):
  vPure F al (.fn fid fst caps) args g = some (v,g):=by
 unfold pureS at h2
 split at h2
 ·rename_i v0 g' hc
  have hc':callS F fid bs ⟨fun _ => none,0⟩ = some (v0,g'):=hc
  unfold vPure vCall
  simp only[h1,hc',h2,h3,if_true]
 ·cases h2
def retQ (rs:List ARes) (v:AV):Out→Env→G→Prop
 | .ext _,_,_ => False
 | _,e,g => (match resE rs e g with | some v0 => frz g.hp depth v0 | none => none) = some v
theorem retQ_nrm {rs v e g}:retQ rs v .nrm e g = ((match resE rs e g with | some v0 => frz g.hp depth v0 | none => none) = some v):=rfl
theorem retQ_ret {rs v e g}:retQ rs v .ret e g = ((match resE rs e g with | some v0 => frz g.hp depth v0 | none => none) = some v):=rfl
theorem pure_of {f:Nat} {fn:AFun} {asx:List AV} {v:AV} (hF:F f = some fn) (h:W F fn.body (argEnv asx) g0 (retQ fn.res v)):pureS F f asx = some v:=by
 obtain ⟨o,e,g,h1,h2⟩:=h
 unfold pureS
 rw[callS_eq,hF]
 simp only[h1]
 cases o with
 | ext n => exact h2.elim
 | nrm =>
   have h2:(match resE fn.res e g with | some v0 => frz g.hp depth v0 | none => none) = some v:=h2
   cases hr:resE fn.res e g with
   | none => rw[hr] at h2;cases h2
   | some v0 => rw[hr] at h2;simp only[hr,Option.map_some];exact h2
 | ret =>
   have h2:(match resE fn.res e g with | some v0 => frz g.hp depth v0 | none => none) = some v:=h2
   cases hr:resE fn.res e g with
   | none => rw[hr] at h2;cases h2
   | some v0 => rw[hr] at h2;simp only[hr,Option.map_some];exact h2
end
theorem argEnv_0 (a l):argEnv (a :: l) 0 = a:=rfl
theorem argEnv_1 (a b l):argEnv (a :: b :: l) 1 = b:=rfl
theorem argEnv_2 (a b c l):argEnv (a :: b :: c :: l) 2 = c:=rfl
theorem argEnv_3 (a b c d l):argEnv (a :: b :: c :: d :: l) 3 = d:=rfl
theorem argEnv_4 (a b c d e l):argEnv (a :: b :: c :: d :: e :: l) 4 = e:=rfl
theorem argEnv_5 (a b c d e f l):argEnv (a :: b :: c :: d :: e :: f :: l) 5 = f:=rfl
theorem res_1 (n e g):resE [.t n] e g = some (e n):=rfl
theorem res_2 (n m e g):resE [.t n,.t m] e g = some (.tup [e n,e m]):=rfl
theorem frz_flat {hp} {d:Nat} {v:AV} (h:flat v = true):frz hp (d + 1) v = some v:=by cases v<;>first | (cases h;done) | simp only[frz]
theorem frzL_flat {hp} {d:Nat}:∀ {cs:List AV},cs.all flat = true→frzL hp (d + 1) cs = some cs
 | [],_ => by simp only[frzL]
 | c :: cs,h => by
   simp only[List.all_cons,Bool.and_eq_true] at h
   simp only[frzL,frz_flat h.1,frzL_flat h.2]
theorem frzL_nil (hp d):frzL hp d [] = some []:=by simp only[frzL]
def consO (c:Option AV) (cs:Option (List AV)):Option (List AV):=match c,cs with
 | some c,some cs => some (c :: cs)
 | _,_ => none
theorem consO_ok (c cs):consO (some c) (some cs) = some (c :: cs):=rfl
theorem frzL_cons (hp d c cs):frzL hp d (c :: cs) = consO (frz hp d c) (frzL hp d cs):=by
 simp only[frzL]
 cases frz hp d c<;>cases frzL hp d cs<;>rfl
theorem frz_d_i (hp k n):frz hp depth (.i k n) = some (.i k n):=by show frz hp (8 + 1) _ = _;simp only[frz]
theorem frz_d_b (hp x):frz hp depth (.b x) = some (.b x):=by show frz hp (8 + 1) _ = _;simp only[frz]
theorem frz_d_s (hp x):frz hp depth (.s x) = some (.s x):=by show frz hp (8 + 1) _ = _;simp only[frz]
theorem frz_d_nilp (hp):frz hp depth .nilp = some .nilp:=by show frz hp (8 + 1) _ = _;simp only[frz]
theorem frz_d_ptr (hp cs):frz hp depth (.ptr cs) = some (.ptr cs):=by show frz hp (8 + 1) _ = _;simp only[frz]
theorem frz_d_sl (hp cs n t):frz hp depth (.sl cs n t) = some (.sl cs n .non):=by show frz hp (8 + 1) _ = _;simp only[frz]
theorem frz_d_fn0 (hp f):frz hp depth (.fn f [] []) = some (.fn f [] []):=by show frz hp (8 + 1) _ = _;simp only[frz,frzL]
noncomputable def frzB (hp:Nat→Option Blk) (off:Nat) (cs:List AV) (x:Bool):Option (List AV):=if x then some (cs.drop off) else frzL hp 8 (cs.drop off)
noncomputable def frzP (hp:Nat→Option Blk) (off:Nat) (f:List AV→AV):Option Blk→Option AV
 | some (.cells cs _) => (frzB hp off cs (cs.all flat)).map f
 | _ => none
theorem frzB_eq (hp:Nat→Option Blk) (off:Nat) (cs:List AV):frzB hp off cs (cs.all flat) = frzL hp 8 (cs.drop off):=by
 unfold frzB
 split
 ·rename_i hf
  refine (frzL_flat ?_).symm
  rw[List.all_eq_true] at hf ⊢
  exact fun x hx => hf x (List.mem_of_mem_drop hx)
 ·rfl
theorem frz_P (hp:Nat→Option Blk) (id off:Nat):frz hp depth (.mp id off) = frzP hp off .ptr (hp id):=by
 show frz hp (8 + 1) _ = _
 simp only[frz]
 unfold frzP
 simp only[frzB_eq]
 cases hp id with
 | none => rfl
 | some b => cases b<;>rfl
theorem frz_Q (hp:Nat→Option Blk) (id off n:Nat):frz hp depth (.ms id off n) = frzP hp off (fun cs => .sl cs n .non) (hp id):=by
 show frz hp (8 + 1) _ = _
 simp only[frz]
 unfold frzP
 simp only[frzB_eq]
 cases hp id with
 | none => rfl
 | some b => cases b<;>rfl
theorem frzP_cells (hp off f cs ro):frzP hp off f (some (.cells cs ro)) = (frzB hp off cs (cs.all flat)).map f:=rfl
theorem frzB_true (hp off cs):frzB hp off cs true = some (cs.drop off):=rfl
theorem map_some' (f:List AV→AV) (cs:List AV):(some cs).map f = some (f cs):=rfl
noncomputable def purD (g:G) (vs:List Nat):Option AV→Option (AV × G)
 | some v => if flat v || vs.isEmpty then some (v,g) else none
 | none => none
def purE (g:G) (v:AV) (x:Bool):Option (AV × G):=if x then some (v,g) else none
theorem purD_some (g vs v):purD g vs (some v) = purE g v (flat v || vs.isEmpty):=rfl
theorem purE_true (g v):purE g v true = some (v,g):=rfl
noncomputable def purS (F:Funs) (f:Nat) (g:G) (vs:List Nat):Option (List AV)→Option (AV × G)
 | some bs => purD g vs (pureS F f bs)
 | none => none
theorem purS_some (F f g vs bs):purS F f g vs (some bs) = purD g vs (pureS F f bs):=rfl
theorem vPure_S (F:Funs) (al:Nat→Bool) (fid:Nat) (fst args caps:List AV) (g:G):
  vPure F al (.fn fid fst caps) args g = purS F fid g ((fst ++ args ++ caps).flatMap (vis (rd g al) depth)) (frzL (rd g al) depth (fst ++ args ++ caps)):=by
 unfold vPure vCall
 simp only
 cases frzL (rd g al) depth (fst ++ args ++ caps) with
 | none => rfl
 | some bs =>
   rw[purS_some]
   unfold pureS g0
   simp only
   cases callS F fid bs ⟨fun _ => none,0⟩ with
   | none => rfl
   | some r =>
     obtain ⟨v,g'⟩:=r
     simp only
     cases frz g'.hp depth v with
     | none => rfl
     | some v' => rfl
theorem flat_i (k n):flat (.i k n) = true:=rfl
theorem flat_b (x):flat (.b x) = true:=rfl
theorem flat_s (x):flat (.s x) = true:=rfl
theorem flat_nilp:flat .nilp = true:=rfl
theorem flat_ptr (x):flat (.ptr x) = false:=rfl
theorem flat_sl (a b c):flat (.sl a b c) = false:=rfl
theorem flat_agg (a):flat (.agg a) = false:=rfl
theorem flat_tup (a):flat (.tup a) = false:=rfl
theorem vis_i (hp k n):vis hp depth (.i k n) = []:=by show vis hp (8 + 1) _ = _;simp only[vis]
theorem vis_b (hp x):vis hp depth (.b x) = []:=by show vis hp (8 + 1) _ = _;simp only[vis]
theorem vis_s (hp x):vis hp depth (.s x) = []:=by show vis hp (8 + 1) _ = _;simp only[vis]
theorem vis_nilp (hp):vis hp depth .nilp = []:=by show vis hp (8 + 1) _ = _;simp only[vis]
theorem vis_ptr (hp x):vis hp depth (.ptr x) = []:=by show vis hp (8 + 1) _ = _;simp only[vis]
theorem vis_sl (hp a b c):vis hp depth (.sl a b c) = []:=by show vis hp (8 + 1) _ = _;simp only[vis]
theorem vis_fn0 (hp f):vis hp depth (.fn f [] []) = []:=by show vis hp (8 + 1) _ = _;simp only[vis,List.flatMap_nil,List.append_nil]
theorem isEmpty_nil:([]:List Nat).isEmpty = true:=rfl
def midQ (M:Env→G→Prop):Out→Env→G→Prop
 | .nrm,e,g => M e g
 | _,_,_ => False
theorem midQ_nrm {M e g}:midQ M .nrm e g = M e g:=rfl
theorem midQ_then {F:Funs} {rest Q} {M:Env→G→Prop} (h2:∀ e g,M e g→W F rest e g Q) (o e g) (h:midQ M o e g):thenQ F rest Q o e g:=by
 cases o with
 | nrm => exact h2 e g h
 | ext n => exact h.elim
 | ret => exact h.elim
theorem W_cut {F:Funs} {c rest e g Q} (M:Env→G→Prop) (h1:W F c e g (midQ M)) (h2:∀ e g,M e g→W F rest e g Q):W F c e g (thenQ F rest Q):=W_mono h1 (midQ_then h2)
theorem sel_cut {F:Funs} {t f rest e g Q v} (M:Env→G→Prop) (h1:selW F t f e g (midQ M) v) (h2:∀ e g,M e g→W F rest e g Q):selW F t f e g (thenQ F rest Q) v:=by
 cases v<;>simp only[selW] at h1 ⊢
 rename_i x
 cases x<;>exact W_mono h1 (midQ_then h2)
theorem frz_b_inv {hp:Nat→Option Blk} {k:Nat} {v:AV} {b:Bool} (h:frz hp (k + 1) v = some (.b b)):v = .b b:=by
 cases v with
 | b x => simp only[frz] at h;cases h;rfl
 | agg cs => simp only[frz] at h;cases hf:frzL hp k cs<;>rw[hf] at h<;>cases h
 | tup cs => simp only[frz] at h;cases hf:frzL hp k cs<;>rw[hf] at h<;>cases h
 | mp id off =>
   simp only[frz] at h
   split at h
   ·cases hf:frzL hp k (List.drop off _)<;>rw[hf] at h<;>cases h
   ·cases h
 | ms id off n =>
   simp only[frz] at h
   split at h
   ·cases hf:frzL hp k (List.drop off _)<;>rw[hf] at h<;>cases h
   ·cases h
 | fn f asx bs => simp only[frz] at h;split at h<;>cases h
 | ifc t w => simp only[frz] at h;cases hf:frz hp k w<;>rw[hf] at h<;>cases h
 | _ => simp only[frz] at h;cases h
theorem pureS_bool {F:Funs} {f:Nat} {asx:List AV} {b:Bool} (h:pureS F f asx = some (.b b)):∃ k g',callE F k f asx g0 = some (.b b,g'):=by
 unfold pureS at h
 split at h
 ·rename_i v g hc
  have:=frz_b_inv (k:=8) h
  subst this
  obtain ⟨k,hk⟩:=(callS_some F).1 hc
  exact ⟨k,g,hk⟩
 ·cases h
def retB (rs:List ARes) (P:Bool→Prop):Out→Env→G→Prop
 | .ext _,_,_ => False
 | _,e,g => ∃ b,resE rs e g = some (.b b)∧P b
theorem retB_nrm {rs P e g}:retB rs P .nrm e g = (∃ b,resE rs e g = some (.b b)∧P b):=rfl
theorem retB_ret {rs P e g}:retB rs P .ret e g = (∃ b,resE rs e g = some (.b b)∧P b):=rfl
theorem blk_cut {F:Funs} {c rest:ACode} {id:Nat} {e:Env} {g:G} {Q:Out→Env→G→Prop} (M:Env→G→Prop) (h1:W F c e g (blkQ id (midQ M))) (h2:∀ e g,M e g→W F rest e g Q):W F c e g (blkQ id (thenQ F rest Q)):=by
 refine W_mono h1 fun o e g h => ?_
 cases o with
 | nrm => exact h2 e g h
 | ret => exact h.elim
 | ext n =>
   have h:if n = id then midQ M .nrm e g else midQ M (.ext n) e g:=h
   show if n = id then thenQ F rest Q .nrm e g else thenQ F rest Q (.ext n) e g
   by_cases hn:n = id
   ·rw[if_pos hn] at h ⊢;exact h2 e g h
   ·rw[if_neg hn] at h;exact h.elim
def midR (Q:Out→Env→G→Prop) (M:Env→G→Prop):Out→Env→G→Prop
 | .nrm,e,g => M e g
 | .ret,e,g => Q .ret e g
 | .ext _,_,_ => False
theorem midR_nrm {Q M e g}:midR Q M .nrm e g = M e g:=rfl
theorem midR_ret {Q M e g}:midR Q M .ret e g = Q .ret e g:=rfl
theorem blk_cutR {F:Funs} {c rest:ACode} {id:Nat} {e:Env} {g:G} {Q:Out→Env→G→Prop} (M:Env→G→Prop) (h1:W F c e g (blkQ id (midR Q M))) (h2:∀ e g,M e g→W F rest e g Q):W F c e g (blkQ id (thenQ F rest Q)):=by
 refine W_mono h1 fun o e g h => ?_
 cases o with
 | nrm => exact h2 e g h
 | ret => exact h
 | ext n =>
   have h:if n = id then midR Q M .nrm e g else midR Q M (.ext n) e g:=h
   show if n = id then thenQ F rest Q .nrm e g else thenQ F rest Q (.ext n) e g
   by_cases hn:n = id
   ·rw[if_pos hn] at h ⊢;exact h2 e g h
   ·rw[if_neg hn] at h;exact h.elim
theorem wp:type_of% (And.intro (And.intro (And.intro (And.intro (And.intro (And.intro (And.intro @W_skip (And.intro @W_ext @W_ret)) (And.intro (And.intro @W_seq @thenQ_nrm) (And.intro @thenQ_ext @thenQ_ret))) (And.intro (And.intro (And.intro @W_cond @selW_true) (And.intro @selW_false @W_blk)) (And.intro (And.intro @blkQ_nrm @blkQ_ret) (And.intro @blkQ_same @blkQ_ne)))) (And.intro (And.intro (And.intro @W_reg (And.intro @nrmQ_is @WR_nil)) (And.intro (And.intro @WR_cons @selO_true) (And.intro @selO_false @bindO_some))) (And.intro (And.intro (And.intro @loopQ_nrm @loopQ_ext) (And.intro @loopQ_ret @wanted_none)) (And.intro (And.intro @wanted_some @wantV_1) (And.intro @wantV_0 @wantV_undef))))) (And.intro (And.intro (And.intro (And.intro @ev_t (And.intro @ev_c @put_some)) (And.intro (And.intro @put_none @upd_same) (And.intro @upd_ne @List.length_cons.{0}))) (And.intro (And.intro (And.intro @List.length_nil.{0} @List.map_cons.{0,0}) (And.intro @List.map_nil.{0,0} @allow_no)) (And.intro (And.intro @allow_lt @argEnv_0) (And.intro @argEnv_1 @argEnv_2)))) (And.intro (And.intro (And.intro (And.intro @argEnv_3 @argEnv_4) (And.intro @argEnv_5 @res_1)) (And.intro (And.intro @res_2 @retQ_nrm) (And.intro @retQ_ret @o_mv))) (And.intro (And.intro (And.intro @o_pick @vPick_t) (And.intro @vPick_f @o_new)) (And.intro (And.intro @o_box @vBox_S) (And.intro @boxD_ok @vMap_some)))))) (And.intro (And.intro (And.intro (And.intro (And.intro @vMapL_some (And.intro @o_build @o_ld)) (And.intro (And.intro @vLd_ptr @vLd_S) (And.intro @ldS_ok @selB_true))) (And.intro (And.intro (And.intro @o_st @vSt_S) (And.intro @stS_ok @stD_ok)) (And.intro (And.intro @o_nilck @vNil_ptr) (And.intro @vNil_mp @vNil_fn)))) (And.intro (And.intro (And.intro (And.intro @o_bin @o_un) (And.intro @o_mkfn @o_fa)) (And.intro (And.intro @vFa_mp @vFa_S) (And.intro @faD_ok @o_fld))) (And.intro (And.intro (And.intro @vFld_agg @o_ia) (And.intro @vIa_sl @vIa_ms)) (And.intro (And.intro @o_iaa @vIaa_ptr) (And.intro @vIaa_mp @o_len))))) (And.intro (And.intro (And.intro (And.intro @vLen_sl (And.intro @vLen_ms @o_mx)) (And.intro (And.intro @o_mn @vMx_i) (And.intro @vMn_i @o_ext))) (And.intro (And.intro (And.intro @vExt_tup @b_add) (And.intro @b_sub @b_mul)) (And.intro (And.intro @b_lss @b_leq) (And.intro @b_gtr @b_geq)))) (And.intro (And.intro (And.intro (And.intro @b_eql @b_neq) (And.intro @o_pure @List.nil_append.{0})) (And.intro (And.intro @List.append_nil.{0} @List.cons_append.{0}) (And.intro @frz_d_i @frz_d_b))) (And.intro (And.intro (And.intro @frz_d_s @frz_d_nilp) (And.intro @frz_d_ptr @frz_d_sl)) (And.intro (And.intro @frz_d_fn0 @Bool.not_true) (And.intro @Bool.not_false @Bool.true_and))))))) (And.intro (And.intro (And.intro (And.intro (And.intro (And.intro @Bool.and_true (And.intro @Bool.false_and @Bool.and_false)) (And.intro (And.intro @decide_true @decide_false) (And.intro @beq_self_eq_true.{0} @Bool.true_eq_false))) (And.intro (And.intro (And.intro @Bool.false_eq_true @Nat.zero_add) (And.intro @Nat.add_zero @Int.toNat_natCast)) (And.intro (And.intro @ge_iff_le.{0} @gt_iff_lt.{0}) (And.intro @fill_S @fillD_ok)))) (And.intro (And.intro (And.intro (And.intro @fill_nil @cellsOf_agg) (And.intro @cellsOf_i @cellsOf_b)) (And.intro (And.intro @cellsOf_s @cellsOf_ptr) (And.intro @cellsOf_nilp @cellsOf_sl))) (And.intro (And.intro (And.intro @cellsOf_mp @cellsOf_fn) (And.intro @one_i @one_b)) (And.intro (And.intro @one_s @one_ptr) (And.intro @one_nilp @one_sl))))) (And.intro (And.intro (And.intro (And.intro @one_mp (And.intro @one_fn @List.all_cons.{0})) (And.intro (And.intro @List.all_nil.{0} @splice_1) (And.intro @splice_2 @splice_3))) (And.intro (And.intro (And.intro @part_0 @part_1) (And.intro @part_2 @drop_0)) (And.intro (And.intro @g0_nx @g0_hp) (And.intro @List.set_cons_zero.{0} @List.set_cons_succ.{0})))) (And.intro (And.intro (And.intro (And.intro @List.length_append.{0} @List.length_replicate.{0}) (And.intro @eq_self.{1} @true_and)) (And.intro (And.intro @and_true @vPure_S) (And.intro @purS_some @purD_some))) (And.intro (And.intro (And.intro @purE_true @frzL_cons) (And.intro @frzL_nil @consO_ok)) (And.intro (And.intro @flat_i @flat_b) (And.intro @flat_s @flat_nilp)))))) (And.intro (And.intro (And.intro (And.intro (And.intro @flat_ptr (And.intro @flat_sl @flat_agg)) (And.intro (And.intro @flat_tup @vis_i) (And.intro @vis_b @vis_s))) (And.intro (And.intro (And.intro @vis_nilp @vis_ptr) (And.intro @vis_sl @vis_fn0)) (And.intro (And.intro @List.flatMap_cons.{0,0} @List.flatMap_nil.{0,0}) (And.intro @isEmpty_nil @Bool.true_or)))) (And.intro (And.intro (And.intro (And.intro @Bool.false_or @Bool.or_true) (And.intro @Bool.or_false @frz_P)) (And.intro (And.intro @frz_Q @frzP_cells) (And.intro @frzB_true @map_some'))) (And.intro (And.intro (And.intro @rd_S @o_bsl) (And.intro @vBsl_t @vBsl_f)) (And.intro (And.intro @o_app @appD_ok) (And.intro @vApp_rig @vApp_rig0))))) (And.intro (And.intro (And.intro (And.intro @appK_ok (And.intro @vApp_own @o_eqn)) (And.intro (And.intro @o_eqb @o_eqa) (And.intro @aeqn_pn @aeqn_np))) (And.intro (And.intro (And.intro @aeqn_mn @aeqn_nn) (And.intro @aeqb_bb @negb_t)) (And.intro (And.intro @negb_f @aun_not) (And.intro @midQ_nrm @part_3)))) (And.intro (And.intro (And.intro (And.intro @part_4 @part_5) (And.intro @cellsOf_ms @one_ms)) (And.intro (And.intro @Int.toNat_zero @Nat.zero_mul) (And.intro @o_stL @andLe_ok))) (And.intro (And.intro (And.intro @allow_hd @allow_h2) (And.intro @retB_nrm @retB_ret)) (And.intro (And.intro @midR_nrm @midR_ret) (And.intro @W_scp @W_lab)))))))):=(And.intro (And.intro (And.intro (And.intro (And.intro (And.intro (And.intro @W_skip (And.intro @W_ext @W_ret)) (And.intro (And.intro @W_seq @thenQ_nrm) (And.intro @thenQ_ext @thenQ_ret))) (And.intro (And.intro (And.intro @W_cond @selW_true) (And.intro @selW_false @W_blk)) (And.intro (And.intro @blkQ_nrm @blkQ_ret) (And.intro @blkQ_same @blkQ_ne)))) (And.intro (And.intro (And.intro @W_reg (And.intro @nrmQ_is @WR_nil)) (And.intro (And.intro @WR_cons @selO_true) (And.intro @selO_false @bindO_some))) (And.intro (And.intro (And.intro @loopQ_nrm @loopQ_ext) (And.intro @loopQ_ret @wanted_none)) (And.intro (And.intro @wanted_some @wantV_1) (And.intro @wantV_0 @wantV_undef))))) (And.intro (And.intro (And.intro (And.intro @ev_t (And.intro @ev_c @put_some)) (And.intro (And.intro @put_none @upd_same) (And.intro @upd_ne @List.length_cons.{0}))) (And.intro (And.intro (And.intro @List.length_nil.{0} @List.map_cons.{0,0}) (And.intro @List.map_nil.{0,0} @allow_no)) (And.intro (And.intro @allow_lt @argEnv_0) (And.intro @argEnv_1 @argEnv_2)))) (And.intro (And.intro (And.intro (And.intro @argEnv_3 @argEnv_4) (And.intro @argEnv_5 @res_1)) (And.intro (And.intro @res_2 @retQ_nrm) (And.intro @retQ_ret @o_mv))) (And.intro (And.intro (And.intro @o_pick @vPick_t) (And.intro @vPick_f @o_new)) (And.intro (And.intro @o_box @vBox_S) (And.intro @boxD_ok @vMap_some)))))) (And.intro (And.intro (And.intro (And.intro (And.intro @vMapL_some (And.intro @o_build @o_ld)) (And.intro (And.intro @vLd_ptr @vLd_S) (And.intro @ldS_ok @selB_true))) (And.intro (And.intro (And.intro @o_st @vSt_S) (And.intro @stS_ok @stD_ok)) (And.intro (And.intro @o_nilck @vNil_ptr) (And.intro @vNil_mp @vNil_fn)))) (And.intro (And.intro (And.intro (And.intro @o_bin @o_un) (And.intro @o_mkfn @o_fa)) (And.intro (And.intro @vFa_mp @vFa_S) (And.intro @faD_ok @o_fld))) (And.intro (And.intro (And.intro @vFld_agg @o_ia) (And.intro @vIa_sl @vIa_ms)) (And.intro (And.intro @o_iaa @vIaa_ptr) (And.intro @vIaa_mp @o_len))))) (And.intro (And.intro (And.intro (And.intro @vLen_sl (And.intro @vLen_ms @o_mx)) (And.intro (And.intro @o_mn @vMx_i) (And.intro @vMn_i @o_ext))) (And.intro (And.intro (And.intro @vExt_tup @b_add) (And.intro @b_sub @b_mul)) (And.intro (And.intro @b_lss @b_leq) (And.intro @b_gtr @b_geq)))) (And.intro (And.intro (And.intro (And.intro @b_eql @b_neq) (And.intro @o_pure @List.nil_append.{0})) (And.intro (And.intro @List.append_nil.{0} @List.cons_append.{0}) (And.intro @frz_d_i @frz_d_b))) (And.intro (And.intro (And.intro @frz_d_s @frz_d_nilp) (And.intro @frz_d_ptr @frz_d_sl)) (And.intro (And.intro @frz_d_fn0 @Bool.not_true) (And.intro @Bool.not_false @Bool.true_and))))))) (And.intro (And.intro (And.intro (And.intro (And.intro (And.intro @Bool.and_true (And.intro @Bool.false_and @Bool.and_false)) (And.intro (And.intro @decide_true @decide_false) (And.intro @beq_self_eq_true.{0} @Bool.true_eq_false))) (And.intro (And.intro (And.intro @Bool.false_eq_true @Nat.zero_add) (And.intro @Nat.add_zero @Int.toNat_natCast)) (And.intro (And.intro @ge_iff_le.{0} @gt_iff_lt.{0}) (And.intro @fill_S @fillD_ok)))) (And.intro (And.intro (And.intro (And.intro @fill_nil @cellsOf_agg) (And.intro @cellsOf_i @cellsOf_b)) (And.intro (And.intro @cellsOf_s @cellsOf_ptr) (And.intro @cellsOf_nilp @cellsOf_sl))) (And.intro (And.intro (And.intro @cellsOf_mp @cellsOf_fn) (And.intro @one_i @one_b)) (And.intro (And.intro @one_s @one_ptr) (And.intro @one_nilp @one_sl))))) (And.intro (And.intro (And.intro (And.intro @one_mp (And.intro @one_fn @List.all_cons.{0})) (And.intro (And.intro @List.all_nil.{0} @splice_1) (And.intro @splice_2 @splice_3))) (And.intro (And.intro (And.intro @part_0 @part_1) (And.intro @part_2 @drop_0)) (And.intro (And.intro @g0_nx @g0_hp) (And.intro @List.set_cons_zero.{0} @List.set_cons_succ.{0})))) (And.intro (And.intro (And.intro (And.intro @List.length_append.{0} @List.length_replicate.{0}) (And.intro @eq_self.{1} @true_and)) (And.intro (And.intro @and_true @vPure_S) (And.intro @purS_some @purD_some))) (And.intro (And.intro (And.intro @purE_true @frzL_cons) (And.intro @frzL_nil @consO_ok)) (And.intro (And.intro @flat_i @flat_b) (And.intro @flat_s @flat_nilp)))))) (And.intro (And.intro (And.intro (And.intro (And.intro @flat_ptr (And.intro @flat_sl @flat_agg)) (And.intro (And.intro @flat_tup @vis_i) (And.intro @vis_b @vis_s))) (And.intro (And.intro (And.intro @vis_nilp @vis_ptr) (And.intro @vis_sl @vis_fn0)) (And.intro (And.intro @List.flatMap_cons.{0,0} @List.flatMap_nil.{0,0}) (And.intro @isEmpty_nil @Bool.true_or)))) (And.intro (And.intro (And.intro (And.intro @Bool.false_or @Bool.or_true) (And.intro @Bool.or_false @frz_P)) (And.intro (And.intro @frz_Q @frzP_cells) (And.intro @frzB_true @map_some'))) (And.intro (And.intro (And.intro @rd_S @o_bsl) (And.intro @vBsl_t @vBsl_f)) (And.intro (And.intro @o_app @appD_ok) (And.intro @vApp_rig @vApp_rig0))))) (And.intro (And.intro (And.intro (And.intro @appK_ok (And.intro @vApp_own @o_eqn)) (And.intro (And.intro @o_eqb @o_eqa) (And.intro @aeqn_pn @aeqn_np))) (And.intro (And.intro (And.intro @aeqn_mn @aeqn_nn) (And.intro @aeqb_bb @negb_t)) (And.intro (And.intro @negb_f @aun_not) (And.intro @midQ_nrm @part_3)))) (And.intro (And.intro (And.intro (And.intro @part_4 @part_5) (And.intro @cellsOf_ms @one_ms)) (And.intro (And.intro @Int.toNat_zero @Nat.zero_mul) (And.intro @o_stL @andLe_ok))) (And.intro (And.intro (And.intro @allow_hd @allow_h2) (And.intro @retB_nrm @retB_ret)) (And.intro (And.intro @midR_nrm @midR_ret) (And.intro @W_scp @W_lab))))))))
end Go.Ab
end
section
set_option linter.unusedVariables false
set_option linter.unusedSimpArgs false
namespace Go.Ab
open Go.RowKit
def c0 (num:Nat→Nat) (w:World):Cx:=⟨num,w.heap.size,fun _ => True,w,fun _ => (0,0),fun _ => none⟩
theorem row_calls {P:Program} {num:Nat→Nat} {F:Funs} (hT:Table P num F) (hm:P.follows .mixedOrders = true) {f:Nat} {asx:List AV} {b:Bool} (h:pureS F f asx = some (.b b)) {w:World} {vargs:List Value} (hr:Reps (c0 num w) true asx vargs):
  Calls P (num f) vargs.toArray w (fun e w' => e = .returned (.bool b)∧Below w.heap.size w w'):=by
 obtain ⟨k,g',hk⟩:=pureS_bool h
 have K:Ok (c0 num w) 0:={
  basele:=Nat.le_refl _
  cells:=fun _ _ _ h => by cases h
  maps:=fun _ _ h => by cases h
  toks:=fun _ h => by cases h
  inj:=fun _ _ _ h => by obtain ⟨_,h,_⟩:=h;cases h
  fresh:=fun _ _ => rfl }
 have:=((callE_ok hT hm k).2 f asx g0 _ _ hk).2 (c0 num w) vargs rfl rfl K hr
 refine Calls.mono this.1 fun e w' ⟨val,c',h1,h2,E,_,_,hrep⟩ => ?_
 cases hrep
 exact ⟨h1,h2 ▸ E.below⟩
def intsC (l:List Int):List AV:=l.map fun v => .i .i64 v
def pairsC (l:List (Int × Int)):List AV:=l.flatMap fun p => [.i .i64 p.1,.i .i64 p.2]
theorem sh_ints {P:Program} {t e:TypeId} {x:AV} (ht:P.underlying t = some (.slice e)) (he:P.underlying e = some (.int .i64)) (h:Sh P 2 t [x]):
  ∃ l:List Int,x = .sl (intsC l) l.length .non∧l.length≤maxLen∧∀ n∈l,(Lit.int .i64 n).wf = true:=by
 simp only[Sh,ht,he] at h
 obtain ⟨cs,n,hx,hn,rows,hl,rfl,hS⟩:=h
 cases hx
 have key:∀ rows:List (List AV),(∀ r∈rows,∃ n,r = [AV.i .i64 n]∧(Lit.int .i64 n).wf = true)→∃ l:List Int,rows.flatten = intsC l∧l.length = rows.length∧∀ n∈l,(Lit.int .i64 n).wf = true:=by
  intro rows
  induction rows with
  | nil => intro _;exact ⟨[],rfl,rfl,fun _ h => by cases h⟩
  | cons r rows ih =>
    intro h
    obtain ⟨n,rfl,hn⟩:=h r (List.mem_cons_self ..)
    obtain ⟨l,h1,h2,h3⟩:=ih fun r hr => h r (List.mem_cons_of_mem _ hr)
    refine ⟨n :: l,by rw[List.flatten_cons,h1];rfl,by simp[h2],fun m hm => ?_⟩
    rcases List.mem_cons.1 hm with rfl | hm
    ·exact hn
    ·exact h3 m hm
 obtain ⟨l,h1,h2,h3⟩:=key rows hS
 exact ⟨l,by rw[h1,←hl,h2],by omega,h3⟩
end Go.Ab
end
section
set_option linter.unusedVariables false
set_option linter.unusedSimpArgs false
namespace Go.Ab
abbrev Rw:=Nat→BitVec 64
def U (x:BitVec 64):AV:=.i .u64 (x.toNat:Int)
def rowsC (R:Rw):List AV:=(List.range 40).map fun a => U (R a)
def relC (n:Nat) (R:Rw):List AV:=.i .i64 n :: rowsC R
theorem rowsC_len (R:Rw):(rowsC R).length = 40:=by simp[rowsC]
theorem relC_len (n:Nat) (R:Rw):(relC n R).length = 41:=by simp[relC,rowsC_len]
theorem rowsC_get {R:Rw} {a:Nat} (h:a < 40):(rowsC R)[a]? = some (U (R a)):=by
 simp[rowsC,h]
theorem relC_n (n:Nat) (R:Rw):part (relC n R) 0 none = some (.i .i64 n):=rfl
theorem relC_row {n:Nat} {R:Rw} {a:Nat} (h:a < 40):part (relC n R) (0 + 1 + a * 1) none = some (U (R a)):=by
 rw[show 0 + 1 + a * 1 = a + 1 by omega]
 simp only[part,relC,List.getElem?_cons_succ,rowsC_get h]
theorem relC_drop1 (n:Nat) (R:Rw):(relC n R).drop 1 = rowsC R:=rfl
theorem relC_row' {R:Rw} {a:Nat} (h:a < 40):part ((rowsC R).drop (a * 1)) 0 none = some (U (R a)):=by
 simp only[part,List.getElem?_drop,Nat.mul_one,Nat.add_zero,rowsC_get h]
theorem relC_set {n:Nat} {R:Rw} {a:Nat} {x:BitVec 64} (h:a < 40):splice (relC n R) (0 + 1 + a * 1) [U x] = relC n (upd R a x):=by
 rw[show 0 + 1 + a * 1 = a + 1 by omega]
 show (relC n R).set (a + 1) (U x) = _
 simp only[relC,List.set_cons_succ]
 congr 1
 refine List.ext_getElem? fun i => ?_
 rw[List.getElem?_set]
 by_cases hi:i < 40
 ·rw[rowsC_get hi]
  by_cases ha:a = i
  ·subst ha
   rw[if_pos rfl,if_pos (by rw[rowsC_len];exact h),rowsC_get hi,upd_same]
  ·have:i≠a:=fun h => ha h.symm
   rw[if_neg ha,rowsC_get hi,upd_ne _ _ this]
 ·have h1:(rowsC R)[i]? = none:=by rw[List.getElem?_eq_none];rw[rowsC_len];omega
  have h2:(rowsC (upd R a x))[i]? = none:=by rw[List.getElem?_eq_none];rw[rowsC_len];omega
  rw[h2,h1]
  have:a≠i:=by omega
  simp[this]
theorem relC_set' {n:Nat} {R:Rw} {a:Nat} {x:BitVec 64} (h:a < 40):(relC n R).set (0 + 1 + a * 1) (U x) = relC n (upd R a x):=relC_set h
theorem cellsOf_U (x:BitVec 64):cellsOf (U x) = [U x]:=rfl
theorem one_U (x:BitVec 64):one (U x) = true:=rfl
theorem relC_flat (n:Nat) (R:Rw):(relC n R).all flat = true:=by
 simp[relC,rowsC,U,flat]
theorem relC_one (n:Nat) (R:Rw):(relC n R).all one = true:=by
 simp[relC,rowsC,U,one]
def bit (b:Nat):BitVec 64:=1#64 <<< b
theorem u64_wrap {x:Nat} (h:x < 2 ^ 64):IntKind.u64.wrap (x:Int) = x:=by
 simp[IntKind.wrap,IntKind.bits,IntKind.signed,IntKind.min,IntKind.max]
 omega
theorem ofU (x:BitVec 64):BitVec.ofInt IntKind.u64.bits (x.toNat:Int) = x:=by
 show BitVec.ofInt 64 _ = _
 apply BitVec.eq_of_toNat_eq
 simp
theorem u_or (x y:BitVec 64):abin .or (U x) (U y) = some (U (x ||| y)):=by
 simp only[abin,U,ibin,if_true,ofU]
 show some (AV.i .u64 (IntKind.u64.wrap (((x ||| y:BitVec 64).toNat:Nat):Int))) = _
 rw[u64_wrap (x ||| y:BitVec 64).isLt]
theorem u_and (x y:BitVec 64):abin .and (U x) (U y) = some (U (x &&& y)):=by
 simp only[abin,U,ibin,if_true,ofU]
 show some (AV.i .u64 (IntKind.u64.wrap (((x &&& y:BitVec 64).toNat:Nat):Int))) = _
 rw[u64_wrap (x &&& y:BitVec 64).isLt]
theorem u_andNot (x y:BitVec 64):abin .andNot (U x) (U y) = some (U (x &&& ~~~ y)):=by
 simp only[abin,U,ibin,if_true,ofU]
 show some (AV.i .u64 (IntKind.u64.wrap (((x &&& ~~~ y:BitVec 64).toNat:Nat):Int))) = _
 rw[u64_wrap (x &&& ~~~ y:BitVec 64).isLt]
theorem u_shl {b:Int} (h0:0≤b) (h:b < 40):abin .shl (.i .u64 1) (.i .i64 b) = some (U (bit b.toNat)):=by
 obtain ⟨k,rfl⟩:∃ k:Nat,b = k:=⟨b.toNat,by omega⟩
 have hk:k < 40:=by omega
 simp only[abin,ishift]
 rw[if_neg (by omega)]
 rw[show min ((k:Int)).toNat IntKind.u64.bits = k by show min k 64 = k;omega]
 have h2:(2 ^ k:Nat) < 2 ^ 64:=Nat.pow_lt_pow_right (by omega) (by omega)
 have:(1:Int) * 2 ^ k = ((2 ^ k:Nat):Int):=by simp
 rw[this,u64_wrap h2]
 simp only[U,bit,Int.toNat_natCast,BitVec.toNat_shiftLeft,Nat.shiftLeft_eq]
 congr 2
 rw[show (1#64).toNat = 1 from rfl,Nat.one_mul,Nat.mod_eq_of_lt h2]
theorem splice_rel (n:Nat) (R:Rw):splice (.i .i64 0 :: List.replicate 40 (.i .u64 0)) 0 (relC n R) = relC n R:=by
 have h:∀ (cs vs:List AV) (a b:AV),vs.length = cs.length→splice (a :: cs) 0 (b :: vs) = b :: vs:=by
  intro cs vs a b h
  cases vs with
  | nil => cases cs<;>first | rfl | simp at h
  | cons v vs =>
    show [] ++ (b :: v :: vs) ++ List.drop (0 + (b :: v :: vs).length) (a :: cs) = _
    rw[List.drop_eq_nil_of_le (by simp at h ⊢;omega)]
    simp
 exact h _ _ _ _ (by simp[rowsC_len])
theorem part_rel (n:Nat) (R:Rw):part (relC n R) 0 (some 41) = some (.agg (relC n R)):=by
 simp[part,relC_len]
 rw[List.take_of_length_le (by rw[relC_len];omega)]
theorem frz_U (hp x):frz hp depth (U x) = some (U x):=frz_d_i hp .u64 _
theorem flat_U (x):flat (U x) = true:=rfl
theorem vis_U (hp x):vis hp depth (U x) = []:=vis_i hp .u64 _
theorem part_rows (R:Rw):part (rowsC R) 0 (some 40) = some (.agg (rowsC R)):=by
 simp[part,rowsC_len]
 rw[List.take_of_length_le (by rw[rowsC_len];omega)]
theorem cellsEq_U:∀ l:List (BitVec 64),cellsEq (List.replicate l.length 0) (l.map U) (List.replicate l.length (.i .u64 0)) = some (l.all (· == 0#64))
 | [] => rfl
 | x :: l => by
   simp only[List.length_cons,List.replicate_succ,List.map_cons,cellsEq,cellsEq_U l,List.all_cons]
   show (match cellEq 0 (U x) (.i .u64 0),some (l.all (· == 0#64)) with | some a,some b => some (a && b) | _,_ => none) = _
   have:cellEq 0 (U x) (.i .u64 0) = some (x == 0#64):=by
    simp only[U,cellEq,if_true]
    congr 1
    by_cases h:x = 0#64
    ·subst h;rfl
    ·have:x.toNat≠0:=fun h' => h (BitVec.eq_of_toNat_eq (by simpa using h'))
     rw[Bool.eq_iff_iff]
     simp[h];omega
   rw[this]
def noneR (R:Rw):Bool:=(List.range 40).all fun a => R a == 0#64
theorem eqa_rows (R:Rw):aeqa (List.replicate 40 0) (.agg (rowsC R)) (.agg (List.replicate 40 (.i .u64 0))) = some (noneR R):=by
 have:=cellsEq_U ((List.range 40).map R)
 simp only[List.length_map,List.length_range,List.map_map] at this
 show cellsEq _ _ _ = _
 unfold rowsC noneR
 rw[show (fun a => U (R a)) = U ∘ R from rfl,this,List.all_map]
 rfl
theorem rl:type_of% (And.intro (And.intro (And.intro (And.intro @relC_n @relC_row) (And.intro @relC_row' (And.intro @relC_drop1 @relC_len))) (And.intro (And.intro @rowsC_len (And.intro @relC_one @relC_flat)) (And.intro @cellsOf_U (And.intro @one_U @frz_U)))) (And.intro (And.intro (And.intro @flat_U @vis_U) (And.intro @relC_set' (And.intro @u_shl @u_or))) (And.intro (And.intro @u_and (And.intro @u_andNot @part_rel)) (And.intro @splice_rel (And.intro @part_rows @eqa_rows))))):=(And.intro (And.intro (And.intro (And.intro @relC_n @relC_row) (And.intro @relC_row' (And.intro @relC_drop1 @relC_len))) (And.intro (And.intro @rowsC_len (And.intro @relC_one @relC_flat)) (And.intro @cellsOf_U (And.intro @one_U @frz_U)))) (And.intro (And.intro (And.intro @flat_U @vis_U) (And.intro @relC_set' (And.intro @u_shl @u_or))) (And.intro (And.intro @u_and (And.intro @u_andNot @part_rel)) (And.intro @splice_rel (And.intro @part_rows @eqa_rows)))))
end Go.Ab
end
section
set_option linter.unusedVariables false
set_option linter.unusedSimpArgs false
namespace Go.Ab
variable {F:Funs}
def has (n:Nat) (R:Rw) (a b:Int):Bool:=decide (0≤a∧a < n∧0≤b∧b < n) && (R a.toNat).getLsbD b.toNat
end Go.Ab
end
section
set_option linter.unusedVariables false
set_option linter.unusedSimpArgs false
namespace Go.Ab
variable {F:Funs}
theorem pairsC_len (l:List (Int × Int)):(pairsC l).length = l.length * 2:=by
 induction l with
 | nil => rfl
 | cons p l ih => simp only[pairsC,List.flatMap_cons,List.length_append,List.length_cons,List.length_nil] at ih ⊢;omega
theorem i64_wrap {x:Int} (h:-9223372036854775808≤x) (h2:x≤9223372036854775807):IntKind.i64.wrap x = x:=by
 simp[IntKind.wrap,IntKind.bits,IntKind.signed,IntKind.min,IntKind.max]
 omega
end Go.Ab
end
section
set_option linter.unusedVariables false
set_option linter.unusedSimpArgs false
namespace Go.Ab
variable {F:Funs}
theorem succ_wrap {k:Nat} (h:k < 9000000000000000000):IntKind.i64.wrap ((k:Int) + 1) = ((k + 1:Nat):Int):=by rw[i64_wrap (by omega) (by omega)];omega
end Go.Ab
end
section
set_option linter.unusedVariables false
set_option linter.unusedSimpArgs false
namespace Go.Ab
variable {F:Funs}
theorem pairsC_app (l m:List (Int × Int)):pairsC (l ++ m) = pairsC l ++ pairsC m:=by simp[pairsC]
def Live (g:G) (esz:Nat) (t:Tok):Prop:=t = .rig∨∃ τ,t = .own τ esz∧g.hp τ = some (.tok true)∧τ < g.nx
end Go.Ab
end
section
set_option linter.unusedVariables false
set_option linter.unusedSimpArgs false
namespace Go.Ab
def hb (R:Rw) (a b:Nat):Bool:=(R a).getLsbD b
inductive Thru (r:Nat→Nat→Prop) (k:Nat):Nat→Nat→Prop
 | one {a b}:r a b→Thru r k a b
 | join {a c b}:c < k→Thru r k a c→Thru r k c b→Thru r k a b
theorem Thru.mono {r:Nat→Nat→Prop} {k k':Nat} (h:k≤k') {a b:Nat} (t:Thru r k a b):Thru r k' a b:=by
 induction t with
 | one h => exact .one h
 | join hc _ _ ih1 ih2 => exact .join (by omega) ih1 ih2
inductive Steps' (r:Nat→Nat→Prop):Nat→Nat→Prop
 | one {a b}:r a b→Steps' r a b
 | join {a c b}:Steps' r a c→Steps' r c b→Steps' r a b
end Go.Ab
end
section
set_option linter.unusedVariables false
set_option linter.unusedSimpArgs false
namespace Go.Ab
variable {F:Funs}
theorem t1_neg (u n:Int) (e1:u % n + n * (u / n) = u):-u = (n - u % n) + n * (-(u / n) - 1):=by
 have e2:n * (-(u / n) - 1) = -(n * (u / n)) - n:=by rw[Int.mul_sub,Int.mul_neg,Int.mul_one]
 rw[e2]
 generalize n * (u / n) = c at *
 generalize u % n = b at *
 omega
theorem tmod_cases {v n:Int} (hn:0 < n):(if v.tmod n < 0 then v.tmod n + n else v.tmod n) = v % n:=by
 have h2:=Int.emod_nonneg v (by omega:n≠0)
 have h3:=Int.emod_lt_of_pos v hn
 by_cases hv:0≤v
 ·rw[Int.tmod_eq_emod_of_nonneg hv,if_neg (by omega)]
 ·obtain ⟨u,rfl⟩:∃ u,v = -u:=⟨-v,by omega⟩
  rw[Int.neg_tmod,Int.tmod_eq_emod_of_nonneg (by omega:0≤u)]
  have h4:=Int.emod_nonneg u (by omega:n≠0)
  have h5:=Int.emod_lt_of_pos u hn
  have e1:=Int.emod_add_mul_ediv u n
  by_cases h6:u % n = 0
  ·rw[h6,Int.neg_zero,if_neg (by omega)]
   exact (Int.emod_eq_zero_of_dvd (Int.dvd_neg.2 (Int.dvd_of_emod_eq_zero h6))).symm
  ·rw[if_pos (by omega)]
   have e3:(-u) % n = n - u % n:=by
    rw[t1_neg u n e1,Int.add_mul_emod_self_left,Int.emod_eq_of_lt (by omega) (by omega)]
   rw[e3]
   omega
theorem tmod_bound {v n:Int} (hn:0 < n):-n≤v.tmod n∧v.tmod n < n:=by
 refine ⟨?_,Int.tmod_lt_of_pos v hn⟩
 have h1:=tmod_cases (v:=v) hn
 have h2:=Int.emod_nonneg v (by omega:n≠0)
 split at h1<;>omega
def place (v n:Int):Int:=v % n
theorem place_lt {v n:Int} (hn:0 < n):0≤place v n∧place v n < n:=⟨Int.emod_nonneg v (by omega),Int.emod_lt_of_pos v hn⟩
theorem sp_place (h10:F 10 = some A_xlaw00_Place) {v n:Int} (hn:0 < n) (hb:n≤4611686018427387904):pureS F 10 [.i .i64 v,.i .i64 n] = some (.i .i64 (place v n)):=by
 refine pure_of h10 ?_
 have h1:=tmod_cases (v:=v) hn
 obtain ⟨h2,h3⟩:=tmod_bound (v:=v) hn
 unfold place
 by_cases h:v.tmod n < 0
 ·have hw:IntKind.i64.wrap (v.tmod n + n) = v.tmod n + n:=i64_wrap (by omega) (by omega)
  rw[if_pos h] at h1
  simp (disch:=omega) only[A_xlaw00_Place,wp,qa,qb,qc,b_rem,h,hw]
  rw[h1]
 ·rw[if_neg h] at h1
  simp (disch:=omega) only[A_xlaw00_Place,wp,qa,qb,qc,b_rem,h]
  rw[h1]
end Go.Ab
end
section
set_option linter.unusedVariables false
set_option linter.unusedSimpArgs false
namespace Go.Ab
variable {F:Funs}
theorem ints_part {l:List Int} {k:Nat} (h:k < l.length):part ((intsC l).drop (k * 1)) 0 none = some (.i .i64 (l.getD k 0)):=by
 simp only[part,intsC,List.getElem?_drop,Nat.mul_one,Nat.add_zero,List.getElem?_map,List.getElem?_eq_getElem h,Option.map_some,List.getD_eq_getElem?_getD,Option.getD_some]
theorem Steps'.mono {r s:Nat→Nat→Prop} (h:∀ a b,r a b→s a b) {a b:Nat} (t:Steps' r a b):Steps' s a b:=by
 induction t with
 | one h' => exact .one (h _ _ h')
 | join _ _ i1 i2 => exact .join i1 i2
theorem Steps'.first {r:Nat→Nat→Prop} {a b:Nat} (t:Steps' r a b):r a b∨∃ c,r a c∧Steps' r c b:=by
 induction t with
 | one h => exact .inl h
 | @join a c b t1 t2 i1 i2 =>
   rcases i1 with h | ⟨d,h1,h2⟩
   ·exact .inr ⟨c,h,t2⟩
   ·exact .inr ⟨d,h1,.join h2 t2⟩
end Go.Ab
end
section
set_option linter.unusedVariables false
set_option linter.unusedSimpArgs false
namespace Go.Ab
noncomputable def vThaw (F:Funs) (al:Nat→Bool) (id:Nat) (f:AV) (args:List AV) (g:G):Option (AV × G):=vCall (callS F) al id .thaw f args g
theorem o_thaw {F:Funs} {al lo id e g} (f:Opd) (asx:List Opd):opE (callS F) al lo id (.call .thaw f asx) e g = vThaw F al id (f.ev e) (asx.map (·.ev e)) g:=rfl
def retT (rs:List ARes) (cs:List AV):Out→Env→G→Prop
 | .ext _,_,_ => False
 | _,e,g => ∃ b,resE rs e g = some (.mp b 0)∧g.hp b = some (.cells cs false)
theorem retT_nrm {rs cs e g}:retT rs cs .nrm e g = (∃ b,resE rs e g = some (.mp b 0)∧g.hp b = some (.cells cs false)):=rfl
theorem retT_ret {rs cs e g}:retT rs cs .ret e g = (∃ b,resE rs e g = some (.mp b 0)∧g.hp b = some (.cells cs false)):=rfl
section
variable {F:Funs}
end
end Go.Ab
end
section
set_option linter.unusedVariables false
set_option linter.unusedSimpArgs false
namespace Go.Ab
noncomputable def vRaw (F:Funs) (al:Nat→Bool) (id:Nat) (f:AV) (args:List AV) (g:G):Option (AV × G):=vCall (callS F) al id .raw f args g
theorem o_raw {F:Funs} {al lo id e g} (f:Opd) (asx:List Opd):opE (callS F) al lo id (.call .raw f asx) e g = vRaw F al id (f.ev e) (asx.map (·.ev e)) g:=rfl
theorem vRaw_fn {F:Funs} {al id fid fst caps args g}:vRaw F al id (.fn fid fst caps) args g = callS F fid (fst ++ args ++ caps) g:=rfl
noncomputable def vSee (F:Funs) (al:Nat→Bool) (id:Nat) (f:AV) (args:List AV) (g:G):Option (AV × G):=vCall (callS F) al id .see f args g
theorem o_see {F:Funs} {al lo id e g} (f:Opd) (asx:List Opd):opE (callS F) al lo id (.call .see f asx) e g = vSee F al id (f.ev e) (asx.map (·.ev e)) g:=rfl
theorem vSee_fn {F:Funs} {al id fid fst caps args g}:vSee F al id (.fn fid fst caps) args g = seeR g (callS F fid (fst ++ args ++ caps) g):=rfl
def Stays (g g':G):Prop:=∀ i b,g.hp i = some b→g'.hp i = some b
theorem bindO_see {F:Funs} {d b j dst os e K fid asx g} (P:AV→G→Prop) (h:∃ v g',callS F fid asx g = some (v,g')∧P v g') (hs:∀ v g',P v g'→Stays g g') (hk:∀ v g',P v g'→WR F d b j os (put e dst v) g' K):bindO F d b j dst os e K (seeR g (callS F fid asx g)):=by
 obtain ⟨v,g',h1,h2⟩:=h
 rw[h1,seeR_some (hs v g' h2)]
 exact hk v g' h2
theorem bindO_call {F:Funs} {d b j dst os e K fid asx g} (P:AV→G→Prop) (h:∃ v g',callS F fid asx g = some (v,g')∧P v g') (hk:∀ v g',P v g'→WR F d b j os (put e dst v) g' K):bindO F d b j dst os e K (callS F fid asx g):=by
 obtain ⟨v,g',h1,h2⟩:=h
 rw[h1]
 exact hk v g' h2
def retP (rs:List ARes) (P:AV→G→Prop):Out→Env→G→Prop
 | .ext _,_,_ => False
 | _,e,g => ∃ v,resE rs e g = some v∧P v g
theorem retP_nrm {rs P e g}:retP rs P .nrm e g = (∃ v,resE rs e g = some v∧P v g):=rfl
theorem retP_ret {rs P e g}:retP rs P .ret e g = (∃ v,resE rs e g = some v∧P v g):=rfl
theorem raw_of {F:Funs} {f:Nat} {fn:AFun} {asx:List AV} {g:G} {P:AV→G→Prop} (hF:F f = some fn) (h:W F fn.body (argEnv asx) g (retP fn.res P)):∃ v g',callS F f asx g = some (v,g')∧P v g':=by
 obtain ⟨o,e,g',h1,h2⟩:=h
 rw[callS_eq,hF]
 simp only[h1]
 cases o with
 | ext n => exact h2.elim
 | nrm =>
   obtain ⟨v,h3,h4⟩:=h2
   exact ⟨v,g',by simp only[h3,Option.map_some],h4⟩
 | ret =>
   obtain ⟨v,h3,h4⟩:=h2
   exact ⟨v,g',by simp only[h3,Option.map_some],h4⟩
theorem res_0 (e g):resE [] e g = some (.tup []):=rfl
def mgS (k:ByteArray) (g:G):Option Blk→Option (AV × G)
 | some (.map es) => vMap g (mlook es k)
 | _ => none
theorem o_mget {c:CS} {al:Nat→Bool} {lo id:Nat} {e:Env} {g:G} (m k):opE c al lo id (.mget m k) e g = vMget al (m.ev e) (k.ev e) g:=rfl
theorem vMget_S {al:Nat→Bool} {g:G} (b k):vMget al (.mm b) (.s k) g = mgS k g (selB (al b) (g.hp b)):=by
 simp only[vMget,rd_S]
 cases selB (al b) (g.hp b) with
 | none => rfl
 | some bl => cases bl<;>rfl
theorem mgS_map (k g es):mgS k g (some (.map es)) = vMap g (mlook es k):=rfl
theorem o_mkmap {c:CS} {al:Nat→Bool} {lo id:Nat} {e:Env} {g:G}:opE c al lo id .mkmap e g = some (.mm id,⟨upd g.hp id (some (.map [])),g.nx⟩):=rfl
theorem o_mput {c:CS} {al:Nat→Bool} {lo id:Nat} {e:Env} {g:G} (m k v):opE c al lo id (.mput m k v) e g = vMput al (m.ev e) (k.ev e) (v.ev e) g:=rfl
def mpO (b:Nat) (k:ByteArray) (v:AV) (es:List (AV × AV)) (g:G) (x:Bool):Option AV→Option (AV × G)
 | none => if x then some (.undef,⟨upd g.hp b (some (.map (es ++ [(.s k,v)]))),g.nx⟩) else none
 | some _ => none
def mpS (b:Nat) (k:ByteArray) (v:AV) (g:G) (x:Bool):Option Blk→Option (AV × G)
 | some (.map es) => mpO b k v es g x (mlook es k)
 | _ => none
theorem vMput_S {al:Nat→Bool} {g:G} (b k v):vMput al (.mm b) (.s k) v g = mpS b k v g (one v) (selB (al b) (g.hp b)):=by
 simp only[vMput,rd_S]
 cases selB (al b) (g.hp b) with
 | none => rfl
 | some bl =>
   cases bl with
   | map es => simp only[mpS];cases mlook es k<;>rfl
   | cells _ _ => rfl
   | tok _ => rfl
theorem mpS_map (b k v g x es):mpS b k v g x (some (.map es)) = mpO b k v es g x (mlook es k):=rfl
theorem mpO_none (b k v es g):mpO b k v es g true none = some (.undef,⟨upd g.hp b (some (.map (es ++ [(.s k,v)]))),g.nx⟩):=rfl
theorem frz_d_agg {hp cs ds} (h:frzL hp 8 cs = some ds):frz hp depth (.agg cs) = some (.agg ds):=by
 show frz hp (8 + 1) _ = _
 simp only[frz,h,Option.map_some]
end Go.Ab
end
section
set_option linter.unusedVariables false
set_option linter.unusedSimpArgs false
namespace Go.Ab
structure Ev where
 th:Int
 kd:Int
 md:Int
 lc:Int
 vl:Int
 ex:Bool
structure Gr where
 locs:Int
 evs:List Ev
 rf:List Int
 co:List (List Int)
 rmw:List (Int × Int)
 data:List (Int × Int)
 ctrl:List (Int × Int)
 ctrli:List (Int × Int)
def ev0:Ev:=⟨0,0,0,0,0,false⟩
def evC (e:Ev):List AV:=[.i .i64 e.th,.i .i64 e.kd,.i .i64 e.md,.i .i64 e.lc,.i .i64 e.vl,.b e.ex]
def evsC (l:List Ev):List AV:=l.flatMap evC
def coC (l:List (List Int)):List AV:=l.map fun c => .sl (intsC c) c.length .non
def grC (g:Gr):List AV:=[.i .i64 g.locs,.sl (evsC g.evs) g.evs.length .non,.sl (intsC g.rf) g.rf.length .non,.sl (coC g.co) g.co.length .non,
 .sl (pairsC g.rmw) g.rmw.length .non,.sl (pairsC g.data) g.data.length .non,.sl (pairsC g.ctrl) g.ctrl.length .non,.sl (pairsC g.ctrli) g.ctrli.length .non]
theorem evsC_len (l:List Ev):(evsC l).length = l.length * 6:=by
 induction l with
 | nil => rfl
 | cons p l ih => simp only[evsC,List.flatMap_cons,List.length_append,List.length_cons,evC,List.length_nil] at ih ⊢;omega
theorem ev_part:∀ {l:List Ev} {k:Nat} (h:k < l.length),part ((evsC l).drop (k * 6)) 0 (some 6) = some (.agg (evC (l.getD k ev0)))
 | p :: l,0,_ => by simp[evsC,part,evC]
 | p :: l,k + 1,h => by
   have:=ev_part (l:=l) (k:=k) (by simpa using h)
   simp only[List.getD_cons_succ]
   rw[←this]
   simp[evsC,Nat.succ_mul,evC]
theorem coC_len (l:List (List Int)):(coC l).length = l.length:=by simp[coC]
theorem co_part {l:List (List Int)} {k:Nat} (h:k < l.length):part ((coC l).drop (k * 1)) 0 none = some (.sl (intsC (l.getD k [])) (l.getD k []).length .non):=by
 simp only[part,coC,List.getElem?_drop,Nat.mul_one,Nat.add_zero,List.getElem?_map,List.getElem?_eq_getElem h,Option.map_some,List.getD_eq_getElem?_getD,Option.getD_some]
theorem splice_ev (e:Ev):splice (List.replicate 5 (AV.i .i64 0) ++ [.b false]) 0 (evC e) = evC e:=rfl
theorem part_22 (a b:AV):part [a,b] 0 (some 2) = some (.agg [a,b]):=rfl
theorem evC_len (e:Ev):(evC e).length = 6:=rfl
theorem evC_one (e:Ev):(evC e).all one = true:=rfl
theorem evC_flat (e:Ev):(evC e).all flat = true:=rfl
theorem evC_all (e:Ev):part (evC e) 0 (some 6) = some (.agg (evC e)):=rfl
theorem ev_th (e:Ev):part (evC e) 0 none = some (.i .i64 e.th):=rfl
theorem ev_kd (e:Ev):part (evC e) 1 none = some (.i .i64 e.kd):=rfl
theorem ev_md (e:Ev):part (evC e) 2 none = some (.i .i64 e.md):=rfl
theorem ev_lc (e:Ev):part (evC e) 3 none = some (.i .i64 e.lc):=rfl
theorem ev_vl (e:Ev):part (evC e) 4 none = some (.i .i64 e.vl):=rfl
theorem ev_ex (e:Ev):part (evC e) 5 none = some (.b e.ex):=rfl
theorem grC_len (g:Gr):(grC g).length = 8:=rfl
theorem grC_one (g:Gr):(grC g).all one = true:=rfl
theorem grC_all (g:Gr):part (grC g) 0 (some 8) = some (.agg (grC g)):=rfl
theorem gr_locs (g:Gr):part (grC g) 0 none = some (.i .i64 g.locs):=rfl
theorem gr_evs (g:Gr):part (grC g) 1 none = some (.sl (evsC g.evs) g.evs.length .non):=rfl
theorem gr_rf (g:Gr):part (grC g) 2 none = some (.sl (intsC g.rf) g.rf.length .non):=rfl
theorem gr_co (g:Gr):part (grC g) 3 none = some (.sl (coC g.co) g.co.length .non):=rfl
theorem gr_rmw (g:Gr):part (grC g) 4 none = some (.sl (pairsC g.rmw) g.rmw.length .non):=rfl
theorem gr_data (g:Gr):part (grC g) 5 none = some (.sl (pairsC g.data) g.data.length .non):=rfl
theorem gr_ctrl (g:Gr):part (grC g) 6 none = some (.sl (pairsC g.ctrl) g.ctrl.length .non):=rfl
theorem gr_ctrli (g:Gr):part (grC g) 7 none = some (.sl (pairsC g.ctrli) g.ctrli.length .non):=rfl
theorem frz_gr (hp) (g:Gr):frz hp depth (.agg (grC g)) = some (.agg (grC g)):=by
 refine frz_d_agg ?_
 show frzL hp (7 + 1) _ = _
 simp only[grC,frzL,frz]
theorem frz_ev (hp) (e:Ev):frz hp depth (.agg (evC e)) = some (.agg (evC e)):=frz_d_agg (frzL_flat (d:=7) (evC_flat e))
theorem vis_gr (hp) (g:Gr):vis hp depth (.agg (grC g)) = []:=by
 show vis hp (8 + 1) _ = _
 simp only[vis,grC,List.flatMap_cons,List.flatMap_nil,List.nil_append,List.append_nil]
theorem vis_ev (hp) (e:Ev):vis hp depth (.agg (evC e)) = []:=by
 show vis hp (8 + 1) _ = _
 simp only[vis,evC,List.flatMap_cons,List.flatMap_nil,List.nil_append,List.append_nil]
theorem gl:type_of% (And.intro (And.intro (And.intro (And.intro (And.intro @evC_len @evC_one) (And.intro @evC_flat (And.intro @evC_all @ev_th))) (And.intro (And.intro @ev_kd (And.intro @ev_md @ev_lc)) (And.intro @ev_vl (And.intro @ev_ex @grC_len)))) (And.intro (And.intro (And.intro @grC_one @grC_all) (And.intro @gr_locs (And.intro @gr_evs @gr_rf))) (And.intro (And.intro @gr_co (And.intro @gr_rmw @gr_data)) (And.intro @gr_ctrl (And.intro @gr_ctrli @frz_gr))))) (And.intro (And.intro (And.intro (And.intro @frz_ev @vis_gr) (And.intro @vis_ev (And.intro @splice_ev @evsC_len))) (And.intro (And.intro @coC_len (And.intro @o_raw @vRaw_fn)) (And.intro @o_see (And.intro @vSee_fn @res_0)))) (And.intro (And.intro (And.intro @retP_nrm @retP_ret) (And.intro @o_mget (And.intro @vMget_S @mgS_map))) (And.intro (And.intro @o_mkmap (And.intro @o_mput @vMput_S)) (And.intro @mpS_map (And.intro @mpO_none @part_22)))))):=(And.intro (And.intro (And.intro (And.intro (And.intro @evC_len @evC_one) (And.intro @evC_flat (And.intro @evC_all @ev_th))) (And.intro (And.intro @ev_kd (And.intro @ev_md @ev_lc)) (And.intro @ev_vl (And.intro @ev_ex @grC_len)))) (And.intro (And.intro (And.intro @grC_one @grC_all) (And.intro @gr_locs (And.intro @gr_evs @gr_rf))) (And.intro (And.intro @gr_co (And.intro @gr_rmw @gr_data)) (And.intro @gr_ctrl (And.intro @gr_ctrli @frz_gr))))) (And.intro (And.intro (And.intro (And.intro @frz_ev @vis_gr) (And.intro @vis_ev (And.intro @splice_ev @evsC_len))) (And.intro (And.intro @coC_len (And.intro @o_raw @vRaw_fn)) (And.intro @o_see (And.intro @vSee_fn @res_0)))) (And.intro (And.intro (And.intro @retP_nrm @retP_ret) (And.intro @o_mget (And.intro @vMget_S @mgS_map))) (And.intro (And.intro @o_mkmap (And.intro @o_mput @vMput_S)) (And.intro @mpS_map (And.intro @mpO_none @part_22))))))
end Go.Ab
end
section
set_option linter.unusedVariables false
set_option linter.unusedSimpArgs false
namespace Go.Ab
variable {F:Funs}
structure EcoSt (X:Gr) (l:List (Int × Int)) (g:G):Prop where
 gr:g.hp 0 = some (.cells (grC X) false)
 put:∃ t,g.hp 2 = some (.cells [.sl (pairsC l) l.length t] false)∧Live g 2 t
 f4:g.hp 4 = some (.cells [.fn 92 [] [.mp 2 0]] false)
 f7:g.hp 7 = some (.cells [.fn 93 [] [.mp 0 0,.mp 4 0]] false)
 m9:g.hp 9 = some (.map [(.s ⟨#[114,102]⟩,.fn 94 [] [.mp 4 0]),(.s ⟨#[99,111]⟩,.fn 95 [] [.mp 7 0]),(.s ⟨#[102,114]⟩,.fn 96 [] [.mp 7 0])])
 nx:9 < g.nx
def Kept (g g':G):Prop:=g.nx≤g'.nx∧∀ i,9 < i→i < g.nx→CM (g.hp i)→g'.hp i = g.hp i
theorem Kept.refl (g:G):Kept g g:=⟨Nat.le_refl _,fun _ _ _ _ => rfl⟩
theorem Kept.trans {g g1 g2:G} (h:Kept g g1) (k:Kept g1 g2):Kept g g2:=⟨Nat.le_trans h.1 k.1,fun i h1 h2 h3 => by
 have e:=h.2 i h1 h2 h3
 rw[←e]
 exact k.2 i h1 (Nat.lt_of_lt_of_le h2 h.1) (by rw[e];exact h3)⟩
theorem EcoSt.same {X:Gr} {l:List (Int × Int)} {g g':G} (h:EcoSt X l g) (k:Kept g g') (h9:∀ i,i≤9→g'.hp i = g.hp i) (ht:∀ i b,g.hp i = some (.tok b)→g'.hp i = g.hp i):EcoSt X l g':=by
 obtain ⟨t,h1,h2⟩:=h.put
 refine ⟨by rw[h9 0 (by omega)];exact h.gr,⟨t,by rw[h9 2 (by omega)];exact h1,?_⟩,by rw[h9 4 (by omega)];exact h.f4,by rw[h9 7 (by omega)];exact h.f7,by rw[h9 9 (by omega)];exact h.m9,Nat.lt_of_lt_of_le h.nx k.1⟩
 rcases h2 with rfl | ⟨τ,rfl,hτ,hlt⟩
 ·exact .inl rfl
 ·exact .inr ⟨τ,rfl,by rw[ht τ _ hτ];exact hτ,Nat.lt_of_lt_of_le hlt k.1⟩
end Go.Ab
end
section
set_option linter.unusedVariables false
set_option linter.unusedSimpArgs false
namespace Go.Ab
variable {F:Funs}
theorem EcoSt.on {X:Gr} {l:List (Int × Int)} {g:G} (h:EcoSt X l g) {n:Nat} (hn:g.nx≤n):EcoSt X l ⟨g.hp,n⟩:=
 h.same ⟨hn,fun _ _ _ _ => rfl⟩ (fun _ _ => rfl) (fun _ _ _ => rfl)
theorem Kept.on {g g':G} (h:Kept g g') {n:Nat} (hn:g'.nx≤n):Kept g ⟨g'.hp,n⟩:=⟨Nat.le_trans h.1 hn,h.2⟩
theorem Kept.from {g g':G} {n:Nat} (hn:g.nx≤n) (h:Kept ⟨g.hp,n⟩ g'):Kept g g':=⟨Nat.le_trans hn h.1,fun i h1 h2 h3 => h.2 i h1 (Nat.lt_of_lt_of_le h2 hn) h3⟩
end Go.Ab
end
section
set_option linter.unusedVariables false
set_option linter.unusedSimpArgs false
namespace Go.Ab
variable {F:Funs}
theorem EcoSt.grow {X:Gr} {l:List (Int × Int)} {g g':G} (h:EcoSt X l g) (hn:g.nx≤g'.nx) (ho:∀ i,i < g.nx→g'.hp i = g.hp i):EcoSt X l g'∧Kept g g':=by
 have h9:=h.nx
 obtain ⟨t,h1,h2⟩:=h.put
 refine ⟨⟨by rw[ho 0 (by omega)];exact h.gr,⟨t,by rw[ho 2 (by omega)];exact h1,?_⟩,by rw[ho 4 (by omega)];exact h.f4,by rw[ho 7 (by omega)];exact h.f7,by rw[ho 9 (by omega)];exact h.m9,by omega⟩,hn,fun i _ hi _ => ho i hi⟩
 rcases h2 with rfl | ⟨τ,rfl,hτ,hlt⟩
 ·exact .inl rfl
 ·exact .inr ⟨τ,rfl,by rw[ho τ hlt];exact hτ,by omega⟩
end Go.Ab
end
section
set_option linter.unusedVariables false
set_option linter.unusedSimpArgs false
namespace Go.Ab
variable {F:Funs}
def resC (agg:Option Nat) (g:G):AV→Option AV
 | .mp b off => match g.hp b with
   | some (.cells cs _) => part cs off agg
   | _ => none
 | _ => none
theorem res_cell (n agg e g):resE [.cell n agg] e g = resC agg g (e n):=by
 simp only[resE,resAll,resOne,resC]
 cases e n<;>try rfl
 rename_i b off
 simp only
 cases g.hp b with
 | none => rfl
 | some bl =>
   cases bl with
   | cells cs ro => simp only;cases part cs off agg<;>rfl
   | map _ => rfl
   | tok _ => rfl
end Go.Ab
end
section
set_option linter.unusedVariables false
set_option linter.unusedSimpArgs false
namespace Go.Ab
variable {F:Funs}
theorem q_nat {x y:Int} (hx:0≤x) (hm:x≤9223372036854775807) (hy:0 < y):abin .quo (.i .i64 x) (.i .i64 y) = some (.i .i64 (x / y)):=by
 rw[b_quo (by omega),Int.tdiv_eq_ediv_of_nonneg hx]
 have h1:=Int.ediv_nonneg hx (by omega:0≤y)
 have h2:=Int.ediv_le_self y hx
 rw[i64_wrap (by omega) (by omega)]
theorem r_nat {x y:Int} (hx:0≤x) (hy:0 < y):abin .rem (.i .i64 x) (.i .i64 y) = some (.i .i64 (x % y)):=by
 rw[b_rem (by omega),Int.tmod_eq_emod_of_nonneg hx]
theorem o_idx {c:CS} {al:Nat→Bool} {lo id:Nat} {e:Env} {g:G} (len esz agg x i):opE c al lo id (.idx len esz agg x i) e g = vIdx len esz agg (x.ev e) (i.ev e) g:=rfl
theorem part_ag2 (a b:AV):part [a,b] 0 (some 2) = some (.agg [a,b]):=rfl
theorem part_ag7 (a b c d e f x:AV):part [a,b,c,d,e,f,x] 0 (some 7) = some (.agg [a,b,c,d,e,f,x]):=rfl
theorem frz_ag2 (hp:Nat→Option Blk) (x y:Int):frz hp depth (.agg [.i .i64 x,.i .i64 y]) = some (.agg [.i .i64 x,.i .i64 y]):=by
 refine frz_d_agg ?_
 show frzL _ (7 + 1) _ = _
 simp only[frzL,frz]
theorem frz_ag7 (hp:Nat→Option Blk) (a b c d e f:Int) (cs:List AV) (n:Nat) (t:Tok):frz hp depth (.agg [.i .i64 a,.i .i64 b,.i .i64 c,.i .i64 d,.i .i64 e,.sl cs n t,.i .i64 f]) = some (.agg [.i .i64 a,.i .i64 b,.i .i64 c,.i .i64 d,.i .i64 e,.sl cs n .non,.i .i64 f]):=by
 refine frz_d_agg ?_
 show frzL _ (7 + 1) _ = _
 simp only[frzL,frz]
def tkC (e:List (Int × Int)):List AV:=e.flatMap fun p => [.i .i64 p.1,.i .i64 p.2]
def exV (e:List (Int × Int)):AV:=.sl (tkC e) e.length .non
structure Ins where
 kd:Int
 md:Int
 md2:Int
 rg:Int
 lc:Int
 ex:List (Int × Int)
 n:Int
def insC (x:Ins):List AV:=[.i .i64 x.kd,.i .i64 x.md,.i .i64 x.md2,.i .i64 x.rg,.i .i64 x.lc,exV x.ex,.i .i64 x.n]
def exM (a b m:Int):List (Int × Int):=
 if m≤2 then [(1,b)] else if m≤5 then [(2,a)] else if m = 6 then [(2,a),(2,a),(3,4)] else if m = 7 then [(2,a),(1,b),(3,5)] else if m = 8 then [(2,a),(1,b),(3,6)] else [(1,b),(1,1),(3,3)]
def exN (v:Int):List (Int × Int):=exM (place v 1073741824 / 10 % 3) (place v 1073741824 / 30 % 3) (place v 1073741824 % 10)
theorem sp_num (h:F 108 = some A_xlaw00_num) (v:Int):pureS F 108 [.i .i64 v] = some (.agg [.i .i64 1,.i .i64 v]):=by
 refine pure_of h ?_
 simp (disch:=omega) only[A_xlaw00_num,wp,qa,qb,qc,res_cell,resC,part_ag2,frz_ag2]
theorem sp_reg (h:F 123 = some A_xlaw00_reg) (v:Int):pureS F 123 [.i .i64 v] = some (.agg [.i .i64 2,.i .i64 v]):=by
 refine pure_of h ?_
 simp (disch:=omega) only[A_xlaw00_reg,wp,qa,qb,qc,res_cell,resC,part_ag2,frz_ag2]
theorem sp_op (h:F 124 = some A_xlaw00_op) (v:Int):pureS F 124 [.i .i64 v] = some (.agg [.i .i64 3,.i .i64 v]):=by
 refine pure_of h ?_
 simp (disch:=omega) only[A_xlaw00_op,wp,qa,qb,qc,res_cell,resC,part_ag2,frz_ag2]
structure ProgF (F:Funs):Prop where
 place:F 10 = some A_xlaw00_Place
 num:F 108 = some A_xlaw00_num
 reg:F 123 = some A_xlaw00_reg
 op:F 124 = some A_xlaw00_op
 expr:F 107 = some A_xlaw00_Expr
 instr:F 97 = some A_xlaw00_Instr
theorem sp_expr (S:ProgF F) (v:Int):pureS F 107 [.i .i64 v] = some (exV (exN v)):=by
 refine pure_of S.expr ?_
 have hp:=sp_place S.place (v:=v) (n:=1073741824) (by omega) (by omega)
 obtain ⟨p0,p1⟩:=place_lt (v:=v) (n:=1073741824) (by omega)
 unfold exN
 generalize place v 1073741824 = k at hp p0 p1
 have q1:=q_nat (x:=k) (y:=10) p0 (by omega) (by omega)
 have r1:=r_nat (x:=k / 10) (y:=3) (by omega) (by omega)
 have q2:=q_nat (x:=k) (y:=30) p0 (by omega) (by omega)
 have r2:=r_nat (x:=k / 30) (y:=3) (by omega) (by omega)
 have r3:=r_nat (x:=k) (y:=10) p0 (by omega)
 have hm:0≤k % 10∧k % 10 < 10:=by omega
 generalize k % 10 = m at r3 hm
 generalize k / 10 % 3 = a at r1
 generalize k / 30 % 3 = b at r2
 have n1:=sp_num S.num b
 have n2:=sp_reg S.reg a
 have n3:=sp_num S.num 1
 have n4:=sp_op S.op
 have r4:∀ x:AV,List.replicate 4 x = [x,x,x,x]:=fun _ => rfl
 have r6:∀ x:AV,List.replicate 6 x = [x,x,x,x,x,x]:=fun _ => rfl
 have hc:m = 0∨m = 1∨m = 2∨m = 3∨m = 4∨m = 5∨m = 6∨m = 7∨m = 8∨m = 9:=by omega
 rcases hc with rfl | rfl | rfl | rfl | rfl | rfl | rfl | rfl | rfl | rfl
 all_goals
  simp (disch:=omega) only[A_xlaw00_Expr,wp,qa,qb,qc,hp,q1,r1,q2,r2,r3,n1,n2,n3,n4,r4,r6,part_ag2,Int.reduceBEq,splice,List.take_succ_cons,List.take_zero,List.drop_succ_cons,List.drop_zero]
  try rfl
def acqM (w:Int):Int:=if w / 7 % 3 = 2 then 1 else 0
def relM (w:Int):Int:=if w / 11 % 3 = 2 then 2 else 0
def insT (t w left:Int):Ins:=
 if t < 6 then ⟨1,acqM w,0,w % 3,w / 3 % 2,[],0⟩
 else if t < 12 then ⟨2,relM w,0,0,w / 3 % 2,exN (w / 12),0⟩
 else if t < 15 then ⟨3,1 + w / 5 % 4,0,0,0,[],0⟩
 else if t < 16 then ⟨4,acqM w,relM w,w % 3,w / 3 % 2,[(1,w / 17 % 2)],0⟩
 else if t < 18 then ⟨5,0,0,w % 3,0,exN (w / 12),0⟩
 else ⟨6,0,0,0,0,exN (w / 12),w / 19 % (left + 1)⟩
def insN (v left:Int):Ins:=insT (place v 1099511627776 % 20) (place v 1099511627776 / 20) left
theorem pick3 {g:G} {a z:Int} (h0:0≤z) (h1:z < 3):vIdx 3 1 none (.agg [.i .i64 0,.i .i64 0,.i .i64 a]) (.i .i64 z) g = some (.i .i64 (if z = 2 then a else 0),g):=by
 have hc:z = 0∨z = 1∨z = 2:=by omega
 rcases hc with rfl | rfl | rfl<;>rfl
theorem sp_instr (S:ProgF F) {v left:Int} (h0:0≤left) (h1:left≤1000):pureS F 97 [.i .i64 v,.i .i64 2,.i .i64 left] = some (.agg (insC (insN v left))):=by
 refine pure_of S.instr ?_
 have hp:=sp_place S.place (v:=v) (n:=1099511627776) (by omega) (by omega)
 obtain ⟨p0,p1⟩:=place_lt (v:=v) (n:=1099511627776) (by omega)
 unfold insN
 generalize place v 1099511627776 = k at hp p0 p1
 have q1:=q_nat (x:=k) (y:=20) p0 (by omega) (by omega)
 have r0:=r_nat (x:=k) (y:=20) p0 (by omega)
 have w0:0≤k / 20∧k / 20 < 1099511627776:=by omega
 have t0:0≤k % 20∧k % 20 < 20:=by omega
 generalize k / 20 = w at q1 w0
 generalize k % 20 = t at r0 t0
 have r1:=r_nat (x:=w) (y:=3) w0.1 (by omega)
 have q2:=q_nat (x:=w) (y:=3) w0.1 (by omega) (by omega)
 have r2:=r_nat (x:=w / 3) (y:=2) (by omega) (by omega)
 have q3:=q_nat (x:=w) (y:=12) w0.1 (by omega) (by omega)
 have q4:=q_nat (x:=w) (y:=7) w0.1 (by omega) (by omega)
 have r4:=r_nat (x:=w / 7) (y:=3) (by omega) (by omega)
 have q5:=q_nat (x:=w) (y:=11) w0.1 (by omega) (by omega)
 have r5:=r_nat (x:=w / 11) (y:=3) (by omega) (by omega)
 have q6:=q_nat (x:=w) (y:=5) w0.1 (by omega) (by omega)
 have r6:=r_nat (x:=w / 5) (y:=4) (by omega) (by omega)
 have q7:=q_nat (x:=w) (y:=17) w0.1 (by omega) (by omega)
 have r7:=r_nat (x:=w / 17) (y:=2) (by omega) (by omega)
 have q8:=q_nat (x:=w) (y:=19) w0.1 (by omega) (by omega)
 have w1:IntKind.i64.wrap (left + 1) = left + 1:=i64_wrap (by omega) (by omega)
 have r8:=r_nat (x:=w / 19) (y:=left + 1) (by omega) (by omega)
 have w2:IntKind.i64.wrap (1 + w / 5 % 4) = 1 + w / 5 % 4:=i64_wrap (by omega) (by omega)
 have he:=sp_expr S (w / 12)
 have hn:=sp_num S.num (w / 17 % 2)
 have i1:∀ g,vIdx 3 1 none (.agg [.i .i64 0,.i .i64 0,.i .i64 1]) (.i .i64 (w / 7 % 3)) g = some (.i .i64 (acqM w),g):=fun g => pick3 (by omega) (by omega)
 have i2:∀ g,vIdx 3 1 none (.agg [.i .i64 0,.i .i64 0,.i .i64 2]) (.i .i64 (w / 11 % 3)) g = some (.i .i64 (relM w),g):=fun g => pick3 (by omega) (by omega)
 have l5:∀ x:AV,List.replicate 5 x = [x,x,x,x,x]:=fun _ => rfl
 have s7:∀ a b c d e f x1 x2 x3 x4 x5 x6 x7 y:AV,splice [a,b,c,d,e,f,y] 0 [x1,x2,x3,x4,x5,x6,x7] = [x1,x2,x3,x4,x5,x6,x7]:=fun _ _ _ _ _ _ _ _ _ _ _ _ _ _ => rfl
 unfold exV at he
 by_cases c1:t < 6
 ·simp (disch:=omega) only[A_xlaw00_Instr,wp,qa,qb,qc,res_cell,resC,hp,q1,r0,r1,q2,r2,q3,he,o_idx,q4,r4,i1,q5,r5,i2,l5,s7,c1,part_ag7,frz_ag7]
  unfold insT;rw[if_pos c1];rfl
 by_cases c2:t < 12
 ·simp (disch:=omega) only[A_xlaw00_Instr,wp,qa,qb,qc,res_cell,resC,hp,q1,r0,r1,q2,r2,q3,he,o_idx,q4,r4,i1,q5,r5,i2,l5,s7,c1,c2,part_ag7,frz_ag7]
  unfold insT;rw[if_neg c1,if_pos c2];rfl
 by_cases c3:t < 15
 ·simp (disch:=omega) only[A_xlaw00_Instr,wp,qa,qb,qc,res_cell,resC,hp,q1,r0,r1,q2,r2,q3,he,o_idx,q4,r4,i1,q5,r5,i2,q6,r6,w2,l5,s7,c1,c2,c3,part_ag7,frz_ag7]
  unfold insT;rw[if_neg c1,if_neg c2,if_pos c3];rfl
 by_cases c4:t < 16
 ·simp (disch:=omega) only[A_xlaw00_Instr,wp,qa,qb,qc,res_cell,resC,hp,q1,r0,r1,q2,r2,q3,he,o_idx,q4,r4,i1,q5,r5,i2,q7,r7,hn,l5,s7,c1,c2,c3,c4,part_ag7,frz_ag7]
  unfold insT;rw[if_neg c1,if_neg c2,if_neg c3,if_pos c4];rfl
 by_cases c5:t < 18
 ·simp (disch:=omega) only[A_xlaw00_Instr,wp,qa,qb,qc,res_cell,resC,hp,q1,r0,r1,q2,r2,q3,he,o_idx,q4,r4,i1,q5,r5,i2,l5,s7,c1,c2,c3,c4,c5,part_ag7,frz_ag7]
  unfold insT;rw[if_neg c1,if_neg c2,if_neg c3,if_neg c4,if_pos c5];rfl
 ·simp (disch:=omega) only[A_xlaw00_Instr,wp,qa,qb,qc,res_cell,resC,hp,q1,r0,r1,q2,r2,q3,he,o_idx,q4,r4,i1,q5,r5,i2,q8,w1,r8,l5,s7,c1,c2,c3,c4,c5,part_ag7,frz_ag7]
  unfold insT;rw[if_neg c1,if_neg c2,if_neg c3,if_neg c4,if_neg c5];rfl
end Go.Ab
end
section
set_option linter.unusedVariables false
set_option linter.unusedSimpArgs false
namespace Go.Ab
variable {F:Funs}
def insLC (l:List Ins):List AV:=l.flatMap insC
theorem insC_len (x:Ins):(insC x).length = 7:=rfl
theorem insLC_len (l:List Ins):(insLC l).length = l.length * 7:=by
 induction l with
 | nil => rfl
 | cons x l ih => simp only[insLC,List.flatMap_cons,List.length_append,List.length_cons,insC_len] at ih ⊢;omega
theorem insLC_snoc (l:List Ins) (x:Ins):insLC (l ++ [x]) = insLC l ++ insC x:=by
 simp only[insLC,List.flatMap_append,List.flatMap_cons,List.flatMap_nil,List.append_nil]
def fence0:Ins:=⟨3,4,0,0,0,[],0⟩
def skips (l:List Ins):Nat:=l.countP fun x => x.kd == 6
theorem skips_snoc (l:List Ins) (x:Ins):skips (l ++ [x]) = skips l + (if x.kd = 6 then 1 else 0):=by
 unfold skips
 rw[List.countP_append]
 congr 1
 by_cases h:x.kd = 6<;>simp[List.countP_cons,h]
structure PreOk (l:List Int) (T t n:Nat) (pre:List Ins):Prop where
 ins:∀ k,k < pre.length→(∃ v,pre.getD k fence0 = insN v ((n - 1 - k:Nat):Int))∨pre.getD k fence0 = fence0
structure ThrOk (l:List Int) (T t most:Nat) (th:List Ins):Prop where
 most:th.length≤most
 at_:∀ k,k < th.length→t + k * T < l.length
 pre:PreOk l T t th.length th
 sk:skips th≤2
theorem PreOk.snoc {l T t n pre} (h:PreOk l T t n pre) {x:Ins} (hx:(∃ v,x = insN v ((n - 1 - pre.length:Nat):Int))∨x = fence0):PreOk l T t n (pre ++ [x]):=by
 refine ⟨fun k hk => ?_⟩
 rw[List.length_append,List.length_singleton] at hk
 by_cases h1:k < pre.length
 ·have:=h.ins k h1
  rwa [List.getD_eq_getElem?_getD,List.getElem?_append_left h1,←List.getD_eq_getElem?_getD]
 ·obtain rfl:k = pre.length:=by omega
  rw[List.getD_eq_getElem?_getD,List.getElem?_append_right (Nat.le_refl _)]
  simpa using hx
theorem o_mksl {c:CS} {al:Nat→Bool} {lo id:Nat} {e:Env} {g:G} (z esz b n m):opE c al lo id (.mksl z esz b n m) e g = vMksl id z esz b (n.ev e) (m.ev e) g:=rfl
theorem vMksl_ms {id:Nat} {z:List AV} {b n:Nat} {g:G} (h1:1≤n) (h2:n≤1000) (hb:b≤1000) (hz:z.length = 1):vMksl id z 1 b (.i .i64 (n:Int)) (.i .i64 (n:Int)) g = some (.ms id 0 n,⟨upd g.hp id (some (.cells (List.replicate n z).flatten false)),g.nx⟩):=by
 have h3:(b:Int) * (n:Int)≤1000 * 1000:=Int.mul_le_mul (by omega) (by omega) (by omega) (by omega)
 simp only[vMksl]
 rw[if_pos ⟨by omega,by omega,by simp only[lim64];omega,by omega⟩,if_neg (by omega),if_pos ⟨trivial,hz⟩,Int.toNat_natCast]
theorem blk_end {c:ACode} {id:Nat} {e:Env} {g:G} {Q:Out→Env→G→Prop} (M:Env→G→Prop) (h1:W F c e g (blkQ id (midQ M))) (h2:∀ e g,M e g→Q .nrm e g):W F c e g (blkQ id Q):=by
 refine W_mono h1 fun o e g h => ?_
 cases o with
 | nrm => exact h2 e g h
 | ret => exact h.elim
 | ext n =>
   have h:if n = id then midQ M .nrm e g else midQ M (.ext n) e g:=h
   show if n = id then Q .nrm e g else Q (.ext n) e g
   split at h
   ·rename_i hn;rw[if_pos hn];exact h2 e g h
   ·exact h.elim
theorem int_at {l:List Int} {k:Nat} (h:k < l.length):part ((intsC l).drop (k * 1)) 0 none = some (.i .i64 (l.getD k 0)):=ints_part h
structure PgSt (B:Nat) (hp0:Nat→Option Blk) (l:List Int) (T most t:Nat) (cs:List AV) (e:Env) (g:G):Prop where
 e0:e 0 = .sl (intsC l) l.length .non
 e1:e 1 = .i .i64 (T:Nat)
 e2:e 2 = .i .i64 (most:Nat)
 e6:e 6 = .mp B 0
 e7:e 7 = .mp (B + 4) 0
 e8:e 8 = .i .i64 (t:Nat)
 h0:g.hp B = some (.cells [.i .i64 0,.sl [] 0 .rig] false)
 h4:g.hp (B + 4) = some (.cells [.i .i64 2,.ms (B + 2) 0 T] false)
 h2:g.hp (B + 2) = some (.cells cs false)
 nx:B + 4 < g.nx
 len:cs.length = T
 fr:∀ i,i < B→g.hp i = hp0 i
def CsOk (l:List Int) (T t most:Nat) (cs:List AV):Prop:=∀ j,j < T→if j < t then ∃ th tok,cs[j]? = some (.sl (insLC th) th.length tok)∧ThrOk l T j most th else cs[j]? = some (.sl [] 0 .rig)
def retV (rs:List ARes) (P:AV→Prop):Out→Env→G→Prop:=fun o e g => ∃ v,retQ rs v o e g∧P v
theorem pureV_of {f:Nat} {fn:AFun} {asx:List AV} {P:AV→Prop} (hF:F f = some fn) (h:W F fn.body (argEnv asx) g0 (retV fn.res P)):∃ v,pureS F f asx = some v∧P v:=by
 obtain ⟨o,e,g,h1,v,h2,hp⟩:=h
 exact ⟨v,pure_of hF ⟨o,e,g,h1,h2⟩,hp⟩
theorem pg_count {B:Nat} {hp0:Nat→Option Blk} {l:List Int} {T most t:Nat} {cs:List AV} {Q:Env→G→Prop} (hT:1≤T) (hT8:T≤8) (hm:most≤16) (hl:(l.length:Int)≤9223372036854775807) (ht:t < T) {e:Env} {g:G} (S:PgSt B hp0 l T most t cs e g) (e9:e 9 = .i .i64 0) (e10:e 10 = .i .i64 0) (e11:e 11 = .i .i64 (t:Nat)) (c:ACode)
  (hc:c = (.seq (.seq (.reg false [{ dst:=some 23,op:=.mv (.t 11) },
 { dst:=some 24,op:=.mv (.t 0) },
 { dst:=some 25,op:=.len (.t 24) },
 { dst:=some 26,op:=.bin .lss (.t 23) (.t 25) },
 { dst:=some 27,op:=.mv (.t 26) },
 { dst:=some 28,op:=.mv (.t 9),grd:=some (27,true) },
 { dst:=some 29,op:=.mv (.t 2),grd:=some (27,true) },
 { dst:=some 30,op:=.bin .lss (.t 28) (.t 29),grd:=some (27,true) },
 { dst:=some 31,op:=.pick (.t 27) (.t 30) (.c (.b false)) }])
 (.cond (.t 31) .skip
 (.ext 2)))
 (.seq (.blk 3 (.reg false [{ dst:=some 35,op:=.mv (.t 9) },
  { dst:=some 36,op:=.bin .add (.t 35) (.c (.i .i64 1)) },
  { dst:=some 9,op:=.mv (.t 36) }]))
 (.reg false [{ dst:=some 32,op:=.mv (.t 11) },
  { dst:=some 33,op:=.mv (.t 1) },
  { dst:=some 34,op:=.bin .add (.t 32) (.t 33) },
  { dst:=some 11,op:=.mv (.t 34) }]))))
    (hQ:∀ e g,(∃ n:Nat,PgSt B hp0 l T most t cs e g∧e 9 = .i .i64 (n:Nat)∧e 10 = .i .i64 0∧n≤most∧∀ k,k < n→t + k * T < l.length)→Q e g):W F (.loop c) e g (blkQ 2 (midQ Q)):=by
  refine W_loop (fun q e g => ∃ n:Nat,q = most - n∧n≤most∧PgSt B hp0 l T most t cs e g∧e 9 = .i .i64 (n:Nat)∧e 10 = .i .i64 0∧e 11 = .i .i64 ((t + n * T:Nat):Int)∧∀ k,k < n→t + k * T < l.length) most ⟨0,rfl,Nat.zero_le _,S,e9,e10,by rw[e11];simp,fun k hk => by omega⟩ ?_
  rintro q e g ⟨n,rfl,hn,S,e9,e10,e11,hall⟩
  obtain ⟨e0,e1,e2,e6,e7,e8,h0,h4,h2,hnx,hlen,hfr⟩:=S
  subst hc
  by_cases h1:t + n * T < l.length
  ·have hnT:n * T≤16 * 8:=Nat.mul_le_mul (by omega) hT8
   have h1':((t + n * T:Nat):Int) < l.length:=by omega
   by_cases h2':n < most
   ·have h3:(n:Int) < most:=by omega
    have hw1:=succ_wrap (k:=n) (by omega)
    have hw2:IntKind.i64.wrap (((t + n * T:Nat):Int) + ((T:Nat):Int)) = ((t + (n + 1) * T:Nat):Int):=by
     have hz:t + (n + 1) * T = t + n * T + T:=by rw[Nat.succ_mul];omega
     rw[i64_wrap (by omega) (by omega),hz];omega
    simp (disch:=omega) only[wp,qa,qb,qc,gl,e0,e1,e2,e9,e11,h1',h3,hw1,hw2]
    refine ⟨most - (n + 1),by omega,n + 1,rfl,by omega,⟨?_,?_,?_,?_,?_,?_,h0,h4,h2,by first | omega | (dsimp only;omega),hlen,hfr⟩,rfl,?_,rfl,fun k hk => ?_⟩
    ·simp (disch:=omega) only[wp,qa,qb,qc,e0]
    ·simp (disch:=omega) only[wp,qa,qb,qc,e1]
    ·simp (disch:=omega) only[wp,qa,qb,qc,e2]
    ·simp (disch:=omega) only[wp,qa,qb,qc,e6]
    ·simp (disch:=omega) only[wp,qa,qb,qc,e7]
    ·simp (disch:=omega) only[wp,qa,qb,qc,e8]
    ·simp (disch:=omega) only[wp,qa,qb,qc,e10]
    ·by_cases hk':k = n
     ·subst hk';exact h1
     ·exact hall k (by omega)
   ·have h3:¬ (n:Int) < most:=by omega
    simp (disch:=omega) only[wp,qa,qb,qc,gl,e0,e1,e2,e9,e11,h1',h3]
    refine hQ _ _ ⟨n,⟨?_,?_,?_,?_,?_,?_,h0,h4,h2,by first | omega | (dsimp only;omega),hlen,hfr⟩,?_,?_,hn,hall⟩
    all_goals simp (disch:=omega) only[wp,qa,qb,qc,e0,e1,e2,e6,e7,e8,e9,e10]
  ·have h1':¬ ((t + n * T:Nat):Int) < l.length:=by omega
   simp (disch:=omega) only[wp,qa,qb,qc,gl,e0,e1,e2,e9,e11,h1']
   refine hQ _ _ ⟨n,⟨?_,?_,?_,?_,?_,?_,h0,h4,h2,by first | omega | (dsimp only;omega),hlen,hfr⟩,?_,?_,hn,hall⟩
   all_goals simp (disch:=omega) only[wp,qa,qb,qc,e0,e1,e2,e6,e7,e8,e9,e10]
end Go.Ab
end
section
set_option linter.unusedVariables false
set_option linter.unusedSimpArgs false
namespace Go.Ab
variable {F:Funs}
def pgC:ACode:=(.seq (.seq (.reg false [{ dst:=some 37,op:=.mv (.t 12) },
 { dst:=some 38,op:=.mv (.t 9) },
 { dst:=some 39,op:=.bin .lss (.t 37) (.t 38) }])
 (.cond (.t 39) .skip
 (.ext 4)))
 (.seq (.blk 5 (.seq (.reg true [{ dst:=some 42,op:=.mv (.t 0) },
  { dst:=some 43,op:=.mv (.t 8) },
  { dst:=some 44,op:=.mv (.t 12) },
  { dst:=some 45,op:=.mv (.t 1) },
  { dst:=some 46,op:=.bin .mul (.t 44) (.t 45) },
  { dst:=some 47,op:=.bin .add (.t 43) (.t 46) },
  { dst:=some 48,op:=.ia 1 (.t 42) (.t 47) },
  { dst:=some 49,op:=.ld none (.t 48),pre:=[] },
  { dst:=some 50,op:=.fa 0 (.t 7) },
  { dst:=some 51,op:=.ld none (.t 50),pre:=[] },
  { dst:=some 52,op:=.mv (.t 9) },
  { dst:=some 53,op:=.bin .sub (.t 52) (.c (.i .i64 1)) },
  { dst:=some 54,op:=.mv (.t 12) },
  { dst:=some 55,op:=.bin .sub (.t 53) (.t 54) },
  { dst:=some 56,op:=.call .pure (.c (.fn 97 [] [])) [.t 49,.t 51,.t 55],pre:=[] },
  { dst:=some 13,op:=.new (List.replicate 5 (.i .i64 0) ++ [.sl [] 0 .rig,.i .i64 0]) },
  { dst:=none,op:=.stL 7 (.t 13) (.t 56),pre:=[15] }])
 (.seq (.seq (.reg false [{ dst:=some 57,op:=.fa 0 (.t 13) },
  { dst:=some 58,op:=.ld none (.t 57) },
  { dst:=some 59,op:=.bin .eql (.t 58) (.c (.i .i64 6)) }])
 (.cond (.t 59) (.seq (.reg false [{ dst:=some 60,op:=.mv (.t 10) },
  { dst:=some 61,op:=.bin .add (.t 60) (.c (.i .i64 1)) },
  { dst:=some 10,op:=.mv (.t 61) }])
 (.seq (.reg false [{ dst:=some 62,op:=.mv (.t 10) },
  { dst:=some 63,op:=.bin .gtr (.t 62) (.c (.i .i64 2)) }])
 (.cond (.t 63) (.reg false [{ dst:=some 64,op:=.build (List.replicate 5 (.i .i64 0) ++ [.sl [] 0 .rig,.i .i64 0]) [(0,1,.c (.i .i64 3)),(1,1,.c (.i .i64 4))] },
  { dst:=none,op:=.st 7 (.t 13) (.t 64) }])
 .skip)))
 .skip))
 (.reg true [{ dst:=some 65,op:=.fa 1 (.t 7) },
  { dst:=some 66,op:=.ld none (.t 65),pre:=[] },
  { dst:=some 67,op:=.mv (.t 8) },
  { dst:=some 68,op:=.fa 1 (.t 7) },
  { dst:=some 69,op:=.ld none (.t 68),pre:=[] },
  { dst:=some 70,op:=.mv (.t 8) },
  { dst:=some 71,op:=.ia 1 (.t 69) (.t 70) },
  { dst:=some 72,op:=.ld none (.t 71),pre:=[] },
  { dst:=some 73,op:=.ld (some 7) (.t 13),pre:=[] },
  { dst:=some 74,op:=.bsl true 1 (List.replicate 5 (.i .i64 0) ++ [.sl [] 0 .rig,.i .i64 0]) [(0,7,.t 73)],pre:=[] },
  { dst:=some 75,op:=.app 7 72 (.t 72) (.t 74),pre:=[] },
  { dst:=some 76,op:=.ia 1 (.t 66) (.t 67) },
  { dst:=none,op:=.st 1 (.t 76) (.t 75),pre:=[10] }]))))
 (.reg false [{ dst:=some 40,op:=.mv (.t 12) },
  { dst:=some 41,op:=.bin .add (.t 40) (.c (.i .i64 1)) },
  { dst:=some 12,op:=.mv (.t 41) }])))
def insCt (x:Ins) (tk:Tok):List AV:=[.i .i64 x.kd,.i .i64 x.md,.i .i64 x.md2,.i .i64 x.rg,.i .i64 x.lc,.sl (tkC x.ex) x.ex.length tk,.i .i64 x.n]
theorem min_a {s:Nat} (h:¬ s + 1 > 2):min s 2 + 1 = min (s + 1) 2:=by omega
theorem min_b {s:Nat} (h:s + 1 > 2):min s 2 + 0 = min (s + 1) 2:=by omega
structure PiSt (B:Nat) (hp0:Nat→Option Blk) (l:List Int) (T most t n:Nat) (cs:List AV) (k:Nat) (pre:List Ins) (tok:Tok) (e:Env) (g:G):Prop where
 st:PgSt B hp0 l T most t (cs.set t (.sl (insLC pre) k tok)) e g
 e9:e 9 = .i .i64 (n:Nat)
 e12:e 12 = .i .i64 (k:Nat)
 pl:pre.length = k
 tk:(tok = .rig∧k = 0)∨∃ τ,tok = .own τ 7∧g.hp τ = some (.tok true)∧B + 4 < τ∧τ < g.nx
 pre:PreOk l T t n pre
theorem pg_thread (S:ProgF F) {B:Nat} {hp0:Nat→Option Blk} {l:List Int} {T most t n:Nat} {cs:List AV} {Q:Env→G→Prop} (hT:1≤T) (hT8:T≤8) (hm:most≤16) (hl:(l.length:Int)≤9223372036854775807) (ht:t < T) (hn:n≤most) (hall:∀ k,k < n→t + k * T < l.length) (hcl:cs.length = T) {e:Env} {g:G} (I:PiSt B hp0 l T most t n cs 0 [] .rig e g) (e10:e 10 = .i .i64 0)
  (hQ:∀ e g,(∃ th tok,th.length = n∧PgSt B hp0 l T most t (cs.set t (.sl (insLC th) n tok)) e g∧ThrOk l T t most th)→Q e g):W F (.loop pgC) e g (blkQ 4 (midQ Q)):=by
 have l5:∀ x:AV,List.replicate 5 x = [x,x,x,x,x]:=fun _ => rfl
 have s7:∀ a b c d e f x1 x2 x3 x4 x5 x6 x7 y:AV,splice [a,b,c,d,e,f,y] 0 [x1,x2,x3,x4,x5,x6,x7] = [x1,x2,x3,x4,x5,x6,x7]:=fun _ _ _ _ _ _ _ _ _ _ _ _ _ _ => rfl
 refine W_loop (fun q e g => ∃ (k:Nat) (pre:List Ins) (tok:Tok) (s:Nat),q = n - k∧k≤n∧PiSt B hp0 l T most t n cs k pre tok e g∧e 10 = .i .i64 (s:Nat)∧skips pre = min s 2∧s≤k) n ⟨0,[],.rig,0,rfl,Nat.zero_le _,I,e10,rfl,Nat.le_refl _⟩ ?_
 rintro q e g ⟨k,pre,tok,s,rfl,hkn,I,e10,hsk,hs⟩
 obtain ⟨⟨e0,e1,e2,e6,e7,e8,h0,h4,h2,hnx,hlen,hfr⟩,e9,e12,hpl,htk,hpre⟩:=I
 by_cases h1:k < n
 ·have h1':(k:Int) < n:=by omega
  have hlt:=hall k h1
  have hw1:IntKind.i64.wrap (((k:Nat):Int) * ((T:Nat):Int)) = ((k * T:Nat):Int):=by
   have:k * T≤16 * 8:=Nat.mul_le_mul (by omega) hT8
   rw[←Int.natCast_mul,i64_wrap (by omega) (by omega)]
  have hw2:IntKind.i64.wrap (((t:Nat):Int) + ((k * T:Nat):Int)) = ((t + k * T:Nat):Int):=by
   rw[i64_wrap (by omega) (by omega)];omega
  have hw3:IntKind.i64.wrap (((n:Nat):Int) - 1) = ((n - 1:Nat):Int):=by rw[i64_wrap (by omega) (by omega)];omega
  have hw4:IntKind.i64.wrap (((n - 1:Nat):Int) - ((k:Nat):Int)) = ((n - 1 - k:Nat):Int):=by rw[i64_wrap (by omega) (by omega)];omega
  have hi0:(0:Int)≤((t + k * T:Nat):Int):=by omega
  have hi1:((t + k * T:Nat):Int) < ((l.length:Nat):Int):=by omega
  have hp:=int_at (l:=l) hlt
  have hI:=sp_instr S (v:=l.getD (t + k * T) 0) (left:=((n - 1 - k:Nat):Int)) (by omega) (by omega)
  generalize hx:insN (l.getD (t + k * T) 0) ((n - 1 - k:Nat):Int) = x at hI
  unfold pgC
  simp (disch:=omega) only[wp,qa,qb,qc,gl,e0,e1,e2,e7,e8,e9,e12,h1',hw1,hw2,hw3,hw4,hi0,hi1,hp,hI,h4,insC,exV,l5,s7]
  refine sel_cut (fun e g => ∃ (x':Ins) (s' b:Nat) (tk:Tok),PgSt B hp0 l T most t (cs.set t (.sl (insLC pre) k tok)) e g∧e 9 = .i .i64 (n:Nat)∧e 12 = .i .i64 (k:Nat)∧e 10 = .i .i64 (s':Nat)∧e 13 = .mp b 0∧g.hp b = some (.cells (insCt x' tk) false)∧((tok = .rig∧k = 0)∨∃ τ,tok = .own τ 7∧g.hp τ = some (.tok true)∧B + 4 < τ∧τ < g.nx)∧((∃ v,x' = insN v ((n - 1 - k:Nat):Int))∨x' = fence0)∧skips (pre ++ [x']) = min s' 2∧s'≤k + 1∧B + 4 < b∧b < g.nx) ?_ ?_
  ·have hm3:∀ (x':Ins) (s' b:Nat) (tk:Tok) (e:Env) (g:G),PgSt B hp0 l T most t (cs.set t (.sl (insLC pre) k tok)) e g→e 9 = .i .i64 (n:Nat)→e 12 = .i .i64 (k:Nat)→e 10 = .i .i64 (s':Nat)→e 13 = .mp b 0→g.hp b = some (.cells (insCt x' tk) false)→((tok = .rig∧k = 0)∨∃ τ,tok = .own τ 7∧g.hp τ = some (.tok true)∧B + 4 < τ∧τ < g.nx)→((∃ v,x' = insN v ((n - 1 - k:Nat):Int))∨x' = fence0)→skips (pre ++ [x']) = min s' 2→s'≤k + 1→B + 4 < b→b < g.nx→∃ (x':Ins) (s' b:Nat) (tk:Tok),PgSt B hp0 l T most t (cs.set t (.sl (insLC pre) k tok)) e g∧e 9 = .i .i64 (n:Nat)∧e 12 = .i .i64 (k:Nat)∧e 10 = .i .i64 (s':Nat)∧e 13 = .mp b 0∧g.hp b = some (.cells (insCt x' tk) false)∧((tok = .rig∧k = 0)∨∃ τ,tok = .own τ 7∧g.hp τ = some (.tok true)∧B + 4 < τ∧τ < g.nx)∧((∃ v,x' = insN v ((n - 1 - k:Nat):Int))∨x' = fence0)∧skips (pre ++ [x']) = min s' 2∧s'≤k + 1∧B + 4 < b∧b < g.nx:=
    fun x' s' b tk e g a1 a2 a3 a4 a5 a6 a7 a8 a9 a10 a11 a12 => ⟨x',s',b,tk,a1,a2,a3,a4,a5,a6,a7,a8,a9,a10,a11,a12⟩
   cases h6:(x.kd == 6)
   ·have h6':¬ x.kd = 6:=by simpa using h6
    simp (disch:=omega) only[wp,qa,qb,qc,gl]
    refine hm3 x s (g.nx + 3 + 15) .non _ _ ⟨?_,?_,?_,?_,?_,?_,?_,?_,?_,by first | omega | (dsimp only;omega),hlen,fun i hi => ?_⟩ ?_ ?_ ?_ ?_ ?_ ?_ (.inl ⟨_,hx.symm⟩) (by rw[skips_snoc,if_neg h6',hsk];rfl) (by omega) ?_ ?_
    all_goals first
     | omega
     | (dsimp only;omega)
     | (simp (disch:=omega) only[wp,qa,qb,qc,e0,e1,e2,e6,e7,e8,e9,e10,e12,h0,h4,h2,insCt,fence0,tkC];done)
     | (simp (disch:=omega) only[wp,qa,qb,qc,insCt];done)
     | (simp (disch:=omega) only[wp,qa,qb,qc,hfr i hi];done)
     | (rcases htk with ⟨a,b⟩ | ⟨τ,a,hτ,a1,a2⟩
        ·exact .inl ⟨a,b⟩
        ·exact .inr ⟨τ,a,by simp (disch:=omega) only[wp,qa,qb,qc,hτ],a1,by first | omega | (dsimp only;omega)⟩)
   ·have h6':x.kd = 6:=by simpa using h6
    have hws:IntKind.i64.wrap ((s:Nat) + 1) = ((s + 1:Nat):Int):=succ_wrap (by omega)
    by_cases hs2:s + 1 > 2
    ·have hs2':(2:Int) < ((s + 1:Nat):Int):=by omega
     simp (disch:=omega) only[wp,qa,qb,qc,gl,e10,hws,hs2',l5,s7]
     refine hm3 fence0 (s + 1) (g.nx + 3 + 15) .rig _ _ ⟨?_,?_,?_,?_,?_,?_,?_,?_,?_,by first | omega | (dsimp only;omega),hlen,fun i hi => ?_⟩ ?_ ?_ ?_ ?_ ?_ ?_ (.inr rfl) (by rw[skips_snoc,if_neg (by decide),hsk];exact min_b hs2) (by omega) ?_ ?_
     all_goals first
     | omega
     | (dsimp only;omega)
     | (simp (disch:=omega) only[wp,qa,qb,qc,e0,e1,e2,e6,e7,e8,e9,e10,e12,h0,h4,h2,insCt,fence0,tkC];done)
     | (simp (disch:=omega) only[wp,qa,qb,qc,insCt];done)
     | (simp (disch:=omega) only[wp,qa,qb,qc,hfr i hi];done)
     | (rcases htk with ⟨a,b⟩ | ⟨τ,a,hτ,a1,a2⟩
        ·exact .inl ⟨a,b⟩
        ·exact .inr ⟨τ,a,by simp (disch:=omega) only[wp,qa,qb,qc,hτ],a1,by first | omega | (dsimp only;omega)⟩)
    ·have hs2':¬ (2:Int) < ((s + 1:Nat):Int):=by omega
     simp (disch:=omega) only[wp,qa,qb,qc,gl,e10,hws,hs2']
     refine hm3 x (s + 1) (g.nx + 3 + 15) .non _ _ ⟨?_,?_,?_,?_,?_,?_,?_,?_,?_,by first | omega | (dsimp only;omega),hlen,fun i hi => ?_⟩ ?_ ?_ ?_ ?_ ?_ ?_ (.inl ⟨_,hx.symm⟩) (by rw[skips_snoc,if_pos h6',hsk];exact min_a hs2) (by omega) ?_ ?_
     all_goals first
     | omega
     | (dsimp only;omega)
     | (simp (disch:=omega) only[wp,qa,qb,qc,e0,e1,e2,e6,e7,e8,e9,e10,e12,h0,h4,h2,insCt,fence0,tkC];done)
     | (simp (disch:=omega) only[wp,qa,qb,qc,insCt];done)
     | (simp (disch:=omega) only[wp,qa,qb,qc,hfr i hi];done)
     | (rcases htk with ⟨a,b⟩ | ⟨τ,a,hτ,a1,a2⟩
        ·exact .inl ⟨a,b⟩
        ·exact .inr ⟨τ,a,by simp (disch:=omega) only[wp,qa,qb,qc,hτ],a1,by first | omega | (dsimp only;omega)⟩)
  ·rintro e g ⟨x',s',b,tk,⟨e0,e1,e2,e6,e7,e8,h0,h4,h2,hnx,hlen,hfr⟩,e9,e12,e10,e13,hb,htk,hx',hsk',hs',hb4,hbn⟩
   have hti0:(0:Int)≤((t:Nat):Int):=by omega
   have hti1:((t:Nat):Int) < ((T:Nat):Int):=by omega
   have hpt:part (cs.set t (.sl (insLC pre) k tok)) (t * 1) none = some (.sl (insLC pre) k tok):=by
    simp only[part,Nat.mul_one]
    rw[List.getElem?_set_self (by omega)]
   have hil:=insLC_len pre
   have hwk:=succ_wrap (k:=k) (by omega)
   rcases htk with ⟨rfl,rfl⟩ | ⟨τ,rfl,hτ,hτ4,hτn⟩
   ·simp (disch:=omega) only[wp,qa,qb,qc,gl,e1,e7,e8,e12,e13,h4,h2,hb,hti0,hti1,hpt,insCt,insC,exV,part_ag7,s7,hil,List.length_set,hwk]
    refine ⟨n - (0 + 1),by omega,0 + 1,pre ++ [x'],.own (g.nx + 10) 7,s',rfl,by omega,⟨⟨?_,?_,?_,?_,?_,?_,?_,?_,?_,by first | omega | (dsimp only;omega),by rw[List.length_set];omega,fun i hi => ?_⟩,?_,?_,by rw[List.length_append,List.length_singleton];omega,.inr ⟨_,rfl,by simp (disch:=omega) only[wp,qa,qb,qc],by omega,by first | omega | (dsimp only;omega)⟩,hpre.snoc (by rw[hpl];exact hx')⟩,?_,hsk',by omega⟩
    all_goals first
     | (simp (disch:=omega) only[wp,qa,qb,qc,e0,e1,e2,e6,e7,e8,e9,e10,e12,h0,h4,h2,insLC_snoc,List.set_set,Nat.mul_one,insC,exV];done)
     | (simp (disch:=omega) only[wp,qa,qb,qc,hfr i hi];done)
   ·simp (disch:=omega) only[wp,qa,qb,qc,gl,e1,e7,e8,e12,e13,h4,h2,hb,hτ,hti0,hti1,hpt,insCt,insC,exV,part_ag7,s7,hil,List.length_set,hwk]
    refine ⟨n - (k + 1),by omega,k + 1,pre ++ [x'],.own (g.nx + 10) 7,s',rfl,by omega,⟨⟨?_,?_,?_,?_,?_,?_,?_,?_,?_,by first | omega | (dsimp only;omega),by rw[List.length_set];omega,fun i hi => ?_⟩,?_,?_,by rw[List.length_append,List.length_singleton];omega,.inr ⟨_,rfl,by simp (disch:=omega) only[wp,qa,qb,qc],by omega,by first | omega | (dsimp only;omega)⟩,hpre.snoc (by rw[hpl];exact hx')⟩,?_,hsk',by omega⟩
    all_goals first
     | (simp (disch:=omega) only[wp,qa,qb,qc,e0,e1,e2,e6,e7,e8,e9,e10,e12,h0,h4,h2,insLC_snoc,List.set_set,Nat.mul_one,insC,exV];done)
     | (simp (disch:=omega) only[wp,qa,qb,qc,hfr i hi];done)
 ·have h1':¬ (k:Int) < n:=by omega
  obtain rfl:k = n:=by omega
  unfold pgC
  simp (disch:=omega) only[wp,qa,qb,qc,gl,e9,e12,h1']
  refine hQ _ _ ⟨pre,tok,hpl,⟨?_,?_,?_,?_,?_,?_,h0,h4,h2,by first | omega | (dsimp only;omega),hlen,hfr⟩,⟨by omega,fun j hj => hall j (by omega),by rw[hpl];exact hpre,by omega⟩⟩
  all_goals simp (disch:=omega) only[wp,qa,qb,qc,e0,e1,e2,e6,e7,e8]
end Go.Ab
end
section
set_option linter.unusedVariables false
set_option linter.unusedSimpArgs false
namespace Go.Ab
variable {F:Funs}
def thsC (ths:List (List Ins)):List AV:=ths.map fun th => .sl (insLC th) th.length .non
structure PgEnd (B:Nat) (hp0:Nat→Option Blk) (l:List Int) (T most:Nat) (cs:List AV) (e:Env) (g:G):Prop where
 e6:e 6 = .mp B 0
 h0:g.hp B = some (.cells [.i .i64 2,.ms (B + 2) 0 T] false)
 h2:g.hp (B + 2) = some (.cells cs false)
 nx:B + 4 < g.nx
 len:cs.length = T
 fr:∀ i,i < B→g.hp i = hp0 i
 ok:CsOk l T T most cs
theorem set_same {cs:List AV} {t:Nat} {v:AV} (h:cs[t]? = some v):cs.set t v = cs:=by
 refine List.ext_getElem? fun j => ?_
 by_cases hj:t = j
 ·subst hj
  rw[List.getElem?_set_self (List.getElem?_eq_some_iff.1 h).1,h]
 ·rw[List.getElem?_set_ne hj]
theorem pg_walk (S:ProgF F) {l:List Int} {T most:Nat} (hT:1≤T) (hT8:T≤8) (hm:most≤16) (hl:(l.length:Int)≤9223372036854775807) {g:G} {Q:Out→Env→G→Prop} (hQ:∀ e g' cs,PgEnd g.nx g.hp l T most cs e g'→Q .ret e g'):W F A_xlaw00_Prog.body (argEnv [.sl (intsC l) l.length .non,.i .i64 (T:Nat),.i .i64 (most:Nat)]) g Q:=by
 have hmk:=fun id g => vMksl_ms (id:=id) (z:=[AV.sl [] 0 .rig]) (b:=24) (n:=T) (g:=g) hT (by omega) (by omega) rfl
 simp (disch:=omega) only[A_xlaw00_Prog,wp,qa,qb,qc,gl,o_mksl,hmk,Nat.add_assoc]
 refine blk_cut (fun e g' => ∃ cs,PgSt g.nx g.hp l T most T cs e g'∧CsOk l T T most cs) ?_ ?_
 ·refine W_loop (fun q e g' => ∃ (t:Nat) (cs:List AV),q = T - t∧t≤T∧PgSt g.nx g.hp l T most t cs e g'∧CsOk l T t most cs) T ?_ ?_
  ·refine ⟨0,(List.replicate T [AV.sl [] 0 .rig]).flatten,rfl,Nat.zero_le _,⟨?_,?_,?_,?_,?_,?_,?_,?_,?_,by first | omega | (dsimp only;omega),by simp,fun i hi => ?_⟩,fun j hj => ?_⟩
   ·simp (disch:=omega) only[wp,qa,qb,qc]
   ·simp (disch:=omega) only[wp,qa,qb,qc]
   ·simp (disch:=omega) only[wp,qa,qb,qc]
   ·simp (disch:=omega) only[wp,qa,qb,qc]
   ·simp (disch:=omega) only[wp,qa,qb,qc]
   ·simp (disch:=omega) only[wp,qa,qb,qc];rfl
   ·simp (disch:=omega) only[wp,qa,qb,qc]
   ·simp (disch:=omega) only[wp,qa,qb,qc]
   ·simp (disch:=omega) only[wp,qa,qb,qc]
   ·simp (disch:=omega) only[wp,qa,qb,qc]
   ·rw[if_neg (by omega)]
    have hf:(List.replicate T [AV.sl [] 0 Tok.rig]).flatten = List.replicate T (AV.sl [] 0 .rig):=by simp[List.flatten_replicate_singleton]
    rw[hf,List.getElem?_replicate,if_pos hj]
  ·rintro q e g' ⟨t,cs,rfl,htT,St,hcs⟩
   have St0:=St
   obtain ⟨e0,e1,e2,e6,e7,e8,h0,h4,h2,hnx,hlen,hfr⟩:=St
   by_cases ht:t < T
   ·have ht':(t:Int) < T:=by omega
    simp (disch:=omega) only[wp,qa,qb,qc,gl,e1,e8,ht']
    refine blk_cut (fun e g' => ∃ n:Nat,PgSt g.nx g.hp l T most t cs e g'∧e 9 = .i .i64 (n:Nat)∧e 10 = .i .i64 0∧n≤most∧∀ k,k < n→t + k * T < l.length) ?_ ?_
    ·refine pg_count hT hT8 hm hl ht (B:=g.nx) (hp0:=g.hp) (cs:=cs) (g:=⟨g'.hp,g'.nx + 3 + 2 + 2⟩) ⟨?_,?_,?_,?_,?_,?_,h0,h4,h2,?_,hlen,hfr⟩ ?_ ?_ ?_ _ rfl (fun e g h => h)
     all_goals first | (simp (disch:=omega) only[wp,qa,qb,qc,e0,e1,e2,e6,e7,e8];done) | omega | (dsimp only;omega)
    ·rintro e g1 ⟨n,⟨e0,e1,e2,e6,e7,e8,h0,h4,h2,hnx,hlen,hfr⟩,e9,e10,hn,hall⟩
     simp (disch:=omega) only[wp,qa,qb,qc,gl]
     have hct:cs[t]? = some (.sl [] 0 .rig):=by have:=hcs t ht;rwa [if_neg (by omega)] at this
     refine blk_end (fun e g' => ∃ th tok,PgSt g.nx g.hp l T most t (cs.set t (.sl (insLC th) n tok)) e g'∧th.length = n∧ThrOk l T t most th) ?_ ?_
     ·show W F (.loop pgC) _ _ _
      refine pg_thread S hT hT8 hm hl ht hn hall hlen (B:=g.nx) (hp0:=g.hp) (g:=⟨g1.hp,g1.nx + 1⟩) ⟨⟨?_,?_,?_,?_,?_,?_,h0,h4,?_,?_,by rw[List.length_set];exact hlen,hfr⟩,?_,?_,rfl,.inl ⟨rfl,rfl⟩,⟨fun k hk => by simp at hk⟩⟩ ?_ (fun e g ⟨th,tok,a,b,c⟩ => ⟨th,tok,b,a,c⟩)
      ·simp (disch:=omega) only[wp,qa,qb,qc,e0]
      ·simp (disch:=omega) only[wp,qa,qb,qc,e1]
      ·simp (disch:=omega) only[wp,qa,qb,qc,e2]
      ·simp (disch:=omega) only[wp,qa,qb,qc,e6]
      ·simp (disch:=omega) only[wp,qa,qb,qc,e7]
      ·simp (disch:=omega) only[wp,qa,qb,qc,e8]
      ·rw[show insLC [] = [] from rfl,set_same hct];exact h2
      ·first | omega | (dsimp only;omega)
      ·simp (disch:=omega) only[wp,qa,qb,qc,e9]
      ·simp (disch:=omega) only[wp,qa,qb,qc];rfl
      ·simp (disch:=omega) only[wp,qa,qb,qc,e10]
     ·rintro e g2 ⟨th,tok,⟨e0,e1,e2,e6,e7,e8,h0,h4,h2,hnx,hlen2,hfr⟩,hthn,hth⟩
      have hwt:=succ_wrap (k:=t) (by omega)
      simp (disch:=omega) only[wp,qa,qb,qc,gl,e8,hwt]
      refine ⟨T - (t + 1),by omega,t + 1,cs.set t (.sl (insLC th) n tok),rfl,by omega,⟨?_,?_,?_,?_,?_,?_,h0,h4,h2,by first | omega | (dsimp only;omega),hlen2,hfr⟩,fun j hj => ?_⟩
      ·simp (disch:=omega) only[wp,qa,qb,qc,e0]
      ·simp (disch:=omega) only[wp,qa,qb,qc,e1]
      ·simp (disch:=omega) only[wp,qa,qb,qc,e2]
      ·simp (disch:=omega) only[wp,qa,qb,qc,e6]
      ·simp (disch:=omega) only[wp,qa,qb,qc,e7]
      ·simp (disch:=omega) only[wp,qa,qb,qc]
      ·by_cases hjt:j = t
       ·subst hjt
        rw[if_pos (by omega)]
        exact ⟨th,tok,by rw[List.getElem?_set_self (by omega),hthn],hth⟩
       ·have:=hcs j hj
        by_cases hj2:j < t
        ·rw[if_pos hj2] at this
         rw[if_pos (by omega),List.getElem?_set_ne (by omega)]
         exact this
        ·rw[if_neg hj2] at this
         rw[if_neg (by omega),List.getElem?_set_ne (by omega)]
         exact this
   ·have ht':¬ (t:Int) < T:=by omega
    obtain rfl:t = T:=by omega
    simp (disch:=omega) only[wp,qa,qb,qc,gl,e1,e8,ht']
    refine ⟨cs,⟨?_,?_,?_,?_,?_,?_,h0,h4,h2,by first | omega | (dsimp only;omega),hlen,hfr⟩,hcs⟩
    all_goals simp (disch:=omega) only[wp,qa,qb,qc,e0,e1,e2,e6,e7,e8]
 ·rintro e g1 ⟨cs,⟨e0,e1,e2,e6,e7,e8,h0,h4,h2,hnx,hlen,hfr⟩,hcs⟩
  simp (disch:=omega) only[wp,qa,qb,qc,gl,e6,e7,h0,h4,part_ag2]
  refine hQ _ _ cs ⟨?_,?_,?_,by first | omega | (dsimp only;omega),hlen,fun i hi => ?_,hcs⟩
  ·simp (disch:=omega) only[wp,qa,qb,qc,e6]
  ·simp (disch:=omega) only[wp,qa,qb,qc]
  ·simp (disch:=omega) only[wp,qa,qb,qc,h2]
  ·simp (disch:=omega) only[wp,qa,qb,qc,hfr i hi]
theorem list_of {P:Nat→List Ins→Prop}:∀ (cs:List AV),(∀ j,j < cs.length→∃ th tok,cs[j]? = some (.sl (insLC th) th.length tok)∧P j th)→∃ ths:List (List Ins),ths.length = cs.length∧∀ j,j < cs.length→(∃ tok,cs[j]? = some (.sl (insLC (ths.getD j [])) (ths.getD j []).length tok))∧P j (ths.getD j []):=by
 intro cs
 induction cs generalizing P with
 | nil => intro _;exact ⟨[],rfl,fun j hj => by simp at hj⟩
 | cons c cs ih =>
   intro h
   obtain ⟨th,tok,h1,h2⟩:=h 0 (by simp)
   obtain ⟨ths,h3,h4⟩:=ih (P:=fun j => P (j + 1)) (fun j hj => by simpa using h (j + 1) (by simpa using hj))
   refine ⟨th :: ths,by simp[h3],fun j hj => ?_⟩
   cases j with
   | zero => exact ⟨⟨tok,by simpa using h1⟩,by simpa using h2⟩
   | succ j => simpa using h4 j (by simpa using hj)
theorem frzL_ths {hp:Nat→Option Blk} {k:Nat}:∀ {cs:List AV} {ths:List (List Ins)},ths.length = cs.length→(∀ j,j < cs.length→∃ tok,cs[j]? = some (.sl (insLC (ths.getD j [])) (ths.getD j []).length tok))→frzL hp (k + 1) cs = some (thsC ths)
 | [],[],_,_ => by simp[frzL,thsC]
 | c :: cs,th :: ths,hl,h => by
   obtain ⟨tok,h1⟩:=h 0 (by simp)
   have ih:=frzL_ths (hp:=hp) (k:=k) (cs:=cs) (ths:=ths) (by simpa using hl) (fun j hj => by simpa using h (j + 1) (by simpa using hj))
   have h1:c = .sl (insLC th) th.length tok:=by simpa using h1
   subst h1
   simp only[frzL,frz,ih]
   rfl
theorem sp_prog (S:ProgF F) (h86:F 86 = some A_xlaw00_Prog) {l:List Int} {T most:Nat} (hT:1≤T) (hT8:T≤8) (hm:most≤16) (hl:(l.length:Int)≤9223372036854775807):∃ ths:List (List Ins),pureS F 86 [.sl (intsC l) l.length .non,.i .i64 (T:Nat),.i .i64 (most:Nat)] = some (.agg [.i .i64 2,.sl (thsC ths) T .non])∧ths.length = T∧∀ t,t < T→ThrOk l T t most (ths.getD t []):=by
 obtain ⟨v,h1,ths,rfl,h2,h3⟩:=pureV_of (P:=fun v => ∃ ths:List (List Ins),v = .agg [.i .i64 2,.sl (thsC ths) T .non]∧ths.length = T∧∀ t,t < T→ThrOk l T t most (ths.getD t [])) h86 (pg_walk S hT hT8 hm hl (g:=g0) fun e g' cs ⟨e6,h0,h2,hnx,hlen,hfr,hok⟩ => by
  obtain ⟨ths,a1,a2⟩:=list_of (P:=fun j th => ThrOk l T j most th) cs (fun j hj => by
   have:=hok j (by omega)
   rw[if_pos (by omega)] at this
   exact this)
  refine ⟨_,?_,ths,rfl,by omega,fun t ht => (a2 t (by omega)).2⟩
  show (match resE [.cell 6 (some 2)] e g' with | some v0 => frz g'.hp depth v0 | none => none) = _
  rw[res_cell,e6]
  simp only[resC,h0,part_ag2]
  refine frz_d_agg ?_
  show frzL _ (7 + 1) _ = _
  simp only[frzL,frz,h2,List.drop_zero,frzL_ths (k:=6) (by omega) (fun j hj => (a2 j hj).1)]
  rfl)
 exact ⟨ths,h1,h2,h3⟩
end Go.Ab
end
section
set_option linter.unusedVariables false
set_option linter.unusedSimpArgs false
namespace Go.Ab
def ExOk (ex:List (Int × Int)):Prop:=∃ a b m:Int,0≤a∧a < 3∧0≤b∧b < 3∧0≤m∧m < 10∧ex = exM a b m
theorem exN_ok (v:Int):ExOk (exN v):=by
 obtain ⟨p0,p1⟩:=place_lt (v:=v) (n:=1073741824) (by omega)
 exact ⟨_,_,_,by omega,by omega,by omega,by omega,by omega,by omega,rfl⟩
inductive InsK (left:Int):Ins→Prop
 | ld (md rg lc:Int) (h1:md = 0∨md = 1) (h2:rg = 0∨rg = 1∨rg = 2) (h3:lc = 0∨lc = 1):InsK left ⟨1,md,0,rg,lc,[],0⟩
 | st (md lc:Int) (ex:List (Int × Int)) (h1:md = 0∨md = 2) (h3:lc = 0∨lc = 1) (he:ExOk ex):InsK left ⟨2,md,0,0,lc,ex,0⟩
 | fe (md:Int) (h1:md = 1∨md = 2∨md = 3∨md = 4):InsK left ⟨3,md,0,0,0,[],0⟩
 | fa (md md2 rg lc c:Int) (h1:md = 0∨md = 1) (h4:md2 = 0∨md2 = 2) (h2:rg = 0∨rg = 1∨rg = 2) (h3:lc = 0∨lc = 1) (h5:c = 0∨c = 1):InsK left ⟨4,md,md2,rg,lc,[(1,c)],0⟩
 | se (rg:Int) (ex:List (Int × Int)) (h2:rg = 0∨rg = 1∨rg = 2) (he:ExOk ex):InsK left ⟨5,0,0,rg,0,ex,0⟩
 | sk (ex:List (Int × Int)) (n:Int) (he:ExOk ex) (h0:0≤n) (h1:n≤left):InsK left ⟨6,0,0,0,0,ex,n⟩
theorem acq_01 (w:Int):acqM w = 0∨acqM w = 1:=by unfold acqM;split<;>omega
theorem rel_02 (w:Int):relM w = 0∨relM w = 2:=by unfold relM;split<;>omega
theorem insN_k {v left:Int} (h:0≤left):InsK left (insN v left):=by
 obtain ⟨p0,p1⟩:=place_lt (v:=v) (n:=1099511627776) (by omega)
 unfold insN
 generalize place v 1099511627776 = k at p0 p1
 have w0:0≤k / 20:=by omega
 generalize k / 20 = w at w0
 generalize k % 20 = t
 unfold insT
 split
 ·exact .ld _ _ _ (acq_01 w) (by omega) (by omega)
 split
 ·exact .st _ _ _ (rel_02 w) (by omega) (exN_ok _)
 split
 ·exact .fe _ (by omega)
 split
 ·exact .fa _ _ _ _ _ (acq_01 w) (rel_02 w) (by omega) (by omega) (by omega)
 split
 ·exact .se _ _ (by omega) (exN_ok _)
 ·have h1:=Int.emod_nonneg (w / 19) (by omega:left + 1≠0)
  have h2:=Int.emod_lt_of_pos (w / 19) (by omega:0 < left + 1)
  exact .sk _ _ (exN_ok _) h1 (by omega)
theorem fence_k (left:Int):InsK left fence0:=.fe 4 (by omega)
theorem PreOk.k {l:List Int} {T t n:Nat} {pre:List Ins} (h:PreOk l T t n pre) {k:Nat} (hk:k < pre.length):InsK ((n - 1 - k:Nat):Int) (pre.getD k fence0):=by
 rcases h.ins k hk with ⟨v,h1⟩ | h1
 ·rw[h1];exact insN_k (by omega)
 ·rw[h1];exact fence_k _
end Go.Ab
end
section
set_option linter.unusedVariables false
set_option linter.unusedSimpArgs false
namespace Go.Ab
theorem insLC_drop:∀ {l:List Ins} {k:Nat} (h:k < l.length),(insLC l).drop (k * 7) = insC (l.getD k fence0) ++ insLC (l.drop (k + 1))
 | x :: l,0,_ => by simp[insLC]
 | x :: l,k + 1,h => by
   have:=insLC_drop (l:=l) (k:=k) (by simpa using h)
   simp only[List.getD_cons_succ,List.drop_succ_cons]
   rw[←this]
   simp[insLC,Nat.succ_mul,insC]
theorem ins_at {l:List Ins} {k:Nat} (h:k < l.length):part ((insLC l).drop (k * 7)) 0 (some 7) = some (.agg (insC (l.getD k fence0))):=by
 rw[insLC_drop h]
 show (if 0 + 7≤(insC (l.getD k fence0) ++ insLC (l.drop (k + 1))).length then _ else none) = _
 rw[if_pos (by rw[List.length_append,insC_len];omega)]
 rfl
theorem th_at {l:List (List Ins)} {k:Nat} (h:k < l.length):part ((thsC l).drop (k * 1)) 0 none = some (.sl (insLC (l.getD k [])) (l.getD k []).length .non):=by
 simp only[part,Nat.mul_one,thsC]
 rw[List.getElem?_drop,Nat.add_zero,List.getElem?_map,List.getD_eq_getElem?_getD]
 cases hz:l[k]? with
 | none => rw[List.getElem?_eq_none_iff] at hz;omega
 | some x => rfl
theorem skips_take {l:List Ins} {k:Nat} (h:k < l.length):skips (l.take (k + 1)) = skips (l.take k) + (if (l.getD k fence0).kd = 6 then 1 else 0):=by
 rw[List.take_add_one,List.getD_eq_getElem?_getD]
 cases hz:l[k]? with
 | none => rw[List.getElem?_eq_none_iff] at hz;omega
 | some x => simpa using skips_snoc (l.take k) x
theorem skips_le (l:List Ins) (k:Nat):skips (l.take k)≤skips l:=by
 unfold skips
 exact List.Sublist.countP_le (List.take_sublist k l)
structure ThK (th:List Ins):Prop where
 len:th.length≤12
 ins:∀ k,k < th.length→InsK ((th.length - 1 - k:Nat):Int) (th.getD k fence0)
 sk:skips th≤2
theorem ThrOk.k {l:List Int} {T t most:Nat} {th:List Ins} (h:ThrOk l T t most th) (hm:most≤12):ThK th:=
 ⟨Nat.le_trans h.most hm,fun k hk => h.pre.k hk,h.sk⟩
end Go.Ab
end
section
set_option linter.unusedVariables false
set_option linter.unusedSimpArgs false
namespace Go.Ab
variable {F:Funs}
theorem evs_drop:∀ {l:List Ev} {k:Nat} (h:k < l.length),(evsC l).drop (k * 6) = evC (l.getD k ev0) ++ evsC (l.drop (k + 1))
 | p :: l,0,_ => by simp[evsC]
 | p :: l,k + 1,h => by
   have:=evs_drop (l:=l) (k:=k) (by simpa using h)
   simp only[List.getD_cons_succ,List.drop_succ_cons]
   rw[←this]
   simp[evsC,Nat.succ_mul,evC]
theorem ev_vl_at {l:List Ev} {k:Nat} (h:k < l.length):part (((evsC l).drop (k * 6)).drop 4) 0 none = some (.i .i64 (l.getD k ev0).vl):=by
 rw[evs_drop h];rfl
structure FewG (X:Gr):Prop where
 evs:X.evs.length≤50
 rf:X.rf.length≤60
 co:X.co.length≤6
 cos:∀ c∈X.co,c.length≤50
 rmw:X.rmw.length≤50
 data:X.data.length≤300
 ctrl:X.ctrl.length≤300
 ctrli:X.ctrli.length≤300
end Go.Ab
end
section
set_option linter.unusedVariables false
set_option linter.unusedSimpArgs false
namespace Go.Ab
variable {F:Funs}
def EvOk (locs i:Int) (p e:Ev):Prop:=
 (i < locs→e.th = 0∧e.kd = 2∧e.md = 0∧e.lc = i∧e.vl = 0∧e.ex = false) ∧
 (¬ i < locs→1≤e.th∧e.th≤4∧p.th≤e.th∧((e.kd = 1∧0≤e.lc∧e.lc < locs∧(e.md = 0∨e.md = 1))∨(e.kd = 2∧0≤e.lc∧e.lc < locs∧(e.md = 0∨e.md = 2))∨(e.kd = 3∧1≤e.md∧e.md≤4∧e.lc = 0∧e.vl = 0∧e.ex = false)))
end Go.Ab
end
section
set_option linter.unusedVariables false
set_option linter.unusedSimpArgs false
namespace Go.Ab
variable {F:Funs}
def RfOk (X:Gr) (i:Nat):Prop:=((X.evs.getD i ev0).kd≠1→X.rf.getD i 0 = -1) ∧
 ((X.evs.getD i ev0).kd = 1→0≤X.rf.getD i 0∧X.rf.getD i 0 < X.evs.length∧(X.evs.getD (X.rf.getD i 0).toNat ev0).kd = 2∧(X.evs.getD (X.rf.getD i 0).toNat ev0).lc = (X.evs.getD i ev0).lc∧(X.evs.getD (X.rf.getD i 0).toNat ev0).vl = (X.evs.getD i ev0).vl)
def isWr (loc:Int) (e:Ev):Bool:=e.kd == 2 && e.lc == loc
def cntW (X:Gr) (loc:Int) (k:Nat):Nat:=((X.evs.take k).filter (isWr loc)).length
theorem cntW_le (X:Gr) (loc:Int) (k:Nat):cntW X loc k≤k:=by
 unfold cntW
 have h1:=List.length_filter_le (isWr loc) (X.evs.take k)
 rw[List.length_take] at h1;omega
structure CoOk (X:Gr) (loc:Nat):Prop where
 wr:∀ i,i < (X.co.getD loc []).length→0≤(X.co.getD loc []).getD i 0∧(X.co.getD loc []).getD i 0 < X.evs.length∧(X.evs.getD ((X.co.getD loc []).getD i 0).toNat ev0).kd = 2∧(X.evs.getD ((X.co.getD loc []).getD i 0).toNat ev0).lc = loc
 ne:∀ i,i < (X.co.getD loc []).length→∀ k,k < i→(X.co.getD loc []).getD k 0≠(X.co.getD loc []).getD i 0
 len:(X.co.getD loc []).length = cntW X loc X.evs.length
 pos:0 < (X.co.getD loc []).length
 hd:(X.co.getD loc []).getD 0 0 = loc
end Go.Ab
end
section
set_option linter.unusedVariables false
set_option linter.unusedSimpArgs false
namespace Go.Ab
abbrev Mx:=Nat→Nat→Bool
def matR (M:Mx):List AV:=(List.range 1600).map fun i => .b (M (i / 40) (i % 40))
def matC (n:Nat) (M:Mx):List AV:=.i .i64 n :: matR M
theorem matR_len (M:Mx):(matR M).length = 1600:=by simp[matR]
theorem matC_len (n:Nat) (M:Mx):(matC n M).length = 1601:=by simp[matC,matR_len]
theorem matR_get {M:Mx} {a b:Nat} (ha:a < 40) (hb:b < 40):(matR M)[a * 40 + b]? = some (.b (M a b)):=by
 have h:a * 40 + b < 1600:=by omega
 simp only[matR,List.getElem?_map,List.getElem?_range h,Option.map_some]
 rw[show (a * 40 + b) / 40 = a by omega,show (a * 40 + b) % 40 = b by omega]
theorem matC_n (n:Nat) (M:Mx):part (matC n M) 0 none = some (.i .i64 n):=rfl
theorem matC_drop1 (n:Nat) (M:Mx):(matC n M).drop 1 = matR M:=rfl
theorem matC_at {n:Nat} {M:Mx} {a b:Nat} (h:a < 40∧b < 40):part (matC n M) (0 + 1 + a * 40 + b * 1) none = some (.b (M a b)):=by
 rw[show 0 + 1 + a * 40 + b * 1 = (a * 40 + b) + 1 by omega]
 simp only[part,matC,List.getElem?_cons_succ,matR_get h.1 h.2]
theorem matR_at {M:Mx} {a b:Nat} (h:a < 40∧b < 40):part (((matR M).drop (a * 40)).drop (b * 1)) 0 none = some (.b (M a b)):=by
 simp only[part,List.getElem?_drop,Nat.mul_one,Nat.add_zero,matR_get h.1 h.2]
def upd2 (M:Mx) (a b:Nat) (x:Bool):Mx:=fun i j => if i = a∧j = b then x else M i j
theorem matC_set {n:Nat} {M:Mx} {a b:Nat} {x:Bool} (h:a < 40∧b < 40):(matC n M).set (0 + 1 + a * 40 + b * 1) (.b x) = matC n (upd2 M a b x):=by
 rw[show 0 + 1 + a * 40 + b * 1 = (a * 40 + b) + 1 by omega]
 simp only[matC,List.set_cons_succ]
 refine congrArg (List.cons _) ?_
 refine List.ext_getElem? fun i => ?_
 rw[List.getElem?_set,matR_len]
 by_cases hi:i < 1600
 ·have e1:(matR M)[i]? = some (.b (M (i / 40) (i % 40))):=by simp[matR,hi]
  have e2:(matR (upd2 M a b x))[i]? = some (.b (upd2 M a b x (i / 40) (i % 40))):=by simp[matR,hi]
  rw[e1,e2]
  by_cases hab:a * 40 + b = i
  ·rw[if_pos hab,if_pos (by omega)]
   unfold upd2
   rw[if_pos (by omega)]
  ·rw[if_neg hab]
   unfold upd2
   rw[if_neg (by omega)]
 ·have e1:(matR M)[i]? = none:=by rw[List.getElem?_eq_none];rw[matR_len];omega
  have e2:(matR (upd2 M a b x))[i]? = none:=by rw[List.getElem?_eq_none];rw[matR_len];omega
  rw[e1,e2,if_neg (by omega)]
theorem matC_flat (n:Nat) (M:Mx):(matC n M).all flat = true:=by simp[matC,matR,flat]
theorem matC_one (n:Nat) (M:Mx):(matC n M).all one = true:=by simp[matC,matR,one]
theorem matR_one (M:Mx):(matR M).all one = true:=by simp[matR,one]
theorem part_matR (M:Mx):part (matR M) 0 (some 1600) = some (.agg (matR M)):=by
 simp[part,matR_len]
 rw[List.take_of_length_le (by rw[matR_len];omega)]
theorem splice_mat (n:Nat) (M M':Mx):splice (matC n M) 1 (matR M') = matC n M':=by
 have h:∀ (vs:List AV) (a:AV) (cs:List AV),2≤vs.length→vs.length = cs.length→splice (a :: cs) 1 vs = a :: vs:=by
  intro vs a cs h2 h
  match vs,h2 with
  | u :: v :: vs,_ =>
    show List.take 1 (a :: cs) ++ (u :: v :: vs) ++ List.drop (1 + (u :: v :: vs).length) (a :: cs) = _
    rw[List.drop_eq_nil_of_le (by simp at h ⊢;omega)]
    simp
 exact h _ _ _ (by rw[matR_len];omega) (by rw[matR_len,matR_len])
theorem ml:type_of% (And.intro (And.intro (And.intro @matC_n (And.intro @matC_at @matR_at)) (And.intro (And.intro @matC_drop1 @matC_len) (And.intro @matR_len @matC_one))) (And.intro (And.intro (And.intro @matR_one @matC_flat) (And.intro @part_matR @splice_mat)) (And.intro (And.intro @matC_set @retT_nrm) (And.intro @retT_ret @o_thaw)))):=(And.intro (And.intro (And.intro @matC_n (And.intro @matC_at @matR_at)) (And.intro (And.intro @matC_drop1 @matC_len) (And.intro @matR_len @matC_one))) (And.intro (And.intro (And.intro @matR_one @matC_flat) (And.intro @part_matR @splice_mat)) (And.intro (And.intro @matC_set @retT_nrm) (And.intro @retT_ret @o_thaw))))
end Go.Ab
end
section
set_option linter.unusedVariables false
set_option linter.unusedSimpArgs false
namespace Go.Ab
variable {F:Funs}
theorem pairs_a:∀ {l:List (Int × Int)} {k:Nat} (h:k < l.length),part ((pairsC l).drop (k * 2)) 0 none = some (.i .i64 (l.getD k (0,0)).1)
 | p :: l,0,_ => by simp[pairsC,part]
 | p :: l,k + 1,h => by
   have:=pairs_a (l:=l) (k:=k) (by simpa using h)
   simp only[List.getD_cons_succ]
   rw[←this]
   simp[pairsC,Nat.succ_mul]
theorem pairs_b:∀ {l:List (Int × Int)} {k:Nat} (h:k < l.length),part (((pairsC l).drop (k * 2)).drop 1) 0 none = some (.i .i64 (l.getD k (0,0)).2)
 | p :: l,0,_ => by simp[pairsC,part]
 | p :: l,k + 1,h => by
   have:=pairs_b (l:=l) (k:=k) (by simpa using h)
   simp only[List.getD_cons_succ]
   rw[←this]
   simp[pairsC,Nat.succ_mul]
end Go.Ab
end
section
set_option linter.unusedVariables false
set_option linter.unusedSimpArgs false
namespace Go.Ab
variable {F:Funs}
def lessP (p q:Int × Int):Prop:=p.1 < q.1∨(p.1 = q.1∧p.2 < q.2)
def Rising (l:List (Int × Int)):Prop:=∀ i,i + 1 < l.length→lessP (l.getD i (0,0)) (l.getD (i + 1) (0,0))
def DepOk (X:Gr) (p:Int × Int):Prop:=0≤p.1∧p.1 < p.2∧p.2 < X.evs.length∧(X.evs.getD p.1.toNat ev0).kd = 1∧(X.evs.getD p.1.toNat ev0).th = (X.evs.getD p.2.toNat ev0).th
def DepsOk (X:Gr) (l:List (Int × Int)):Prop:=(∀ i,i < l.length→DepOk X (l.getD i (0,0)))∧Rising l
end Go.Ab
end
section
set_option linter.unusedVariables false
set_option linter.unusedSimpArgs false
namespace Go.Ab
variable {F:Funs}
def inB (i:Nat) (p:Int × Int):Bool:=p.1 == (i:Int) || p.2 == (i:Int)
def inC (l:List (Int × Int)) (i:Nat):Nat:=(l.filter (inB i)).length
def PairOk (X:Gr) (p:Int × Int):Prop:=0≤p.1∧p.1 < X.evs.length - 1∧p.2 = p.1 + 1∧(X.evs.getD p.1.toNat ev0).th = (X.evs.getD p.2.toNat ev0).th∧(X.evs.getD p.1.toNat ev0).kd = 1∧(X.evs.getD p.2.toNat ev0).kd = 2∧(X.evs.getD p.1.toNat ev0).lc = (X.evs.getD p.2.toNat ev0).lc∧(X.evs.getD p.1.toNat ev0).ex = true∧(X.evs.getD p.2.toNat ev0).ex = true
structure RmwOk (X:Gr):Prop where
 pairs:∀ j,j < X.rmw.length→PairOk X (X.rmw.getD j (0,0))
 once:∀ i,i < X.evs.length→inC X.rmw i≤1∧(X.evs.getD i ev0).ex = ((inC X.rmw i:Int) == 1)
 rise:Rising X.rmw
end Go.Ab
end
section
set_option linter.unusedVariables false
set_option linter.unusedSimpArgs false
namespace Go.Ab
variable {F:Funs}
structure GraphOk (X:Gr):Prop where
 locs1:1≤X.locs
 locs4:X.locs≤4
 nl:X.locs≤X.evs.length
 n40:X.evs.length≤40
 rfl:X.rf.length = X.evs.length
 col:(X.co.length:Int) = X.locs
 ev:∀ i,i < X.evs.length→EvOk X.locs i (X.evs.getD (i - 1) ev0) (X.evs.getD i ev0)
 rf:∀ i,i < X.evs.length→RfOk X i
 co:∀ i,i < X.co.length→CoOk X i
 rmw:RmwOk X
 data:DepsOk X X.data
 ctrl:DepsOk X X.ctrl
 ctrli:DepsOk X X.ctrli
end Go.Ab
end
section
set_option linter.unusedVariables false
set_option linter.unusedSimpArgs false
namespace Go.Ab
instance (p q:Int × Int):Decidable (lessP p q):=by unfold lessP;infer_instance
theorem lessP_trans {p q r:Int × Int} (h:lessP p q) (k:lessP q r):lessP p r:=by unfold lessP at *;omega
theorem lessP_tot {p q:Int × Int} (h:¬ lessP p q) (n:p≠q):lessP q p:=by
 unfold lessP at *
 have:¬ (p.1 = q.1∧p.2 = q.2):=fun h => n (Prod.ext h.1 h.2)
 omega
def Up (l:List Int):Prop:=l.Pairwise (· < ·)
def putI:List Int→Int→List Int
 | [],v => [v]
 | a :: l,v => if a < v then a :: putI l v else if a = v then a :: l else v :: a :: l
theorem putI_eq:∀ {l:List Int} {v:Int} {k:Nat},k≤l.length→(∀ j,j < k→l.getD j 0 < v)→(k < l.length→v < l.getD k 0)→putI l v = l.take k ++ v :: l.drop k
 | [],v,k,hk,_,_ => by
   obtain rfl:k = 0:=by simpa using hk
   rfl
 | a :: l,v,0,_,_,h => by
   have h1:v < a:=by simpa using h (by simp)
   simp only[putI,List.take_zero,List.drop_zero,List.nil_append]
   rw[if_neg (by omega),if_neg (by omega)]
 | a :: l,v,k + 1,hk,h,h2 => by
   have h1:a < v:=by simpa using h 0 (by omega)
   simp only[putI,List.take_succ_cons,List.drop_succ_cons,List.cons_append]
   rw[if_pos h1,putI_eq (by simpa using hk) (fun j hj => by simpa using h (j + 1) (by omega)) (fun hl => by simpa using h2 (by simpa using hl))]
theorem putI_has:∀ {l:List Int} {v:Int} {k:Nat},k < l.length→(∀ j,j < k→l.getD j 0 < v)→l.getD k 0 = v→putI l v = l
 | [],v,k,hk,_,_ => by simp at hk
 | a :: l,v,0,_,_,h => by
   have h1:a = v:=by simpa using h
   simp only[putI]
   rw[if_neg (by omega),if_pos h1]
 | a :: l,v,k + 1,hk,h,h2 => by
   have h1:a < v:=by simpa using h 0 (by omega)
   simp only[putI]
   rw[if_pos h1,putI_has (by simpa using hk) (fun j hj => by simpa using h (j + 1) (by omega)) (by simpa using h2)]
theorem putI_mem:∀ {l:List Int} {v x:Int},x∈putI l v↔x∈l∨x = v
 | [],v,x => by simp[putI]
 | a :: l,v,x => by
   unfold putI
   split
   ·simp[putI_mem,or_assoc]
   ·split
    ·rename_i h1 h2
     subst h2
     simp only[List.mem_cons]
     refine ⟨fun h => .inl h,fun h => ?_⟩
     rcases h with h | h
     ·exact h
     ·exact .inl h
    ·simp only[List.mem_cons]
     refine ⟨fun h => ?_,fun h => ?_⟩
     ·rcases h with h | h | h
      ·exact .inr h
      ·exact .inl (.inl h)
      ·exact .inl (.inr h)
     ·rcases h with (h | h) | h
      ·exact .inr (.inl h)
      ·exact .inr (.inr h)
      ·exact .inl h
theorem putI_up:∀ {l:List Int} {v:Int},Up l→Up (putI l v)
 | [],v,_ => by simp[putI,Up]
 | a :: l,v,h => by
   obtain ⟨h1,h2⟩:=List.pairwise_cons.1 h
   unfold putI
   split
   ·rename_i hv
    refine List.pairwise_cons.2 ⟨fun x hx => ?_,putI_up h2⟩
    rcases putI_mem.1 hx with hx | hx
    ·exact h1 x hx
    ·omega
   ·split
    ·exact h
    ·rename_i hv hn
     refine List.pairwise_cons.2 ⟨fun x hx => ?_,h⟩
     rcases List.mem_cons.1 hx with rfl | hx
     ·omega
     ·have:=h1 x hx;omega
def bothI (a b:List Int):List Int:=b.foldl putI a
theorem bothI_mem:∀ {b a:List Int} {x:Int},x∈bothI a b↔x∈a∨x∈b
 | [],a,x => by simp[bothI]
 | v :: b,a,x => by
   show x∈bothI (putI a v) b↔_
   rw[bothI_mem,putI_mem,List.mem_cons,or_assoc]
theorem bothI_up:∀ {b a:List Int},Up a→Up (bothI a b)
 | [],a,h => h
 | v :: b,a,h => bothI_up (b:=b) (putI_up h)
theorem up_len:∀ {l:List Int} {lo hi:Int},Up l→(∀ r∈l,lo≤r∧r < hi)→l.length≤(hi - lo).toNat
 | [],_,_,_,_ => Nat.zero_le _
 | a :: l,lo,hi,h,hb => by
   obtain ⟨h1,h2⟩:=List.pairwise_cons.1 h
   have ha:=hb a (List.mem_cons_self ..)
   have:=up_len (lo:=a + 1) (hi:=hi) h2 fun r hr => ⟨by have:=h1 r hr;omega,(hb r (List.mem_cons_of_mem _ hr)).2⟩
   simp only[List.length_cons]
   omega
def insP:List (Int × Int)→Int × Int→List (Int × Int)
 | [],p => [p]
 | q :: l,p => if lessP q p then q :: insP l p else p :: q :: l
theorem insP_eq:∀ {l:List (Int × Int)} {p:Int × Int} {k:Nat},k≤l.length→(∀ j,j < k→lessP (l.getD j (0,0)) p)→(k < l.length→¬ lessP (l.getD k (0,0)) p)→insP l p = l.take k ++ p :: l.drop k
 | [],p,k,hk,_,_ => by
   obtain rfl:k = 0:=by simpa using hk
   rfl
 | a :: l,p,0,_,_,h => by
   have h1:¬ lessP a p:=by simpa using h (by simp)
   simp only[insP,List.take_zero,List.drop_zero,List.nil_append]
   rw[if_neg h1]
 | a :: l,p,k + 1,hk,h,h2 => by
   have h1:lessP a p:=by simpa using h 0 (by omega)
   simp only[insP,List.take_succ_cons,List.drop_succ_cons,List.cons_append]
   rw[if_pos h1,insP_eq (by simpa using hk) (fun j hj => by simpa using h (j + 1) (by omega)) (fun hl => by simpa using h2 (by simpa using hl))]
theorem insP_mem:∀ {l:List (Int × Int)} {p x:Int × Int},x∈insP l p↔x∈l∨x = p
 | [],p,x => by simp[insP]
 | a :: l,p,x => by
   unfold insP
   split
   ·simp[insP_mem,or_assoc]
   ·simp only[List.mem_cons]
    refine ⟨fun h => ?_,fun h => ?_⟩
    ·rcases h with h | h | h
     ·exact .inr h
     ·exact .inl (.inl h)
     ·exact .inl (.inr h)
    ·rcases h with (h | h) | h
     ·exact .inr (.inl h)
     ·exact .inr (.inr h)
     ·exact .inl h
theorem insP_len:∀ {l:List (Int × Int)} {p:Int × Int},(insP l p).length = l.length + 1
 | [],p => rfl
 | a :: l,p => by
   unfold insP
   split
   ·simp[insP_len]
   ·simp
theorem insP_pw:∀ {l:List (Int × Int)} {p:Int × Int},l.Pairwise lessP→p ∉ l→(insP l p).Pairwise lessP
 | [],p,_,_ => by simp[insP]
 | a :: l,p,h,hn => by
   obtain ⟨h1,h2⟩:=List.pairwise_cons.1 h
   unfold insP
   split
   ·rename_i hv
    refine List.pairwise_cons.2 ⟨fun x hx => ?_,insP_pw h2 fun hm => hn (List.mem_cons_of_mem _ hm)⟩
    rcases insP_mem.1 hx with hx | rfl
    ·exact h1 x hx
    ·exact hv
   ·rename_i hv
    have hpa:lessP p a:=lessP_tot hv fun h => hn (by rw[h];exact List.mem_cons_self ..)
    refine List.pairwise_cons.2 ⟨fun x hx => ?_,h⟩
    rcases List.mem_cons.1 hx with rfl | hx
    ·exact hpa
    ·exact lessP_trans hpa (h1 x hx)
def pairsI (l:List (Int × Int)) (rs:List Int) (b:Int):List (Int × Int):=rs.foldl (fun l r => insP l (r,b)) l
theorem pairsI_mem:∀ {rs:List Int} {l:List (Int × Int)} {b:Int} {x:Int × Int},x∈pairsI l rs b↔x∈l∨(x.2 = b∧x.1∈rs)
 | [],l,b,x => by simp[pairsI]
 | r :: rs,l,b,x => by
   show x∈pairsI (insP l (r,b)) rs b↔_
   rw[pairsI_mem,insP_mem,List.mem_cons]
   have he:x = (r,b)↔x.1 = r∧x.2 = b:=by rw[Prod.ext_iff]
   rw[he]
   refine ⟨fun h => ?_,fun h => ?_⟩
   ·rcases h with (h | ⟨h1,h2⟩) | ⟨h1,h2⟩
    ·exact .inl h
    ·exact .inr ⟨h2,.inl h1⟩
    ·exact .inr ⟨h1,.inr h2⟩
   ·rcases h with h | ⟨h1,h2 | h2⟩
    ·exact .inl (.inl h)
    ·exact .inl (.inr ⟨h2,h1⟩)
    ·exact .inr ⟨h1,h2⟩
theorem pairsI_len:∀ {rs:List Int} {l:List (Int × Int)} {b:Int},(pairsI l rs b).length = l.length + rs.length
 | [],l,b => rfl
 | r :: rs,l,b => by
   show (pairsI (insP l (r,b)) rs b).length = _
   rw[pairsI_len,insP_len,List.length_cons]
   omega
theorem pairsI_pw:∀ {rs:List Int} {l:List (Int × Int)} {b:Int},l.Pairwise lessP→(∀ r∈rs,(r,b) ∉ l)→rs.Nodup→(pairsI l rs b).Pairwise lessP
 | [],l,b,h,_,_ => h
 | r :: rs,l,b,h,hn,hd => by
   obtain ⟨d1,d2⟩:=List.nodup_cons.1 hd
   show (pairsI (insP l (r,b)) rs b).Pairwise lessP
   refine pairsI_pw (insP_pw h (hn r (List.mem_cons_self ..))) (fun r' hr' hm => ?_) d2
   rcases insP_mem.1 hm with hm | hm
   ·exact hn r' (List.mem_cons_of_mem _ hr') hm
   ·have:r' = r:=congrArg Prod.fst hm
    subst this
    exact d1 hr'
theorem Up.nodup {l:List Int} (h:Up l):l.Nodup:=List.Pairwise.imp (fun {a b} (hab:a < b) => (by omega:a≠b)) h
structure RS where
 evs:List Ev
 rmw:List (Int × Int)
 data:List (Int × Int)
 ctrl:List (Int × Int)
 used:Nat
 regs:List Int
 frm:List (List Int)
 now:List Int
 short:Bool
def rs0:RS:=⟨[],[],[],[],0,List.replicate 8 0,List.replicate 8 [],[],false⟩
def evR (s:RS) (e:Ev) (dl:List Int):RS:={ s with evs:=s.evs ++ [e],data:=pairsI s.data dl s.evs.length,ctrl:=pairsI s.ctrl s.now s.evs.length }
def rdR (s:RS) (reads:List Int) (loc mode:Int) (ex:Bool) (reg:Nat):RS:=
 if reads.length≤s.used then { s with short:=true } else
  let s1:=evR { s with used:=s.used + 1 } ⟨0,1,mode,loc,reads.getD s.used 0,ex⟩ []
  { s1 with regs:=s1.regs.set reg (reads.getD s.used 0),frm:=s1.frm.set reg [(s.evs.length:Int)] }
def wrR (s:RS) (loc mode:Int) (ex:Bool) (v:Int) (dl:List Int):RS:=
 let s1:=evR s ⟨0,2,mode,loc,v,ex⟩ dl
 if ex then { s1 with rmw:=s1.rmw ++ [((s.evs.length:Int) - 1,(s.evs.length:Int))] } else s1
def exR (ex:List (Int × Int)):List Nat:=match ex with
 | (2,a) :: _ => [a.toNat]
 | _ => []
def ofR (s:RS) (ex:List (Int × Int)):List Int:=(exR ex).foldl (fun l r => bothI l (s.frm.getD r [])) []
def faR (s:RS) (reads:List Int) (loc md md2:Int) (reg:Nat) (from_:List Int) (add:Int):RS:=
 let s1:=rdR s reads loc md true reg
 if reads.length≤s.used then s1 else wrR s1 loc md2 true (IntKind.i64.wrap (s1.regs.getD reg 0 + add)) (bothI from_ (s1.frm.getD reg []))
def stR (V:List (Int × Int)→List Int→Int) (reads:List Int) (s:RS) (x:Ins):RS:=
 if x.kd = 1 then rdR s reads x.lc x.md false x.rg.toNat
 else if x.kd = 2 then wrR s x.lc x.md false (V x.ex s.regs) (ofR s x.ex)
 else if x.kd = 3 then evR s ⟨0,3,x.md,0,0,false⟩ []
 else if x.kd = 4 then faR s reads x.lc x.md x.md2 x.rg.toNat (ofR s x.ex) (V x.ex s.regs)
 else if x.kd = 5 then { s with regs:=s.regs.set x.rg.toNat (V x.ex s.regs),frm:=s.frm.set x.rg.toNat (ofR s x.ex) }
 else { s with now:=bothI s.now (ofR s x.ex) }
def skR (V:List (Int × Int)→List Int→Int) (s:RS) (x:Ins):Nat:=if x.kd = 6∧V x.ex s.regs≠0 then x.n.toNat else 0
def runR (V:List (Int × Int)→List Int→Int) (reads:List Int) (th:List Ins):Nat→Nat→RS→RS
 | 0,_,s => s
 | f + 1,k,s => if k < th.length∧s.short = false then runR V reads th f (k + skR V s (th.getD k fence0) + 1) (stR V reads s (th.getD k fence0)) else s
def doR (V:List (Int × Int)→List Int→Int) (th:List Ins) (reads:List Int):RS:=runR V reads th th.length 0 rs0
theorem evR_used (s e dl):(evR s e dl).used = s.used:=rfl
theorem wrR_used (s loc mode ex v dl):(wrR s loc mode ex v dl).used = s.used:=by unfold wrR;dsimp only;split<;>rfl
theorem wrR_short (s loc mode ex v dl):(wrR s loc mode ex v dl).short = s.short:=by unfold wrR;dsimp only;split<;>rfl
theorem rdR_used (s reads loc mode ex reg):(rdR s reads loc mode ex reg).used = if reads.length≤s.used then s.used else s.used + 1:=by
 unfold rdR;split<;>rfl
theorem stR_used (V reads s x):s.used≤(stR V reads s x).used∧(stR V reads s x).used≤s.used + 1∧(s.used≤reads.length→(stR V reads s x).used≤reads.length):=by
 unfold stR
 split
 ·rw[rdR_used];split<;>omega
 split
 ·rw[wrR_used];omega
 split
 ·rw[evR_used];omega
 split
 ·unfold faR
  dsimp only
  split
  ·rw[rdR_used];split<;>omega
  ·rw[wrR_used,rdR_used];split<;>omega
 split
 ·exact ⟨Nat.le_refl _,Nat.le_succ _,id⟩
 ·exact ⟨Nat.le_refl _,Nat.le_succ _,id⟩
theorem runR_used (V reads th):∀ f k s,s.used≤(runR V reads th f k s).used∧(runR V reads th f k s).used≤s.used + f∧(s.used≤reads.length→(runR V reads th f k s).used≤reads.length)
 | 0,k,s => ⟨Nat.le_refl _,Nat.le_refl _,id⟩
 | f + 1,k,s => by
   unfold runR
   split
   ·have h1:=stR_used V reads s (th.getD k fence0)
    have h2:=runR_used V reads th f (k + skR V s (th.getD k fence0) + 1) (stR V reads s (th.getD k fence0))
    omega
   ·omega
theorem stR_short {V reads s x} (h:s.short = false) (hs:(stR V reads s x).short = true):reads.length≤s.used∧(x.kd = 1∨x.kd = 4):=by
 unfold stR at hs
 split at hs
 ·rename_i hk
  unfold rdR at hs
  split at hs
  ·exact ⟨by assumption,.inl hk⟩
  ·rw[show (_:RS).short = s.short from rfl,h] at hs;cases hs
 split at hs
 ·rw[wrR_short,h] at hs;cases hs
 split at hs
 ·rw[show (evR _ _ _).short = s.short from rfl,h] at hs;cases hs
 split at hs
 ·rename_i hk
  unfold faR at hs
  dsimp only at hs
  split at hs
  ·exact ⟨by assumption,.inr hk⟩
  ·rename_i hu
   rw[wrR_short] at hs
   unfold rdR at hs
   rw[if_neg hu] at hs
   rw[show (_:RS).short = s.short from rfl,h] at hs;cases hs
 split at hs
 ·rw[show (_:RS).short = s.short from rfl,h] at hs;cases hs
 ·rw[show (_:RS).short = s.short from rfl,h] at hs;cases hs
theorem stR_more {V h x s i} (hs:s.short = false) (hn:(stR V h s i).short = false) (hu:s.used≤h.length):stR V (h ++ [x]) s i = stR V h s i:=by
 have key:(i.kd = 1∨i.kd = 4)→s.used < h.length:=by
  intro hk
  by_cases hc:h.length≤s.used
  ·exfalso
   unfold stR at hn
   rcases hk with hk | hk
   ·rw[if_pos hk] at hn
    unfold rdR at hn
    rw[if_pos hc] at hn
    cases hn
   ·rw[if_neg (by omega),if_neg (by omega),if_neg (by omega),if_pos hk] at hn
    unfold faR rdR at hn
    simp only[if_pos hc] at hn
    cases hn
  ·omega
 have rd:(i.kd = 1∨i.kd = 4)→∀ loc mode ex reg,rdR s (h ++ [x]) loc mode ex reg = rdR s h loc mode ex reg:=by
  intro hk loc mode ex reg
  have hlt:=key hk
  unfold rdR
  rw[if_neg (by simp;omega),if_neg (by omega)]
  have:(h ++ [x]).getD s.used 0 = h.getD s.used 0:=by simp[List.getD,List.getElem?_append_left hlt]
  rw[this]
 unfold stR
 split
 ·rename_i hk;exact rd (.inl hk) _ _ _ _
 split
 ·rfl
 split
 ·rfl
 split
 ·rename_i hk
  have hlt:=key (.inr hk)
  unfold faR
  rw[rd (.inr hk)]
  dsimp only
  rw[if_neg (by simp;omega),if_neg (by omega)]
 split
 ·rfl
 ·rfl
theorem runR_end {V reads th f k s} (h:s.short = true):runR V reads th f k s = s:=by
 cases f with
 | zero => rfl
 | succ f => unfold runR;rw[if_neg (by simp[h])]
theorem runR_more {V h x th}:∀ f k s,s.short = false→s.used≤h.length→(runR V h th f k s).short = true→(runR V (h ++ [x]) th f k s).used = h.length + 1
 | 0,k,s,hs,_,hn => by rw[show runR V h th 0 k s = s from rfl,hs] at hn;cases hn
 | f + 1,k,s,hs,hu,hn => by
   unfold runR at hn ⊢
   split at hn
   ·rename_i hk
    rw[if_pos hk]
    cases hb:(stR V h s (th.getD k fence0)).short with
    | false =>
      rw[stR_more hs hb hu]
      exact runR_more f _ _ hb ((stR_used V h s (th.getD k fence0)).2.2 hu) hn
    | true =>
      obtain ⟨h1,h2⟩:=stR_short hs hb
      have h3:(stR V (h ++ [x]) s (th.getD k fence0)).used = h.length + 1:=by
       unfold stR
       rcases h2 with h2 | h2
       ·rw[if_pos h2,rdR_used,if_neg (by simp;omega)];omega
       ·rw[if_neg (by omega),if_neg (by omega),if_neg (by omega),if_pos h2]
        unfold faR
        dsimp only
        rw[if_neg (by simp;omega),wrR_used,rdR_used,if_neg (by simp;omega)]
        omega
      have h4:=runR_used V (h ++ [x]) th f (k + skR V s (th.getD k fence0) + 1) (stR V (h ++ [x]) s (th.getD k fence0))
      rw[h3] at h4
      have h5:=h4.2.2 (by simp)
      rw[List.length_append,List.length_singleton] at h5
      omega
   ·rw[hs] at hn;cases hn
theorem doR_more {V th h x} (hs:(doR V th h).short = true):(doR V th (h ++ [x])).used = h.length + 1:=runR_more _ _ _ rfl (Nat.zero_le _) hs
theorem runR_far {V reads th}:∀ f k s,s.short = false→(runR V reads th f k s).short = true→reads.length < s.used + f
 | 0,k,s,hs,hn => by rw[show runR V reads th 0 k s = s from rfl,hs] at hn;cases hn
 | f + 1,k,s,hs,hn => by
   unfold runR at hn
   split at hn
   ·cases hb:(stR V reads s (th.getD k fence0)).short with
    | true => have:=(stR_short hs hb).1;omega
    | false =>
      have:=runR_far f _ _ hb hn
      have h1:=stR_used V reads s (th.getD k fence0)
      omega
   ·rw[hs] at hn;cases hn
theorem runR_fuel {V reads th}:∀ f f' k s,th.length≤k + f→th.length≤k + f'→runR V reads th f k s = runR V reads th f' k s
 | 0,0,k,s,_,_ => rfl
 | 0,f' + 1,k,s,h,_ => by
   show s = _
   unfold runR
   rw[if_neg (by omega)]
 | f + 1,0,k,s,_,h => by
   show _ = s
   unfold runR
   rw[if_neg (by omega)]
 | f + 1,f' + 1,k,s,h,h' => by
   unfold runR
   split
   ·exact runR_fuel f f' _ _ (by omega) (by omega)
   ·rfl
theorem doR_far {V th h} (hs:(doR V th h).short = true):h.length < th.length:=by
 have:=runR_far (V:=V) (reads:=h) (th:=th) th.length 0 rs0 rfl hs
 simpa [rs0] using this
end Go.Ab
end
section
set_option linter.unusedVariables false
set_option linter.unusedSimpArgs false
namespace Go.Ab
def EvT (e:Ev):Prop:=e.th = 0∧((e.kd = 1∧(e.lc = 0∨e.lc = 1)∧(e.md = 0∨e.md = 1))∨(e.kd = 2∧(e.lc = 0∨e.lc = 1)∧(e.md = 0∨e.md = 2))∨(e.kd = 3∧1≤e.md∧e.md≤4∧e.lc = 0∧e.vl = 0∧e.ex = false))
def RdL (es:List Ev) (l:List Int):Prop:=(∀ r∈l,0≤r∧r < es.length∧(es.getD r.toNat ev0).kd = 1)∧Up l
def DpL (es:List Ev) (l:List (Int × Int)):Prop:=(∀ p∈l,0≤p.1∧p.1 < p.2∧p.2 < es.length∧(es.getD p.1.toNat ev0).kd = 1∧(es.getD p.1.toNat ev0).th = (es.getD p.2.toNat ev0).th)∧l.Pairwise lessP
def RmP (es:List Ev) (p:Int × Int):Prop:=0≤p.1∧p.2 = p.1 + 1∧p.2 < es.length∧(es.getD p.1.toNat ev0).th = (es.getD p.2.toNat ev0).th∧(es.getD p.1.toNat ev0).kd = 1∧(es.getD p.2.toNat ev0).kd = 2∧(es.getD p.1.toNat ev0).lc = (es.getD p.2.toNat ev0).lc∧(es.getD p.1.toNat ev0).ex = true∧(es.getD p.2.toNat ev0).ex = true
structure RmL (es:List Ev) (l:List (Int × Int)):Prop where
 pairs:∀ p∈l,RmP es p
 once:∀ i,i < es.length→inC l i≤1∧(es.getD i ev0).ex = ((inC l i:Int) == 1)
 rise:l.Pairwise lessP
 len:l.length≤es.length
theorem getD_l {es:List Ev} {x:List Ev} {i:Nat} (h:i < es.length):(es ++ x).getD i ev0 = es.getD i ev0:=by
 simp[List.getD,List.getElem?_append_left h]
theorem getD_r {es:List Ev} {x:List Ev} {i:Nat}:(es ++ x).getD (es.length + i) ev0 = x.getD i ev0:=by
 simp[List.getD,List.getElem?_append_right]
theorem RdL.mono {es x l} (h:RdL es l):RdL (es ++ x) l:=by
 refine ⟨fun r hr => ?_,h.2⟩
 obtain ⟨h0,h1,h2⟩:=h.1 r hr
 refine ⟨h0,by rw[List.length_append];omega,?_⟩
 rw[getD_l (by omega)];exact h2
theorem DpL.mono {es x l} (h:DpL es l):DpL (es ++ x) l:=by
 refine ⟨fun p hp => ?_,h.2⟩
 obtain ⟨h0,h1,h2,h3,h4⟩:=h.1 p hp
 refine ⟨h0,h1,by rw[List.length_append];omega,?_,?_⟩
 ·rw[getD_l (by omega)];exact h3
 ·rw[getD_l (by omega),getD_l (by omega)];exact h4
theorem RmP.mono {es x p} (h:RmP es p):RmP (es ++ x) p:=by
 obtain ⟨h0,h1,h2,h3⟩:=h
 refine ⟨h0,h1,by rw[List.length_append];omega,?_⟩
 rw[getD_l (by omega),getD_l (by omega)];exact h3
theorem inC_app (a b:List (Int × Int)) (i:Nat):inC (a ++ b) i = inC a i + inC b i:=by simp[inC]
theorem inC_zero {l:List (Int × Int)} {i:Nat} (h:∀ p∈l,p.1≠(i:Int)∧p.2≠(i:Int)):inC l i = 0:=by
 unfold inC
 rw[List.length_eq_zero_iff,List.filter_eq_nil_iff]
 intro p hp
 have:=h p hp
 simp[inB,this.1,this.2]
theorem DpL.pairs {es:List Ev} {l:List (Int × Int)} {rs:List Int} {e:Ev} (h:DpL es l) (hr:RdL es rs) (ht:∀ x∈es,x.th = e.th):DpL (es ++ [e]) (pairsI l rs es.length):=by
 refine ⟨fun p hp => ?_,pairsI_pw h.2 (fun r hr' hm => ?_) hr.2.nodup⟩
 ·rcases pairsI_mem.1 hp with hp | ⟨hp2,hp1⟩
  ·exact (h.mono (x:=[e])).1 p hp
  ·obtain ⟨h0,h1,h2⟩:=hr.1 _ hp1
   refine ⟨h0,by omega,by rw[List.length_append];simp;omega,?_,?_⟩
   ·rw[getD_l (by omega)];exact h2
   ·rw[getD_l (by omega),hp2,show ((es.length:Int)).toNat = es.length + 0 by simp,getD_r]
    have:es.getD p.1.toNat ev0∈es:=by
     rw[List.getD_eq_getElem?_getD,List.getElem?_eq_getElem (by omega)]
     exact List.getElem_mem _
    exact ht _ this
 ·have:=h.1 _ hm
  simp only at this
  omega
theorem RmL.one {es l} {e:Ev} (h:RmL es l) (he:e.ex = false):RmL (es ++ [e]) l:=by
 refine ⟨fun p hp => (h.pairs p hp).mono,fun i hi => ?_,h.rise,by have:=h.len;rw[List.length_append];omega⟩
 by_cases c:i < es.length
 ·rw[getD_l c];exact h.once i c
 ·obtain rfl:i = es.length:=by rw[List.length_append] at hi;simp at hi;omega
  have hz:inC l es.length = 0:=inC_zero fun p hp => by
   obtain ⟨h0,h1,h2,_⟩:=h.pairs p hp
   omega
  rw[hz]
  refine ⟨by omega,?_⟩
  have:(es ++ [e]).getD es.length ev0 = e:=by have:=getD_r (es:=es) (x:=[e]) (i:=0);rw[Nat.add_zero] at this;rw[this];rfl
  rw[this,he]
  rfl
theorem RmL.two {es l} {r w:Ev} (h:RmL es l) (h1:r.th = w.th) (h2:r.kd = 1) (h3:w.kd = 2) (h4:r.lc = w.lc) (h5:r.ex = true) (h6:w.ex = true):RmL (es ++ [r] ++ [w]) (l ++ [((es.length:Int),(es.length:Int) + 1)]):=by
 have er:(es ++ [r] ++ [w]).getD es.length ev0 = r:=by
  rw[List.append_assoc];simp
 have ew:(es ++ [r] ++ [w]).getD (es.length + 1) ev0 = w:=by
  rw[List.append_assoc];simp
 have hlen:(es ++ [r] ++ [w]).length = es.length + 2:=by simp
 refine ⟨fun p hp => ?_,fun i hi => ?_,?_,?_⟩
 ·rcases List.mem_append.1 hp with hp | hp
  ·rw[List.append_assoc];exact (h.pairs p hp).mono
  ·obtain rfl:p = ((es.length:Int),(es.length:Int) + 1):=by simpa using hp
   have e1:((es.length:Int)).toNat = es.length:=by omega
   have e2:((es.length:Int) + 1).toNat = es.length + 1:=by omega
   refine ⟨by simp,rfl,by rw[hlen];simp,?_⟩
   simp only[e1,e2,er,ew]
   exact ⟨h1,h2,h3,h4,h5,h6⟩
 ·rw[inC_app]
  rw[hlen] at hi
  by_cases c:i < es.length
  ·have hz:inC [((es.length:Int),(es.length:Int) + 1)] i = 0:=inC_zero fun p hp => by
    obtain rfl:p = ((es.length:Int),(es.length:Int) + 1):=by simpa using hp
    simp only;omega
   rw[hz,List.append_assoc,getD_l c]
   exact h.once i c
  ·have hz:inC l i = 0:=inC_zero fun p hp => by
    obtain ⟨h0,h1,h2,_⟩:=h.pairs p hp
    omega
   rw[hz]
   by_cases c2:i = es.length
   ·subst c2
    rw[er,h5]
    simp[inC,inB]
   ·obtain rfl:i = es.length + 1:=by omega
    rw[ew,h6]
    simp[inC,inB]
 ·refine List.pairwise_append.2 ⟨h.rise,by simp,fun p hp q hq => ?_⟩
  obtain rfl:q = ((es.length:Int),(es.length:Int) + 1):=by simpa using hq
  obtain ⟨h0,h1,h2,_⟩:=h.pairs p hp
  unfold lessP
  simp only
  omega
 ·have:=h.len
  simp
  omega
structure RIn0 (s:RS):Prop where
 ev:∀ e∈s.evs,EvT e
 data:DpL s.evs s.data
 ctrl:DpL s.evs s.ctrl
 frm:∀ l∈s.frm,RdL s.evs l
 now:RdL s.evs s.now
 f8:s.frm.length = 8
 r8:s.regs.length = 8
 dl:s.data.length≤s.evs.length * s.evs.length
 cl:s.ctrl.length≤s.evs.length * s.evs.length
structure RInv (s:RS):Prop where
 b:RIn0 s
 rmw:RmL s.evs s.rmw
theorem RdL.len {es l} (h:RdL es l):l.length≤es.length:=by
 have:=up_len (lo:=0) (hi:=es.length) h.2 fun r hr => ⟨(h.1 r hr).1,(h.1 r hr).2.1⟩
 omega
theorem rdL_nil (es):RdL es []:=⟨fun r hr => absurd hr (List.not_mem_nil),List.Pairwise.nil⟩
theorem RIn0.ev1 {s:RS} {e:Ev} {dl:List Int} (h:RIn0 s) (he:EvT e) (hd:RdL s.evs dl):RIn0 (evR s e dl):=by
 have hth:∀ x∈s.evs,x.th = e.th:=fun x hx => by rw[(h.ev x hx).1,he.1]
 have hq:∀ a m:Nat,a≤m * m→∀ b,b≤m→a + b≤(m + 1) * (m + 1):=by
  intro a m h1 b h2
  have:(m + 1) * (m + 1) = m * m + m + m + 1:=by rw[Nat.add_mul,Nat.mul_add];omega
  omega
 refine ⟨fun x hx => ?_,h.data.pairs hd hth,h.ctrl.pairs h.now hth,fun l hl => (h.frm l hl).mono,h.now.mono,h.f8,h.r8,?_,?_⟩
 ·rcases List.mem_append.1 hx with hx | hx
  ·exact h.ev x hx
  ·obtain rfl:x = e:=by simpa using hx
   exact he
 ·show (pairsI _ _ _).length≤(s.evs ++ [e]).length * (s.evs ++ [e]).length
  rw[pairsI_len,List.length_append,List.length_singleton]
  exact hq _ _ h.dl _ hd.len
 ·show (pairsI _ _ _).length≤(s.evs ++ [e]).length * (s.evs ++ [e]).length
  rw[pairsI_len,List.length_append,List.length_singleton]
  exact hq _ _ h.cl _ h.now.len
theorem RdL.both {es a b} (ha:RdL es a) (hb:RdL es b):RdL es (bothI a b):=by
 refine ⟨fun r hr => ?_,bothI_up ha.2⟩
 rcases bothI_mem.1 hr with h | h
 ·exact ha.1 r h
 ·exact hb.1 r h
theorem RIn0.at {s:RS} (h:RIn0 s) (r:Nat):RdL s.evs (s.frm.getD r []):=by
 by_cases c:r < s.frm.length
 ·refine h.frm _ ?_
  rw[List.getD_eq_getElem?_getD,List.getElem?_eq_getElem c]
  exact List.getElem_mem c
 ·rw[List.getD_eq_getElem?_getD,List.getElem?_eq_none (by omega)]
  exact rdL_nil _
theorem RIn0.of {s:RS} (h:RIn0 s) (ex):RdL s.evs (ofR s ex):=by
 unfold ofR exR
 split
 ·exact (rdL_nil _).both (h.at _)
 ·exact rdL_nil _
theorem mem_set {α:Type} {l:List α} {i:Nat} {a x:α} (h:x∈l.set i a):x∈l∨x = a:=List.mem_or_eq_of_mem_set h
theorem RIn0.rd {s:RS} (h:RIn0 s) {reads:List Int} {loc mode:Int} {ex:Bool} {reg:Nat} (hl:loc = 0∨loc = 1) (hm:mode = 0∨mode = 1):RIn0 (rdR s reads loc mode ex reg):=by
 unfold rdR
 split
 ·exact ⟨h.ev,h.data,h.ctrl,h.frm,h.now,h.f8,h.r8,h.dl,h.cl⟩
 ·have h1:RIn0 (evR { s with used:=s.used + 1 } ⟨0,1,mode,loc,reads.getD s.used 0,ex⟩ []):=
   RIn0.ev1 (s:={ s with used:=s.used + 1 }) ⟨h.ev,h.data,h.ctrl,h.frm,h.now,h.f8,h.r8,h.dl,h.cl⟩ ⟨rfl,.inl ⟨rfl,hl,hm⟩⟩ (rdL_nil _)
  refine ⟨h1.ev,h1.data,h1.ctrl,fun l hl => ?_,h1.now,by simpa using h1.f8,by simpa using h1.r8,h1.dl,h1.cl⟩
  rcases mem_set hl with hl | rfl
  ·exact h1.frm l hl
  ·refine ⟨fun r hr => ?_,by simp[Up]⟩
   obtain rfl:r = (s.evs.length:Int):=by simpa using hr
   refine ⟨by omega,?_,?_⟩
   ·show _ < (((s.evs ++ [_]).length:Nat):Int)
    simp;omega
   ·show ((s.evs ++ [_]).getD _ ev0).kd = 1
    have:=getD_r (es:=s.evs) (x:=[⟨0,1,mode,loc,reads.getD s.used 0,ex⟩]) (i:=0)
    simp only[Nat.add_zero] at this
    rw[show ((s.evs.length:Int)).toNat = s.evs.length by omega,this]
    rfl
theorem RIn0.wr {s:RS} (h:RIn0 s) {loc mode:Int} {ex:Bool} {v:Int} {dl:List Int} (hl:loc = 0∨loc = 1) (hm:mode = 0∨mode = 2) (hd:RdL s.evs dl):RIn0 (wrR s loc mode ex v dl):=by
 have h1:RIn0 (evR s ⟨0,2,mode,loc,v,ex⟩ dl):=h.ev1 ⟨rfl,.inr (.inl ⟨rfl,hl,hm⟩)⟩ hd
 unfold wrR
 dsimp only
 split
 ·exact ⟨h1.ev,h1.data,h1.ctrl,h1.frm,h1.now,h1.f8,h1.r8,h1.dl,h1.cl⟩
 ·exact h1
theorem RInv.st {s:RS} (h:RInv s) {V reads x} {left:Int} (hx:InsK left x):RInv (stR V reads s x):=by
 unfold stR
 cases hx with
 | ld md rg lc h1 h2 h3 =>
   rw[if_pos rfl]
   refine ⟨h.b.rd h3 h1,?_⟩
   unfold rdR
   split
   ·exact h.rmw
   ·exact h.rmw.one (e:=⟨0,1,md,lc,reads.getD s.used 0,false⟩) rfl
 | st md lc ex h1 h3 he =>
   rw[if_neg (by simp),if_pos rfl]
   exact ⟨h.b.wr h3 h1 (h.b.of ex),h.rmw.one (e:=⟨0,2,md,lc,V ex s.regs,false⟩) rfl⟩
 | fe md h1 =>
   rw[if_neg (by simp),if_neg (by simp),if_pos rfl]
   exact ⟨h.b.ev1 ⟨rfl,.inr (.inr ⟨rfl,by simp only;omega,by simp only;omega,rfl,rfl,rfl⟩)⟩ (rdL_nil _),h.rmw.one rfl⟩
 | fa md md2 rg lc c h1 h4 h2 h3 h5 =>
   rw[if_neg (by simp),if_neg (by simp),if_neg (by simp),if_pos rfl]
   have hr:=h.b.rd (reads:=reads) (ex:=true) (reg:=rg.toNat) h3 h1
   unfold faR
   dsimp only
   split
   ·rename_i hc
    refine ⟨hr,?_⟩
    unfold rdR
    rw[if_pos hc]
    exact h.rmw
   ·rename_i hc
    have hof:RdL (rdR s reads lc md true rg.toNat).evs (ofR s [(1,c)]):=by
     show RdL _ []
     exact rdL_nil _
    refine ⟨hr.wr h3 h4 (hof.both (hr.at _)),?_⟩
    have he:(rdR s reads lc md true rg.toNat).evs = s.evs ++ [⟨0,1,md,lc,reads.getD s.used 0,true⟩]:=by
     unfold rdR;rw[if_neg hc];rfl
    have hm:(rdR s reads lc md true rg.toNat).rmw = s.rmw:=by
     unfold rdR;rw[if_neg hc];rfl
    generalize rdR s reads lc md true rg.toNat = s1 at he hm
    unfold wrR evR
    dsimp only
    rw[if_pos rfl]
    dsimp only
    rw[he,hm]
    have hn:(((s.evs ++ [(⟨0,1,md,lc,reads.getD s.used 0,true⟩:Ev)]).length:Nat):Int) - 1 = (s.evs.length:Int):=by simp
    have hn2:(((s.evs ++ [(⟨0,1,md,lc,reads.getD s.used 0,true⟩:Ev)]).length:Nat):Int) = (s.evs.length:Int) + 1:=by simp
    rw[hn,hn2]
    exact h.rmw.two rfl rfl rfl rfl rfl rfl
 | se rg ex h2 he =>
   rw[if_neg (by simp),if_neg (by simp),if_neg (by simp),if_neg (by simp),if_pos rfl]
   refine ⟨⟨h.b.ev,h.b.data,h.b.ctrl,fun l hl => ?_,h.b.now,by simpa using h.b.f8,by simpa using h.b.r8,h.b.dl,h.b.cl⟩,h.rmw⟩
   rcases mem_set hl with hl | rfl
   ·exact h.b.frm l hl
   ·exact h.b.of ex
 | sk ex n he h0 h1 =>
   rw[if_neg (by simp),if_neg (by simp),if_neg (by simp),if_neg (by simp),if_neg (by simp)]
   exact ⟨⟨h.b.ev,h.b.data,h.b.ctrl,h.b.frm,h.b.now.both (h.b.of ex),h.b.f8,h.b.r8,h.b.dl,h.b.cl⟩,h.rmw⟩
theorem stR_evs (V reads s x):(stR V reads s x).evs.length≤s.evs.length + 2:=by
 have rd:∀ loc mode ex reg,(rdR s reads loc mode ex reg).evs.length≤s.evs.length + 1:=by
  intro loc mode ex reg
  unfold rdR
  split
  ·exact Nat.le_succ _
  ·show (s.evs ++ [_]).length≤_;simp
 have wr:∀ s:RS,∀ loc mode ex v dl,(wrR s loc mode ex v dl).evs.length = s.evs.length + 1:=by
  intro s loc mode ex v dl
  unfold wrR
  dsimp only
  split<;>(show (s.evs ++ [_]).length = _;simp)
 unfold stR
 split
 ·have:=rd x.lc x.md false x.rg.toNat;omega
 split
 ·rw[wr];omega
 split
 ·show (s.evs ++ [_]).length≤_;simp
 split
 ·unfold faR
  dsimp only
  have:=rd x.lc x.md true x.rg.toNat
  split
  ·omega
  ·rw[wr];omega
 split
 ·exact Nat.le_add_right _ _
 ·exact Nat.le_add_right _ _
theorem RInv.run {V reads th} (hk:∀ k,k < th.length→∃ left,InsK left (th.getD k fence0)):∀ f k s,RInv s→RInv (runR V reads th f k s)∧(runR V reads th f k s).evs.length≤s.evs.length + 2 * f
 | 0,k,s,h => ⟨h,Nat.le_refl _⟩
 | f + 1,k,s,h => by
   unfold runR
   split
   ·rename_i hc
    obtain ⟨left,hx⟩:=hk k hc.1
    have h1:=RInv.run (V:=V) (reads:=reads) hk f (k + skR V s (th.getD k fence0) + 1) _ (h.st (V:=V) (reads:=reads) hx)
    have h2:=stR_evs V reads s (th.getD k fence0)
    exact ⟨h1.1,by omega⟩
   ·exact ⟨h,by omega⟩
theorem rs0_inv:RInv rs0:=by
 refine ⟨⟨fun e he => absurd he (List.not_mem_nil),⟨fun p hp => absurd hp (List.not_mem_nil),List.Pairwise.nil⟩,⟨fun p hp => absurd hp (List.not_mem_nil),List.Pairwise.nil⟩,fun l hl => ?_,rdL_nil _,rfl,rfl,Nat.le_refl _,Nat.le_refl _⟩,⟨fun p hp => absurd hp (List.not_mem_nil),fun i hi => absurd hi (Nat.not_lt_zero _),List.Pairwise.nil,Nat.le_refl _⟩⟩
 have:l = []:=List.eq_of_mem_replicate hl
 subst this
 exact rdL_nil _
theorem doR_inv {V th reads} (hk:∀ k,k < th.length→∃ left,InsK left (th.getD k fence0)):RInv (doR V th reads)∧(doR V th reads).evs.length≤2 * th.length:=by
 have:=RInv.run (V:=V) (reads:=reads) hk th.length 0 rs0 rs0_inv
 have h0:rs0.evs.length = 0:=rfl
 exact ⟨this.1,by have h2:=this.2;rw[h0] at h2;show (runR V reads th th.length 0 rs0).evs.length≤_;omega⟩
end Go.Ab
end
section
set_option linter.unusedVariables false
set_option linter.unusedSimpArgs false
namespace Go.Ab
variable {F:Funs}
structure LenG (X:Gr):Prop where
 fl:X.co.flatten.length≤1000
 col:X.co.length≤1000
 cos:∀ k,(X.co.getD k []).length≤1000
 rmw:X.rmw.length≤1000
 data:X.data.length≤1000
 ctrl:X.ctrl.length≤1000
 ctrli:X.ctrli.length≤1000
theorem flat_le:∀ {l:List (List Int)} {m:Nat},(∀ c∈l,c.length≤m)→l.flatten.length≤l.length * m
 | [],_,_ => by simp
 | c :: l,m,h => by
   have h1:=flat_le (l:=l) (m:=m) fun c hc => h c (List.mem_cons_of_mem _ hc)
   have h2:=h c (List.mem_cons_self ..)
   rw[List.flatten_cons,List.length_append,List.length_cons,Nat.succ_mul]
   omega
theorem FewG.len {X:Gr} (h:FewG X):LenG X:=by
 have h1:=flat_le h.cos
 have h2:=h.co
 have h3:X.co.length * 50≤6 * 50:=Nat.mul_le_mul_right _ h2
 refine ⟨by omega,by omega,fun k => ?_,by have:=h.rmw;omega,by have:=h.data;omega,by have:=h.ctrl;omega,by have:=h.ctrli;omega⟩
 by_cases hk:k < X.co.length
 ·have hm:X.co.getD k []∈X.co:=by
   rw[List.getD_eq_getElem?_getD,List.getElem?_eq_getElem hk];exact List.getElem_mem hk
  have:=h.cos _ hm;omega
 ·rw[List.getD_eq_getElem?_getD,List.getElem?_eq_none (by omega)];simp
end Go.Ab
end
section
set_option linter.unusedVariables false
set_option linter.unusedSimpArgs false
namespace Go.Ab
def wE (i:Nat):Ev:=⟨0,2,0,(i:Int),0,false⟩
end Go.Ab
end
section
set_option linter.unusedVariables false
set_option linter.unusedSimpArgs false
namespace Go.Ab
def movI (l:List (Int × Int)) (n:Int):List (Int × Int):=l.map fun p => (p.1 + n,p.2 + n)
def thE (t:Int) (e:Ev):Ev:={ e with th:=t }
def layX (X:Gr) (s:RS) (t:Int):Gr:=⟨X.locs,X.evs ++ s.evs.map (thE t),X.rf,X.co,X.rmw ++ movI s.rmw X.evs.length,X.data ++ movI s.data X.evs.length,X.ctrl ++ movI s.ctrl X.evs.length,X.ctrli⟩
def sk0:Gr:=⟨2,[wE 0,wE 1],[],[],[],[],[],[]⟩
def EvS (e:Ev):Prop:=(e.kd = 1∧(e.lc = 0∨e.lc = 1)∧(e.md = 0∨e.md = 1))∨(e.kd = 2∧(e.lc = 0∨e.lc = 1)∧(e.md = 0∨e.md = 2))∨(e.kd = 3∧1≤e.md∧e.md≤4∧e.lc = 0∧e.vl = 0∧e.ex = false)
theorem getD_thE {es:List Ev} {t:Int} {i:Nat} (h:i < es.length):(es.map (thE t)).getD i ev0 = thE t (es.getD i ev0):=by
 rw[List.getD_eq_getElem?_getD,List.getElem?_map,List.getD_eq_getElem?_getD,List.getElem?_eq_getElem h]
 rfl
theorem getD_lay {pre es:List Ev} {t:Int} {i:Nat} (h:i < es.length):(pre ++ es.map (thE t)).getD (i + pre.length) ev0 = thE t (es.getD i ev0):=by
 rw[Nat.add_comm,getD_r,getD_thE h]
theorem toNat_add {x:Int} {n:Nat} (h:0≤x):(x + (n:Int)).toNat = x.toNat + n:=by omega
theorem mov_pw {l:List (Int × Int)} {n:Int} (h:l.Pairwise lessP):(movI l n).Pairwise lessP:=by
 unfold movI
 rw[List.pairwise_map]
 refine h.imp fun {a b} hab => ?_
 unfold lessP at *
 simp only
 omega
theorem mov_mem {l:List (Int × Int)} {n:Int} {p:Int × Int} (h:p∈movI l n):∃ q∈l,p = (q.1 + n,q.2 + n):=by
 obtain ⟨q,h1,h2⟩:=List.mem_map.1 h
 exact ⟨q,h1,h2.symm⟩
theorem DpL.lay {pre es:List Ev} {l m:List (Int × Int)} {t:Int} (h:DpL pre l) (k:DpL es m):DpL (pre ++ es.map (thE t)) (l ++ movI m pre.length):=by
 refine ⟨fun p hp => ?_,?_⟩
 ·rcases List.mem_append.1 hp with hp | hp
  ·exact (h.mono).1 p hp
  ·obtain ⟨q,hq,rfl⟩:=mov_mem hp
   obtain ⟨h0,h1,h2,h3,h4⟩:=k.1 q hq
   have e1:(q.1 + (pre.length:Int)).toNat = q.1.toNat + pre.length:=toNat_add h0
   have e2:(q.2 + (pre.length:Int)).toNat = q.2.toNat + pre.length:=toNat_add (by omega)
   refine ⟨by simp only;omega,by simp only;omega,by simp only[List.length_append,List.length_map];omega,?_,?_⟩
   ·simp only[e1]
    rw[getD_lay (by omega)]
    exact h3
   ·simp only[e1,e2]
    rw[getD_lay (by omega),getD_lay (by omega)]
    rfl
 ·refine List.pairwise_append.2 ⟨h.2,mov_pw k.2,fun p hp q hq => ?_⟩
  obtain ⟨h0,h1,h2,_⟩:=h.1 p hp
  obtain ⟨q,hq',rfl⟩:=mov_mem hq
  obtain ⟨k0,_⟩:=k.1 q hq'
  unfold lessP
  simp only
  omega
theorem inC_mov {l:List (Int × Int)} {n i:Nat}:inC (movI l n) (i + n) = inC l i:=by
 unfold inC movI
 rw[List.filter_map,List.length_map]
 congr 1
 refine List.filter_congr fun p hp => ?_
 simp only[Function.comp,inB]
 have e1:(p.1 + (n:Int) == ((i + n:Nat):Int)) = (p.1 == (i:Int)):=by
  rw[Bool.eq_iff_iff];simp only[beq_iff_eq];omega
 have e2:(p.2 + (n:Int) == ((i + n:Nat):Int)) = (p.2 == (i:Int)):=by
  rw[Bool.eq_iff_iff];simp only[beq_iff_eq];omega
 rw[e1,e2]
theorem RmL.lay {pre es:List Ev} {l m:List (Int × Int)} {t:Int} (h:RmL pre l) (k:RmL es m):RmL (pre ++ es.map (thE t)) (l ++ movI m pre.length):=by
 refine ⟨fun p hp => ?_,fun i hi => ?_,?_,?_⟩
 ·rcases List.mem_append.1 hp with hp | hp
  ·exact (h.pairs p hp).mono
  ·obtain ⟨q,hq,rfl⟩:=mov_mem hp
   obtain ⟨h0,h1,h2,h3,h4⟩:=k.pairs q hq
   have e1:(q.1 + (pre.length:Int)).toNat = q.1.toNat + pre.length:=toNat_add h0
   have e2:(q.2 + (pre.length:Int)).toNat = q.2.toNat + pre.length:=toNat_add (by omega)
   refine ⟨by simp only;omega,by simp only;omega,by simp only[List.length_append,List.length_map];omega,?_⟩
   simp only[e1,e2]
   rw[getD_lay (by omega),getD_lay (by omega)]
   exact ⟨rfl,h4⟩
 ·rw[inC_app]
  rw[List.length_append,List.length_map] at hi
  by_cases c:i < pre.length
  ·have hz:inC (movI m pre.length) i = 0:=inC_zero fun p hp => by
    obtain ⟨q,hq,rfl⟩:=mov_mem hp
    obtain ⟨h0,h1,_⟩:=k.pairs q hq
    simp only
    omega
   rw[hz,getD_l c]
   exact h.once i c
  ·have hz:inC l i = 0:=inC_zero fun p hp => by
    obtain ⟨h0,h1,h2,_⟩:=h.pairs p hp
    omega
   obtain ⟨j,rfl⟩:∃ j,i = j + pre.length:=⟨i - pre.length,by omega⟩
   rw[hz,inC_mov,getD_lay (by omega),Nat.zero_add]
   exact k.once j (by omega)
 ·refine List.pairwise_append.2 ⟨h.rise,mov_pw k.rise,fun p hp q hq => ?_⟩
  obtain ⟨h0,h1,h2,_⟩:=h.pairs p hp
  obtain ⟨q,hq',rfl⟩:=mov_mem hq
  obtain ⟨k0,_⟩:=k.pairs q hq'
  unfold lessP
  simp only
  omega
 ·have:=h.len
  have:=k.len
  simp only[List.length_append,List.length_map,movI]
  omega
structure SkInv (X:Gr) (t:Int):Prop where
 locs:X.locs = 2
 two:∃ rest,X.evs = [wE 0,wE 1] ++ rest∧∀ e∈rest,1≤e.th∧e.th≤t∧EvS e
 th:X.evs.Pairwise fun a b => a.th≤b.th
 rmw:RmL X.evs X.rmw
 data:DpL X.evs X.data
 ctrl:DpL X.evs X.ctrl
 ctrli:X.ctrli = []
 dl:X.data.length≤X.evs.length * X.evs.length
 cl:X.ctrl.length≤X.evs.length * X.evs.length
theorem sk0_inv:SkInv sk0 0:=
 ⟨rfl,⟨[],rfl,fun e he => absurd he (List.not_mem_nil)⟩,by simp[sk0,wE],⟨fun p hp => absurd hp (List.not_mem_nil),fun i hi => by
  have:i = 0∨i = 1:=by have:(sk0.evs.length) = 2:=rfl;omega
  rcases this with rfl | rfl<;>exact ⟨Nat.zero_le _,rfl⟩,List.Pairwise.nil,Nat.zero_le _⟩,⟨fun p hp => absurd hp (List.not_mem_nil),List.Pairwise.nil⟩,⟨fun p hp => absurd hp (List.not_mem_nil),List.Pairwise.nil⟩,rfl,Nat.zero_le _,Nat.zero_le _⟩
theorem sq_add {a b m k:Nat} (h:a≤m * m) (h2:b≤k * k):a + b≤(m + k) * (m + k):=by
 have:(m + k) * (m + k) = m * m + m * k + (k * m + k * k):=by rw[Nat.add_mul,Nat.mul_add,Nat.mul_add]
 omega
theorem SkInv.lay {X:Gr} {t:Int} {s:RS} (h:SkInv X t) (h0:0≤t) (k:RInv s):SkInv (layX X s (t + 1)) (t + 1):=by
 obtain ⟨rest,h2,h3⟩:=h.two
 refine ⟨h.locs,⟨rest ++ s.evs.map (thE (t + 1)),by rw[show (layX X s (t + 1)).evs = X.evs ++ s.evs.map (thE (t + 1)) from rfl,h2,List.append_assoc],fun e he => ?_⟩,?_,h.rmw.lay k.rmw,h.data.lay k.b.data,h.ctrl.lay k.b.ctrl,h.ctrli,?_,?_⟩
 ·rcases List.mem_append.1 he with he | he
  ·obtain ⟨a,b,c⟩:=h3 e he
   exact ⟨a,by omega,c⟩
  ·obtain ⟨e',he',rfl⟩:=List.mem_map.1 he
   exact ⟨by show 1≤t + 1;omega,Int.le_refl _,(k.b.ev e' he').2⟩
 ·refine List.pairwise_append.2 ⟨h.th,?_,fun a ha b hb => ?_⟩
  ·rw[List.pairwise_map]
   exact List.pairwise_iff_getElem.2 fun i j hi hj hij => Int.le_refl _
  ·obtain ⟨e',he',rfl⟩:=List.mem_map.1 hb
   show a.th≤t + 1
   rw[h2] at ha
   rcases List.mem_append.1 ha with ha | ha
   ·have:a = wE 0∨a = wE 1:=by simpa using ha
    rcases this with rfl | rfl<;>(show (0:Int)≤_;omega)
   ·have:=(h3 a ha).2.1;omega
 ·show (X.data ++ movI s.data X.evs.length).length≤(X.evs ++ s.evs.map (thE (t + 1))).length * (X.evs ++ s.evs.map (thE (t + 1))).length
  simp only[List.length_append,List.length_map,movI]
  exact sq_add h.dl k.b.dl
 ·show (X.ctrl ++ movI s.ctrl X.evs.length).length≤(X.evs ++ s.evs.map (thE (t + 1))).length * (X.evs ++ s.evs.map (thE (t + 1))).length
  simp only[List.length_append,List.length_map,movI]
  exact sq_add h.cl k.b.cl
theorem pw_rising {l:List (Int × Int)} (h:l.Pairwise lessP):Rising l:=by
 intro i hi
 rw[List.getD_eq_getElem?_getD,List.getD_eq_getElem?_getD,List.getElem?_eq_getElem (by omega),List.getElem?_eq_getElem hi]
 exact List.pairwise_iff_getElem.1 h i (i + 1) (by omega) hi (by omega)
theorem getD_mem {α:Type} {l:List α} {i:Nat} {d:α} (h:i < l.length):l.getD i d∈l:=by
 rw[List.getD_eq_getElem?_getD,List.getElem?_eq_getElem h]
 exact List.getElem_mem h
theorem SkInv.ev {X:Gr} {t:Int} (h:SkInv X t) (h4:t≤4) {i:Nat} (hi:i < X.evs.length):EvOk X.locs i (X.evs.getD (i - 1) ev0) (X.evs.getD i ev0):=by
 obtain ⟨rest,h2,h3⟩:=h.two
 rw[h.locs]
 refine ⟨fun hl => ?_,fun hl => ?_⟩
 ·have:i = 0∨i = 1:=by omega
  rw[h2]
  rcases this with rfl | rfl<;>exact ⟨rfl,rfl,rfl,rfl,rfl,rfl⟩
 ·obtain ⟨j,rfl⟩:∃ j,i = 2 + j:=⟨i - 2,by omega⟩
  have he:X.evs.getD (2 + j) ev0 = rest.getD j ev0:=by
   rw[h2];exact getD_r (es:=[wE 0,wE 1])
  have hj:j < rest.length:=by rw[h2] at hi;simp at hi;omega
  obtain ⟨a,b,c⟩:=h3 _ (getD_mem (d:=ev0) hj)
  have hp:(X.evs.getD (2 + j - 1) ev0).th≤(X.evs.getD (2 + j) ev0).th:=by
   rw[List.getD_eq_getElem?_getD,List.getD_eq_getElem?_getD,List.getElem?_eq_getElem (by omega),List.getElem?_eq_getElem hi]
   exact List.pairwise_iff_getElem.1 h.th (2 + j - 1) (2 + j) (by omega) hi (by omega)
  rw[he] at hp ⊢
  refine ⟨a,by omega,hp,?_⟩
  rcases c with ⟨c1,c2,c3⟩ | ⟨c1,c2,c3⟩ | c
  ·exact .inl ⟨c1,by omega,by omega,c3⟩
  ·exact .inr (.inl ⟨c1,by omega,by omega,c3⟩)
  ·exact .inr (.inr c)
theorem DpL.ok {X:Gr} {l} (h:DpL X.evs l):DepsOk X l:=⟨fun i hi => h.1 _ (getD_mem hi),pw_rising h.2⟩
theorem SkInv.ok {X:Gr} {t:Int} (h:SkInv X t) (h4:t≤4) (hn:X.evs.length≤14) (hr:X.rf.length = X.evs.length) (hrf:∀ i,i < X.evs.length→RfOk X i) (hc:X.co.length = 2) (hco:∀ i,i < 2→CoOk X i):FewG X∧GraphOk X:=by
 have hl2:2≤X.evs.length:=by obtain ⟨rest,h2,_⟩:=h.two;rw[h2];simp
 have hm:=h.rmw.len
 have hsq:X.evs.length * X.evs.length≤14 * 14:=Nat.mul_le_mul hn hn
 have hd:=h.dl
 have hcl:=h.cl
 refine ⟨⟨by omega,by omega,by omega,fun c hc' => ?_,by omega,by omega,by omega,by rw[h.ctrli];simp⟩,⟨by rw[h.locs];omega,by rw[h.locs];omega,by rw[h.locs];omega,by omega,hr,by rw[h.locs,hc];rfl,fun i hi => h.ev h4 hi,hrf,fun i hi => hco i (by omega),⟨fun j hj => ?_,fun i hi => h.rmw.once i hi,pw_rising h.rmw.rise⟩,h.data.ok,h.ctrl.ok,by rw[h.ctrli];exact ⟨fun i hi => absurd hi (Nat.not_lt_zero _),fun i hi => absurd hi (Nat.not_lt_zero _)⟩⟩⟩
 ·obtain ⟨i,hi,rfl⟩:=List.mem_iff_getElem.1 hc'
  have h1:=(hco i (by omega)).len
  rw[List.getD_eq_getElem?_getD,List.getElem?_eq_getElem hi] at h1
  simp only[Option.getD_some] at h1
  have h2:=cntW_le X i X.evs.length
  omega
 ·obtain ⟨a,b,c,d⟩:=h.rmw.pairs _ (getD_mem (d:=(0,0)) hj)
  exact ⟨a,by omega,b,d⟩
end Go.Ab
end
section
set_option linter.unusedVariables false
set_option linter.unusedSimpArgs false
namespace Go.Ab
variable {F:Funs}
def wdB (p:Int × Int):Bool:=
 if p.1 = 1 then decide (-2147483648≤p.2) && decide (p.2≤2147483647) else if p.1 = 2 then decide (0≤p.2) && decide (p.2 < 8) else if p.1 = 3 then decide (1≤p.2) && decide (p.2≤6) else false
def chkG:List (Int × Int)→Nat→Option Nat
 | [],d => some d
 | p :: l,d => if wdB p = true then (if p.1 = 3 then (if d < 2 then none else chkG l (d - 1)) else chkG l (d + 1)) else none
theorem chkG_cons (p l d):chkG (p :: l) d = if wdB p = true then (if p.1 = 3 then (if d < 2 then none else chkG l (d - 1)) else chkG l (d + 1)) else none:=by simp only[chkG]
theorem chkG_nil (d):chkG [] d = some d:=by simp only[chkG]
def chkX (ex:List (Int × Int)):Bool:=match chkG ex 0 with
 | some d => decide (d = 1) && decide (ex.length≤9)
 | none => false
theorem sp_word (h:F 125 = some A_xref02_word) (p:Int × Int):pureS F 125 [.agg [.i .i64 p.1,.i .i64 p.2]] = some (.b (wdB p)):=by
 refine pure_of h ?_
 unfold wdB
 by_cases c1:p.1 = 1
 ·by_cases c2:-2147483648≤p.2
  ·by_cases c3:p.2≤2147483647<;>simp (disch:=omega) only[A_xref02_word,wp,qa,qb,qc,c1,c2,c3,if_true,Int.reduceBEq]
  ·simp (disch:=omega) only[A_xref02_word,wp,qa,qb,qc,c1,c2,if_true,Int.reduceBEq]
 have c1':(p.1 == 1) = false:=by simpa using c1
 by_cases c4:p.1 = 2
 ·by_cases c2:0≤p.2
  ·by_cases c3:p.2 < 8<;>simp (disch:=omega) only[A_xref02_word,wp,qa,qb,qc,c4,c2,c3,if_true,if_false,Int.reduceBEq,Int.reduceEq]
  ·simp (disch:=omega) only[A_xref02_word,wp,qa,qb,qc,c4,c2,if_true,if_false,Int.reduceBEq,Int.reduceEq]
 have c4':(p.1 == 2) = false:=by simpa using c4
 by_cases c5:p.1 = 3
 ·by_cases c2:1≤p.2
  ·by_cases c3:p.2≤6<;>simp (disch:=omega) only[A_xref02_word,wp,qa,qb,qc,c5,c2,c3,if_true,if_false,Int.reduceBEq,Int.reduceEq]
  ·simp (disch:=omega) only[A_xref02_word,wp,qa,qb,qc,c5,c2,if_true,if_false,Int.reduceBEq,Int.reduceEq]
 have c5':(p.1 == 3) = false:=by simpa using c5
 simp (disch:=omega) only[A_xref02_word,wp,qa,qb,qc,c1,c4,c5,c1',c4',c5',if_false]
theorem tk_drop:∀ {l:List (Int × Int)} {k:Nat} (h:k < l.length),(tkC l).drop (k * 2) = .i .i64 (l.getD k (0,0)).1 :: .i .i64 (l.getD k (0,0)).2 :: tkC (l.drop (k + 1))
 | a :: l,0,_ => by simp[tkC]
 | a :: l,k + 1,h => by
   have:=tk_drop (l:=l) (k:=k) (by simpa using h)
   simp only[tkC,List.flatMap_cons,Nat.add_mul,Nat.one_mul] at this ⊢
   rw[Nat.add_comm,←List.drop_drop]
   simpa using this
theorem tk_ag {l:List (Int × Int)} {k:Nat} (h:k < l.length):part ((tkC l).drop (k * 2)) 0 (some 2) = some (.agg [.i .i64 (l.getD k (0,0)).1,.i .i64 (l.getD k (0,0)).2]):=by
 rw[tk_drop h];simp[part]
theorem tk_k {l:List (Int × Int)} {k:Nat} (h:k < l.length):part ((tkC l).drop (k * 2)) 0 none = some (.i .i64 (l.getD k (0,0)).1):=by
 rw[tk_drop h];rfl
theorem tk_v {l:List (Int × Int)} {k:Nat} (h:k < l.length):part (((tkC l).drop (k * 2)).drop 1) 0 none = some (.i .i64 (l.getD k (0,0)).2):=by
 rw[tk_drop h];rfl
theorem tk_l {l:List (Int × Int)} {k:Nat} (h:k < l.length):2≤((tkC l).drop (k * 2)).length:=by
 rw[tk_drop h];simp
theorem drop_cons {α:Type} {l:List α} {d:α} {k:Nat} (h:k < l.length):l.drop k = l.getD k d :: l.drop (k + 1):=by
 rw[List.drop_eq_getElem_cons h,List.getD_eq_getElem?_getD,List.getElem?_eq_getElem h];rfl
theorem sp_exCheck (h109:F 109 = some A_xref02_Check) (h125:F 125 = some A_xref02_word) (ex:List (Int × Int)) (hl:ex.length≤1000000):pureS F 109 [exV ex] = some (.b (chkX ex)):=by
 refine pure_of h109 ?_
 unfold exV
 simp (disch:=omega) only[A_xref02_Check,wp,qa,qb,qc]
 refine blk_cutR (fun e g => ∃ d:Nat,e 0 = .sl (tkC ex) ex.length .non∧e 3 = .i .i64 ((d:Nat):Int)∧chkG ex 0 = some d) ?_ ?_
 ·refine W_loop (fun q e g => ∃ k d:Nat,q = ex.length - k∧k≤ex.length∧d≤k∧e 0 = .sl (tkC ex) ex.length .non∧e 3 = .i .i64 ((d:Nat):Int)∧e 4 = .i .i64 ((k:Nat):Int)∧chkG ex 0 = chkG (ex.drop k) d) ex.length ?_ ?_
  ·refine ⟨0,0,rfl,Nat.zero_le _,Nat.le_refl _,?_⟩
   simp (disch:=omega) only[wp,qa,qb,qc]
   exact ⟨rfl,rfl,rfl⟩
  ·rintro q e g ⟨k,d,rfl,hk,hd,e0,e3,e4,hc⟩
   by_cases c1:k < ex.length
   ·have c1':((k:Nat):Int) < ((ex.length:Nat):Int):=by omega
    have ha:=tk_ag c1
    have hkd:=tk_k c1
    have hl2:=tk_l c1
    have hw:=succ_wrap (k:=k) (by omega)
    have hwd:=succ_wrap (k:=d) (by omega)
    have hsp:=sp_word h125 (ex.getD k (0,0))
    have hdc:=drop_cons (d:=((0,0):Int × Int)) c1
    rw[hdc,chkG_cons] at hc
    generalize ex.getD k (0,0) = p at ha hkd hsp hc
    cases c2:wdB p with
    | false =>
      rw[c2] at hsp hc
      simp (disch:=omega) only[wp,qa,qb,qc,e0,e3,e4,c1',ha,hsp,Nat.mul_one,frz_ag2]
      unfold chkX
      rw[hc]
      simp
    | true =>
      rw[c2] at hsp hc
      rw[if_pos rfl] at hc
      by_cases c3:p.1 = 3
      ·rw[if_pos c3] at hc
       have c3':(p.1 != 3) = false:=by simpa using c3
       by_cases c4:d < 2
       ·rw[if_pos c4] at hc
        have c4':((d:Nat):Int) < 2:=by omega
        simp (disch:=omega) only[wp,qa,qb,qc,e0,e3,e4,c1',ha,hsp,hkd,c3',c4',frz_ag2]
        unfold chkX
        rw[hc]
       ·rw[if_neg c4] at hc
        have c4':¬ ((d:Nat):Int) < 2:=by omega
        have hs:IntKind.i64.wrap (((d:Nat):Int) - 1) = ((d - 1:Nat):Int):=by rw[i64_wrap (by omega) (by omega)];omega
        simp (disch:=omega) only[wp,qa,qb,qc,e0,e3,e4,c1',ha,hsp,hkd,c3',c4',hs,hw,frz_ag2]
        exact ⟨ex.length - (k + 1),by omega,k + 1,d - 1,rfl,by omega,by omega,rfl,rfl,hc⟩
      ·rw[if_neg c3] at hc
       have c3':(p.1 != 3) = true:=by simpa using c3
       simp (disch:=omega) only[wp,qa,qb,qc,e0,e3,e4,c1',ha,hsp,hkd,c3',hw,hwd,frz_ag2]
       exact ⟨ex.length - (k + 1),by omega,k + 1,d + 1,rfl,by omega,by omega,rfl,rfl,hc⟩
   ·have c1':¬ ((k:Nat):Int) < ((ex.length:Nat):Int):=by omega
    obtain rfl:k = ex.length:=by omega
    rw[List.drop_length] at hc
    simp (disch:=omega) only[wp,qa,qb,qc,e0,e3,e4,c1']
    exact ⟨d,rfl,hc⟩
 ·rintro e g ⟨d,e0,e3,hc⟩
  unfold chkX
  rw[hc]
  by_cases c1:d = 1
  ·subst c1
   have c2:((((1:Nat):Int)) == 1) = true:=rfl
   by_cases c3:ex.length≤9
   ·have c3':((ex.length:Nat):Int)≤9:=by omega
    simp (disch:=omega) only[wp,qa,qb,qc,e0,e3,c2,c3,c3']
   ·have c3':¬ ((ex.length:Nat):Int)≤9:=by omega
    simp (disch:=omega) only[wp,qa,qb,qc,e0,e3,c2,c3,c3']
  ·have c2:(((d:Nat):Int) == 1) = false:=by simp;omega
   simp (disch:=omega) only[wp,qa,qb,qc,e0,e3,c1,c2]
def xorI (a b:Int):Int:=IntKind.i64.wrap ((BitVec.ofInt IntKind.i64.bits a ^^^ BitVec.ofInt IntKind.i64.bits b).toNat:Nat)
theorem b_xor (a b:Int):abin .xor (.i .i64 a) (.i .i64 b) = some (.i .i64 (xorI a b)):=by simp[abin,ibin,xorI]
def doX (o a b:Int):Int:=
 if o = 1 then IntKind.i64.wrap (a + b) else if o = 2 then IntKind.i64.wrap (a - b) else if o = 3 then IntKind.i64.wrap (a * b) else if o = 4 then xorI a b else
  if o = 5 then (if a = b then 1 else 0) else if o = 6 then (if a < b then 1 else 0) else 0
theorem sp_do (h:F 128 = some A_xref02_Do) (o a b:Int):pureS F 128 [.i .i64 o,.i .i64 a,.i .i64 b] = some (.i .i64 (doX o a b)):=by
 refine pure_of h ?_
 unfold doX
 by_cases c1:o = 1
 ·simp (disch:=omega) only[A_xref02_Do,wp,qa,qb,qc,c1,if_true,Int.reduceBEq]
 have c1':(o == 1) = false:=by simpa using c1
 by_cases c2:o = 2
 ·simp (disch:=omega) only[A_xref02_Do,wp,qa,qb,qc,c2,if_true,if_false,Int.reduceBEq,Int.reduceEq]
 have c2':(o == 2) = false:=by simpa using c2
 by_cases c3:o = 3
 ·simp (disch:=omega) only[A_xref02_Do,wp,qa,qb,qc,c3,if_true,if_false,Int.reduceBEq,Int.reduceEq]
 have c3':(o == 3) = false:=by simpa using c3
 by_cases c4:o = 4
 ·simp (disch:=omega) only[A_xref02_Do,wp,qa,qb,qc,c4,if_true,if_false,Int.reduceBEq,Int.reduceEq,b_xor]
 have c4':(o == 4) = false:=by simpa using c4
 by_cases c5:o = 5
 ·subst c5
  by_cases c:a = b
  ·have c':(a == b) = true:=by simpa using c
   simp (disch:=omega) only[A_xref02_Do,wp,qa,qb,qc,c,c',if_true,if_false,Int.reduceBEq,Int.reduceEq]
  ·have c':(a == b) = false:=by simpa using c
   simp (disch:=omega) only[A_xref02_Do,wp,qa,qb,qc,c,c',if_true,if_false,Int.reduceBEq,Int.reduceEq]
 have c5':(o == 5) = false:=by simpa using c5
 by_cases c6:o = 6
 ·subst c6
  by_cases c:a < b
  ·simp (disch:=omega) only[A_xref02_Do,wp,qa,qb,qc,c,if_true,if_false,Int.reduceBEq,Int.reduceEq]
  ·simp (disch:=omega) only[A_xref02_Do,wp,qa,qb,qc,c,if_true,if_false,Int.reduceBEq,Int.reduceEq]
 have c6':(o == 6) = false:=by simpa using c6
 simp (disch:=omega) only[A_xref02_Do,wp,qa,qb,qc,c1,c2,c3,c4,c5,c6,c1',c2',c3',c4',c5',c6',if_false]
end Go.Ab
end
section
set_option linter.unusedVariables false
set_option linter.unusedSimpArgs false
namespace Go.Ab
variable {F:Funs}
theorem oSlice {c:CS} {al:Nat→Bool} {lo id:Nat} {e:Env} {g:G} (esz x l h m):opE c al lo id (.slice esz x l h m) e g = vSlice esz (x.ev e) (evo e l) (evo e h) (evo e m) g:=rfl
theorem evoN (e:Env):evo e none = none:=rfl
theorem evoS (e:Env) (x:Opd):evo e (some x) = some (x.ev e):=rfl
theorem slTo {esz n k:Nat} {cs:List AV} {t:Tok} {g:G} (h:k≤n):vSlice esz (.sl cs n t) none (some (.i .i64 ((k:Nat):Int))) none g = some (.sl (cs.take (k * esz)) k (if t = .rig∧((k:Nat):Int) = ((n:Nat):Int) then .rig else .non),g):=by
 simp only[vSlice,bnd]
 rw[if_pos ⟨by omega,by omega,by omega⟩]
 simp
theorem slFrom {esz n k:Nat} {cs:List AV} {t:Tok} {g:G} (h:k≤n):vSlice esz (.sl cs n t) (some (.i .i64 ((k:Nat):Int))) none none g = some (.sl ((cs.drop (k * esz)).take ((n - k) * esz)) (n - k) (if t = .rig then .rig else .non),g):=by
 simp only[vSlice,bnd]
 rw[if_pos ⟨by omega,by omega,by omega⟩]
 simp only[Int.toNat_natCast,and_true]
theorem intsC_take (l:List Int) (k:Nat):(intsC l).take (k * 1) = intsC (l.take k):=by simp[intsC,List.map_take]
theorem intsC_drop (l:List Int) (k:Nat):(intsC l).drop (k * 1) = intsC (l.drop k):=by simp[intsC,List.map_drop]
theorem intsC_len (l:List Int):(intsC l).length = l.length:=by simp[intsC]
theorem intsC_all {l:List Int} {n:Nat} (h:l.length = n):(intsC l).take (n * 1) = intsC l:=by
 rw[Nat.mul_one,←h,←intsC_len l,List.take_length]
theorem rp_put (h132:F 132 = some A_xref05_Put) (l:List Int) (v:Int) (t:Tok) (hl:l.length≤100000):pureS F 132 [.sl (intsC l) l.length t,.i .i64 v] = some (.sl (intsC (putI l v)) (putI l v).length .non):=by
 refine pure_of h132 ?_
 simp (disch:=omega) only[A_xref05_Put,wp,qa,qb,qc]
 refine blk_cut (fun e g => ∃ k:Nat,k≤l.length∧e 0 = .sl (intsC l) l.length t∧e 1 = .i .i64 v∧e 5 = .i .i64 ((k:Nat):Int)∧(∀ j,j < k→l.getD j 0 < v)∧(k < l.length→¬ l.getD k 0 < v)) ?_ ?_
 ·refine W_loop (fun q e g => ∃ k:Nat,q = l.length - k∧k≤l.length∧e 0 = .sl (intsC l) l.length t∧e 1 = .i .i64 v∧e 5 = .i .i64 ((k:Nat):Int)∧(∀ j,j < k→l.getD j 0 < v)) l.length ?_ ?_
  ·refine ⟨0,rfl,Nat.zero_le _,?_⟩
   simp (disch:=omega) only[wp,qa,qb,qc]
   exact ⟨rfl,fun j hj => absurd hj (Nat.not_lt_zero j)⟩
  ·rintro q e g ⟨k,rfl,hk,e0,e1,e5,hb⟩
   by_cases c1:k < l.length
   ·have c1':((k:Nat):Int) < ((l.length:Nat):Int):=by omega
    have hip:=ints_part c1
    have hw:=succ_wrap (k:=k) (by omega)
    by_cases c2:l.getD k 0 < v
    ·have hb':∀ j,j < k + 1→l.getD j 0 < v:=fun j hj => by
      by_cases hjk:j = k
      ·rw[hjk];exact c2
      ·exact hb j (by omega)
     simp (disch:=omega) only[wp,qa,qb,qc,e0,e1,e5,c1',c2,hip,hw]
     exact ⟨l.length - (k + 1),by omega,k + 1,rfl,by omega,rfl,hb'⟩
    ·simp (disch:=omega) only[wp,qa,qb,qc,e0,e1,e5,c1',c2,hip,hw]
     exact ⟨k,hk,rfl,hb,fun _ => c2⟩
   ·have c1':¬ ((k:Nat):Int) < ((l.length:Nat):Int):=by omega
    simp (disch:=omega) only[wp,qa,qb,qc,e0,e1,e5,c1']
    exact ⟨k,hk,rfl,hb,fun h => absurd h c1⟩
 ·rintro e g ⟨k,hk,e0,e1,e5,hb,hn⟩
  have fin:(k < l.length→l.getD k 0≠v)→putI l v = l.take k ++ v :: l.drop k:=fun h => putI_eq hk hb fun h1 => by have:=hn h1;have:=h h1;omega
  have hlt:(intsC (l.take k)).length = k:=by rw[intsC_len,List.length_take];omega
  have hld:(intsC (l.drop k)).length = l.length - k:=by rw[intsC_len,List.length_drop]
  have hla:(intsC (l.drop k)).take ((l.length - k) * 1) = intsC (l.drop k):=intsC_all (by rw[List.length_drop])
  have hit:(intsC l).take (k * 1) = intsC (l.take k):=intsC_take l k
  have hid:(intsC l).drop (k * 1) = intsC (l.drop k):=intsC_drop l k
  have key:(l.take k ++ v :: l.drop k).length = l.length + 1:=by simp;omega
  by_cases c1:k < l.length
  ·have c1':((k:Nat):Int) < ((l.length:Nat):Int):=by omega
   have hip:=ints_part c1
   rw[hid] at hip
   cases c2:(l.getD k 0 == v) with
   | true =>
     have h1:=putI_has (v:=v) c1 hb (by simpa using c2)
     rw[h1]
     simp (disch:=omega) only[wp,qa,qb,qc,e0,e1,e5,c1',c2,hip,hid]
   | false =>
     have h1:=fin fun _ => by simpa using c2
     by_cases k0:k = 0
     ·subst k0
      simp (disch:=omega) only[wp,qa,qb,qc,e0,e1,e5,c1',c2,hip,oSlice,evoN,evoS,slTo,slFrom,hit,hid,hla,hlt,hld]
      rw[h1,key,show 1 + (l.length - 0) = l.length + 1 by omega]
      simp[intsC]
     ·simp (disch:=omega) only[wp,qa,qb,qc,e0,e1,e5,c1',c2,hip,oSlice,evoN,evoS,slTo,slFrom,hit,hid,hla,hlt,hld]
      rw[h1,key,show k + 1 + (l.length - k) = l.length + 1 by omega]
      simp[intsC]
  ·have c1':¬ ((k:Nat):Int) < ((l.length:Nat):Int):=by omega
   have h1:=fin fun h => absurd h c1
   by_cases k0:k = 0
   ·subst k0
    simp (disch:=omega) only[wp,qa,qb,qc,e0,e1,e5,c1',oSlice,evoN,evoS,slTo,slFrom,hit,hid,hla,hlt,hld]
    rw[h1,key,show 1 + (l.length - 0) = l.length + 1 by omega]
    simp[intsC]
   ·simp (disch:=omega) only[wp,qa,qb,qc,e0,e1,e5,c1',oSlice,evoN,evoS,slTo,slFrom,hit,hid,hla,hlt,hld]
    rw[h1,key,show k + 1 + (l.length - k) = l.length + 1 by omega]
    simp[intsC]
theorem putI_len:∀ {l:List Int} {v:Int},(putI l v).length≤l.length + 1
 | [],v => Nat.le_refl _
 | a :: l,v => by
   unfold putI
   split
   ·have:=putI_len (l:=l) (v:=v)
    simp only[List.length_cons]
    omega
   ·split
    ·exact Nat.le_succ _
    ·exact Nat.le_refl _
theorem bothI_len:∀ {b a:List Int},(bothI a b).length≤a.length + b.length
 | [],a => Nat.le_refl _
 | v :: b,a => by
   show (bothI (putI a v) b).length≤_
   have h1:=bothI_len (b:=b) (a:=putI a v)
   have h2:=putI_len (l:=a) (v:=v)
   simp only[List.length_cons]
   omega
theorem take_getD {l:List Int} {k:Nat} (h:k < l.length):l.take (k + 1) = l.take k ++ [l.getD k 0]:=by
 rw[List.take_add_one,List.getD_eq_getElem?_getD,List.getElem?_eq_getElem h]
 rfl
theorem bothI_take {a b:List Int} {k:Nat} (h:k < b.length):bothI a (b.take (k + 1)) = putI (bothI a (b.take k)) (b.getD k 0):=by
 unfold bothI
 rw[take_getD h,List.foldl_append]
 rfl
theorem rp_both (h129:F 129 = some A_xref05_Both) (h132:F 132 = some A_xref05_Put) (a b:List Int) (t u:Tok) (hl:a.length + b.length≤100000):∃ v,v = .non∧pureS F 129 [.sl (intsC a) a.length t,.sl (intsC b) b.length u] = some (.sl (intsC (bothI a b)) (bothI a b).length v):=by
 refine ⟨.non,rfl,pure_of h129 ?_⟩
 simp (disch:=omega) only[A_xref05_Both,wp,qa,qb,qc]
 refine W_loop (fun q e g => ∃ (k:Nat) (w:Tok),q = b.length - k∧k≤b.length∧e 0 = .sl (intsC (bothI a (b.take k))) (bothI a (b.take k)).length w∧e 1 = .sl (intsC b) b.length u∧e 5 = .i .i64 ((k:Nat):Int)) b.length ?_ ?_
 ·refine ⟨0,t,rfl,Nat.zero_le _,?_⟩
  simp (disch:=omega) only[wp,qa,qb,qc]
  exact ⟨rfl,rfl⟩
 ·rintro q e g ⟨k,w,rfl,hk,e0,e1,e5⟩
  by_cases c1:k < b.length
  ·have c1':((k:Nat):Int) < ((b.length:Nat):Int):=by omega
   have hip:=ints_part c1
   have hw:=succ_wrap (k:=k) (by omega)
   have h1:=bothI_len (a:=a) (b:=b.take k)
   rw[List.length_take] at h1
   have hp:=rp_put h132 (bothI a (b.take k)) (b.getD k 0) .non (by omega)
   rw[←bothI_take c1] at hp
   simp (disch:=omega) only[wp,qa,qb,qc,e0,e1,e5,c1',hip,hw,hp]
   exact ⟨b.length - (k + 1),by omega,k + 1,.non,rfl,by omega,rfl,rfl⟩
  ·have c1':¬ ((k:Nat):Int) < ((b.length:Nat):Int):=by omega
   obtain rfl:k = b.length:=by omega
   rw[List.take_length] at e0
   simp (disch:=omega) only[wp,qa,qb,qc,e0,e1,e5,c1']
theorem pairsC_take (l:List (Int × Int)) (k:Nat):(pairsC l).take (k * 2) = pairsC (l.take k):=by
 induction l generalizing k with
 | nil => simp[pairsC]
 | cons a l ih =>
   cases k with
   | zero => simp[pairsC]
   | succ k =>
     have:=ih k
     simp only[pairsC,List.flatMap_cons,List.take_succ_cons,Nat.add_mul,Nat.one_mul] at this ⊢
     rw[←this]
     rfl
theorem pairsC_drop (l:List (Int × Int)) (k:Nat):(pairsC l).drop (k * 2) = pairsC (l.drop k):=by
 induction l generalizing k with
 | nil => simp[pairsC]
 | cons a l ih =>
   cases k with
   | zero => simp[pairsC]
   | succ k =>
     have:=ih k
     simp only[pairsC,List.flatMap_cons,List.drop_succ_cons,Nat.add_mul,Nat.one_mul] at this ⊢
     rw[←this]
     rfl
theorem pairsC_all {l:List (Int × Int)} {n:Nat} (h:l.length = n):(pairsC l).take (n * 2) = pairsC l:=by
 rw[pairsC_take,←h,List.take_length]
theorem pairsI_take {l:List (Int × Int)} {rs:List Int} {b:Int} {k:Nat} (h:k < rs.length):pairsI l (rs.take (k + 1)) b = insP (pairsI l (rs.take k) b) (rs.getD k 0,b):=by
 unfold pairsI
 rw[take_getD h,List.foldl_append]
 rfl
theorem rp_pairs (h130:F 130 = some A_xref05_pairs) (l:List (Int × Int)) (rs:List Int) (b:Int) (t u:Tok) (hl:l.length + rs.length≤100000):∃ v,v = .non∧pureS F 130 [.sl (pairsC l) l.length t,.sl (intsC rs) rs.length u,.i .i64 b] = some (.sl (pairsC (pairsI l rs b)) (pairsI l rs b).length v):=by
 refine ⟨.non,rfl,pure_of h130 ?_⟩
 have s2:∀ b1 b2 c1 c2:AV,splice [b1,b2] 0 [c1,c2] = [c1,c2]:=fun _ _ _ _ => rfl
 simp (disch:=omega) only[A_xref05_pairs,wp,qa,qb,qc]
 refine W_loop (fun q e g => ∃ (k:Nat) (w:Tok),q = rs.length - k∧k≤rs.length∧e 0 = .sl (pairsC (pairsI l (rs.take k) b)) (pairsI l (rs.take k) b).length w∧e 1 = .sl (intsC rs) rs.length u∧e 2 = .i .i64 b∧e 7 = .i .i64 ((k:Nat):Int)) rs.length ?_ ?_
 ·refine ⟨0,t,rfl,Nat.zero_le _,?_⟩
  simp (disch:=omega) only[wp,qa,qb,qc]
  exact ⟨rfl,rfl⟩
 ·rintro q e g ⟨i,w,rfl,hi,e0,e1,e2,e7⟩
  by_cases c0:i < rs.length
  ·have c0':((i:Nat):Int) < ((rs.length:Nat):Int):=by omega
   have hir:=ints_part c0
   have hwi:=succ_wrap (k:=i) (by omega)
   have hnx:=pairsI_take (l:=l) (b:=b) c0
   have hml:(pairsI l (rs.take i) b).length≤100000:=by rw[pairsI_len,List.length_take];omega
   generalize rs.getD i 0 = r at hir hnx
   generalize pairsI l (rs.take i) b = m at e0 hnx hml
   simp (disch:=omega) only[wp,qa,qb,qc,gl,e0,e1,e2,e7,c0',hir,s2]
   refine blk_cut (fun e g => ∃ (k id:Nat),k≤m.length∧e 0 = .sl (pairsC m) m.length w∧e 1 = .sl (intsC rs) rs.length u∧e 2 = .i .i64 b∧e 7 = .i .i64 ((i:Nat):Int)∧e 8 = .mp id 0∧g.hp id = some (.cells [.i .i64 r,.i .i64 b] false)∧id < g.nx∧e 9 = .i .i64 ((k:Nat):Int)∧(∀ j,j < k→lessP (m.getD j (0,0)) (r,b))∧(k < m.length→¬ lessP (m.getD k (0,0)) (r,b))) ?_ ?_
   ·refine W_loop (fun q e g => ∃ (k id:Nat),q = m.length - k∧k≤m.length∧e 0 = .sl (pairsC m) m.length w∧e 1 = .sl (intsC rs) rs.length u∧e 2 = .i .i64 b∧e 7 = .i .i64 ((i:Nat):Int)∧e 8 = .mp id 0∧g.hp id = some (.cells [.i .i64 r,.i .i64 b] false)∧id < g.nx∧e 9 = .i .i64 ((k:Nat):Int)∧(∀ j,j < k→lessP (m.getD j (0,0)) (r,b))) m.length ?_ ?_
    ·refine ⟨0,g.nx + 4 + 6,by omega,Nat.zero_le _,?_⟩
     simp (disch:=omega) only[wp,qa,qb,qc,e0,e1,e2,e7]
     exact ⟨by first | omega | (dsimp only;omega),rfl,fun j hj => absurd hj (Nat.not_lt_zero j)⟩
    ·rintro q e g ⟨k,id,rfl,hk,e0,e1,e2,e7,e8,hid,hin,e9,hb⟩
     by_cases c1:k < m.length
     ·have c1':((k:Nat):Int) < ((m.length:Nat):Int):=by omega
      have ha:=pairs_a c1
      have hbb:=pairs_b c1
      have hw:=succ_wrap (k:=k) (by omega)
      have hdl:(List.drop (k * 2) (pairsC m)).length = m.length * 2 - k * 2:=by rw[List.length_drop,pairsC_len]
      have step:lessP (m.getD k (0,0)) (r,b)→∀ j,j < k + 1→lessP (m.getD j (0,0)) (r,b):=fun h j hj => by
       by_cases hjk:j = k
       ·rw[hjk];exact h
       ·exact hb j (by omega)
      have stop:¬ lessP (m.getD k (0,0)) (r,b)→k < m.length→¬ lessP (m.getD k (0,0)) (r,b):=fun h _ => h
      generalize hp:m.getD k (0,0) = p at ha hbb step stop
      by_cases c2:p.1 < r
      ·simp (disch:=omega) only[wp,qa,qb,qc,gl,e0,e1,e2,e7,e8,e9,hid,c1',ha,hbb,hdl,c2,hw]
       exact ⟨m.length - (k + 1),by omega,k + 1,id,rfl,by omega,rfl,hid,by first | omega | (dsimp only;omega),rfl,step (.inl c2)⟩
      ·cases c3:(p.1 == r) with
       | false =>
         simp (disch:=omega) only[wp,qa,qb,qc,gl,e0,e1,e2,e7,e8,e9,hid,c1',ha,hbb,hdl,c2,c3,hw]
         exact ⟨k,id,hk,rfl,hid,by first | omega | (dsimp only;omega),rfl,hb,fun _ => by rw[hp];exact fun h => by rcases h with h | ⟨h,_⟩<;>simp only at h<;>first | exact c2 h | (rw[h] at c3;simp at c3)⟩
       | true =>
         by_cases c4:p.2 < b
         ·simp (disch:=omega) only[wp,qa,qb,qc,gl,e0,e1,e2,e7,e8,e9,hid,c1',ha,hbb,hdl,c2,c3,c4,hw]
          exact ⟨m.length - (k + 1),by omega,k + 1,id,rfl,by omega,rfl,hid,by first | omega | (dsimp only;omega),rfl,step (.inr ⟨by simpa using c3,c4⟩)⟩
         ·simp (disch:=omega) only[wp,qa,qb,qc,gl,e0,e1,e2,e7,e8,e9,hid,c1',ha,hbb,hdl,c2,c3,c4,hw]
          exact ⟨k,id,hk,rfl,hid,by first | omega | (dsimp only;omega),rfl,hb,fun _ => by rw[hp];exact fun h => by rcases h with h | ⟨_,h⟩<;>simp only at h<;>first | exact c2 h | exact c4 h⟩
     ·have c1':¬ ((k:Nat):Int) < ((m.length:Nat):Int):=by omega
      simp (disch:=omega) only[wp,qa,qb,qc,gl,e0,e1,e2,e7,e8,e9,c1']
      exact ⟨k,id,hk,rfl,hid,by first | omega | (dsimp only;omega),rfl,hb,fun h => absurd h c1⟩
   ·rintro e g ⟨k,id,hk,e0,e1,e2,e7,e8,hid,hin,e9,hb,hn⟩
    have h1:=insP_eq hk hb hn
    rw[h1] at hnx
    have hlt:(pairsC (m.take k)).length = k * 2:=by rw[pairsC_len,List.length_take];omega
    have hld:(pairsC (m.drop k)).length = (m.length - k) * 2:=by rw[pairsC_len,List.length_drop]
    have hla:(pairsC (m.drop k)).take ((m.length - k) * 2) = pairsC (m.drop k):=pairsC_all (by rw[List.length_drop])
    have hit:(pairsC m).take (k * 2) = pairsC (m.take k):=pairsC_take m k
    have hidr:(pairsC m).drop (k * 2) = pairsC (m.drop k):=pairsC_drop m k
    have key:(m.take k ++ (r,b) :: m.drop k).length = m.length + 1:=by simp;omega
    by_cases k0:k = 0
    ·subst k0
     simp (disch:=omega) only[wp,qa,qb,qc,gl,e0,e1,e2,e7,e8,e9,hid,oSlice,evoN,evoS,slTo,slFrom,hit,hidr,hla,hlt,hld,s2,hwi]
     refine ⟨rs.length - (i + 1),by omega,i + 1,.own (g.nx + 10) 2,rfl,by omega,?_,rfl⟩
     rw[hnx,key,show 1 + (m.length - 0) = m.length + 1 by omega]
     simp[pairsC]
    ·simp (disch:=omega) only[wp,qa,qb,qc,gl,e0,e1,e2,e7,e8,e9,hid,oSlice,evoN,evoS,slTo,slFrom,hit,hidr,hla,hlt,hld,s2,hwi]
     refine ⟨rs.length - (i + 1),by omega,i + 1,.own (g.nx + 10) 2,rfl,by omega,?_,rfl⟩
     rw[hnx,key,show k + 1 + (m.length - k) = m.length + 1 by omega]
     simp[pairsC]
  ·have c0':¬ ((i:Nat):Int) < ((rs.length:Nat):Int):=by omega
   obtain rfl:i = rs.length:=by omega
   rw[List.take_length] at e0
   simp (disch:=omega) only[wp,qa,qb,qc,gl,e0,e1,e2,e7,c0']
end Go.Ab
end
section
set_option linter.unusedVariables false
set_option linter.unusedSimpArgs false
namespace Go.Ab
variable {F:Funs}
theorem o_appM {c:CS} {al:Nat→Bool} {lo id:Nat} {e:Env} {g:G} (esz b x y):opE c al lo id (.appM esz b x y) e g = vAppM al id esz b (x.ev e) (y.ev e) g:=rfl
def apmR (id esz b m ld:Nat) (ds:List AV) (g:G) (ok:Bool):Option (AV × G):=if 1≤m∧m * b≤2 ^ 46∧m≤2 ^ 62∧ld = m * esz∧ok then some (.ms id 0 m,⟨upd g.hp id (some (.cells ds false)),g.nx⟩) else none
theorem vAppM_rig {al:Nat→Bool} {id esz b m:Nat} {ds:List AV} {t:Tok} {g:G}:vAppM al id esz b (.sl [] 0 .rig) (.sl ds m t) g = apmR id esz b m ds.length ds g (ds.all one):=rfl
theorem apmR_ok {id esz b m ld:Nat} {ds:List AV} {g:G} (h:1≤m∧b≤1000∧m≤1000000∧ld = m * esz):apmR id esz b m ld ds g true = some (.ms id 0 m,⟨upd g.hp id (some (.cells ds false)),g.nx⟩):=by
 obtain ⟨h1,h2,h3,h4⟩:=h
 exact if_pos ⟨h1,Nat.le_trans (Nat.mul_le_mul h3 h2) (by omega),Nat.le_trans h3 (by omega),h4,rfl⟩
def apmS (id esz bytes b n m ld:Nat) (ds:List AV) (g:G) (ok:Bool):Option Blk→Option (AV × G)
 | some (.cells cs false) => if 1≤n∧1≤m∧(n + m) * bytes≤2 ^ 46∧n + m≤2 ^ 62∧cs.length = n * esz∧ld = m * esz∧ok then
         some (.ms id 0 (n + m),⟨upd (upd g.hp b (some (.tok false))) id (some (.cells (cs ++ ds) false)),g.nx⟩)
    else none
 | _ => none
theorem vAppM_S {al:Nat→Bool} {id esz bytes b n m:Nat} {ds:List AV} {t:Tok} {g:G}:vAppM al id esz bytes (.ms b 0 n) (.sl ds m t) g = apmS id esz bytes b n m ds.length ds g (ds.all one) (selB (al b) (g.hp b)):=by
 unfold vAppM vSrcM
 simp only[rd_S]
 cases selB (al b) (g.hp b) with
 | none => rfl
 | some bl =>
   cases bl with
   | cells cs ro => cases ro<;>rfl
   | map es => rfl
   | tok l => rfl
theorem apmS_ok {id esz bytes b n m ld:Nat} {cs ds:List AV} {g:G} (h:1≤n∧1≤m∧bytes≤1000∧n + m≤1000000∧cs.length = n * esz∧ld = m * esz):apmS id esz bytes b n m ld ds g true (some (.cells cs false)) = some (.ms id 0 (n + m),⟨upd (upd g.hp b (some (.tok false))) id (some (.cells (cs ++ ds) false)),g.nx⟩):=by
 obtain ⟨h1,h2,h3,h4,h5,h6⟩:=h
 have h7:(n + m) * bytes≤2 ^ 46:=Nat.le_trans (Nat.mul_le_mul h4 h3) (by omega)
 exact if_pos ⟨h1,h2,h7,Nat.le_trans h4 (by omega),h5,h6,rfl⟩
def apcS (id esz bytes b k e n m ld:Nat) (ds:List AV) (g:G) (ok:Bool):Option Blk→Option (AV × G)
 | some (.cells cs false) => if e = esz∧1≤n∧k≤n∧1≤m∧(k + m) * bytes≤2 ^ 46∧k + m≤2 ^ 62∧cs.length = n * esz∧ld = m * esz∧ok then
         some (.ms id 0 (k + m),⟨upd (upd g.hp b (some (.tok false))) id (some (.cells (cs.take (k * esz) ++ ds) false)),g.nx⟩)
    else none
 | _ => none
theorem vAppM_C {al:Nat→Bool} {id esz bytes b k e n m:Nat} {ds:List AV} {t:Tok} {g:G}:vAppM al id esz bytes (.mc b k e n) (.sl ds m t) g = apcS id esz bytes b k e n m ds.length ds g (ds.all one) (selB (al b) (g.hp b)):=by
 unfold vAppM vSrcM
 simp only[rd_S]
 cases selB (al b) (g.hp b) with
 | none => rfl
 | some bl =>
   cases bl with
   | cells cs ro => cases ro<;>rfl
   | map es => rfl
   | tok l => rfl
theorem apcS_ok {id esz bytes b k n m ld:Nat} {cs ds:List AV} {g:G} (h:1≤n∧k≤n∧1≤m∧bytes≤1000∧k + m≤1000000∧cs.length = n * esz∧ld = m * esz):apcS id esz bytes b k esz n m ld ds g true (some (.cells cs false)) = some (.ms id 0 (k + m),⟨upd (upd g.hp b (some (.tok false))) id (some (.cells (cs.take (k * esz) ++ ds) false)),g.nx⟩):=by
 obtain ⟨h1,h2,h3,h4,h5,h6,h8⟩:=h
 have h7:(k + m) * bytes≤2 ^ 46:=Nat.le_trans (Nat.mul_le_mul h5 h4) (by omega)
 exact if_pos ⟨rfl,h1,h2,h3,h7,Nat.le_trans h5 (by omega),h6,h8,rfl⟩
theorem slHiM {esz b n:Nat} {ki:IntKind} {z:Int} {g:G} (h1:1≤n) (h2:0≤z) (h3:z≤(n:Int)):vSlice esz (.ms b 0 n) none (some (.i ki z)) none g = some (.mc b z.toNat esz n,g):=if_pos ⟨rfl,h1,h2,h3⟩
def evE (regs:List Int):List (Int × Int)→List Int→List Int
 | [],st => st
 | p :: l,st => if p.1 = 1 then evE regs l (p.2 :: st) else if p.1 = 3 then evE regs l (doX p.2 (st.getD 1 0) (st.getD 0 0) :: st.drop 2)
   else evE regs l ((if p.2 < regs.length then regs.getD p.2.toNat 0 else 0) :: st)
theorem evE_cons (regs p l st):evE regs (p :: l) st = if p.1 = 1 then evE regs l (p.2 :: st) else if p.1 = 3 then evE regs l (doX p.2 (st.getD 1 0) (st.getD 0 0) :: st.drop 2)
  else evE regs l ((if p.2 < regs.length then regs.getD p.2.toNat 0 else 0) :: st):=by simp only[evE]
theorem evE_nil (regs st):evE regs [] st = st:=by simp only[evE]
def evX (ex:List (Int × Int)) (regs:List Int):Int:=if chkX ex = true then (evE regs ex []).headD 0 else 0
theorem chkX_inv {ex:List (Int × Int)} (h:chkX ex = true):chkG ex 0 = some 1∧ex.length≤9:=by
 unfold chkX at h
 split at h
 ·rename_i d hd
  simp only[Bool.and_eq_true,decide_eq_true_eq] at h
  exact ⟨by rw[hd,h.1],h.2⟩
 ·cases h
def StkAt (st:List Int) (v:AV) (g:G):Prop:=(st = []∧v = .sl [] 0 .rig)∨(st≠[]∧∃ id,v = .ms id 0 st.length∧g.hp id = some (.cells (intsC st.reverse) false)∧id < g.nx)
structure EvI (ex:List (Int × Int)) (regs:List Int) (k:Nat) (st:List Int) (e:Env) (g:G):Prop where
 hk:k≤ex.length
 hs:st.length≤k
 e0:e 0 = .sl (tkC ex) ex.length .non
 e1:e 1 = .sl (intsC regs) regs.length .non
 e5:StkAt st (e 5) g
 e6:e 6 = .i .i64 ((k:Nat):Int)
 hc:chkG (ex.drop k) st.length = some 1
 ev:evE regs (ex.drop k) st = evE regs ex []
theorem ints_p1 {l:List Int} {k:Nat} (h:k < l.length):part (intsC l) (k * 1) none = some (.i .i64 (l.getD k 0)):=by
 have:=ints_part h
 simpa [part] using this
theorem sp_eval (h115:F 115 = some A_xref02_Eval) (h109:F 109 = some A_xref02_Check) (h125:F 125 = some A_xref02_word) (h128:F 128 = some A_xref02_Do) (ex:List (Int × Int)) (regs:List Int) (hl:ex.length≤1000000) (hr:regs.length≤1000000):
  pureS F 115 [exV ex,.sl (intsC regs) regs.length .non] = some (.i .i64 (evX ex regs)):=by
 refine pure_of h115 ?_
 have hck:=sp_exCheck h109 h125 ex hl
 unfold exV at hck ⊢
 unfold evX
 cases c0:chkX ex with
 | false =>
   rw[c0] at hck
   simp (disch:=omega) only[A_xref02_Eval,wp,qa,qb,qc,hck,if_false]
 | true =>
   rw[c0] at hck
   obtain ⟨hc0,hl9⟩:=chkX_inv c0
   rw[if_pos rfl]
   simp (disch:=omega) only[A_xref02_Eval,wp,qa,qb,qc,hck]
   refine blk_cut (fun e g => ∃ (v:Int) (id:Nat),e 5 = .ms id 0 1∧g.hp id = some (.cells [.i .i64 v] false)∧id < g.nx∧v = (evE regs ex []).headD 0) ?_ ?_
   ·refine W_loop (fun q e g => ∃ (k:Nat) (st:List Int),q = ex.length - k∧EvI ex regs k st e g) ex.length ?_ ?_
    ·exact ⟨0,[],rfl,Nat.zero_le _,Nat.le_refl _,rfl,rfl,.inl ⟨rfl,rfl⟩,rfl,hc0,rfl⟩
    ·rintro q e g ⟨k,st,rfl,hk,hsl,e0,e1,e5,e6,hc,hev⟩
     by_cases c1:k < ex.length
     ·have c1':((k:Nat):Int) < ((ex.length:Nat):Int):=by omega
      have hkd:=tk_k c1
      have hvd:=tk_v c1
      have hl2:=tk_l c1
      have hw:=succ_wrap (k:=k) (by omega)
      have hdc:=drop_cons (d:=((0,0):Int × Int)) c1
      rw[hdc] at hc hev
      rw[chkG_cons] at hc
      rw[evE_cons] at hev
      generalize ex.getD k (0,0) = p at hkd hvd hc hev
      cases c2:wdB p with
      | false => rw[c2] at hc;simp at hc
      | true =>
        rw[c2] at hc
        rw[if_pos rfl] at hc
        have next:∀ (st':List Int) (e':Env) (g':G),chkG (ex.drop (k + 1)) st'.length = some 1→evE regs (ex.drop (k + 1)) st' = evE regs ex []→st'.length≤k + 1→e' 0 = .sl (tkC ex) ex.length .non→e' 1 = .sl (intsC regs) regs.length .non→StkAt st' (e' 5) g'→e' 6 = .i .i64 ((k + 1:Nat):Int) →
          ∃ m',m' < ex.length - k∧∃ (k:Nat) (st:List Int),m' = ex.length - k∧EvI ex regs k st e' g':=
         fun st' e' g' a1 a2 a3 a4 a5 a6 a7 => ⟨ex.length - (k + 1),by omega,k + 1,st',rfl,⟨by omega,a3,a4,a5,a6,a7,a1,a2⟩⟩
        by_cases c3:p.1 = 1
        ·have c3a:(p.1 == 1) = true:=by simpa using c3
         rw[if_neg (by omega)] at hc
         rw[if_pos c3] at hev
         rcases e5 with ⟨rfl,e5⟩ | ⟨hne,b,e5,hb,hlt⟩
         ·simp (disch:=omega) only[wp,qa,qb,qc,e0,e1,e5,e6,c1',hkd,hvd,c3a,hw,o_appM,vAppM_rig,apmR_ok]
          refine next [p.2] _ _ hc hev ?_ ?_ ?_ ?_ ?_
          ·simp
          ·exact e0
          ·exact e1
          ·refine .inr ⟨by simp,_,rfl,?_,?_⟩
           ·simp (disch:=omega) only[upd_same,upd_ne];rfl
           ·dsimp only;omega
          ·rfl
         ·have h1:1≤st.length:=by cases st with | nil => exact absurd rfl hne | cons _ _ => simp
          have hcl:(intsC st.reverse).length = st.length * 1:=by rw[intsC_len,List.length_reverse,Nat.mul_one]
          simp (disch:=omega) only[wp,qa,qb,qc,e0,e1,e5,e6,c1',hkd,hvd,c3a,hw,hb,o_appM,vAppM_S,apmS_ok]
          refine next (p.2 :: st) _ _ hc hev ?_ ?_ ?_ ?_ ?_
          ·simp;omega
          ·exact e0
          ·exact e1
          ·refine .inr ⟨by simp,_,rfl,?_,?_⟩
           ·simp (disch:=omega) only[upd_same,upd_ne];simp[intsC]
           ·dsimp only;omega
          ·rfl
        ·have c3a:(p.1 == 1) = false:=by simpa using c3
         rw[if_neg c3] at hev
         by_cases c4:p.1 = 3
         ·have c4a:(p.1 == 3) = true:=by simpa using c4
          rw[if_pos c4] at hc hev
          by_cases c5:st.length < 2
          ·rw[if_pos c5] at hc;cases hc
          ·rw[if_neg c5] at hc
           obtain ⟨y,x,r,rfl⟩:∃ y x r,st = y :: x :: r:=by
            match st,c5 with
            | [],h => exact absurd (by simp) h
            | [_],h => exact absurd (by simp) h
            | y :: x :: r,_ => exact ⟨y,x,r,rfl⟩
           rcases e5 with ⟨h,_⟩ | ⟨hne,b,e5,hb,hlt⟩
           ·cases h
           ·have hrev:(y :: x :: r).reverse = r.reverse ++ [x,y]:=by simp
            rw[hrev] at hb
            simp only[List.length_cons] at e5 hc hsl
            have hcl:(intsC (r.reverse ++ [x,y])).length = (r.length + 1 + 1) * 1:=by rw[intsC_len];simp
            have hpx:part (intsC (r.reverse ++ [x,y])) (r.length * 1) none = some (.i .i64 x):=by
             rw[ints_p1 (by simp),List.getD_eq_getElem?_getD,List.getElem?_append_right (by simp)];simp
            have hpy:part (intsC (r.reverse ++ [x,y])) ((r.length + 1) * 1) none = some (.i .i64 y):=by
             rw[ints_p1 (by simp),List.getD_eq_getElem?_getD,List.getElem?_append_right (by simp)];simp
            have hs2:IntKind.i64.wrap (((r.length + 1 + 1:Nat):Int) - 2) = ((r.length:Nat):Int):=by rw[i64_wrap (by omega) (by omega)];omega
            have hs1:IntKind.i64.wrap (((r.length + 1 + 1:Nat):Int) - 1) = ((r.length + 1:Nat):Int):=by rw[i64_wrap (by omega) (by omega)];omega
            have hdo:=sp_do h128 p.2 x y
            simp (disch:=omega) only[wp,qa,qb,qc,e0,e1,e5,e6,c1',hkd,hvd,c3a,c4a,hw,hb,hs1,hs2,hpx,hpy,hdo,oSlice,evoN,evoS,slHiM,o_appM,vAppM_C,apcS_ok]
            refine next (doX p.2 x y :: r) _ _ hc hev ?_ ?_ ?_ ?_ ?_
            ·simp;omega
            ·exact e0
            ·exact e1
            ·refine .inr ⟨by simp,_,rfl,?_,?_⟩
             ·simp (disch:=omega) only[upd_same,upd_ne]
              rw[show (intsC (r.reverse ++ [x,y])).take (r.length * 1) = intsC r.reverse by rw[intsC_take,List.take_append_of_le_length (by simp),List.take_of_length_le (by simp)]]
              simp[intsC]
             ·dsimp only;omega
            ·rfl
         ·have c4a:(p.1 == 3) = false:=by simpa using c4
          rw[if_neg c4] at hc hev
          have hv0:0≤p.2∧p.2 < 8:=by
           unfold wdB at c2
           rw[if_neg c3,if_neg c4] at c2
           split at c2
           ·simpa using c2
           ·cases c2
          by_cases c6:p.2 < (regs.length:Int)
          ·rw[if_pos c6] at hev
           have hpr:=ints_part (l:=regs) (k:=p.2.toNat) (by omega)
           rcases e5 with ⟨rfl,e5⟩ | ⟨hne,b,e5,hb,hlt⟩
           ·simp (disch:=omega) only[wp,qa,qb,qc,e0,e1,e5,e6,c1',hkd,hvd,c3a,c4a,c6,hpr,hw,o_appM,vAppM_rig,apmR_ok]
            refine next [regs.getD p.2.toNat 0] _ _ hc hev ?_ ?_ ?_ ?_ ?_
            ·simp
            ·exact e0
            ·exact e1
            ·refine .inr ⟨by simp,_,rfl,?_,?_⟩
             ·simp (disch:=omega) only[upd_same,upd_ne];rfl
             ·dsimp only;omega
            ·rfl
           ·have h1:1≤st.length:=by cases st with | nil => exact absurd rfl hne | cons _ _ => simp
            have hcl:(intsC st.reverse).length = st.length * 1:=by rw[intsC_len,List.length_reverse,Nat.mul_one]
            simp (disch:=omega) only[wp,qa,qb,qc,e0,e1,e5,e6,c1',hkd,hvd,c3a,c4a,c6,hpr,hw,hb,o_appM,vAppM_S,apmS_ok]
            refine next (regs.getD p.2.toNat 0 :: st) _ _ hc hev ?_ ?_ ?_ ?_ ?_
            ·simp;omega
            ·exact e0
            ·exact e1
            ·refine .inr ⟨by simp,_,rfl,?_,?_⟩
             ·simp (disch:=omega) only[upd_same,upd_ne];simp[intsC]
             ·dsimp only;omega
            ·rfl
          ·rw[if_neg c6] at hev
           rcases e5 with ⟨rfl,e5⟩ | ⟨hne,b,e5,hb,hlt⟩
           ·simp (disch:=omega) only[wp,qa,qb,qc,e0,e1,e5,e6,c1',hkd,hvd,c3a,c4a,c6,hw,o_appM,vAppM_rig,apmR_ok]
            refine next [0] _ _ hc hev ?_ ?_ ?_ ?_ ?_
            ·simp
            ·exact e0
            ·exact e1
            ·refine .inr ⟨by simp,_,rfl,?_,?_⟩
             ·simp (disch:=omega) only[upd_same,upd_ne];rfl
             ·dsimp only;omega
            ·rfl
           ·have h1:1≤st.length:=by cases st with | nil => exact absurd rfl hne | cons _ _ => simp
            have hcl:(intsC st.reverse).length = st.length * 1:=by rw[intsC_len,List.length_reverse,Nat.mul_one]
            simp (disch:=omega) only[wp,qa,qb,qc,e0,e1,e5,e6,c1',hkd,hvd,c3a,c4a,c6,hw,hb,o_appM,vAppM_S,apmS_ok]
            refine next (0 :: st) _ _ hc hev ?_ ?_ ?_ ?_ ?_
            ·simp;omega
            ·exact e0
            ·exact e1
            ·refine .inr ⟨by simp,_,rfl,?_,?_⟩
             ·simp (disch:=omega) only[upd_same,upd_ne];simp[intsC]
             ·dsimp only;omega
            ·rfl
     ·have c1':¬ ((k:Nat):Int) < ((ex.length:Nat):Int):=by omega
      obtain rfl:k = ex.length:=by omega
      rw[List.drop_length] at hc hev
      rw[chkG_nil] at hc
      rw[evE_nil] at hev
      have hs1:st.length = 1:=Option.some.inj hc
      obtain ⟨v,rfl⟩:∃ v,st = [v]:=List.length_eq_one_iff.1 hs1
      rcases e5 with ⟨h,_⟩ | ⟨hne,b,e5,hb,hlt⟩
      ·cases h
      ·simp (disch:=omega) only[wp,qa,qb,qc,e0,e1,e5,e6,c1']
       exact ⟨v,b,rfl,hb,by omega,by rw[←hev];rfl⟩
   ·rintro e g ⟨v,id,e5,hid,hlt,rfl⟩
    simp (disch:=omega) only[wp,qa,qb,qc,e5,hid]
end Go.Ab
end
section
set_option linter.unusedVariables false
set_option linter.unusedSimpArgs false
namespace Go.Ab
variable {F:Funs}
structure TkS where
 t0:Tok
 t1:Tok
 td:Tok
 tc:Tok
 ti:Tok
 tr:Tok
 tn:Tok
 tt:Tok
 fs:List Tok
def frC (frm:List (List Int)) (ts:List Tok):List AV:=(List.range 8).map fun r => .sl (intsC (frm.getD r [])) (frm.getD r []).length (ts.getD r .non)
theorem frC_len (frm ts):(frC frm ts).length = 8:=by simp[frC]
theorem frC_at {frm ts} {r:Nat} (h:r < 8):(frC frm ts)[r]? = some (.sl (intsC (frm.getD r [])) (frm.getD r []).length (ts.getD r .non)):=by
 unfold frC
 rw[List.getElem?_map,List.getElem?_range h]
 rfl
theorem frC_set {frm:List (List Int)} {ts:List Tok} {r:Nat} {l:List Int} {t:Tok} (h:r < 8) (hf:frm.length = 8) (ht:ts.length = 8):(frC frm ts).set r (.sl (intsC l) l.length t) = frC (frm.set r l) (ts.set r t):=by
 refine List.ext_getElem? fun i => ?_
 by_cases hi:i < 8
 ·rw[frC_at hi,List.getElem?_set]
  by_cases hr:r = i
  ·subst hr
   rw[if_pos rfl,if_pos (by rw[frC_len];exact h)]
   simp[hf,ht,h]
  ·rw[if_neg hr,frC_at hi]
   simp[hr]
 ·rw[List.getElem?_eq_none (by rw[List.length_set,frC_len];omega),List.getElem?_eq_none (by rw[frC_len];omega)]
def stT (s:RS) (T:TkS):List AV:=frC s.frm T.fs ++ [.sl (intsC s.now) s.now.length T.tn,.sl [] 0 T.tt,.b s.short]
def stC (s:RS) (R:Nat) (reads:List Int) (T:TkS):List AV:=
 .sl (evsC s.evs) s.evs.length T.t0 :: .sl (pairsC s.rmw) s.rmw.length T.t1 :: .sl (pairsC s.data) s.data.length T.td :: .sl (pairsC s.ctrl) s.ctrl.length T.tc :: .sl [] 0 T.ti :: .i .i64 (s.used:Int) :: .ms R 0 8 :: .sl (intsC reads) reads.length T.tr :: stT s T
theorem stT_len (s T):(stT s T).length = 11:=by simp[stT,frC_len]
theorem stT_now (s T):(stT s T)[8]? = some (.sl (intsC s.now) s.now.length T.tn):=by
 unfold stT;rw[List.getElem?_append_right (by rw[frC_len];omega),frC_len];rfl
theorem stT_set (s T):(stT s T)[9]? = some (.sl [] 0 T.tt):=by
 unfold stT;rw[List.getElem?_append_right (by rw[frC_len];omega),frC_len];rfl
theorem stT_short (s T):(stT s T)[10]? = some (.b s.short):=by
 unfold stT;rw[List.getElem?_append_right (by rw[frC_len];omega),frC_len];rfl
theorem stT_frm (s T) {r:Nat} (h:r < 8):(stT s T)[r]? = some (.sl (intsC (s.frm.getD r [])) (s.frm.getD r []).length (T.fs.getD r .non)):=by
 unfold stT;rw[List.getElem?_append_left (by rw[frC_len];omega),frC_at h]
theorem p16 (a0 a1 a2 a3 a4 a5 a6 a7:AV) (l:List AV):part (a0 :: a1 :: a2 :: a3 :: a4 :: a5 :: a6 :: a7 :: l) 16 none = l[8]?:=rfl
theorem p17 (a0 a1 a2 a3 a4 a5 a6 a7:AV) (l:List AV):part (a0 :: a1 :: a2 :: a3 :: a4 :: a5 :: a6 :: a7 :: l) 17 none = l[9]?:=rfl
theorem p18 (a0 a1 a2 a3 a4 a5 a6 a7:AV) (l:List AV):part (a0 :: a1 :: a2 :: a3 :: a4 :: a5 :: a6 :: a7 :: l) 18 none = l[10]?:=rfl
structure SOk (s:RS) (R S:Nat) (reads:List Int) (T:TkS) (g:G):Prop where
 st:g.hp S = some (.cells (stC s R reads T) false)
 rg:g.hp R = some (.cells (intsC s.regs) false)
 l0:Live g 6 T.t0
 l1:Live g 2 T.t1
 ne:∀ i,T.t0≠.own i 6∨T.t1≠.own i 2
 sx:S < g.nx
 rx:R < g.nx
 sr:S≠R
 fs:T.fs.length = 8
 f8:s.frm.length = 8
 r8:s.regs.length = 8
structure Frm (S R:Nat) (g g':G):Prop where
 nx:g.nx≤g'.nx
 cells:∀ b cs ro,b≠S→b≠R→b < g.nx→g.hp b = some (.cells cs ro)→g'.hp b = some (.cells cs ro)
structure SBd (s:RS):Prop where
 evs:s.evs.length≤100
 rmw:s.rmw.length≤100
 data:s.data.length≤10000
 ctrl:s.ctrl.length≤10000
 now:s.now.length≤100
theorem stC_ev (s:RS) (e:Ev) (dl:List Int) (R:Nat) (reads:List Int) (T:TkS) (t:Tok):stC (evR s e dl) R reads { T with t0:=t,td:=.non,tc:=.non,ti:=.non } =
  .sl (evsC s.evs ++ [.i .i64 e.th,.i .i64 e.kd,.i .i64 e.md,.i .i64 e.lc,.i .i64 e.vl,.b e.ex]) (s.evs.length + 1) t :: .sl (pairsC s.rmw) s.rmw.length T.t1 :: .sl (pairsC (pairsI s.data dl s.evs.length)) (pairsI s.data dl s.evs.length).length .non :: .sl (pairsC (pairsI s.ctrl s.now s.evs.length)) (pairsI s.ctrl s.now s.evs.length).length .non :: .sl [] 0 .non :: .i .i64 (s.used:Int) :: .ms R 0 8 :: .sl (intsC reads) reads.length T.tr :: stT s T:=by
 unfold stC evR stT
 simp[evsC,evC]
theorem rp_event (h117:F 117 = some A_xref05_S_Event) (h130:F 130 = some A_xref05_pairs) {s:RS} {R S:Nat} {reads:List Int} {T:TkS} {g:G} (k:SOk s R S reads T g) (hb:SBd s) (e:Ev) (dl:List Int) (td:Tok) (hd:dl.length≤100):
  ∃ v g',callS F 117 [.mp S 0,.agg (evC e),.sl (intsC dl) dl.length td] g = some (v,g')∧v = .i .i64 (s.evs.length:Int)∧∃ T',SOk (evR s e dl) R S reads T' g'∧Frm S R g g':=by
 obtain ⟨st,rg,l0,l1,ne,sx,rx,sr,fs,f8,r8⟩:=k
 obtain ⟨b1,b2,b3,b4,b5⟩:=hb
 refine raw_of (P:=fun v g' => v = .i .i64 (s.evs.length:Int)∧∃ T',SOk (evR s e dl) R S reads T' g'∧Frm S R g g') h117 ?_
 obtain ⟨_,rfl,hp1⟩:=rp_pairs h130 s.data dl s.evs.length .non .non (by omega)
 obtain ⟨_,rfl,hp2⟩:=rp_pairs h130 s.ctrl s.now s.evs.length .non .non (by omega)
 have hp3:pureS F 130 [.sl [] 0 .non,.sl [] 0 .non,.i .i64 (s.evs.length:Int)] = some (.sl [] 0 .non):=by
  obtain ⟨_,rfl,h⟩:=rp_pairs h130 [] [] s.evs.length .non .non (by simp)
  exact h
 have hel:(evsC s.evs).length = s.evs.length * 6:=evsC_len _
 have s6:∀ b1 b2 b3 b4 b5 b6 c1 c2 c3 c4 c5 c6:AV,splice [b1,b2,b3,b4,b5,b6] 0 [c1,c2,c3,c4,c5,c6] = [c1,c2,c3,c4,c5,c6]:=fun _ _ _ _ _ _ _ _ _ _ _ _ => rfl
 have l5:∀ x:AV,List.replicate 5 x = [x,x,x,x,x]:=fun _ => rfl
 have hl:=stT_len s T
 have hn:=stT_now s T
 have hs:=stT_set s T
 unfold stC at st
 have p6:∀ a b c d e f:AV,part [a,b,c,d,e,f] 0 (some 6) = some (.agg [a,b,c,d,e,f]):=fun _ _ _ _ _ _ => rfl
 have hev:evC e = [.i .i64 e.th,.i .i64 e.kd,.i .i64 e.md,.i .i64 e.lc,.i .i64 e.vl,.b e.ex]:=rfl
 rcases l0 with h0 | ⟨τ,h0,hτ,lτ⟩
 ·rw[h0] at st
  simp (disch:=omega) only[A_xref05_S_Event,wp,qa,qb,qc,gl,st,hev,p6,p16,p17,hn,hs,hl,l5,s6,hel,hp1,hp2,hp3,List.length_set]
  refine ⟨_,rfl,rfl,{ T with t0:=.own (g.nx + 2 + 7 + 8) 6,td:=.non,tc:=.non,ti:=.non },⟨?_,?_,.inr ⟨_,rfl,?_,by first | omega | (dsimp only;omega)⟩,?_,fun i => ?_,by first | omega | (dsimp only;omega),by first | omega | (dsimp only;omega),sr,fs,f8,r8⟩,⟨by first | omega | (dsimp only;omega),fun b cs ro h1 h2 h3 h4 => ?_⟩⟩
  ·rw[stC_ev]
   simp (disch:=omega) only[upd_same]
  ·simp (disch:=omega) only[upd_ne,rg]
   rfl
  ·simp (disch:=omega) only[upd_same,upd_ne]
  ·rcases l1 with h1 | ⟨τ1,h1,hτ1,lτ1⟩
   ·exact .inl h1
   ·have n1:τ1≠S:=fun h => by rw[h,st] at hτ1;cases hτ1
    skip
    exact .inr ⟨τ1,h1,by simp (disch:=omega) only[upd_ne,hτ1],by first | omega | (dsimp only;omega)⟩
  ·by_cases hi:i = g.nx + 2 + 7 + 8
   ·refine .inr fun h => ?_
    rcases l1 with h1 | ⟨τ1,h1,hτ1,lτ1⟩
    ·rw[show (_:TkS).t1 = T.t1 from rfl,h1] at h;cases h
    ·rw[show (_:TkS).t1 = T.t1 from rfl,h1] at h;injection h with h;omega
   ·exact .inl fun h => by injection h with h;omega
  ·simp (disch:=omega) only[upd_ne,h4]
 ·rw[h0] at st
  have m1:τ≠S:=fun h => by rw[h,st] at hτ;cases hτ
  have m2:τ≠R:=fun h => by rw[h,rg] at hτ;cases hτ
  simp (disch:=omega) only[A_xref05_S_Event,wp,qa,qb,qc,gl,st,hτ,hev,p6,p16,p17,hn,hs,hl,l5,s6,hel,hp1,hp2,hp3,List.length_set]
  refine ⟨_,rfl,rfl,{ T with t0:=.own (g.nx + 2 + 7 + 8) 6,td:=.non,tc:=.non,ti:=.non },⟨?_,?_,.inr ⟨_,rfl,?_,by first | omega | (dsimp only;omega)⟩,?_,fun i => ?_,by first | omega | (dsimp only;omega),by first | omega | (dsimp only;omega),sr,fs,f8,r8⟩,⟨by first | omega | (dsimp only;omega),fun b cs ro h1 h2 h3 h4 => ?_⟩⟩
  ·rw[stC_ev]
   simp (disch:=omega) only[upd_same]
  ·simp (disch:=omega) only[upd_ne,rg]
   rfl
  ·simp (disch:=omega) only[upd_same,upd_ne]
  ·rcases l1 with h1 | ⟨τ1,h1,hτ1,lτ1⟩
   ·exact .inl h1
   ·have n1:τ1≠S:=fun h => by rw[h,st] at hτ1;cases hτ1
    have n2:τ1≠τ:=fun h => by rcases ne τ with h2 | h2<;>first | exact h2 h0 | exact h2 (by rw[h1,h])
    exact .inr ⟨τ1,h1,by simp (disch:=omega) only[upd_ne,hτ1],by first | omega | (dsimp only;omega)⟩
  ·by_cases hi:i = g.nx + 2 + 7 + 8
   ·refine .inr fun h => ?_
    rcases l1 with h1 | ⟨τ1,h1,hτ1,lτ1⟩
    ·rw[show (_:TkS).t1 = T.t1 from rfl,h1] at h;cases h
    ·rw[show (_:TkS).t1 = T.t1 from rfl,h1] at h;injection h with h;omega
   ·exact .inl fun h => by injection h with h;omega
  ·have n3:b≠τ:=fun h => by rw[h,hτ] at h4;cases h4
   simp (disch:=omega) only[upd_ne,h4]
end Go.Ab
end
section
set_option linter.unusedVariables false
set_option linter.unusedSimpArgs false
namespace Go.Ab
variable {F:Funs}
theorem set8 (a0 a1 a2 a3 a4 a5 a6 a7:AV) (l:List AV) (r:Nat) (v:AV):(a0 :: a1 :: a2 :: a3 :: a4 :: a5 :: a6 :: a7 :: l).set (8 + r * 1) v = a0 :: a1 :: a2 :: a3 :: a4 :: a5 :: a6 :: a7 :: l.set r v:=by
 rw[show 8 + r * 1 = r + 8 by omega]
 rfl
theorem pt6 (a0 a1 a2 a3 a4 a5 a6:AV) (l:List AV):part (a0 :: a1 :: a2 :: a3 :: a4 :: a5 :: a6 :: l) 6 none = some a6:=rfl
theorem pt7 (a0 a1 a2 a3 a4 a5 a6 a7:AV) (l:List AV):part (a0 :: a1 :: a2 :: a3 :: a4 :: a5 :: a6 :: a7 :: l) 7 none = some a7:=rfl
theorem part8 (a0 a1 a2 a3 a4 a5 a6 a7:AV) (l:List AV) (r:Nat):part (a0 :: a1 :: a2 :: a3 :: a4 :: a5 :: a6 :: a7 :: l) (8 + r * 1) none = l[r]?:=by
 rw[show 8 + r * 1 = r + 8 by omega]
 rfl
theorem stT_putF (s:RS) (T:TkS) {r:Nat} {l:List Int} {t:Tok} (h:r < 8) (hf:s.frm.length = 8) (ht:T.fs.length = 8):(stT s T).set r (.sl (intsC l) l.length t) = stT { s with frm:=s.frm.set r l } { T with fs:=T.fs.set r t }:=by
 unfold stT
 rw[List.set_append_left _ _ (by rw[frC_len];exact h),frC_set h hf ht]
theorem stT_putS (s:RS) (T:TkS) (b:Bool):(stT s T).set 10 (.b b) = stT { s with short:=b } T:=by
 unfold stT
 rw[List.set_append_right _ _ (by rw[frC_len];omega),frC_len]
 rfl
theorem stT_putN (s:RS) (T:TkS) (l:List Int) (t:Tok):(stT s T).set 8 (.sl (intsC l) l.length t) = stT { s with now:=l } { T with tn:=t }:=by
 unfold stT
 rw[List.set_append_right _ _ (by rw[frC_len];omega),frC_len]
 rfl
theorem intsC_set (l:List Int) (r:Nat) (v:Int):(intsC l).set (r * 1) (.i .i64 v) = intsC (l.set r v):=by
 rw[Nat.mul_one];unfold intsC;rw[List.map_set]
theorem SOk.put {s s1:RS} {R S:Nat} {reads:List Int} {T T1:TkS} {g:G} (k:SOk s R S reads T g) (hr:s1.regs = s.regs) (hf:s1.frm.length = 8) (h0:T1.t0 = T.t0) (h1:T1.t1 = T.t1) (hfs:T1.fs.length = 8) {hp':Nat→Option Blk} {m:Nat} (hS:hp' S = some (.cells (stC s1 R reads T1) false)) (ho:∀ i,i < g.nx→i≠S→hp' i = g.hp i) (hm:g.nx≤m):SOk s1 R S reads T1 ⟨hp',m⟩:=by
 obtain ⟨st,rg,l0,l1,ne,sx,rx,sr,fs,f8,r8⟩:=k
 refine ⟨hS,by show hp' R = _;rw[ho R rx (fun h => sr h.symm),hr];exact rg,?_,?_,by rw[h0,h1];exact ne,Nat.lt_of_lt_of_le sx hm,Nat.lt_of_lt_of_le rx hm,sr,hfs,hf,by rw[hr];exact r8⟩
 ·rw[h0]
  rcases l0 with h | ⟨τ,h,hτ,lτ⟩
  ·exact .inl h
  ·exact .inr ⟨τ,h,by show hp' τ = _;rw[ho τ lτ fun h => by rw[h,st] at hτ;cases hτ];exact hτ,Nat.lt_of_lt_of_le lτ hm⟩
 ·rw[h1]
  rcases l1 with h | ⟨τ,h,hτ,lτ⟩
  ·exact .inl h
  ·exact .inr ⟨τ,h,by show hp' τ = _;rw[ho τ lτ fun h => by rw[h,st] at hτ;cases hτ];exact hτ,Nat.lt_of_lt_of_le lτ hm⟩
theorem SOk.old {s:RS} {R S:Nat} {reads:List Int} {T:TkS} {g:G} (k:SOk s R S reads T g) {hp':Nat→Option Blk} {m:Nat} (ho:∀ i,i < g.nx→hp' i = g.hp i) (hm:g.nx≤m):SOk s R S reads T ⟨hp',m⟩:=
 k.put rfl k.f8 rfl rfl k.fs (by rw[ho S k.sx];exact k.st) (fun i hi _ => ho i hi) hm
theorem SOk.putR {s s1:RS} {R S:Nat} {reads:List Int} {T T1:TkS} {g:G} (k:SOk s R S reads T g) (hr8:s1.regs.length = 8) (hf:s1.frm.length = 8) (h0:T1.t0 = T.t0) (h1:T1.t1 = T.t1) (hfs:T1.fs.length = 8) {hp':Nat→Option Blk} {m:Nat} (hS:hp' S = some (.cells (stC s1 R reads T1) false)) (hR:hp' R = some (.cells (intsC s1.regs) false)) (ho:∀ i,i < g.nx→i≠S→i≠R→hp' i = g.hp i) (hm:g.nx≤m):SOk s1 R S reads T1 ⟨hp',m⟩:=by
 obtain ⟨st,rg,l0,l1,ne,sx,rx,sr,fs,f8,r8⟩:=k
 refine ⟨hS,hR,?_,?_,by rw[h0,h1];exact ne,Nat.lt_of_lt_of_le sx hm,Nat.lt_of_lt_of_le rx hm,sr,hfs,hf,hr8⟩
 ·rw[h0]
  rcases l0 with h | ⟨τ,h,hτ,lτ⟩
  ·exact .inl h
  ·exact .inr ⟨τ,h,by show hp' τ = _;rw[ho τ lτ (fun h => by rw[h,st] at hτ;cases hτ) (fun h => by rw[h,rg] at hτ;cases hτ)];exact hτ,Nat.lt_of_lt_of_le lτ hm⟩
 ·rw[h1]
  rcases l1 with h | ⟨τ,h,hτ,lτ⟩
  ·exact .inl h
  ·exact .inr ⟨τ,h,by show hp' τ = _;rw[ho τ lτ (fun h => by rw[h,st] at hτ;cases hτ) (fun h => by rw[h,rg] at hτ;cases hτ)];exact hτ,Nat.lt_of_lt_of_le lτ hm⟩
theorem Frm.trans {S R:Nat} {g g1 g2:G} (h:Frm S R g g1) (k:Frm S R g1 g2):Frm S R g g2:=
 ⟨Nat.le_trans h.nx k.nx,fun b cs ro h1 h2 h3 h4 => k.cells b cs ro h1 h2 (Nat.lt_of_lt_of_le h3 h.nx) (h.cells b cs ro h1 h2 h3 h4)⟩
theorem Frm.of {S R:Nat} {g:G} {hp':Nat→Option Blk} {m:Nat} (hm:g.nx≤m) (ho:∀ i,i < g.nx→i≠S→i≠R→hp' i = g.hp i):Frm S R g ⟨hp',m⟩:=
 ⟨hm,fun b cs ro h1 h2 h3 h4 => by show hp' b = _;rw[ho b h3 h1 h2];exact h4⟩
theorem rp_read (h113:F 113 = some A_xref05_S_Read) (h117:F 117 = some A_xref05_S_Event) (h130:F 130 = some A_xref05_pairs) {s:RS} {R S:Nat} {reads:List Int} {T:TkS} {g:G} (k:SOk s R S reads T g) (hb:SBd s) (hu:s.used≤1000) (loc mode:Int) (ex:Bool) {reg:Nat} (hreg:reg < 8):
  ∃ v g',callS F 113 [.mp S 0,.i .i64 loc,.i .i64 mode,.b ex,.i .i64 ((reg:Nat):Int)] g = some (v,g')∧v = .b (!decide (reads.length≤s.used))∧∃ T',SOk (rdR s reads loc mode ex reg) R S reads T' g'∧Frm S R g g':=by
 have k0:=k
 obtain ⟨st,rg,l0,l1,ne,sx,rx,sr,fs,f8,r8⟩:=k
 refine raw_of (P:=fun v g' => v = .b (!decide (reads.length≤s.used))∧∃ T',SOk (rdR s reads loc mode ex reg) R S reads T' g'∧Frm S R g g') h113 ?_
 have hl:=stT_len s T
 have hn:=stT_now s T
 have hs:=stT_set s T
 have l5:∀ x:AV,List.replicate 5 x = [x,x,x,x,x]:=fun _ => rfl
 unfold stC at st
 by_cases c1:reads.length≤s.used
 ·have c1':((reads.length:Nat):Int)≤((s.used:Nat):Int):=by omega
  simp (disch:=omega) only[A_xref05_S_Read,wp,qa,qb,qc,gl,st,c1',hl,pt6,pt7,p16,p17,set8,part8,hn,hs,List.length_set]
  refine ⟨_,rfl,by rw[decide_eq_true c1];rfl,T,?_,?_⟩
  ·rw[stT_putS]
   unfold rdR
   rw[if_pos c1]
   refine SOk.put (s1:={ s with short:=true }) (T1:=T) k0 rfl f8 rfl rfl fs ?_ (fun i hi h1 => ?_) ?_
   ·simp (disch:=omega) only[upd_same];rfl
   ·simp (disch:=omega) only[upd_ne]
   ·omega
  ·refine Frm.of ?_ fun i hi h1 h2 => ?_
   ·omega
   ·simp (disch:=omega) only[upd_ne]
 ·have c1':¬ ((reads.length:Nat):Int)≤((s.used:Nat):Int):=by omega
  have hip:=ints_part (l:=reads) (k:=s.used) (by omega)
  have hwu:=succ_wrap (k:=s.used) (by omega)
  have hrd:rdR s reads loc mode ex reg = { evR { s with used:=s.used + 1 } ⟨0,1,mode,loc,reads.getD s.used 0,ex⟩ [] with regs:=(evR { s with used:=s.used + 1 } ⟨0,1,mode,loc,reads.getD s.used 0,ex⟩ []).regs.set reg (reads.getD s.used 0),frm:=(evR { s with used:=s.used + 1 } ⟨0,1,mode,loc,reads.getD s.used 0,ex⟩ []).frm.set reg [(s.evs.length:Int)] }:=by
   unfold rdR
   rw[if_neg c1]
  generalize reads.getD s.used 0 = val at hip hrd
  simp (disch:=omega) only[A_xref05_S_Read,wp,qa,qb,qc,gl,st,c1',hl,pt6,pt7,p16,p17,set8,part8,hn,hs,hip,hwu,l5,List.length_set]
  have k1:SOk { s with used:=s.used + 1 } R S reads T ⟨upd g.hp S (some (.cells (stC { s with used:=s.used + 1 } R reads T) false)),g.nx + 1 + 11 + 12 + 10 + 8⟩:=
   SOk.put (s1:={ s with used:=s.used + 1 }) (T1:=T) k0 rfl f8 rfl rfl fs (upd_same ..) (fun i hi h1 => upd_ne _ _ h1) (by omega)
  refine bindO_call (P:=fun v g' => v = .i .i64 (s.evs.length:Int)∧∃ T',SOk (evR { s with used:=s.used + 1 } ⟨0,1,mode,loc,val,ex⟩ []) R S reads T' g'∧Frm S R _ g') (rp_event h117 h130 k1 ⟨hb.evs,hb.rmw,hb.data,hb.ctrl,hb.now⟩ ⟨0,1,mode,loc,val,ex⟩ [] .rig (Nat.zero_le _)) ?_
  rintro v g2 ⟨rfl,T2,k2,fr⟩
  generalize evR { s with used:=s.used + 1 } ⟨0,1,mode,loc,val,ex⟩ [] = s1 at k2 hrd
  have st2:=k2.st
  have rg2:=k2.rg
  have sx2:=k2.sx
  have rx2:=k2.rx
  have hl2:=stT_len s1 T2
  have hrl:(intsC s1.regs).length = 8:=by rw[intsC_len];exact k2.r8
  unfold stC at st2
  simp (disch:=omega) only[wp,qa,qb,qc,gl,st2,rg2,hl2,hrl,pt6,pt7,p16,p17,set8,part8,intsC_set,List.length_set]
  refine ⟨_,rfl,by rw[decide_eq_false c1];rfl,{ T2 with fs:=T2.fs.set reg .rig },?_,?_⟩
  ·rw[hrd]
   have hset:=stT_putF s1 T2 (l:=[(s.evs.length:Int)]) (t:=.rig) hreg k2.f8 k2.fs
   rw[show AV.sl [AV.i .i64 (s.evs.length:Int)] 1 .rig = .sl (intsC [(s.evs.length:Int)]) [(s.evs.length:Int)].length .rig from rfl,hset]
   refine SOk.putR (s1:={ s1 with regs:=s1.regs.set reg val,frm:=s1.frm.set reg [(s.evs.length:Int)] }) (T1:={ T2 with fs:=T2.fs.set reg .rig }) k2 ?_ ?_ rfl rfl ?_ ?_ ?_ (fun i hi h1 h2 => ?_) ?_
   ·show (s1.regs.set reg val).length = 8
    rw[List.length_set];exact k2.r8
   ·show (s1.frm.set reg _).length = 8
    rw[List.length_set];exact k2.f8
   ·show (T2.fs.set reg _).length = 8
    rw[List.length_set];exact k2.fs
   ·simp (disch:=omega) only[upd_same];rfl
   ·have:=k2.sr
    simp (disch:=omega) only[upd_same,upd_ne]
   ·simp (disch:=omega) only[upd_ne]
   ·omega
  ·refine (Frm.of (S:=S) (R:=R) (g:=g) (m:=g.nx + 1 + 11 + 12 + 10 + 8) ?_ fun i hi h1 h2 => ?_).trans (fr.trans (Frm.of ?_ fun i hi h1 h2 => ?_))
   ·omega
   ·exact upd_ne _ _ h1
   ·omega
   ·simp (disch:=omega) only[upd_ne]
end Go.Ab
end
section
set_option linter.unusedVariables false
set_option linter.unusedSimpArgs false
namespace Go.Ab
variable {F:Funs}
theorem rp_write (h114:F 114 = some A_xref05_S_Write) (h117:F 117 = some A_xref05_S_Event) (h130:F 130 = some A_xref05_pairs) {s:RS} {R S:Nat} {reads:List Int} {T:TkS} {g:G} (k:SOk s R S reads T g) (hb:SBd s) (loc mode:Int) (ex:Bool) (val:Int) (dl:List Int) (td:Tok) (hd:dl.length≤100):
  ∃ v g',callS F 114 [.mp S 0,.i .i64 loc,.i .i64 mode,.b ex,.i .i64 val,.sl (intsC dl) dl.length td] g = some (v,g')∧∃ T',SOk (wrR s loc mode ex val dl) R S reads T' g'∧Frm S R g g':=by
 refine raw_of (P:=fun v g' => ∃ T',SOk (wrR s loc mode ex val dl) R S reads T' g'∧Frm S R g g') h114 ?_
 have l5:∀ x:AV,List.replicate 5 x = [x,x,x,x,x]:=fun _ => rfl
 have s2:∀ b1 b2 c1 c2:AV,splice [b1,b2] 0 [c1,c2] = [c1,c2]:=fun _ _ _ _ => rfl
 simp (disch:=omega) only[A_xref05_S_Write,wp,qa,qb,qc,gl,l5]
 have k1:SOk s R S reads T ⟨g.hp,g.nx + 9⟩:=k.old (fun i hi => rfl) (by omega)
 refine bindO_call (P:=fun v g' => v = .i .i64 (s.evs.length:Int)∧∃ T',SOk (evR s ⟨0,2,mode,loc,val,ex⟩ dl) R S reads T' g'∧Frm S R _ g') (rp_event h117 h130 k1 hb ⟨0,2,mode,loc,val,ex⟩ dl td hd) ?_
 rintro v g2 ⟨rfl,T2,k2,fr⟩
 have fr0:Frm S R g g2:=(Frm.of (S:=S) (R:=R) (g:=g) (m:=g.nx + 9) (by omega) fun i hi h1 h2 => rfl).trans fr
 have hwr:wrR s loc mode ex val dl = if ex then { evR s ⟨0,2,mode,loc,val,ex⟩ dl with rmw:=(evR s ⟨0,2,mode,loc,val,ex⟩ dl).rmw ++ [((s.evs.length:Int) - 1,(s.evs.length:Int))] } else evR s ⟨0,2,mode,loc,val,ex⟩ dl:=rfl
 have hrm:(evR s ⟨0,2,mode,loc,val,ex⟩ dl).rmw.length≤100:=hb.rmw
 generalize evR s ⟨0,2,mode,loc,val,ex⟩ dl = s1 at k2 hwr hrm
 have sx2:=k2.sx
 have rx2:=k2.rx
 cases ex with
 | false =>
   simp (disch:=omega) only[wp,qa,qb,qc,gl]
   refine ⟨_,rfl,T2,?_,?_⟩
   ·rw[hwr]
    exact k2.old (fun i hi => rfl) (by omega)
   ·exact fr0.trans (Frm.of (by omega) fun i hi h1 h2 => rfl)
 | true =>
   have st2:=k2.st
   have hpl:(pairsC s1.rmw).length = s1.rmw.length * 2:=pairsC_len _
   have hw:IntKind.i64.wrap ((s.evs.length:Int) - 1) = (s.evs.length:Int) - 1:=i64_wrap (by omega) (by have:=hb.evs;omega)
   unfold stC at st2
   rcases k2.l1 with h1 | ⟨τ,h1,hτ,lτ⟩
   ·rw[h1] at st2
    simp (disch:=omega) only[wp,qa,qb,qc,gl,st2,hpl,hw,s2,List.length_set]
    refine ⟨_,rfl,{ T2 with t1:=.own (g2.nx + 1 + 11) 2 },?_,?_⟩
    ·rw[hwr,if_pos rfl]
     have sr2:=k2.sr
     refine ⟨?_,?_,?_,.inr ⟨_,rfl,?_,?_⟩,fun i => ?_,?_,?_,sr2,k2.fs,k2.f8,k2.r8⟩
     ·simp (disch:=omega) only[upd_same]
      unfold stC stT
      simp[pairsC]
     ·simp (disch:=omega) only[upd_ne,k2.rg]
     ·rcases k2.l0 with h0 | ⟨τ1,h0,hτ1,lτ1⟩
      ·exact .inl h0
      ·have n1:τ1≠S:=fun h => by rw[h,st2] at hτ1;cases hτ1
       skip
       exact .inr ⟨τ1,h0,by simp (disch:=omega) only[upd_ne,hτ1],by dsimp only;omega⟩
     ·simp (disch:=omega) only[upd_same,upd_ne]
     ·dsimp only;omega
     ·by_cases hi:i = g2.nx + 1 + 11
      ·refine .inl fun h => ?_
       rcases k2.l0 with h0 | ⟨τ1,h0,hτ1,lτ1⟩
       ·rw[show (_:TkS).t0 = T2.t0 from rfl,h0] at h;cases h
       ·rw[show (_:TkS).t0 = T2.t0 from rfl,h0] at h;injection h with h;omega
      ·exact .inr fun h => by injection h with h;omega
     ·dsimp only;omega
     ·dsimp only;omega
    ·refine fr0.trans ⟨by dsimp only;omega,fun b cs ro h1 h2 h3 h4 => ?_⟩
     ·simp (disch:=omega) only[upd_ne,h4]
   ·rw[h1] at st2
    have m1:τ≠S:=fun h => by rw[h,st2] at hτ;cases hτ
    simp (disch:=omega) only[wp,qa,qb,qc,gl,st2,hτ,hpl,hw,s2,List.length_set]
    refine ⟨_,rfl,{ T2 with t1:=.own (g2.nx + 1 + 11) 2 },?_,?_⟩
    ·rw[hwr,if_pos rfl]
     have sr2:=k2.sr
     have m2:τ≠R:=fun h => by rw[h,k2.rg] at hτ;cases hτ
     refine ⟨?_,?_,?_,.inr ⟨_,rfl,?_,?_⟩,fun i => ?_,?_,?_,sr2,k2.fs,k2.f8,k2.r8⟩
     ·simp (disch:=omega) only[upd_same]
      unfold stC stT
      simp[pairsC]
     ·simp (disch:=omega) only[upd_ne,k2.rg]
     ·rcases k2.l0 with h0 | ⟨τ1,h0,hτ1,lτ1⟩
      ·exact .inl h0
      ·have n1:τ1≠S:=fun h => by rw[h,st2] at hτ1;cases hτ1
       have n2:τ1≠τ:=fun h => by rcases k2.ne τ with h3 | h3<;>first | exact h3 (by rw[h0,h]) | exact h3 h1
       exact .inr ⟨τ1,h0,by simp (disch:=omega) only[upd_ne,hτ1],by dsimp only;omega⟩
     ·simp (disch:=omega) only[upd_same,upd_ne]
     ·dsimp only;omega
     ·by_cases hi:i = g2.nx + 1 + 11
      ·refine .inl fun h => ?_
       rcases k2.l0 with h0 | ⟨τ1,h0,hτ1,lτ1⟩
       ·rw[show (_:TkS).t0 = T2.t0 from rfl,h0] at h;cases h
       ·rw[show (_:TkS).t0 = T2.t0 from rfl,h0] at h;injection h with h;omega
      ·exact .inr fun h => by injection h with h;omega
     ·dsimp only;omega
     ·dsimp only;omega
    ·refine fr0.trans ⟨by dsimp only;omega,fun b cs ro h1 h2 h3 h4 => ?_⟩
     ·have n3:b≠τ:=fun h => by rw[h,hτ] at h4;cases h4
      simp (disch:=omega) only[upd_ne,h4]
end Go.Ab
end
section
set_option linter.unusedVariables false
set_option linter.unusedSimpArgs false
namespace Go.Ab
variable {F:Funs}
def natC (l:List Nat):List AV:=l.map fun (r:Nat) => .i .i64 ((r:Nat):Int)
def ofL (s:RS) (rs:List Nat):List Int:=rs.foldl (fun l r => bothI l (s.frm.getD r [])) []
theorem ofL_take {s:RS} {rs:List Nat} {k:Nat} (h:k < rs.length):ofL s (rs.take (k + 1)) = bothI (ofL s (rs.take k)) (s.frm.getD (rs.getD k 0) []):=by
 have ht:rs.take (k + 1) = rs.take k ++ [rs.getD k 0]:=by
  rw[List.take_add_one,List.getD_eq_getElem?_getD,List.getElem?_eq_getElem h]
  rfl
 unfold ofL
 rw[ht,List.foldl_append]
 rfl
theorem ofL_len {s:RS} (hf:∀ r,(s.frm.getD r []).length≤100) (rs:List Nat):∀ k,k≤rs.length→(ofL s (rs.take k)).length≤100 * k
 | 0,_ => Nat.zero_le _
 | k + 1,h => by
   rw[ofL_take (by omega)]
   have h1:=bothI_len (a:=ofL s (rs.take k)) (b:=s.frm.getD (rs.getD k 0) [])
   have h2:=ofL_len hf rs k (by omega)
   have h3:=hf (rs.getD k 0)
   omega
theorem nat_part {l:List Nat} {k:Nat} (h:k < l.length):part ((natC l).drop (k * 1)) 0 none = some (.i .i64 ((l.getD k 0:Nat):Int)):=by
 simp only[part,Nat.mul_one,natC]
 rw[List.getElem?_drop,Nat.add_zero,List.getElem?_map,List.getD_eq_getElem?_getD,List.getElem?_eq_getElem h]
 rfl
theorem rp_of (h116:F 116 = some A_xref05_S_Of) (h129:F 129 = some A_xref05_Both) (h132:F 132 = some A_xref05_Put) {s:RS} {R S:Nat} {reads:List Int} {T:TkS} {g:G} (k:SOk s R S reads T g) (hf:∀ r,(s.frm.getD r []).length≤100) {ex:List (Int × Int)} {rs:List Nat} (hrs:pureS F 126 [exV ex] = some (.sl (natC rs) rs.length .non)) (h8:∀ r∈rs,r < 8) (hl8:rs.length≤8):
  ∃ v g',callS F 116 [.mp S 0,exV ex] g = some (v,g')∧(∃ t,v = .sl (intsC (ofL s rs)) (ofL s rs).length t)∧g'.hp = g.hp∧g.nx≤g'.nx:=by
 refine raw_of (P:=fun v g' => (∃ t,v = .sl (intsC (ofL s rs)) (ofL s rs).length t)∧g'.hp = g.hp∧g.nx≤g'.nx) h116 ?_
 obtain ⟨st,rg,l0,l1,ne,sx,rx,sr,fs,f8,r8⟩:=k
 have hl:=stT_len s T
 unfold stC at st
 unfold exV at hrs ⊢
 simp (disch:=omega) only[A_xref05_S_Of,wp,qa,qb,qc,gl,hrs]
 refine W_loop (fun q e g1 => ∃ (i:Nat) (w:Tok),q = rs.length - i∧i≤rs.length∧e 0 = .mp S 0∧e 5 = .sl (intsC (ofL s (rs.take i))) (ofL s (rs.take i)).length w∧e 6 = .sl (natC rs) rs.length .non∧e 7 = .i .i64 ((i:Nat):Int)∧g1.hp = g.hp∧g.nx≤g1.nx) rs.length ?_ ?_
 ·refine ⟨0,.rig,rfl,Nat.zero_le _,?_⟩
  simp (disch:=omega) only[wp,qa,qb,qc]
  exact ⟨rfl,rfl,by omega⟩
 ·rintro q e g1 ⟨i,w,rfl,hi,e0,e5,e6,e7,hh,hx⟩
  rw[←hh] at st
  by_cases c1:i < rs.length
  ·have c1':((i:Nat):Int) < ((rs.length:Nat):Int):=by omega
   have hip:=nat_part c1
   have hw:=succ_wrap (k:=i) (by omega)
   have hr8:rs.getD i 0 < 8:=h8 _ (by rw[List.getD_eq_getElem?_getD,List.getElem?_eq_getElem c1];exact List.getElem_mem c1)
   have hfa:=stT_frm s T hr8
   have hlen:=ofL_len hf rs i hi
   have hfr:=hf (rs.getD i 0)
   obtain ⟨_,rfl,hbo⟩:=rp_both h129 h132 (ofL s (rs.take i)) (s.frm.getD (rs.getD i 0) []) .non .non (by omega)
   rw[←ofL_take c1] at hbo
   generalize rs.getD i 0 = r at hip hr8 hfa hfr hbo
   simp (disch:=omega) only[wp,qa,qb,qc,gl,e0,e5,e6,e7,c1',hip,hw,st,part8,hfa,hl,hbo,List.length_set]
   exact ⟨rs.length - (i + 1),by omega,i + 1,.non,rfl,by omega,rfl,rfl,hh,by omega⟩
  ·have c1':¬ ((i:Nat):Int) < ((rs.length:Nat):Int):=by omega
   obtain rfl:i = rs.length:=by omega
   rw[List.take_length] at e5
   simp (disch:=omega) only[wp,qa,qb,qc,gl,e0,e5,e6,e7,c1']
   exact ⟨_,rfl,⟨w,rfl⟩,hh,by omega⟩
theorem ints_pt {l:List Int} {k:Nat} (h:k < l.length):part (intsC l) (k * 1) none = some (.i .i64 (l.getD k 0)):=by
 simp only[part,Nat.mul_one,intsC]
 rw[List.getElem?_map,List.getD_eq_getElem?_getD,List.getElem?_eq_getElem h]
 rfl
theorem rdR_bd {s:RS} {reads:List Int} {loc md:Int} {ex:Bool} {reg:Nat} (hb:SBd s) (h1:s.evs.length + 1≤100) (h2:s.ctrl.length + 100≤10000):SBd (rdR s reads loc md ex reg):=by
 unfold rdR
 split
 ·exact ⟨hb.evs,hb.rmw,hb.data,hb.ctrl,hb.now⟩
 ·refine ⟨by show (s.evs ++ [_]).length≤100;simpa using h1,hb.rmw,hb.data,?_,hb.now⟩
  show (pairsI s.ctrl s.now _).length≤10000
  rw[pairsI_len]
  have:=hb.now
  omega
theorem rdR_frm {s:RS} {reads:List Int} {loc md:Int} {ex:Bool} {reg:Nat} {m:Nat} (hm:1≤m) (hf:∀ r,(s.frm.getD r []).length≤m) (r:Nat):((rdR s reads loc md ex reg).frm.getD r []).length≤m:=by
 unfold rdR
 split
 ·exact hf r
 ·show ((s.frm.set reg [_]).getD r []).length≤m
  rw[List.getD_eq_getElem?_getD,List.getElem?_set]
  split
  ·split
   ·simpa using hm
   ·simp
  ·have:=hf r
   rwa [List.getD_eq_getElem?_getD] at this
structure RunF (F:Funs):Prop where
 event:F 117 = some A_xref05_S_Event
 read:F 113 = some A_xref05_S_Read
 write:F 114 = some A_xref05_S_Write
 of_:F 116 = some A_xref05_S_Of
 faa:F 118 = some A_xref05_S_faa
 move:F 119 = some A_xref05_S_Move
 skip:F 120 = some A_xref05_S_Skip
 start:F 112 = some A_xref05_Start
 do_:F 104 = some A_xref05_Do
 both:F 129 = some A_xref05_Both
 pairs:F 130 = some A_xref05_pairs
 put:F 132 = some A_xref05_Put
structure ExW (F:Funs) (ex:List (Int × Int)) (regs:List Int) (rs:List Nat) (val:Int):Prop where
 reck:pureS F 115 [exV ex,.sl (intsC regs) 8 .non] = some (.i .i64 val)
 regs:pureS F 126 [exV ex] = some (.sl (natC rs) rs.length .non)
 lt:∀ r∈rs,r < 8
 len:rs.length≤8
theorem ints_flat (l:List Int):(intsC l).all flat = true:=by
 unfold intsC
 rw[List.all_map]
 exact List.all_eq_true.2 fun x _ => rfl
theorem rp_move (A:RunF F) {s:RS} {R S:Nat} {reads:List Int} {T:TkS} {g:G} (k:SOk s R S reads T g) (hf:∀ r,(s.frm.getD r []).length≤100) {ex:List (Int × Int)} {rs:List Nat} {val:Int} (X:ExW F ex s.regs rs val) {reg:Nat} (hreg:reg < 8):
  ∃ v g',callS F 119 [.mp S 0,.i .i64 ((reg:Nat):Int),exV ex] g = some (v,g')∧∃ T',SOk { s with regs:=s.regs.set reg val,frm:=s.frm.set reg (ofL s rs) } R S reads T' g'∧Frm S R g g':=by
 refine raw_of (P:=fun v g' => ∃ T',SOk { s with regs:=s.regs.set reg val,frm:=s.frm.set reg (ofL s rs) } R S reads T' g'∧Frm S R g g') A.move ?_
 simp (disch:=omega) only[A_xref05_S_Move,wp,qa,qb,qc,gl]
 refine bindO_see (P:=fun v g' => (∃ t,v = .sl (intsC (ofL s rs)) (ofL s rs).length t)∧g'.hp = g.hp∧g.nx + 4≤g'.nx) (rp_of A.of_ A.both A.put (k.old (m:=g.nx + 4) (fun i hi => rfl) (by omega)) hf X.regs X.lt X.len) (fun v g' h => fun i b hb => by rw[h.2.1];exact hb) ?_
 rintro v g2 ⟨⟨w,rfl⟩,hh,hx⟩
 have k2:SOk s R S reads T g2:=k.old (hp':=g2.hp) (m:=g2.nx) (fun i hi => by rw[hh]) (by omega)
 have st2:=k2.st
 have rg2:=k2.rg
 have sx2:=k2.sx
 have rx2:=k2.rx
 have sr2:=k2.sr
 have hl2:=stT_len s T
 have hrl:(intsC s.regs).length = 8:=by rw[intsC_len];exact k2.r8
 have hev:=X.reck
 have hr8:=k.r8
 have hrt:(intsC s.regs).take (8 * 1) = intsC s.regs:=intsC_all k.r8
 unfold exV at hev ⊢
 unfold stC at st2
 simp (disch:=omega) only[wp,qa,qb,qc,gl,st2,rg2,hl2,hrl,hrt,hev,ints_flat,pt6,pt7,p16,p17,set8,part8,intsC_set,List.length_set]
 refine ⟨_,rfl,{ T with fs:=T.fs.set reg w },?_,?_⟩
 ·rw[stT_putF s T hreg k.f8 k.fs]
  refine SOk.putR (s1:={ s with regs:=s.regs.set reg val,frm:=s.frm.set reg (ofL s rs) }) (T1:={ T with fs:=T.fs.set reg w }) k2 ?_ ?_ rfl rfl ?_ ?_ ?_ (fun i hi h1 h2 => ?_) ?_
  ·show (s.regs.set reg val).length = 8
   rw[List.length_set];exact hr8
  ·show (s.frm.set reg _).length = 8
   rw[List.length_set];exact k.f8
  ·show (T.fs.set reg _).length = 8
   rw[List.length_set];exact k.fs
  ·simp (disch:=omega) only[upd_same];rfl
  ·simp (disch:=omega) only[upd_same,upd_ne]
  ·simp (disch:=omega) only[upd_ne]
  ·omega
 ·refine Frm.of ?_ fun i hi h1 h2 => ?_
  ·omega
  ·simp (disch:=omega) only[upd_ne]
   rw[hh]
theorem rp_skip (A:RunF F) {s:RS} {R S:Nat} {reads:List Int} {T:TkS} {g:G} (k:SOk s R S reads T g) (hb:SBd s) (hf:∀ r,(s.frm.getD r []).length≤100) {ex:List (Int × Int)} {rs:List Nat} {val:Int} (X:ExW F ex s.regs rs val) (n:Int):
  ∃ v g',callS F 120 [.mp S 0,.i .i64 n,exV ex] g = some (v,g')∧v = .i .i64 (if val = 0 then 0 else n)∧∃ T',SOk { s with now:=bothI s.now (ofL s rs) } R S reads T' g'∧Frm S R g g':=by
 refine raw_of (P:=fun v g' => v = .i .i64 (if val = 0 then 0 else n)∧∃ T',SOk { s with now:=bothI s.now (ofL s rs) } R S reads T' g'∧Frm S R g g') A.skip ?_
 have st0:=k.st
 have sx:=k.sx
 have hl:=stT_len s T
 have hn:=stT_now s T
 unfold stC at st0
 have hol:=ofL_len hf rs rs.length (Nat.le_refl _)
 rw[List.take_length] at hol
 have h8:=X.len
 have hnw:=hb.now
 obtain ⟨_,rfl,hbo⟩:=rp_both A.both A.put s.now (ofL s rs) .non .non (by omega)
 simp (disch:=omega) only[A_xref05_S_Skip,wp,qa,qb,qc,gl,st0,p16,p17,hl,hn,List.length_set]
 refine bindO_see (P:=fun v g' => (∃ t,v = .sl (intsC (ofL s rs)) (ofL s rs).length t)∧g'.hp = g.hp∧g.nx + 13≤g'.nx) (rp_of A.of_ A.both A.put (k.old (m:=g.nx + 13) (fun i hi => rfl) (by omega)) hf X.regs X.lt X.len) (fun v g' h => fun i b hb => by rw[h.2.1];exact hb) ?_
 rintro v g2 ⟨⟨w,rfl⟩,hh,hx⟩
 have k2:SOk s R S reads T g2:=k.old (hp':=g2.hp) (m:=g2.nx) (fun i hi => by rw[hh]) (by omega)
 have st2:=k2.st
 have rg2:=k2.rg
 have sx2:=k2.sx
 have rx2:=k2.rx
 have sr2:=k2.sr
 have hrl:(intsC s.regs).length = 8:=by rw[intsC_len];exact k2.r8
 have hev:=X.reck
 have hrt:(intsC s.regs).take (8 * 1) = intsC s.regs:=intsC_all k.r8
 unfold exV at hev ⊢
 unfold stC at st2
 by_cases c:val = 0
 ·rw[if_pos c]
  have c':(val != 0) = false:=by simp[c]
  simp (disch:=omega) only[wp,qa,qb,qc,gl,st2,rg2,hl,hn,hrl,hrt,hev,ints_flat,hbo,c',pt6,pt7,p16,p17,set8,part8,intsC_set,List.length_set]
  refine ⟨_,rfl,rfl,{ T with tn:=.non },?_,?_⟩
  ·rw[stT_putN]
   refine SOk.put (s1:={ s with now:=bothI s.now (ofL s rs) }) (T1:={ T with tn:=.non }) k2 rfl k.f8 rfl rfl k.fs ?_ (fun i hi h1 => ?_) ?_
   ·simp (disch:=omega) only[upd_same];rfl
   ·simp (disch:=omega) only[upd_ne]
   ·omega
  ·refine Frm.of ?_ fun i hi h1 h2 => ?_
   ·omega
   ·simp (disch:=omega) only[upd_ne]
    rw[hh]
 ·rw[if_neg c]
  have c':(val != 0) = true:=by simpa using c
  simp (disch:=omega) only[wp,qa,qb,qc,gl,st2,rg2,hl,hn,hrl,hrt,hev,ints_flat,hbo,c',pt6,pt7,p16,p17,set8,part8,intsC_set,List.length_set]
  refine ⟨_,rfl,rfl,{ T with tn:=.non },?_,?_⟩
  ·rw[stT_putN]
   refine SOk.put (s1:={ s with now:=bothI s.now (ofL s rs) }) (T1:={ T with tn:=.non }) k2 rfl k.f8 rfl rfl k.fs ?_ (fun i hi h1 => ?_) ?_
   ·simp (disch:=omega) only[upd_same];rfl
   ·simp (disch:=omega) only[upd_ne]
   ·omega
  ·refine Frm.of ?_ fun i hi h1 h2 => ?_
   ·omega
   ·simp (disch:=omega) only[upd_ne]
    rw[hh]
theorem rp_faa (A:RunF F)  {s:RS} {R S:Nat} {reads:List Int} {T:TkS} {g:G} (k:SOk s R S reads T g) (hb:SBd s) (hb1:s.evs.length + 1≤100) (hb2:s.ctrl.length + 100≤10000) (hu:s.used≤1000) (hf5:∀ r,(s.frm.getD r []).length≤50) {ex:List (Int × Int)} {rs:List Nat} {val:Int} (ho:(ofL s rs).length≤50) (X:ExW F ex s.regs rs val) (kd md md2 loc n:Int) {reg:Nat} (hreg:reg < 8):
  ∃ v g',callS F 118 [.mp S 0,.agg [.i .i64 kd,.i .i64 md,.i .i64 md2,.i .i64 ((reg:Nat):Int),.i .i64 loc,exV ex,.i .i64 n]] g = some (v,g')∧∃ T',SOk (faR s reads loc md md2 reg (ofL s rs) val) R S reads T' g'∧Frm S R g g':=by
 refine raw_of (P:=fun v g' => ∃ T',SOk (faR s reads loc md md2 reg (ofL s rs) val) R S reads T' g'∧Frm S R g g') A.faa ?_
 have hf:∀ r,(s.frm.getD r []).length≤100:=fun r => Nat.le_trans (hf5 r) (by omega)
 unfold exV
 simp (disch:=omega) only[A_xref05_S_faa,wp,qa,qb,qc,gl]
 generalize hC:[AV.i .i64 kd,AV.i .i64 md,AV.i .i64 md2,AV.i .i64 ((reg:Nat):Int),AV.i .i64 loc,AV.sl (tkC ex) ex.length .non,AV.i .i64 n] = C
 have c1:part C 1 none = some (.i .i64 md):=by rw[←hC];rfl
 have c2:part C 2 none = some (.i .i64 md2):=by rw[←hC];rfl
 have c3:part C 3 none = some (.i .i64 ((reg:Nat):Int)):=by rw[←hC];rfl
 have c4:part C 4 none = some (.i .i64 loc):=by rw[←hC];rfl
 have c5:part C 5 none = some (.sl (tkC ex) ex.length .non):=by rw[←hC];rfl
 have cl:C.length = 7:=by rw[←hC];rfl
 have kx:SOk s R S reads T ⟨upd g.hp g.nx (some (.cells C false)),g.nx + 1 + 5⟩:=k.old (fun i hi => upd_ne _ _ (by omega)) (by omega)
 refine bindO_see (P:=fun v g' => (∃ t,v = .sl (intsC (ofL s rs)) (ofL s rs).length t)∧g'.hp = upd g.hp g.nx (some (.cells C false))∧g.nx + 1 + 5≤g'.nx) (rp_of A.of_ A.both A.put kx hf X.regs X.lt X.len) (fun v g' h => fun i b hb => by rw[h.2.1];exact hb) ?_
 rintro v g2 ⟨⟨w,rfl⟩,hh,hx⟩
 have k2:SOk s R S reads T g2:=kx.old (hp':=g2.hp) (m:=g2.nx) (fun i hi => by rw[hh]) hx
 have hbx:g2.hp g.nx = some (.cells C false):=by rw[hh];exact upd_same ..
 have fr2:Frm S R g g2:=Frm.of (by omega) fun i hi h1 h2 => by rw[hh];exact upd_ne _ _ (by omega)
 have gx:g.nx < g2.nx:=by omega
 have sx:=k.sx
 have rx:=k.rx
 have st2:=k2.st
 have rg2:=k2.rg
 have sx2:=k2.sx
 have rx2:=k2.rx
 have sr2:=k2.sr
 have hrl:(intsC s.regs).length = 8:=by rw[intsC_len];exact k2.r8
 have hev:=X.reck
 have hrt:(intsC s.regs).take (8 * 1) = intsC s.regs:=intsC_all k.r8
 unfold exV at hev
 unfold stC at st2
 simp (disch:=omega) only[wp,qa,qb,qc,gl,hbx,c1,c3,c4,c5,cl,st2,rg2,hrl,hrt,hev,ints_flat,pt6,pt7,List.length_set]
 refine bindO_call (P:=fun v g' => v = .b (!decide (reads.length≤s.used))∧∃ T',SOk (rdR s reads loc md true reg) R S reads T' g'∧Frm S R _ g') (rp_read A.read A.event A.pairs (k2.old (hp':=g2.hp) (m:=g2.nx + 9 + 8) (fun i hi => rfl) (by omega)) hb hu loc md true hreg) ?_
 rintro v g3 ⟨rfl,T3,k3,fr3⟩
 have fr03:Frm S R g g3:=fr2.trans ((Frm.of (hp':=g2.hp) (m:=g2.nx + 9 + 8) (by omega) fun i hi h1 h2 => rfl).trans fr3)
 have hbx3:g3.hp g.nx = some (.cells C false):=fr3.cells g.nx C false (by omega) (by omega) (by dsimp only;omega) hbx
 have gx3:g.nx < g3.nx:=by have:=fr3.nx;dsimp only at this;omega
 have hfa:faR s reads loc md md2 reg (ofL s rs) val = if reads.length≤s.used then rdR s reads loc md true reg else wrR (rdR s reads loc md true reg) loc md2 true (IntKind.i64.wrap ((rdR s reads loc md true reg).regs.getD reg 0 + val)) (bothI (ofL s rs) ((rdR s reads loc md true reg).frm.getD reg [])):=rfl
 by_cases cu:reads.length≤s.used
 ·rw[decide_eq_true cu]
  rw[if_pos cu] at hfa
  simp (disch:=omega) only[wp,qa,qb,qc,gl,Bool.not_true]
  exact ⟨_,rfl,T3,by rw[hfa];exact k3,fr03⟩
 ·rw[decide_eq_false cu]
  rw[if_neg cu] at hfa
  have hb3:SBd (rdR s reads loc md true reg):=rdR_bd hb hb1 hb2
  have hf3:((rdR s reads loc md true reg).frm.getD reg []).length≤50:=rdR_frm (by omega) hf5 reg
  generalize rdR s reads loc md true reg = s1 at k3 hfa hb3 hf3
  have st3:=k3.st
  have rg3:=k3.rg
  have sx3:=k3.sx
  have rx3:=k3.rx
  have hl3:=stT_len s1 T3
  have hrl3:(intsC s1.regs).length = 8:=by rw[intsC_len];exact k3.r8
  have hrp:=ints_pt (l:=s1.regs) (k:=reg) (by rw[k3.r8];exact hreg)
  have hfp:=stT_frm s1 T3 hreg
  obtain ⟨_,rfl,hbo⟩:=rp_both A.both A.put (ofL s rs) (s1.frm.getD reg []) .non .non (by omega)
  unfold stC at st3
  simp (disch:=omega) only[wp,qa,qb,qc,gl,Bool.not_false,hbx3,c1,c2,c3,c4,c5,cl,st3,rg3,hl3,hrl3,hrp,hfp,hbo,part8,pt6,pt7,List.length_set]
  have hbl:=bothI_len (a:=ofL s rs) (b:=s1.frm.getD reg [])
  refine bindO_call (P:=fun v g' => ∃ T',SOk (wrR s1 loc md2 true (IntKind.i64.wrap (s1.regs.getD reg 0 + val)) (bothI (ofL s rs) (s1.frm.getD reg []))) R S reads T' g'∧Frm S R _ g') (rp_write A.write A.event A.pairs (k3.old (hp':=g3.hp) (m:=g3.nx + 26) (fun i hi => rfl) (by omega)) hb3 loc md2 true _ (bothI (ofL s rs) (s1.frm.getD reg [])) .non (by omega)) ?_
  rintro v g4 ⟨T4,k4,fr4⟩
  simp (disch:=omega) only[wp,qa,qb,qc,gl]
  exact ⟨_,rfl,T4,by rw[hfa];exact k4,fr03.trans ((Frm.of (hp':=g3.hp) (m:=g3.nx + 26) (by omega) fun i hi h1 h2 => rfl).trans fr4)⟩
end Go.Ab
end
section
set_option linter.unusedVariables false
set_option linter.unusedSimpArgs false
namespace Go.Ab
variable {F:Funs}
theorem rp_start (A:RunF F) (g:G) (reads:List Int) (tr:Tok):
  ∃ v g',callS F 112 [.sl (intsC reads) reads.length tr] g = some (v,g')∧∃ R S T,v = .mp S 0∧SOk rs0 R S reads T g'∧g.nx≤S∧g.nx≤R∧(∀ i,i < g.nx→g'.hp i = g.hp i)∧g.nx≤g'.nx:=by
 refine raw_of (P:=fun v g' => ∃ R S T,v = .mp S 0∧SOk rs0 R S reads T g'∧g.nx≤S∧g.nx≤R∧(∀ i,i < g.nx→g'.hp i = g.hp i)∧g.nx≤g'.nx) A.start ?_
 have l5:∀ x:AV,List.replicate 5 x = [x,x,x,x,x]:=fun _ => rfl
 have l12:∀ x:AV,List.replicate 12 x = [x,x,x,x,x,x,x,x,x,x,x,x]:=fun _ => rfl
 have hmk:∀ (id:Nat) (g:G),vMksl id [.i .i64 0] 1 8 (.i .i64 8) (.i .i64 8) g = some (.ms id 0 8,⟨upd g.hp id (some (.cells (intsC (List.replicate 8 0)) false)),g.nx⟩):=fun id g => vMksl_ms (n:=8) (by omega) (by omega) (by omega) rfl
 simp (disch:=omega) only[A_xref05_Start,wp,qa,qb,qc,gl,l5,l12,o_mksl,hmk,List.length_set]
 refine ⟨_,rfl,g.nx + 1 + 4 + 1,g.nx + 1 + 2,⟨.rig,.rig,.rig,.rig,.rig,tr,.rig,.rig,List.replicate 8 .rig⟩,rfl,⟨?_,?_,.inl rfl,.inl rfl,fun i => .inl (fun h => by cases h),?_,?_,?_,rfl,rfl,rfl⟩,?_,?_,fun i hi => ?_,?_⟩
 ·simp (disch:=omega) only[upd_same]
  rfl
 ·simp (disch:=omega) only[upd_same,upd_ne]
  rfl
 ·dsimp only;omega
 ·dsimp only;omega
 ·omega
 ·omega
 ·omega
 ·simp (disch:=omega) only[upd_ne]
 ·first | omega | (dsimp only;omega)
theorem p07 (a0 a1 a2 a3 a4 a5 a6:AV) (l:List AV):part (a0 :: a1 :: a2 :: a3 :: a4 :: a5 :: a6 :: l) 0 (some 7) = some (.agg [a0,a1,a2,a3,a4,a5,a6]):=by
 have h:0 + 7≤(a0 :: a1 :: a2 :: a3 :: a4 :: a5 :: a6 :: l).length:=by simp only[List.length_cons];omega
 simp only[part,if_pos h]
 rfl
theorem res_c7 {n m b:Nat} {e:Env} {g:G} {cs:List AV} {ro:Bool} {v:AV} {a:Option Nat} (h:e n = .mp b 0) (h2:g.hp b = some (.cells cs ro)) (h3:part cs 0 a = some v):resE [.cell n a,.t m] e g = some (.tup [v,e m]):=by
 simp only[resE,resAll,resOne,h,h2,h3]
theorem retC7 {n m b:Nat} {e:Env} {g:G} {cs:List AV} {ro:Bool} {v V w:AV} {a:Option Nat} (h:e n = .mp b 0) (h2:g.hp b = some (.cells cs ro)) (h3:part cs 0 a = some v) (h5:e m = w) (h4:frz g.hp depth (.tup [v,w]) = some V):(match resE [.cell n a,.t m] e g with | some v0 => frz g.hp depth v0 | none => none) = some V:=by
 rw[res_c7 h h2 h3,h5]
 exact h4
theorem frzL_ints (hp:Nat→Option Blk) (k:Nat):∀ l:List Int,frzL hp (k + 1) (intsC l) = some (intsC l)
 | [] => by simp[intsC,frzL]
 | x :: l => by
   have:=frzL_ints hp k l
   simp only[intsC,List.map_cons,frzL,frz] at this ⊢
   rw[this]
def zR:List AV:=[.sl [] 0 .rig,.sl [] 0 .rig,.sl [] 0 .rig,.sl [] 0 .rig,.sl [] 0 .rig,.i .i64 0,.sl [] 0 .rig]
def roC (s:RS):List AV:=if s.short then [.sl [] 0 .non,.sl [] 0 .non,.sl [] 0 .non,.sl [] 0 .non,.sl [] 0 .non,.i .i64 0,.sl [] 0 .non] else
 [.sl (evsC s.evs) s.evs.length .non,.sl (pairsC s.rmw) s.rmw.length .non,.sl (pairsC s.data) s.data.length .non,.sl (pairsC s.ctrl) s.ctrl.length .non,.sl [] 0 .non,.i .i64 (s.used:Int),.sl (intsC s.regs) 8 .non]
def VOk (F:Funs) (V:List (Int × Int)→List Int→Int):Prop:=∀ ex regs,ExOk ex→regs.length = 8→ExW F ex regs (exR ex) (V ex regs)
structure DoI (F:Funs) (V:List (Int × Int)→List Int→Int) (th:List Ins) (reads:List Int) (R S k:Nat) (s:RS) (T:TkS) (e:Env) (g:G):Prop where
 hk:k≤th.length
 e0:e 0 = .sl (insLC th) th.length .non
 e4:e 4 = .mp 0 0
 e6:e 6 = .mp S 0
 e7:e 7 = .i .i64 ((k:Nat):Int)
 h0:g.hp 0 = some (.cells zR false)
 ok:SOk s R S reads T g
 s0:0 < S
 r0:0 < R
 inv:RInv s
 run:runR V reads th (th.length - k) k s = doR V th reads
 used:s.used≤k
 evs:s.evs.length≤2 * k
theorem DoI.mv {V:List (Int × Int)→List Int→Int} {th:List Ins} {reads:List Int} {R S k:Nat} {s:RS} {T:TkS} {e e':Env} {g:G} {m:Nat} (I:DoI F V th reads R S k s T e g) (h0:e' 0 = e 0) (h4:e' 4 = e 4) (h6:e' 6 = e 6) (h7:e' 7 = e 7) (hm:g.nx≤m):DoI F V th reads R S k s T e' ⟨g.hp,m⟩:=
 ⟨I.hk,h0.trans I.e0,h4.trans I.e4,h6.trans I.e6,h7.trans I.e7,I.h0,I.ok.old (fun i hi => rfl) hm,I.s0,I.r0,I.inv,I.run,I.used,I.evs⟩
theorem rp_do (A:RunF F) {V:List (Int × Int)→List Int→Int} (hV:VOk F V) {th:List Ins} (hth:ThK th) (reads:List Int) (tr:Tok) (hr:reads.length≤1000):
  pureS F 104 [.sl (insLC th) th.length .non,.sl (intsC reads) reads.length tr] = some (.tup [.agg (roC (doR V th reads)),.b (!(doR V th reads).short)]):=by
 refine pure_of A.do_ ?_
 have l5:∀ x:AV,List.replicate 5 x = [x,x,x,x,x]:=fun _ => rfl
 have s7:∀ b1 b2 b3 b4 b5 b6 b7 c1 c2 c3 c4 c5 c6 c7:AV,splice [b1,b2,b3,b4,b5,b6,b7] 0 [c1,c2,c3,c4,c5,c6,c7] = [c1,c2,c3,c4,c5,c6,c7]:=fun _ _ _ _ _ _ _ _ _ _ _ _ _ _ => rfl
 simp (disch:=omega) only[A_xref05_Do,wp,qa,qb,qc,gl,l5]
 refine bindO_call (P:=fun v g' => ∃ R S T,v = .mp S 0∧SOk rs0 R S reads T g'∧1≤S∧1≤R∧(∀ i,i < 1→g'.hp i = some (.cells zR false))∧1≤g'.nx) ?_ ?_
 ·obtain ⟨v,g',h1,R,S,T,h2,h3,h4,h5,h6,h7⟩:=rp_start A ⟨upd (fun _ => none) 0 (some (.cells zR false)),5⟩ reads tr
  exact ⟨v,g',h1,R,S,T,h2,h3,by dsimp only at h4;omega,by dsimp only at h5;omega,fun i hi => by
   obtain rfl:i = 0:=by omega
   rw[h6 0 (by dsimp only;omega)]
   rfl,by dsimp only at h7;omega⟩
 ·rintro v g1 ⟨R,S,T,rfl,k0,hS,hR,hz,hx⟩
  simp (disch:=omega) only[wp,qa,qb,qc,gl]
  refine blk_cut (fun e g => ∃ (k:Nat) (s:RS) (T:TkS),DoI F V th reads R S k s T e g∧(s.short = true∨k = th.length)) ?_ ?_
  ·refine W_loop (fun q e g => ∃ (k:Nat) (s:RS) (T:TkS),q = th.length - k∧DoI F V th reads R S k s T e g) th.length ?_ ?_
   ·refine ⟨0,rs0,T,rfl,⟨Nat.zero_le _,?_,?_,?_,?_,?_,?_,hS,hR,rs0_inv,rfl,Nat.zero_le _,Nat.zero_le _⟩⟩
    ·rfl
    ·rfl
    ·rfl
    ·rfl
    ·exact hz 0 (by omega)
    ·exact k0.old (fun i hi => rfl) (by omega)
   ·rintro q e g ⟨k,s,T,rfl,I⟩
    have hle:=hth.len
    have st:=I.ok.st
    have sx:=I.ok.sx
    have rx:=I.ok.rx
    have hz0:=I.h0
    have sS:=I.s0
    have sR:=I.r0
    have e0:=I.e0
    have e4:=I.e4
    have e6:=I.e6
    have e7:=I.e7
    have hl:=stT_len s T
    have hsh:=stT_short s T
    have rgv:=I.ok.rg
    have hrl:(intsC s.regs).length = 8:=by rw[intsC_len];exact I.ok.r8
    have hrt:(intsC s.regs).take (8 * 1) = intsC s.regs:=intsC_all I.ok.r8
    unfold stC at st
    by_cases c1:k < th.length
    ·have c1':((k:Nat):Int) < ((th.length:Nat):Int):=by omega
     cases c2:s.short with
     | true =>
       rw[c2] at hsh
       simp (disch:=omega) only[wp,qa,qb,qc,gl,e0,e6,e7,c1',st,p18,hl,hsh]
       exact ⟨k,s,T,I.mv rfl rfl rfl rfl (by omega),.inl c2⟩
     | false =>
       rw[c2] at hsh
       have hia:=ins_at c1
       have hx:=hth.ins k c1
       have hwk:=succ_wrap (k:=k) (by omega)
       have hev:=I.evs
       have hsq:s.evs.length * s.evs.length≤24 * 24:=Nat.mul_le_mul (by omega) (by omega)
       have hrm:=I.inv.rmw.len
       have hdl:=I.inv.b.dl
       have hcl:=I.inv.b.cl
       have hnw:=I.inv.b.now.len
       have hbd:SBd s:=⟨by omega,by omega,by omega,by omega,by omega⟩
       have hfr:∀ r,(s.frm.getD r []).length≤50:=fun r => by have:=(I.inv.b.at r).len;omega
       have hfr2:∀ r,(s.frm.getD r []).length≤100:=fun r => by have:=hfr r;omega
       have hof:∀ ex,(ofL s (exR ex)).length≤50:=fun ex => by have:=(I.inv.b.of ex).len;unfold ofR at this;unfold ofL;omega
       have hus:=I.used
       have hrn:=I.run
       rw[show th.length - k = (th.length - (k + 1)) + 1 by omega] at hrn
       unfold runR at hrn
       rw[if_pos ⟨c1,c2⟩] at hrn
       have hin:=fun x => (I.inv.st (V:=V) (reads:=reads) (x:=x) (left:=((th.length - 1 - k:Nat):Int)))
       have hsu:=stR_used V reads s (th.getD k fence0)
       have hse:=stR_evs V reads s (th.getD k fence0)
       have hin':=hin _ hx
       generalize th.getD k fence0 = x at hia hx hrn hsu hse hin'
       have fin:∀ (e':Env) (g':G) (T':TkS) (k':Nat),k' = k + skR V s x + 1→k'≤th.length→e' 0 = .sl (insLC th) th.length .non→e' 4 = .mp 0 0→e' 6 = .mp S 0→e' 7 = .i .i64 ((k':Nat):Int)→g'.hp 0 = some (.cells zR false)→SOk (stR V reads s x) R S reads T' g'→∃ m',m' < th.length - k∧∃ (k:Nat) (s:RS) (T:TkS),m' = th.length - k∧DoI F V th reads R S k s T e' g':=by
        intro e' g' T' k' hk' hkl a0 a4 a6 a7 ah ak
        refine ⟨th.length - k',by omega,k',stR V reads s x,T',rfl,⟨hkl,a0,a4,a6,a7,ah,ak,I.s0,I.r0,hin',?_,by omega,by omega⟩⟩
        rw[←hrn,hk']
        exact runR_fuel _ _ _ _ (by omega) (by omega)
       have hval:True:=trivial
       cases hx with
       | ld md rg lc h1 h2 h3 =>
         obtain ⟨r,rfl⟩:∃ r:Nat,rg = (r:Int):=⟨rg.toNat,by omega⟩
         simp (disch:=omega) only[wp,qa,qb,qc,gl,insC,exV,e0,e6,e7,c1',st,p18,hl,hsh,hia,l5,s7,part_ag7,rgv,hrl,hrt,ints_flat,hval,pt6,hwk,Int.reduceBEq]
         refine bindO_call (P:=fun v g' => v = .b (!decide (reads.length≤s.used))∧∃ T',SOk (rdR s reads lc md false r) R S reads T' g'∧Frm S R _ g') (rp_read A.read A.event A.pairs (I.ok.old (fun i hi => by simp (disch:=omega) only[upd_ne]) (by omega)) hbd (by omega) lc md false (by omega)) ?_
         rintro v g2 ⟨rfl,T2,k2,fr⟩
         have h02:g2.hp 0 = some (.cells zR false):=fr.cells 0 zR false (by omega) (by omega) (by dsimp only;omega) (by simp (disch:=omega) only[upd_ne,hz0])
         simp (disch:=omega) only[wp,qa,qb,qc,gl,e0,e4,e6,e7,hwk]
         exact fin _ _ T2 (k + 1) (by simp[skR]) (by omega) e0 e4 e6 rfl h02 (by unfold stR;rw[if_pos rfl];exact k2.old (fun i hi => rfl) (by omega))
       | st md lc ex h1 h3 he =>
         have hval:=(hV ex s.regs he I.ok.r8).reck
         unfold exV at hval
         simp (disch:=omega) only[wp,qa,qb,qc,gl,insC,exV,e0,e6,e7,c1',st,p18,hl,hsh,hia,l5,s7,part_ag7,rgv,hrl,hrt,ints_flat,hval,pt6,hwk,Int.reduceBEq]
         have X:=hV ex s.regs he I.ok.r8
         refine bindO_see (P:=fun v g' => (∃ t,v = .sl (intsC (ofL s (exR ex))) (ofL s (exR ex)).length t)∧g'.hp = _∧_≤g'.nx) (rp_of A.of_ A.both A.put (I.ok.old (fun i hi => by simp (disch:=omega) only[upd_ne]) (by omega)) hfr2 X.regs X.lt X.len) (fun v g' h => fun i b hb => by rw[h.2.1];exact hb) ?_
         rintro v g2 ⟨⟨w,rfl⟩,hh,hx2⟩
         dsimp only at hh hx2
         have k2:SOk s R S reads T g2:=I.ok.old (hp':=g2.hp) (m:=g2.nx) (fun i hi => by rw[hh];simp (disch:=omega) only[upd_ne]) (by omega)
         have hz2:g2.hp 0 = some (.cells zR false):=by rw[hh];have:=I.ok.sx;simp (disch:=omega) only[upd_ne,hz0]
         have hx0:0 < g2.nx:=by omega
         simp (disch:=omega) only[wp,qa,qb,qc,gl]
         refine bindO_call (P:=fun v g' => ∃ T',SOk (wrR s lc md false (V ex s.regs) (ofL s (exR ex))) R S reads T' g'∧Frm S R _ g') (rp_write A.write A.event A.pairs (k2.old (fun i hi => rfl) (by omega)) hbd lc md false _ (ofL s (exR ex)) w (by have:=hof ex;omega)) ?_
         rintro v g3 ⟨T3,k3,fr⟩
         have h02:g3.hp 0 = some (.cells zR false):=fr.cells 0 zR false (by omega) (by omega) (by dsimp only;omega) hz2
         simp (disch:=omega) only[wp,qa,qb,qc,gl,e0,e4,e6,e7,hwk]
         exact fin _ _ T3 (k + 1) (by simp[skR]) (by omega) e0 e4 e6 rfl h02 (by unfold stR;rw[if_neg (by simp),if_pos rfl];exact k3.old (fun i hi => rfl) (by omega))
       | fe md h1 =>
         simp (disch:=omega) only[wp,qa,qb,qc,gl,insC,exV,e0,e6,e7,c1',st,p18,hl,hsh,hia,l5,s7,part_ag7,rgv,hrl,hrt,ints_flat,hval,pt6,hwk,Int.reduceBEq]
         refine bindO_call (P:=fun v g' => v = .i .i64 (s.evs.length:Int)∧∃ T',SOk (evR s ⟨0,3,md,0,0,false⟩ []) R S reads T' g'∧Frm S R _ g') (rp_event A.event A.pairs (I.ok.old (fun i hi => by simp (disch:=omega) only[upd_ne]) (by omega)) hbd ⟨0,3,md,0,0,false⟩ [] .rig (Nat.zero_le _)) ?_
         rintro v g2 ⟨rfl,T2,k2,fr⟩
         have h02:g2.hp 0 = some (.cells zR false):=fr.cells 0 zR false (by omega) (by omega) (by dsimp only;omega) (by simp (disch:=omega) only[upd_ne,hz0])
         simp (disch:=omega) only[wp,qa,qb,qc,gl,e0,e4,e6,e7,hwk]
         exact fin _ _ T2 (k + 1) (by simp[skR]) (by omega) e0 e4 e6 rfl h02 (by unfold stR;rw[if_neg (by simp),if_neg (by simp),if_pos rfl];exact k2.old (fun i hi => rfl) (by omega))
       | fa md md2 rg lc c h1 h4 h2 h3 h5 =>
         obtain ⟨r,rfl⟩:∃ r:Nat,rg = (r:Int):=⟨rg.toNat,by omega⟩
         simp (disch:=omega) only[wp,qa,qb,qc,gl,insC,exV,e0,e6,e7,c1',st,p18,hl,hsh,hia,l5,s7,part_ag7,rgv,hrl,hrt,ints_flat,hval,pt6,hwk,Int.reduceBEq]
         refine bindO_call (P:=fun v g' => ∃ T',SOk (faR s reads lc md md2 r (ofL s (exR [(1,c)])) (V [(1,c)] s.regs)) R S reads T' g'∧Frm S R _ g') (rp_faa A (I.ok.old (fun i hi => by simp (disch:=omega) only[upd_ne]) (by omega)) hbd (by omega) (by omega) (by omega) hfr (hof _) (hV [(1,c)] s.regs ⟨0,c,0,by omega,by omega,by omega,by omega,by omega,by omega,rfl⟩ I.ok.r8) 4 md md2 lc 0 (by omega)) ?_
         rintro v g2 ⟨T2,k2,fr⟩
         have h02:g2.hp 0 = some (.cells zR false):=fr.cells 0 zR false (by omega) (by omega) (by dsimp only;omega) (by simp (disch:=omega) only[upd_ne,hz0])
         simp (disch:=omega) only[wp,qa,qb,qc,gl,e0,e4,e6,e7,hwk]
         exact fin _ _ T2 (k + 1) (by simp[skR]) (by omega) e0 e4 e6 rfl h02 (by unfold stR;rw[if_neg (by simp),if_neg (by simp),if_neg (by simp),if_pos rfl];exact k2.old (fun i hi => rfl) (by omega))
       | se rg ex h2 he =>
         obtain ⟨r,rfl⟩:∃ r:Nat,rg = (r:Int):=⟨rg.toNat,by omega⟩
         simp (disch:=omega) only[wp,qa,qb,qc,gl,insC,exV,e0,e6,e7,c1',st,p18,hl,hsh,hia,l5,s7,part_ag7,rgv,hrl,hrt,ints_flat,hval,pt6,hwk,Int.reduceBEq]
         refine bindO_call (P:=fun v g' => ∃ T',SOk { s with regs:=s.regs.set r (V ex s.regs),frm:=s.frm.set r (ofL s (exR ex)) } R S reads T' g'∧Frm S R _ g') (rp_move A (I.ok.old (fun i hi => by simp (disch:=omega) only[upd_ne]) (by omega)) hfr2 (hV ex s.regs he I.ok.r8) (by omega)) ?_
         rintro v g2 ⟨T2,k2,fr⟩
         have h02:g2.hp 0 = some (.cells zR false):=fr.cells 0 zR false (by omega) (by omega) (by dsimp only;omega) (by simp (disch:=omega) only[upd_ne,hz0])
         simp (disch:=omega) only[wp,qa,qb,qc,gl,e0,e4,e6,e7,hwk]
         exact fin _ _ T2 (k + 1) (by simp[skR]) (by omega) e0 e4 e6 rfl h02 (by unfold stR;rw[if_neg (by simp),if_neg (by simp),if_neg (by simp),if_neg (by simp),if_pos rfl];exact k2.old (fun i hi => rfl) (by omega))
       | sk ex n he h0 h1 =>
         simp (disch:=omega) only[wp,qa,qb,qc,gl,insC,exV,e0,e6,e7,c1',st,p18,hl,hsh,hia,l5,s7,part_ag7,rgv,hrl,hrt,ints_flat,hval,pt6,hwk,Int.reduceBEq]
         refine bindO_call (P:=fun v g' => v = .i .i64 (if V ex s.regs = 0 then 0 else n)∧∃ T',SOk { s with now:=bothI s.now (ofL s (exR ex)) } R S reads T' g'∧Frm S R _ g') (rp_skip A (I.ok.old (fun i hi => by simp (disch:=omega) only[upd_ne]) (by omega)) hbd hfr2 (hV ex s.regs he I.ok.r8) n) ?_
         rintro v g2 ⟨rfl,T2,k2,fr⟩
         have h02:g2.hp 0 = some (.cells zR false):=fr.cells 0 zR false (by omega) (by omega) (by dsimp only;omega) (by simp (disch:=omega) only[upd_ne,hz0])
         obtain ⟨m,hm,hsk,hml⟩:∃ m:Nat,(if V ex s.regs = 0 then 0 else n) = (m:Int)∧skR V s ⟨6,0,0,0,0,ex,n⟩ = m∧m≤th.length - 1 - k:=by
          by_cases c:V ex s.regs = 0
          ·exact ⟨0,by rw[if_pos c];rfl,by simp[skR,c],Nat.zero_le _⟩
          ·exact ⟨n.toNat,by rw[if_neg c];omega,by simp[skR,c],by omega⟩
         rw[hm]
         have hw1:IntKind.i64.wrap ((k:Int) + (m:Int)) = ((k + m:Nat):Int):=by rw[i64_wrap (by omega) (by omega)];omega
         have hw2:=succ_wrap (k:=k + m) (by omega)
         simp (disch:=omega) only[wp,qa,qb,qc,gl,e0,e4,e6,e7,hw1,hw2]
         exact fin _ _ T2 (k + m + 1) (by rw[hsk]) (by omega) e0 e4 e6 rfl h02 (by unfold stR;rw[if_neg (by simp),if_neg (by simp),if_neg (by simp),if_neg (by simp),if_neg (by simp)];exact k2.old (fun i hi => rfl) (by omega))
    ·have c1':¬ ((k:Nat):Int) < ((th.length:Nat):Int):=by omega
     simp (disch:=omega) only[wp,qa,qb,qc,gl,e0,e6,e7,c1']
     exact ⟨k,s,T,I.mv rfl rfl rfl rfl (by omega),.inr (by have:=I.hk;omega)⟩
  ·rintro e g ⟨k,s,T,I,hend⟩
   have hdo:s = doR V th reads:=by
    rcases hend with h | h
    ·rw[←I.run,runR_end h]
    ·rw[←I.run,h,Nat.sub_self];rfl
   rw[←hdo]
   have st:=I.ok.st
   have sx:=I.ok.sx
   have e4:=I.e4
   have e6:=I.e6
   have hz0:=I.h0
   have sS:=I.s0
   have sR:=I.r0
   have hx0:0 < g.nx:=by omega
   have hl:=stT_len s T
   have hsh:=stT_short s T
   have rgv:=I.ok.rg
   have rx:=I.ok.rx
   unfold stC at st
   unfold zR at hz0
   cases c2:s.short with
   | true =>
     rw[c2] at hsh
     simp (disch:=omega) only[wp,qa,qb,qc,gl,e4,e6,st,p18,hl,hsh,hz0,l5,s7]
     refine retC7 (b:=0) (ro:=false) (w:=.b false) e4 rfl (p07 ..) rfl ?_
     show frz _ (8 + 1) _ = _
     simp only[frz,frzL,roC,c2,if_true,Option.map_some]
   | false =>
     rw[c2] at hsh
     simp (disch:=omega) only[wp,qa,qb,qc,gl,e4,e6,st,p18,hl,hsh,hz0,l5,s7,p07]
     refine retC7 (b:=0) (ro:=false) (w:=.b true) e4 rfl (p07 ..) rfl ?_
     show frz _ (8 + 1) _ = _
     have hrl:(upd g.hp 0 (some (.cells [AV.sl (evsC s.evs) s.evs.length T.t0,AV.sl (pairsC s.rmw) s.rmw.length T.t1,AV.sl (pairsC s.data) s.data.length T.td,AV.sl (pairsC s.ctrl) s.ctrl.length T.tc,AV.sl [] 0 T.ti,AV.i .i64 (s.used:Int),AV.ms R 0 8] false))) R = some (.cells (intsC s.regs) false):=by rw[upd_ne _ _ (by omega)];exact rgv
     simp only[frz,frzL,roC,c2,hrl,List.drop_zero,frzL_ints,if_false,Option.map_some,Bool.false_eq_true]
end Go.Ab
end
section
set_option linter.unusedVariables false
set_option linter.unusedSimpArgs false
namespace Go.Ab
variable {F:Funs}
def rgS (l:List Int) (p:Int × Int):List Int:=if p.1 = 2 then putI l p.2 else l
def regsX (ex:List (Int × Int)):List Int:=ex.foldl rgS []
theorem foldl_take {α β:Type} {f:β→α→β} {b:β} {l:List α} {d:α} {k:Nat} (h:k < l.length):(l.take (k + 1)).foldl f b = f ((l.take k).foldl f b) (l.getD k d):=by
 rw[List.take_add_one,List.getElem?_eq_getElem h,List.getD_eq_getElem?_getD,List.getElem?_eq_getElem h,List.foldl_append];rfl
theorem slEq {cs ds:List AV} {n m:Nat} {t:Tok} (h:cs = ds) (h2:n = m):∃ w,AV.sl cs n t = AV.sl ds m w:=⟨t,by rw[h,h2]⟩
structure RgI (ex:List (Int × Int)) (i:Nat) (w:Tok) (e:Env):Prop where
 hi:i≤ex.length
 e0:e 0 = .sl (tkC ex) ex.length .non
 e3:e 3 = .sl (intsC ((ex.take i).foldl rgS [])) ((ex.take i).foldl rgS []).length w
 e4:e 4 = .i .i64 ((i:Nat):Int)
structure RgJ (ex:List (Int × Int)) (l:List Int) (v:Int) (i k:Nat) (w:Tok) (e:Env):Prop where
 hk:k≤l.length
 e0:e 0 = .sl (tkC ex) ex.length .non
 e3:e 3 = .sl (intsC l) l.length w
 e4:e 4 = .i .i64 ((i:Nat):Int)
 e5:e 5 = .i .i64 ((k:Nat):Int)
 hb:∀ j,j < k→l.getD j 0 < v
theorem regsX_len (ex:List (Int × Int)):∀ k,k≤ex.length→((ex.take k).foldl rgS []).length≤k
 | 0,_ => Nat.le_refl _
 | k + 1,h => by
   rw[foldl_take (d:=(0,0)) (by omega)]
   have ih:=regsX_len ex k (by omega)
   have h1:=putI_len (l:=(ex.take k).foldl rgS []) (v:=(ex.getD k (0,0)).2)
   generalize (ex.take k).foldl rgS [] = l at ih h1 ⊢
   unfold rgS
   split<;>omega
theorem sp_regs (h126:F 126 = some A_xref02_Regs) (ex:List (Int × Int)) (hl:ex.length≤100000):pureS F 126 [exV ex] = some (.sl (intsC (regsX ex)) (regsX ex).length .non):=by
 refine pure_of h126 ?_
 unfold exV
 simp (disch:=omega) only[A_xref02_Regs,wp,qa,qb,qc]
 refine blk_cut (fun e g => ∃ w,e 3 = .sl (intsC (regsX ex)) (regsX ex).length w) ?_ ?_
 ·refine W_loop (fun q e g => ∃ (i:Nat) (w:Tok),q = ex.length - i∧RgI ex i w e) ex.length ?_ ?_
  ·exact ⟨0,.rig,rfl,Nat.zero_le _,rfl,rfl,rfl⟩
  ·rintro q e g ⟨i,w,rfl,hi,e0,e3,e4⟩
   by_cases c0:i < ex.length
   ·have c0':((i:Nat):Int) < ((ex.length:Nat):Int):=by omega
    have hkd:=tk_k c0
    have hvd:=tk_v c0
    have hl2:=tk_l c0
    have hwi:=succ_wrap (k:=i) (by omega)
    have hll:=regsX_len ex i hi
    have hnx:=foldl_take (f:=rgS) (b:=[]) (d:=((0,0):Int × Int)) c0
    generalize ex.getD i (0,0) = p at hkd hvd hnx
    generalize (ex.take i).foldl rgS [] = l at e3 hll hnx
    have next:∀ (e':Env) (g':G),e' 0 = .sl (tkC ex) ex.length .non→(∃ w',e' 3 = .sl (intsC (rgS l p)) (rgS l p).length w')→e' 4 = .i .i64 ((i + 1:Nat):Int) →
      ∃ m',m' < ex.length - i∧∃ (i:Nat) (w:Tok),m' = ex.length - i∧RgI ex i w e':=
     fun e' g' a1 ⟨w',a2⟩ a3 => ⟨ex.length - (i + 1),by omega,i + 1,w',rfl,⟨by omega,a1,by rw[hnx];exact a2,a3⟩⟩
    by_cases c1:p.1 = 2
    ·have c1a:(p.1 != 2) = false:=by simpa using c1
     have hrg:rgS l p = putI l p.2:=if_pos c1
     rw[hrg] at next
     generalize p.2 = v at hvd next
     simp (disch:=omega) only[wp,qa,qb,qc,e0,e3,e4,c0',hkd,c1a]
     refine blk_cut (fun e g => ∃ k:Nat,RgJ ex l v i k w e∧(k < l.length→¬ l.getD k 0 < v)) ?_ ?_
     ·refine W_loop (fun q e g => ∃ k:Nat,q = l.length - k∧RgJ ex l v i k w e) l.length ?_ ?_
      ·exact ⟨0,rfl,Nat.zero_le _,e0,e3,e4,rfl,fun j hj => absurd hj (Nat.not_lt_zero j)⟩
      ·rintro q e g ⟨k,rfl,hk,e0,e3,e4,e5,hb⟩
       by_cases c2:k < l.length
       ·have c2':((k:Nat):Int) < ((l.length:Nat):Int):=by omega
        have hip:=ints_part c2
        have hw:=succ_wrap (k:=k) (by omega)
        by_cases c3:l.getD k 0 < v
        ·have hb':∀ j,j < k + 1→l.getD j 0 < v:=fun j hj => by
          by_cases hjk:j = k
          ·rw[hjk];exact c3
          ·exact hb j (by omega)
         simp (disch:=omega) only[wp,qa,qb,qc,e0,e3,e4,e5,c0',c2',hip,hvd,c3,hw]
         exact ⟨l.length - (k + 1),by omega,k + 1,rfl,⟨by omega,e0,e3,e4,rfl,hb'⟩⟩
        ·simp (disch:=omega) only[wp,qa,qb,qc,e0,e3,e4,e5,c0',c2',hip,hvd,c3]
         exact ⟨k,⟨hk,e0,e3,e4,e5,hb⟩,fun _ => c3⟩
       ·have c2':¬ ((k:Nat):Int) < ((l.length:Nat):Int):=by omega
        simp (disch:=omega) only[wp,qa,qb,qc,e0,e3,e4,e5,c2']
        exact ⟨k,⟨hk,e0,e3,e4,e5,hb⟩,fun h => absurd h c2⟩
     ·rintro e g ⟨k,⟨hk,e0,e3,e4,e5,hb⟩,hn⟩
      have fin:(k < l.length→l.getD k 0≠v)→putI l v = l.take k ++ v :: l.drop k:=fun h => putI_eq hk hb fun h1 => by have:=hn h1;have:=h h1;omega
      have hlt:(intsC (l.take k)).length = k:=by rw[intsC_len,List.length_take];omega
      have hld:(intsC (l.drop k)).length = l.length - k:=by rw[intsC_len,List.length_drop]
      have hla:(intsC (l.drop k)).take ((l.length - k) * 1) = intsC (l.drop k):=intsC_all (by rw[List.length_drop])
      have hit:(intsC l).take (k * 1) = intsC (l.take k):=intsC_take l k
      have hid:(intsC l).drop (k * 1) = intsC (l.drop k):=intsC_drop l k
      have key:(l.take k ++ v :: l.drop k).length = l.length + 1:=by simp;omega
      by_cases c2:k < l.length
      ·have c2':((k:Nat):Int) < ((l.length:Nat):Int):=by omega
       have hip:=ints_part c2
       rw[hid] at hip
       cases c3:(l.getD k 0 == v) with
       | true =>
         have h1:=putI_has (v:=v) c2 hb (by simpa using c3)
         rw[h1] at next
         simp (disch:=omega) only[wp,qa,qb,qc,e0,e3,e4,e5,c0',c2',hip,hid,hvd,c3,hwi]
         refine next _ g ?_ ?_ ?_
         ·exact e0
         ·exact ⟨w,e3⟩
         ·rfl
       | false =>
         have h1:=fin fun _ => by simpa using c3
         rw[h1] at next
         by_cases k0:k = 0
         ·subst k0
          simp (disch:=omega) only[wp,qa,qb,qc,e0,e3,e4,e5,c0',c2',hip,hvd,c3,hwi,oSlice,evoN,evoS,slTo,slFrom,hit,hid,hla,hlt,hld]
          refine next _ g ?_ ?_ ?_
          ·exact e0
          ·exact slEq (by simp[intsC]) (by rw[key];omega)
          ·rfl
         ·simp (disch:=omega) only[wp,qa,qb,qc,e0,e3,e4,e5,c0',c2',hip,hvd,c3,hwi,oSlice,evoN,evoS,slTo,slFrom,hit,hid,hla,hlt,hld]
          refine next _ g ?_ ?_ ?_
          ·exact e0
          ·exact slEq (by simp[intsC]) (by rw[key];omega)
          ·rfl
      ·have c2':¬ ((k:Nat):Int) < ((l.length:Nat):Int):=by omega
       have h1:=fin fun h => absurd h c2
       rw[h1] at next
       by_cases k0:k = 0
       ·subst k0
        simp (disch:=omega) only[wp,qa,qb,qc,e0,e3,e4,e5,c0',c2',hvd,hwi,oSlice,evoN,evoS,slTo,slFrom,hit,hid,hla,hlt,hld]
        refine next _ g ?_ ?_ ?_
        ·exact e0
        ·exact slEq (by simp[intsC]) (by rw[key];omega)
        ·rfl
       ·simp (disch:=omega) only[wp,qa,qb,qc,e0,e3,e4,e5,c0',c2',hvd,hwi,oSlice,evoN,evoS,slTo,slFrom,hit,hid,hla,hlt,hld]
        refine next _ g ?_ ?_ ?_
        ·exact e0
        ·exact slEq (by simp[intsC]) (by rw[key];omega)
        ·rfl
    ·have c1a:(p.1 != 2) = true:=by simpa using c1
     have hrg:rgS l p = l:=if_neg c1
     rw[hrg] at next
     simp (disch:=omega) only[wp,qa,qb,qc,e0,e3,e4,c0',hkd,c1a,hwi]
     refine next _ g ?_ ?_ ?_
     ·exact e0
     ·exact ⟨w,e3⟩
     ·rfl
   ·have c0':¬ ((i:Nat):Int) < ((ex.length:Nat):Int):=by omega
    obtain rfl:i = ex.length:=by omega
    rw[List.take_length] at e3
    simp (disch:=omega) only[wp,qa,qb,qc,e0,e3,e4,c0']
    exact ⟨w,rfl⟩
 ·rintro e g ⟨w,e3⟩
  simp (disch:=omega) only[wp,qa,qb,qc,e3]
theorem exOk_regs {ex:List (Int × Int)} (h:ExOk ex):intsC (regsX ex) = natC (exR ex)∧(regsX ex).length = (exR ex).length∧(∀ r∈exR ex,r < 8)∧(exR ex).length≤8∧ex.length≤3:=by
 obtain ⟨a,b,m,a0,a3,b0,b3,m0,m3,rfl⟩:=h
 have ha:(a.toNat:Int) = a:=Int.toNat_of_nonneg a0
 unfold exM
 split
 ·simp[regsX,rgS,exR,intsC,natC]
 split
 ·simp[regsX,rgS,exR,intsC,natC,putI,ha];omega
 split
 ·simp[regsX,rgS,exR,intsC,natC,putI,ha];omega
 split
 ·simp[regsX,rgS,exR,intsC,natC,putI,ha];omega
 split
 ·simp[regsX,rgS,exR,intsC,natC,putI,ha];omega
 ·simp[regsX,rgS,exR,intsC,natC]
structure ExF (F:Funs):Prop where
 check:F 109 = some A_xref02_Check
 word:F 125 = some A_xref02_word
 eval:F 115 = some A_xref02_Eval
 do_:F 128 = some A_xref02_Do
 regs:F 126 = some A_xref02_Regs
theorem vok (E:ExF F):VOk F evX:=by
 intro ex regs hex h8
 obtain ⟨r1,r2,r3,r4,r5⟩:=exOk_regs hex
 refine ⟨?_,?_,r3,r4⟩
 ·have:=sp_eval E.eval E.check E.word E.do_ ex regs (by omega) (by omega)
  rw[h8] at this
  exact this
 ·have:=sp_regs E.regs ex (by omega)
  rw[r1,r2] at this
  exact this
end Go.Ab
end
section
set_option linter.unusedVariables false
set_option linter.unusedSimpArgs false
namespace Go.Ab
variable {F:Funs}
theorem o_ldQ {c:CS} {al:Nat→Bool} {lo id:Nat} {e:Env} {g:G} (agg x t):opE c al lo id (.ldQ agg x t) e g = vLdQ al agg (x.ev e) (e t) g:=rfl
theorem vLdQ_S {al:Nat→Bool} {agg:Option Nat} {b off o:Nat} {g:G}:vLdQ al agg (.mp b off) (.mp b o) g = ldS agg off g (selB (al b) (g.hp b)):=by
 have h:(ids1 (.mp b o)).contains b = true:=by simp[ids1]
 simp only[vLdQ,h,if_true,rd_S]
 cases selB (al b) (g.hp b) with
 | none => rfl
 | some bl => cases bl<;>rfl
theorem o_stN {c:CS} {al:Nat→Bool} {lo id:Nat} {e:Env} {g:G} (n a x ts):opE c al lo id (.stN n a x ts) e g = vStN al n (a.ev e) (x.ev e) (ts.map e) g:=rfl
theorem vStN_1 {al:Nat→Bool} {n b off q o:Nat} {x:AV} {g:G} (h:b≠q):vStN al n (.mp b off) x [.mp q o] g = vSt al n (.mp b off) x g:=if_pos (by simp[ids1,h])
theorem sp_exSelf (h127:F 127 = some A_xref02_Same) (ex:List (Int × Int)) (hl:ex.length≤1000000):pureS F 127 [exV ex,exV ex] = some (.b true):=by
 refine pure_of h127 ?_
 unfold exV
 have c0:(((ex.length:Nat):Int) != ((ex.length:Nat):Int)) = false:=by simp
 simp (disch:=omega) only[A_xref02_Same,wp,qa,qb,qc,c0]
 refine blk_cut (fun e g => True) ?_ ?_
 ·refine W_loop (fun q e g => ∃ k:Nat,q = ex.length - k∧k≤ex.length∧e 0 = .sl (tkC ex) ex.length .non∧e 1 = .sl (tkC ex) ex.length .non∧e 5 = .i .i64 ((k:Nat):Int)) ex.length ?_ ?_
  ·refine ⟨0,rfl,Nat.zero_le _,?_⟩
   simp (disch:=omega) only[wp,qa,qb,qc]
   trivial
  ·rintro q e g ⟨k,rfl,hk,e0,e1,e5⟩
   by_cases c1:k < ex.length
   ·have c1':((k:Nat):Int) < ((ex.length:Nat):Int):=by omega
    have hkd:=tk_k c1
    have hvd:=tk_v c1
    have hl2:=tk_l c1
    have hw:=succ_wrap (k:=k) (by omega)
    have c2:((ex.getD k (0,0)).1 != (ex.getD k (0,0)).1) = false:=by simp
    have c3:((ex.getD k (0,0)).2 != (ex.getD k (0,0)).2) = false:=by simp
    simp (disch:=omega) only[wp,qa,qb,qc,e0,e1,e5,c1',hkd,hvd,c2,c3,hw]
    exact ⟨ex.length - (k + 1),by omega,k + 1,rfl,by omega,rfl⟩
   ·have c1':¬ ((k:Nat):Int) < ((ex.length:Nat):Int):=by omega
    simp (disch:=omega) only[wp,qa,qb,qc,e0,e1,e5,c1']
 ·rintro e g -
  simp (disch:=omega) only[wp,qa,qb,qc]
theorem i7_0 (a0 a1 a2 a3 a4 a5 a6:AV):part [a0,a1,a2,a3,a4,a5,a6] 0 (some 7) = some (.agg [a0,a1,a2,a3,a4,a5,a6]):=rfl
theorem i7_6 (a0 a1 a2 a3 a4 a5 a6:AV):part [a0,a1,a2,a3,a4,a5,a6] 6 none = some a6:=rfl
theorem sp7 (b0 b1 b2 b3 b4 b5 b6 c0 c1 c2 c3 c4 c5 c6:AV):splice [b0,b1,b2,b3,b4,b5,b6] 0 [c0,c1,c2,c3,c4,c5,c6] = [c0,c1,c2,c3,c4,c5,c6]:=rfl
theorem z7:List.replicate 5 (AV.i .i64 0) ++ [.sl [] 0 .rig,.i .i64 0] = [.i .i64 0,.i .i64 0,.i .i64 0,.i .i64 0,.i .i64 0,.sl [] 0 .rig,.i .i64 0]:=rfl
theorem sp_insSelf (h111:F 111 = some A_xref03_SameInstr) (h127:F 127 = some A_xref02_Same) (x:Ins) (hl:x.ex.length≤1000000):pureS F 111 [.agg (insC x),.agg (insC x)] = some (.b true):=by
 refine pure_of h111 ?_
 have hs:=sp_exSelf h127 x.ex hl
 unfold exV at hs
 unfold insC exV
 simp (disch:=omega) only[A_xref03_SameInstr,wp,qa,qb,qc,gl,i7_6,hs]
theorem exM_chk {a b m:Int} (h0:0≤a) (h1:a < 3) (h2:0≤b) (h3:b < 3):chkX (exM a b m) = true∧(exM a b m).length≤3:=by
 have hr:wdB (2,a) = true:=by unfold wdB;simp;omega
 have hc:wdB (1,b) = true:=by unfold wdB;simp;omega
 have w4:wdB (3,4) = true:=rfl
 have w5:wdB (3,5) = true:=rfl
 have w6:wdB (3,6) = true:=rfl
 have w3:wdB (3,3) = true:=rfl
 have w1:wdB (1,1) = true:=rfl
 unfold exM
 split
 ·exact ⟨by unfold chkX;simp[chkG,hc],by simp⟩
 split
 ·exact ⟨by unfold chkX;simp[chkG,hr],by simp⟩
 split
 ·exact ⟨by unfold chkX;simp[chkG,hr,w4],by simp⟩
 split
 ·exact ⟨by unfold chkX;simp[chkG,hr,hc,w5],by simp⟩
 split
 ·exact ⟨by unfold chkX;simp[chkG,hr,hc,w6],by simp⟩
 ·exact ⟨by unfold chkX;simp[chkG,hc,w1,w3],by simp⟩
theorem ExOk.chk {ex:List (Int × Int)} (h:ExOk ex):chkX ex = true∧ex.length≤3:=by
 obtain ⟨a,b,m,a0,a3,b0,b3,m0,m3,rfl⟩:=h
 exact exM_chk a0 a3 b0 b3
structure ChF (F:Funs):Prop where
 ex:ExF F
 same:F 127 = some A_xref02_Same
 sins:F 111 = some A_xref03_SameInstr
 ins:F 98 = some A_xref04_Instr
 uses:F 110 = some A_xref04_Uses
 events:F 99 = some A_xref04_Events
 paths:F 100 = some A_xref04_Paths
 chk:F 87 = some A_xref04_Check
theorem sp_uses0 (A:ChF F) {ex:List (Int × Int)} {r:Int} (h:regsX ex = []) (hl:ex.length≤1000):pureS F 110 [exV ex,.i .i64 r] = some (.b false):=by
 refine pure_of A.uses ?_
 have hr:=sp_regs A.ex.regs ex (by omega)
 rw[h] at hr
 unfold exV at hr ⊢
 have c1:¬ (0:Int) < ((0:Nat):Int):=by omega
 simp (disch:=omega) only[A_xref04_Uses,wp,qa,qb,qc,hr,intsC,List.map_nil]
 refine blk_cut (fun e g => True) ?_ ?_
 ·refine W_loop (fun q e g => e 5 = .sl [] 0 .non∧e 6 = .i .i64 0) 0 ?_ ?_
  ·simp (disch:=omega) only[wp,qa,qb,qc]
  ·rintro q e g ⟨e5,e6⟩
   simp (disch:=omega) only[wp,qa,qb,qc,e5,e6,c1]
 ·rintro e g -
  simp (disch:=omega) only[wp,qa,qb,qc]
theorem sp_uses1 (A:ChF F) {c r:Int}:pureS F 110 [exV [(1,c)],.i .i64 r] = some (.b false):=sp_uses0 A rfl (by simp)
theorem sp4_ld (A:ChF F) {left md rg lc:Int} (h1:md = 0∨md = 1) (h2:rg = 0∨rg = 1∨rg = 2) (h3:lc = 0∨lc = 1):pureS F 98 [.agg (insC ⟨1,md,0,rg,lc,[],0⟩),.i .i64 2,.i .i64 left] = some (.b true):=by
 refine pure_of A.ins ?_
 have hck:=sp_exCheck A.ex.check A.ex.word [] (by simp)
 have hself:=sp_insSelf A.sins A.same ⟨1,md,0,rg,lc,[],0⟩ (by simp)
 rw[show chkX [] = false from rfl] at hck
 unfold insC exV at hself
 unfold exV at hck
 simp only[tkC,List.flatMap_nil,List.length_nil] at hck hself
 have a1:0≤rg:=by omega
 have a2:rg < 8:=by omega
 have a3:0≤lc:=by omega
 have a4:lc < 2:=by omega
 unfold insC exV
 simp only[tkC,List.flatMap_nil,List.length_nil]
 rcases h1 with rfl | rfl<;>simp (disch:=omega) only[A_xref04_Instr,wp,qa,qb,qc,gl,i7_6,i7_0,sp7,z7,frz_ag7,hck,hself,a1,a2,a3,a4,o_ldQ,vLdQ_S,o_stN,vStN_1,Int.reduceBEq,allow_lt]
theorem sp4_st (A:ChF F) {left md lc:Int} {ex:List (Int × Int)} (h1:md = 0∨md = 2) (h3:lc = 0∨lc = 1) (he:ExOk ex):pureS F 98 [.agg (insC ⟨2,md,0,0,lc,ex,0⟩),.i .i64 2,.i .i64 left] = some (.b true):=by
 refine pure_of A.ins ?_
 obtain ⟨hx,hl⟩:=he.chk
 have hck:=sp_exCheck A.ex.check A.ex.word ex (by omega)
 have hself:=sp_insSelf A.sins A.same ⟨2,md,0,0,lc,ex,0⟩ (by dsimp only;omega)
 rw[hx] at hck
 unfold insC exV at hself
 unfold exV at hck
 have a3:0≤lc:=by omega
 have a4:lc < 2:=by omega
 have z0:(0:Int)≤0:=by omega
 have z8:(0:Int) < 8:=by omega
 unfold insC exV
 rcases h1 with rfl | rfl<;>simp (disch:=omega) only[A_xref04_Instr,wp,qa,qb,qc,gl,i7_6,i7_0,sp7,z7,frz_ag7,hck,hself,a3,a4,z0,z8,o_ldQ,vLdQ_S,o_stN,vStN_1,Int.reduceBEq,allow_lt]
theorem sp4_fe (A:ChF F) {left md:Int} (h1:md = 1∨md = 2∨md = 3∨md = 4):pureS F 98 [.agg (insC ⟨3,md,0,0,0,[],0⟩),.i .i64 2,.i .i64 left] = some (.b true):=by
 refine pure_of A.ins ?_
 have hck:=sp_exCheck A.ex.check A.ex.word [] (by simp)
 have hself:=sp_insSelf A.sins A.same ⟨3,md,0,0,0,[],0⟩ (by simp)
 rw[show chkX [] = false from rfl] at hck
 unfold insC exV at hself
 unfold exV at hck
 simp only[tkC,List.flatMap_nil,List.length_nil] at hck hself
 have a1:1≤md:=by omega
 have a2:md≤4:=by omega
 have z0:(0:Int)≤0:=by omega
 have z8:(0:Int) < 8:=by omega
 have z2:(0:Int) < 2:=by omega
 unfold insC exV
 simp only[tkC,List.flatMap_nil,List.length_nil]
 simp (disch:=omega) only[A_xref04_Instr,wp,qa,qb,qc,gl,i7_6,i7_0,sp7,z7,frz_ag7,hck,hself,a1,a2,z0,z8,z2,o_ldQ,vLdQ_S,o_stN,vStN_1,Int.reduceBEq,allow_lt]
theorem sp4_fa (A:ChF F) {left md md2 rg lc c:Int} (h1:md = 0∨md = 1) (h4:md2 = 0∨md2 = 2) (h2:rg = 0∨rg = 1∨rg = 2) (h3:lc = 0∨lc = 1) (h5:c = 0∨c = 1):pureS F 98 [.agg (insC ⟨4,md,md2,rg,lc,[(1,c)],0⟩),.i .i64 2,.i .i64 left] = some (.b true):=by
 refine pure_of A.ins ?_
 have hck:=sp_exCheck A.ex.check A.ex.word [(1,c)] (by simp)
 have hself:=sp_insSelf A.sins A.same ⟨4,md,md2,rg,lc,[(1,c)],0⟩ (by simp)
 have hus:=sp_uses1 A (c:=c) (r:=rg)
 rw[show chkX [(1,c)] = true by rcases h5 with rfl | rfl<;>rfl] at hck
 unfold insC exV at hself
 unfold exV at hck hus
 have a1:0≤rg:=by omega
 have a2:rg < 8:=by omega
 have a3:0≤lc:=by omega
 have a4:lc < 2:=by omega
 have a5:(([(1,c)]:List (Int × Int)).length:Int)≤7:=by simp
 unfold insC exV
 generalize ([(1,c)]:List (Int × Int)) = ex at hck hself hus a5
 rcases h1 with rfl | rfl<;>rcases h4 with rfl | rfl<;>simp (disch:=omega) only[A_xref04_Instr,wp,qa,qb,qc,gl,i7_6,i7_0,sp7,z7,frz_ag7,hck,hself,hus,a1,a2,a3,a4,a5,o_ldQ,vLdQ_S,o_stN,vStN_1,Int.reduceBEq,allow_lt]
theorem sp4_se (A:ChF F) {left rg:Int} {ex:List (Int × Int)} (h2:rg = 0∨rg = 1∨rg = 2) (he:ExOk ex):pureS F 98 [.agg (insC ⟨5,0,0,rg,0,ex,0⟩),.i .i64 2,.i .i64 left] = some (.b true):=by
 refine pure_of A.ins ?_
 obtain ⟨hx,hl⟩:=he.chk
 have hck:=sp_exCheck A.ex.check A.ex.word ex (by omega)
 have hself:=sp_insSelf A.sins A.same ⟨5,0,0,rg,0,ex,0⟩ (by dsimp only;omega)
 rw[hx] at hck
 unfold insC exV at hself
 unfold exV at hck
 have a1:0≤rg:=by omega
 have a2:rg < 8:=by omega
 have z0:(0:Int)≤0:=by omega
 have z2:(0:Int) < 2:=by omega
 unfold insC exV
 simp (disch:=omega) only[A_xref04_Instr,wp,qa,qb,qc,gl,i7_6,i7_0,sp7,z7,frz_ag7,hck,hself,a1,a2,z0,z2,o_ldQ,vLdQ_S,o_stN,vStN_1,Int.reduceBEq,allow_lt]
theorem sp4_sk (A:ChF F) {left n:Int} {ex:List (Int × Int)} (he:ExOk ex) (h0:0≤n) (h1:n≤left):pureS F 98 [.agg (insC ⟨6,0,0,0,0,ex,n⟩),.i .i64 2,.i .i64 left] = some (.b true):=by
 refine pure_of A.ins ?_
 obtain ⟨hx,hl⟩:=he.chk
 have hck:=sp_exCheck A.ex.check A.ex.word ex (by omega)
 have hself:=sp_insSelf A.sins A.same ⟨6,0,0,0,0,ex,n⟩ (by dsimp only;omega)
 rw[hx] at hck
 unfold insC exV at hself
 unfold exV at hck
 have z0:(0:Int)≤0:=by omega
 have z8:(0:Int) < 8:=by omega
 have z2:(0:Int) < 2:=by omega
 unfold insC exV
 simp (disch:=omega) only[A_xref04_Instr,wp,qa,qb,qc,gl,i7_6,i7_0,sp7,z7,frz_ag7,hck,hself,h0,h1,z0,z8,z2,o_ldQ,vLdQ_S,o_stN,vStN_1,Int.reduceBEq,allow_lt]
theorem sp4_instr (A:ChF F) {left:Int} {x:Ins} (h:InsK left x):pureS F 98 [.agg (insC x),.i .i64 2,.i .i64 left] = some (.b true):=by
 cases h with
 | ld md rg lc h1 h2 h3 => exact sp4_ld A h1 h2 h3
 | st md lc ex h1 h3 he => exact sp4_st A h1 h3 he
 | fe md h1 => exact sp4_fe A h1
 | fa md md2 rg lc c h1 h4 h2 h3 h5 => exact sp4_fa A h1 h4 h2 h3 h5
 | se rg ex h2 he => exact sp4_se A h2 he
 | sk ex n he h0 h1 => exact sp4_sk A he h0 h1
end Go.Ab
end
section
set_option linter.unusedVariables false
set_option linter.unusedSimpArgs false
namespace Go.Ab
variable {F:Funs}
theorem ins_kd {l:List Ins} {k:Nat} (h:k < l.length):part ((insLC l).drop (k * 7)) 0 none = some (.i .i64 (l.getD k fence0).kd):=by
 rw[insLC_drop h];rfl
theorem ins_ln {l:List Ins} {k:Nat} (h:k < l.length):7≤((insLC l).drop (k * 7)).length:=by
 rw[insLC_drop h,List.length_append,insC_len];omega
structure EtI (th:List Ins) (k n:Nat) (e:Env):Prop where
 hk:k≤th.length
 hn:n≤2 * k
 e0:e 0 = .sl (insLC th) th.length .non
 e3:e 3 = .i .i64 ((n:Nat):Int)
 e4:e 4 = .i .i64 ((k:Nat):Int)
theorem sp4_events (A:ChF F) (th:List Ins) (hl:th.length≤1000000):∃ n:Nat,n≤2 * th.length∧pureS F 99 [.sl (insLC th) th.length .non] = some (.i .i64 ((n:Nat):Int)):=by
 have key:∃ v,pureS F 99 [.sl (insLC th) th.length .non] = some v∧∃ n:Nat,n≤2 * th.length∧v = .i .i64 ((n:Nat):Int):=by
  refine pureV_of A.events ?_
  simp (disch:=omega) only[A_xref04_Events,wp,qa,qb,qc]
  refine blk_cut (fun e g => ∃ n:Nat,n≤2 * th.length∧e 3 = .i .i64 ((n:Nat):Int)) ?_ ?_
  ·refine W_loop (fun q e g => ∃ k n:Nat,q = th.length - k∧EtI th k n e) th.length ?_ ?_
   ·exact ⟨0,0,rfl,Nat.zero_le _,Nat.le_refl _,rfl,rfl,rfl⟩
   ·rintro q e g ⟨k,n,rfl,hk,hn,e0,e3,e4⟩
    by_cases c1:k < th.length
    ·have c1':((k:Nat):Int) < ((th.length:Nat):Int):=by omega
     have hkd:=ins_kd c1
     have hln:=ins_ln c1
     have hw:=succ_wrap (k:=k) (by omega)
     have hw1:=succ_wrap (k:=n) (by omega)
     have hw2:IntKind.i64.wrap (((n:Nat):Int) + 2) = ((n + 2:Nat):Int):=by rw[i64_wrap (by omega) (by omega)];omega
     generalize (th.getD k fence0).kd = kd at hkd
     have next:∀ (m:Nat) (e':Env),n≤m→m≤n + 2→e' 0 = .sl (insLC th) th.length .non→e' 3 = .i .i64 ((m:Nat):Int)→e' 4 = .i .i64 ((k + 1:Nat):Int)→∃ m',m' < th.length - k∧∃ k n:Nat,m' = th.length - k∧EtI th k n e':=
      fun m e' b1 b2 a1 a2 a3 => ⟨th.length - (k + 1),by omega,k + 1,m,rfl,by omega,by omega,a1,a2,a3⟩
     cases k1:(kd == 1) with
     | true =>
       simp (disch:=omega) only[wp,qa,qb,qc,e0,e3,e4,c1',hkd,k1,hw,hw1]
       exact next (n + 1) _ (by omega) (by omega) e0 rfl rfl
     | false =>
       cases k2:(kd == 2) with
       | true =>
         simp (disch:=omega) only[wp,qa,qb,qc,e0,e3,e4,c1',hkd,k1,k2,hw,hw1]
         exact next (n + 1) _ (by omega) (by omega) e0 rfl rfl
       | false =>
         cases k3:(kd == 3) with
         | true =>
           simp (disch:=omega) only[wp,qa,qb,qc,e0,e3,e4,c1',hkd,k1,k2,k3,hw,hw1]
           exact next (n + 1) _ (by omega) (by omega) e0 rfl rfl
         | false =>
           cases k4:(kd == 4) with
           | true =>
             simp (disch:=omega) only[wp,qa,qb,qc,e0,e3,e4,c1',hkd,k1,k2,k3,k4,hw,hw2]
             exact next (n + 2) _ (by omega) (by omega) e0 rfl rfl
           | false =>
             simp (disch:=omega) only[wp,qa,qb,qc,e0,e3,e4,c1',hkd,k1,k2,k3,k4,hw]
             exact next n _ (by omega) (by omega) e0 e3 rfl
    ·have c1':¬ ((k:Nat):Int) < ((th.length:Nat):Int):=by omega
     simp (disch:=omega) only[wp,qa,qb,qc,e0,e3,e4,c1']
     exact ⟨n,by omega,rfl⟩
  ·rintro e g ⟨n,hn,e3⟩
   simp (disch:=omega) only[wp,qa,qb,qc,e3]
   refine ⟨.i .i64 ((n:Nat):Int),?_,n,hn,rfl⟩
   simp (disch:=omega) only[wp,qa,qb,qc]
 obtain ⟨v,h1,n,h2,rfl⟩:=key
 exact ⟨n,h2,h1⟩
structure PtI (th:List Ins) (k:Nat) (e:Env):Prop where
 hk:k≤th.length
 e0:e 0 = .sl (insLC th) th.length .non
 e3:e 3 = .i .i64 ((2 ^ skips (th.take k):Nat):Int)
 e4:e 4 = .i .i64 ((k:Nat):Int)
theorem sp4_paths (A:ChF F) (th:List Ins) (hl:th.length≤1000000) (hs:skips th≤2):pureS F 100 [.sl (insLC th) th.length .non] = some (.i .i64 ((2 ^ skips th:Nat):Int)):=by
 refine pure_of A.paths ?_
 simp (disch:=omega) only[A_xref04_Paths,wp,qa,qb,qc]
 refine blk_cut (fun e g => e 3 = .i .i64 ((2 ^ skips th:Nat):Int)) ?_ ?_
 ·refine W_loop (fun q e g => ∃ k:Nat,q = th.length - k∧PtI th k e) th.length ?_ ?_
  ·exact ⟨0,rfl,Nat.zero_le _,rfl,rfl,rfl⟩
  ·rintro q e g ⟨k,rfl,hk,e0,e3,e4⟩
   by_cases c1:k < th.length
   ·have c1':((k:Nat):Int) < ((th.length:Nat):Int):=by omega
    have hkd:=ins_kd c1
    have hln:=ins_ln c1
    have hw:=succ_wrap (k:=k) (by omega)
    have hst:=skips_take c1
    have hsl:=skips_le th (k + 1)
    generalize (th.getD k fence0).kd = kd at hkd hst
    generalize skips (th.take k) = s at e3 hst
    cases k6:(kd == 6) with
    | true =>
      rw[if_pos (by simpa using k6)] at hst
      have hs2:s≤1:=by omega
      have hw2:IntKind.i64.wrap (2 * ((2 ^ s:Nat):Int)) = ((2 ^ (s + 1):Nat):Int):=by
       have:s = 0∨s = 1:=by omega
       rcases this with rfl | rfl<;>rfl
      have hlt:¬ ((1000000:Int) < ((2 ^ (s + 1):Nat):Int)):=by
       have:s = 0∨s = 1:=by omega
       rcases this with rfl | rfl<;>decide
      simp (disch:=omega) only[wp,qa,qb,qc,e0,e3,e4,c1',hkd,k6,hw,hw2,hlt,if_false]
      exact ⟨th.length - (k + 1),by omega,k + 1,rfl,by omega,e0,by rw[hst];rfl,rfl⟩
    | false =>
      rw[if_neg (by simpa using k6)] at hst
      simp (disch:=omega) only[wp,qa,qb,qc,e0,e3,e4,c1',hkd,k6,hw]
      exact ⟨th.length - (k + 1),by omega,k + 1,rfl,by omega,e0,by rw[hst];exact e3,rfl⟩
   ·have c1':¬ ((k:Nat):Int) < ((th.length:Nat):Int):=by omega
    obtain rfl:k = th.length:=by omega
    rw[List.take_length] at e3
    simp (disch:=omega) only[wp,qa,qb,qc,e0,e3,e4,c1']
 ·rintro e g e3
  simp (disch:=omega) only[wp,qa,qb,qc,e3]
structure PgK (ths:List (List Ins)) (L:Nat):Prop where
 one:1≤ths.length
 four:ths.length≤4
 len:∀ i,i < ths.length→(ths.getD i []).length≤L
 th:∀ i,i < ths.length→ThK (ths.getD i [])
 big:2 + 2 * L * ths.length≤40
structure CkI (ths:List (List Ins)) (L i n:Nat) (e:Env) (g:G):Prop where
 hi:i≤ths.length
 hn:n≤2 + 2 * L * i
 e1:e 1 = .mp 0 0
 e3:e 3 = .i .i64 ((n:Nat):Int)
 e4:e 4 = .b false
 e5:e 5 = .i .i64 ((i:Nat):Int)
 h0:g.hp 0 = some (.cells [.i .i64 2,.sl (thsC ths) ths.length .non] false)
 nx:0 < g.nx
structure CkJ (ths:List (List Ins)) (L i n k:Nat) (th:List Ins) (e:Env) (g:G):Prop where
 hk:k≤th.length
 e1:e 1 = .mp 0 0
 e3:e 3 = .i .i64 ((n:Nat):Int)
 e4:e 4 = .b false
 e5:e 5 = .i .i64 ((i:Nat):Int)
 e6:e 6 = .sl (insLC th) th.length .non
 e7:e 7 = .i .i64 ((k:Nat):Int)
 h0:g.hp 0 = some (.cells [.i .i64 2,.sl (thsC ths) ths.length .non] false)
 nx:0 < g.nx
theorem sp4_check (A:ChF F) {ths:List (List Ins)} {L:Nat} (P:PgK ths L):pureS F 87 [.agg [.i .i64 2,.sl (thsC ths) ths.length .non]] = some (.i .i64 0):=by
 refine pure_of A.chk ?_
 have h1:=P.one
 have h4:=P.four
 have hbig:=P.big
 have c1:¬ (2:Int) < 1:=by omega
 have c2:¬ (4:Int) < 2:=by omega
 have c3:(((ths.length:Nat):Int) == 0) = false:=by rw[beq_eq_false_iff_ne];omega
 have c4:¬ (4:Int) < ((ths.length:Nat):Int):=by omega
 simp (disch:=omega) only[A_xref04_Check,wp,qa,qb,qc,gl,c1,c2,c3,c4,allow_lt]
 refine blk_cut (fun e g => ∃ n:Nat,CkI ths L ths.length n e g) ?_ ?_
 ·refine W_loop (fun q e g => ∃ i n:Nat,q = ths.length - i∧CkI ths L i n e g) ths.length ?_ ?_
  ·exact ⟨0,2,rfl,Nat.zero_le _,by omega,rfl,rfl,rfl,rfl,rfl,by first | omega | (dsimp only;omega)⟩
  ·rintro q e g ⟨i,n,rfl,hi,hn,e1,e3,e4,e5,h0,hx⟩
   by_cases d1:i < ths.length
   ·have d1':((i:Nat):Int) < ((ths.length:Nat):Int):=by omega
    have hth:=th_at d1
    have hwi:=succ_wrap (k:=i) (by omega)
    have hK:=P.th i d1
    have hL:=P.len i d1
    generalize ths.getD i [] = th at hth hK hL
    have hlen:=hK.len
    simp (disch:=omega) only[wp,qa,qb,qc,gl,e1,e3,e4,e5,h0,d1',hth]
    refine blk_cut (fun e g => CkJ ths L i n th.length th e g) ?_ ?_
    ·refine W_loop (fun q e g => ∃ k:Nat,q = th.length - k∧CkJ ths L i n k th e g) th.length ?_ ?_
     ·exact ⟨0,rfl,Nat.zero_le _,e1,e3,e4,e5,rfl,rfl,h0,by first | omega | (dsimp only;omega)⟩
     ·rintro q e g ⟨k,rfl,hk,e1,e3,e4,e5,e6,e7,h0,hx⟩
      by_cases d2:k < th.length
      ·have d2':((k:Nat):Int) < ((th.length:Nat):Int):=by omega
       have hins:=ins_at d2
       have hln:=ins_ln d2
       have hw:=succ_wrap (k:=k) (by omega)
       have hw1:IntKind.i64.wrap (((th.length:Nat):Int) - 1) = ((th.length - 1:Nat):Int):=by rw[i64_wrap (by omega) (by omega)];omega
       have hw2:IntKind.i64.wrap (((th.length - 1:Nat):Int) - ((k:Nat):Int)) = ((th.length - 1 - k:Nat):Int):=by rw[i64_wrap (by omega) (by omega)];omega
       have hsp:=sp4_instr A (hK.ins k d2)
       generalize th.getD k fence0 = x at hins hsp
       unfold insC exV at hins hsp
       simp (disch:=omega) only[wp,qa,qb,qc,gl,e1,e3,e4,e5,e6,e7,h0,d2',hins,hw,hw1,hw2,hsp,frz_ag7,allow_lt]
       exact ⟨th.length - (k + 1),by omega,k + 1,rfl,by omega,e1,e3,e4,e5,e6,rfl,h0,by first | omega | (dsimp only;omega)⟩
      ·have d2':¬ ((k:Nat):Int) < ((th.length:Nat):Int):=by omega
       obtain rfl:k = th.length:=by omega
       simp (disch:=omega) only[wp,qa,qb,qc,e1,e3,e4,e5,e6,e7,d2']
       exact ⟨Nat.le_refl _,e1,e3,e4,e5,e6,e7,h0,by first | omega | (dsimp only;omega)⟩
    ·rintro e g ⟨hk,e1,e3,e4,e5,e6,e7,h0,hx⟩
     obtain ⟨m,hm,hev⟩:=sp4_events A th (by omega)
     have hpa:=sp4_paths A th (by omega) hK.sk
     have hsk:=hK.sk
     have hp4:¬ ((64:Int) < ((2 ^ skips th:Nat):Int)):=by
      have:skips th = 0∨skips th = 1∨skips th = 2:=by omega
      rcases this with h | h | h<;>rw[h]<;>decide
     have hl12:¬ (12:Int) < ((th.length:Nat):Int):=by omega
     have hmul:2 * L * (i + 1) = 2 * L * i + 2 * L:=by rw[Nat.mul_add,Nat.mul_one]
     have hmi:2 * L * i≤2 * L * ths.length:=Nat.mul_le_mul_left _ hi
     have hwn:IntKind.i64.wrap (((n:Nat):Int) + ((m:Nat):Int)) = ((n + m:Nat):Int):=by rw[i64_wrap (by omega) (by omega)];omega
     simp (disch:=omega) only[wp,qa,qb,qc,gl,e1,e3,e4,e5,e6,h0,hev,hpa,hp4,hl12,hwn,hwi]
     exact ⟨ths.length - (i + 1),by omega,i + 1,n + m,rfl,by omega,by omega,e1,rfl,rfl,rfl,h0,by first | omega | (dsimp only;omega)⟩
   ·have d1':¬ ((i:Nat):Int) < ((ths.length:Nat):Int):=by omega
    obtain rfl:i = ths.length:=by omega
    simp (disch:=omega) only[wp,qa,qb,qc,gl,e1,e3,e4,e5,h0,d1']
    exact ⟨n,Nat.le_refl _,hn,e1,e3,e4,e5,h0,by first | omega | (dsimp only;omega)⟩
 ·rintro e g ⟨n,hi,hn,e1,e3,e4,e5,h0,hx⟩
  have c40:¬ (40:Int) < ((n:Nat):Int):=by omega
  simp (disch:=omega) only[wp,qa,qb,qc,gl,e1,e3,e4,c40]
end Go.Ab
end
section
set_option linter.unusedVariables false
set_option linter.unusedSimpArgs false
namespace Go.Ab
variable {F:Funs}
def TkOk (esz:Nat) (g:G) (t:Tok):Prop:=t = .rig∨∃ i,t = .own i esz∧g.hp i = some (.tok true)∧i < g.nx
def TkNe (t u:Tok):Prop:=∀ i e f,t = .own i e→u≠.own i f
theorem TkNe.rig_l {u:Tok}:TkNe .rig u:=fun _ _ _ h => by cases h
theorem TkNe.rig_r {u:Tok}:TkNe u .rig:=fun _ _ _ _ h => by cases h
theorem TkNe.symm {t u:Tok} (h:TkNe t u):TkNe u t:=fun i e f h1 h2 => h i f e h2 h1
structure AppR (esz id:Nat) (t t':Tok) (g:G) (hp':Nat→Option Blk):Prop where
 tok:t' = .rig∨(t' = .own id esz∧hp' id = some (.tok true))
 keep:∀ i,i≠id→(∀ e,t≠.own i e)→hp' i = g.hp i
theorem bindO_app1 {d:Bool} {b j:Nat} {dst:Option Nat} {os:List AOper} {e:Env} {K:Env→G→Prop} {al:Nat→Bool} {id esz bytes n m:Nat} {cs ds:List AV} {t t2:Tok} {g:G}
  (ht:TkOk esz g t) (hal:∀ i,t = .own i esz→al i = true) (hc:bytes≤1000∧n + m≤1000000∧cs.length = n * esz∧ds.length = m * esz)
  (hk:∀ t' hp',AppR esz id t t' g hp'→(0 < m→t' = .own id esz∧hp' id = some (.tok true))→WR F d b j os (put e dst (.sl (cs ++ ds) (n + m) t')) ⟨hp',g.nx⟩ K):bindO F d b j dst os e K (vApp al id esz bytes (.sl cs n t) (.sl ds m t2) g):=by
 obtain ⟨h1,h2,h3,h4⟩:=hc
 have h5:(n + m) * bytes≤2 ^ 46:=Nat.le_trans (Nat.mul_le_mul h2 h1) (by omega)
 have h6:n + m≤2 ^ 62:=Nat.le_trans h2 (by omega)
 rcases ht with rfl | ⟨i,rfl,hi,hlt⟩
 ·by_cases hm:m = 0
  ·subst hm
   have hd:ds = []:=List.length_eq_zero_iff.1 (by omega)
   subst hd
   rw[vApp_rig0,appD_ok ⟨h5,h6,h3,h4⟩]
   have:=hk .rig g.hp ⟨.inl rfl,fun _ _ _ => rfl⟩ (fun h => absurd h (Nat.lt_irrefl 0))
   rw[List.append_nil,Nat.add_zero] at this
   exact this
  ·rw[vApp_rig hm,appD_ok ⟨h5,h6,h3,h4⟩]
   exact hk (.own id esz) _ ⟨.inr ⟨rfl,by simp[upd]⟩,fun i hi _ => by simp[upd,hi]⟩ (fun _ => ⟨rfl,by simp[upd]⟩)
 ·rw[vApp_own,appD_ok ⟨h5,h6,h3,h4⟩,hal i rfl,selB_true,hi,appK_ok]
  exact hk (.own id esz) _ ⟨.inr ⟨rfl,by simp[upd]⟩,fun k hk' hne => by
   have:k≠i:=fun h => hne esz (by rw[h])
   simp[upd,hk',this]⟩ (fun _ => ⟨rfl,by simp[upd]⟩)
theorem bindO_app {d:Bool} {b j:Nat} {dst:Option Nat} {os:List AOper} {e:Env} {K:Env→G→Prop} {al:Nat→Bool} {id esz bytes n m:Nat} {cs ds:List AV} {t t2:Tok} {g:G}
  (ht:TkOk esz g t) (hal:∀ i,t = .own i esz→al i = true) (hc:bytes≤1000∧n + m≤1000000∧cs.length = n * esz∧ds.length = m * esz)
  (hk:∀ t' hp',AppR esz id t t' g hp'→WR F d b j os (put e dst (.sl (cs ++ ds) (n + m) t')) ⟨hp',g.nx⟩ K):bindO F d b j dst os e K (vApp al id esz bytes (.sl cs n t) (.sl ds m t2) g):=
 bindO_app1 ht hal hc fun t' hp' h _ => hk t' hp' h
theorem TkOk.mono {esz:Nat} {g:G} {t:Tok} {hp':Nat→Option Blk} {m:Nat} (h:TkOk esz g t) (hk:∀ i,t = .own i esz→hp' i = g.hp i) (hm:g.nx≤m):TkOk esz ⟨hp',m⟩ t:=by
 rcases h with rfl | ⟨i,rfl,h1,h2⟩
 ·exact .inl rfl
 ·exact .inr ⟨i,rfl,by show hp' i = _;rw[hk i rfl,h1],by show i < m;omega⟩
theorem AppR.ok {esz id:Nat} {t t':Tok} {g:G} {hp':Nat→Option Blk} (h:AppR esz id t t' g hp') {m:Nat} (hm:id < m):TkOk esz ⟨hp',m⟩ t':=by
 rcases h.tok with rfl | ⟨rfl,h1⟩
 ·exact .inl rfl
 ·exact .inr ⟨id,rfl,h1,hm⟩
theorem AppR.ne {esz id:Nat} {t t' u:Tok} {g:G} {hp':Nat→Option Blk} (h:AppR esz id t t' g hp') (hu:∀ e,u≠.own id e):TkNe t' u:=by
 rcases h.tok with rfl | ⟨rfl,_⟩
 ·exact TkNe.rig_l
 ·intro i e f h1 h2
  cases h1
  exact hu f h2
structure MvI (l:List (Int × Int)) (n:Int) (k:Nat) (t:Tok) (e:Env) (g:G):Prop where
 hk:k≤l.length
 e0:e 0 = .sl (pairsC l) l.length .non
 e1:e 1 = .i .i64 n
 e5:e 5 = .sl (pairsC (movI (l.take k) n)) k t
 e6:e 6 = .i .i64 ((k:Nat):Int)
 tk:TkOk 2 g t
theorem movI_len (l:List (Int × Int)) (n:Int):(movI l n).length = l.length:=by simp[movI]
theorem movI_take {l:List (Int × Int)} {n:Int} {k:Nat} (h:k < l.length):movI (l.take (k + 1)) n = movI (l.take k) n ++ [((l.getD k (0,0)).1 + n,(l.getD k (0,0)).2 + n)]:=by
 unfold movI
 rw[List.take_add_one,List.getElem?_eq_getElem h,List.getD_eq_getElem?_getD,List.getElem?_eq_getElem h,List.map_append];rfl
theorem sp7_moved (h121:F 121 = some A_xref07_moved) (l:List (Int × Int)) {n:Int} (hl:l.length≤100000) (hn:0≤n∧n≤1000000) (hp:∀ p∈l,0≤p.1∧p.1≤1000000∧0≤p.2∧p.2≤1000000):pureS F 121 [.sl (pairsC l) l.length .non,.i .i64 n] = some (.sl (pairsC (movI l n)) l.length .non):=by
 refine pure_of h121 ?_
 simp (disch:=omega) only[A_xref07_moved,wp,qa,qb,qc]
 refine blk_cut (fun e g => ∃ t,e 5 = .sl (pairsC (movI l n)) l.length t) ?_ ?_
 ·refine W_loop (fun q e g => ∃ (k:Nat) (t:Tok),q = l.length - k∧MvI l n k t e g) l.length ?_ ?_
  ·exact ⟨0,.rig,rfl,Nat.zero_le _,rfl,rfl,rfl,rfl,.inl rfl⟩
  ·rintro q e g ⟨k,t,rfl,hk,e0,e1,e5,e6,tk⟩
   by_cases c1:k < l.length
   ·have c1':((k:Nat):Int) < ((l.length:Nat):Int):=by omega
    have ha:=pairs_a c1
    have hb:=pairs_b c1
    have hdl:(List.drop (k * 2) (pairsC l)).length = l.length * 2 - k * 2:=by rw[List.length_drop,pairsC_len]
    have hw:=succ_wrap (k:=k) (by omega)
    have hnx:=movI_take (n:=n) c1
    have hpk:=hp _ (getD_mem (d:=(0,0)) c1)
    have hcl:(pairsC (movI (l.take k) n)).length = k * 2:=by rw[pairsC_len,movI_len,List.length_take];omega
    generalize l.getD k (0,0) = p at ha hb hnx hpk
    have hw1:IntKind.i64.wrap (p.1 + n) = p.1 + n:=i64_wrap (by omega) (by omega)
    have hw2:IntKind.i64.wrap (p.2 + n) = p.2 + n:=i64_wrap (by omega) (by omega)
    generalize hcs:pairsC (movI (l.take k) n) = cs at e5 hcl
    simp (disch:=omega) only[wp,qa,qb,qc,gl,e0,e1,e5,e6,c1',ha,hb,hdl,hw1,hw2]
    refine bindO_app (tk.mono (fun i hi => rfl) (by first | omega | (dsimp only;omega))) ?_ ⟨by omega,by omega,hcl,rfl⟩ ?_
    ·rintro i rfl
     rcases tk with h | ⟨i',h,h1,h2⟩
     ·cases h
     ·cases h;simp (disch:=omega) only[allow_lt]
    ·intro t' hp' ar
     simp (disch:=omega) only[wp,qa,qb,qc,e6,hw]
     refine ⟨l.length - (k + 1),by omega,k + 1,t',rfl,by omega,e0,e1,?_,rfl,ar.ok (by first | omega | (dsimp only;omega))⟩
     show AV.sl (cs ++ [.i .i64 (p.1 + n),.i .i64 (p.2 + n)]) (k + 1) t' = _
     rw[hnx,pairsC_app,hcs]
     rfl
   ·have c1':¬ ((k:Nat):Int) < ((l.length:Nat):Int):=by omega
    obtain rfl:k = l.length:=by omega
    rw[List.take_length] at e5
    simp (disch:=omega) only[wp,qa,qb,qc,gl,e0,e1,e5,e6,c1']
    exact ⟨t,rfl⟩
 ·rintro e g ⟨t,e5⟩
  simp (disch:=omega) only[wp,qa,qb,qc,e5]
end Go.Ab
end
