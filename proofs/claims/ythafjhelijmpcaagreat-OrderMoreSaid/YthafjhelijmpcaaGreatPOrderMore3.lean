/- What OrderMore rests on, part 3: lemmas, no claim of its own. -/
import Derived.Test.YthafjhelijmpcaaGreatPOrderMore2
set_option maxRecDepth 100000
set_option maxHeartbeats 16000000
open Nat renaming reduceAdd → qa, reduceMul → qb, reduceSub → qc
section
namespace Go.Ab
theorem upd_same {α:Type} (e:Nat→α) (d:Nat) (v:α):upd e d v d = v:=if_pos rfl
theorem upd_ne {α:Type} (e:Nat→α) {d k:Nat} (v:α) (h:k≠d):upd e d v k = e k:=if_neg h
theorem put_some (e:Env) (d:Nat) (v:AV):put e (some d) v = upd e d v:=rfl
theorem put_none (e:Env) (v:AV):put e none v = e:=rfl
theorem allow_no (base:Nat) (pre:List Nat) (id:Nat):allow false base pre id = true:=rfl
theorem allow_lt {base id:Nat} (pre:List Nat) (h:id < base):allow true base pre id = true:=by simp[allow,h]
theorem rd_ok {g:G} {al:Nat→Bool} {id:Nat} (h:al id = true):rd g al id = g.hp id:=by simp[rd,h]
section
variable (c:CS) (d:Bool) (b j:Nat) (dst:Option Nat) (os:List AOper) (e:Env)
noncomputable def bindR (r:Option (AV × G)):Option (Env × G):=
 match r with
 | some (v,g) => regE c d b j os (put e dst v) g
 | none => none
noncomputable def selR (w:Bool) (op:AOp) (pre:List Nat) (g:G):Option (Env × G):=
 if w then bindR c d b (j + 1) dst os e (opE c (allow d b pre) b (b + j) op e g) else regE c d b (j + 1) os (put e dst .undef) g
theorem selR_true (op pre g):selR c d b j dst os e true op pre g = bindR c d b (j + 1) dst os e (opE c (allow d b pre) b (b + j) op e g):=rfl
theorem regE_nil (g:G):regE c d b j [] e g = some (e,g):=rfl
theorem regE_cons (op:AOp) (grd:Option (Nat × Bool)) (pre:List Nat) (g:G):
  regE c d b j ({ dst,op,grd,pre } :: os) e g = selR c d b j dst os e (wanted e grd) op pre g:=by
 simp only[regE,selR,bindR]
 rfl
end
section
variable (F:Funs)
noncomputable def thenS (x:ACode) (r:Option (Out × Env × G)):Option (Out × Env × G):=
 match r with
 | some (.nrm,e,g) => codeS F x e g
 | r => r
noncomputable def selS (t f:ACode) (e:Env) (g:G) (v:AV):Option (Out × Env × G):=
 match v with
 | .b c => if c then codeS F t e g else codeS F f e g
 | _ => none
def normS (r:Option (Env × G)):Option (Out × Env × G):=
 match r with
 | some (e,g) => some (.nrm,e,g)
 | none => none
def blkS (id:Nat) (r:Option (Out × Env × G)):Option (Out × Env × G):=
 match r with
 | some (.ext n,e,g) => some (if n = id then .nrm else .ext n,e,g)
 | r => r
theorem cS_reg (draw ops e g):codeS F (.reg draw ops) e g = normS (regE (callS F) draw g.nx 0 ops e ⟨g.hp,g.nx + ops.length⟩):=codeS_reg F draw ops e g
theorem cS_seq (a b e g):codeS F (.seq a b) e g = thenS F b (codeS F a e g):=codeS_seq F a b e g
theorem cS_cond (c t f e g):codeS F (.cond c t f) e g = selS F t f e g (c.ev e):=codeS_cond F c t f e g
theorem cS_blk (id c e g):codeS F (.blk id c) e g = blkS id (codeS F c e g):=codeS_blk F id c e g
theorem cS_loop (c e g):codeS F (.loop c) e g = thenS F (.loop c) (codeS F c e g):=codeS_loop F c e g
end
def wantV (v:AV) (w:Bool):Bool:=match v with | .b x => x == w | _ => false
theorem wanted_none (e:Env):wanted e none = true:=rfl
theorem wanted_some (e:Env) (t:Nat) (w:Bool):wanted e (some (t,w)) = wantV (e t) w:=rfl
theorem wantV_1 (x:Bool):wantV (.b x) true = x:=by cases x<;>rfl
theorem wantV_0 (x:Bool):wantV (.b x) false = !x:=by cases x<;>rfl
theorem wantV_undef (w:Bool):wantV .undef w = false:=rfl
section
variable {c:CS} {al:Nat→Bool} {lo id:Nat} {e:Env} {g:G}
theorem ev_t (n:Nat):Opd.ev e (.t n) = e n:=rfl
theorem ev_c (v:AV):Opd.ev e (.c v) = v:=rfl
theorem o_mv (x:Opd):opE c al lo id (.mv x) e g = some (x.ev e,g):=rfl
theorem o_pick (x y z:Opd):opE c al lo id (.pick x y z) e g = vPick (x.ev e) (y.ev e) (z.ev e) g:=rfl
theorem vPick_t (a b:AV) (g:G):vPick (.b true) a b g = some (a,g):=rfl
theorem vPick_f (a b:AV) (g:G):vPick (.b false) a b g = some (b,g):=rfl
theorem o_new (z:List AV):opE c al lo id (.new z) e g = some (.mp id 0,⟨upd g.hp id (some (.cells z false)),g.nx⟩):=rfl
theorem o_box (x:Opd):opE c al lo id (.box x) e g = vBox id (x.ev e) g:=rfl
theorem vMap_some (v:AV):vMap g (some v) = some (v,g):=rfl
theorem vMapL_some (f) (v:List AV):vMapL f g (some v) = some (f v,g):=rfl
theorem o_build (z:List AV) (ps):opE c al lo id (.build z ps) e g = vMapL .agg g (fill e z ps):=rfl
theorem o_ld (agg) (x:Opd):opE c al lo id (.ld agg x) e g = vLd al agg (x.ev e) g:=rfl
theorem vLd_ptr (agg cs):vLd al agg (.ptr cs) g = vMap g (part cs 0 agg):=rfl
theorem o_st (n) (a x:Opd):opE c al lo id (.st n a x) e g = vSt al n (a.ev e) (x.ev e) g:=rfl
theorem o_nilck (x:Opd):opE c al lo id (.nilck x) e g = vNil (x.ev e) g:=rfl
theorem vNil_ptr (cs):vNil (.ptr cs) g = some (.ptr cs,g):=rfl
theorem vNil_mp (b o):vNil (.mp b o) g = some (.mp b o,g):=rfl
theorem vNil_fn (f a b):vNil (.fn f a b) g = some (.fn f a b,g):=rfl
theorem o_bin (op) (x y:Opd):opE c al lo id (.bin op x y) e g = vMap g (abin op (x.ev e) (y.ev e)):=rfl
theorem o_un (op) (x:Opd):opE c al lo id (.un op x) e g = vMap g (aun op (x.ev e)):=rfl
theorem o_mkfn (f a b):opE c al lo id (.mkfn f a b) e g = some (.fn f (a.map (·.ev e)) (b.map (·.ev e)),g):=rfl
theorem o_fa (off) (x:Opd):opE c al lo id (.fa off x) e g = vFa off (x.ev e) g:=rfl
theorem vFa_mp (off b o):vFa off (.mp b o) g = some (.mp b (o + off),g):=rfl
theorem o_fld (off agg) (x:Opd):opE c al lo id (.fld off agg x) e g = vFld off agg (x.ev e) g:=rfl
theorem vFld_agg (off agg cs):vFld off agg (.agg cs) g = vMap g (part cs off agg):=rfl
theorem o_ia (esz) (x i:Opd):opE c al lo id (.ia esz x i) e g = vIa esz (x.ev e) (i.ev e) g:=rfl
theorem vIa_sl {esz cs t k} {n:Nat} {z:Int} (h0:0≤z) (h:z < n):vIa esz (.sl cs n t) (.i k z) g = some (.ptr (cs.drop (z.toNat * esz)),g):=if_pos ⟨h0,h⟩
theorem vIa_ms {esz b off k} {n:Nat} {z:Int} (h0:0≤z) (h:z < n):vIa esz (.ms b off n) (.i k z) g = some (.mp b (off + z.toNat * esz),g):=if_pos ⟨h0,h⟩
theorem o_iaa (len esz) (x i:Opd):opE c al lo id (.iaa len esz x i) e g = vIaa len esz (x.ev e) (i.ev e) g:=rfl
theorem vIaa_ptr {esz cs k} {len:Nat} {z:Int} (h0:0≤z) (h:z < len):vIaa len esz (.ptr cs) (.i k z) g = some (.ptr (cs.drop (z.toNat * esz)),g):=if_pos ⟨h0,h⟩
theorem vIaa_mp {esz b off k} {len:Nat} {z:Int} (h0:0≤z) (h:z < len):vIaa len esz (.mp b off) (.i k z) g = some (.mp b (off + z.toNat * esz),g):=if_pos ⟨h0,h⟩
theorem o_len (x:Opd):opE c al lo id (.len x) e g = vLen (x.ev e) g:=rfl
theorem vLen_sl (cs n t):vLen (.sl cs n t) g = some (.i .i64 n,g):=rfl
theorem vLen_ms (b o n):vLen (.ms b o n) g = some (.i .i64 n,g):=rfl
theorem o_mx (x y:Opd):opE c al lo id (.mx x y) e g = vMx (x.ev e) (y.ev e) g:=rfl
theorem o_mn (x y:Opd):opE c al lo id (.mn x y) e g = vMn (x.ev e) (y.ev e) g:=rfl
theorem vMx_i (k l a b):vMx (.i k a) (.i l b) g = some (.i k (if b > a then b else a),g):=rfl
theorem vMn_i (k l a b):vMn (.i k a) (.i l b) g = some (.i k (if b < a then b else a),g):=rfl
theorem o_ext (i) (x:Opd):opE c al lo id (.ext i x) e g = vExt i (x.ev e) g:=rfl
theorem vExt_tup (i cs):vExt i (.tup cs) g = vMap g (cs[i]?):=rfl
theorem b_add (k x y):abin .add (.i k x) (.i k y) = some (.i k (k.wrap (x + y))):=by simp[abin,ibin]
theorem b_sub (k x y):abin .sub (.i k x) (.i k y) = some (.i k (k.wrap (x - y))):=by simp[abin,ibin]
theorem b_mul (k x y):abin .mul (.i k x) (.i k y) = some (.i k (k.wrap (x * y))):=by simp[abin,ibin]
theorem b_quo {k x y} (h:y≠0):abin .quo (.i k x) (.i k y) = some (.i k (k.wrap (x.tdiv y))):=by simp[abin,ibin,h]
theorem b_rem {k x y} (h:y≠0):abin .rem (.i k x) (.i k y) = some (.i k (x.tmod y)):=by simp[abin,ibin,h]
theorem b_lss (k x y):abin .lss (.i k x) (.i k y) = some (.b (decide (x < y))):=by simp[abin,ibin]
theorem b_leq (k x y):abin .leq (.i k x) (.i k y) = some (.b (decide (x≤y))):=by simp[abin,ibin]
theorem b_gtr (k x y):abin .gtr (.i k x) (.i k y) = some (.b (decide (x > y))):=by simp[abin,ibin]
theorem b_geq (k x y):abin .geq (.i k x) (.i k y) = some (.b (decide (x ≥ y))):=by simp[abin,ibin]
theorem b_eql (k x y):abin .eql (.i k x) (.i k y) = some (.b (x == y)):=by simp[abin,ibin]
theorem b_neq (k x y):abin .neq (.i k x) (.i k y) = some (.b (x != y)):=by simp[abin,ibin]
end
def selB (x:Bool) (o:Option Blk):Option Blk:=if x then o else none
theorem selB_true (o):selB true o = o:=rfl
theorem rd_S (g:G) (al:Nat→Bool) (id:Nat):rd g al id = selB (al id) (g.hp id):=rfl
section
variable {al:Nat→Bool} {g:G}
def ldS (agg:Option Nat) (off:Nat) (g:G):Option Blk→Option (AV × G)
 | some (.cells cs _) => vMap g (part cs off agg)
 | _ => none
theorem ldS_ok (agg off g cs ro):ldS agg off g (some (.cells cs ro)) = vMap g (part cs off agg):=rfl
theorem vLd_S (agg b off):vLd al agg (.mp b off) g = ldS agg off g (selB (al b) (g.hp b)):=rfl
def stD (n b off len m:Nat) (ones:Bool) (cs vs:List AV) (g:G):Option (AV × G):=
 if len = n∧off + n≤m∧ones = true then some (.undef,⟨upd g.hp b (some (.cells (splice cs off vs) false)),g.nx⟩) else none
theorem stD_ok {n b off len m:Nat} {cs vs g} (h:len = n∧off + n≤m):stD n b off len m true cs vs g = some (.undef,⟨upd g.hp b (some (.cells (splice cs off vs) false)),g.nx⟩):=if_pos ⟨h.1,h.2,rfl⟩
def stS (n b off:Nat) (vs:List AV) (g:G):Option Blk→Option (AV × G)
 | some (.cells cs false) => stD n b off vs.length cs.length (vs.all one) cs vs g
 | _ => none
theorem stS_ok (n b off vs g cs):stS n b off vs g (some (.cells cs false)) = stD n b off vs.length cs.length (vs.all one) cs vs g:=rfl
theorem vSt_S (n b off x):vSt al n (.mp b off) x g = stS n b off (cellsOf x) g (selB (al b) (g.hp b)):=by
 simp only[vSt]
 rw[rd_S]
 cases selB (al b) (g.hp b) with
 | none => rfl
 | some bl =>
   cases bl with
   | cells cs ro => cases ro<;>rfl
   | map es => rfl
   | tok l => rfl
def boxD (id:Nat) (cs:List AV) (g:G) (x:Bool):Option (AV × G):=if x then some (.mp id 0,⟨upd g.hp id (some (.cells cs false)),g.nx⟩) else none
theorem boxD_ok (id cs g):boxD id cs g true = some (.mp id 0,⟨upd g.hp id (some (.cells cs false)),g.nx⟩):=rfl
theorem vBox_S (id v):vBox id v g = boxD id (cellsOf v) g ((cellsOf v).all one):=rfl
def faD (off len:Nat) (cs:List AV) (g:G):Option (AV × G):=if off < len then some (.ptr (cs.drop off),g) else none
theorem faD_ok {off len:Nat} {cs g} (h:off < len):faD off len cs g = some (.ptr (cs.drop off),g):=if_pos h
theorem vFa_S (off cs):vFa off (.ptr cs) g = faD off cs.length cs g:=rfl
def fillD (e:Env) (cs:List AV) (off n len m:Nat) (ones:Bool) (vs:List AV) (ps:List (Nat × Nat × Opd)):Option (List AV):=
 if len = n∧off + n≤m∧ones = true then fill e (splice cs off vs) ps else none
theorem fillD_ok {e cs off n len m vs ps} (h:len = n∧off + n≤m):fillD e cs off n len m true vs ps = fill e (splice cs off vs) ps:=if_pos ⟨h.1,h.2,rfl⟩
theorem fill_S (e:Env) (cs:List AV) (off n x ps):fill e cs ((off,n,x) :: ps) = fillD e cs off n (cellsOf (x.ev e)).length cs.length ((cellsOf (x.ev e)).all one) (cellsOf (x.ev e)) ps:=by
 simp only[fill,fillD]
theorem fill_nil (e cs):fill e cs [] = some cs:=rfl
theorem cellsOf_agg (cs):cellsOf (.agg cs) = cs:=rfl
theorem cellsOf_i (k n):cellsOf (.i k n) = [.i k n]:=rfl
theorem cellsOf_b (x):cellsOf (.b x) = [.b x]:=rfl
theorem cellsOf_s (x):cellsOf (.s x) = [.s x]:=rfl
theorem cellsOf_ptr (x):cellsOf (.ptr x) = [.ptr x]:=rfl
theorem cellsOf_nilp:cellsOf .nilp = [.nilp]:=rfl
theorem cellsOf_sl (a b c):cellsOf (.sl a b c) = [.sl a b c]:=rfl
theorem cellsOf_mp (a b):cellsOf (.mp a b) = [.mp a b]:=rfl
theorem cellsOf_fn (a b c):cellsOf (.fn a b c) = [.fn a b c]:=rfl
theorem one_i (k n):one (.i k n) = true:=rfl
theorem one_b (x):one (.b x) = true:=rfl
theorem one_s (x):one (.s x) = true:=rfl
theorem one_ptr (x):one (.ptr x) = true:=rfl
theorem one_nilp:one .nilp = true:=rfl
theorem one_sl (a b c):one (.sl a b c) = true:=rfl
theorem one_mp (a b):one (.mp a b) = true:=rfl
theorem one_fn (a b c):one (.fn a b c) = true:=rfl
theorem splice_1 (cs off v):splice cs off [v] = cs.set off v:=rfl
theorem splice_2 (a b x y):splice [a,b] 0 [x,y] = [x,y]:=rfl
theorem splice_3 (a b c x y z):splice [a,b,c] 0 [x,y,z] = [x,y,z]:=rfl
theorem part_0 (c cs):part (c :: cs) 0 none = some c:=rfl
theorem part_1 (c d cs):part (c :: d :: cs) 1 none = some d:=rfl
theorem part_2 (a c d cs):part (a :: c :: d :: cs) 2 none = some d:=rfl
def andLe (lo:Nat) (al:Nat→Bool) (i:Nat):Bool:=decide (lo≤i) && al i
theorem o_stL {c:CS} {al:Nat→Bool} {lo id:Nat} {e:Env} {g:G} (n a x):opE c al lo id (.stL n a x) e g = vSt (andLe lo al) n (a.ev e) (x.ev e) g:=rfl
theorem andLe_ok {lo:Nat} {al:Nat→Bool} {i:Nat} (h:lo≤i):andLe lo al i = al i:=by simp[andLe,h]
theorem allow_hd {base k id:Nat} (l:List Nat) (h:id = base + k):allow true base (k :: l) id = true:=by subst h;simp[allow]
theorem allow_h2 {base k k' id:Nat} (l:List Nat) (h:id = base + k):allow true base (k' :: k :: l) id = true:=by subst h;simp[allow]
theorem part_3 (a b c d:AV) (l:List AV):part (a :: b :: c :: d :: l) 3 none = some d:=rfl
theorem part_4 (a b c d e:AV) (l:List AV):part (a :: b :: c :: d :: e :: l) 4 none = some e:=rfl
theorem part_5 (a b c d e f:AV) (l:List AV):part (a :: b :: c :: d :: e :: f :: l) 5 none = some f:=rfl
theorem cellsOf_ms (a b c):cellsOf (.ms a b c) = [.ms a b c]:=rfl
theorem one_ms (a b c):one (.ms a b c) = true:=rfl
theorem drop_0 (l:List AV):l.drop 0 = l:=rfl
theorem g0_nx:g0.nx = 0:=rfl
theorem g0_hp:g0.hp = fun _ => none:=rfl
theorem o_bsl {c:CS} {al:Nat→Bool} {lo id:Nat} {e:Env} {g:G} (imm n z ps):opE c al lo id (.bsl imm n z ps) e g = vBsl id imm n (fill e z ps) g:=rfl
theorem vBsl_t (id n cs) (g:G):vBsl id true n (some cs) g = vMapL (fun cs => .sl cs n .rig) g (frzL (fun _ => none) depth cs):=rfl
theorem vBsl_f (id n cs) (g:G):vBsl id false n (some cs) g = some (.ms id 0 n,⟨upd g.hp id (some (.cells cs false)),g.nx⟩):=rfl
theorem o_app {c:CS} {al:Nat→Bool} {lo id:Nat} {e:Env} {g:G} (esz by' x y):opE c al lo id (.app esz by' x y) e g = vApp al id esz by' (x.ev e) (y.ev e) g:=rfl
def appD (n m esz bytes lc ld:Nat) (r:Option (AV × G)):Option (AV × G):=if (n + m) * bytes≤2 ^ 46∧n + m≤2 ^ 62∧lc = n * esz∧ld = m * esz then r else none
theorem appD_ok {n m esz bytes lc ld r} (h:(n + m) * bytes≤2 ^ 46∧n + m≤2 ^ 62∧lc = n * esz∧ld = m * esz):appD n m esz bytes lc ld r = r:=if_pos h
theorem vApp_rig {id esz bytes cs n ds m t2} (h:m≠0):vApp al id esz bytes (.sl cs n .rig) (.sl ds m t2) g = appD n m esz bytes cs.length ds.length (some (.sl (cs ++ ds) (n + m) (.own id esz),⟨upd g.hp id (some (.tok true)),g.nx⟩)):=by
 simp only[vApp,vSrc,if_neg h];rfl
theorem vApp_rig0 {id esz bytes cs n ds t2}:vApp al id esz bytes (.sl cs n .rig) (.sl ds 0 t2) g = appD n 0 esz bytes cs.length ds.length (some (.sl cs n .rig,g)):=by
 simp only[vApp,vSrc,if_true];rfl
def appK (id esz tk n:Nat) (cs:List AV) (g:G):Option Blk→Option (AV × G)
 | some (.tok true) => some (.sl cs n (.own id esz),⟨upd (upd g.hp tk (some (.tok false))) id (some (.tok true)),g.nx⟩)
 | _ => none
theorem appK_ok (id esz tk n cs g):appK id esz tk n cs g (some (.tok true)) = some (.sl cs n (.own id esz),⟨upd (upd g.hp tk (some (.tok false))) id (some (.tok true)),g.nx⟩):=rfl
theorem vApp_own {id esz bytes cs n tk ds m t2}:vApp al id esz bytes (.sl cs n (.own tk esz)) (.sl ds m t2) g = appD n m esz bytes cs.length ds.length (appK id esz tk (n + m) (cs ++ ds) g (selB (al tk) (g.hp tk))):=by
 simp only[vApp,vSrc,rd_S]
 unfold appD appK
 split
 ·cases selB (al tk) (g.hp tk) with
  | none => rfl
  | some b =>
    cases b with
    | tok x => cases x<;>simp
    | cells _ _ => rfl
    | map _ => rfl
 ·rfl
theorem o_eqn {c:CS} {al:Nat→Bool} {lo id:Nat} {e:Env} {g:G} (neg x y):opE c al lo id (.eqn neg x y) e g = vMap g (negb neg (aeqn (x.ev e) (y.ev e))):=rfl
theorem o_eqb {c:CS} {al:Nat→Bool} {lo id:Nat} {e:Env} {g:G} (neg x y):opE c al lo id (.eqb neg x y) e g = vMap g (negb neg (aeqb (x.ev e) (y.ev e))):=rfl
theorem o_eqa {c:CS} {al:Nat→Bool} {lo id:Nat} {e:Env} {g:G} (neg ks x y):opE c al lo id (.eqa neg ks x y) e g = vMap g (negb neg (aeqa ks (x.ev e) (y.ev e))):=rfl
theorem aeqn_pn (cs):aeqn (.ptr cs) .nilp = some false:=rfl
theorem aeqn_np (cs):aeqn .nilp (.ptr cs) = some false:=rfl
theorem aeqn_mn (a b):aeqn (.mp a b) .nilp = some false:=rfl
theorem aeqn_nn:aeqn .nilp .nilp = some true:=rfl
theorem aeqb_bb (x y):aeqb (.b x) (.b y) = some (x == y):=rfl
theorem negb_t (x):negb true (some x) = some (.b (!x)):=rfl
theorem negb_f (x):negb false (some x) = some (.b x):=rfl
theorem aun_not (x):aun .not (.b x) = some (.b !x):=rfl
end
end Go.Ab
end
section
set_option linter.unusedVariables false
namespace Go.Ab
def lckG (g:G) (v:AV):G:=⟨lock g.hp (vis g.hp depth v),g.nx⟩
theorem lck_hit {g:G} {v:AV} {i:Nat} {cs:List AV} {ro:Bool} (h:g.hp i = some (.cells cs ro)) (hv:ro = false→i∈vis g.hp depth v):(lckG g v).hp i = some (.cells cs true):=by
 show lock _ _ _ = _
 unfold lock
 rw[h]
 cases ro with
 | true => split<;>rfl
 | false => rw[if_pos (by simpa using hv rfl)]
section
variable (F:Funs)
def W (c:ACode) (e:Env) (g:G) (Q:Out→Env→G→Prop):Prop:=∃ o e' g',codeS F c e g = some (o,e',g')∧Q o e' g'
def WR (d:Bool) (b j:Nat) (ops:List AOper) (e:Env) (g:G) (K:Env→G→Prop):Prop:=∃ e' g',regE (callS F) d b j ops e g = some (e',g')∧K e' g'
def thenQ (b:ACode) (Q:Out→Env→G→Prop):Out→Env→G→Prop
 | .nrm,e,g => W F b e g Q
 | o,e,g => Q o e g
def selW (t f:ACode) (e:Env) (g:G) (Q:Out→Env→G→Prop):AV→Prop
 | .b true => W F t e g Q
 | .b false => W F f e g Q
 | _ => False
def blkQ (id:Nat) (Q:Out→Env→G→Prop):Out→Env→G→Prop
 | .ext n,e,g => if n = id then Q .nrm e g else Q (.ext n) e g
 | o,e,g => Q o e g
def nrmQ (Q:Out→Env→G→Prop) (e:Env) (g:G):Prop:=Q .nrm e g
def bindO (d:Bool) (b j:Nat) (dst:Option Nat) (os:List AOper) (e:Env) (K:Env→G→Prop):Option (AV × G)→Prop
 | some (v,g) => WR F d b j os (put e dst v) g K
 | none => False
def selO (d:Bool) (b j:Nat) (dst:Option Nat) (os:List AOper) (e:Env) (op:AOp) (pre:List Nat) (g:G) (K:Env→G→Prop) (w:Bool):Prop:=
 if w then bindO F d b (j + 1) dst os e K (opE (callS F) (allow d b pre) b (b + j) op e g) else WR F d b (j + 1) os (put e dst .undef) g K
end
section
variable {F:Funs}
theorem W_skip {e g Q}:W F .skip e g Q = Q .nrm e g:=by
 unfold W;rw[codeS_skip];apply propext
 exact ⟨fun ⟨o,e',g',h,q⟩ => by cases h;exact q,fun q => ⟨_,_,_,rfl,q⟩⟩
theorem W_ext {id e g Q}:W F (.ext id) e g Q = Q (.ext id) e g:=by
 unfold W;rw[codeS_ext];apply propext
 exact ⟨fun ⟨o,e',g',h,q⟩ => by cases h;exact q,fun q => ⟨_,_,_,rfl,q⟩⟩
theorem W_ret {e g Q}:W F .ret e g Q = Q .ret e g:=by
 unfold W;rw[codeS_ret];apply propext
 exact ⟨fun ⟨o,e',g',h,q⟩ => by cases h;exact q,fun q => ⟨_,_,_,rfl,q⟩⟩
theorem W_seq {a b e g Q}:W F (.seq a b) e g Q = W F a e g (thenQ F b Q):=by
 unfold W;rw[cS_seq];apply propext
 constructor
 ·intro ⟨o,e',g',h,q⟩
  cases hc:codeS F a e g with
  | none => rw[hc] at h;cases h
  | some r =>
    obtain ⟨o1,e1,g1⟩:=r
    rw[hc] at h
    refine ⟨o1,e1,g1,rfl,?_⟩
    cases o1 with
    | nrm => exact ⟨o,e',g',h,q⟩
    | ext n => cases h;exact q
    | ret => cases h;exact q
 ·intro ⟨o,e',g',h,q⟩
  rw[h]
  cases o with
  | nrm => exact q
  | ext n => exact ⟨_,_,_,rfl,q⟩
  | ret => exact ⟨_,_,_,rfl,q⟩
theorem thenQ_nrm {b Q e g}:thenQ F b Q .nrm e g = W F b e g Q:=rfl
theorem thenQ_ext {b Q n e g}:thenQ F b Q (.ext n) e g = Q (.ext n) e g:=rfl
theorem thenQ_ret {b Q e g}:thenQ F b Q .ret e g = Q .ret e g:=rfl
theorem W_cond {c t f e g Q}:W F (.cond c t f) e g Q = selW F t f e g Q (c.ev e):=by
 unfold W;rw[cS_cond];apply propext
 generalize c.ev e = v
 cases v<;>simp only[selS,selW]<;>try (constructor<;>(intro h;first | exact h.elim | (obtain ⟨_,_,_,h,_⟩:=h;cases h)))
 rename_i x
 cases x<;>simp[W]
theorem selW_true {t f e g Q}:selW F t f e g Q (.b true) = W F t e g Q:=rfl
theorem selW_false {t f e g Q}:selW F t f e g Q (.b false) = W F f e g Q:=rfl
theorem W_imm {t c e g Q v} (h:frz g.hp depth (e t) = some v):W F (.imm t c) e g Q = W F c (upd e t v) (lckG g (e t)) Q:=by
 unfold W;rw[codeS_imm,h];rfl
theorem W_immM {t:Nat} {c:ACode} {e:Env} {g:G} {Q:Out→Env→G→Prop} (M:Env→G→Prop) (h0:M e g) (h:∀ e g,M e g→W F (.imm t c) e g Q):W F (.imm t c) e g Q:=h e g h0
theorem W_scp {c e g Q}:W F (.scp c) e g Q = W F c e g Q:=by unfold W;rw[codeS_scp]
theorem W_lab {e g Q}:W F .lab e g Q = Q .nrm e g:=by
 unfold W;rw[codeS_lab];apply propext
 exact ⟨fun ⟨o,e',g',h,q⟩ => by cases h;exact q,fun q => ⟨_,_,_,rfl,q⟩⟩
theorem W_lck {t c e g Q}:W F (.lck t c) e g Q = W F c e (lckG g (e t)) Q:=by unfold W;rw[codeS_lck];rfl
theorem W_blk {id c e g Q}:W F (.blk id c) e g Q = W F c e g (blkQ id Q):=by
 unfold W;rw[cS_blk];apply propext
 constructor
 ·intro ⟨o,e',g',h,q⟩
  cases hc:codeS F c e g with
  | none => rw[hc] at h;cases h
  | some r =>
    obtain ⟨o1,e1,g1⟩:=r
    rw[hc] at h
    refine ⟨o1,e1,g1,rfl,?_⟩
    cases o1 with
    | nrm => cases h;exact q
    | ext n =>
      cases h
      show if n = id then _ else _
      split
      ·rename_i hn;rw[if_pos hn] at q;exact q
      ·rename_i hn;rw[if_neg hn] at q;exact q
    | ret => cases h;exact q
 ·intro ⟨o,e',g',h,q⟩
  rw[h]
  cases o with
  | nrm => exact ⟨_,_,_,rfl,q⟩
  | ext n =>
    refine ⟨_,_,_,rfl,?_⟩
    have q:if n = id then Q .nrm e' g' else Q (.ext n) e' g':=q
    split
    ·rename_i hn;rw[if_pos hn] at q;exact q
    ·rename_i hn;rw[if_neg hn] at q;exact q
  | ret => exact ⟨_,_,_,rfl,q⟩
theorem blkQ_nrm {id Q e g}:blkQ id Q .nrm e g = Q .nrm e g:=rfl
theorem blkQ_ret {id Q e g}:blkQ id Q .ret e g = Q .ret e g:=rfl
theorem blkQ_same {id Q e g}:blkQ id Q (.ext id) e g = Q .nrm e g:=if_pos rfl
theorem blkQ_ne {id n Q e g} (h:n≠id):blkQ id Q (.ext n) e g = Q (.ext n) e g:=if_neg h
theorem W_reg {d ops e g Q}:W F (.reg d ops) e g Q = WR F d g.nx 0 ops e ⟨g.hp,g.nx + ops.length⟩ (nrmQ Q):=by
 unfold W WR;rw[cS_reg];apply propext
 constructor
 ·intro ⟨o,e',g',h,q⟩
  cases hc:regE (callS F) d g.nx 0 ops e ⟨g.hp,g.nx + ops.length⟩ with
  | none => rw[hc] at h;cases h
  | some r =>
    rw[hc] at h
    cases h
    exact ⟨_,_,rfl,q⟩
 ·intro ⟨e',g',h,q⟩
  rw[h]
  exact ⟨.nrm,e',g',rfl,q⟩
theorem nrmQ_is {Q e g}:nrmQ Q e g = Q .nrm e g:=rfl
theorem WR_nil {d b j e g K}:WR F d b j [] e g K = K e g:=by
 unfold WR;apply propext
 simp only[regE_nil]
 exact ⟨fun ⟨e',g',h,q⟩ => by cases h;exact q,fun q => ⟨_,_,rfl,q⟩⟩
theorem WR_cons {d b j dst op grd pre os e g K}:WR F d b j ({ dst,op,grd,pre } :: os) e g K = selO F d b j dst os e op pre g K (wanted e grd):=by
 unfold WR;rw[regE_cons]
 generalize wanted e grd = w
 cases w
 ·rfl
 ·rw[selR_true]
  show _ = bindO _ _ _ _ _ _ _ _ _
  cases opE (callS F) (allow d b pre) b (b + j) op e g with
  | none =>
    apply propext
    constructor
    ·intro ⟨_,_,h,_⟩;cases h
    ·intro h;exact False.elim h
  | some r => rfl
theorem selO_true {d b j dst os e op pre g K}:selO F d b j dst os e op pre g K true = bindO F d b (j + 1) dst os e K (opE (callS F) (allow d b pre) b (b + j) op e g):=rfl
theorem selO_false {d b j dst os e op pre g K}:selO F d b j dst os e op pre g K false = WR F d b (j + 1) os (put e dst .undef) g K:=rfl
theorem bindO_some {d b j dst os e K v g}:bindO F d b j dst os e K (some (v,g)) = WR F d b j os (put e dst v) g K:=rfl
theorem W_mono {c e g} {Q Q':Out→Env→G→Prop} (h:W F c e g Q) (hq:∀ o e g,Q o e g→Q' o e g):W F c e g Q':=by
 obtain ⟨o,e',g',h1,h2⟩:=h;exact ⟨o,e',g',h1,hq _ _ _ h2⟩
def loopQ (I:Nat→Env→G→Prop) (m:Nat) (Q:Out→Env→G→Prop):Out→Env→G→Prop
 | .nrm,e,g => ∃ m',m' < m∧I m' e g
 | o,e,g => Q o e g
theorem loopQ_nrm {I m Q e g}:loopQ I m Q .nrm e g = ∃ m',m' < m∧I m' e g:=rfl
theorem loopQ_ext {I m Q n e g}:loopQ I m Q (.ext n) e g = Q (.ext n) e g:=rfl
theorem loopQ_ret {I m Q e g}:loopQ I m Q .ret e g = Q .ret e g:=rfl
theorem W_loop {c e g Q} (I:Nat→Env→G→Prop) (n:Nat) (h0:I n e g) (h:∀ m e g,I m e g→W F c e g (loopQ I m Q)):W F (.loop c) e g Q:=by
 have key:∀ m e g,I m e g→W F (.loop c) e g Q:=by
  intro m
  induction m using Nat.strongRecOn with
  | _ m ih =>
    intro e g hI
    obtain ⟨o,e1,g1,h1,h2⟩:=h m e g hI
    unfold W
    rw[cS_loop,h1]
    cases o with
    | nrm =>
      obtain ⟨m',hm,hI'⟩:=h2
      exact ih m' hm e1 g1 hI'
    | ext n => exact ⟨_,_,_,rfl,h2⟩
    | ret => exact ⟨_,_,_,rfl,h2⟩
 exact key n e g h0
noncomputable def pureS (F:Funs) (f:Nat) (asx:List AV):Option AV:=match callS F f asx g0 with
 | some (v,g) => frz g.hp depth v
 | none => none
noncomputable def vPure (F:Funs) (al:Nat→Bool) (f:AV) (args:List AV) (g:G):Option (AV × G):=vCall (callS F) al 0 .pure f args g
theorem o_pure {al lo id e g} (f:Opd) (asx:List Opd):opE (callS F) al lo id (.call .pure f asx) e g = vPure F al (f.ev e) (asx.map (·.ev e)) g:=rfl
def retQ (rs:List ARes) (v:AV):Out→Env→G→Prop
 | .ext _,_,_ => False
 | _,e,g => (match resE rs e g with | some v0 => frz g.hp depth v0 | none => none) = some v
theorem retQ_nrm {rs v e g}:retQ rs v .nrm e g = ((match resE rs e g with | some v0 => frz g.hp depth v0 | none => none) = some v):=rfl
theorem retQ_ret {rs v e g}:retQ rs v .ret e g = ((match resE rs e g with | some v0 => frz g.hp depth v0 | none => none) = some v):=rfl
theorem pure_of {f:Nat} {fn:AFun} {asx:List AV} {v:AV} (hF:F f = some fn) (h:W F fn.body (argEnv asx) g0 (retQ fn.res v)):pureS F f asx = some v:=by
 obtain ⟨o,e,g,h1,h2⟩:=h
 unfold pureS
 rw[callS_eq,hF]
 simp only[h1]
 cases o with
 | ext n => exact h2.elim
 | nrm =>
   have h2:(match resE fn.res e g with | some v0 => frz g.hp depth v0 | none => none) = some v:=h2
   cases hr:resE fn.res e g with
   | none => rw[hr] at h2;cases h2
   | some v0 => rw[hr] at h2;simp only[hr,Option.map_some];exact h2
 | ret =>
   have h2:(match resE fn.res e g with | some v0 => frz g.hp depth v0 | none => none) = some v:=h2
   cases hr:resE fn.res e g with
   | none => rw[hr] at h2;cases h2
   | some v0 => rw[hr] at h2;simp only[hr,Option.map_some];exact h2
end
theorem argEnv_0 (a l):argEnv (a :: l) 0 = a:=rfl
theorem argEnv_1 (a b l):argEnv (a :: b :: l) 1 = b:=rfl
theorem argEnv_2 (a b c l):argEnv (a :: b :: c :: l) 2 = c:=rfl
theorem argEnv_3 (a b c d l):argEnv (a :: b :: c :: d :: l) 3 = d:=rfl
theorem argEnv_4 (a b c d e l):argEnv (a :: b :: c :: d :: e :: l) 4 = e:=rfl
theorem argEnv_5 (a b c d e f l):argEnv (a :: b :: c :: d :: e :: f :: l) 5 = f:=rfl
theorem res_1 (n e g):resE [.t n] e g = some (e n):=rfl
theorem res_2 (n m e g):resE [.t n,.t m] e g = some (.tup [e n,e m]):=rfl
theorem frz_flat {hp} {d:Nat} {v:AV} (h:flat v = true):frz hp (d + 1) v = some v:=by cases v<;>first | (cases h;done) | simp only[frz]
theorem frzL_flat {hp} {d:Nat}:∀ {cs:List AV},cs.all flat = true→frzL hp (d + 1) cs = some cs
 | [],_ => by simp only[frzL]
 | c :: cs,h => by
   simp only[List.all_cons,Bool.and_eq_true] at h
   simp only[frzL,frz_flat h.1,frzL_flat h.2]
theorem frzL_nil (hp d):frzL hp d [] = some []:=by simp only[frzL]
def consO (c:Option AV) (cs:Option (List AV)):Option (List AV):=match c,cs with
 | some c,some cs => some (c :: cs)
 | _,_ => none
theorem consO_ok (c cs):consO (some c) (some cs) = some (c :: cs):=rfl
theorem frzL_cons (hp d c cs):frzL hp d (c :: cs) = consO (frz hp d c) (frzL hp d cs):=by
 simp only[frzL]
 cases frz hp d c<;>cases frzL hp d cs<;>rfl
theorem frz_d_i (hp k n):frz hp depth (.i k n) = some (.i k n):=by show frz hp (8 + 1) _ = _;simp only[frz]
theorem frz_d_b (hp x):frz hp depth (.b x) = some (.b x):=by show frz hp (8 + 1) _ = _;simp only[frz]
theorem frz_d_s (hp x):frz hp depth (.s x) = some (.s x):=by show frz hp (8 + 1) _ = _;simp only[frz]
theorem frz_d_nilp (hp):frz hp depth .nilp = some .nilp:=by show frz hp (8 + 1) _ = _;simp only[frz]
theorem frz_d_ptr (hp cs):frz hp depth (.ptr cs) = some (.ptr cs):=by show frz hp (8 + 1) _ = _;simp only[frz]
theorem frz_d_sl (hp cs n t):frz hp depth (.sl cs n t) = some (.sl cs n .non):=by show frz hp (8 + 1) _ = _;simp only[frz]
theorem frz_d_mp {hp:Nat→Option Blk} {id off cs ro ds} (h:hp id = some (.cells cs ro)) (hf:frzL hp 8 (cs.drop off) = some ds):frz hp depth (.mp id off) = some (.ptr ds):=by
 show frz hp (8 + 1) _ = _
 simp only[frz,h,hf,Option.map_some]
theorem frz_d_fn0 (hp f):frz hp depth (.fn f [] []) = some (.fn f [] []):=by show frz hp (8 + 1) _ = _;simp only[frz,frzL]
noncomputable def frzB (hp:Nat→Option Blk) (off:Nat) (cs:List AV) (x:Bool):Option (List AV):=if x then some (cs.drop off) else frzL hp 8 (cs.drop off)
noncomputable def frzP (hp:Nat→Option Blk) (off:Nat) (f:List AV→AV):Option Blk→Option AV
 | some (.cells cs _) => (frzB hp off cs (cs.all flat)).map f
 | _ => none
theorem frzB_eq (hp:Nat→Option Blk) (off:Nat) (cs:List AV):frzB hp off cs (cs.all flat) = frzL hp 8 (cs.drop off):=by
 unfold frzB
 split
 ·rename_i hf
  refine (frzL_flat ?_).symm
  rw[List.all_eq_true] at hf ⊢
  exact fun x hx => hf x (List.mem_of_mem_drop hx)
 ·rfl
theorem frz_P (hp:Nat→Option Blk) (id off:Nat):frz hp depth (.mp id off) = frzP hp off .ptr (hp id):=by
 show frz hp (8 + 1) _ = _
 simp only[frz]
 unfold frzP
 simp only[frzB_eq]
 cases hp id with
 | none => rfl
 | some b => cases b<;>rfl
theorem frz_Q (hp:Nat→Option Blk) (id off n:Nat):frz hp depth (.ms id off n) = frzP hp off (fun cs => .sl cs n .non) (hp id):=by
 show frz hp (8 + 1) _ = _
 simp only[frz]
 unfold frzP
 simp only[frzB_eq]
 cases hp id with
 | none => rfl
 | some b => cases b<;>rfl
theorem frzP_cells (hp off f cs ro):frzP hp off f (some (.cells cs ro)) = (frzB hp off cs (cs.all flat)).map f:=rfl
theorem frzB_true (hp off cs):frzB hp off cs true = some (cs.drop off):=rfl
theorem map_some' (f:List AV→AV) (cs:List AV):(some cs).map f = some (f cs):=rfl
noncomputable def purD (g:G) (vs:List Nat):Option AV→Option (AV × G)
 | some v => if flat v || vs.isEmpty then some (v,g) else none
 | none => none
def purE (g:G) (v:AV) (x:Bool):Option (AV × G):=if x then some (v,g) else none
theorem purD_some (g vs v):purD g vs (some v) = purE g v (flat v || vs.isEmpty):=rfl
theorem purE_true (g v):purE g v true = some (v,g):=rfl
noncomputable def purS (F:Funs) (f:Nat) (g:G) (vs:List Nat):Option (List AV)→Option (AV × G)
 | some bs => purD g vs (pureS F f bs)
 | none => none
theorem purS_some (F f g vs bs):purS F f g vs (some bs) = purD g vs (pureS F f bs):=rfl
theorem vPure_S (F:Funs) (al:Nat→Bool) (fid:Nat) (fst args caps:List AV) (g:G):
  vPure F al (.fn fid fst caps) args g = purS F fid g ((fst ++ args ++ caps).flatMap (vis (rd g al) depth)) (frzL (rd g al) depth (fst ++ args ++ caps)):=by
 unfold vPure vCall
 simp only
 cases frzL (rd g al) depth (fst ++ args ++ caps) with
 | none => rfl
 | some bs =>
   rw[purS_some]
   unfold pureS g0
   simp only
   cases callS F fid bs ⟨fun _ => none,0⟩ with
   | none => rfl
   | some r =>
     obtain ⟨v,g'⟩:=r
     simp only
     cases frz g'.hp depth v with
     | none => rfl
     | some v' => rfl
theorem flat_i (k n):flat (.i k n) = true:=rfl
theorem flat_b (x):flat (.b x) = true:=rfl
theorem flat_s (x):flat (.s x) = true:=rfl
theorem flat_nilp:flat .nilp = true:=rfl
theorem flat_ptr (x):flat (.ptr x) = false:=rfl
theorem flat_sl (a b c):flat (.sl a b c) = false:=rfl
theorem flat_agg (a):flat (.agg a) = false:=rfl
theorem flat_tup (a):flat (.tup a) = false:=rfl
theorem vis_i (hp k n):vis hp depth (.i k n) = []:=by show vis hp (8 + 1) _ = _;simp only[vis]
theorem vis_b (hp x):vis hp depth (.b x) = []:=by show vis hp (8 + 1) _ = _;simp only[vis]
theorem vis_s (hp x):vis hp depth (.s x) = []:=by show vis hp (8 + 1) _ = _;simp only[vis]
theorem vis_nilp (hp):vis hp depth .nilp = []:=by show vis hp (8 + 1) _ = _;simp only[vis]
theorem vis_ptr (hp x):vis hp depth (.ptr x) = []:=by show vis hp (8 + 1) _ = _;simp only[vis]
theorem vis_sl (hp a b c):vis hp depth (.sl a b c) = []:=by show vis hp (8 + 1) _ = _;simp only[vis]
theorem vis_fn0 (hp f):vis hp depth (.fn f [] []) = []:=by show vis hp (8 + 1) _ = _;simp only[vis,List.flatMap_nil,List.append_nil]
theorem isEmpty_nil:([]:List Nat).isEmpty = true:=rfl
def midQ (M:Env→G→Prop):Out→Env→G→Prop
 | .nrm,e,g => M e g
 | _,_,_ => False
theorem midQ_nrm {M e g}:midQ M .nrm e g = M e g:=rfl
theorem midQ_then {F:Funs} {rest Q} {M:Env→G→Prop} (h2:∀ e g,M e g→W F rest e g Q) (o e g) (h:midQ M o e g):thenQ F rest Q o e g:=by
 cases o with
 | nrm => exact h2 e g h
 | ext n => exact h.elim
 | ret => exact h.elim
theorem W_cut {F:Funs} {c rest e g Q} (M:Env→G→Prop) (h1:W F c e g (midQ M)) (h2:∀ e g,M e g→W F rest e g Q):W F c e g (thenQ F rest Q):=W_mono h1 (midQ_then h2)
theorem sel_cut {F:Funs} {t f rest e g Q v} (M:Env→G→Prop) (h1:selW F t f e g (midQ M) v) (h2:∀ e g,M e g→W F rest e g Q):selW F t f e g (thenQ F rest Q) v:=by
 cases v<;>simp only[selW] at h1 ⊢
 rename_i x
 cases x<;>exact W_mono h1 (midQ_then h2)
theorem frz_b_inv {hp:Nat→Option Blk} {k:Nat} {v:AV} {b:Bool} (h:frz hp (k + 1) v = some (.b b)):v = .b b:=by
 cases v with
 | b x => simp only[frz] at h;cases h;rfl
 | agg cs => simp only[frz] at h;cases hf:frzL hp k cs<;>rw[hf] at h<;>cases h
 | tup cs => simp only[frz] at h;cases hf:frzL hp k cs<;>rw[hf] at h<;>cases h
 | mp id off =>
   simp only[frz] at h
   split at h
   ·cases hf:frzL hp k (List.drop off _)<;>rw[hf] at h<;>cases h
   ·cases h
 | ms id off n =>
   simp only[frz] at h
   split at h
   ·cases hf:frzL hp k (List.drop off _)<;>rw[hf] at h<;>cases h
   ·cases h
 | fn f asx bs => simp only[frz] at h;split at h<;>cases h
 | ifc t w => simp only[frz] at h;cases hf:frz hp k w<;>rw[hf] at h<;>cases h
 | _ => simp only[frz] at h;cases h
theorem pureS_bool {F:Funs} {f:Nat} {asx:List AV} {b:Bool} (h:pureS F f asx = some (.b b)):∃ k g',callE F k f asx g0 = some (.b b,g'):=by
 unfold pureS at h
 split at h
 ·rename_i v g hc
  have:=frz_b_inv (k:=8) h
  subst this
  obtain ⟨k,hk⟩:=(callS_some F).1 hc
  exact ⟨k,g,hk⟩
 ·cases h
def retB (rs:List ARes) (P:Bool→Prop):Out→Env→G→Prop
 | .ext _,_,_ => False
 | _,e,g => ∃ b,resE rs e g = some (.b b)∧P b
theorem retB_nrm {rs P e g}:retB rs P .nrm e g = (∃ b,resE rs e g = some (.b b)∧P b):=rfl
theorem retB_ret {rs P e g}:retB rs P .ret e g = (∃ b,resE rs e g = some (.b b)∧P b):=rfl
theorem blk_cut {F:Funs} {c rest:ACode} {id:Nat} {e:Env} {g:G} {Q:Out→Env→G→Prop} (M:Env→G→Prop) (h1:W F c e g (blkQ id (midQ M))) (h2:∀ e g,M e g→W F rest e g Q):W F c e g (blkQ id (thenQ F rest Q)):=by
 refine W_mono h1 fun o e g h => ?_
 cases o with
 | nrm => exact h2 e g h
 | ret => exact h.elim
 | ext n =>
   have h:if n = id then midQ M .nrm e g else midQ M (.ext n) e g:=h
   show if n = id then thenQ F rest Q .nrm e g else thenQ F rest Q (.ext n) e g
   by_cases hn:n = id
   ·rw[if_pos hn] at h ⊢;exact h2 e g h
   ·rw[if_neg hn] at h;exact h.elim
def midR (Q:Out→Env→G→Prop) (M:Env→G→Prop):Out→Env→G→Prop
 | .nrm,e,g => M e g
 | .ret,e,g => Q .ret e g
 | .ext _,_,_ => False
theorem midR_nrm {Q M e g}:midR Q M .nrm e g = M e g:=rfl
theorem midR_ret {Q M e g}:midR Q M .ret e g = Q .ret e g:=rfl
theorem blk_cutR {F:Funs} {c rest:ACode} {id:Nat} {e:Env} {g:G} {Q:Out→Env→G→Prop} (M:Env→G→Prop) (h1:W F c e g (blkQ id (midR Q M))) (h2:∀ e g,M e g→W F rest e g Q):W F c e g (blkQ id (thenQ F rest Q)):=by
 refine W_mono h1 fun o e g h => ?_
 cases o with
 | nrm => exact h2 e g h
 | ret => exact h
 | ext n =>
   have h:if n = id then midR Q M .nrm e g else midR Q M (.ext n) e g:=h
   show if n = id then thenQ F rest Q .nrm e g else thenQ F rest Q (.ext n) e g
   by_cases hn:n = id
   ·rw[if_pos hn] at h ⊢;exact h2 e g h
   ·rw[if_neg hn] at h;exact h.elim
theorem wp:type_of% (And.intro (And.intro (And.intro (And.intro (And.intro (And.intro (And.intro @W_skip (And.intro @W_ext @W_ret)) (And.intro (And.intro @W_seq @thenQ_nrm) (And.intro @thenQ_ext @thenQ_ret))) (And.intro (And.intro (And.intro @W_cond @selW_true) (And.intro @selW_false @W_blk)) (And.intro (And.intro @blkQ_nrm @blkQ_ret) (And.intro @blkQ_same @blkQ_ne)))) (And.intro (And.intro (And.intro @W_reg (And.intro @nrmQ_is @WR_nil)) (And.intro (And.intro @WR_cons @selO_true) (And.intro @selO_false @bindO_some))) (And.intro (And.intro (And.intro @loopQ_nrm @loopQ_ext) (And.intro @loopQ_ret @wanted_none)) (And.intro (And.intro @wanted_some @wantV_1) (And.intro @wantV_0 @wantV_undef))))) (And.intro (And.intro (And.intro (And.intro @ev_t (And.intro @ev_c @put_some)) (And.intro (And.intro @put_none @upd_same) (And.intro @upd_ne @List.length_cons.{0}))) (And.intro (And.intro (And.intro @List.length_nil.{0} @List.map_cons.{0,0}) (And.intro @List.map_nil.{0,0} @allow_no)) (And.intro (And.intro @allow_lt @argEnv_0) (And.intro @argEnv_1 @argEnv_2)))) (And.intro (And.intro (And.intro (And.intro @argEnv_3 @argEnv_4) (And.intro @argEnv_5 @res_1)) (And.intro (And.intro @res_2 @retQ_nrm) (And.intro @retQ_ret @o_mv))) (And.intro (And.intro (And.intro @o_pick @vPick_t) (And.intro @vPick_f @o_new)) (And.intro (And.intro @o_box @vBox_S) (And.intro @boxD_ok @vMap_some)))))) (And.intro (And.intro (And.intro (And.intro (And.intro @vMapL_some (And.intro @o_build @o_ld)) (And.intro (And.intro @vLd_ptr @vLd_S) (And.intro @ldS_ok @selB_true))) (And.intro (And.intro (And.intro @o_st @vSt_S) (And.intro @stS_ok @stD_ok)) (And.intro (And.intro @o_nilck @vNil_ptr) (And.intro @vNil_mp @vNil_fn)))) (And.intro (And.intro (And.intro (And.intro @o_bin @o_un) (And.intro @o_mkfn @o_fa)) (And.intro (And.intro @vFa_mp @vFa_S) (And.intro @faD_ok @o_fld))) (And.intro (And.intro (And.intro @vFld_agg @o_ia) (And.intro @vIa_sl @vIa_ms)) (And.intro (And.intro @o_iaa @vIaa_ptr) (And.intro @vIaa_mp @o_len))))) (And.intro (And.intro (And.intro (And.intro @vLen_sl (And.intro @vLen_ms @o_mx)) (And.intro (And.intro @o_mn @vMx_i) (And.intro @vMn_i @o_ext))) (And.intro (And.intro (And.intro @vExt_tup @b_add) (And.intro @b_sub @b_mul)) (And.intro (And.intro @b_lss @b_leq) (And.intro @b_gtr @b_geq)))) (And.intro (And.intro (And.intro (And.intro @b_eql @b_neq) (And.intro @o_pure @List.nil_append.{0})) (And.intro (And.intro @List.append_nil.{0} @List.cons_append.{0}) (And.intro @frz_d_i @frz_d_b))) (And.intro (And.intro (And.intro @frz_d_s @frz_d_nilp) (And.intro @frz_d_ptr @frz_d_sl)) (And.intro (And.intro @frz_d_fn0 @Bool.not_true) (And.intro @Bool.not_false @Bool.true_and))))))) (And.intro (And.intro (And.intro (And.intro (And.intro (And.intro @Bool.and_true (And.intro @Bool.false_and @Bool.and_false)) (And.intro (And.intro @decide_true @decide_false) (And.intro @beq_self_eq_true.{0} @Bool.true_eq_false))) (And.intro (And.intro (And.intro @Bool.false_eq_true @Nat.zero_add) (And.intro @Nat.add_zero @Int.toNat_natCast)) (And.intro (And.intro @ge_iff_le.{0} @gt_iff_lt.{0}) (And.intro @fill_S @fillD_ok)))) (And.intro (And.intro (And.intro (And.intro @fill_nil @cellsOf_agg) (And.intro @cellsOf_i @cellsOf_b)) (And.intro (And.intro @cellsOf_s @cellsOf_ptr) (And.intro @cellsOf_nilp @cellsOf_sl))) (And.intro (And.intro (And.intro @cellsOf_mp @cellsOf_fn) (And.intro @one_i @one_b)) (And.intro (And.intro @one_s @one_ptr) (And.intro @one_nilp @one_sl))))) (And.intro (And.intro (And.intro (And.intro @one_mp (And.intro @one_fn @List.all_cons.{0})) (And.intro (And.intro @List.all_nil.{0} @splice_1) (And.intro @splice_2 @splice_3))) (And.intro (And.intro (And.intro @part_0 @part_1) (And.intro @part_2 @drop_0)) (And.intro (And.intro @g0_nx @g0_hp) (And.intro @List.set_cons_zero.{0} @List.set_cons_succ.{0})))) (And.intro (And.intro (And.intro (And.intro @List.length_append.{0} @List.length_replicate.{0}) (And.intro @eq_self.{1} @true_and)) (And.intro (And.intro @and_true @vPure_S) (And.intro @purS_some @purD_some))) (And.intro (And.intro (And.intro @purE_true @frzL_cons) (And.intro @frzL_nil @consO_ok)) (And.intro (And.intro @flat_i @flat_b) (And.intro @flat_s @flat_nilp)))))) (And.intro (And.intro (And.intro (And.intro (And.intro @flat_ptr (And.intro @flat_sl @flat_agg)) (And.intro (And.intro @flat_tup @vis_i) (And.intro @vis_b @vis_s))) (And.intro (And.intro (And.intro @vis_nilp @vis_ptr) (And.intro @vis_sl @vis_fn0)) (And.intro (And.intro @List.flatMap_cons.{0,0} @List.flatMap_nil.{0,0}) (And.intro @isEmpty_nil @Bool.true_or)))) (And.intro (And.intro (And.intro (And.intro @Bool.false_or @Bool.or_true) (And.intro @Bool.or_false @frz_P)) (And.intro (And.intro @frz_Q @frzP_cells) (And.intro @frzB_true @map_some'))) (And.intro (And.intro (And.intro @rd_S @o_bsl) (And.intro @vBsl_t @vBsl_f)) (And.intro (And.intro @o_app @appD_ok) (And.intro @vApp_rig @vApp_rig0))))) (And.intro (And.intro (And.intro (And.intro @appK_ok (And.intro @vApp_own @o_eqn)) (And.intro (And.intro @o_eqb @o_eqa) (And.intro @aeqn_pn @aeqn_np))) (And.intro (And.intro (And.intro @aeqn_mn @aeqn_nn) (And.intro @aeqb_bb @negb_t)) (And.intro (And.intro @negb_f @aun_not) (And.intro @midQ_nrm @part_3)))) (And.intro (And.intro (And.intro (And.intro @part_4 @part_5) (And.intro @cellsOf_ms @one_ms)) (And.intro (And.intro @Int.toNat_zero @Nat.zero_mul) (And.intro @o_stL @andLe_ok))) (And.intro (And.intro (And.intro @allow_hd @allow_h2) (And.intro @retB_nrm @retB_ret)) (And.intro (And.intro @midR_nrm @midR_ret) (And.intro @W_scp @W_lab)))))))):=(And.intro (And.intro (And.intro (And.intro (And.intro (And.intro (And.intro @W_skip (And.intro @W_ext @W_ret)) (And.intro (And.intro @W_seq @thenQ_nrm) (And.intro @thenQ_ext @thenQ_ret))) (And.intro (And.intro (And.intro @W_cond @selW_true) (And.intro @selW_false @W_blk)) (And.intro (And.intro @blkQ_nrm @blkQ_ret) (And.intro @blkQ_same @blkQ_ne)))) (And.intro (And.intro (And.intro @W_reg (And.intro @nrmQ_is @WR_nil)) (And.intro (And.intro @WR_cons @selO_true) (And.intro @selO_false @bindO_some))) (And.intro (And.intro (And.intro @loopQ_nrm @loopQ_ext) (And.intro @loopQ_ret @wanted_none)) (And.intro (And.intro @wanted_some @wantV_1) (And.intro @wantV_0 @wantV_undef))))) (And.intro (And.intro (And.intro (And.intro @ev_t (And.intro @ev_c @put_some)) (And.intro (And.intro @put_none @upd_same) (And.intro @upd_ne @List.length_cons.{0}))) (And.intro (And.intro (And.intro @List.length_nil.{0} @List.map_cons.{0,0}) (And.intro @List.map_nil.{0,0} @allow_no)) (And.intro (And.intro @allow_lt @argEnv_0) (And.intro @argEnv_1 @argEnv_2)))) (And.intro (And.intro (And.intro (And.intro @argEnv_3 @argEnv_4) (And.intro @argEnv_5 @res_1)) (And.intro (And.intro @res_2 @retQ_nrm) (And.intro @retQ_ret @o_mv))) (And.intro (And.intro (And.intro @o_pick @vPick_t) (And.intro @vPick_f @o_new)) (And.intro (And.intro @o_box @vBox_S) (And.intro @boxD_ok @vMap_some)))))) (And.intro (And.intro (And.intro (And.intro (And.intro @vMapL_some (And.intro @o_build @o_ld)) (And.intro (And.intro @vLd_ptr @vLd_S) (And.intro @ldS_ok @selB_true))) (And.intro (And.intro (And.intro @o_st @vSt_S) (And.intro @stS_ok @stD_ok)) (And.intro (And.intro @o_nilck @vNil_ptr) (And.intro @vNil_mp @vNil_fn)))) (And.intro (And.intro (And.intro (And.intro @o_bin @o_un) (And.intro @o_mkfn @o_fa)) (And.intro (And.intro @vFa_mp @vFa_S) (And.intro @faD_ok @o_fld))) (And.intro (And.intro (And.intro @vFld_agg @o_ia) (And.intro @vIa_sl @vIa_ms)) (And.intro (And.intro @o_iaa @vIaa_ptr) (And.intro @vIaa_mp @o_len))))) (And.intro (And.intro (And.intro (And.intro @vLen_sl (And.intro @vLen_ms @o_mx)) (And.intro (And.intro @o_mn @vMx_i) (And.intro @vMn_i @o_ext))) (And.intro (And.intro (And.intro @vExt_tup @b_add) (And.intro @b_sub @b_mul)) (And.intro (And.intro @b_lss @b_leq) (And.intro @b_gtr @b_geq)))) (And.intro (And.intro (And.intro (And.intro @b_eql @b_neq) (And.intro @o_pure @List.nil_append.{0})) (And.intro (And.intro @List.append_nil.{0} @List.cons_append.{0}) (And.intro @frz_d_i @frz_d_b))) (And.intro (And.intro (And.intro @frz_d_s @frz_d_nilp) (And.intro @frz_d_ptr @frz_d_sl)) (And.intro (And.intro @frz_d_fn0 @Bool.not_true) (And.intro @Bool.not_false @Bool.true_and))))))) (And.intro (And.intro (And.intro (And.intro (And.intro (And.intro @Bool.and_true (And.intro @Bool.false_and @Bool.and_false)) (And.intro (And.intro @decide_true @decide_false) (And.intro @beq_self_eq_true.{0} @Bool.true_eq_false))) (And.intro (And.intro (And.intro @Bool.false_eq_true @Nat.zero_add) (And.intro @Nat.add_zero @Int.toNat_natCast)) (And.intro (And.intro @ge_iff_le.{0} @gt_iff_lt.{0}) (And.intro @fill_S @fillD_ok)))) (And.intro (And.intro (And.intro (And.intro @fill_nil @cellsOf_agg) (And.intro @cellsOf_i @cellsOf_b)) (And.intro (And.intro @cellsOf_s @cellsOf_ptr) (And.intro @cellsOf_nilp @cellsOf_sl))) (And.intro (And.intro (And.intro @cellsOf_mp @cellsOf_fn) (And.intro @one_i @one_b)) (And.intro (And.intro @one_s @one_ptr) (And.intro @one_nilp @one_sl))))) (And.intro (And.intro (And.intro (And.intro @one_mp (And.intro @one_fn @List.all_cons.{0})) (And.intro (And.intro @List.all_nil.{0} @splice_1) (And.intro @splice_2 @splice_3))) (And.intro (And.intro (And.intro @part_0 @part_1) (And.intro @part_2 @drop_0)) (And.intro (And.intro @g0_nx @g0_hp) (And.intro @List.set_cons_zero.{0} @List.set_cons_succ.{0})))) (And.intro (And.intro (And.intro (And.intro @List.length_append.{0} @List.length_replicate.{0}) (And.intro @eq_self.{1} @true_and)) (And.intro (And.intro @and_true @vPure_S) (And.intro @purS_some @purD_some))) (And.intro (And.intro (And.intro @purE_true @frzL_cons) (And.intro @frzL_nil @consO_ok)) (And.intro (And.intro @flat_i @flat_b) (And.intro @flat_s @flat_nilp)))))) (And.intro (And.intro (And.intro (And.intro (And.intro @flat_ptr (And.intro @flat_sl @flat_agg)) (And.intro (And.intro @flat_tup @vis_i) (And.intro @vis_b @vis_s))) (And.intro (And.intro (And.intro @vis_nilp @vis_ptr) (And.intro @vis_sl @vis_fn0)) (And.intro (And.intro @List.flatMap_cons.{0,0} @List.flatMap_nil.{0,0}) (And.intro @isEmpty_nil @Bool.true_or)))) (And.intro (And.intro (And.intro (And.intro @Bool.false_or @Bool.or_true) (And.intro @Bool.or_false @frz_P)) (And.intro (And.intro @frz_Q @frzP_cells) (And.intro @frzB_true @map_some'))) (And.intro (And.intro (And.intro @rd_S @o_bsl) (And.intro @vBsl_t @vBsl_f)) (And.intro (And.intro @o_app @appD_ok) (And.intro @vApp_rig @vApp_rig0))))) (And.intro (And.intro (And.intro (And.intro @appK_ok (And.intro @vApp_own @o_eqn)) (And.intro (And.intro @o_eqb @o_eqa) (And.intro @aeqn_pn @aeqn_np))) (And.intro (And.intro (And.intro @aeqn_mn @aeqn_nn) (And.intro @aeqb_bb @negb_t)) (And.intro (And.intro @negb_f @aun_not) (And.intro @midQ_nrm @part_3)))) (And.intro (And.intro (And.intro (And.intro @part_4 @part_5) (And.intro @cellsOf_ms @one_ms)) (And.intro (And.intro @Int.toNat_zero @Nat.zero_mul) (And.intro @o_stL @andLe_ok))) (And.intro (And.intro (And.intro @allow_hd @allow_h2) (And.intro @retB_nrm @retB_ret)) (And.intro (And.intro @midR_nrm @midR_ret) (And.intro @W_scp @W_lab))))))))
end Go.Ab
end
section
set_option linter.unusedVariables false
set_option linter.unusedSimpArgs false
namespace Go.Ab
open Go.RowKit
def c0 (num:Nat→Nat) (w:World):Cx:=⟨num,w.heap.size,fun _ => True,w,fun _ => (0,0),fun _ => none⟩
theorem row_calls {P:Program} {num:Nat→Nat} {F:Funs} (hT:Table P num F) (hm:P.follows .mixedOrders = true) {f:Nat} {asx:List AV} {b:Bool} (h:pureS F f asx = some (.b b)) {w:World} {vargs:List Value} (hr:Reps (c0 num w) true asx vargs):
  Calls P (num f) vargs.toArray w (fun e w' => e = .returned (.bool b)∧Below w.heap.size w w'):=by
 obtain ⟨k,g',hk⟩:=pureS_bool h
 have K:Ok (c0 num w) 0:={
  basele:=Nat.le_refl _
  cells:=fun _ _ _ h => by cases h
  maps:=fun _ _ h => by cases h
  toks:=fun _ h => by cases h
  inj:=fun _ _ _ h => by obtain ⟨_,h,_⟩:=h;cases h
  fresh:=fun _ _ => rfl }
 have:=((callE_ok hT hm k).2 f asx g0 _ _ hk).2 (c0 num w) vargs rfl rfl K hr
 refine Calls.mono this.1 fun e w' ⟨val,c',h1,h2,E,_,_,hrep⟩ => ?_
 cases hrep
 exact ⟨h1,h2 ▸ E.below⟩
def intsC (l:List Int):List AV:=l.map fun v => .i .i64 v
def pairsC (l:List (Int × Int)):List AV:=l.flatMap fun p => [.i .i64 p.1,.i .i64 p.2]
theorem sh_ints {P:Program} {t e:TypeId} {x:AV} (ht:P.underlying t = some (.slice e)) (he:P.underlying e = some (.int .i64)) (h:Sh P 2 t [x]):
  ∃ l:List Int,x = .sl (intsC l) l.length .non∧l.length≤maxLen∧∀ n∈l,(Lit.int .i64 n).wf = true:=by
 simp only[Sh,ht,he] at h
 obtain ⟨cs,n,hx,hn,rows,hl,rfl,hS⟩:=h
 cases hx
 have key:∀ rows:List (List AV),(∀ r∈rows,∃ n,r = [AV.i .i64 n]∧(Lit.int .i64 n).wf = true)→∃ l:List Int,rows.flatten = intsC l∧l.length = rows.length∧∀ n∈l,(Lit.int .i64 n).wf = true:=by
  intro rows
  induction rows with
  | nil => intro _;exact ⟨[],rfl,rfl,fun _ h => by cases h⟩
  | cons r rows ih =>
    intro h
    obtain ⟨n,rfl,hn⟩:=h r (List.mem_cons_self ..)
    obtain ⟨l,h1,h2,h3⟩:=ih fun r hr => h r (List.mem_cons_of_mem _ hr)
    refine ⟨n :: l,by rw[List.flatten_cons,h1];rfl,by simp[h2],fun m hm => ?_⟩
    rcases List.mem_cons.1 hm with rfl | hm
    ·exact hn
    ·exact h3 m hm
 obtain ⟨l,h1,h2,h3⟩:=key rows hS
 exact ⟨l,by rw[h1,←hl,h2],by omega,h3⟩
end Go.Ab
end
section
set_option linter.unusedVariables false
set_option linter.unusedSimpArgs false
namespace Go.Ab
abbrev Rw:=Nat→BitVec 64
def U (x:BitVec 64):AV:=.i .u64 (x.toNat:Int)
def rowsC (R:Rw):List AV:=(List.range 40).map fun a => U (R a)
def relC (n:Nat) (R:Rw):List AV:=.i .i64 n :: rowsC R
theorem rowsC_len (R:Rw):(rowsC R).length = 40:=by simp[rowsC]
theorem relC_len (n:Nat) (R:Rw):(relC n R).length = 41:=by simp[relC,rowsC_len]
theorem rowsC_get {R:Rw} {a:Nat} (h:a < 40):(rowsC R)[a]? = some (U (R a)):=by
 simp[rowsC,h]
theorem relC_n (n:Nat) (R:Rw):part (relC n R) 0 none = some (.i .i64 n):=rfl
theorem relC_row {n:Nat} {R:Rw} {a:Nat} (h:a < 40):part (relC n R) (0 + 1 + a * 1) none = some (U (R a)):=by
 rw[show 0 + 1 + a * 1 = a + 1 by omega]
 simp only[part,relC,List.getElem?_cons_succ,rowsC_get h]
theorem relC_drop1 (n:Nat) (R:Rw):(relC n R).drop 1 = rowsC R:=rfl
theorem relC_row' {R:Rw} {a:Nat} (h:a < 40):part ((rowsC R).drop (a * 1)) 0 none = some (U (R a)):=by
 simp only[part,List.getElem?_drop,Nat.mul_one,Nat.add_zero,rowsC_get h]
theorem relC_set {n:Nat} {R:Rw} {a:Nat} {x:BitVec 64} (h:a < 40):splice (relC n R) (0 + 1 + a * 1) [U x] = relC n (upd R a x):=by
 rw[show 0 + 1 + a * 1 = a + 1 by omega]
 show (relC n R).set (a + 1) (U x) = _
 simp only[relC,List.set_cons_succ]
 congr 1
 refine List.ext_getElem? fun i => ?_
 rw[List.getElem?_set]
 by_cases hi:i < 40
 ·rw[rowsC_get hi]
  by_cases ha:a = i
  ·subst ha
   rw[if_pos rfl,if_pos (by rw[rowsC_len];exact h),rowsC_get hi,upd_same]
  ·have:i≠a:=fun h => ha h.symm
   rw[if_neg ha,rowsC_get hi,upd_ne _ _ this]
 ·have h1:(rowsC R)[i]? = none:=by rw[List.getElem?_eq_none];rw[rowsC_len];omega
  have h2:(rowsC (upd R a x))[i]? = none:=by rw[List.getElem?_eq_none];rw[rowsC_len];omega
  rw[h2,h1]
  have:a≠i:=by omega
  simp[this]
theorem relC_set' {n:Nat} {R:Rw} {a:Nat} {x:BitVec 64} (h:a < 40):(relC n R).set (0 + 1 + a * 1) (U x) = relC n (upd R a x):=relC_set h
theorem cellsOf_U (x:BitVec 64):cellsOf (U x) = [U x]:=rfl
theorem one_U (x:BitVec 64):one (U x) = true:=rfl
theorem relC_flat (n:Nat) (R:Rw):(relC n R).all flat = true:=by
 simp[relC,rowsC,U,flat]
theorem relC_one (n:Nat) (R:Rw):(relC n R).all one = true:=by
 simp[relC,rowsC,U,one]
def bit (b:Nat):BitVec 64:=1#64 <<< b
theorem u64_wrap {x:Nat} (h:x < 2 ^ 64):IntKind.u64.wrap (x:Int) = x:=by
 simp[IntKind.wrap,IntKind.bits,IntKind.signed,IntKind.min,IntKind.max]
 omega
theorem ofU (x:BitVec 64):BitVec.ofInt IntKind.u64.bits (x.toNat:Int) = x:=by
 show BitVec.ofInt 64 _ = _
 apply BitVec.eq_of_toNat_eq
 simp
theorem u_or (x y:BitVec 64):abin .or (U x) (U y) = some (U (x ||| y)):=by
 simp only[abin,U,ibin,if_true,ofU]
 show some (AV.i .u64 (IntKind.u64.wrap (((x ||| y:BitVec 64).toNat:Nat):Int))) = _
 rw[u64_wrap (x ||| y:BitVec 64).isLt]
theorem u_and (x y:BitVec 64):abin .and (U x) (U y) = some (U (x &&& y)):=by
 simp only[abin,U,ibin,if_true,ofU]
 show some (AV.i .u64 (IntKind.u64.wrap (((x &&& y:BitVec 64).toNat:Nat):Int))) = _
 rw[u64_wrap (x &&& y:BitVec 64).isLt]
theorem u_andNot (x y:BitVec 64):abin .andNot (U x) (U y) = some (U (x &&& ~~~ y)):=by
 simp only[abin,U,ibin,if_true,ofU]
 show some (AV.i .u64 (IntKind.u64.wrap (((x &&& ~~~ y:BitVec 64).toNat:Nat):Int))) = _
 rw[u64_wrap (x &&& ~~~ y:BitVec 64).isLt]
theorem u_shl {b:Int} (h0:0≤b) (h:b < 40):abin .shl (.i .u64 1) (.i .i64 b) = some (U (bit b.toNat)):=by
 obtain ⟨k,rfl⟩:∃ k:Nat,b = k:=⟨b.toNat,by omega⟩
 have hk:k < 40:=by omega
 simp only[abin,ishift]
 rw[if_neg (by omega)]
 rw[show min ((k:Int)).toNat IntKind.u64.bits = k by show min k 64 = k;omega]
 have h2:(2 ^ k:Nat) < 2 ^ 64:=Nat.pow_lt_pow_right (by omega) (by omega)
 have:(1:Int) * 2 ^ k = ((2 ^ k:Nat):Int):=by simp
 rw[this,u64_wrap h2]
 simp only[U,bit,Int.toNat_natCast,BitVec.toNat_shiftLeft,Nat.shiftLeft_eq]
 congr 2
 rw[show (1#64).toNat = 1 from rfl,Nat.one_mul,Nat.mod_eq_of_lt h2]
theorem u_test {x:BitVec 64} {b:Int} (h0:0≤b) (h:b < 40):∃ y:BitVec 64,abin .shr (U x) (.i .i64 b) = some (U y)∧abin .and (U y) (.i .u64 1) = some (U (y &&& 1#64))∧abin .neq (U (y &&& 1#64)) (.i .u64 0) = some (.b (x.getLsbD b.toNat)):=by
 obtain ⟨k,rfl⟩:∃ k:Nat,b = k:=⟨b.toNat,by omega⟩
 have hk:k < 40:=by omega
 refine ⟨x >>> k,?_,u_and _ 1#64,?_⟩
 ·simp only[abin,ishift,U]
  rw[if_neg (by omega)]
  rw[show min ((k:Int)).toNat IntKind.u64.bits = k by show min k 64 = k;omega]
  simp only[BitVec.toNat_ushiftRight,Nat.shiftRight_eq_div_pow]
  congr 2
  have:(2:Int) ^ k = ((2 ^ k:Nat):Int):=by simp
  rw[this,Int.fdiv_eq_ediv_of_nonneg _ (Int.natCast_nonneg _)]
  norm_cast
 ·rw[show (AV.i .u64 0) = U 0#64 from rfl]
  simp only[U,b_neq]
  congr 2
  simp only[Int.toNat_natCast]
  have key:((x >>> k) &&& 1#64).toNat = if x.getLsbD k then 1 else 0:=by
   rw[BitVec.toNat_and,BitVec.toNat_ushiftRight]
   simp[Nat.and_one_is_mod,BitVec.getLsbD,Nat.testBit,Nat.and_comm]
   split<;>omega
  rw[key]
  split<;>simp_all
theorem splice_rel (n:Nat) (R:Rw):splice (.i .i64 0 :: List.replicate 40 (.i .u64 0)) 0 (relC n R) = relC n R:=by
 have h:∀ (cs vs:List AV) (a b:AV),vs.length = cs.length→splice (a :: cs) 0 (b :: vs) = b :: vs:=by
  intro cs vs a b h
  cases vs with
  | nil => cases cs<;>first | rfl | simp at h
  | cons v vs =>
    show [] ++ (b :: v :: vs) ++ List.drop (0 + (b :: v :: vs).length) (a :: cs) = _
    rw[List.drop_eq_nil_of_le (by simp at h ⊢;omega)]
    simp
 exact h _ _ _ _ (by simp[rowsC_len])
theorem part_rel (n:Nat) (R:Rw):part (relC n R) 0 (some 41) = some (.agg (relC n R)):=by
 simp[part,relC_len]
 rw[List.take_of_length_le (by rw[relC_len];omega)]
theorem frz_U (hp x):frz hp depth (U x) = some (U x):=frz_d_i hp .u64 _
theorem flat_U (x):flat (U x) = true:=rfl
theorem vis_U (hp x):vis hp depth (U x) = []:=vis_i hp .u64 _
theorem relC_congr {n:Nat} {R S:Rw} (h:∀ a,a < 40→R a = S a):relC n R = relC n S:=by
 unfold relC rowsC
 congr 1
 exact List.map_congr_left fun a ha => by rw[h a (List.mem_range.1 ha)]
theorem part_rows (R:Rw):part (rowsC R) 0 (some 40) = some (.agg (rowsC R)):=by
 simp[part,rowsC_len]
 rw[List.take_of_length_le (by rw[rowsC_len];omega)]
theorem cellsEq_U:∀ l:List (BitVec 64),cellsEq (List.replicate l.length 0) (l.map U) (List.replicate l.length (.i .u64 0)) = some (l.all (· == 0#64))
 | [] => rfl
 | x :: l => by
   simp only[List.length_cons,List.replicate_succ,List.map_cons,cellsEq,cellsEq_U l,List.all_cons]
   show (match cellEq 0 (U x) (.i .u64 0),some (l.all (· == 0#64)) with | some a,some b => some (a && b) | _,_ => none) = _
   have:cellEq 0 (U x) (.i .u64 0) = some (x == 0#64):=by
    simp only[U,cellEq,if_true]
    congr 1
    by_cases h:x = 0#64
    ·subst h;rfl
    ·have:x.toNat≠0:=fun h' => h (BitVec.eq_of_toNat_eq (by simpa using h'))
     rw[Bool.eq_iff_iff]
     simp[h];omega
   rw[this]
def noneR (R:Rw):Bool:=(List.range 40).all fun a => R a == 0#64
theorem eqa_rows (R:Rw):aeqa (List.replicate 40 0) (.agg (rowsC R)) (.agg (List.replicate 40 (.i .u64 0))) = some (noneR R):=by
 have:=cellsEq_U ((List.range 40).map R)
 simp only[List.length_map,List.length_range,List.map_map] at this
 show cellsEq _ _ _ = _
 unfold rowsC noneR
 rw[show (fun a => U (R a)) = U ∘ R from rfl,this,List.all_map]
 rfl
theorem rl:type_of% (And.intro (And.intro (And.intro (And.intro @relC_n @relC_row) (And.intro @relC_row' (And.intro @relC_drop1 @relC_len))) (And.intro (And.intro @rowsC_len (And.intro @relC_one @relC_flat)) (And.intro @cellsOf_U (And.intro @one_U @frz_U)))) (And.intro (And.intro (And.intro @flat_U @vis_U) (And.intro @relC_set' (And.intro @u_shl @u_or))) (And.intro (And.intro @u_and (And.intro @u_andNot @part_rel)) (And.intro @splice_rel (And.intro @part_rows @eqa_rows))))):=(And.intro (And.intro (And.intro (And.intro @relC_n @relC_row) (And.intro @relC_row' (And.intro @relC_drop1 @relC_len))) (And.intro (And.intro @rowsC_len (And.intro @relC_one @relC_flat)) (And.intro @cellsOf_U (And.intro @one_U @frz_U)))) (And.intro (And.intro (And.intro @flat_U @vis_U) (And.intro @relC_set' (And.intro @u_shl @u_or))) (And.intro (And.intro @u_and (And.intro @u_andNot @part_rel)) (And.intro @splice_rel (And.intro @part_rows @eqa_rows)))))
end Go.Ab
end
section
set_option linter.unusedVariables false
set_option linter.unusedSimpArgs false
namespace Go.Ab
variable {F:Funs}
def has (n:Nat) (R:Rw) (a b:Int):Bool:=decide (0≤a∧a < n∧0≤b∧b < n) && (R a.toNat).getLsbD b.toNat
theorem sp_has (pk:Pk_rel F) {n:Nat} (hn:n≤40) (R:Rw) (a b:Int):pureS F 13 [.ptr (relC n R),.i .i64 a,.i .i64 b] = some (.b (has n R a b)):=by
 refine pure_of pk.rel_Rel_Has ?_
 have hl:=relC_len n R
 by_cases h1:0≤a
 ·by_cases h2:a < n
  ·by_cases h3:0≤b
   ·by_cases h4:b < n
    ·obtain ⟨y,hy1,hy2,hy3⟩:=u_test (x:=R a.toNat) h3 (by omega)
     have h5:(0:Int)≤a:=h1
     simp (disch:=omega) only[A_rel_Rel_Has,wp,qa,qb,qc,h1,h2,h3,h4,hl,drop_0,relC_n,relC_drop1,relC_row',hy1,hy2,hy3]
     simp[has,h1,h2,h3,h4]
    ·simp (disch:=omega) only[A_rel_Rel_Has,wp,qa,qb,qc,h1,h2,h3,h4,hl,drop_0,relC_n]
     simp[has,h4]
   ·simp (disch:=omega) only[A_rel_Rel_Has,wp,qa,qb,qc,h1,h2,h3,hl,drop_0,relC_n]
    simp[has,h3]
  ·simp (disch:=omega) only[A_rel_Rel_Has,wp,qa,qb,qc,h1,h2,hl,drop_0,relC_n]
   simp[has,h2]
 ·simp (disch:=omega) only[A_rel_Rel_Has,wp,qa,qb,qc,h1,hl,drop_0,relC_n]
  simp[has,h1]
end Go.Ab
end
section
set_option linter.unusedVariables false
set_option linter.unusedSimpArgs false
namespace Go.Ab
variable {F:Funs}
theorem pairsC_len (l:List (Int × Int)):(pairsC l).length = l.length * 2:=by
 induction l with
 | nil => rfl
 | cons p l ih => simp only[pairsC,List.flatMap_cons,List.length_append,List.length_cons,List.length_nil] at ih ⊢;omega
theorem pairs_part:∀ {l:List (Int × Int)} {k:Nat} (h:k < l.length),part ((pairsC l).drop (k * 2)) 0 (some 2) = some (.agg [.i .i64 (l.getD k (0,0)).1,.i .i64 (l.getD k (0,0)).2])
 | p :: l,0,_ => by simp[pairsC,part]
 | p :: l,k + 1,h => by
   have:=pairs_part (l:=l) (k:=k) (by simpa using h)
   simp only[List.getD_cons_succ]
   rw[←this]
   simp[pairsC,Nat.succ_mul]
def inR (n:Nat) (p:Int × Int):Bool:=decide (0≤p.1∧p.1 < n∧0≤p.2∧p.2 < n)
def addR (n:Nat) (R:Rw) (p:Int × Int):Rw:=if inR n p then upd R p.1.toNat (R p.1.toNat ||| bit p.2.toNat) else R
def newR (n:Nat) (l:List (Int × Int)):Rw:=l.foldl (addR n) (fun _ => 0)
def clamp (n:Int):Nat:=(max 0 (min n 40)).toNat
theorem clamp_le (n:Int):clamp n≤40:=by unfold clamp;omega
theorem newR_take {n:Nat} {l:List (Int × Int)} {k:Nat} (h:k < l.length):newR n (l.take (k + 1)) = addR n (newR n (l.take k)) (l.getD k (0,0)):=by
 unfold newR
 rw[List.take_add_one,List.foldl_append,List.getElem?_eq_getElem h,List.getD_eq_getElem?_getD,List.getElem?_eq_getElem h]
 rfl
theorem i64_wrap {x:Int} (h:-9223372036854775808≤x) (h2:x≤9223372036854775807):IntKind.i64.wrap x = x:=by
 simp[IntKind.wrap,IntKind.bits,IntKind.signed,IntKind.min,IntKind.max]
 omega
theorem sp_new (pk:Pk_rel F) (n:Int) (l:List (Int × Int)) (t:Tok) (hlen:l.length < 9000000000000000000):pureS F 11 [.i .i64 n,.sl (pairsC l) l.length t] = some (.ptr (relC (clamp n) (newR (clamp n) l))):=by
 refine pure_of pk.rel_New ?_
 have hc:(if (40:Int) < n then (40:Int) else n) = min n 40:=by split<;>omega
 have hc0:(if (0:Int) < min n 40 then min n 40 else 0) = clamp n:=by unfold clamp;split<;>omega
 have hz:AV.i .i64 (clamp n) :: List.replicate 40 (.i .u64 0) = relC (clamp n) (fun _ => 0):=rfl
 simp (disch:=omega) only[A_rel_New,wp,qa,qb,qc,hc,hc0,hz,relC_one,List.all_append,List.all_replicate]
 refine W_loop (fun m e g => ∃ k,m = l.length - k∧k≤l.length∧e 13 = .sl (pairsC l) l.length t∧e 14 = .i .i64 l.length∧e 15 = .i .i64 k∧e 5 = .mp 5 0∧g.hp 5 = some (.cells (relC (clamp n) (newR (clamp n) (l.take k))) false)∧5 < g.nx) l.length ?_ ?_
 ·refine ⟨0,rfl,Nat.zero_le _,?_⟩
  simp (disch:=omega) only[wp,qa,qb,qc]
  exact ⟨rfl,rfl,by omega⟩
 ·rintro m e g ⟨k,rfl,hk,h13,h14,h15,h5,hg,hn⟩
  have hcl:=clamp_le n
  by_cases hk':k < l.length
  ·have hk1:(k:Int) < l.length:=by omega
   have hp:=pairs_part hk'
   have hw:IntKind.i64.wrap ((k:Int) + 1) = ((k + 1:Nat):Int):=by rw[i64_wrap (by omega) (by omega)];omega
   have ht:=newR_take (n:=clamp n) hk'
   have n1:5≠g.nx + 1 + 2:=by omega
   have n2:g.nx + 1 + 2≠5:=by omega
   generalize l.getD k (0,0) = p at hp ht
   obtain ⟨a,b⟩:=p
   by_cases h1:0≤a
   ·by_cases h2:a < clamp n
    ·by_cases h3:0≤b
     ·by_cases h4:b < clamp n
      ·simp (disch:=omega) only[wp,qa,qb,qc,h13,h14,h15,h5,hk1,hp,hg,h1,h2,h3,h4,hw,relC_n,relC_row,u_shl,u_or,relC_len,cellsOf_U,one_U,relC_set']
       refine ⟨_,?_,k + 1,rfl,by omega,rfl,?_,by show 5 < _;omega⟩
       ·omega
       ·rw[ht]
        simp[addR,inR,h1,h2,h3,h4]
      ·simp (disch:=omega) only[wp,qa,qb,qc,h13,h14,h15,h5,hk1,hp,hg,h1,h2,h3,h4,hw,relC_n]
       refine ⟨_,?_,k + 1,rfl,by omega,rfl,?_,by show 5 < _;omega⟩
       ·omega
       ·rw[ht]
        simp[addR,inR,h4]
     ·simp (disch:=omega) only[wp,qa,qb,qc,h13,h14,h15,h5,hk1,hp,hg,h1,h2,h3,hw,relC_n]
      refine ⟨_,?_,k + 1,rfl,by omega,rfl,?_,by show 5 < _;omega⟩
      ·omega
      ·rw[ht]
       simp[addR,inR,h3]
    ·simp (disch:=omega) only[wp,qa,qb,qc,h13,h14,h15,h5,hk1,hp,hg,h1,h2,hw,relC_n]
     refine ⟨_,?_,k + 1,rfl,by omega,rfl,?_,by show 5 < _;omega⟩
     ·omega
     ·rw[ht]
      simp[addR,inR,h2]
   ·simp (disch:=omega) only[wp,qa,qb,qc,h13,h14,h15,h5,hk1,hp,hg,h1,hw,relC_n]
    refine ⟨_,?_,k + 1,rfl,by omega,rfl,?_,by show 5 < _;omega⟩
    ·omega
    ·rw[ht]
     simp[addR,inR,h1]
  ·have:k = l.length:=by omega
   subst this
   have hk1:¬ ((l.length:Int) < l.length):=by omega
   simp (disch:=omega) only[wp,qa,qb,qc,h13,h14,h15,h5,hk1,hg,relC_flat,List.take_length]
end Go.Ab
end
section
set_option linter.unusedVariables false
set_option linter.unusedSimpArgs false
namespace Go.Ab
variable {F:Funs}
theorem succ_wrap {k:Nat} (h:k < 9000000000000000000):IntKind.i64.wrap ((k:Int) + 1) = ((k + 1:Nat):Int):=by rw[i64_wrap (by omega) (by omega)];omega
def stepP (n b:Nat) (R:Rw) (a:Nat):Rw:=if has n R a b then upd R a (R a ||| R b) else R
def rowP (n b k:Nat) (R:Rw):Rw:=(List.range k).foldl (stepP n b) R
def plusK (n k:Nat) (R:Rw):Rw:=(List.range k).foldl (fun R b => rowP n b n R) R
def plusR (n:Nat) (R:Rw):Rw:=plusK n n R
theorem rowP_succ (n b k R):rowP n b (k + 1) R = stepP n b (rowP n b k R) k:=by simp[rowP,List.range_succ]
theorem plusK_succ (n k R):plusK n (k + 1) R = rowP n k n (plusK n k R):=by simp[plusK,List.range_succ]
theorem sp_plus (pk:Pk_rel F) {n:Nat} (hn:n≤40) (R:Rw):pureS F 12 [.ptr (relC n R)] = some (.ptr (relC n (plusR n R))):=by
 refine pure_of pk.rel_Rel_Plus ?_
 simp (disch:=omega) only[A_rel_Rel_Plus,wp,qa,qb,qc,rl]
 refine W_loop (fun m e g => ∃ k,m = n - k∧k≤n∧e 0 = .ptr (relC n R)∧e 12 = .i .i64 n∧e 13 = .i .i64 k∧e 3 = .mp 4 0∧g.hp 4 = some (.cells (relC n (plusK n k R)) false)∧4 < g.nx) n ?_ ?_
 ·refine ⟨0,rfl,Nat.zero_le _,?_⟩
  simp (disch:=omega) only[wp,qa,qb,qc]
  exact ⟨rfl,rfl,by omega⟩
 ·rintro m e g ⟨k,rfl,hk,h0,h12,h13,h3,hg,hnx⟩
  by_cases hk':k < n
  ·have hk1:(k:Int) < n:=by omega
   have hw:=succ_wrap (k:=k) (by omega)
   simp (disch:=omega) only[wp,qa,qb,qc,h0,h12,h13,h3,hk1,rl]
   refine W_loop (fun m e g => ∃ j,m = n - j∧j≤n∧e 0 = .ptr (relC n R)∧e 12 = .i .i64 n∧e 13 = .i .i64 k∧e 3 = .mp 4 0∧e 4 = .i .i64 k∧e 19 = .i .i64 n∧e 20 = .i .i64 j∧g.hp 4 = some (.cells (relC n (rowP n k j (plusK n k R))) false)∧4 < g.nx) n ?_ ?_
   ·refine ⟨0,rfl,Nat.zero_le _,?_⟩
    simp (disch:=omega) only[wp,qa,qb,qc,h0,h12,h13,h3,hg]
    exact ⟨rfl,rfl,by omega⟩
   ·rintro m e g ⟨j,rfl,hj,h0,h12,h13,h3,h4,h19,h20,hg,hnx⟩
    by_cases hj':j < n
    ·have hj1:(j:Int) < n:=by omega
     have hwj:=succ_wrap (k:=j) (by omega)
     by_cases hh:has n (rowP n k j (plusK n k R)) j k = true
     ·simp (disch:=omega) only[wp,qa,qb,qc,h0,h12,h13,h3,h4,h19,h20,hj1,hg,rl,sp_has pk hn,hh,hwj]
      refine ⟨_,?_,j + 1,rfl,by omega,rfl,?_,by show 4 < _;omega⟩
      ·omega
      ·rw[rowP_succ,stepP,if_pos hh]
     ·simp (disch:=omega) only[wp,qa,qb,qc,h0,h12,h13,h3,h4,h19,h20,hj1,hg,rl,sp_has pk hn,hh,hwj]
      refine ⟨_,?_,j + 1,rfl,by omega,rfl,?_,by show 4 < _;omega⟩
      ·omega
      ·rw[rowP_succ,stepP,if_neg hh]
    ·obtain rfl:j = n:=by omega
     have hj1:¬ ((j:Int) < j):=by omega
     simp (disch:=omega) only[wp,qa,qb,qc,h0,h12,h13,h3,h4,h19,h20,hj1,hg,hw]
     refine ⟨_,?_,k + 1,rfl,by omega,rfl,?_,by show 4 < _;omega⟩
     ·omega
     ·rw[plusK_succ]
  ·obtain rfl:k = n:=by omega
   have hk1:¬ ((k:Int) < k):=by omega
   simp (disch:=omega) only[wp,qa,qb,qc,h0,h12,h13,h3,hk1,hg,rl]
   rfl
end Go.Ab
end
section
set_option linter.unusedVariables false
set_option linter.unusedSimpArgs false
namespace Go.Ab
variable {F:Funs}
def maybeK (k:Nat) (R:Rw):Rw:=(List.range k).foldl (fun R a => upd R a (R a ||| bit a)) R
theorem maybeK_succ (k R):maybeK (k + 1) R = upd (maybeK k R) k (maybeK k R k ||| bit k):=by simp[maybeK,List.range_succ]
theorem sp_maybe (pk:Pk_rel F) {n:Nat} (hn:n≤40) (R:Rw):pureS F 16 [.ptr (relC n R)] = some (.ptr (relC n (maybeK n R))):=by
 refine pure_of pk.rel_Rel_Maybe ?_
 simp (disch:=omega) only[A_rel_Rel_Maybe,wp,qa,qb,qc,rl]
 refine W_loop (fun m e g => ∃ k,m = n - k∧k≤n∧e 11 = .i .i64 n∧e 12 = .i .i64 k∧e 3 = .mp 4 0∧g.hp 4 = some (.cells (relC n (maybeK k R)) false)∧4 < g.nx) n ?_ ?_
 ·refine ⟨0,rfl,Nat.zero_le _,?_⟩
  simp (disch:=omega) only[wp,qa,qb,qc]
  exact ⟨rfl,rfl,by omega⟩
 ·rintro m e g ⟨k,rfl,hk,h11,h12,h3,hg,hnx⟩
  by_cases hk':k < n
  ·have hk1:(k:Int) < n:=by omega
   have hw:=succ_wrap (k:=k) (by omega)
   simp (disch:=omega) only[wp,qa,qb,qc,h11,h12,h3,hk1,hg,rl,hw]
   refine ⟨_,?_,k + 1,rfl,by omega,rfl,?_,by show 4 < _;omega⟩
   ·omega
   ·rw[maybeK_succ]
  ·obtain rfl:k = n:=by omega
   have hk1:¬ ((k:Int) < k):=by omega
   simp (disch:=omega) only[wp,qa,qb,qc,h11,h12,h3,hk1,hg,rl]
def rowPr (n:Nat) (R:Rw) (a j:Nat):List (Int × Int):=((List.range j).filter fun (b:Nat) => has n R a b).map fun (b:Nat) => ((a:Int),(b:Int))
def pairsK (n k:Nat) (R:Rw):List (Int × Int):=(List.range k).flatMap fun a => rowPr n R a n
def pairsR (n:Nat) (R:Rw):List (Int × Int):=pairsK n n R
theorem pairsK_succ (n k R):pairsK n (k + 1) R = pairsK n k R ++ rowPr n R k n:=by simp[pairsK,List.range_succ]
theorem rowPr_succ (n R a j):rowPr n R a (j + 1) = if has n R a j then rowPr n R a j ++ [((a:Int),(j:Int))] else rowPr n R a j:=by
 unfold rowPr
 rw[List.range_succ,List.filter_append,List.filter_cons]
 split<;>simp
def partL (n k j:Nat) (R:Rw):List (Int × Int):=pairsK n k R ++ rowPr n R k j
theorem partL_0 (n k R):partL n k 0 R = pairsK n k R:=by simp[partL,rowPr]
theorem partL_n (n k R):partL n k n R = pairsK n (k + 1) R:=(pairsK_succ n k R).symm
theorem partL_succ (n k j R):partL n k (j + 1) R = if has n R k j then partL n k j R ++ [((k:Int),(j:Int))] else partL n k j R:=by
 unfold partL
 rw[rowPr_succ];split<;>simp
theorem pairsC_app (l m:List (Int × Int)):pairsC (l ++ m) = pairsC l ++ pairsC m:=by simp[pairsC]
theorem pairsC_one (a b:Int):pairsC [(a,b)] = [.i .i64 a,.i .i64 b]:=rfl
def Live (g:G) (esz:Nat) (t:Tok):Prop:=t = .rig∨∃ τ,t = .own τ esz∧g.hp τ = some (.tok true)∧τ < g.nx
theorem sp_pairs (pk:Pk_rel F) {n:Nat} (hn:n≤40) (R:Rw):pureS F 15 [.ptr (relC n R)] = some (.sl (pairsC (pairsR n R)) (pairsR n R).length .non):=by
 refine pure_of pk.rel_Rel_Pairs ?_
 simp (disch:=omega) only[A_rel_Rel_Pairs,wp,qa,qb,qc,rl]
 refine W_loop (fun m e g => ∃ k t,m = n - k∧k≤n∧e 0 = .ptr (relC n R)∧e 9 = .i .i64 n∧e 10 = .i .i64 k∧e 3 = .sl (pairsC (pairsK n k R)) (pairsK n k R).length t∧Live g 2 t∧(pairsK n k R).length≤40 * k) n ?_ ?_
 ·refine ⟨0,.rig,rfl,Nat.zero_le _,?_⟩
  simp (disch:=omega) only[wp,qa,qb,qc]
  exact ⟨rfl,rfl,.inl rfl,Nat.zero_le _⟩
 ·rintro m e g ⟨k,t,rfl,hk,h0,h9,h10,h3,ht,hl⟩
  by_cases hk':k < n
  ·have hk1:(k:Int) < n:=by omega
   have hw:=succ_wrap (k:=k) (by omega)
   simp (disch:=omega) only[wp,qa,qb,qc,h0,h9,h10,h3,hk1,rl]
   refine W_loop (fun m e g => ∃ j t,m = n - j∧j≤n∧e 0 = .ptr (relC n R)∧e 9 = .i .i64 n∧e 10 = .i .i64 k∧e 4 = .i .i64 k∧e 16 = .i .i64 n∧e 17 = .i .i64 j∧e 3 = .sl (pairsC (partL n k j R)) (partL n k j R).length t∧Live g 2 t∧(partL n k j R).length≤40 * k + j) n ?_ ?_
   ·refine ⟨0,t,rfl,Nat.zero_le _,?_⟩
    simp (disch:=omega) only[wp,qa,qb,qc,h0,h9,h10,h3]
    rw[partL_0]
    refine ⟨rfl,rfl,?_,by omega⟩
    rcases ht with rfl | ⟨τ,rfl,hτ,hlt⟩
    ·exact .inl rfl
    ·exact .inr ⟨τ,rfl,hτ,Nat.lt_of_lt_of_le hlt (by dsimp only;omega)⟩
   ·rintro m e g ⟨j,t,rfl,hj,h0,h9,h10,h4,h16,h17,h3,ht,hl⟩
    have hLn:=partL_succ n k j R
    by_cases hj':j < n
    ·have hj1:(j:Int) < n:=by omega
     have hwj:=succ_wrap (k:=j) (by omega)
     by_cases hh:has n R k j = true
     ·rw[if_pos hh] at hLn
      rcases ht with rfl | ⟨τ,rfl,hτ,hlt⟩
      ·simp (disch:=omega) only[wp,qa,qb,qc,h0,h9,h10,h4,h16,h17,h3,hj1,rl,sp_has pk hn,hh,hwj,pairsC_len]
       refine ⟨n - (j + 1),?_,j + 1,?_⟩
       ·omega
       ·rw[hLn,pairsC_app,pairsC_one,List.length_append]
        exact ⟨_,rfl,by omega,rfl,rfl,.inr ⟨_,rfl,upd_same _ _ _,by dsimp only;omega⟩,by simp;omega⟩
      ·simp (disch:=omega) only[wp,qa,qb,qc,h0,h9,h10,h4,h16,h17,h3,hj1,rl,sp_has pk hn,hh,hwj,pairsC_len,hτ]
       refine ⟨n - (j + 1),?_,j + 1,?_⟩
       ·omega
       ·rw[hLn,pairsC_app,pairsC_one,List.length_append]
        exact ⟨_,rfl,by omega,rfl,rfl,.inr ⟨_,rfl,upd_same _ _ _,by dsimp only;omega⟩,by simp;omega⟩
     ·rw[if_neg hh] at hLn
      simp (disch:=omega) only[wp,qa,qb,qc,h0,h9,h10,h4,h16,h17,h3,hj1,rl,sp_has pk hn,hh,hwj]
      refine ⟨_,?_,j + 1,t,rfl,by omega,rfl,?_⟩
      ·omega
      ·rw[hLn]
       refine ⟨rfl,?_,by omega⟩
       rcases ht with rfl | ⟨τ,rfl,hτ,hlt⟩
       ·exact .inl rfl
       ·exact .inr ⟨τ,rfl,hτ,Nat.lt_of_lt_of_le hlt (by dsimp only;omega)⟩
    ·obtain rfl:j = n:=by omega
     have hj1:¬ ((j:Int) < j):=by omega
     simp (disch:=omega) only[wp,qa,qb,qc,h0,h9,h10,h4,h16,h17,h3,hj1,hw]
     refine ⟨_,?_,k + 1,t,rfl,by omega,rfl,?_⟩
     ·omega
     ·rw[←partL_n]
      refine ⟨rfl,?_,by omega⟩
      rcases ht with rfl | ⟨τ,rfl,hτ,hlt⟩
      ·exact .inl rfl
      ·exact .inr ⟨τ,rfl,hτ,Nat.lt_of_lt_of_le hlt (by dsimp only;omega)⟩
  ·obtain rfl:k = n:=by omega
   have hk1:¬ ((k:Int) < k):=by omega
   simp (disch:=omega) only[wp,qa,qb,qc,h0,h9,h10,h3,hk1,rl]
   rfl
end Go.Ab
end
section
set_option linter.unusedVariables false
set_option linter.unusedSimpArgs false
namespace Go.Ab
variable {F:Funs}
def byK (φ:BitVec 64→BitVec 64→BitVec 64) (R S:Rw) (k:Nat):Rw:=fun a => if a < k then φ (R a) (S a) else 0
theorem byK_succ (φ R S k):upd (byK φ R S k) k (φ (R k) (S k)) = byK φ R S (k + 1):=by
 funext a
 unfold upd byK
 by_cases h:a = k
 ·subst h;simp
 ·rw[if_neg h]
  by_cases h2:a < k
  ·rw[if_pos h2,if_pos (by omega)]
  ·rw[if_neg h2,if_neg (by omega)]
theorem maxI (n m:Nat):(if (n:Int) < m then (m:Int) else n) = ((max n m:Nat):Int):=by split<;>omega
theorem sp_by (pk:Pk_rel F) {n m:Nat} (hn:n≤40) (hm:m≤40) (R S:Rw) {fid:Nat} {φ:BitVec 64→BitVec 64→BitVec 64} (hφ:∀ x y,pureS F fid [U x,U y] = some (U (φ x y))):
  pureS F 51 [.ptr (relC n R),.ptr (relC m S),.fn fid [] []] = some (.ptr (relC (max n m) fun a => φ (R a) (S a))):=by
 refine pure_of pk.rel_Rel_by ?_
 have hz:AV.i .i64 (max n m:Nat) :: List.replicate 40 (.i .u64 0) = relC (max n m) (byK φ R S 0):=rfl
 simp (disch:=omega) only[A_rel_Rel_by,wp,qa,qb,qc,rl,maxI,hz,List.all_append,List.all_replicate]
 refine W_loop (fun q e g => ∃ k,q = 40 - k∧k≤40∧e 0 = .ptr (relC n R)∧e 1 = .ptr (relC m S)∧e 2 = .fn fid [] []∧e 20 = .i .i64 k∧e 7 = .mp 11 0∧g.hp 11 = some (.cells (relC (max n m) (byK φ R S k)) false)∧11 < g.nx) 40 ?_ ?_
 ·refine ⟨0,rfl,Nat.zero_le _,?_⟩
  simp (disch:=omega) only[wp,qa,qb,qc]
  exact ⟨rfl,by omega⟩
 ·rintro q e g ⟨k,rfl,hk,h0,h1,h2,h20,h7,hg,hnx⟩
  by_cases hk':k < 40
  ·have hk1:(k:Int) < 40:=by omega
   have hw:=succ_wrap (k:=k) (by omega)
   simp (disch:=omega) only[wp,qa,qb,qc,h0,h1,h2,h20,h7,hk1,hg,rl,hw,hφ,byK_succ]
   refine ⟨40 - (k + 1),?_,k + 1,rfl,by omega,rfl,rfl,by first | omega | (dsimp only;omega)⟩
   omega
  ·obtain rfl:k = 40:=by omega
   have hk1:¬ (((40:Nat):Int) < 40):=by omega
   simp (disch:=omega) only[wp,qa,qb,qc,h0,h1,h2,h20,h7,hg,rl,hk1]
   rw[relC_congr (R:=byK φ R S 40) (S:=fun a => φ (R a) (S a)) (fun a ha => by simp[byK,ha])]
theorem sp_or1 (pk:Pk_rel F) (x y:BitVec 64):pureS F 53 [U x,U y] = some (U (x ||| y)):=by
 refine pure_of pk.rel_Rel_Or_1 ?_
 simp (disch:=omega) only[A_rel_Rel_Or_1,wp,qa,qb,qc,rl]
theorem sp_and1 (pk:Pk_rel F) (x y:BitVec 64):pureS F 52 [U x,U y] = some (U (x &&& y)):=by
 refine pure_of pk.rel_Rel_And_1 ?_
 simp (disch:=omega) only[A_rel_Rel_And_1,wp,qa,qb,qc,rl]
structure RelLs (F:Funs):Prop where
 rel_Rel_In:F 22 = some A_rel_Rel_In
 rel_Rel_Less:F 26 = some A_rel_Rel_Less
 rel_Rel_Less_1:F 54 = some A_rel_Rel_Less_1
theorem sp_less1 (pk:RelLs F) (x y:BitVec 64):pureS F 54 [U x,U y] = some (U (x &&& ~~~ y)):=by
 refine pure_of pk.rel_Rel_Less_1 ?_
 simp (disch:=omega) only[A_rel_Rel_Less_1,wp,qa,qb,qc,rl]
def orR (R S:Rw):Rw:=fun a => R a ||| S a
def andR (R S:Rw):Rw:=fun a => R a &&& S a
def lessR (R S:Rw):Rw:=fun a => R a &&& ~~~ S a
theorem sp_or (pk:Pk_rel F) {n m:Nat} (hn:n≤40) (hm:m≤40) (R S:Rw):pureS F 24 [.ptr (relC n R),.ptr (relC m S)] = some (.ptr (relC (max n m) (orR R S))):=by
 refine pure_of pk.rel_Rel_Or ?_
 simp (disch:=omega) only[A_rel_Rel_Or,wp,qa,qb,qc,rl,sp_by pk hn hm R S (sp_or1 pk)]
 rfl
theorem sp_and (pk:Pk_rel F) {n m:Nat} (hn:n≤40) (hm:m≤40) (R S:Rw):pureS F 18 [.ptr (relC n R),.ptr (relC m S)] = some (.ptr (relC (max n m) (andR R S))):=by
 refine pure_of pk.rel_Rel_And ?_
 simp (disch:=omega) only[A_rel_Rel_And,wp,qa,qb,qc,rl,sp_by pk hn hm R S (sp_and1 pk)]
 rfl
theorem sp_less (ls:RelLs F) (pk:Pk_rel F) {n m:Nat} (hn:n≤40) (hm:m≤40) (R S:Rw):pureS F 26 [.ptr (relC n R),.ptr (relC m S)] = some (.ptr (relC (max n m) (lessR R S))):=by
 refine pure_of ls.rel_Rel_Less ?_
 simp (disch:=omega) only[A_rel_Rel_Less,wp,qa,qb,qc,rl,sp_by pk hn hm R S (sp_less1 ls)]
 rfl
theorem sp_in (ls:RelLs F) (pk:Pk_rel F) {n m:Nat} (hn:n≤40) (hm:m≤40) (R S:Rw):pureS F 22 [.ptr (relC n R),.ptr (relC m S)] = some (.b (noneR (lessR R S))):=by
 refine pure_of ls.rel_Rel_In ?_
 simp (disch:=omega) only[A_rel_Rel_In,wp,qa,qb,qc,rl,sp_less ls pk hn hm]
def stepT (n a:Nat) (R S:Rw) (T:Rw) (b:Nat):Rw:=if has n R a b then upd T a (T a ||| S b) else T
def rowT (n a k:Nat) (R S T:Rw):Rw:=(List.range k).foldl (stepT n a R S) T
def thenK (n k:Nat) (R S:Rw):Rw:=(List.range k).foldl (fun T a => rowT n a n R S T) (fun _ => 0)
def thenR (n:Nat) (R S:Rw):Rw:=thenK n n R S
theorem rowT_succ (n a k R S T):rowT n a (k + 1) R S T = stepT n a R S (rowT n a k R S T) k:=by simp[rowT,List.range_succ]
theorem thenK_succ (n k R S):thenK n (k + 1) R S = rowT n k n R S (thenK n k R S):=by simp[thenK,List.range_succ]
theorem sp_then (pk:Pk_rel F) {n m:Nat} (hn:n≤40) (hm:m≤40) (R S:Rw):pureS F 23 [.ptr (relC n R),.ptr (relC m S)] = some (.ptr (relC (max n m) (thenR n R S))):=by
 refine pure_of pk.rel_Rel_Then ?_
 have hz:AV.i .i64 (max n m:Nat) :: List.replicate 40 (.i .u64 0) = relC (max n m) (thenK n 0 R S):=rfl
 simp (disch:=omega) only[A_rel_Rel_Then,wp,qa,qb,qc,rl,maxI,hz,List.all_append,List.all_replicate]
 refine W_loop (fun q e g => ∃ k,q = n - k∧k≤n∧e 0 = .ptr (relC n R)∧e 1 = .ptr (relC m S)∧e 22 = .i .i64 n∧e 23 = .i .i64 k∧e 5 = .mp 11 0∧g.hp 11 = some (.cells (relC (max n m) (thenK n k R S)) false)∧11 < g.nx) n ?_ ?_
 ·refine ⟨0,rfl,Nat.zero_le _,?_⟩
  simp (disch:=omega) only[wp,qa,qb,qc]
  exact ⟨rfl,by omega⟩
 ·rintro q e g ⟨k,rfl,hk,h0,h1,h22,h23,h5,hg,hnx⟩
  by_cases hk':k < n
  ·have hk1:(k:Int) < n:=by omega
   have hw:=succ_wrap (k:=k) (by omega)
   simp (disch:=omega) only[wp,qa,qb,qc,h0,h1,h22,h23,h5,hk1,rl]
   refine W_loop (fun q e g => ∃ j,q = n - j∧j≤n∧e 0 = .ptr (relC n R)∧e 1 = .ptr (relC m S)∧e 22 = .i .i64 n∧e 23 = .i .i64 k∧e 6 = .i .i64 k∧e 29 = .i .i64 n∧e 30 = .i .i64 j∧e 5 = .mp 11 0∧g.hp 11 = some (.cells (relC (max n m) (rowT n k j R S (thenK n k R S))) false)∧11 < g.nx) n ?_ ?_
   ·refine ⟨0,rfl,Nat.zero_le _,?_⟩
    simp (disch:=omega) only[wp,qa,qb,qc,h0,h1,h22,h23,h5,hg]
    exact ⟨rfl,rfl,by omega⟩
   ·rintro q e g ⟨j,rfl,hj,h0,h1,h22,h23,h6,h29,h30,h5,hg,hnx⟩
    by_cases hj':j < n
    ·have hj1:(j:Int) < n:=by omega
     have hwj:=succ_wrap (k:=j) (by omega)
     by_cases hh:has n R k j = true
     ·simp (disch:=omega) only[wp,qa,qb,qc,h0,h1,h22,h23,h6,h29,h30,h5,hj1,hg,rl,sp_has pk hn,hh,hwj]
      refine ⟨n - (j + 1),?_,j + 1,rfl,by omega,rfl,?_,by first | omega | (dsimp only;omega)⟩
      ·omega
      ·rw[rowT_succ,stepT,if_pos hh]
     ·simp (disch:=omega) only[wp,qa,qb,qc,h0,h1,h22,h23,h6,h29,h30,h5,hj1,hg,rl,sp_has pk hn,hh,hwj]
      refine ⟨n - (j + 1),?_,j + 1,rfl,by omega,rfl,?_,by first | omega | (dsimp only;omega)⟩
      ·omega
      ·rw[rowT_succ,stepT,if_neg hh]
    ·obtain rfl:j = n:=by omega
     have hj1:¬ ((j:Int) < j):=by omega
     simp (disch:=omega) only[wp,qa,qb,qc,h0,h1,h22,h23,h6,h29,h30,h5,hj1,hg,hw]
     refine ⟨j - (k + 1),?_,k + 1,rfl,by omega,rfl,?_,by first | omega | (dsimp only;omega)⟩
     ·omega
     ·rw[thenK_succ]
  ·obtain rfl:k = n:=by omega
   have hk1:¬ ((k:Int) < k):=by omega
   simp (disch:=omega) only[wp,qa,qb,qc,h0,h1,h22,h23,h5,hk1,hg,rl]
   rfl
def stepB (T:Rw) (p:Int × Int):Rw:=upd T p.2.toNat (T p.2.toNat ||| bit p.1.toNat)
def backL (l:List (Int × Int)):Rw:=l.foldl stepB (fun _ => 0)
def backR (n:Nat) (R:Rw):Rw:=backL (pairsR n R)
theorem pairsR_mem {n:Nat} {R:Rw} {p:Int × Int} (h:p∈pairsR n R):0≤p.1∧p.1 < n∧0≤p.2∧p.2 < n:=by
 simp only[pairsR,pairsK,rowPr,List.mem_flatMap,List.mem_map,List.mem_filter,List.mem_range] at h
 obtain ⟨a,ha,b,⟨hb,_⟩,rfl⟩:=h
 simp only
 omega
theorem pairsK_len (n k:Nat) (R:Rw):(pairsK n k R).length≤k * n:=by
 induction k with
 | zero => simp[pairsK]
 | succ k ih =>
   rw[pairsK_succ,List.length_append,Nat.succ_mul]
   have:(rowPr n R k n).length≤n:=by
    unfold rowPr
    rw[List.length_map]
    exact Nat.le_trans (List.length_filter_le _ _) (by simp)
   omega
theorem pairsR_len {n:Nat} (hn:n≤40) (R:Rw):(pairsR n R).length≤1600:=by
 have h1:=pairsK_len n n R
 have h2:n * n≤40 * 40:=Nat.mul_le_mul hn hn
 show (pairsK n n R).length≤1600
 omega
end Go.Ab
end
section
set_option linter.unusedVariables false
set_option linter.unusedSimpArgs false
namespace Go.Ab
def hb (R:Rw) (a b:Nat):Bool:=(R a).getLsbD b
def hN (n:Nat) (R:Rw) (a b:Nat):Bool:=decide (a < n) && decide (b < n) && hb R a b
def Wf (n:Nat) (R:Rw):Prop:=∀ a b,hb R a b = true→a < n∧b < n
theorem has_N (n:Nat) (R:Rw) (a b:Nat):has n R a b = hN n R a b:=by
 unfold has hN hb
 have:decide (0≤(a:Int)∧(a:Int) < n∧0≤(b:Int)∧(b:Int) < n) = (decide (a < n) && decide (b < n)):=by
  rw[Bool.eq_iff_iff];simp
 rw[this];rfl
theorem hN_wf {n:Nat} {R:Rw} (h:Wf n R) (a b:Nat):hN n R a b = hb R a b:=by
 unfold hN
 cases hh:hb R a b with
 | false => simp
 | true => obtain ⟨h1,h2⟩:=h a b hh;simp[h1,h2]
theorem hN_lt {n:Nat} {R:Rw} {a b:Nat} (h:hN n R a b = true):a < n∧b < n:=by
 simp[hN] at h;omega
theorem bit_get {a b:Nat} (ha:a < 64):(bit a).getLsbD b = decide (b = a):=by
 unfold bit
 rw[BitVec.getLsbD_shiftLeft]
 by_cases h:b = a
 ·subst h;simp[ha]
 ·by_cases h2:b < a
  ·simp[h,h2]
  ·have:b - a≠0:=by omega
   simp[h,h2]
   intro _
   omega
theorem hb_upd (R:Rw) (x:BitVec 64) (c a b:Nat):hb (upd R c x) a b = if a = c then x.getLsbD b else hb R a b:=by
 unfold hb upd;split<;>rfl
theorem hb_zero (a b:Nat):hb (fun _ => 0) a b = false:=by simp[hb]
theorem hb_add {n:Nat} (hn:n≤40) (R:Rw) (p:Int × Int) (a b:Nat):hb (addR n R p) a b = (hb R a b || (inR n p && decide (p = ((a:Int),(b:Int))))):=by
 unfold addR
 by_cases h:inR n p = true
 ·rw[if_pos h,hb_upd,h]
  obtain ⟨x,y⟩:=p
  simp only[inR,decide_eq_true_eq] at h
  by_cases ha:a = x.toNat
  ·subst ha
   rw[if_pos rfl,BitVec.getLsbD_or,bit_get (by omega)]
   congr 1
   simp only[Bool.true_and]
   rw[decide_eq_decide]
   simp only[Prod.mk.injEq]
   omega
  ·rw[if_neg ha]
   have:¬ ((x,y) = ((a:Int),(b:Int))):=by simp only[Prod.mk.injEq];omega
   simp[this]
 ·rw[if_neg h]
  simp only[Bool.not_eq_true] at h
  simp[h]
theorem hb_new {n:Nat} (hn:n≤40) (l:List (Int × Int)) (a b:Nat):hb (newR n l) a b = (decide (a < n) && decide (b < n) && l.any fun p => decide (p = ((a:Int),(b:Int)))):=by
 have key:∀ (l:List (Int × Int)) (R:Rw),hb (l.foldl (addR n) R) a b = (hb R a b || (decide (a < n) && decide (b < n) && l.any fun p => decide (p = ((a:Int),(b:Int))))):=by
  intro l
  induction l with
  | nil => intro R;simp
  | cons p l ih =>
    intro R
    rw[List.foldl_cons,ih,hb_add hn,List.any_cons]
    by_cases hp:p = ((a:Int),(b:Int))
    ·subst hp
     have:inR n ((a:Int),(b:Int)) = (decide (a < n) && decide (b < n)):=by
      unfold inR;rw[Bool.eq_iff_iff];simp
     rw[this]
     cases hb R a b<;>cases decide (a < n)<;>cases decide (b < n)<;>simp
    ·simp[hp]
 unfold newR
 rw[key l,hb_zero];rfl
theorem wf_new {n:Nat} (hn:n≤40) (l:List (Int × Int)):Wf n (newR n l):=by
 intro a b h
 rw[hb_new hn] at h
 simp at h;omega
theorem hb_or (R S:Rw) (a b:Nat):hb (orR R S) a b = (hb R a b || hb S a b):=by simp[hb,orR]
theorem hb_and (R S:Rw) (a b:Nat):hb (andR R S) a b = (hb R a b && hb S a b):=by simp[hb,andR]
theorem hb_less (R S:Rw) (a b:Nat):hb (lessR R S) a b = (hb R a b && !hb S a b):=by
 unfold hb lessR
 rw[BitVec.getLsbD_and,BitVec.getLsbD_not]
 by_cases h:b < 64
 ·simp[h]
 ·simp[BitVec.getLsbD_of_ge (R a) b (by omega)]
theorem wf_or {n:Nat} {R S:Rw} (h:Wf n R) (k:Wf n S):Wf n (orR R S):=fun a b hh => by
 rw[hb_or,Bool.or_eq_true] at hh;exact hh.elim (h a b) (k a b)
theorem wf_and {n:Nat} {R S:Rw} (h:Wf n R):Wf n (andR R S):=fun a b hh => by
 rw[hb_and,Bool.and_eq_true] at hh;exact h a b hh.1
theorem wf_less {n:Nat} {R S:Rw} (h:Wf n R):Wf n (lessR R S):=fun a b hh => by
 rw[hb_less,Bool.and_eq_true] at hh;exact h a b hh.1
theorem noneR_iff {n:Nat} {R:Rw} (hn:n≤40) (h:Wf n R):noneR R = true↔∀ a b,hb R a b = false:=by
 unfold noneR
 rw[List.all_eq_true]
 simp only[List.mem_range,beq_iff_eq]
 constructor
 ·intro hh a b
  by_cases ha:a < 40
  ·unfold hb;rw[hh a ha];simp
  ·cases hc:hb R a b with
   | false => rfl
   | true => obtain ⟨h1,h2⟩:=h a b hc;omega
 ·intro hh a _
  refine BitVec.eq_of_getLsbD_eq fun b _ => ?_
  have:=hh a b
  unfold hb at this
  rw[this];simp
theorem in_iff {n:Nat} {R S:Rw} (hn:n≤40) (h:Wf n R):noneR (lessR R S) = true↔∀ a b,hb R a b = true→hb S a b = true:=by
 rw[noneR_iff hn (wf_less h)]
 simp only[hb_less]
 constructor
 ·intro hh a b h1
  have:=hh a b
  rw[h1] at this
  simpa using this
 ·intro hh a b
  cases h1:hb R a b with
  | false => rfl
  | true => simp[hh a b h1]
theorem hb_maybeK (R:Rw) (k a b:Nat) (hk:k≤64):hb (maybeK k R) a b = (hb R a b || (decide (a < k) && decide (b = a))):=by
 induction k with
 | zero => simp[maybeK]
 | succ k ih =>
   rw[maybeK_succ,hb_upd]
   by_cases h:a = k
   ·subst h
    rw[if_pos rfl,BitVec.getLsbD_or,bit_get (by omega)]
    have:=ih (by omega)
    unfold hb at this ⊢
    rw[this];simp
   ·rw[if_neg h,ih (by omega)]
    have:decide (a < k) = decide (a < k + 1):=by rw[decide_eq_decide];omega
    rw[this]
theorem wf_maybe {n:Nat} {R:Rw} (hn:n≤40) (h:Wf n R):Wf n (maybeK n R):=fun a b hh => by
 rw[hb_maybeK _ _ _ _ (by omega)] at hh
 simp at hh
 rcases hh with hh | hh
 ·exact h a b hh
 ·omega
theorem hb_rowT (n a:Nat) (R S T:Rw) (k:Nat) (x y:Nat):hb (rowT n a k R S T) x y = (hb T x y || (decide (x = a) && (List.range k).any fun b => hN n R a b && hb S b y)):=by
 induction k with
 | zero => simp[rowT]
 | succ k ih =>
   rw[rowT_succ,stepT,List.range_succ,List.any_append,has_N]
   by_cases hh:hN n R a k = true
   ·rw[if_pos hh,hb_upd]
    by_cases hx:x = a
    ·subst hx
     rw[if_pos rfl,BitVec.getLsbD_or]
     have:=ih
     unfold hb at this ⊢
     rw[this]
     simp[hh,Bool.or_assoc,hb]
    ·rw[if_neg hx,ih];simp[hx]
   ·rw[if_neg hh,ih]
    simp[hh]
theorem hb_thenK (n:Nat) (R S:Rw) (k:Nat) (x y:Nat):hb (thenK n k R S) x y = (decide (x < k) && (List.range n).any fun b => hN n R x b && hb S b y):=by
 induction k with
 | zero => simp[thenK,hb]
 | succ k ih =>
   rw[thenK_succ,hb_rowT,ih]
   by_cases hx:x = k
   ·subst hx;simp
   ·have:decide (x < k) = decide (x < k + 1):=by rw[decide_eq_decide];omega
    rw[this];simp[hx]
theorem hb_then {n:Nat} {R S:Rw} (hR:Wf n R) (a b:Nat):hb (thenR n R S) a b = true↔∃ c,hb R a c = true∧hb S c b = true:=by
 unfold thenR
 rw[hb_thenK]
 simp only[Bool.and_eq_true,decide_eq_true_eq,List.any_eq_true,List.mem_range,hN_wf hR]
 constructor
 ·rintro ⟨_,c,_,h1,h2⟩;exact ⟨c,h1,h2⟩
 ·rintro ⟨c,h1,h2⟩;obtain ⟨h3,h4⟩:=hR a c h1;exact ⟨h3,c,h4,h1,h2⟩
theorem wf_then {n:Nat} {R S:Rw} (hR:Wf n R) (hS:Wf n S):Wf n (thenR n R S):=fun a b h => by
 obtain ⟨c,h1,h2⟩:=(hb_then hR a b).1 h
 exact ⟨(hR a c h1).1,(hS c b h2).2⟩
theorem mem_pairsR {n:Nat} {R:Rw} {p:Int × Int}:p∈pairsR n R↔∃ a b:Nat,p = ((a:Int),(b:Int))∧hN n R a b = true:=by
 simp only[pairsR,pairsK,rowPr,List.mem_flatMap,List.mem_map,List.mem_filter,List.mem_range]
 constructor
 ·rintro ⟨a,ha,b,⟨hb,hh⟩,rfl⟩
  exact ⟨a,b,rfl,by rw[←has_N];exact hh⟩
 ·rintro ⟨a,b,rfl,hh⟩
  obtain ⟨h1,h2⟩:=hN_lt hh
  exact ⟨a,h1,b,⟨h2,by rw[has_N];exact hh⟩,rfl⟩
theorem hb_backL (a b:Nat):∀ (l:List (Int × Int)) (T:Rw),(∀ p∈l,0≤p.1∧p.1 < 40∧0≤p.2∧p.2 < 40)→hb (l.foldl stepB T) a b = (hb T a b || l.any fun p => decide (p = ((b:Int),(a:Int))))
 | [],T,_ => by simp
 | p :: l,T,h => by
   rw[List.foldl_cons,hb_backL a b l _ (fun q hq => h q (List.mem_cons_of_mem _ hq)),List.any_cons,←Bool.or_assoc]
   congr 1
   obtain ⟨x,y⟩:=p
   have:=h (x,y) (List.mem_cons_self ..)
   simp only at this
   unfold stepB
   rw[hb_upd]
   by_cases ha:a = y.toNat
   ·subst ha
    rw[if_pos rfl,BitVec.getLsbD_or,bit_get (by omega)]
    unfold hb
    congr 1
    rw[decide_eq_decide]
    simp only[Prod.mk.injEq]
    omega
   ·rw[if_neg ha]
    have:¬ ((x,y) = ((b:Int),(a:Int))):=by simp only[Prod.mk.injEq];omega
    simp[this]
theorem hb_back {n:Nat} {R:Rw} (hn:n≤40) (a b:Nat):hb (backR n R) a b = hN n R b a:=by
 unfold backR backL
 rw[hb_backL a b _ _ (fun p hp => by have:=pairsR_mem hp;omega),hb_zero,Bool.false_or,Bool.eq_iff_iff,List.any_eq_true]
 simp only[decide_eq_true_eq]
 constructor
 ·rintro ⟨p,hp,rfl⟩
  obtain ⟨x,y,hxy,hh⟩:=mem_pairsR.1 hp
  simp only[Prod.mk.injEq] at hxy
  obtain ⟨h1,h2⟩:=hxy
  rw[show b = x by omega,show a = y by omega];exact hh
 ·intro hh
  exact ⟨_,mem_pairsR.2 ⟨b,a,rfl,hh⟩,rfl⟩
theorem wf_back {n:Nat} {R:Rw} (hn:n≤40):Wf n (backR n R):=fun a b h => by
 rw[hb_back hn] at h;obtain ⟨h1,h2⟩:=hN_lt h;exact ⟨h2,h1⟩
inductive Thru (r:Nat→Nat→Prop) (k:Nat):Nat→Nat→Prop
 | one {a b}:r a b→Thru r k a b
 | join {a c b}:c < k→Thru r k a c→Thru r k c b→Thru r k a b
theorem Thru.mono {r:Nat→Nat→Prop} {k k':Nat} (h:k≤k') {a b:Nat} (t:Thru r k a b):Thru r k' a b:=by
 induction t with
 | one h => exact .one h
 | join hc _ _ ih1 ih2 => exact .join (by omega) ih1 ih2
theorem thru_succ {r:Nat→Nat→Prop} {k a b:Nat}:Thru r (k + 1) a b↔Thru r k a b∨(Thru r k a k∧Thru r k k b):=by
 constructor
 ·intro t
  induction t with
  | one h => exact .inl (.one h)
  | @join a c b hc _ _ ih1 ih2 =>
    by_cases h:c < k
    ·rcases ih1 with h1 | ⟨h1,h2⟩
     ·rcases ih2 with h3 | ⟨h3,h4⟩
      ·exact .inl (.join h h1 h3)
      ·exact .inr ⟨.join h h1 h3,h4⟩
     ·rcases ih2 with h3 | ⟨h3,h4⟩
      ·exact .inr ⟨h1,.join h h2 h3⟩
      ·exact .inr ⟨h1,h4⟩
    ·obtain rfl:c = k:=by omega
     refine .inr ⟨?_,?_⟩
     ·rcases ih1 with h1 | ⟨h1,_⟩<;>exact h1
     ·rcases ih2 with h1 | ⟨_,h1⟩<;>exact h1
 ·rintro (h | ⟨h1,h2⟩)
  ·exact h.mono (Nat.le_succ k)
  ·exact .join (Nat.lt_succ_self k) (h1.mono (Nat.le_succ k)) (h2.mono (Nat.le_succ k))
theorem thru_zero {r:Nat→Nat→Prop} {a b:Nat}:Thru r 0 a b↔r a b:=by
 constructor
 ·intro t;cases t with
  | one h => exact h
  | join h _ _ => exact absurd h (Nat.not_lt_zero _)
 ·exact .one
theorem hb_rowP {n b:Nat} (hb':b < n) (R:Rw) (hR:Wf n R) (k:Nat) (hk:k≤n) (x y:Nat):hb (rowP n b k R) x y = (hb R x y || (decide (x < k) && hb R x b && hb R b y)):=by
 induction k generalizing x y with
 | zero => simp[rowP]
 | succ k ih =>
   have ih:=fun x y => ih (by omega) x y
   have hwf:Wf n (rowP n b k R):=fun x y h => by
    rw[ih] at h
    simp at h
    rcases h with h | ⟨⟨_,h1⟩,h2⟩
    ·exact hR x y h
    ·exact ⟨(hR x b h1).1,(hR b y h2).2⟩
   have hrow:rowP n b k R b = R b:=by
    refine BitVec.eq_of_getLsbD_eq fun y _ => ?_
    have:=ih b y
    unfold hb at this
    rw[this]
    cases (R b).getLsbD y<;>cases (R b).getLsbD b<;>simp
   rw[rowP_succ,stepP,has_N,hN_wf hwf,ih k b]
   have hkb:(hb R k b || (decide (k < k) && hb R k b && hb R b b)) = hb R k b:=by simp
   rw[hkb]
   by_cases hh:hb R k b = true
   ·rw[if_pos hh,hb_upd]
    by_cases hx:x = k
    ·subst hx
     rw[if_pos rfl,BitVec.getLsbD_or,hrow]
     have:=ih x y
     unfold hb at this hh ⊢
     rw[this]
     simp[hh]
    ·rw[if_neg hx,ih]
     have:decide (x < k) = decide (x < k + 1):=by rw[decide_eq_decide];omega
     rw[this]
   ·rw[if_neg hh,ih]
    by_cases hx:x = k
    ·subst hx;simp[hh]
    ·have:decide (x < k) = decide (x < k + 1):=by rw[decide_eq_decide];omega
     rw[this]
theorem wf_plusK {n:Nat} {R:Rw} (hR:Wf n R):∀ k,k≤n→Wf n (plusK n k R)
 | 0,_ => hR
 | k + 1,h => fun x y hh => by
   have ih:=wf_plusK hR k (by omega)
   rw[plusK_succ,hb_rowP (by omega) _ ih n (Nat.le_refl _)] at hh
   simp at hh
   rcases hh with hh | ⟨⟨h0,h1⟩,h2⟩
   ·exact ih x y hh
   ·exact ⟨h0,(ih k y h2).2⟩
theorem hb_plusK {n:Nat} {R:Rw} (hR:Wf n R):∀ k,k≤n→∀ x y,hb (plusK n k R) x y = true↔Thru (fun a b => hb R a b = true) k x y
 | 0,_,x,y => by
   show hb R x y = true↔_
   exact (thru_zero (r:=fun a b => hb R a b = true)).symm
 | k + 1,h,x,y => by
   have ih:=hb_plusK hR k (by omega)
   have hw:=wf_plusK hR k (by omega)
   rw[plusK_succ,hb_rowP (by omega) _ hw n (Nat.le_refl _),thru_succ,←ih,←ih,←ih]
   simp only[Bool.or_eq_true,Bool.and_eq_true,decide_eq_true_eq]
   constructor
   ·rintro (h1 | ⟨⟨_,h1⟩,h2⟩)
    ·exact .inl h1
    ·exact .inr ⟨h1,h2⟩
   ·rintro (h1 | ⟨h1,h2⟩)
    ·exact .inl h1
    ·exact .inr ⟨⟨(hw x k h1).1,h1⟩,h2⟩
theorem wf_plus {n:Nat} {R:Rw} (hR:Wf n R):Wf n (plusR n R):=wf_plusK hR n (Nat.le_refl _)
inductive Steps' (r:Nat→Nat→Prop):Nat→Nat→Prop
 | one {a b}:r a b→Steps' r a b
 | join {a c b}:Steps' r a c→Steps' r c b→Steps' r a b
theorem hb_plus {n:Nat} {R:Rw} (hR:Wf n R) (x y:Nat):hb (plusR n R) x y = true↔Steps' (fun a b => hb R a b = true) x y:=by
 show hb (plusK n n R) x y = true↔_
 rw[hb_plusK hR n (Nat.le_refl _)]
 constructor
 ·intro t
  induction t with
  | one h => exact .one h
  | join _ _ _ ih1 ih2 => exact .join ih1 ih2
 ·intro t
  have hlt:∀ {a b},Steps' (fun a b => hb R a b = true) a b→a < n∧b < n:=by
   intro a b t
   induction t with
   | one h => exact hR _ _ h
   | join _ _ ih1 ih2 => exact ⟨ih1.1,ih2.2⟩
  induction t with
  | one h => exact .one h
  | join t1 _ ih1 ih2 => exact .join (hlt t1).2 ih1 ih2
end Go.Ab
end
section
set_option linter.unusedVariables false
set_option linter.unusedSimpArgs false
namespace Go.Ab
variable {F:Funs}
theorem t1_neg (u n:Int) (e1:u % n + n * (u / n) = u):-u = (n - u % n) + n * (-(u / n) - 1):=by
 have e2:n * (-(u / n) - 1) = -(n * (u / n)) - n:=by rw[Int.mul_sub,Int.mul_neg,Int.mul_one]
 rw[e2]
 generalize n * (u / n) = c at *
 generalize u % n = b at *
 omega
theorem tmod_cases {v n:Int} (hn:0 < n):(if v.tmod n < 0 then v.tmod n + n else v.tmod n) = v % n:=by
 have h2:=Int.emod_nonneg v (by omega:n≠0)
 have h3:=Int.emod_lt_of_pos v hn
 by_cases hv:0≤v
 ·rw[Int.tmod_eq_emod_of_nonneg hv,if_neg (by omega)]
 ·obtain ⟨u,rfl⟩:∃ u,v = -u:=⟨-v,by omega⟩
  rw[Int.neg_tmod,Int.tmod_eq_emod_of_nonneg (by omega:0≤u)]
  have h4:=Int.emod_nonneg u (by omega:n≠0)
  have h5:=Int.emod_lt_of_pos u hn
  have e1:=Int.emod_add_mul_ediv u n
  by_cases h6:u % n = 0
  ·rw[h6,Int.neg_zero,if_neg (by omega)]
   exact (Int.emod_eq_zero_of_dvd (Int.dvd_neg.2 (Int.dvd_of_emod_eq_zero h6))).symm
  ·rw[if_pos (by omega)]
   have e3:(-u) % n = n - u % n:=by
    rw[t1_neg u n e1,Int.add_mul_emod_self_left,Int.emod_eq_of_lt (by omega) (by omega)]
   rw[e3]
   omega
theorem tmod_bound {v n:Int} (hn:0 < n):-n≤v.tmod n∧v.tmod n < n:=by
 refine ⟨?_,Int.tmod_lt_of_pos v hn⟩
 have h1:=tmod_cases (v:=v) hn
 have h2:=Int.emod_nonneg v (by omega:n≠0)
 split at h1<;>omega
def place (v n:Int):Int:=v % n
theorem place_lt {v n:Int} (hn:0 < n):0≤place v n∧place v n < n:=⟨Int.emod_nonneg v (by omega),Int.emod_lt_of_pos v hn⟩
theorem sp_place (h10:F 10 = some A_xlaw00_Place) {v n:Int} (hn:0 < n) (hb:n≤4611686018427387904):pureS F 10 [.i .i64 v,.i .i64 n] = some (.i .i64 (place v n)):=by
 refine pure_of h10 ?_
 have h1:=tmod_cases (v:=v) hn
 obtain ⟨h2,h3⟩:=tmod_bound (v:=v) hn
 unfold place
 by_cases h:v.tmod n < 0
 ·have hw:IntKind.i64.wrap (v.tmod n + n) = v.tmod n + n:=i64_wrap (by omega) (by omega)
  rw[if_pos h] at h1
  simp (disch:=omega) only[A_xlaw00_Place,wp,qa,qb,qc,b_rem,h,hw]
  rw[h1]
 ·rw[if_neg h] at h1
  simp (disch:=omega) only[A_xlaw00_Place,wp,qa,qb,qc,b_rem,h]
  rw[h1]
end Go.Ab
end
section
set_option linter.unusedVariables false
set_option linter.unusedSimpArgs false
namespace Go.Ab
variable {F:Funs}
theorem ints_part {l:List Int} {k:Nat} (h:k < l.length):part ((intsC l).drop (k * 1)) 0 none = some (.i .i64 (l.getD k 0)):=by
 simp only[part,intsC,List.getElem?_drop,Nat.mul_one,Nat.add_zero,List.getElem?_map,List.getElem?_eq_getElem h,Option.map_some,List.getD_eq_getElem?_getD,Option.getD_some]
theorem Steps'.mono {r s:Nat→Nat→Prop} (h:∀ a b,r a b→s a b) {a b:Nat} (t:Steps' r a b):Steps' s a b:=by
 induction t with
 | one h' => exact .one (h _ _ h')
 | join _ _ i1 i2 => exact .join i1 i2
theorem Steps'.first {r:Nat→Nat→Prop} {a b:Nat} (t:Steps' r a b):r a b∨∃ c,r a c∧Steps' r c b:=by
 induction t with
 | one h => exact .inl h
 | @join a c b t1 t2 i1 i2 =>
   rcases i1 with h | ⟨d,h1,h2⟩
   ·exact .inr ⟨c,h,t2⟩
   ·exact .inr ⟨d,h1,.join h2 t2⟩
end Go.Ab
end
section
set_option linter.unusedVariables false
set_option linter.unusedSimpArgs false
namespace Go.Ab
noncomputable def thawS (F:Funs) (f:Nat) (asx:List AV):Option (List AV):=match callS F f asx g0 with
 | some (.mp b 0,g) => match g.hp b with
   | some (.cells cs false) => if cs.all flat then some cs else none
   | _ => none
 | _ => none
noncomputable def vThaw (F:Funs) (al:Nat→Bool) (id:Nat) (f:AV) (args:List AV) (g:G):Option (AV × G):=vCall (callS F) al id .thaw f args g
theorem o_thaw {F:Funs} {al lo id e g} (f:Opd) (asx:List Opd):opE (callS F) al lo id (.call .thaw f asx) e g = vThaw F al id (f.ev e) (asx.map (·.ev e)) g:=rfl
theorem vis_flat {hp:Nat→Option Blk} {d:Nat} {v:AV} (h:flat v = true):vis hp (d + 1) v = []:=by cases v<;>first | (cases h;done) | simp only[vis]
theorem vThaw_ok {F:Funs} {al:Nat→Bool} {id fid:Nat} {fst caps args bs cs:List AV} {g:G} (h1:frzL (rd g al) depth (fst ++ args ++ caps) = some bs) (h2:thawS F fid bs = some cs) (h3:((fst ++ args ++ caps).flatMap (vis (rd g al) depth)).isEmpty = true):
  vThaw F al id (.fn fid fst caps) args g = some (.mp id 0,⟨upd g.hp id (some (.cells cs false)),g.nx⟩):=by
 unfold thawS at h2
 split at h2
 ·rename_i b g' hc
  split at h2
  ·rename_i cs0 hb
   split at h2
   ·rename_i hf
    cases h2
    have hc':callS F fid bs ⟨fun _ => none,0⟩ = some (.mp b 0,g'):=hc
    have hfz:frzL g'.hp depth cs = some cs:=frzL_flat (d:=8) hf
    have hv:cs.flatMap (vis g'.hp depth) = []:=by
     rw[List.flatMap_eq_nil_iff]
     intro v hv
     exact vis_flat (d:=8) (List.all_eq_true.1 hf v hv)
    unfold vThaw vCall
    simp only[h1,hc',hb,hfz,h3,hv]
    simp
   ·cases h2
  ·cases h2
 ·cases h2
def retT (rs:List ARes) (cs:List AV):Out→Env→G→Prop
 | .ext _,_,_ => False
 | _,e,g => ∃ b,resE rs e g = some (.mp b 0)∧g.hp b = some (.cells cs false)
theorem retT_nrm {rs cs e g}:retT rs cs .nrm e g = (∃ b,resE rs e g = some (.mp b 0)∧g.hp b = some (.cells cs false)):=rfl
theorem retT_ret {rs cs e g}:retT rs cs .ret e g = (∃ b,resE rs e g = some (.mp b 0)∧g.hp b = some (.cells cs false)):=rfl
section
variable {F:Funs}
theorem retT_call {f:Nat} {fn:AFun} {asx cs:List AV} (hF:F f = some fn) (h:W F fn.body (argEnv asx) g0 (retT fn.res cs)):∃ b g,callS F f asx g0 = some (.mp b 0,g)∧g.hp b = some (.cells cs false):=by
 obtain ⟨o,e,g,h1,h2⟩:=h
 rw[callS_eq,hF]
 simp only[h1]
 cases o with
 | ext n => exact h2.elim
 | nrm =>
   obtain ⟨b,h3,h4⟩:=h2
   exact ⟨b,g,by simp only[h3,Option.map_some],h4⟩
 | ret =>
   obtain ⟨b,h3,h4⟩:=h2
   exact ⟨b,g,by simp only[h3,Option.map_some],h4⟩
theorem thaw_of {f:Nat} {fn:AFun} {asx cs:List AV} (hF:F f = some fn) (hf:cs.all flat = true) (h:W F fn.body (argEnv asx) g0 (retT fn.res cs)):thawS F f asx = some cs:=by
 obtain ⟨b,g,h1,h2⟩:=retT_call hF h
 unfold thawS
 rw[h1]
 simp only[h2,hf,if_true]
theorem pure_of_thaw {f:Nat} {fn:AFun} {asx cs:List AV} (hF:F f = some fn) (hf:cs.all flat = true) (h:W F fn.body (argEnv asx) g0 (retT fn.res cs)):pureS F f asx = some (.ptr cs):=by
 obtain ⟨b,g,h1,h2⟩:=retT_call hF h
 unfold pureS
 rw[h1]
 exact frz_d_mp h2 (frzL_flat hf)
end
theorem vThaw_S {F:Funs} {al:Nat→Bool} {id fid:Nat} {args:List AV} {g:G} {bs cs:List AV} (h1:frzL (rd g al) depth args = some bs) (h2:thawS F fid bs = some cs) (h3:(args.flatMap (vis (rd g al) depth)) = []):
  vThaw F al id (.fn fid [] []) args g = some (.mp id 0,⟨upd g.hp id (some (.cells cs false)),g.nx⟩):=
 vThaw_ok (by rw[List.nil_append,List.append_nil];exact h1) h2 (by rw[List.nil_append,List.append_nil,h3];rfl)
end Go.Ab
end
section
set_option linter.unusedVariables false
set_option linter.unusedSimpArgs false
namespace Go.Ab
noncomputable def vRaw (F:Funs) (al:Nat→Bool) (id:Nat) (f:AV) (args:List AV) (g:G):Option (AV × G):=vCall (callS F) al id .raw f args g
theorem o_raw {F:Funs} {al lo id e g} (f:Opd) (asx:List Opd):opE (callS F) al lo id (.call .raw f asx) e g = vRaw F al id (f.ev e) (asx.map (·.ev e)) g:=rfl
theorem vRaw_fn {F:Funs} {al id fid fst caps args g}:vRaw F al id (.fn fid fst caps) args g = callS F fid (fst ++ args ++ caps) g:=rfl
noncomputable def vSee (F:Funs) (al:Nat→Bool) (id:Nat) (f:AV) (args:List AV) (g:G):Option (AV × G):=vCall (callS F) al id .see f args g
theorem o_see {F:Funs} {al lo id e g} (f:Opd) (asx:List Opd):opE (callS F) al lo id (.call .see f asx) e g = vSee F al id (f.ev e) (asx.map (·.ev e)) g:=rfl
theorem vSee_fn {F:Funs} {al id fid fst caps args g}:vSee F al id (.fn fid fst caps) args g = seeR g (callS F fid (fst ++ args ++ caps) g):=rfl
def Stays (g g':G):Prop:=∀ i b,g.hp i = some b→g'.hp i = some b
theorem bindO_see {F:Funs} {d b j dst os e K fid asx g} (P:AV→G→Prop) (h:∃ v g',callS F fid asx g = some (v,g')∧P v g') (hs:∀ v g',P v g'→Stays g g') (hk:∀ v g',P v g'→WR F d b j os (put e dst v) g' K):bindO F d b j dst os e K (seeR g (callS F fid asx g)):=by
 obtain ⟨v,g',h1,h2⟩:=h
 rw[h1,seeR_some (hs v g' h2)]
 exact hk v g' h2
theorem bindO_call {F:Funs} {d b j dst os e K fid asx g} (P:AV→G→Prop) (h:∃ v g',callS F fid asx g = some (v,g')∧P v g') (hk:∀ v g',P v g'→WR F d b j os (put e dst v) g' K):bindO F d b j dst os e K (callS F fid asx g):=by
 obtain ⟨v,g',h1,h2⟩:=h
 rw[h1]
 exact hk v g' h2
def retP (rs:List ARes) (P:AV→G→Prop):Out→Env→G→Prop
 | .ext _,_,_ => False
 | _,e,g => ∃ v,resE rs e g = some v∧P v g
theorem retP_nrm {rs P e g}:retP rs P .nrm e g = (∃ v,resE rs e g = some v∧P v g):=rfl
theorem retP_ret {rs P e g}:retP rs P .ret e g = (∃ v,resE rs e g = some v∧P v g):=rfl
theorem raw_of {F:Funs} {f:Nat} {fn:AFun} {asx:List AV} {g:G} {P:AV→G→Prop} (hF:F f = some fn) (h:W F fn.body (argEnv asx) g (retP fn.res P)):∃ v g',callS F f asx g = some (v,g')∧P v g':=by
 obtain ⟨o,e,g',h1,h2⟩:=h
 rw[callS_eq,hF]
 simp only[h1]
 cases o with
 | ext n => exact h2.elim
 | nrm =>
   obtain ⟨v,h3,h4⟩:=h2
   exact ⟨v,g',by simp only[h3,Option.map_some],h4⟩
 | ret =>
   obtain ⟨v,h3,h4⟩:=h2
   exact ⟨v,g',by simp only[h3,Option.map_some],h4⟩
theorem res_0 (e g):resE [] e g = some (.tup []):=rfl
def mgS (k:ByteArray) (g:G):Option Blk→Option (AV × G)
 | some (.map es) => vMap g (mlook es k)
 | _ => none
theorem o_mget {c:CS} {al:Nat→Bool} {lo id:Nat} {e:Env} {g:G} (m k):opE c al lo id (.mget m k) e g = vMget al (m.ev e) (k.ev e) g:=rfl
theorem vMget_S {al:Nat→Bool} {g:G} (b k):vMget al (.mm b) (.s k) g = mgS k g (selB (al b) (g.hp b)):=by
 simp only[vMget,rd_S]
 cases selB (al b) (g.hp b) with
 | none => rfl
 | some bl => cases bl<;>rfl
theorem mgS_map (k g es):mgS k g (some (.map es)) = vMap g (mlook es k):=rfl
theorem o_mkmap {c:CS} {al:Nat→Bool} {lo id:Nat} {e:Env} {g:G}:opE c al lo id .mkmap e g = some (.mm id,⟨upd g.hp id (some (.map [])),g.nx⟩):=rfl
theorem o_mput {c:CS} {al:Nat→Bool} {lo id:Nat} {e:Env} {g:G} (m k v):opE c al lo id (.mput m k v) e g = vMput al (m.ev e) (k.ev e) (v.ev e) g:=rfl
def mpO (b:Nat) (k:ByteArray) (v:AV) (es:List (AV × AV)) (g:G) (x:Bool):Option AV→Option (AV × G)
 | none => if x then some (.undef,⟨upd g.hp b (some (.map (es ++ [(.s k,v)]))),g.nx⟩) else none
 | some _ => none
def mpS (b:Nat) (k:ByteArray) (v:AV) (g:G) (x:Bool):Option Blk→Option (AV × G)
 | some (.map es) => mpO b k v es g x (mlook es k)
 | _ => none
theorem vMput_S {al:Nat→Bool} {g:G} (b k v):vMput al (.mm b) (.s k) v g = mpS b k v g (one v) (selB (al b) (g.hp b)):=by
 simp only[vMput,rd_S]
 cases selB (al b) (g.hp b) with
 | none => rfl
 | some bl =>
   cases bl with
   | map es => simp only[mpS];cases mlook es k<;>rfl
   | cells _ _ => rfl
   | tok _ => rfl
theorem mpS_map (b k v g x es):mpS b k v g x (some (.map es)) = mpO b k v es g x (mlook es k):=rfl
theorem mpO_none (b k v es g):mpO b k v es g true none = some (.undef,⟨upd g.hp b (some (.map (es ++ [(.s k,v)]))),g.nx⟩):=rfl
theorem frz_d_agg {hp cs ds} (h:frzL hp 8 cs = some ds):frz hp depth (.agg cs) = some (.agg ds):=by
 show frz hp (8 + 1) _ = _
 simp only[frz,h,Option.map_some]
end Go.Ab
end
section
set_option linter.unusedVariables false
set_option linter.unusedSimpArgs false
namespace Go.Ab
structure Ev where
 th:Int
 kd:Int
 md:Int
 lc:Int
 vl:Int
 ex:Bool
structure Gr where
 locs:Int
 evs:List Ev
 rf:List Int
 co:List (List Int)
 rmw:List (Int × Int)
 data:List (Int × Int)
 ctrl:List (Int × Int)
 ctrli:List (Int × Int)
def ev0:Ev:=⟨0,0,0,0,0,false⟩
def evC (e:Ev):List AV:=[.i .i64 e.th,.i .i64 e.kd,.i .i64 e.md,.i .i64 e.lc,.i .i64 e.vl,.b e.ex]
def evsC (l:List Ev):List AV:=l.flatMap evC
def coC (l:List (List Int)):List AV:=l.map fun c => .sl (intsC c) c.length .non
def grC (g:Gr):List AV:=[.i .i64 g.locs,.sl (evsC g.evs) g.evs.length .non,.sl (intsC g.rf) g.rf.length .non,.sl (coC g.co) g.co.length .non,
 .sl (pairsC g.rmw) g.rmw.length .non,.sl (pairsC g.data) g.data.length .non,.sl (pairsC g.ctrl) g.ctrl.length .non,.sl (pairsC g.ctrli) g.ctrli.length .non]
theorem evsC_len (l:List Ev):(evsC l).length = l.length * 6:=by
 induction l with
 | nil => rfl
 | cons p l ih => simp only[evsC,List.flatMap_cons,List.length_append,List.length_cons,evC,List.length_nil] at ih ⊢;omega
theorem ev_part:∀ {l:List Ev} {k:Nat} (h:k < l.length),part ((evsC l).drop (k * 6)) 0 (some 6) = some (.agg (evC (l.getD k ev0)))
 | p :: l,0,_ => by simp[evsC,part,evC]
 | p :: l,k + 1,h => by
   have:=ev_part (l:=l) (k:=k) (by simpa using h)
   simp only[List.getD_cons_succ]
   rw[←this]
   simp[evsC,Nat.succ_mul,evC]
theorem coC_len (l:List (List Int)):(coC l).length = l.length:=by simp[coC]
theorem co_part {l:List (List Int)} {k:Nat} (h:k < l.length):part ((coC l).drop (k * 1)) 0 none = some (.sl (intsC (l.getD k [])) (l.getD k []).length .non):=by
 simp only[part,coC,List.getElem?_drop,Nat.mul_one,Nat.add_zero,List.getElem?_map,List.getElem?_eq_getElem h,Option.map_some,List.getD_eq_getElem?_getD,Option.getD_some]
theorem splice_ev (e:Ev):splice (List.replicate 5 (AV.i .i64 0) ++ [.b false]) 0 (evC e) = evC e:=rfl
theorem part_22 (a b:AV):part [a,b] 0 (some 2) = some (.agg [a,b]):=rfl
theorem evC_len (e:Ev):(evC e).length = 6:=rfl
theorem evC_one (e:Ev):(evC e).all one = true:=rfl
theorem evC_flat (e:Ev):(evC e).all flat = true:=rfl
theorem evC_all (e:Ev):part (evC e) 0 (some 6) = some (.agg (evC e)):=rfl
theorem ev_th (e:Ev):part (evC e) 0 none = some (.i .i64 e.th):=rfl
theorem ev_kd (e:Ev):part (evC e) 1 none = some (.i .i64 e.kd):=rfl
theorem ev_md (e:Ev):part (evC e) 2 none = some (.i .i64 e.md):=rfl
theorem ev_lc (e:Ev):part (evC e) 3 none = some (.i .i64 e.lc):=rfl
theorem ev_vl (e:Ev):part (evC e) 4 none = some (.i .i64 e.vl):=rfl
theorem ev_ex (e:Ev):part (evC e) 5 none = some (.b e.ex):=rfl
theorem grC_len (g:Gr):(grC g).length = 8:=rfl
theorem grC_one (g:Gr):(grC g).all one = true:=rfl
theorem grC_all (g:Gr):part (grC g) 0 (some 8) = some (.agg (grC g)):=rfl
theorem gr_locs (g:Gr):part (grC g) 0 none = some (.i .i64 g.locs):=rfl
theorem gr_evs (g:Gr):part (grC g) 1 none = some (.sl (evsC g.evs) g.evs.length .non):=rfl
theorem gr_rf (g:Gr):part (grC g) 2 none = some (.sl (intsC g.rf) g.rf.length .non):=rfl
theorem gr_co (g:Gr):part (grC g) 3 none = some (.sl (coC g.co) g.co.length .non):=rfl
theorem gr_rmw (g:Gr):part (grC g) 4 none = some (.sl (pairsC g.rmw) g.rmw.length .non):=rfl
theorem gr_data (g:Gr):part (grC g) 5 none = some (.sl (pairsC g.data) g.data.length .non):=rfl
theorem gr_ctrl (g:Gr):part (grC g) 6 none = some (.sl (pairsC g.ctrl) g.ctrl.length .non):=rfl
theorem gr_ctrli (g:Gr):part (grC g) 7 none = some (.sl (pairsC g.ctrli) g.ctrli.length .non):=rfl
theorem frz_gr (hp) (g:Gr):frz hp depth (.agg (grC g)) = some (.agg (grC g)):=by
 refine frz_d_agg ?_
 show frzL hp (7 + 1) _ = _
 simp only[grC,frzL,frz]
theorem frz_ev (hp) (e:Ev):frz hp depth (.agg (evC e)) = some (.agg (evC e)):=frz_d_agg (frzL_flat (d:=7) (evC_flat e))
theorem vis_gr (hp) (g:Gr):vis hp depth (.agg (grC g)) = []:=by
 show vis hp (8 + 1) _ = _
 simp only[vis,grC,List.flatMap_cons,List.flatMap_nil,List.nil_append,List.append_nil]
theorem vis_ev (hp) (e:Ev):vis hp depth (.agg (evC e)) = []:=by
 show vis hp (8 + 1) _ = _
 simp only[vis,evC,List.flatMap_cons,List.flatMap_nil,List.nil_append,List.append_nil]
theorem gl:type_of% (And.intro (And.intro (And.intro (And.intro (And.intro @evC_len @evC_one) (And.intro @evC_flat (And.intro @evC_all @ev_th))) (And.intro (And.intro @ev_kd (And.intro @ev_md @ev_lc)) (And.intro @ev_vl (And.intro @ev_ex @grC_len)))) (And.intro (And.intro (And.intro @grC_one @grC_all) (And.intro @gr_locs (And.intro @gr_evs @gr_rf))) (And.intro (And.intro @gr_co (And.intro @gr_rmw @gr_data)) (And.intro @gr_ctrl (And.intro @gr_ctrli @frz_gr))))) (And.intro (And.intro (And.intro (And.intro @frz_ev @vis_gr) (And.intro @vis_ev (And.intro @splice_ev @evsC_len))) (And.intro (And.intro @coC_len (And.intro @o_raw @vRaw_fn)) (And.intro @o_see (And.intro @vSee_fn @res_0)))) (And.intro (And.intro (And.intro @retP_nrm @retP_ret) (And.intro @o_mget (And.intro @vMget_S @mgS_map))) (And.intro (And.intro @o_mkmap (And.intro @o_mput @vMput_S)) (And.intro @mpS_map (And.intro @mpO_none @part_22)))))):=(And.intro (And.intro (And.intro (And.intro (And.intro @evC_len @evC_one) (And.intro @evC_flat (And.intro @evC_all @ev_th))) (And.intro (And.intro @ev_kd (And.intro @ev_md @ev_lc)) (And.intro @ev_vl (And.intro @ev_ex @grC_len)))) (And.intro (And.intro (And.intro @grC_one @grC_all) (And.intro @gr_locs (And.intro @gr_evs @gr_rf))) (And.intro (And.intro @gr_co (And.intro @gr_rmw @gr_data)) (And.intro @gr_ctrl (And.intro @gr_ctrli @frz_gr))))) (And.intro (And.intro (And.intro (And.intro @frz_ev @vis_gr) (And.intro @vis_ev (And.intro @splice_ev @evsC_len))) (And.intro (And.intro @coC_len (And.intro @o_raw @vRaw_fn)) (And.intro @o_see (And.intro @vSee_fn @res_0)))) (And.intro (And.intro (And.intro @retP_nrm @retP_ret) (And.intro @o_mget (And.intro @vMget_S @mgS_map))) (And.intro (And.intro @o_mkmap (And.intro @o_mput @vMput_S)) (And.intro @mpS_map (And.intro @mpO_none @part_22))))))
end Go.Ab
end
section
set_option linter.unusedVariables false
set_option linter.unusedSimpArgs false
namespace Go.Ab
variable {F:Funs}
theorem sp_of (h81:F 81 = some A_graph_Of) (pr:Pk_rel F) (G:Gr) (l:List (Int × Int)) (t:Tok) (hl:l.length < 9000000000000000000):pureS F 81 [.agg (grC G),.sl (pairsC l) l.length t] = some (.ptr (relC (clamp G.evs.length) (newR (clamp G.evs.length) l))):=by
 refine pure_of h81 ?_
 simp (disch:=omega) only[A_graph_Of,wp,qa,qb,qc,gl,sp_new pr _ l _ hl]
structure EcoSt (X:Gr) (l:List (Int × Int)) (g:G):Prop where
 gr:g.hp 0 = some (.cells (grC X) false)
 put:∃ t,g.hp 2 = some (.cells [.sl (pairsC l) l.length t] false)∧Live g 2 t
 f4:g.hp 4 = some (.cells [.fn 92 [] [.mp 2 0]] false)
 f7:g.hp 7 = some (.cells [.fn 93 [] [.mp 0 0,.mp 4 0]] false)
 m9:g.hp 9 = some (.map [(.s ⟨#[114,102]⟩,.fn 94 [] [.mp 4 0]),(.s ⟨#[99,111]⟩,.fn 95 [] [.mp 7 0]),(.s ⟨#[102,114]⟩,.fn 96 [] [.mp 7 0])])
 nx:9 < g.nx
def Kept (g g':G):Prop:=g.nx≤g'.nx∧∀ i,9 < i→i < g.nx→CM (g.hp i)→g'.hp i = g.hp i
theorem Kept.refl (g:G):Kept g g:=⟨Nat.le_refl _,fun _ _ _ _ => rfl⟩
theorem Kept.trans {g g1 g2:G} (h:Kept g g1) (k:Kept g1 g2):Kept g g2:=⟨Nat.le_trans h.1 k.1,fun i h1 h2 h3 => by
 have e:=h.2 i h1 h2 h3
 rw[←e]
 exact k.2 i h1 (Nat.lt_of_lt_of_le h2 h.1) (by rw[e];exact h3)⟩
theorem EcoSt.same {X:Gr} {l:List (Int × Int)} {g g':G} (h:EcoSt X l g) (k:Kept g g') (h9:∀ i,i≤9→g'.hp i = g.hp i) (ht:∀ i b,g.hp i = some (.tok b)→g'.hp i = g.hp i):EcoSt X l g':=by
 obtain ⟨t,h1,h2⟩:=h.put
 refine ⟨by rw[h9 0 (by omega)];exact h.gr,⟨t,by rw[h9 2 (by omega)];exact h1,?_⟩,by rw[h9 4 (by omega)];exact h.f4,by rw[h9 7 (by omega)];exact h.f7,by rw[h9 9 (by omega)];exact h.m9,Nat.lt_of_lt_of_le h.nx k.1⟩
 rcases h2 with rfl | ⟨τ,rfl,hτ,hlt⟩
 ·exact .inl rfl
 ·exact .inr ⟨τ,rfl,by rw[ht τ _ hτ];exact hτ,Nat.lt_of_lt_of_le hlt k.1⟩
theorem sp_put (h92:F 92 = some A_eco_pairs_1) {X:Gr} {l:List (Int × Int)} {g:G} (S:EcoSt X l g) (hl:l.length < 1099511627776) (a b:Int):
  ∃ v g',callS F 92 [.i .i64 a,.i .i64 b,.mp 2 0] g = some (v,g')∧EcoSt X (l ++ [(a,b)]) g'∧Kept g g':=by
 refine raw_of (P:=fun v g' => EcoSt X (l ++ [(a,b)]) g'∧Kept g g') h92 ?_
 obtain ⟨t,hp,ht⟩:=S.put
 have hnx:=S.nx
 have h0:=S.gr;have h4:=S.f4;have h7:=S.f7;have h9:=S.m9
 rcases ht with rfl | ⟨τ,rfl,hτ,hlt⟩
 ·simp (disch:=omega) only[A_eco_pairs_1,wp,qa,qb,qc,gl,hp,pairsC_len]
  refine ⟨_,rfl,?_,?_⟩
  ·refine ⟨?_,⟨.own (g.nx + 5) 2,?_,?_⟩,?_,?_,?_,by dsimp only;omega⟩
   ·simp (disch:=omega) only[upd_ne];exact h0
   ·simp (disch:=omega) only[upd_same,pairsC_app,pairsC_one,List.length_append];rfl
   ·exact .inr ⟨_,rfl,by simp (disch:=omega) only[upd_same,upd_ne],by dsimp only;omega⟩
   ·simp (disch:=omega) only[upd_ne];exact h4
   ·simp (disch:=omega) only[upd_ne];exact h7
   ·simp (disch:=omega) only[upd_ne];exact h9
  ·refine ⟨by dsimp only;omega,fun i i1 i2 i3 => ?_⟩
   simp (disch:=omega) only[upd_ne]
 ·have n0:τ≠0:=fun h => by rw[h,h0] at hτ;cases hτ
  have n2:τ≠2:=fun h => by rw[h,hp] at hτ;cases hτ
  have n4:τ≠4:=fun h => by rw[h,h4] at hτ;cases hτ
  have n7:τ≠7:=fun h => by rw[h,h7] at hτ;cases hτ
  have n9:τ≠9:=fun h => by rw[h,h9] at hτ;cases hτ
  simp (disch:=omega) only[A_eco_pairs_1,wp,qa,qb,qc,gl,hp,pairsC_len,hτ]
  refine ⟨_,rfl,?_,?_⟩
  ·refine ⟨?_,⟨.own (g.nx + 5) 2,?_,?_⟩,?_,?_,?_,by dsimp only;omega⟩
   ·simp (disch:=omega) only[upd_ne];exact h0
   ·simp (disch:=omega) only[upd_same,pairsC_app,pairsC_one,List.length_append];rfl
   ·exact .inr ⟨_,rfl,by simp (disch:=omega) only[upd_same,upd_ne],by dsimp only;omega⟩
   ·simp (disch:=omega) only[upd_ne];exact h4
   ·simp (disch:=omega) only[upd_ne];exact h7
   ·simp (disch:=omega) only[upd_ne];exact h9
  ·refine ⟨by dsimp only;omega,fun i i1 i2 i3 => ?_⟩
   have:i≠τ:=fun h => by rw[h,hτ] at i3;exact i3
   simp (disch:=omega) only[upd_ne]
end Go.Ab
end
section
set_option linter.unusedVariables false
set_option linter.unusedSimpArgs false
namespace Go.Ab
variable {F:Funs}
def aftS (w:Int) (p:List Int × Bool) (i:Int):List Int × Bool:=(if p.2 then p.1 ++ [i] else p.1,p.2 || i == w)
def aft (w:Int) (c:List Int):List Int × Bool:=c.foldl (aftS w) ([],false)
def behL (a w:Int) (co:List (List Int)):List (Int × Int):=co.flatMap fun c => (aft w c).1.map fun i => (a,i)
theorem aft_take {w:Int} {c:List Int} {k:Nat} (h:k < c.length):aft w (c.take (k + 1)) = aftS w (aft w (c.take k)) (c.getD k 0):=by
 unfold aft
 rw[List.take_add_one,List.foldl_append,List.getElem?_eq_getElem h,List.getD_eq_getElem?_getD,List.getElem?_eq_getElem h]
 rfl
theorem behL_take {a w:Int} {co:List (List Int)} {k:Nat} (h:k < co.length):behL a w (co.take (k + 1)) = behL a w (co.take k) ++ (aft w (co.getD k [])).1.map (fun i => (a,i)):=by
 unfold behL
 rw[List.take_add_one,List.flatMap_append,List.getElem?_eq_getElem h,List.getD_eq_getElem?_getD,List.getElem?_eq_getElem h]
 simp
theorem aft_len (w:Int) (c:List Int):(aft w c).1.length≤c.length:=by
 have key:∀ (c:List Int) (p:List Int × Bool),(c.foldl (aftS w) p).1.length≤p.1.length + c.length:=by
  intro c
  induction c with
  | nil => intro p;simp
  | cons i c ih =>
    intro p
    rw[List.foldl_cons]
    have:=ih (aftS w p i)
    have h2:(aftS w p i).1.length≤p.1.length + 1:=by unfold aftS;split<;>simp
    simp only[List.length_cons];omega
 have:=key c ([],false)
 unfold aft
 simpa using this
theorem behL_len (a w:Int) (co:List (List Int)) {b:Nat} (h:∀ c∈co,c.length≤b):(behL a w co).length≤co.length * b:=by
 induction co with
 | nil => simp[behL]
 | cons c co ih =>
   have h1:=ih fun d hd => h d (List.mem_cons_of_mem _ hd)
   have h2:=aft_len w c
   have h3:=h c (List.mem_cons_self ..)
   unfold behL at h1 ⊢
   rw[List.flatMap_cons,List.length_append,List.length_map,List.length_cons,Nat.succ_mul]
   omega
theorem EcoSt.on {X:Gr} {l:List (Int × Int)} {g:G} (h:EcoSt X l g) {n:Nat} (hn:g.nx≤n):EcoSt X l ⟨g.hp,n⟩:=
 h.same ⟨hn,fun _ _ _ _ => rfl⟩ (fun _ _ => rfl) (fun _ _ _ => rfl)
theorem Kept.on {g g':G} (h:Kept g g') {n:Nat} (hn:g'.nx≤n):Kept g ⟨g'.hp,n⟩:=⟨Nat.le_trans h.1 hn,h.2⟩
theorem Kept.from {g g':G} {n:Nat} (hn:g.nx≤n) (h:Kept ⟨g.hp,n⟩ g'):Kept g g':=⟨Nat.le_trans hn h.1,fun i h1 h2 h3 => h.2 i h1 (Nat.lt_of_lt_of_le h2 hn) h3⟩
theorem sp_behind (h93:F 93 = some A_eco_pairs_2) (h92:F 92 = some A_eco_pairs_1) {X:Gr} {l:List (Int × Int)} {g:G} (S:EcoSt X l g) (hl:l.length < 1000000) (hco:X.co.length≤1000∧∀ c∈X.co,c.length≤1000) (a w:Int):
  ∃ v g',callS F 93 [.i .i64 a,.i .i64 w,.mp 0 0,.mp 4 0] g = some (v,g')∧EcoSt X (l ++ behL a w X.co) g'∧Kept g g':=by
 refine raw_of (P:=fun v g' => EcoSt X (l ++ behL a w X.co) g'∧Kept g g') h93 ?_
 have h0:=S.gr
 have hnx:=S.nx
 simp (disch:=omega) only[A_eco_pairs_2,wp,qa,qb,qc,gl,h0]
 refine W_loop (fun q e g1 => ∃ k,q = X.co.length - k∧k≤X.co.length∧e 0 = .i .i64 a∧e 1 = .i .i64 w∧e 3 = .mp 4 0∧e 12 = .sl (coC X.co) X.co.length .non∧e 13 = .i .i64 X.co.length∧e 14 = .i .i64 k∧EcoSt X (l ++ behL a w (X.co.take k)) g1∧Kept g g1) X.co.length ?_ ?_
 ·refine ⟨0,rfl,Nat.zero_le _,?_⟩
  simp (disch:=omega) only[wp,qa,qb,qc]
  refine ⟨rfl,?_,(Kept.refl g).on (by omega)⟩
  have:l ++ behL a w (List.take 0 X.co) = l:=by simp[behL]
  rw[this]
  exact S.on (by omega)
 ·rintro q e g1 ⟨k,rfl,hk,e0,e1,e3,e12,e13,e14,S1,K1⟩
  by_cases hk':k < X.co.length
  ·have hk1:(k:Int) < X.co.length:=by omega
   have hwk:=succ_wrap (k:=k) (by omega)
   have hcp:=co_part hk'
   have hbt:=behL_take (a:=a) (w:=w) hk'
   have hcl:(X.co.getD k []).length≤1000:=hco.2 _ (by rw[List.getD_eq_getElem?_getD,List.getElem?_eq_getElem hk'];exact List.getElem_mem hk')
   have hbl:(behL a w (X.co.take k)).length≤1000000:=by
    have h1:=behL_len a w (X.co.take k) (b:=1000) fun c hc => hco.2 c (List.mem_of_mem_take hc)
    rw[List.length_take] at h1
    have h2:min k X.co.length * 1000≤1000 * 1000:=Nat.mul_le_mul (by omega) (Nat.le_refl _)
    omega
   generalize X.co.getD k [] = c at hcp hbt hcl
   generalize behL a w (X.co.take k) = B at S1 hbt hbl
   simp (disch:=omega) only[wp,qa,qb,qc,gl,e0,e1,e3,e12,e13,e14,hk1,hcp]
   refine W_loop (fun q e g2 => ∃ j,q = c.length - j∧j≤c.length∧e 0 = .i .i64 a∧e 1 = .i .i64 w∧e 3 = .mp 4 0∧e 12 = .sl (coC X.co) X.co.length .non∧e 13 = .i .i64 X.co.length∧e 14 = .i .i64 k∧e 18 = .sl (intsC c) c.length .non∧e 19 = .i .i64 c.length∧e 20 = .i .i64 j∧e 8 = .b (aft w (c.take j)).2∧EcoSt X (l ++ B ++ (aft w (c.take j)).1.map fun i => (a,i)) g2∧Kept g g2) c.length ?_ ?_
   ·refine ⟨0,rfl,Nat.zero_le _,?_⟩
    simp (disch:=omega) only[wp,qa,qb,qc,e0,e1,e3,e12,e13,e14]
    refine ⟨rfl,rfl,?_,K1.on (by omega)⟩
    have:l ++ B ++ (aft w (List.take 0 c)).1.map (fun i => (a,i)) = l ++ B:=by simp[aft]
    rw[this]
    exact S1.on (by omega)
   ·rintro q e g2 ⟨j,rfl,hj,e0,e1,e3,e12,e13,e14,e18,e19,e20,e8,S2,K2⟩
    by_cases hj':j < c.length
    ·have hj1:(j:Int) < c.length:=by omega
     have hwj:=succ_wrap (k:=j) (by omega)
     have hip:=ints_part hj'
     have hat:=aft_take (w:=w) hj'
     have hal:=aft_len w (c.take j)
     rw[List.length_take] at hal
     generalize c.getD j 0 = i at hip hat
     generalize aft w (c.take j) = p at hat e8 S2 hal
     obtain ⟨acc,s⟩:=p
     simp only at e8 S2 hal
     have hL:(l ++ B ++ acc.map fun i => (a,i)).length < 1099511627776:=by
      rw[List.length_append,List.length_append,List.length_map];omega
     cases s with
     | true =>
       have f4:=S2.f4
       have n2:=S2.nx
       simp (disch:=omega) only[wp,qa,qb,qc,gl,e0,e1,e3,e12,e13,e14,e18,e19,e20,e8,hj1,hip,f4]
       refine bindO_call _ (sp_put h92 (S2.on (n:=_) (by omega)) hL a i) ?_
       rintro v g3 ⟨S3,K3⟩
       simp (disch:=omega) only[wp,qa,qb,qc,gl,e0,e1,e3,e12,e13,e14,e18,e19,e20,e8,hwj]
       have n3:=K3.1
       dsimp only at n3
       refine ⟨c.length - (j + 1),by omega,j + 1,rfl,by omega,rfl,?_,?_,((K2.trans (K3.from (by omega))).on (by first | omega | (dsimp only;omega)))⟩
       ·rw[hat];rfl
       ·rw[hat]
        simp only[aftS,if_true,List.map_append,List.map_cons,List.map_nil]
        rw[←List.append_assoc]
        exact S3.on (by first | omega | (dsimp only;omega))
     | false =>
       simp (disch:=omega) only[wp,qa,qb,qc,gl,e0,e1,e3,e12,e13,e14,e18,e19,e20,e8,hj1,hip,hwj]
       refine ⟨c.length - (j + 1),by omega,j + 1,rfl,by omega,rfl,?_,?_,K2.on (by first | omega | (dsimp only;omega))⟩
       ·rw[hat];simp[aftS]
       ·rw[hat]
        simp only[aftS,Bool.false_eq_true,if_false]
        exact S2.on (by first | omega | (dsimp only;omega))
    ·obtain rfl:j = c.length:=by omega
     have hj1:¬ ((c.length:Int) < c.length):=by omega
     simp (disch:=omega) only[wp,qa,qb,qc,gl,e0,e1,e3,e12,e13,e14,e18,e19,e20,e8,hj1,hwk]
     refine ⟨X.co.length - (k + 1),by omega,k + 1,rfl,by omega,rfl,?_,K2.on (by first | omega | (dsimp only;omega))⟩
     rw[hbt,←List.append_assoc]
     rw[List.take_length] at S2
     exact S2.on (by first | omega | (dsimp only;omega))
  ·obtain rfl:k = X.co.length:=by omega
   have hk1:¬ ((X.co.length:Int) < X.co.length):=by omega
   simp (disch:=omega) only[wp,qa,qb,qc,gl,e0,e1,e3,e12,e13,e14,hk1]
   rw[List.take_length] at S1
   exact ⟨_,rfl,S1.on (by first | omega | (dsimp only;omega)),K1.on (by first | omega | (dsimp only;omega))⟩
end Go.Ab
end
section
set_option linter.unusedVariables false
set_option linter.unusedSimpArgs false
namespace Go.Ab
variable {F:Funs}
theorem EcoSt.grow {X:Gr} {l:List (Int × Int)} {g g':G} (h:EcoSt X l g) (hn:g.nx≤g'.nx) (ho:∀ i,i < g.nx→g'.hp i = g.hp i):EcoSt X l g'∧Kept g g':=by
 have h9:=h.nx
 obtain ⟨t,h1,h2⟩:=h.put
 refine ⟨⟨by rw[ho 0 (by omega)];exact h.gr,⟨t,by rw[ho 2 (by omega)];exact h1,?_⟩,by rw[ho 4 (by omega)];exact h.f4,by rw[ho 7 (by omega)];exact h.f7,by rw[ho 9 (by omega)];exact h.m9,by omega⟩,hn,fun i _ hi _ => ho i hi⟩
 rcases h2 with rfl | ⟨τ,rfl,hτ,hlt⟩
 ·exact .inl rfl
 ·exact .inr ⟨τ,rfl,by rw[ho τ hlt];exact hτ,by omega⟩
def rfS (i w:Int) (e:Ev):List (Int × Int):=if e.kd = 1 then [(w,i)] else []
def coS (co:List (List Int)) (i w:Int) (e:Ev):List (Int × Int):=if e.kd = 2 then behL i i co else []
def frS (co:List (List Int)) (i w:Int) (e:Ev):List (Int × Int):=if e.kd = 1 then behL i w co else []
theorem sp_94 (h94:F 94 = some A_eco_pairs_3) (h92:F 92 = some A_eco_pairs_1) {X:Gr} {l:List (Int × Int)} {g:G} (S:EcoSt X l g) (hl:l.length < 1000000) (i w:Int) (e:Ev):
  ∃ v g',callS F 94 [.i .i64 i,.i .i64 w,.agg (evC e),.mp 4 0] g = some (v,g')∧EcoSt X (l ++ rfS i w e) g'∧Kept g g':=by
 refine raw_of (P:=fun v g' => EcoSt X (l ++ rfS i w e) g'∧Kept g g') h94 ?_
 have hnx:=S.nx
 have f4:=S.f4
 have grow:=fun (n:Nat) (hn:g.nx≤n) => S.grow (g':=⟨upd g.hp g.nx (some (.cells (evC e) false)),n⟩) hn fun i hi => by
  show upd _ _ _ _ = _
  rw[upd_ne _ _ (by omega)]
 by_cases hk:e.kd = 1
 ·have hk1:(e.kd == 1) = true:=by simp[hk]
  simp (disch:=omega) only[A_eco_pairs_3,wp,qa,qb,qc,gl,hk1,f4]
  obtain ⟨S1,K1⟩:=grow (g.nx + 1 + 3 + 4) (by omega)
  refine bindO_call _ (sp_put h92 S1 (by omega) w i) ?_
  rintro v g3 ⟨S3,K3⟩
  simp (disch:=omega) only[wp,qa,qb,qc,gl]
  have:rfS i w e = [(w,i)]:=if_pos hk
  rw[this]
  exact ⟨_,rfl,S3,K1.trans K3⟩
 ·have hk1:(e.kd == 1) = false:=by simp[hk]
  simp (disch:=omega) only[A_eco_pairs_3,wp,qa,qb,qc,gl,hk1,f4]
  have:l ++ rfS i w e = l:=by rw[rfS,if_neg hk];simp
  rw[this]
  exact ⟨_,rfl,(grow _ (by omega)).1,(grow _ (by omega)).2⟩
theorem sp_95 (h95:F 95 = some A_eco_pairs_4) (h93:F 93 = some A_eco_pairs_2) (h92:F 92 = some A_eco_pairs_1) {X:Gr} {l:List (Int × Int)} {g:G} (S:EcoSt X l g) (hl:l.length < 1000000) (hco:X.co.length≤1000∧∀ c∈X.co,c.length≤1000) (i w:Int) (e:Ev):
  ∃ v g',callS F 95 [.i .i64 i,.i .i64 w,.agg (evC e),.mp 7 0] g = some (v,g')∧EcoSt X (l ++ coS X.co i w e) g'∧Kept g g':=by
 refine raw_of (P:=fun v g' => EcoSt X (l ++ coS X.co i w e) g'∧Kept g g') h95 ?_
 have hnx:=S.nx
 have f7:=S.f7
 have grow:=fun (n:Nat) (hn:g.nx≤n) => S.grow (g':=⟨upd g.hp g.nx (some (.cells (evC e) false)),n⟩) hn fun i hi => by
  show upd _ _ _ _ = _
  rw[upd_ne _ _ (by omega)]
 by_cases hk:e.kd = 2
 ·have hk1:(e.kd == 2) = true:=by simp[hk]
  simp (disch:=omega) only[A_eco_pairs_4,wp,qa,qb,qc,gl,hk1,f7]
  obtain ⟨S1,K1⟩:=grow (g.nx + 1 + 3 + 4) (by omega)
  refine bindO_call _ (sp_behind h93 h92 S1 hl hco i i) ?_
  rintro v g3 ⟨S3,K3⟩
  simp (disch:=omega) only[wp,qa,qb,qc,gl]
  have:coS X.co i w e = behL i i X.co:=if_pos hk
  rw[this]
  exact ⟨_,rfl,S3,K1.trans K3⟩
 ·have hk1:(e.kd == 2) = false:=by simp[hk]
  simp (disch:=omega) only[A_eco_pairs_4,wp,qa,qb,qc,gl,hk1,f7]
  have:l ++ coS X.co i w e = l:=by rw[coS,if_neg hk];simp
  rw[this]
  exact ⟨_,rfl,(grow _ (by omega)).1,(grow _ (by omega)).2⟩
theorem sp_96 (h96:F 96 = some A_eco_pairs_5) (h93:F 93 = some A_eco_pairs_2) (h92:F 92 = some A_eco_pairs_1) {X:Gr} {l:List (Int × Int)} {g:G} (S:EcoSt X l g) (hl:l.length < 1000000) (hco:X.co.length≤1000∧∀ c∈X.co,c.length≤1000) (i w:Int) (e:Ev):
  ∃ v g',callS F 96 [.i .i64 i,.i .i64 w,.agg (evC e),.mp 7 0] g = some (v,g')∧EcoSt X (l ++ frS X.co i w e) g'∧Kept g g':=by
 refine raw_of (P:=fun v g' => EcoSt X (l ++ frS X.co i w e) g'∧Kept g g') h96 ?_
 have hnx:=S.nx
 have f7:=S.f7
 have grow:=fun (n:Nat) (hn:g.nx≤n) => S.grow (g':=⟨upd g.hp g.nx (some (.cells (evC e) false)),n⟩) hn fun i hi => by
  show upd _ _ _ _ = _
  rw[upd_ne _ _ (by omega)]
 by_cases hk:e.kd = 1
 ·have hk1:(e.kd == 1) = true:=by simp[hk]
  simp (disch:=omega) only[A_eco_pairs_5,wp,qa,qb,qc,gl,hk1,f7]
  obtain ⟨S1,K1⟩:=grow (g.nx + 1 + 3 + 4) (by omega)
  refine bindO_call _ (sp_behind h93 h92 S1 hl hco i w) ?_
  rintro v g3 ⟨S3,K3⟩
  simp (disch:=omega) only[wp,qa,qb,qc,gl]
  have:frS X.co i w e = behL i w X.co:=if_pos hk
  rw[this]
  exact ⟨_,rfl,S3,K1.trans K3⟩
 ·have hk1:(e.kd == 1) = false:=by simp[hk]
  simp (disch:=omega) only[A_eco_pairs_5,wp,qa,qb,qc,gl,hk1,f7]
  have:l ++ frS X.co i w e = l:=by rw[frS,if_neg hk];simp
  rw[this]
  exact ⟨_,rfl,(grow _ (by omega)).1,(grow _ (by omega)).2⟩
end Go.Ab
end
section
set_option linter.unusedVariables false
set_option linter.unusedSimpArgs false
namespace Go.Ab
variable {F:Funs}
def Few (X:Gr):Prop:=X.evs.length≤60∧X.co.length≤6∧∀ c∈X.co,c.length≤60
def wOf (X:Gr) (i:Nat):Int:=if i < X.rf.length then X.rf.getD i 0 else -1
def pairsE (stp:Int→Int→Ev→List (Int × Int)) (X:Gr) (k:Nat):List (Int × Int):=(List.range k).flatMap fun (i:Nat) => stp (i:Int) (wOf X i) (X.evs.getD i ev0)
theorem pairsE_succ (stp X k):pairsE stp X (k + 1) = pairsE stp X k ++ stp k (wOf X k) (X.evs.getD k ev0):=by simp[pairsE,List.range_succ]
theorem pairsE_len {stp X} (h:∀ i w e,(stp i w e).length≤1000):∀ k,(pairsE stp X k).length≤k * 1000
 | 0 => by simp[pairsE]
 | k + 1 => by
   rw[pairsE_succ,List.length_append,Nat.succ_mul]
   have h1:=pairsE_len (X:=X) h k
   have h2:=h k (wOf X k) (X.evs.getD k ev0)
   omega
theorem sp_pairsE (h80:F 80 = some A_eco_pairs) (h81:F 81 = some A_graph_Of) (pr:Pk_rel F) {X:Gr} (hX:Few X) {s:ByteArray} {fid:Nat} {caps:List AV} {stp:Int→Int→Ev→List (Int × Int)}
  (hm:mlook [(.s ⟨#[114,102]⟩,.fn 94 [] [.mp 4 0]),(.s ⟨#[99,111]⟩,.fn 95 [] [.mp 7 0]),(.s ⟨#[102,114]⟩,.fn 96 [] [.mp 7 0])] s = some (.fn fid [] caps))
  (hlen:∀ i w e,(stp i w e).length≤1000)
  (hstp:∀ (l:List (Int × Int)) (g:G),EcoSt X l g→l.length < 1000000→∀ (i w:Int) (e:Ev),∃ v g',callS F fid ([.i .i64 i,.i .i64 w,.agg (evC e)] ++ caps) g = some (v,g')∧EcoSt X (l ++ stp i w e) g'∧Kept g g'):
  pureS F 80 [.agg (grC X),.s s] = some (.ptr (relC (clamp X.evs.length) (newR (clamp X.evs.length) (pairsE stp X X.evs.length)))):=by
 refine pure_of h80 ?_
 have e1:mlook [(AV.s ⟨#[114,102]⟩,AV.fn 94 [] [.mp 4 0])] ⟨#[99,111]⟩ = none:=by rfl
 have e2:mlook [(AV.s ⟨#[114,102]⟩,AV.fn 94 [] [.mp 4 0]),(AV.s ⟨#[99,111]⟩,AV.fn 95 [] [.mp 7 0])] ⟨#[102,114]⟩ = none:=by rfl
 have e0:mlook [] (⟨#[114,102]⟩:ByteArray) = none:=rfl
 have hev:=hX.1
 simp (disch:=omega) only[A_eco_pairs,wp,qa,qb,qc,gl,e0,e1,e2]
 refine W_loop (fun q e g => ∃ k,q = X.evs.length - k∧k≤X.evs.length∧e 1 = .s s∧e 2 = .mp 0 0∧e 5 = .mp 2 0∧e 8 = .mm 9∧e 20 = .sl (evsC X.evs) X.evs.length .non∧e 21 = .i .i64 X.evs.length∧e 22 = .i .i64 k∧EcoSt X (pairsE stp X k) g) X.evs.length ?_ ?_
 ·refine ⟨0,rfl,Nat.zero_le _,?_⟩
  simp (disch:=omega) only[wp,qa,qb,qc]
  refine ⟨rfl,?_,⟨.rig,?_,.inl rfl⟩,?_,?_,?_,?_⟩
  ·simp (disch:=omega) only[upd_same,upd_ne]
  ·simp (disch:=omega) only[upd_same,upd_ne];rfl
  ·simp (disch:=omega) only[upd_same,upd_ne]
  ·simp (disch:=omega) only[upd_same,upd_ne]
  ·simp (disch:=omega) only[upd_same,upd_ne]
  ·first | omega | (dsimp only;omega)
 ·rintro q e g ⟨k,rfl,hk,e1,e2,e5,e8,e20,e21,e22,S⟩
  have hnx:=S.nx
  have h0:=S.gr
  have h9:=S.m9
  by_cases hk':k < X.evs.length
  ·have hk1:(k:Int) < X.evs.length:=by omega
   have hwk:=succ_wrap (k:=k) (by omega)
   have hp:=ev_part hk'
   have hs:=pairsE_succ stp X k
   have hl:=pairsE_len (X:=X) hlen k
   generalize hE:X.evs.getD k ev0 = ev at hp hs
   have grow:∀ n,g.nx≤n→EcoSt X (pairsE stp X k) ⟨upd (upd g.hp (g.nx + 1 + 3) (some (.cells (List.replicate 5 (AV.i .i64 0) ++ [.b false]) false))) (g.nx + 1 + 3) (some (.cells (evC ev) false)),n⟩:=fun n hn =>
    (S.grow hn fun i hi => by
     show upd _ _ _ _ = _
     rw[upd_ne _ _ (by omega),upd_ne _ _ (by omega)]).1
   by_cases hr:k < X.rf.length
   ·have hr1:(k:Int) < X.rf.length:=by omega
    have hip:=ints_part hr
    have hw:wOf X k = X.rf.getD k 0:=if_pos hr
    rw[hw] at hs
    generalize X.rf.getD k 0 = w at hip hs
    simp (disch:=omega) only[wp,qa,qb,qc,gl,e1,e2,e5,e8,e20,e21,e22,h0,h9,hk1,hp,hr1,hip,hm]
    refine bindO_call _ (hstp _ _ (grow _ (by omega)) (by omega) k w ev) ?_
    rintro v g3 ⟨S3,K3⟩
    simp (disch:=omega) only[wp,qa,qb,qc,gl,e1,e2,e5,e8,e20,e21,e22,hwk]
    refine ⟨X.evs.length - (k + 1),by omega,k + 1,rfl,by omega,rfl,?_⟩
    rw[hs]
    exact S3.on (by first | omega | (dsimp only;omega))
   ·have hr1:¬ (k:Int) < X.rf.length:=by omega
    have hw:wOf X k = -1:=if_neg hr
    rw[hw] at hs
    simp (disch:=omega) only[wp,qa,qb,qc,gl,e1,e2,e5,e8,e20,e21,e22,h0,h9,hk1,hp,hr1,hm]
    refine bindO_call _ (hstp _ _ (grow _ (by omega)) (by omega) k (-1) ev) ?_
    rintro v g3 ⟨S3,K3⟩
    simp (disch:=omega) only[wp,qa,qb,qc,gl,e1,e2,e5,e8,e20,e21,e22,hwk]
    refine ⟨X.evs.length - (k + 1),by omega,k + 1,rfl,by omega,rfl,?_⟩
    rw[hs]
    exact S3.on (by first | omega | (dsimp only;omega))
  ·obtain rfl:k = X.evs.length:=by omega
   have hk1:¬ ((X.evs.length:Int) < X.evs.length):=by omega
   obtain ⟨t,hp,ht⟩:=S.put
   have hl:=pairsE_len (X:=X) hlen X.evs.length
   have hof:=sp_of h81 pr X (pairsE stp X X.evs.length) .non (by omega)
   simp (disch:=omega) only[wp,qa,qb,qc,gl,e1,e2,e5,e8,e20,e21,e22,h0,hk1,hp,hof]
end Go.Ab
end
section
set_option linter.unusedVariables false
set_option linter.unusedSimpArgs false
namespace Go.Ab
variable {F:Funs}
def nOf (X:Gr):Nat:=clamp X.evs.length
def relE (stp:Int→Int→Ev→List (Int × Int)) (X:Gr):Rw:=newR (nOf X) (pairsE stp X X.evs.length)
theorem few_beh {X:Gr} (hX:Few X) (i w:Int):(behL i w X.co).length≤1000:=by
 have h1:=behL_len i w X.co hX.2.2
 have h2:X.co.length * 60≤6 * 60:=Nat.mul_le_mul hX.2.1 (Nat.le_refl _)
 omega
theorem few_co {X:Gr} (hX:Few X):X.co.length≤1000∧∀ c∈X.co,c.length≤1000:=⟨by have:=hX.2.1;omega,fun c hc => by have:=hX.2.2 c hc;omega⟩
theorem sp_Rf (pe:Pk_eco F) (h81:F 81 = some A_graph_Of) (pr:Pk_rel F) {X:Gr} (hX:Few X):pureS F 48 [.agg (grC X)] = some (.ptr (relC (nOf X) (relE rfS X))):=by
 refine pure_of pe.eco_Rf ?_
 have h:=sp_pairsE pe.eco_pairs h81 pr hX (s:=⟨#[114,102]⟩) (fid:=94) (caps:=[.mp 4 0]) (stp:=rfS) (by rfl) (fun i w e => by unfold rfS;split<;>simp) (fun l g S hl i w e => sp_94 pe.eco_pairs_3 pe.eco_pairs_1 S hl i w e)
 simp (disch:=omega) only[A_eco_Rf,wp,qa,qb,qc,gl,h]
 rfl
theorem sp_Co (pe:Pk_eco F) (h81:F 81 = some A_graph_Of) (pr:Pk_rel F) {X:Gr} (hX:Few X):pureS F 49 [.agg (grC X)] = some (.ptr (relC (nOf X) (relE (coS X.co) X))):=by
 refine pure_of pe.eco_Co ?_
 have h:=sp_pairsE pe.eco_pairs h81 pr hX (s:=⟨#[99,111]⟩) (fid:=95) (caps:=[.mp 7 0]) (stp:=coS X.co) (by rfl) (fun i w e => by unfold coS;split;exact few_beh hX i i;simp) (fun l g S hl i w e => sp_95 pe.eco_pairs_4 pe.eco_pairs_2 pe.eco_pairs_1 S hl (few_co hX) i w e)
 simp (disch:=omega) only[A_eco_Co,wp,qa,qb,qc,gl,h]
 rfl
theorem sp_Fr (pe:Pk_eco F) (h81:F 81 = some A_graph_Of) (pr:Pk_rel F) {X:Gr} (hX:Few X):pureS F 50 [.agg (grC X)] = some (.ptr (relC (nOf X) (relE (frS X.co) X))):=by
 refine pure_of pe.eco_Fr ?_
 have h:=sp_pairsE pe.eco_pairs h81 pr hX (s:=⟨#[102,114]⟩) (fid:=96) (caps:=[.mp 7 0]) (stp:=frS X.co) (by rfl) (fun i w e => by unfold frS;split;exact few_beh hX i w;simp) (fun l g S hl i w e => sp_96 pe.eco_pairs_5 pe.eco_pairs_2 pe.eco_pairs_1 S hl (few_co hX) i w e)
 simp (disch:=omega) only[A_eco_Fr,wp,qa,qb,qc,gl,h]
 rfl
def ecoR (X:Gr):Rw:=plusR (nOf X) (orR (orR (relE rfS X) (relE (coS X.co) X)) (relE (frS X.co) X))
theorem nOf_le (X:Gr):nOf X≤40:=clamp_le _
theorem sp_Eco (pe:Pk_eco F) (h81:F 81 = some A_graph_Of) (pr:Pk_rel F) {X:Gr} (hX:Few X):pureS F 42 [.agg (grC X)] = some (.ptr (relC (nOf X) (ecoR X))):=by
 refine pure_of pe.eco_Eco ?_
 have hn:=nOf_le X
 simp (disch:=omega) only[A_eco_Eco,wp,qa,qb,qc,gl,sp_Rf pe h81 pr hX,sp_Co pe h81 pr hX,sp_Fr pe h81 pr hX,sp_or pr,Nat.max_self,sp_plus pr]
 rfl
def okP (so:Ev→Ev→Bool) (X:Gr) (p:Int × Int):Bool:=decide (p.1 < X.evs.length) && decide (p.2 < X.evs.length) && so (X.evs.getD p.1.toNat ev0) (X.evs.getD p.2.toNat ev0)
theorem filter_take {P:Int × Int→Bool} {l:List (Int × Int)} {k:Nat} (h:k < l.length):(l.take (k + 1)).filter P = (l.take k).filter P ++ (if P (l.getD k (0,0)) then [l.getD k (0,0)] else []):=by
 rw[List.take_add_one,List.filter_append,List.getElem?_eq_getElem h,List.getD_eq_getElem?_getD,List.getElem?_eq_getElem h]
 simp only[Option.toList,Option.getD_some,List.filter_cons,List.filter_nil]
theorem sp_someE (pe:Pk_eco F) (h81:F 81 = some A_graph_Of) (pr:Pk_rel F) {X:Gr} {n:Nat} (hn:n≤40) (R:Rw) {fid:Nat} {so:Ev→Ev→Bool} (hso:∀ x y,pureS F fid [.agg (evC x),.agg (evC y)] = some (.b (so x y))):
  pureS F 57 [.agg (grC X),.ptr (relC n R),.fn fid [] []] = some (.ptr (relC (nOf X) (newR (nOf X) ((pairsR n R).filter (okP so X))))):=by
 refine pure_of pe.eco_some ?_
 have hlen:=pairsR_len hn R
 simp (disch:=omega) only[A_eco_some,wp,qa,qb,qc,gl,sp_pairs pr hn]
 generalize hL:pairsR n R = L at hlen
 refine W_loop (fun q e g => ∃ k t,q = L.length - k∧k≤L.length∧e 2 = .fn fid [] []∧e 3 = .mp 0 0∧e 11 = .sl (pairsC L) L.length .non∧e 12 = .i .i64 L.length∧e 13 = .i .i64 k∧e 7 = .sl (pairsC ((L.take k).filter (okP so X))) ((L.take k).filter (okP so X)).length t∧Live g 2 t∧g.hp 0 = some (.cells (grC X) false)∧0 < g.nx) L.length ?_ ?_
 ·refine ⟨0,.rig,rfl,Nat.zero_le _,?_⟩
  simp (disch:=omega) only[wp,qa,qb,qc]
  exact ⟨rfl,rfl,.inl rfl,by first | omega | (dsimp only;omega)⟩
 ·rintro q e g ⟨k,t,rfl,hk,e2,e3,e11,e12,e13,e7,ht,h0,hnx⟩
  by_cases hk':k < L.length
  ·have hk1:(k:Int) < L.length:=by omega
   have hw:=succ_wrap (k:=k) (by omega)
   have hp:=pairs_part hk'
   have hf:=filter_take (P:=okP so X) hk'
   have hfl:((L.take k).filter (okP so X)).length≤1600:=by
    have h1:=List.length_filter_le (okP so X) (L.take k)
    rw[List.length_take] at h1;omega
   have hmem:L.getD k (0,0)∈pairsR n R:=by
    rw[hL,List.getD_eq_getElem?_getD,List.getElem?_eq_getElem hk']
    exact List.getElem_mem hk'
   obtain ⟨m1,m2,m3,m4⟩:=pairsR_mem hmem
   generalize L.getD k (0,0) = p at hp hf m1 m2 m3 m4
   generalize (L.take k).filter (okP so X) = B at e7 hf hfl
   obtain ⟨a,b⟩:=p
   simp only at m1 m2 m3 m4
   have n1:0≠g.nx + 1 + 2:=by omega
   have hno:∀ {x},okP so X (a,b) = x→x = false→(L.take (k + 1)).filter (okP so X) = B:=fun h1 h2 => by rw[hf,h1,h2];simp
   by_cases iA:a < X.evs.length
   ·by_cases iB:b < X.evs.length
    ·have pA:=ev_part (l:=X.evs) (k:=a.toNat) (by omega)
     have pB:=ev_part (l:=X.evs) (k:=b.toNat) (by omega)
     cases hs:so (X.evs.getD a.toNat ev0) (X.evs.getD b.toNat ev0) with
     | true =>
       have hok:okP so X (a,b) = true:=by simp only[okP,hs,decide_eq_true iA,decide_eq_true iB,Bool.and_true]
       rw[if_pos hok] at hf
       rcases ht with rfl | ⟨τ,rfl,hτ,hlt⟩
       ·simp (disch:=omega) only[wp,qa,qb,qc,gl,e2,e3,e11,e12,e13,e7,h0,hk1,hp,iA,iB,pA,pB,hso,hs,pairsC_len,hw]
        refine ⟨L.length - (k + 1),by omega,k + 1,?_⟩
        rw[hf,pairsC_app,pairsC_one,List.length_append]
        exact ⟨_,rfl,by omega,rfl,rfl,.inr ⟨_,rfl,upd_same _ _ _,by first | omega | (dsimp only;omega)⟩,by first | omega | (dsimp only;omega)⟩
       ·have n0:τ≠0:=fun h => by rw[h,h0] at hτ;cases hτ
        simp (disch:=omega) only[wp,qa,qb,qc,gl,e2,e3,e11,e12,e13,e7,h0,hk1,hp,iA,iB,pA,pB,hso,hs,pairsC_len,hw,hτ]
        refine ⟨L.length - (k + 1),by omega,k + 1,?_⟩
        rw[hf,pairsC_app,pairsC_one,List.length_append]
        exact ⟨_,rfl,by omega,rfl,rfl,.inr ⟨_,rfl,upd_same _ _ _,by first | omega | (dsimp only;omega)⟩,by first | omega | (dsimp only;omega)⟩
     | false =>
       have hB:=hno (x:=false) (by simp only[okP,hs,Bool.and_false]) rfl
       simp (disch:=omega) only[wp,qa,qb,qc,gl,e2,e3,e11,e12,e13,e7,h0,hk1,hp,iA,iB,pA,pB,hso,hs,hw]
       refine ⟨L.length - (k + 1),by omega,k + 1,t,rfl,by omega,rfl,?_⟩
       rw[hB]
       refine ⟨rfl,?_,by first | omega | (dsimp only;omega)⟩
       rcases ht with rfl | ⟨τ,rfl,hτ,hlt⟩
       ·exact .inl rfl
       ·exact .inr ⟨τ,rfl,by simp (disch:=omega) only[upd_ne];exact hτ,by first | omega | (dsimp only;omega)⟩
    ·have hB:=hno (x:=false) (by simp[okP,iB]) rfl
     simp (disch:=omega) only[wp,qa,qb,qc,gl,e2,e3,e11,e12,e13,e7,h0,hk1,hp,iA,iB,hw]
     refine ⟨L.length - (k + 1),by omega,k + 1,t,rfl,by omega,rfl,?_⟩
     rw[hB]
     refine ⟨rfl,?_,by first | omega | (dsimp only;omega)⟩
     rcases ht with rfl | ⟨τ,rfl,hτ,hlt⟩
     ·exact .inl rfl
     ·exact .inr ⟨τ,rfl,by simp (disch:=omega) only[upd_ne];exact hτ,by first | omega | (dsimp only;omega)⟩
   ·have hB:=hno (x:=false) (by simp[okP,iA]) rfl
    simp (disch:=omega) only[wp,qa,qb,qc,gl,e2,e3,e11,e12,e13,e7,h0,hk1,hp,iA,hw]
    refine ⟨L.length - (k + 1),by omega,k + 1,t,rfl,by omega,rfl,?_⟩
    rw[hB]
    refine ⟨rfl,?_,by first | omega | (dsimp only;omega)⟩
    rcases ht with rfl | ⟨τ,rfl,hτ,hlt⟩
    ·exact .inl rfl
    ·exact .inr ⟨τ,rfl,by simp (disch:=omega) only[upd_ne];exact hτ,by first | omega | (dsimp only;omega)⟩
  ·obtain rfl:k = L.length:=by omega
   have hk1:¬ ((L.length:Int) < L.length):=by omega
   rw[List.take_length] at e7
   have hfl:(L.filter (okP so X)).length≤1600:=by
    have h1:=List.length_filter_le (okP so X) L
    omega
   have hof:=sp_of h81 pr X (L.filter (okP so X)) .non (by omega)
   simp (disch:=omega) only[wp,qa,qb,qc,gl,e2,e3,e11,e12,e13,e7,h0,hk1,hof]
   rfl
end Go.Ab
end
section
set_option linter.unusedVariables false
set_option linter.unusedSimpArgs false
namespace Go.Ab
variable {F:Funs}
def inner (x y:Ev):Bool:=x.th == y.th
def outer (x y:Ev):Bool:=x.th != y.th
def locP (x y:Ev):Bool:=x.kd != 3 && y.kd != 3 && x.lc == y.lc
theorem sp_58 (h:F 58 = some A_eco_Inner_1) (x y:Ev):pureS F 58 [.agg (evC x),.agg (evC y)] = some (.b (inner x y)):=by
 refine pure_of h ?_
 simp (disch:=omega) only[A_eco_Inner_1,wp,qa,qb,qc,gl]
 rfl
theorem sp_59 (h:F 59 = some A_eco_Outer_1) (x y:Ev):pureS F 59 [.agg (evC x),.agg (evC y)] = some (.b (outer x y)):=by
 refine pure_of h ?_
 simp (disch:=omega) only[A_eco_Outer_1,wp,qa,qb,qc,gl]
 rfl
theorem sp_61 (h:F 61 = some A_eco_Loc_1) (x y:Ev):pureS F 61 [.agg (evC x),.agg (evC y)] = some (.b (locP x y)):=by
 refine pure_of h ?_
 unfold locP
 cases h1:(x.kd != 3) with
 | true =>
   cases h2:(y.kd != 3) with
   | true => simp (disch:=omega) only[A_eco_Loc_1,wp,qa,qb,qc,gl,h1,h2]
   | false => simp (disch:=omega) only[A_eco_Loc_1,wp,qa,qb,qc,gl,h1,h2]
 | false => simp (disch:=omega) only[A_eco_Loc_1,wp,qa,qb,qc,gl,h1]
def partR (so:Ev→Ev→Bool) (X:Gr) (n:Nat) (R:Rw):Rw:=newR (nOf X) ((pairsR n R).filter (okP so X))
theorem sp_Inner (pe:Pk_eco F) (h81:F 81 = some A_graph_Of) (pr:Pk_rel F) {X:Gr} {n:Nat} (hn:n≤40) (R:Rw):pureS F 39 [.agg (grC X),.ptr (relC n R)] = some (.ptr (relC (nOf X) (partR inner X n R))):=by
 refine pure_of pe.eco_Inner ?_
 have h:=sp_someE pe h81 pr (X:=X) hn R (sp_58 pe.eco_Inner_1)
 simp (disch:=omega) only[A_eco_Inner,wp,qa,qb,qc,gl,h]
 rfl
theorem sp_Outer (pe:Pk_eco F) (h81:F 81 = some A_graph_Of) (pr:Pk_rel F) {X:Gr} {n:Nat} (hn:n≤40) (R:Rw):pureS F 40 [.agg (grC X),.ptr (relC n R)] = some (.ptr (relC (nOf X) (partR outer X n R))):=by
 refine pure_of pe.eco_Outer ?_
 have h:=sp_someE pe h81 pr (X:=X) hn R (sp_59 pe.eco_Outer_1)
 simp (disch:=omega) only[A_eco_Outer,wp,qa,qb,qc,gl,h]
 rfl
end Go.Ab
end
section
set_option linter.unusedVariables false
set_option linter.unusedSimpArgs false
namespace Go.Ab
variable {F:Funs}
def poB (a b:Nat) (x y:Ev):Bool:=((x.th == 0) && (y.th != 0)) || ((x.th == y.th) && ((x.th != 0) && decide (a < b)))
def poReg:ACode:=match A_graph_Po.body with
 | .seq _ (.seq _ (.seq (.seq _ (.blk _ (.loop (.seq _ (.seq _ (.seq (.blk _ (.seq _ (.seq _ (.blk _ (.loop (.seq _ (.seq _ (.seq (.blk _ (.seq _ (.seq r _))) _)))))))) _)))))) _)) => r
 | _ => .skip
theorem po_reg {e:Env} {g:G} {a b i j:Nat} {x y:Ev} (h5:e 5 = .mp i 0) (h7:e 7 = .mp j 0) (h4:e 4 = .i .i64 a) (h6:e 6 = .i .i64 b) (hi:g.hp i = some (.cells (evC x) false)) (hj:g.hp j = some (.cells (evC y) false)):
  W F poReg e g (midQ fun e' g' => e' 48 = .b (poB a b x y)∧(∀ t,t < 24→e' t = e t)∧g' = ⟨g.hp,g.nx + 25⟩):=by
 have fin:∀ {e':Env},(∀ t,t < 24→e' t = e t)→True:=fun _ => trivial
 unfold poB
 cases c1:(x.th == 0)<;>cases c2:(y.th != 0)<;>cases c3:(x.th == y.th)<;>cases c4:(x.th != 0)<;>cases c5:decide ((a:Int) < b)<;>
  (have c5':decide (a < b) = decide ((a:Int) < b):=by rw[decide_eq_decide];omega)<;>
  rw[c5] at c5'<;>
  simp (disch:=omega) only[poReg,A_graph_Po,wp,qa,qb,qc,gl,h5,h7,h4,h6,hi,hj,c1,c2,c3,c4,c5,c5']<;>
  (intro t ht;simp (disch:=omega) only[upd_ne])
def A_graph_Po':AFun:={ res:=[.t 2],body:=(.seq (.reg false [{ dst:=some 1,op:=.box (.t 0) },
 { dst:=some 2,op:=.mv (.c (.nilp)) }])
 (.seq (.reg false [{ dst:=some 3,op:=.mv (.c (.sl [] 0 .rig)) }])
 (.seq (.seq (.reg false [{ dst:=some 8,op:=.fa 1 (.t 1) },
  { dst:=some 9,op:=.ld none (.t 8) },
  { dst:=some 10,op:=.len (.t 9) },
  { dst:=some 11,op:=.mv (.c (.i .i64 0)) }])
 (.blk 0 (.loop (.seq (.reg false [{ dst:=some 12,op:=.bin .lss (.t 11) (.t 10) }])
 (.seq (.cond (.t 12) .skip
 (.ext 0))
 (.seq (.blk 1 (.seq (.reg false [{ dst:=some 13,op:=.mv (.t 11) },
  { dst:=some 14,op:=.ia 6 (.t 9) (.t 11) },
  { dst:=some 15,op:=.ld (some 6) (.t 14) },
  { dst:=some 5,op:=.new (List.replicate 5 (.i .i64 0) ++ [.b false]) },
  { dst:=some 4,op:=.mv (.t 13) },
  { dst:=none,op:=.st 6 (.t 5) (.t 15) }])
 (.seq (.reg false [{ dst:=some 16,op:=.fa 1 (.t 1) },
  { dst:=some 17,op:=.ld none (.t 16) },
  { dst:=some 18,op:=.len (.t 17) },
  { dst:=some 19,op:=.mv (.c (.i .i64 0)) }])
 (.blk 2 (.loop (.seq (.reg false [{ dst:=some 20,op:=.bin .lss (.t 19) (.t 18) }])
 (.seq (.cond (.t 20) .skip
 (.ext 2))
 (.seq (.blk 3 (.seq (.reg false [{ dst:=some 21,op:=.mv (.t 19) },
  { dst:=some 22,op:=.ia 6 (.t 17) (.t 19) },
  { dst:=some 23,op:=.ld (some 6) (.t 22) },
  { dst:=some 7,op:=.new (List.replicate 5 (.i .i64 0) ++ [.b false]) },
  { dst:=some 6,op:=.mv (.t 21) },
  { dst:=none,op:=.st 6 (.t 7) (.t 23) }])
 (.seq poReg
 (.cond (.t 48) (.reg false [{ dst:=some 49,op:=.mv (.t 3) },
  { dst:=some 50,op:=.mv (.t 4) },
  { dst:=some 51,op:=.mv (.t 6) },
  { dst:=some 52,op:=.build ([.i .i64 0,.i .i64 0]) [(0,1,.t 50),(1,1,.t 51)] },
  { dst:=some 53,op:=.bsl true 1 ([.i .i64 0,.i .i64 0]) [(0,2,.t 52)] },
  { dst:=some 54,op:=.app 2 16 (.t 49) (.t 53) },
  { dst:=some 3,op:=.mv (.t 54) }])
 .skip))))
 (.reg false [{ dst:=some 55,op:=.bin .add (.t 19) (.c (.i .i64 1)) },
  { dst:=some 19,op:=.mv (.t 55) }])))))))))
 (.reg false [{ dst:=some 56,op:=.bin .add (.t 11) (.c (.i .i64 1)) },
  { dst:=some 11,op:=.mv (.t 56) }])))))))
 (.seq (.reg false [{ dst:=some 57,op:=.ld (some 8) (.t 1) },
  { dst:=some 58,op:=.mv (.t 3) },
  { dst:=some 59,op:=.call .pure (.c (.fn 81 [] [])) [.t 57,.t 58] },
  { dst:=some 2,op:=.mv (.t 59) }])
 .ret)))) }
theorem po_eq:A_graph_Po = A_graph_Po':=rfl
def poRow (X:Gr) (k j:Nat):List (Int × Int):=((List.range j).filter fun (b:Nat) => poB k b (X.evs.getD k ev0) (X.evs.getD b ev0)).map fun (b:Nat) => ((k:Int),(b:Int))
def poK (X:Gr) (k:Nat):List (Int × Int):=(List.range k).flatMap fun a => poRow X a X.evs.length
def poL (X:Gr) (k j:Nat):List (Int × Int):=poK X k ++ poRow X k j
theorem poK_succ (X k):poK X (k + 1) = poL X k X.evs.length:=by simp[poK,poL,List.range_succ]
theorem poL_0 (X k):poL X k 0 = poK X k:=by simp[poL,poRow]
theorem poL_succ (X k j):poL X k (j + 1) = if poB k j (X.evs.getD k ev0) (X.evs.getD j ev0) then poL X k j ++ [((k:Int),(j:Int))] else poL X k j:=by
 unfold poL poRow
 rw[List.range_succ,List.filter_append,List.filter_cons]
 split<;>simp
theorem sp_Po (h60:F 60 = some A_graph_Po) (h81:F 81 = some A_graph_Of) (pr:Pk_rel F) {X:Gr} (hX:X.evs.length≤1000):pureS F 60 [.agg (grC X)] = some (.ptr (relC (nOf X) (newR (nOf X) (poK X X.evs.length)))):=by
 rw[po_eq] at h60
 refine pure_of h60 ?_
 simp (disch:=omega) only[A_graph_Po',wp,qa,qb,qc,gl]
 refine W_loop (fun q e g => ∃ k t,q = X.evs.length - k∧k≤X.evs.length∧e 1 = .mp 0 0∧e 9 = .sl (evsC X.evs) X.evs.length .non∧e 10 = .i .i64 X.evs.length∧e 11 = .i .i64 k∧e 3 = .sl (pairsC (poK X k)) (poK X k).length t∧Live g 2 t∧(poK X k).length≤1000 * k∧g.hp 0 = some (.cells (grC X) false)∧0 < g.nx) X.evs.length ?_ ?_
 ·refine ⟨0,.rig,rfl,Nat.zero_le _,?_⟩
  simp (disch:=omega) only[wp,qa,qb,qc]
  exact ⟨rfl,rfl,.inl rfl,Nat.zero_le _,by first | omega | (dsimp only;omega)⟩
 ·rintro q e g ⟨k,t,rfl,hk,e1,e9,e10,e11,e3,ht,hl,h0,hnx⟩
  by_cases hk':k < X.evs.length
  ·have hk1:(k:Int) < X.evs.length:=by omega
   have hwk:=succ_wrap (k:=k) (by omega)
   have hpk:=ev_part hk'
   have n1:0≠g.nx + 1 + 3:=by omega
   simp (disch:=omega) only[wp,qa,qb,qc,gl,e1,e9,e10,e11,e3,h0,hk1,hpk]
   refine W_loop (fun q e g2 => ∃ j t,q = X.evs.length - j∧j≤X.evs.length∧e 1 = .mp 0 0∧e 9 = .sl (evsC X.evs) X.evs.length .non∧e 10 = .i .i64 X.evs.length∧e 11 = .i .i64 k∧e 4 = .i .i64 k∧e 5 = .mp (g.nx + 1 + 3) 0∧e 17 = .sl (evsC X.evs) X.evs.length .non∧e 18 = .i .i64 X.evs.length∧e 19 = .i .i64 j∧e 3 = .sl (pairsC (poL X k j)) (poL X k j).length t∧Live g2 2 t∧(poL X k j).length≤1000 * k + j∧g2.hp 0 = some (.cells (grC X) false)∧g2.hp (g.nx + 1 + 3) = some (.cells (evC (X.evs.getD k ev0)) false)∧g.nx + 1 + 3 < g2.nx) X.evs.length ?_ ?_
   ·refine ⟨0,t,rfl,Nat.zero_le _,?_⟩
    simp (disch:=omega) only[wp,qa,qb,qc,e1,e9,e10,e11,e3,h0,poL_0]
    refine ⟨rfl,?_,by first | omega | (dsimp only;omega),by first | omega | (dsimp only;omega)⟩
    rcases ht with rfl | ⟨τ,rfl,hτ,hlt⟩
    ·exact .inl rfl
    ·exact .inr ⟨τ,rfl,by simp (disch:=omega) only[upd_ne];exact hτ,by first | omega | (dsimp only;omega)⟩
   ·rintro q e g2 ⟨j,t,rfl,hj,e1,e9,e10,e11,e4,e5,e17,e18,e19,e3,ht,hl,h0,hc,hn2⟩
    by_cases hj':j < X.evs.length
    ·have hj1:(j:Int) < X.evs.length:=by omega
     have hwj:=succ_wrap (k:=j) (by omega)
     have hpj:=ev_part hj'
     have hLs:=poL_succ X k j
     simp (disch:=omega) only[wp,qa,qb,qc,gl,e1,e9,e10,e11,e4,e5,e17,e18,e19,e3,hj1,hpj]
     have m1:g.nx + 1 + 3≠g2.nx + 1 + 3:=by omega
     refine W_mono (po_reg (a:=k) (b:=j) (i:=g.nx + 1 + 3) (j:=g2.nx + 1 + 3) (x:=X.evs.getD k ev0) (y:=X.evs.getD j ev0) (by simp (disch:=omega) only[upd_ne,e5]) (by simp (disch:=omega) only[upd_ne,upd_same]) (by simp (disch:=omega) only[upd_ne,e4]) (by simp (disch:=omega) only[upd_ne,upd_same]) (by simp (disch:=omega) only[upd_ne];exact hc) (by simp (disch:=omega) only[upd_same])) ?_
     intro o e' g' hm
     cases o with
     | ext n => exact hm.elim
     | ret => exact hm.elim
     | nrm =>
       obtain ⟨f48,hfr,rfl⟩:=hm
       have f1:=hfr 1 (by omega)
       have f3:=hfr 3 (by omega)
       have f4:=hfr 4 (by omega)
       have f5:=hfr 5 (by omega)
       have f6:=hfr 6 (by omega)
       have f9:=hfr 9 (by omega)
       have f10:=hfr 10 (by omega)
       have f11:=hfr 11 (by omega)
       have f17:=hfr 17 (by omega)
       have f18:=hfr 18 (by omega)
       have f19:=hfr 19 (by omega)
       simp (disch:=omega) only[upd_ne,upd_same,e1,e3,e4,e5,e9,e10,e11,e17,e18,e19] at f1 f3 f4 f5 f6 f9 f10 f11 f17 f18 f19
       clear hfr
       cases hB:poB k j (X.evs.getD k ev0) (X.evs.getD j ev0) with
       | true =>
         rw[hB] at f48 hLs
         rw[if_pos rfl] at hLs
         rcases ht with rfl | ⟨τ,rfl,hτ,hlt⟩
         ·simp (disch:=omega) only[wp,qa,qb,qc,gl,f1,f3,f4,f5,f6,f9,f10,f11,f17,f18,f19,f48,pairsC_len,hwj]
          refine ⟨X.evs.length - (j + 1),by omega,j + 1,?_⟩
          rw[hLs,pairsC_app,pairsC_one,List.length_append]
          exact ⟨_,rfl,by omega,rfl,rfl,.inr ⟨_,rfl,upd_same _ _ _,by first | omega | (dsimp only;omega)⟩,by simp;omega,h0,hc,by first | omega | (dsimp only;omega)⟩
         ·have n0:τ≠0:=fun h => by rw[h,h0] at hτ;cases hτ
          have nc:τ≠g.nx + 1 + 3:=fun h => by rw[h,hc] at hτ;cases hτ
          simp (disch:=omega) only[wp,qa,qb,qc,gl,f1,f3,f4,f5,f6,f9,f10,f11,f17,f18,f19,f48,pairsC_len,hwj,hτ]
          refine ⟨X.evs.length - (j + 1),by omega,j + 1,?_⟩
          rw[hLs,pairsC_app,pairsC_one,List.length_append]
          exact ⟨_,rfl,by omega,rfl,rfl,.inr ⟨_,rfl,upd_same _ _ _,by first | omega | (dsimp only;omega)⟩,by simp;omega,h0,hc,by first | omega | (dsimp only;omega)⟩
       | false =>
         rw[hB] at f48 hLs
         rw[if_neg (by simp)] at hLs
         simp (disch:=omega) only[wp,qa,qb,qc,gl,f1,f3,f4,f5,f6,f9,f10,f11,f17,f18,f19,f48,hwj]
         refine ⟨X.evs.length - (j + 1),by omega,j + 1,t,rfl,by omega,rfl,?_⟩
         rw[hLs]
         refine ⟨rfl,?_,by omega,by first | exact h0 | (simp (disch:=omega) only[upd_ne];exact h0),by first | exact hc | (simp (disch:=omega) only[upd_ne];exact hc),by first | omega | (dsimp only;omega)⟩
         rcases ht with rfl | ⟨τ,rfl,hτ,hlt⟩
         ·exact .inl rfl
         ·exact .inr ⟨τ,rfl,by simp (disch:=omega) only[upd_ne];exact hτ,by first | omega | (dsimp only;omega)⟩
    ·obtain rfl:j = X.evs.length:=by omega
     have hj1:¬ ((X.evs.length:Int) < X.evs.length):=by omega
     rw[←poK_succ] at e3 hl
     simp (disch:=omega) only[wp,qa,qb,qc,gl,e1,e9,e10,e11,e4,e5,e17,e18,e19,e3,hj1,hwk]
     refine ⟨X.evs.length - (k + 1),by omega,k + 1,t,rfl,by omega,rfl,rfl,?_,by omega,h0,by first | omega | (dsimp only;omega)⟩
     rcases ht with rfl | ⟨τ,rfl,hτ,hlt⟩
     ·exact .inl rfl
     ·exact .inr ⟨τ,rfl,hτ,by first | omega | (dsimp only;omega)⟩
  ·obtain rfl:k = X.evs.length:=by omega
   have hk1:¬ ((X.evs.length:Int) < X.evs.length):=by omega
   have hof:=sp_of h81 pr X (poK X X.evs.length) .non (by omega)
   simp (disch:=omega) only[wp,qa,qb,qc,gl,e1,e9,e10,e11,e3,h0,hk1,hof]
   rfl
def poR (X:Gr):Rw:=newR (nOf X) (poK X X.evs.length)
theorem sp_Loc (pe:Pk_eco F) (h60:F 60 = some A_graph_Po) (h81:F 81 = some A_graph_Of) (pr:Pk_rel F) {X:Gr} (hX:X.evs.length≤1000):pureS F 41 [.agg (grC X)] = some (.ptr (relC (nOf X) (partR locP X (nOf X) (poR X)))):=by
 refine pure_of pe.eco_Loc ?_
 have h1:=sp_Po h60 h81 pr hX
 have h:=sp_someE pe h81 pr (X:=X) (nOf_le X) (poR X) (sp_61 pe.eco_Loc_1)
 unfold poR at h
 simp (disch:=omega) only[A_eco_Loc,wp,qa,qb,qc,gl,h1,h]
 rfl
end Go.Ab
end
section
namespace Go.Ab
def A_xlaw09_one:AFun:={ res:=[.cell 4 (some 8),.t 5],body:=(.seq (.reg false [qo 4 (.new ([.i .i64 0] ++ List.replicate 7 (.sl [] 0 .rig))),qo 5 (.mv (.c (.b false)))])
 (.seq (.reg false [qm 9 0,qo 10 (.call .pure (.c (.fn 76 [] [])) [.t 9]),qo 6 (.new ([.i .i64 0,.sl [] 0 .rig])),qn (.st 2 (.t 6) (.t 10))])
 (.seq (.seq (.reg false [qo 11 (.ld (some 2) (.t 6)),qo 12 (.call .pure (.c (.fn 77 [] [])) [.t 11]),qo 13 (.bin .gtr (.t 12) (.c (.i .i64 4)))])
 (.cond (.t 13) (.seq (.reg false [qo 14 (.build ([.i .i64 0] ++ List.replicate 7 (.sl [] 0 .rig)) []),qn (.st 8 (.t 4) (.t 14)),qo 5 (.mv (.c (.b false)))])
 .ret)
 .skip))
 (.seq (.reg true [qo 16 (.ld (some 2) (.t 6)),qo 17 (.call .pure (.c (.fn 79 [] [])) []),qo 18 (.call .pure (.c (.fn 78 [] [])) [.t 16,.t 17]),qm 15 18,qo 19 (.ext 0 (.t 15)),qo 20 (.ext 1 (.t 15)),qm 7 19,qm 8 20])
 (.seq (.seq (.reg false [qm 21 7,qo 22 (.len (.t 21)),qo 23 (.bin .eql (.t 22) (.c (.i .i64 0)))])
 (.cond (.t 23) (.seq (.reg false [qo 24 (.build ([.i .i64 0] ++ List.replicate 7 (.sl [] 0 .rig)) []),qn (.st 8 (.t 4) (.t 24)),qo 5 (.mv (.c (.b false)))])
 .ret)
 .skip))
 (.seq (.reg false [qm 25 7,qm 26 1,qm 27 7,qo 28 (.len (.t 27)),qo 29 (.call .pure (.c (.fn 10 [] [])) [.t 26,.t 28]),qo 30 (.ia 8 (.t 25) (.t 29)),qo 31 (.ld (some 8) (.t 30)),qn (.st 8 (.t 4) (.t 31)),qo 5 (.mv (.c (.b true)))])
 .ret)))))) }
end Go.Ab
end
section
set_option linter.unusedVariables false
set_option linter.unusedSimpArgs false
namespace Go.Ab
variable {F:Funs}
def resC (agg:Option Nat) (g:G):AV→Option AV
 | .mp b off => match g.hp b with
   | some (.cells cs _) => part cs off agg
   | _ => none
 | _ => none
theorem res_cell (n agg e g):resE [.cell n agg] e g = resC agg g (e n):=by
 simp only[resE,resAll,resOne,resC]
 cases e n<;>try rfl
 rename_i b off
 simp only
 cases g.hp b with
 | none => rfl
 | some bl =>
   cases bl with
   | cells cs ro => simp only;cases part cs off agg<;>rfl
   | map _ => rfl
   | tok _ => rfl
end Go.Ab
end
section
set_option linter.unusedVariables false
set_option linter.unusedSimpArgs false
namespace Go.Ab
variable {F:Funs}
theorem q_nat {x y:Int} (hx:0≤x) (hm:x≤9223372036854775807) (hy:0 < y):abin .quo (.i .i64 x) (.i .i64 y) = some (.i .i64 (x / y)):=by
 rw[b_quo (by omega),Int.tdiv_eq_ediv_of_nonneg hx]
 have h1:=Int.ediv_nonneg hx (by omega:0≤y)
 have h2:=Int.ediv_le_self y hx
 rw[i64_wrap (by omega) (by omega)]
theorem r_nat {x y:Int} (hx:0≤x) (hy:0 < y):abin .rem (.i .i64 x) (.i .i64 y) = some (.i .i64 (x % y)):=by
 rw[b_rem (by omega),Int.tmod_eq_emod_of_nonneg hx]
theorem o_idx {c:CS} {al:Nat→Bool} {lo id:Nat} {e:Env} {g:G} (len esz agg x i):opE c al lo id (.idx len esz agg x i) e g = vIdx len esz agg (x.ev e) (i.ev e) g:=rfl
theorem part_ag2 (a b:AV):part [a,b] 0 (some 2) = some (.agg [a,b]):=rfl
theorem part_ag7 (a b c d e f x:AV):part [a,b,c,d,e,f,x] 0 (some 7) = some (.agg [a,b,c,d,e,f,x]):=rfl
theorem frz_ag2 (hp:Nat→Option Blk) (x y:Int):frz hp depth (.agg [.i .i64 x,.i .i64 y]) = some (.agg [.i .i64 x,.i .i64 y]):=by
 refine frz_d_agg ?_
 show frzL _ (7 + 1) _ = _
 simp only[frzL,frz]
theorem frz_ag7 (hp:Nat→Option Blk) (a b c d e f:Int) (cs:List AV) (n:Nat) (t:Tok):frz hp depth (.agg [.i .i64 a,.i .i64 b,.i .i64 c,.i .i64 d,.i .i64 e,.sl cs n t,.i .i64 f]) = some (.agg [.i .i64 a,.i .i64 b,.i .i64 c,.i .i64 d,.i .i64 e,.sl cs n .non,.i .i64 f]):=by
 refine frz_d_agg ?_
 show frzL _ (7 + 1) _ = _
 simp only[frzL,frz]
def tkC (e:List (Int × Int)):List AV:=e.flatMap fun p => [.i .i64 p.1,.i .i64 p.2]
def exV (e:List (Int × Int)):AV:=.sl (tkC e) e.length .non
structure Ins where
 kd:Int
 md:Int
 md2:Int
 rg:Int
 lc:Int
 ex:List (Int × Int)
 n:Int
def insC (x:Ins):List AV:=[.i .i64 x.kd,.i .i64 x.md,.i .i64 x.md2,.i .i64 x.rg,.i .i64 x.lc,exV x.ex,.i .i64 x.n]
def exM (a b m:Int):List (Int × Int):=
 if m≤2 then [(1,b)] else if m≤5 then [(2,a)] else if m = 6 then [(2,a),(2,a),(3,4)] else if m = 7 then [(2,a),(1,b),(3,5)] else if m = 8 then [(2,a),(1,b),(3,6)] else [(1,b),(1,1),(3,3)]
def exN (v:Int):List (Int × Int):=exM (place v 1073741824 / 10 % 3) (place v 1073741824 / 30 % 3) (place v 1073741824 % 10)
theorem sp_num (h:F 108 = some A_xlaw00_num) (v:Int):pureS F 108 [.i .i64 v] = some (.agg [.i .i64 1,.i .i64 v]):=by
 refine pure_of h ?_
 simp (disch:=omega) only[A_xlaw00_num,wp,qa,qb,qc,res_cell,resC,part_ag2,frz_ag2]
theorem sp_reg (h:F 123 = some A_xlaw00_reg) (v:Int):pureS F 123 [.i .i64 v] = some (.agg [.i .i64 2,.i .i64 v]):=by
 refine pure_of h ?_
 simp (disch:=omega) only[A_xlaw00_reg,wp,qa,qb,qc,res_cell,resC,part_ag2,frz_ag2]
theorem sp_op (h:F 124 = some A_xlaw00_op) (v:Int):pureS F 124 [.i .i64 v] = some (.agg [.i .i64 3,.i .i64 v]):=by
 refine pure_of h ?_
 simp (disch:=omega) only[A_xlaw00_op,wp,qa,qb,qc,res_cell,resC,part_ag2,frz_ag2]
structure ProgF (F:Funs):Prop where
 place:F 10 = some A_xlaw00_Place
 num:F 108 = some A_xlaw00_num
 reg:F 123 = some A_xlaw00_reg
 op:F 124 = some A_xlaw00_op
 expr:F 107 = some A_xlaw00_Expr
 instr:F 97 = some A_xlaw00_Instr
theorem sp_expr (S:ProgF F) (v:Int):pureS F 107 [.i .i64 v] = some (exV (exN v)):=by
 refine pure_of S.expr ?_
 have hp:=sp_place S.place (v:=v) (n:=1073741824) (by omega) (by omega)
 obtain ⟨p0,p1⟩:=place_lt (v:=v) (n:=1073741824) (by omega)
 unfold exN
 generalize place v 1073741824 = k at hp p0 p1
 have q1:=q_nat (x:=k) (y:=10) p0 (by omega) (by omega)
 have r1:=r_nat (x:=k / 10) (y:=3) (by omega) (by omega)
 have q2:=q_nat (x:=k) (y:=30) p0 (by omega) (by omega)
 have r2:=r_nat (x:=k / 30) (y:=3) (by omega) (by omega)
 have r3:=r_nat (x:=k) (y:=10) p0 (by omega)
 have hm:0≤k % 10∧k % 10 < 10:=by omega
 generalize k % 10 = m at r3 hm
 generalize k / 10 % 3 = a at r1
 generalize k / 30 % 3 = b at r2
 have n1:=sp_num S.num b
 have n2:=sp_reg S.reg a
 have n3:=sp_num S.num 1
 have n4:=sp_op S.op
 have r4:∀ x:AV,List.replicate 4 x = [x,x,x,x]:=fun _ => rfl
 have r6:∀ x:AV,List.replicate 6 x = [x,x,x,x,x,x]:=fun _ => rfl
 have hc:m = 0∨m = 1∨m = 2∨m = 3∨m = 4∨m = 5∨m = 6∨m = 7∨m = 8∨m = 9:=by omega
 rcases hc with rfl | rfl | rfl | rfl | rfl | rfl | rfl | rfl | rfl | rfl
 all_goals
  simp (disch:=omega) only[A_xlaw00_Expr,wp,qa,qb,qc,hp,q1,r1,q2,r2,r3,n1,n2,n3,n4,r4,r6,part_ag2,Int.reduceBEq,splice,List.take_succ_cons,List.take_zero,List.drop_succ_cons,List.drop_zero]
  try rfl
def acqM (w:Int):Int:=if w / 7 % 3 = 2 then 1 else 0
def relM (w:Int):Int:=if w / 11 % 3 = 2 then 2 else 0
def insT (t w left:Int):Ins:=
 if t < 6 then ⟨1,acqM w,0,w % 3,w / 3 % 2,[],0⟩
 else if t < 12 then ⟨2,relM w,0,0,w / 3 % 2,exN (w / 12),0⟩
 else if t < 15 then ⟨3,1 + w / 5 % 4,0,0,0,[],0⟩
 else if t < 16 then ⟨4,acqM w,relM w,w % 3,w / 3 % 2,[(1,w / 17 % 2)],0⟩
 else if t < 18 then ⟨5,0,0,w % 3,0,exN (w / 12),0⟩
 else ⟨6,0,0,0,0,exN (w / 12),w / 19 % (left + 1)⟩
def insN (v left:Int):Ins:=insT (place v 1099511627776 % 20) (place v 1099511627776 / 20) left
theorem pick3 {g:G} {a z:Int} (h0:0≤z) (h1:z < 3):vIdx 3 1 none (.agg [.i .i64 0,.i .i64 0,.i .i64 a]) (.i .i64 z) g = some (.i .i64 (if z = 2 then a else 0),g):=by
 have hc:z = 0∨z = 1∨z = 2:=by omega
 rcases hc with rfl | rfl | rfl<;>rfl
theorem sp_instr (S:ProgF F) {v left:Int} (h0:0≤left) (h1:left≤1000):pureS F 97 [.i .i64 v,.i .i64 2,.i .i64 left] = some (.agg (insC (insN v left))):=by
 refine pure_of S.instr ?_
 have hp:=sp_place S.place (v:=v) (n:=1099511627776) (by omega) (by omega)
 obtain ⟨p0,p1⟩:=place_lt (v:=v) (n:=1099511627776) (by omega)
 unfold insN
 generalize place v 1099511627776 = k at hp p0 p1
 have q1:=q_nat (x:=k) (y:=20) p0 (by omega) (by omega)
 have r0:=r_nat (x:=k) (y:=20) p0 (by omega)
 have w0:0≤k / 20∧k / 20 < 1099511627776:=by omega
 have t0:0≤k % 20∧k % 20 < 20:=by omega
 generalize k / 20 = w at q1 w0
 generalize k % 20 = t at r0 t0
 have r1:=r_nat (x:=w) (y:=3) w0.1 (by omega)
 have q2:=q_nat (x:=w) (y:=3) w0.1 (by omega) (by omega)
 have r2:=r_nat (x:=w / 3) (y:=2) (by omega) (by omega)
 have q3:=q_nat (x:=w) (y:=12) w0.1 (by omega) (by omega)
 have q4:=q_nat (x:=w) (y:=7) w0.1 (by omega) (by omega)
 have r4:=r_nat (x:=w / 7) (y:=3) (by omega) (by omega)
 have q5:=q_nat (x:=w) (y:=11) w0.1 (by omega) (by omega)
 have r5:=r_nat (x:=w / 11) (y:=3) (by omega) (by omega)
 have q6:=q_nat (x:=w) (y:=5) w0.1 (by omega) (by omega)
 have r6:=r_nat (x:=w / 5) (y:=4) (by omega) (by omega)
 have q7:=q_nat (x:=w) (y:=17) w0.1 (by omega) (by omega)
 have r7:=r_nat (x:=w / 17) (y:=2) (by omega) (by omega)
 have q8:=q_nat (x:=w) (y:=19) w0.1 (by omega) (by omega)
 have w1:IntKind.i64.wrap (left + 1) = left + 1:=i64_wrap (by omega) (by omega)
 have r8:=r_nat (x:=w / 19) (y:=left + 1) (by omega) (by omega)
 have w2:IntKind.i64.wrap (1 + w / 5 % 4) = 1 + w / 5 % 4:=i64_wrap (by omega) (by omega)
 have he:=sp_expr S (w / 12)
 have hn:=sp_num S.num (w / 17 % 2)
 have i1:∀ g,vIdx 3 1 none (.agg [.i .i64 0,.i .i64 0,.i .i64 1]) (.i .i64 (w / 7 % 3)) g = some (.i .i64 (acqM w),g):=fun g => pick3 (by omega) (by omega)
 have i2:∀ g,vIdx 3 1 none (.agg [.i .i64 0,.i .i64 0,.i .i64 2]) (.i .i64 (w / 11 % 3)) g = some (.i .i64 (relM w),g):=fun g => pick3 (by omega) (by omega)
 have l5:∀ x:AV,List.replicate 5 x = [x,x,x,x,x]:=fun _ => rfl
 have s7:∀ a b c d e f x1 x2 x3 x4 x5 x6 x7 y:AV,splice [a,b,c,d,e,f,y] 0 [x1,x2,x3,x4,x5,x6,x7] = [x1,x2,x3,x4,x5,x6,x7]:=fun _ _ _ _ _ _ _ _ _ _ _ _ _ _ => rfl
 unfold exV at he
 by_cases c1:t < 6
 ·simp (disch:=omega) only[A_xlaw00_Instr,wp,qa,qb,qc,res_cell,resC,hp,q1,r0,r1,q2,r2,q3,he,o_idx,q4,r4,i1,q5,r5,i2,l5,s7,c1,part_ag7,frz_ag7]
  unfold insT;rw[if_pos c1];rfl
 by_cases c2:t < 12
 ·simp (disch:=omega) only[A_xlaw00_Instr,wp,qa,qb,qc,res_cell,resC,hp,q1,r0,r1,q2,r2,q3,he,o_idx,q4,r4,i1,q5,r5,i2,l5,s7,c1,c2,part_ag7,frz_ag7]
  unfold insT;rw[if_neg c1,if_pos c2];rfl
 by_cases c3:t < 15
 ·simp (disch:=omega) only[A_xlaw00_Instr,wp,qa,qb,qc,res_cell,resC,hp,q1,r0,r1,q2,r2,q3,he,o_idx,q4,r4,i1,q5,r5,i2,q6,r6,w2,l5,s7,c1,c2,c3,part_ag7,frz_ag7]
  unfold insT;rw[if_neg c1,if_neg c2,if_pos c3];rfl
 by_cases c4:t < 16
 ·simp (disch:=omega) only[A_xlaw00_Instr,wp,qa,qb,qc,res_cell,resC,hp,q1,r0,r1,q2,r2,q3,he,o_idx,q4,r4,i1,q5,r5,i2,q7,r7,hn,l5,s7,c1,c2,c3,c4,part_ag7,frz_ag7]
  unfold insT;rw[if_neg c1,if_neg c2,if_neg c3,if_pos c4];rfl
 by_cases c5:t < 18
 ·simp (disch:=omega) only[A_xlaw00_Instr,wp,qa,qb,qc,res_cell,resC,hp,q1,r0,r1,q2,r2,q3,he,o_idx,q4,r4,i1,q5,r5,i2,l5,s7,c1,c2,c3,c4,c5,part_ag7,frz_ag7]
  unfold insT;rw[if_neg c1,if_neg c2,if_neg c3,if_neg c4,if_pos c5];rfl
 ·simp (disch:=omega) only[A_xlaw00_Instr,wp,qa,qb,qc,res_cell,resC,hp,q1,r0,r1,q2,r2,q3,he,o_idx,q4,r4,i1,q5,r5,i2,q8,w1,r8,l5,s7,c1,c2,c3,c4,c5,part_ag7,frz_ag7]
  unfold insT;rw[if_neg c1,if_neg c2,if_neg c3,if_neg c4,if_neg c5];rfl
end Go.Ab
end
section
set_option linter.unusedVariables false
set_option linter.unusedSimpArgs false
namespace Go.Ab
variable {F:Funs}
def insLC (l:List Ins):List AV:=l.flatMap insC
theorem insC_len (x:Ins):(insC x).length = 7:=rfl
theorem insLC_len (l:List Ins):(insLC l).length = l.length * 7:=by
 induction l with
 | nil => rfl
 | cons x l ih => simp only[insLC,List.flatMap_cons,List.length_append,List.length_cons,insC_len] at ih ⊢;omega
theorem insLC_snoc (l:List Ins) (x:Ins):insLC (l ++ [x]) = insLC l ++ insC x:=by
 simp only[insLC,List.flatMap_append,List.flatMap_cons,List.flatMap_nil,List.append_nil]
def fence0:Ins:=⟨3,4,0,0,0,[],0⟩
def skips (l:List Ins):Nat:=l.countP fun x => x.kd == 6
theorem skips_snoc (l:List Ins) (x:Ins):skips (l ++ [x]) = skips l + (if x.kd = 6 then 1 else 0):=by
 unfold skips
 rw[List.countP_append]
 congr 1
 by_cases h:x.kd = 6<;>simp[List.countP_cons,h]
structure PreOk (l:List Int) (T t n:Nat) (pre:List Ins):Prop where
 ins:∀ k,k < pre.length→(∃ v,pre.getD k fence0 = insN v ((n - 1 - k:Nat):Int))∨pre.getD k fence0 = fence0
structure ThrOk (l:List Int) (T t most:Nat) (th:List Ins):Prop where
 most:th.length≤most
 at_:∀ k,k < th.length→t + k * T < l.length
 pre:PreOk l T t th.length th
 sk:skips th≤2
theorem PreOk.snoc {l T t n pre} (h:PreOk l T t n pre) {x:Ins} (hx:(∃ v,x = insN v ((n - 1 - pre.length:Nat):Int))∨x = fence0):PreOk l T t n (pre ++ [x]):=by
 refine ⟨fun k hk => ?_⟩
 rw[List.length_append,List.length_singleton] at hk
 by_cases h1:k < pre.length
 ·have:=h.ins k h1
  rwa [List.getD_eq_getElem?_getD,List.getElem?_append_left h1,←List.getD_eq_getElem?_getD]
 ·obtain rfl:k = pre.length:=by omega
  rw[List.getD_eq_getElem?_getD,List.getElem?_append_right (Nat.le_refl _)]
  simpa using hx
theorem o_mksl {c:CS} {al:Nat→Bool} {lo id:Nat} {e:Env} {g:G} (z esz b n m):opE c al lo id (.mksl z esz b n m) e g = vMksl id z esz b (n.ev e) (m.ev e) g:=rfl
theorem vMksl_ms {id:Nat} {z:List AV} {b n:Nat} {g:G} (h1:1≤n) (h2:n≤1000) (hb:b≤1000) (hz:z.length = 1):vMksl id z 1 b (.i .i64 (n:Int)) (.i .i64 (n:Int)) g = some (.ms id 0 n,⟨upd g.hp id (some (.cells (List.replicate n z).flatten false)),g.nx⟩):=by
 have h3:(b:Int) * (n:Int)≤1000 * 1000:=Int.mul_le_mul (by omega) (by omega) (by omega) (by omega)
 simp only[vMksl]
 rw[if_pos ⟨by omega,by omega,by simp only[lim64];omega,by omega⟩,if_neg (by omega),if_pos ⟨trivial,hz⟩,Int.toNat_natCast]
theorem blk_end {c:ACode} {id:Nat} {e:Env} {g:G} {Q:Out→Env→G→Prop} (M:Env→G→Prop) (h1:W F c e g (blkQ id (midQ M))) (h2:∀ e g,M e g→Q .nrm e g):W F c e g (blkQ id Q):=by
 refine W_mono h1 fun o e g h => ?_
 cases o with
 | nrm => exact h2 e g h
 | ret => exact h.elim
 | ext n =>
   have h:if n = id then midQ M .nrm e g else midQ M (.ext n) e g:=h
   show if n = id then Q .nrm e g else Q (.ext n) e g
   split at h
   ·rename_i hn;rw[if_pos hn];exact h2 e g h
   ·exact h.elim
theorem int_at {l:List Int} {k:Nat} (h:k < l.length):part ((intsC l).drop (k * 1)) 0 none = some (.i .i64 (l.getD k 0)):=ints_part h
structure PgSt (B:Nat) (hp0:Nat→Option Blk) (l:List Int) (T most t:Nat) (cs:List AV) (e:Env) (g:G):Prop where
 e0:e 0 = .sl (intsC l) l.length .non
 e1:e 1 = .i .i64 (T:Nat)
 e2:e 2 = .i .i64 (most:Nat)
 e6:e 6 = .mp B 0
 e7:e 7 = .mp (B + 4) 0
 e8:e 8 = .i .i64 (t:Nat)
 h0:g.hp B = some (.cells [.i .i64 0,.sl [] 0 .rig] false)
 h4:g.hp (B + 4) = some (.cells [.i .i64 2,.ms (B + 2) 0 T] false)
 h2:g.hp (B + 2) = some (.cells cs false)
 nx:B + 4 < g.nx
 len:cs.length = T
 fr:∀ i,i < B→g.hp i = hp0 i
def CsOk (l:List Int) (T t most:Nat) (cs:List AV):Prop:=∀ j,j < T→if j < t then ∃ th tok,cs[j]? = some (.sl (insLC th) th.length tok)∧ThrOk l T j most th else cs[j]? = some (.sl [] 0 .rig)
def retV (rs:List ARes) (P:AV→Prop):Out→Env→G→Prop:=fun o e g => ∃ v,retQ rs v o e g∧P v
theorem pureV_of {f:Nat} {fn:AFun} {asx:List AV} {P:AV→Prop} (hF:F f = some fn) (h:W F fn.body (argEnv asx) g0 (retV fn.res P)):∃ v,pureS F f asx = some v∧P v:=by
 obtain ⟨o,e,g,h1,v,h2,hp⟩:=h
 exact ⟨v,pure_of hF ⟨o,e,g,h1,h2⟩,hp⟩
theorem pg_count {B:Nat} {hp0:Nat→Option Blk} {l:List Int} {T most t:Nat} {cs:List AV} {Q:Env→G→Prop} (hT:1≤T) (hT8:T≤8) (hm:most≤16) (hl:(l.length:Int)≤9223372036854775807) (ht:t < T) {e:Env} {g:G} (S:PgSt B hp0 l T most t cs e g) (e9:e 9 = .i .i64 0) (e10:e 10 = .i .i64 0) (e11:e 11 = .i .i64 (t:Nat)) (c:ACode)
  (hc:c = (.seq (.seq (.reg false [{ dst:=some 23,op:=.mv (.t 11) },
 { dst:=some 24,op:=.mv (.t 0) },
 { dst:=some 25,op:=.len (.t 24) },
 { dst:=some 26,op:=.bin .lss (.t 23) (.t 25) },
 { dst:=some 27,op:=.mv (.t 26) },
 { dst:=some 28,op:=.mv (.t 9),grd:=some (27,true) },
 { dst:=some 29,op:=.mv (.t 2),grd:=some (27,true) },
 { dst:=some 30,op:=.bin .lss (.t 28) (.t 29),grd:=some (27,true) },
 { dst:=some 31,op:=.pick (.t 27) (.t 30) (.c (.b false)) }])
 (.cond (.t 31) .skip
 (.ext 2)))
 (.seq (.blk 3 (.reg false [{ dst:=some 35,op:=.mv (.t 9) },
  { dst:=some 36,op:=.bin .add (.t 35) (.c (.i .i64 1)) },
  { dst:=some 9,op:=.mv (.t 36) }]))
 (.reg false [{ dst:=some 32,op:=.mv (.t 11) },
  { dst:=some 33,op:=.mv (.t 1) },
  { dst:=some 34,op:=.bin .add (.t 32) (.t 33) },
  { dst:=some 11,op:=.mv (.t 34) }]))))
    (hQ:∀ e g,(∃ n:Nat,PgSt B hp0 l T most t cs e g∧e 9 = .i .i64 (n:Nat)∧e 10 = .i .i64 0∧n≤most∧∀ k,k < n→t + k * T < l.length)→Q e g):W F (.loop c) e g (blkQ 2 (midQ Q)):=by
  refine W_loop (fun q e g => ∃ n:Nat,q = most - n∧n≤most∧PgSt B hp0 l T most t cs e g∧e 9 = .i .i64 (n:Nat)∧e 10 = .i .i64 0∧e 11 = .i .i64 ((t + n * T:Nat):Int)∧∀ k,k < n→t + k * T < l.length) most ⟨0,rfl,Nat.zero_le _,S,e9,e10,by rw[e11];simp,fun k hk => by omega⟩ ?_
  rintro q e g ⟨n,rfl,hn,S,e9,e10,e11,hall⟩
  obtain ⟨e0,e1,e2,e6,e7,e8,h0,h4,h2,hnx,hlen,hfr⟩:=S
  subst hc
  by_cases h1:t + n * T < l.length
  ·have hnT:n * T≤16 * 8:=Nat.mul_le_mul (by omega) hT8
   have h1':((t + n * T:Nat):Int) < l.length:=by omega
   by_cases h2':n < most
   ·have h3:(n:Int) < most:=by omega
    have hw1:=succ_wrap (k:=n) (by omega)
    have hw2:IntKind.i64.wrap (((t + n * T:Nat):Int) + ((T:Nat):Int)) = ((t + (n + 1) * T:Nat):Int):=by
     have hz:t + (n + 1) * T = t + n * T + T:=by rw[Nat.succ_mul];omega
     rw[i64_wrap (by omega) (by omega),hz];omega
    simp (disch:=omega) only[wp,qa,qb,qc,gl,e0,e1,e2,e9,e11,h1',h3,hw1,hw2]
    refine ⟨most - (n + 1),by omega,n + 1,rfl,by omega,⟨?_,?_,?_,?_,?_,?_,h0,h4,h2,by first | omega | (dsimp only;omega),hlen,hfr⟩,rfl,?_,rfl,fun k hk => ?_⟩
    ·simp (disch:=omega) only[wp,qa,qb,qc,e0]
    ·simp (disch:=omega) only[wp,qa,qb,qc,e1]
    ·simp (disch:=omega) only[wp,qa,qb,qc,e2]
    ·simp (disch:=omega) only[wp,qa,qb,qc,e6]
    ·simp (disch:=omega) only[wp,qa,qb,qc,e7]
    ·simp (disch:=omega) only[wp,qa,qb,qc,e8]
    ·simp (disch:=omega) only[wp,qa,qb,qc,e10]
    ·by_cases hk':k = n
     ·subst hk';exact h1
     ·exact hall k (by omega)
   ·have h3:¬ (n:Int) < most:=by omega
    simp (disch:=omega) only[wp,qa,qb,qc,gl,e0,e1,e2,e9,e11,h1',h3]
    refine hQ _ _ ⟨n,⟨?_,?_,?_,?_,?_,?_,h0,h4,h2,by first | omega | (dsimp only;omega),hlen,hfr⟩,?_,?_,hn,hall⟩
    all_goals simp (disch:=omega) only[wp,qa,qb,qc,e0,e1,e2,e6,e7,e8,e9,e10]
  ·have h1':¬ ((t + n * T:Nat):Int) < l.length:=by omega
   simp (disch:=omega) only[wp,qa,qb,qc,gl,e0,e1,e2,e9,e11,h1']
   refine hQ _ _ ⟨n,⟨?_,?_,?_,?_,?_,?_,h0,h4,h2,by first | omega | (dsimp only;omega),hlen,hfr⟩,?_,?_,hn,hall⟩
   all_goals simp (disch:=omega) only[wp,qa,qb,qc,e0,e1,e2,e6,e7,e8,e9,e10]
end Go.Ab
end
section
set_option linter.unusedVariables false
set_option linter.unusedSimpArgs false
namespace Go.Ab
variable {F:Funs}
def pgC:ACode:=(.seq (.seq (.reg false [{ dst:=some 37,op:=.mv (.t 12) },
 { dst:=some 38,op:=.mv (.t 9) },
 { dst:=some 39,op:=.bin .lss (.t 37) (.t 38) }])
 (.cond (.t 39) .skip
 (.ext 4)))
 (.seq (.blk 5 (.seq (.reg true [{ dst:=some 42,op:=.mv (.t 0) },
  { dst:=some 43,op:=.mv (.t 8) },
  { dst:=some 44,op:=.mv (.t 12) },
  { dst:=some 45,op:=.mv (.t 1) },
  { dst:=some 46,op:=.bin .mul (.t 44) (.t 45) },
  { dst:=some 47,op:=.bin .add (.t 43) (.t 46) },
  { dst:=some 48,op:=.ia 1 (.t 42) (.t 47) },
  { dst:=some 49,op:=.ld none (.t 48),pre:=[] },
  { dst:=some 50,op:=.fa 0 (.t 7) },
  { dst:=some 51,op:=.ld none (.t 50),pre:=[] },
  { dst:=some 52,op:=.mv (.t 9) },
  { dst:=some 53,op:=.bin .sub (.t 52) (.c (.i .i64 1)) },
  { dst:=some 54,op:=.mv (.t 12) },
  { dst:=some 55,op:=.bin .sub (.t 53) (.t 54) },
  { dst:=some 56,op:=.call .pure (.c (.fn 97 [] [])) [.t 49,.t 51,.t 55],pre:=[] },
  { dst:=some 13,op:=.new (List.replicate 5 (.i .i64 0) ++ [.sl [] 0 .rig,.i .i64 0]) },
  { dst:=none,op:=.stL 7 (.t 13) (.t 56),pre:=[15] }])
 (.seq (.seq (.reg false [{ dst:=some 57,op:=.fa 0 (.t 13) },
  { dst:=some 58,op:=.ld none (.t 57) },
  { dst:=some 59,op:=.bin .eql (.t 58) (.c (.i .i64 6)) }])
 (.cond (.t 59) (.seq (.reg false [{ dst:=some 60,op:=.mv (.t 10) },
  { dst:=some 61,op:=.bin .add (.t 60) (.c (.i .i64 1)) },
  { dst:=some 10,op:=.mv (.t 61) }])
 (.seq (.reg false [{ dst:=some 62,op:=.mv (.t 10) },
  { dst:=some 63,op:=.bin .gtr (.t 62) (.c (.i .i64 2)) }])
 (.cond (.t 63) (.reg false [{ dst:=some 64,op:=.build (List.replicate 5 (.i .i64 0) ++ [.sl [] 0 .rig,.i .i64 0]) [(0,1,.c (.i .i64 3)),(1,1,.c (.i .i64 4))] },
  { dst:=none,op:=.st 7 (.t 13) (.t 64) }])
 .skip)))
 .skip))
 (.reg true [{ dst:=some 65,op:=.fa 1 (.t 7) },
  { dst:=some 66,op:=.ld none (.t 65),pre:=[] },
  { dst:=some 67,op:=.mv (.t 8) },
  { dst:=some 68,op:=.fa 1 (.t 7) },
  { dst:=some 69,op:=.ld none (.t 68),pre:=[] },
  { dst:=some 70,op:=.mv (.t 8) },
  { dst:=some 71,op:=.ia 1 (.t 69) (.t 70) },
  { dst:=some 72,op:=.ld none (.t 71),pre:=[] },
  { dst:=some 73,op:=.ld (some 7) (.t 13),pre:=[] },
  { dst:=some 74,op:=.bsl true 1 (List.replicate 5 (.i .i64 0) ++ [.sl [] 0 .rig,.i .i64 0]) [(0,7,.t 73)],pre:=[] },
  { dst:=some 75,op:=.app 7 72 (.t 72) (.t 74),pre:=[] },
  { dst:=some 76,op:=.ia 1 (.t 66) (.t 67) },
  { dst:=none,op:=.st 1 (.t 76) (.t 75),pre:=[10] }]))))
 (.reg false [{ dst:=some 40,op:=.mv (.t 12) },
  { dst:=some 41,op:=.bin .add (.t 40) (.c (.i .i64 1)) },
  { dst:=some 12,op:=.mv (.t 41) }])))
def insCt (x:Ins) (tk:Tok):List AV:=[.i .i64 x.kd,.i .i64 x.md,.i .i64 x.md2,.i .i64 x.rg,.i .i64 x.lc,.sl (tkC x.ex) x.ex.length tk,.i .i64 x.n]
theorem min_a {s:Nat} (h:¬ s + 1 > 2):min s 2 + 1 = min (s + 1) 2:=by omega
theorem min_b {s:Nat} (h:s + 1 > 2):min s 2 + 0 = min (s + 1) 2:=by omega
structure PiSt (B:Nat) (hp0:Nat→Option Blk) (l:List Int) (T most t n:Nat) (cs:List AV) (k:Nat) (pre:List Ins) (tok:Tok) (e:Env) (g:G):Prop where
 st:PgSt B hp0 l T most t (cs.set t (.sl (insLC pre) k tok)) e g
 e9:e 9 = .i .i64 (n:Nat)
 e12:e 12 = .i .i64 (k:Nat)
 pl:pre.length = k
 tk:(tok = .rig∧k = 0)∨∃ τ,tok = .own τ 7∧g.hp τ = some (.tok true)∧B + 4 < τ∧τ < g.nx
 pre:PreOk l T t n pre
theorem pg_thread (S:ProgF F) {B:Nat} {hp0:Nat→Option Blk} {l:List Int} {T most t n:Nat} {cs:List AV} {Q:Env→G→Prop} (hT:1≤T) (hT8:T≤8) (hm:most≤16) (hl:(l.length:Int)≤9223372036854775807) (ht:t < T) (hn:n≤most) (hall:∀ k,k < n→t + k * T < l.length) (hcl:cs.length = T) {e:Env} {g:G} (I:PiSt B hp0 l T most t n cs 0 [] .rig e g) (e10:e 10 = .i .i64 0)
  (hQ:∀ e g,(∃ th tok,th.length = n∧PgSt B hp0 l T most t (cs.set t (.sl (insLC th) n tok)) e g∧ThrOk l T t most th)→Q e g):W F (.loop pgC) e g (blkQ 4 (midQ Q)):=by
 have l5:∀ x:AV,List.replicate 5 x = [x,x,x,x,x]:=fun _ => rfl
 have s7:∀ a b c d e f x1 x2 x3 x4 x5 x6 x7 y:AV,splice [a,b,c,d,e,f,y] 0 [x1,x2,x3,x4,x5,x6,x7] = [x1,x2,x3,x4,x5,x6,x7]:=fun _ _ _ _ _ _ _ _ _ _ _ _ _ _ => rfl
 refine W_loop (fun q e g => ∃ (k:Nat) (pre:List Ins) (tok:Tok) (s:Nat),q = n - k∧k≤n∧PiSt B hp0 l T most t n cs k pre tok e g∧e 10 = .i .i64 (s:Nat)∧skips pre = min s 2∧s≤k) n ⟨0,[],.rig,0,rfl,Nat.zero_le _,I,e10,rfl,Nat.le_refl _⟩ ?_
 rintro q e g ⟨k,pre,tok,s,rfl,hkn,I,e10,hsk,hs⟩
 obtain ⟨⟨e0,e1,e2,e6,e7,e8,h0,h4,h2,hnx,hlen,hfr⟩,e9,e12,hpl,htk,hpre⟩:=I
 by_cases h1:k < n
 ·have h1':(k:Int) < n:=by omega
  have hlt:=hall k h1
  have hw1:IntKind.i64.wrap (((k:Nat):Int) * ((T:Nat):Int)) = ((k * T:Nat):Int):=by
   have:k * T≤16 * 8:=Nat.mul_le_mul (by omega) hT8
   rw[←Int.natCast_mul,i64_wrap (by omega) (by omega)]
  have hw2:IntKind.i64.wrap (((t:Nat):Int) + ((k * T:Nat):Int)) = ((t + k * T:Nat):Int):=by
   rw[i64_wrap (by omega) (by omega)];omega
  have hw3:IntKind.i64.wrap (((n:Nat):Int) - 1) = ((n - 1:Nat):Int):=by rw[i64_wrap (by omega) (by omega)];omega
  have hw4:IntKind.i64.wrap (((n - 1:Nat):Int) - ((k:Nat):Int)) = ((n - 1 - k:Nat):Int):=by rw[i64_wrap (by omega) (by omega)];omega
  have hi0:(0:Int)≤((t + k * T:Nat):Int):=by omega
  have hi1:((t + k * T:Nat):Int) < ((l.length:Nat):Int):=by omega
  have hp:=int_at (l:=l) hlt
  have hI:=sp_instr S (v:=l.getD (t + k * T) 0) (left:=((n - 1 - k:Nat):Int)) (by omega) (by omega)
  generalize hx:insN (l.getD (t + k * T) 0) ((n - 1 - k:Nat):Int) = x at hI
  unfold pgC
  simp (disch:=omega) only[wp,qa,qb,qc,gl,e0,e1,e2,e7,e8,e9,e12,h1',hw1,hw2,hw3,hw4,hi0,hi1,hp,hI,h4,insC,exV,l5,s7]
  refine sel_cut (fun e g => ∃ (x':Ins) (s' b:Nat) (tk:Tok),PgSt B hp0 l T most t (cs.set t (.sl (insLC pre) k tok)) e g∧e 9 = .i .i64 (n:Nat)∧e 12 = .i .i64 (k:Nat)∧e 10 = .i .i64 (s':Nat)∧e 13 = .mp b 0∧g.hp b = some (.cells (insCt x' tk) false)∧((tok = .rig∧k = 0)∨∃ τ,tok = .own τ 7∧g.hp τ = some (.tok true)∧B + 4 < τ∧τ < g.nx)∧((∃ v,x' = insN v ((n - 1 - k:Nat):Int))∨x' = fence0)∧skips (pre ++ [x']) = min s' 2∧s'≤k + 1∧B + 4 < b∧b < g.nx) ?_ ?_
  ·have hm3:∀ (x':Ins) (s' b:Nat) (tk:Tok) (e:Env) (g:G),PgSt B hp0 l T most t (cs.set t (.sl (insLC pre) k tok)) e g→e 9 = .i .i64 (n:Nat)→e 12 = .i .i64 (k:Nat)→e 10 = .i .i64 (s':Nat)→e 13 = .mp b 0→g.hp b = some (.cells (insCt x' tk) false)→((tok = .rig∧k = 0)∨∃ τ,tok = .own τ 7∧g.hp τ = some (.tok true)∧B + 4 < τ∧τ < g.nx)→((∃ v,x' = insN v ((n - 1 - k:Nat):Int))∨x' = fence0)→skips (pre ++ [x']) = min s' 2→s'≤k + 1→B + 4 < b→b < g.nx→∃ (x':Ins) (s' b:Nat) (tk:Tok),PgSt B hp0 l T most t (cs.set t (.sl (insLC pre) k tok)) e g∧e 9 = .i .i64 (n:Nat)∧e 12 = .i .i64 (k:Nat)∧e 10 = .i .i64 (s':Nat)∧e 13 = .mp b 0∧g.hp b = some (.cells (insCt x' tk) false)∧((tok = .rig∧k = 0)∨∃ τ,tok = .own τ 7∧g.hp τ = some (.tok true)∧B + 4 < τ∧τ < g.nx)∧((∃ v,x' = insN v ((n - 1 - k:Nat):Int))∨x' = fence0)∧skips (pre ++ [x']) = min s' 2∧s'≤k + 1∧B + 4 < b∧b < g.nx:=
    fun x' s' b tk e g a1 a2 a3 a4 a5 a6 a7 a8 a9 a10 a11 a12 => ⟨x',s',b,tk,a1,a2,a3,a4,a5,a6,a7,a8,a9,a10,a11,a12⟩
   cases h6:(x.kd == 6)
   ·have h6':¬ x.kd = 6:=by simpa using h6
    simp (disch:=omega) only[wp,qa,qb,qc,gl]
    refine hm3 x s (g.nx + 3 + 15) .non _ _ ⟨?_,?_,?_,?_,?_,?_,?_,?_,?_,by first | omega | (dsimp only;omega),hlen,fun i hi => ?_⟩ ?_ ?_ ?_ ?_ ?_ ?_ (.inl ⟨_,hx.symm⟩) (by rw[skips_snoc,if_neg h6',hsk];rfl) (by omega) ?_ ?_
    all_goals first
     | omega
     | (dsimp only;omega)
     | (simp (disch:=omega) only[wp,qa,qb,qc,e0,e1,e2,e6,e7,e8,e9,e10,e12,h0,h4,h2,insCt,fence0,tkC];done)
     | (simp (disch:=omega) only[wp,qa,qb,qc,insCt];done)
     | (simp (disch:=omega) only[wp,qa,qb,qc,hfr i hi];done)
     | (rcases htk with ⟨a,b⟩ | ⟨τ,a,hτ,a1,a2⟩
        ·exact .inl ⟨a,b⟩
        ·exact .inr ⟨τ,a,by simp (disch:=omega) only[wp,qa,qb,qc,hτ],a1,by first | omega | (dsimp only;omega)⟩)
   ·have h6':x.kd = 6:=by simpa using h6
    have hws:IntKind.i64.wrap ((s:Nat) + 1) = ((s + 1:Nat):Int):=succ_wrap (by omega)
    by_cases hs2:s + 1 > 2
    ·have hs2':(2:Int) < ((s + 1:Nat):Int):=by omega
     simp (disch:=omega) only[wp,qa,qb,qc,gl,e10,hws,hs2',l5,s7]
     refine hm3 fence0 (s + 1) (g.nx + 3 + 15) .rig _ _ ⟨?_,?_,?_,?_,?_,?_,?_,?_,?_,by first | omega | (dsimp only;omega),hlen,fun i hi => ?_⟩ ?_ ?_ ?_ ?_ ?_ ?_ (.inr rfl) (by rw[skips_snoc,if_neg (by decide),hsk];exact min_b hs2) (by omega) ?_ ?_
     all_goals first
     | omega
     | (dsimp only;omega)
     | (simp (disch:=omega) only[wp,qa,qb,qc,e0,e1,e2,e6,e7,e8,e9,e10,e12,h0,h4,h2,insCt,fence0,tkC];done)
     | (simp (disch:=omega) only[wp,qa,qb,qc,insCt];done)
     | (simp (disch:=omega) only[wp,qa,qb,qc,hfr i hi];done)
     | (rcases htk with ⟨a,b⟩ | ⟨τ,a,hτ,a1,a2⟩
        ·exact .inl ⟨a,b⟩
        ·exact .inr ⟨τ,a,by simp (disch:=omega) only[wp,qa,qb,qc,hτ],a1,by first | omega | (dsimp only;omega)⟩)
    ·have hs2':¬ (2:Int) < ((s + 1:Nat):Int):=by omega
     simp (disch:=omega) only[wp,qa,qb,qc,gl,e10,hws,hs2']
     refine hm3 x (s + 1) (g.nx + 3 + 15) .non _ _ ⟨?_,?_,?_,?_,?_,?_,?_,?_,?_,by first | omega | (dsimp only;omega),hlen,fun i hi => ?_⟩ ?_ ?_ ?_ ?_ ?_ ?_ (.inl ⟨_,hx.symm⟩) (by rw[skips_snoc,if_pos h6',hsk];exact min_a hs2) (by omega) ?_ ?_
     all_goals first
     | omega
     | (dsimp only;omega)
     | (simp (disch:=omega) only[wp,qa,qb,qc,e0,e1,e2,e6,e7,e8,e9,e10,e12,h0,h4,h2,insCt,fence0,tkC];done)
     | (simp (disch:=omega) only[wp,qa,qb,qc,insCt];done)
     | (simp (disch:=omega) only[wp,qa,qb,qc,hfr i hi];done)
     | (rcases htk with ⟨a,b⟩ | ⟨τ,a,hτ,a1,a2⟩
        ·exact .inl ⟨a,b⟩
        ·exact .inr ⟨τ,a,by simp (disch:=omega) only[wp,qa,qb,qc,hτ],a1,by first | omega | (dsimp only;omega)⟩)
  ·rintro e g ⟨x',s',b,tk,⟨e0,e1,e2,e6,e7,e8,h0,h4,h2,hnx,hlen,hfr⟩,e9,e12,e10,e13,hb,htk,hx',hsk',hs',hb4,hbn⟩
   have hti0:(0:Int)≤((t:Nat):Int):=by omega
   have hti1:((t:Nat):Int) < ((T:Nat):Int):=by omega
   have hpt:part (cs.set t (.sl (insLC pre) k tok)) (t * 1) none = some (.sl (insLC pre) k tok):=by
    simp only[part,Nat.mul_one]
    rw[List.getElem?_set_self (by omega)]
   have hil:=insLC_len pre
   have hwk:=succ_wrap (k:=k) (by omega)
   rcases htk with ⟨rfl,rfl⟩ | ⟨τ,rfl,hτ,hτ4,hτn⟩
   ·simp (disch:=omega) only[wp,qa,qb,qc,gl,e1,e7,e8,e12,e13,h4,h2,hb,hti0,hti1,hpt,insCt,insC,exV,part_ag7,s7,hil,List.length_set,hwk]
    refine ⟨n - (0 + 1),by omega,0 + 1,pre ++ [x'],.own (g.nx + 10) 7,s',rfl,by omega,⟨⟨?_,?_,?_,?_,?_,?_,?_,?_,?_,by first | omega | (dsimp only;omega),by rw[List.length_set];omega,fun i hi => ?_⟩,?_,?_,by rw[List.length_append,List.length_singleton];omega,.inr ⟨_,rfl,by simp (disch:=omega) only[wp,qa,qb,qc],by omega,by first | omega | (dsimp only;omega)⟩,hpre.snoc (by rw[hpl];exact hx')⟩,?_,hsk',by omega⟩
    all_goals first
     | (simp (disch:=omega) only[wp,qa,qb,qc,e0,e1,e2,e6,e7,e8,e9,e10,e12,h0,h4,h2,insLC_snoc,List.set_set,Nat.mul_one,insC,exV];done)
     | (simp (disch:=omega) only[wp,qa,qb,qc,hfr i hi];done)
   ·simp (disch:=omega) only[wp,qa,qb,qc,gl,e1,e7,e8,e12,e13,h4,h2,hb,hτ,hti0,hti1,hpt,insCt,insC,exV,part_ag7,s7,hil,List.length_set,hwk]
    refine ⟨n - (k + 1),by omega,k + 1,pre ++ [x'],.own (g.nx + 10) 7,s',rfl,by omega,⟨⟨?_,?_,?_,?_,?_,?_,?_,?_,?_,by first | omega | (dsimp only;omega),by rw[List.length_set];omega,fun i hi => ?_⟩,?_,?_,by rw[List.length_append,List.length_singleton];omega,.inr ⟨_,rfl,by simp (disch:=omega) only[wp,qa,qb,qc],by omega,by first | omega | (dsimp only;omega)⟩,hpre.snoc (by rw[hpl];exact hx')⟩,?_,hsk',by omega⟩
    all_goals first
     | (simp (disch:=omega) only[wp,qa,qb,qc,e0,e1,e2,e6,e7,e8,e9,e10,e12,h0,h4,h2,insLC_snoc,List.set_set,Nat.mul_one,insC,exV];done)
     | (simp (disch:=omega) only[wp,qa,qb,qc,hfr i hi];done)
 ·have h1':¬ (k:Int) < n:=by omega
  obtain rfl:k = n:=by omega
  unfold pgC
  simp (disch:=omega) only[wp,qa,qb,qc,gl,e9,e12,h1']
  refine hQ _ _ ⟨pre,tok,hpl,⟨?_,?_,?_,?_,?_,?_,h0,h4,h2,by first | omega | (dsimp only;omega),hlen,hfr⟩,⟨by omega,fun j hj => hall j (by omega),by rw[hpl];exact hpre,by omega⟩⟩
  all_goals simp (disch:=omega) only[wp,qa,qb,qc,e0,e1,e2,e6,e7,e8]
end Go.Ab
end
section
set_option linter.unusedVariables false
set_option linter.unusedSimpArgs false
namespace Go.Ab
variable {F:Funs}
def thsC (ths:List (List Ins)):List AV:=ths.map fun th => .sl (insLC th) th.length .non
structure PgEnd (B:Nat) (hp0:Nat→Option Blk) (l:List Int) (T most:Nat) (cs:List AV) (e:Env) (g:G):Prop where
 e6:e 6 = .mp B 0
 h0:g.hp B = some (.cells [.i .i64 2,.ms (B + 2) 0 T] false)
 h2:g.hp (B + 2) = some (.cells cs false)
 nx:B + 4 < g.nx
 len:cs.length = T
 fr:∀ i,i < B→g.hp i = hp0 i
 ok:CsOk l T T most cs
theorem set_same {cs:List AV} {t:Nat} {v:AV} (h:cs[t]? = some v):cs.set t v = cs:=by
 refine List.ext_getElem? fun j => ?_
 by_cases hj:t = j
 ·subst hj
  rw[List.getElem?_set_self (List.getElem?_eq_some_iff.1 h).1,h]
 ·rw[List.getElem?_set_ne hj]
theorem pg_walk (S:ProgF F) {l:List Int} {T most:Nat} (hT:1≤T) (hT8:T≤8) (hm:most≤16) (hl:(l.length:Int)≤9223372036854775807) {g:G} {Q:Out→Env→G→Prop} (hQ:∀ e g' cs,PgEnd g.nx g.hp l T most cs e g'→Q .ret e g'):W F A_xlaw00_Prog.body (argEnv [.sl (intsC l) l.length .non,.i .i64 (T:Nat),.i .i64 (most:Nat)]) g Q:=by
 have hmk:=fun id g => vMksl_ms (id:=id) (z:=[AV.sl [] 0 .rig]) (b:=24) (n:=T) (g:=g) hT (by omega) (by omega) rfl
 simp (disch:=omega) only[A_xlaw00_Prog,wp,qa,qb,qc,gl,o_mksl,hmk,Nat.add_assoc]
 refine blk_cut (fun e g' => ∃ cs,PgSt g.nx g.hp l T most T cs e g'∧CsOk l T T most cs) ?_ ?_
 ·refine W_loop (fun q e g' => ∃ (t:Nat) (cs:List AV),q = T - t∧t≤T∧PgSt g.nx g.hp l T most t cs e g'∧CsOk l T t most cs) T ?_ ?_
  ·refine ⟨0,(List.replicate T [AV.sl [] 0 .rig]).flatten,rfl,Nat.zero_le _,⟨?_,?_,?_,?_,?_,?_,?_,?_,?_,by first | omega | (dsimp only;omega),by simp,fun i hi => ?_⟩,fun j hj => ?_⟩
   ·simp (disch:=omega) only[wp,qa,qb,qc]
   ·simp (disch:=omega) only[wp,qa,qb,qc]
   ·simp (disch:=omega) only[wp,qa,qb,qc]
   ·simp (disch:=omega) only[wp,qa,qb,qc]
   ·simp (disch:=omega) only[wp,qa,qb,qc]
   ·simp (disch:=omega) only[wp,qa,qb,qc];rfl
   ·simp (disch:=omega) only[wp,qa,qb,qc]
   ·simp (disch:=omega) only[wp,qa,qb,qc]
   ·simp (disch:=omega) only[wp,qa,qb,qc]
   ·simp (disch:=omega) only[wp,qa,qb,qc]
   ·rw[if_neg (by omega)]
    have hf:(List.replicate T [AV.sl [] 0 Tok.rig]).flatten = List.replicate T (AV.sl [] 0 .rig):=by simp[List.flatten_replicate_singleton]
    rw[hf,List.getElem?_replicate,if_pos hj]
  ·rintro q e g' ⟨t,cs,rfl,htT,St,hcs⟩
   have St0:=St
   obtain ⟨e0,e1,e2,e6,e7,e8,h0,h4,h2,hnx,hlen,hfr⟩:=St
   by_cases ht:t < T
   ·have ht':(t:Int) < T:=by omega
    simp (disch:=omega) only[wp,qa,qb,qc,gl,e1,e8,ht']
    refine blk_cut (fun e g' => ∃ n:Nat,PgSt g.nx g.hp l T most t cs e g'∧e 9 = .i .i64 (n:Nat)∧e 10 = .i .i64 0∧n≤most∧∀ k,k < n→t + k * T < l.length) ?_ ?_
    ·refine pg_count hT hT8 hm hl ht (B:=g.nx) (hp0:=g.hp) (cs:=cs) (g:=⟨g'.hp,g'.nx + 3 + 2 + 2⟩) ⟨?_,?_,?_,?_,?_,?_,h0,h4,h2,?_,hlen,hfr⟩ ?_ ?_ ?_ _ rfl (fun e g h => h)
     all_goals first | (simp (disch:=omega) only[wp,qa,qb,qc,e0,e1,e2,e6,e7,e8];done) | omega | (dsimp only;omega)
    ·rintro e g1 ⟨n,⟨e0,e1,e2,e6,e7,e8,h0,h4,h2,hnx,hlen,hfr⟩,e9,e10,hn,hall⟩
     simp (disch:=omega) only[wp,qa,qb,qc,gl]
     have hct:cs[t]? = some (.sl [] 0 .rig):=by have:=hcs t ht;rwa [if_neg (by omega)] at this
     refine blk_end (fun e g' => ∃ th tok,PgSt g.nx g.hp l T most t (cs.set t (.sl (insLC th) n tok)) e g'∧th.length = n∧ThrOk l T t most th) ?_ ?_
     ·show W F (.loop pgC) _ _ _
      refine pg_thread S hT hT8 hm hl ht hn hall hlen (B:=g.nx) (hp0:=g.hp) (g:=⟨g1.hp,g1.nx + 1⟩) ⟨⟨?_,?_,?_,?_,?_,?_,h0,h4,?_,?_,by rw[List.length_set];exact hlen,hfr⟩,?_,?_,rfl,.inl ⟨rfl,rfl⟩,⟨fun k hk => by simp at hk⟩⟩ ?_ (fun e g ⟨th,tok,a,b,c⟩ => ⟨th,tok,b,a,c⟩)
      ·simp (disch:=omega) only[wp,qa,qb,qc,e0]
      ·simp (disch:=omega) only[wp,qa,qb,qc,e1]
      ·simp (disch:=omega) only[wp,qa,qb,qc,e2]
      ·simp (disch:=omega) only[wp,qa,qb,qc,e6]
      ·simp (disch:=omega) only[wp,qa,qb,qc,e7]
      ·simp (disch:=omega) only[wp,qa,qb,qc,e8]
      ·rw[show insLC [] = [] from rfl,set_same hct];exact h2
      ·first | omega | (dsimp only;omega)
      ·simp (disch:=omega) only[wp,qa,qb,qc,e9]
      ·simp (disch:=omega) only[wp,qa,qb,qc];rfl
      ·simp (disch:=omega) only[wp,qa,qb,qc,e10]
     ·rintro e g2 ⟨th,tok,⟨e0,e1,e2,e6,e7,e8,h0,h4,h2,hnx,hlen2,hfr⟩,hthn,hth⟩
      have hwt:=succ_wrap (k:=t) (by omega)
      simp (disch:=omega) only[wp,qa,qb,qc,gl,e8,hwt]
      refine ⟨T - (t + 1),by omega,t + 1,cs.set t (.sl (insLC th) n tok),rfl,by omega,⟨?_,?_,?_,?_,?_,?_,h0,h4,h2,by first | omega | (dsimp only;omega),hlen2,hfr⟩,fun j hj => ?_⟩
      ·simp (disch:=omega) only[wp,qa,qb,qc,e0]
      ·simp (disch:=omega) only[wp,qa,qb,qc,e1]
      ·simp (disch:=omega) only[wp,qa,qb,qc,e2]
      ·simp (disch:=omega) only[wp,qa,qb,qc,e6]
      ·simp (disch:=omega) only[wp,qa,qb,qc,e7]
      ·simp (disch:=omega) only[wp,qa,qb,qc]
      ·by_cases hjt:j = t
       ·subst hjt
        rw[if_pos (by omega)]
        exact ⟨th,tok,by rw[List.getElem?_set_self (by omega),hthn],hth⟩
       ·have:=hcs j hj
        by_cases hj2:j < t
        ·rw[if_pos hj2] at this
         rw[if_pos (by omega),List.getElem?_set_ne (by omega)]
         exact this
        ·rw[if_neg hj2] at this
         rw[if_neg (by omega),List.getElem?_set_ne (by omega)]
         exact this
   ·have ht':¬ (t:Int) < T:=by omega
    obtain rfl:t = T:=by omega
    simp (disch:=omega) only[wp,qa,qb,qc,gl,e1,e8,ht']
    refine ⟨cs,⟨?_,?_,?_,?_,?_,?_,h0,h4,h2,by first | omega | (dsimp only;omega),hlen,hfr⟩,hcs⟩
    all_goals simp (disch:=omega) only[wp,qa,qb,qc,e0,e1,e2,e6,e7,e8]
 ·rintro e g1 ⟨cs,⟨e0,e1,e2,e6,e7,e8,h0,h4,h2,hnx,hlen,hfr⟩,hcs⟩
  simp (disch:=omega) only[wp,qa,qb,qc,gl,e6,e7,h0,h4,part_ag2]
  refine hQ _ _ cs ⟨?_,?_,?_,by first | omega | (dsimp only;omega),hlen,fun i hi => ?_,hcs⟩
  ·simp (disch:=omega) only[wp,qa,qb,qc,e6]
  ·simp (disch:=omega) only[wp,qa,qb,qc]
  ·simp (disch:=omega) only[wp,qa,qb,qc,h2]
  ·simp (disch:=omega) only[wp,qa,qb,qc,hfr i hi]
theorem list_of {P:Nat→List Ins→Prop}:∀ (cs:List AV),(∀ j,j < cs.length→∃ th tok,cs[j]? = some (.sl (insLC th) th.length tok)∧P j th)→∃ ths:List (List Ins),ths.length = cs.length∧∀ j,j < cs.length→(∃ tok,cs[j]? = some (.sl (insLC (ths.getD j [])) (ths.getD j []).length tok))∧P j (ths.getD j []):=by
 intro cs
 induction cs generalizing P with
 | nil => intro _;exact ⟨[],rfl,fun j hj => by simp at hj⟩
 | cons c cs ih =>
   intro h
   obtain ⟨th,tok,h1,h2⟩:=h 0 (by simp)
   obtain ⟨ths,h3,h4⟩:=ih (P:=fun j => P (j + 1)) (fun j hj => by simpa using h (j + 1) (by simpa using hj))
   refine ⟨th :: ths,by simp[h3],fun j hj => ?_⟩
   cases j with
   | zero => exact ⟨⟨tok,by simpa using h1⟩,by simpa using h2⟩
   | succ j => simpa using h4 j (by simpa using hj)
theorem frzL_ths {hp:Nat→Option Blk} {k:Nat}:∀ {cs:List AV} {ths:List (List Ins)},ths.length = cs.length→(∀ j,j < cs.length→∃ tok,cs[j]? = some (.sl (insLC (ths.getD j [])) (ths.getD j []).length tok))→frzL hp (k + 1) cs = some (thsC ths)
 | [],[],_,_ => by simp[frzL,thsC]
 | c :: cs,th :: ths,hl,h => by
   obtain ⟨tok,h1⟩:=h 0 (by simp)
   have ih:=frzL_ths (hp:=hp) (k:=k) (cs:=cs) (ths:=ths) (by simpa using hl) (fun j hj => by simpa using h (j + 1) (by simpa using hj))
   have h1:c = .sl (insLC th) th.length tok:=by simpa using h1
   subst h1
   simp only[frzL,frz,ih]
   rfl
theorem sp_prog (S:ProgF F) (h86:F 86 = some A_xlaw00_Prog) {l:List Int} {T most:Nat} (hT:1≤T) (hT8:T≤8) (hm:most≤16) (hl:(l.length:Int)≤9223372036854775807):∃ ths:List (List Ins),pureS F 86 [.sl (intsC l) l.length .non,.i .i64 (T:Nat),.i .i64 (most:Nat)] = some (.agg [.i .i64 2,.sl (thsC ths) T .non])∧ths.length = T∧∀ t,t < T→ThrOk l T t most (ths.getD t []):=by
 obtain ⟨v,h1,ths,rfl,h2,h3⟩:=pureV_of (P:=fun v => ∃ ths:List (List Ins),v = .agg [.i .i64 2,.sl (thsC ths) T .non]∧ths.length = T∧∀ t,t < T→ThrOk l T t most (ths.getD t [])) h86 (pg_walk S hT hT8 hm hl (g:=g0) fun e g' cs ⟨e6,h0,h2,hnx,hlen,hfr,hok⟩ => by
  obtain ⟨ths,a1,a2⟩:=list_of (P:=fun j th => ThrOk l T j most th) cs (fun j hj => by
   have:=hok j (by omega)
   rw[if_pos (by omega)] at this
   exact this)
  refine ⟨_,?_,ths,rfl,by omega,fun t ht => (a2 t (by omega)).2⟩
  show (match resE [.cell 6 (some 2)] e g' with | some v0 => frz g'.hp depth v0 | none => none) = _
  rw[res_cell,e6]
  simp only[resC,h0,part_ag2]
  refine frz_d_agg ?_
  show frzL _ (7 + 1) _ = _
  simp only[frzL,frz,h2,List.drop_zero,frzL_ths (k:=6) (by omega) (fun j hj => (a2 j hj).1)]
  rfl)
 exact ⟨ths,h1,h2,h3⟩
end Go.Ab
end
section
set_option linter.unusedVariables false
set_option linter.unusedSimpArgs false
namespace Go.Ab
def ExOk (ex:List (Int × Int)):Prop:=∃ a b m:Int,0≤a∧a < 3∧0≤b∧b < 3∧0≤m∧m < 10∧ex = exM a b m
theorem exN_ok (v:Int):ExOk (exN v):=by
 obtain ⟨p0,p1⟩:=place_lt (v:=v) (n:=1073741824) (by omega)
 exact ⟨_,_,_,by omega,by omega,by omega,by omega,by omega,by omega,rfl⟩
inductive InsK (left:Int):Ins→Prop
 | ld (md rg lc:Int) (h1:md = 0∨md = 1) (h2:rg = 0∨rg = 1∨rg = 2) (h3:lc = 0∨lc = 1):InsK left ⟨1,md,0,rg,lc,[],0⟩
 | st (md lc:Int) (ex:List (Int × Int)) (h1:md = 0∨md = 2) (h3:lc = 0∨lc = 1) (he:ExOk ex):InsK left ⟨2,md,0,0,lc,ex,0⟩
 | fe (md:Int) (h1:md = 1∨md = 2∨md = 3∨md = 4):InsK left ⟨3,md,0,0,0,[],0⟩
 | fa (md md2 rg lc c:Int) (h1:md = 0∨md = 1) (h4:md2 = 0∨md2 = 2) (h2:rg = 0∨rg = 1∨rg = 2) (h3:lc = 0∨lc = 1) (h5:c = 0∨c = 1):InsK left ⟨4,md,md2,rg,lc,[(1,c)],0⟩
 | se (rg:Int) (ex:List (Int × Int)) (h2:rg = 0∨rg = 1∨rg = 2) (he:ExOk ex):InsK left ⟨5,0,0,rg,0,ex,0⟩
 | sk (ex:List (Int × Int)) (n:Int) (he:ExOk ex) (h0:0≤n) (h1:n≤left):InsK left ⟨6,0,0,0,0,ex,n⟩
theorem acq_01 (w:Int):acqM w = 0∨acqM w = 1:=by unfold acqM;split<;>omega
theorem rel_02 (w:Int):relM w = 0∨relM w = 2:=by unfold relM;split<;>omega
theorem insN_k {v left:Int} (h:0≤left):InsK left (insN v left):=by
 obtain ⟨p0,p1⟩:=place_lt (v:=v) (n:=1099511627776) (by omega)
 unfold insN
 generalize place v 1099511627776 = k at p0 p1
 have w0:0≤k / 20:=by omega
 generalize k / 20 = w at w0
 generalize k % 20 = t
 unfold insT
 split
 ·exact .ld _ _ _ (acq_01 w) (by omega) (by omega)
 split
 ·exact .st _ _ _ (rel_02 w) (by omega) (exN_ok _)
 split
 ·exact .fe _ (by omega)
 split
 ·exact .fa _ _ _ _ _ (acq_01 w) (rel_02 w) (by omega) (by omega) (by omega)
 split
 ·exact .se _ _ (by omega) (exN_ok _)
 ·have h1:=Int.emod_nonneg (w / 19) (by omega:left + 1≠0)
  have h2:=Int.emod_lt_of_pos (w / 19) (by omega:0 < left + 1)
  exact .sk _ _ (exN_ok _) h1 (by omega)
theorem fence_k (left:Int):InsK left fence0:=.fe 4 (by omega)
theorem PreOk.k {l:List Int} {T t n:Nat} {pre:List Ins} (h:PreOk l T t n pre) {k:Nat} (hk:k < pre.length):InsK ((n - 1 - k:Nat):Int) (pre.getD k fence0):=by
 rcases h.ins k hk with ⟨v,h1⟩ | h1
 ·rw[h1];exact insN_k (by omega)
 ·rw[h1];exact fence_k _
end Go.Ab
end
section
set_option linter.unusedVariables false
set_option linter.unusedSimpArgs false
namespace Go.Ab
theorem insLC_drop:∀ {l:List Ins} {k:Nat} (h:k < l.length),(insLC l).drop (k * 7) = insC (l.getD k fence0) ++ insLC (l.drop (k + 1))
 | x :: l,0,_ => by simp[insLC]
 | x :: l,k + 1,h => by
   have:=insLC_drop (l:=l) (k:=k) (by simpa using h)
   simp only[List.getD_cons_succ,List.drop_succ_cons]
   rw[←this]
   simp[insLC,Nat.succ_mul,insC]
theorem ins_at {l:List Ins} {k:Nat} (h:k < l.length):part ((insLC l).drop (k * 7)) 0 (some 7) = some (.agg (insC (l.getD k fence0))):=by
 rw[insLC_drop h]
 show (if 0 + 7≤(insC (l.getD k fence0) ++ insLC (l.drop (k + 1))).length then _ else none) = _
 rw[if_pos (by rw[List.length_append,insC_len];omega)]
 rfl
theorem th_at {l:List (List Ins)} {k:Nat} (h:k < l.length):part ((thsC l).drop (k * 1)) 0 none = some (.sl (insLC (l.getD k [])) (l.getD k []).length .non):=by
 simp only[part,Nat.mul_one,thsC]
 rw[List.getElem?_drop,Nat.add_zero,List.getElem?_map,List.getD_eq_getElem?_getD]
 cases hz:l[k]? with
 | none => rw[List.getElem?_eq_none_iff] at hz;omega
 | some x => rfl
theorem skips_take {l:List Ins} {k:Nat} (h:k < l.length):skips (l.take (k + 1)) = skips (l.take k) + (if (l.getD k fence0).kd = 6 then 1 else 0):=by
 rw[List.take_add_one,List.getD_eq_getElem?_getD]
 cases hz:l[k]? with
 | none => rw[List.getElem?_eq_none_iff] at hz;omega
 | some x => simpa using skips_snoc (l.take k) x
theorem skips_le (l:List Ins) (k:Nat):skips (l.take k)≤skips l:=by
 unfold skips
 exact List.Sublist.countP_le (List.take_sublist k l)
structure ThK (th:List Ins):Prop where
 len:th.length≤12
 ins:∀ k,k < th.length→InsK ((th.length - 1 - k:Nat):Int) (th.getD k fence0)
 sk:skips th≤2
theorem ThrOk.k {l:List Int} {T t most:Nat} {th:List Ins} (h:ThrOk l T t most th) (hm:most≤12):ThK th:=
 ⟨Nat.le_trans h.most hm,fun k hk => h.pre.k hk,h.sk⟩
end Go.Ab
end
section
set_option linter.unusedVariables false
set_option linter.unusedSimpArgs false
namespace Go.Ab
variable {F:Funs}
theorem evs_drop:∀ {l:List Ev} {k:Nat} (h:k < l.length),(evsC l).drop (k * 6) = evC (l.getD k ev0) ++ evsC (l.drop (k + 1))
 | p :: l,0,_ => by simp[evsC]
 | p :: l,k + 1,h => by
   have:=evs_drop (l:=l) (k:=k) (by simpa using h)
   simp only[List.getD_cons_succ,List.drop_succ_cons]
   rw[←this]
   simp[evsC,Nat.succ_mul,evC]
theorem ev_th_at:∀ {l:List Ev} {k:Nat} (h:k < l.length),part ((evsC l).drop (k * 6)) 0 none = some (.i .i64 (l.getD k ev0).th)
 | p :: l,0,_ => by simp[evsC,part,evC]
 | p :: l,k + 1,h => by
   have:=ev_th_at (l:=l) (k:=k) (by simpa using h)
   simp only[List.getD_cons_succ]
   rw[←this]
   simp[evsC,Nat.succ_mul,evC]
structure FewG (X:Gr):Prop where
 evs:X.evs.length≤50
 rf:X.rf.length≤60
 co:X.co.length≤6
 cos:∀ c∈X.co,c.length≤50
 rmw:X.rmw.length≤50
 data:X.data.length≤300
 ctrl:X.ctrl.length≤300
 ctrli:X.ctrli.length≤300
theorem FewG.few {X:Gr} (h:FewG X):Few X:=⟨by have:=h.evs;omega,h.co,fun c hc => by have:=h.cos c hc;omega⟩
end Go.Ab
end
section
namespace Go.Ab
def A_xref06_Check:AFun:={ res:=[.t 2],body:=(.seq (.reg false [qo 1 (.box (.t 0)),qo 2 (.mv (.c (.b false)))])
 (.seq (.reg false [qo 6 (.fa 1 (.t 1)),qo 7 (.ld none (.t 6)),qo 8 (.len (.t 7)),qm 3 8])
 (.seq (.seq (.reg false [qo 9 (.fa 0 (.t 1)),qo 10 (.ld none (.t 9)),qo 11 (.bin .lss (.t 10) (.c (.i .i64 1))),qm 12 11,qg 13 (.fa 0 (.t 1)) 12 false,qg 14 (.ld none (.t 13)) 12 false,qg 15 (.bin .gtr (.t 14) (.c (.i .i64 4))) 12 false,qo 16 (.pick (.t 12) (.c (.b true)) (.t 15)),qm 17 16,qg 18 (.mv (.t 3)) 17 false,qg 19 (.fa 0 (.t 1)) 17 false,qg 20 (.ld none (.t 19)) 17 false,qg 21 (.bin .lss (.t 18) (.t 20)) 17 false,qo 22 (.pick (.t 17) (.c (.b true)) (.t 21)),qm 23 22,qg 24 (.mv (.t 3)) 23 false,qg 25 (.bin .gtr (.t 24) (.c (.i .i64 40))) 23 false,qo 26 (.pick (.t 23) (.c (.b true)) (.t 25)),qm 27 26,qg 28 (.fa 2 (.t 1)) 27 false,qg 29 (.ld none (.t 28)) 27 false,qg 30 (.len (.t 29)) 27 false,qg 31 (.mv (.t 3)) 27 false,qg 32 (.bin .neq (.t 30) (.t 31)) 27 false,qo 33 (.pick (.t 27) (.c (.b true)) (.t 32)),qm 34 33,qg 35 (.fa 3 (.t 1)) 34 false,qg 36 (.ld none (.t 35)) 34 false,qg 37 (.len (.t 36)) 34 false,qg 38 (.fa 0 (.t 1)) 34 false,qg 39 (.ld none (.t 38)) 34 false,qg 40 (.bin .neq (.t 37) (.t 39)) 34 false,qo 41 (.pick (.t 34) (.c (.b true)) (.t 40))])
 (.cond (.t 41) (.seq (.reg false [qo 2 (.mv (.c (.b false)))])
 .ret)
 .skip))
 (.seq (.seq (.reg false [qo 4 (.mv (.c (.i .i64 0)))])
 (.blk 0 (.loop (.seq (.seq (.reg false [qm 42 4,qm 43 3,qo 44 (.bin .lss (.t 42) (.t 43))])
 (.cond (.t 44) .skip
 (.ext 0)))
 (.seq (.blk 1 (.seq (.reg false [qo 47 (.ld (some 8) (.t 1)),qm 48 4,qo 49 (.call .pure (.c (.fn 63 [] [])) [.t 47,.t 48]),qo 50 (.un .not (.t 49)),qm 51 50,qg 52 (.ld (some 8) (.t 1)) 51 false,qg 53 (.mv (.t 4)) 51 false,qg 54 (.call .pure (.c (.fn 64 [] [])) [.t 52,.t 53]) 51 false,qg 55 (.un .not (.t 54)) 51 false,qo 56 (.pick (.t 51) (.c (.b true)) (.t 55))])
 (.cond (.t 56) (.seq (.reg false [qo 2 (.mv (.c (.b false)))])
 .ret)
 .skip)))
 (.reg false [qm 45 4,qo 46 (.bin .add (.t 45) (.c (.i .i64 1))),qm 4 46]))))))
 (.seq (.seq (.reg false [qo 5 (.mv (.c (.i .i64 0)))])
 (.blk 2 (.loop (.seq (.seq (.reg false [qm 57 5,qo 58 (.fa 0 (.t 1)),qo 59 (.ld none (.t 58)),qo 60 (.bin .lss (.t 57) (.t 59))])
 (.cond (.t 60) .skip
 (.ext 2)))
 (.seq (.blk 3 (.seq (.reg false [qo 63 (.ld (some 8) (.t 1)),qm 64 5,qo 65 (.call .pure (.c (.fn 65 [] [])) [.t 63,.t 64]),qo 66 (.un .not (.t 65))])
 (.cond (.t 66) (.seq (.reg false [qo 2 (.mv (.c (.b false)))])
 .ret)
 .skip)))
 (.reg false [qm 61 5,qo 62 (.bin .add (.t 61) (.c (.i .i64 1))),qm 5 62]))))))
 (.seq (.reg false [qo 67 (.ld (some 8) (.t 1)),qo 68 (.call .pure (.c (.fn 66 [] [])) [.t 67]),qm 69 68,qg 70 (.ld (some 8) (.t 1)) 69 true,qg 71 (.fa 5 (.t 1)) 69 true,qg 72 (.ld none (.t 71)) 69 true,qg 73 (.call .pure (.c (.fn 67 [] [])) [.t 70,.t 72]) 69 true,qo 74 (.pick (.t 69) (.t 73) (.c (.b false))),qm 75 74,qg 76 (.ld (some 8) (.t 1)) 75 true,qg 77 (.fa 6 (.t 1)) 75 true,qg 78 (.ld none (.t 77)) 75 true,qg 79 (.call .pure (.c (.fn 67 [] [])) [.t 76,.t 78]) 75 true,qo 80 (.pick (.t 75) (.t 79) (.c (.b false))),qm 81 80,qg 82 (.ld (some 8) (.t 1)) 81 true,qg 83 (.fa 7 (.t 1)) 81 true,qg 84 (.ld none (.t 83)) 81 true,qg 85 (.call .pure (.c (.fn 67 [] [])) [.t 82,.t 84]) 81 true,qo 86 (.pick (.t 81) (.t 85) (.c (.b false))),qm 2 86])
 .ret)))))) }
def A_xref06_event:AFun:={ res:=[.t 4],body:=(.seq (.reg false [qo 2 (.box (.t 0)),qo 4 (.mv (.c (.b false)))])
 (.seq (.reg false [qo 7 (.fa 1 (.t 2)),qo 8 (.ld none (.t 7)),qm 9 1,qo 10 (.ia 6 (.t 8) (.t 9)),qo 11 (.ld (some 6) (.t 10)),qo 5 (.new (List.replicate 5 (.i .i64 0) ++ [.b false])),qn (.st 6 (.t 5) (.t 11))])
 (.seq (.seq (.reg false [qm 12 1,qo 13 (.fa 0 (.t 2)),qo 14 (.ld none (.t 13)),qo 15 (.bin .lss (.t 12) (.t 14))])
 (.cond (.t 15) (.seq (.reg false [qo 16 (.fa 0 (.t 5)),qo 17 (.ld none (.t 16)),qo 18 (.bin .eql (.t 17) (.c (.i .i64 0))),qm 19 18,qg 20 (.fa 1 (.t 5)) 19 true,qg 21 (.ld none (.t 20)) 19 true,qg 22 (.bin .eql (.t 21) (.c (.i .i64 2))) 19 true,qo 23 (.pick (.t 19) (.t 22) (.c (.b false))),qm 24 23,qg 25 (.fa 2 (.t 5)) 24 true,qg 26 (.ld none (.t 25)) 24 true,qg 27 (.bin .eql (.t 26) (.c (.i .i64 0))) 24 true,qo 28 (.pick (.t 24) (.t 27) (.c (.b false))),qm 29 28,qg 30 (.fa 3 (.t 5)) 29 true,qg 31 (.ld none (.t 30)) 29 true,qg 32 (.mv (.t 1)) 29 true,qg 33 (.bin .eql (.t 31) (.t 32)) 29 true,qo 34 (.pick (.t 29) (.t 33) (.c (.b false))),qm 35 34,qg 36 (.fa 4 (.t 5)) 35 true,qg 37 (.ld none (.t 36)) 35 true,qg 38 (.bin .eql (.t 37) (.c (.i .i64 0))) 35 true,qo 39 (.pick (.t 35) (.t 38) (.c (.b false))),qm 40 39,qg 41 (.fa 5 (.t 5)) 40 true,qg 42 (.ld none (.t 41)) 40 true,qg 43 (.un .not (.t 42)) 40 true,qo 44 (.pick (.t 40) (.t 43) (.c (.b false))),qm 4 44])
 .ret)
 .skip))
 (.seq (.seq (.reg true [qo 45 (.fa 0 (.t 5)),qo 46 (.ld none (.t 45)),qo 47 (.bin .lss (.t 46) (.c (.i .i64 1))),qm 48 47,qg 49 (.fa 0 (.t 5)) 48 false,qg 50 (.ld none (.t 49)) 48 false,qg 51 (.bin .gtr (.t 50) (.c (.i .i64 4))) 48 false,qo 52 (.pick (.t 48) (.c (.b true)) (.t 51)),qm 53 52,qg 54 (.mv (.t 1)) 53 false,qg 55 (.bin .gtr (.t 54) (.c (.i .i64 0))) 53 false,qg 56 (.mv (.t 55)) 53 false,qg 57 (.fa 0 (.t 5)) 56 true,qg 58 (.ld none (.t 57)) 56 true,qg 59 (.fa 1 (.t 2)) 56 true,qg 60 (.ld none (.t 59)) 56 true,qg 61 (.mv (.t 1)) 56 true,qg 62 (.bin .sub (.t 61) (.c (.i .i64 1))) 56 true,qg 63 (.ia 6 (.t 60) (.t 62)) 56 true,qg 64 (.fa 0 (.t 63)) 56 true,qg 65 (.ld none (.t 64)) 56 true,qg 66 (.bin .lss (.t 58) (.t 65)) 56 true,qg 67 (.pick (.t 56) (.t 66) (.c (.b false))) 53 false,qo 68 (.pick (.t 53) (.c (.b true)) (.t 67))])
 (.cond (.t 68) (.seq (.reg false [qo 4 (.mv (.c (.b false)))])
 .ret)
 .skip))
 (.seq (.reg false [qo 69 (.fa 3 (.t 5)),qo 70 (.ld none (.t 69)),qo 71 (.bin .geq (.t 70) (.c (.i .i64 0))),qm 72 71,qg 73 (.fa 3 (.t 5)) 72 true,qg 74 (.ld none (.t 73)) 72 true,qg 75 (.fa 0 (.t 2)) 72 true,qg 76 (.ld none (.t 75)) 72 true,qg 77 (.bin .lss (.t 74) (.t 76)) 72 true,qo 78 (.pick (.t 72) (.t 77) (.c (.b false))),qm 6 78])
 (.seq (.seq (.reg false [qo 79 (.fa 1 (.t 5)),qo 80 (.ld none (.t 79))])
 (.blk 0 (.seq (.reg false [qo 82 (.bin .eql (.t 80) (.c (.i .i64 1))),qm 81 82])
 (.cond (.t 81) (.seq (.reg false [qm 83 6,qm 84 83,qg 85 (.fa 2 (.t 5)) 84 true,qg 86 (.ld none (.t 85)) 84 true,qg 87 (.bin .eql (.t 86) (.c (.i .i64 0))) 84 true,qg 88 (.mv (.t 87)) 84 true,qg 89 (.fa 2 (.t 5)) 88 false,qg 90 (.ld none (.t 89)) 88 false,qg 91 (.bin .eql (.t 90) (.c (.i .i64 1))) 88 false,qg 92 (.pick (.t 88) (.c (.b true)) (.t 91)) 84 true,qo 93 (.pick (.t 84) (.t 92) (.c (.b false))),qm 4 93])
 .ret)
 (.seq (.reg false [qo 95 (.bin .eql (.t 80) (.c (.i .i64 2))),qm 94 95])
 (.cond (.t 94) (.seq (.reg false [qm 96 6,qm 97 96,qg 98 (.fa 2 (.t 5)) 97 true,qg 99 (.ld none (.t 98)) 97 true,qg 100 (.bin .eql (.t 99) (.c (.i .i64 0))) 97 true,qg 101 (.mv (.t 100)) 97 true,qg 102 (.fa 2 (.t 5)) 101 false,qg 103 (.ld none (.t 102)) 101 false,qg 104 (.bin .eql (.t 103) (.c (.i .i64 2))) 101 false,qg 105 (.pick (.t 101) (.c (.b true)) (.t 104)) 97 true,qo 106 (.pick (.t 97) (.t 105) (.c (.b false))),qm 4 106])
 .ret)
 (.seq (.reg false [qo 108 (.bin .eql (.t 80) (.c (.i .i64 3))),qm 107 108])
 (.cond (.t 107) (.seq (.reg false [qo 109 (.fa 2 (.t 5)),qo 110 (.ld none (.t 109)),qo 111 (.bin .geq (.t 110) (.c (.i .i64 1))),qm 112 111,qg 113 (.fa 2 (.t 5)) 112 true,qg 114 (.ld none (.t 113)) 112 true,qg 115 (.bin .leq (.t 114) (.c (.i .i64 4))) 112 true,qo 116 (.pick (.t 112) (.t 115) (.c (.b false))),qm 117 116,qg 118 (.fa 3 (.t 5)) 117 true,qg 119 (.ld none (.t 118)) 117 true,qg 120 (.bin .eql (.t 119) (.c (.i .i64 0))) 117 true,qo 121 (.pick (.t 117) (.t 120) (.c (.b false))),qm 122 121,qg 123 (.fa 4 (.t 5)) 122 true,qg 124 (.ld none (.t 123)) 122 true,qg 125 (.bin .eql (.t 124) (.c (.i .i64 0))) 122 true,qo 126 (.pick (.t 122) (.t 125) (.c (.b false))),qm 127 126,qg 128 (.fa 5 (.t 5)) 127 true,qg 129 (.ld none (.t 128)) 127 true,qg 130 (.un .not (.t 129)) 127 true,qo 131 (.pick (.t 127) (.t 130) (.c (.b false))),qm 4 131])
 .ret)
 .skip))))))))
 (.seq (.reg false [qo 4 (.mv (.c (.b false)))])
 .ret))))))) }
def A_xref06_rf:AFun:={ res:=[.t 4],body:=(.seq (.reg false [qo 2 (.box (.t 0)),qo 4 (.mv (.c (.b false)))])
 (.seq (.reg true [qo 8 (.fa 1 (.t 2)),qo 9 (.ld none (.t 8)),qm 10 1,qo 11 (.ia 6 (.t 9) (.t 10)),qo 12 (.ld (some 6) (.t 11)),qo 13 (.fa 2 (.t 2)),qo 14 (.ld none (.t 13)),qm 15 1,qo 16 (.ia 1 (.t 14) (.t 15)),qo 17 (.ld none (.t 16)),qo 5 (.new (List.replicate 5 (.i .i64 0) ++ [.b false])),qnp (.stL 6 (.t 5) (.t 12)) [10],qm 6 17])
 (.seq (.seq (.reg false [qo 18 (.fa 1 (.t 5)),qo 19 (.ld none (.t 18)),qo 20 (.bin .neq (.t 19) (.c (.i .i64 1)))])
 (.cond (.t 20) (.seq (.reg false [qm 21 6,qo 22 (.bin .eql (.t 21) (.c (.i .i64 (-1)))),qm 4 22])
 .ret)
 .skip))
 (.seq (.seq (.reg false [qm 23 6,qo 24 (.bin .lss (.t 23) (.c (.i .i64 0))),qm 25 24,qg 26 (.mv (.t 6)) 25 false,qg 27 (.fa 1 (.t 2)) 25 false,qg 28 (.ld none (.t 27)) 25 false,qg 29 (.len (.t 28)) 25 false,qg 30 (.bin .geq (.t 26) (.t 29)) 25 false,qo 31 (.pick (.t 25) (.c (.b true)) (.t 30))])
 (.cond (.t 31) (.seq (.reg false [qo 4 (.mv (.c (.b false)))])
 .ret)
 .skip))
 (.seq (.reg false [qo 32 (.fa 1 (.t 2)),qo 33 (.ld none (.t 32)),qm 34 6,qo 35 (.ia 6 (.t 33) (.t 34)),qo 36 (.ld (some 6) (.t 35)),qo 7 (.new (List.replicate 5 (.i .i64 0) ++ [.b false])),qn (.st 6 (.t 7) (.t 36))])
 (.seq (.reg false [qo 37 (.fa 1 (.t 7)),qo 38 (.ld none (.t 37)),qo 39 (.bin .eql (.t 38) (.c (.i .i64 2))),qm 40 39,qg 41 (.fa 3 (.t 7)) 40 true,qg 42 (.ld none (.t 41)) 40 true,qg 43 (.fa 3 (.t 5)) 40 true,qg 44 (.ld none (.t 43)) 40 true,qg 45 (.bin .eql (.t 42) (.t 44)) 40 true,qo 46 (.pick (.t 40) (.t 45) (.c (.b false))),qm 47 46,qg 48 (.fa 4 (.t 7)) 47 true,qg 49 (.ld none (.t 48)) 47 true,qg 50 (.fa 4 (.t 5)) 47 true,qg 51 (.ld none (.t 50)) 47 true,qg 52 (.bin .eql (.t 49) (.t 51)) 47 true,qo 53 (.pick (.t 47) (.t 52) (.c (.b false))),qm 4 53])
 .ret)))))) }
def A_xref06_co:AFun:={ res:=[.t 4],body:=(.seq (.reg false [qo 2 (.box (.t 0)),qo 4 (.mv (.c (.b false)))])
 (.seq (.reg false [qo 10 (.fa 3 (.t 2)),qo 11 (.ld none (.t 10)),qm 12 1,qo 13 (.ia 1 (.t 11) (.t 12)),qo 14 (.ld none (.t 13)),qm 5 14])
 (.seq (.reg false [qo 6 (.mv (.c (.i .i64 0)))])
 (.seq (.seq (.reg false [qo 7 (.mv (.c (.i .i64 0)))])
 (.blk 0 (.loop (.seq (.seq (.reg false [qm 15 7,qo 16 (.fa 1 (.t 2)),qo 17 (.ld none (.t 16)),qo 18 (.len (.t 17)),qo 19 (.bin .lss (.t 15) (.t 18))])
 (.cond (.t 19) .skip
 (.ext 0)))
 (.seq (.blk 1 (.seq (.reg false [qo 22 (.fa 1 (.t 2)),qo 23 (.ld none (.t 22)),qm 24 7,qo 25 (.ia 6 (.t 23) (.t 24)),qo 26 (.fa 1 (.t 25)),qo 27 (.ld none (.t 26)),qo 28 (.bin .eql (.t 27) (.c (.i .i64 2))),qm 29 28,qg 30 (.fa 1 (.t 2)) 29 true,qg 31 (.ld none (.t 30)) 29 true,qg 32 (.mv (.t 7)) 29 true,qg 33 (.ia 6 (.t 31) (.t 32)) 29 true,qg 34 (.fa 3 (.t 33)) 29 true,qg 35 (.ld none (.t 34)) 29 true,qg 36 (.mv (.t 1)) 29 true,qg 37 (.bin .eql (.t 35) (.t 36)) 29 true,qo 38 (.pick (.t 29) (.t 37) (.c (.b false)))])
 (.cond (.t 38) (.reg false [qm 39 6,qo 40 (.bin .add (.t 39) (.c (.i .i64 1))),qm 6 40])
 .skip)))
 (.reg false [qm 20 7,qo 21 (.bin .add (.t 20) (.c (.i .i64 1))),qm 7 21]))))))
 (.seq (.seq (.reg false [qo 8 (.mv (.c (.i .i64 0)))])
 (.blk 2 (.loop (.seq (.seq (.reg false [qm 41 8,qm 42 5,qo 43 (.len (.t 42)),qo 44 (.bin .lss (.t 41) (.t 43))])
 (.cond (.t 44) .skip
 (.ext 2)))
 (.seq (.blk 3 (.seq (.seq (.reg true [qm 47 5,qm 48 8,qo 49 (.ia 1 (.t 47) (.t 48)),qo 50 (.ld none (.t 49)),qo 51 (.bin .lss (.t 50) (.c (.i .i64 0))),qm 52 51,qg 53 (.mv (.t 5)) 52 false,qg 54 (.mv (.t 8)) 52 false,qg 55 (.ia 1 (.t 53) (.t 54)) 52 false,qg 56 (.ld none (.t 55)) 52 false,qg 57 (.fa 1 (.t 2)) 52 false,qg 58 (.ld none (.t 57)) 52 false,qg 59 (.len (.t 58)) 52 false,qg 60 (.bin .geq (.t 56) (.t 59)) 52 false,qo 61 (.pick (.t 52) (.c (.b true)) (.t 60)),qm 62 61,qg 63 (.fa 1 (.t 2)) 62 false,qg 64 (.ld none (.t 63)) 62 false,qg 65 (.mv (.t 5)) 62 false,qg 66 (.mv (.t 8)) 62 false,qg 67 (.ia 1 (.t 65) (.t 66)) 62 false,qg 68 (.ld none (.t 67)) 62 false,qg 69 (.ia 6 (.t 64) (.t 68)) 62 false,qg 70 (.fa 1 (.t 69)) 62 false,qg 71 (.ld none (.t 70)) 62 false,qg 72 (.bin .neq (.t 71) (.c (.i .i64 2))) 62 false,qo 73 (.pick (.t 62) (.c (.b true)) (.t 72)),qm 74 73,qg 75 (.fa 1 (.t 2)) 74 false,qg 76 (.ld none (.t 75)) 74 false,qg 77 (.mv (.t 5)) 74 false,qg 78 (.mv (.t 8)) 74 false,qg 79 (.ia 1 (.t 77) (.t 78)) 74 false,qg 80 (.ld none (.t 79)) 74 false,qg 81 (.ia 6 (.t 76) (.t 80)) 74 false,qg 82 (.fa 3 (.t 81)) 74 false,qg 83 (.ld none (.t 82)) 74 false,qg 84 (.mv (.t 1)) 74 false,qg 85 (.bin .neq (.t 83) (.t 84)) 74 false,qo 86 (.pick (.t 74) (.c (.b true)) (.t 85))])
 (.cond (.t 86) (.seq (.reg false [qo 4 (.mv (.c (.b false)))])
 .ret)
 .skip))
 (.seq (.reg false [qo 9 (.mv (.c (.i .i64 0)))])
 (.blk 4 (.loop (.seq (.seq (.reg false [qm 87 9,qm 88 8,qo 89 (.bin .lss (.t 87) (.t 88))])
 (.cond (.t 89) .skip
 (.ext 4)))
 (.seq (.blk 5 (.seq (.reg true [qm 92 5,qm 93 9,qo 94 (.ia 1 (.t 92) (.t 93)),qo 95 (.ld none (.t 94)),qm 96 5,qm 97 8,qo 98 (.ia 1 (.t 96) (.t 97)),qo 99 (.ld none (.t 98)),qo 100 (.bin .eql (.t 95) (.t 99))])
 (.cond (.t 100) (.seq (.reg false [qo 4 (.mv (.c (.b false)))])
 .ret)
 .skip)))
 (.reg false [qm 90 9,qo 91 (.bin .add (.t 90) (.c (.i .i64 1))),qm 9 91]))))))))
 (.reg false [qm 45 8,qo 46 (.bin .add (.t 45) (.c (.i .i64 1))),qm 8 46]))))))
 (.seq (.reg false [qm 101 5,qo 102 (.len (.t 101)),qm 103 6,qo 104 (.bin .eql (.t 102) (.t 103)),qm 105 104,qg 106 (.mv (.t 6)) 105 true,qg 107 (.bin .gtr (.t 106) (.c (.i .i64 0))) 105 true,qo 108 (.pick (.t 105) (.t 107) (.c (.b false))),qm 109 108,qg 110 (.mv (.t 5)) 109 true,qg 111 (.ia 1 (.t 110) (.c (.i .i64 0))) 109 true,qg 112 (.ld none (.t 111)) 109 true,qg 113 (.mv (.t 1)) 109 true,qg 114 (.bin .eql (.t 112) (.t 113)) 109 true,qo 115 (.pick (.t 109) (.t 114) (.c (.b false))),qm 4 115])
 .ret)))))) }
def A_xref06_rmw:AFun:={ res:=[.t 2],body:=(.seq (.reg false [qo 1 (.box (.t 0)),qo 2 (.mv (.c (.b false)))])
 (.seq (.reg false [qo 3 (.new (List.replicate 40 (.i .i64 0)))])
 (.seq (.seq (.reg false [qo 4 (.mv (.c (.i .i64 0)))])
 (.blk 0 (.loop (.seq (.seq (.reg false [qm 10 4,qo 11 (.fa 4 (.t 1)),qo 12 (.ld none (.t 11)),qo 13 (.len (.t 12)),qo 14 (.bin .lss (.t 10) (.t 13))])
 (.cond (.t 14) .skip
 (.ext 0)))
 (.seq (.blk 1 (.seq (.reg true [qo 17 (.fa 4 (.t 1)),qo 18 (.ld none (.t 17)),qm 19 4,qo 20 (.ia 2 (.t 18) (.t 19)),qo 21 (.fa 0 (.t 20)),qo 22 (.ld none (.t 21)),qo 23 (.fa 4 (.t 1)),qo 24 (.ld none (.t 23)),qm 25 4,qo 26 (.ia 2 (.t 24) (.t 25)),qo 27 (.fa 1 (.t 26)),qo 28 (.ld none (.t 27)),qm 5 22,qm 6 28])
 (.seq (.seq (.reg false [qm 29 5,qo 30 (.bin .lss (.t 29) (.c (.i .i64 0))),qm 31 30,qg 32 (.mv (.t 5)) 31 false,qg 33 (.fa 1 (.t 1)) 31 false,qg 34 (.ld none (.t 33)) 31 false,qg 35 (.len (.t 34)) 31 false,qg 36 (.bin .sub (.t 35) (.c (.i .i64 1))) 31 false,qg 37 (.bin .geq (.t 32) (.t 36)) 31 false,qo 38 (.pick (.t 31) (.c (.b true)) (.t 37)),qm 39 38,qg 40 (.mv (.t 6)) 39 false,qg 41 (.mv (.t 5)) 39 false,qg 42 (.bin .add (.t 41) (.c (.i .i64 1))) 39 false,qg 43 (.bin .neq (.t 40) (.t 42)) 39 false,qo 44 (.pick (.t 39) (.c (.b true)) (.t 43))])
 (.cond (.t 44) (.seq (.reg false [qo 2 (.mv (.c (.b false)))])
 .ret)
 .skip))
 (.seq (.reg true [qo 45 (.fa 1 (.t 1)),qo 46 (.ld none (.t 45)),qm 47 5,qo 48 (.ia 6 (.t 46) (.t 47)),qo 49 (.ld (some 6) (.t 48)),qo 50 (.fa 1 (.t 1)),qo 51 (.ld none (.t 50)),qm 52 6,qo 53 (.ia 6 (.t 51) (.t 52)),qo 54 (.ld (some 6) (.t 53)),qo 7 (.new (List.replicate 5 (.i .i64 0) ++ [.b false])),qo 8 (.new (List.replicate 5 (.i .i64 0) ++ [.b false])),qnp (.stL 6 (.t 7) (.t 49)) [10],qnp (.stL 6 (.t 8) (.t 54)) [11]])
 (.seq (.seq (.reg false [qo 55 (.fa 0 (.t 7)),qo 56 (.ld none (.t 55)),qo 57 (.fa 0 (.t 8)),qo 58 (.ld none (.t 57)),qo 59 (.bin .neq (.t 56) (.t 58)),qm 60 59,qg 61 (.fa 1 (.t 7)) 60 false,qg 62 (.ld none (.t 61)) 60 false,qg 63 (.bin .neq (.t 62) (.c (.i .i64 1))) 60 false,qo 64 (.pick (.t 60) (.c (.b true)) (.t 63)),qm 65 64,qg 66 (.fa 1 (.t 8)) 65 false,qg 67 (.ld none (.t 66)) 65 false,qg 68 (.bin .neq (.t 67) (.c (.i .i64 2))) 65 false,qo 69 (.pick (.t 65) (.c (.b true)) (.t 68)),qm 70 69,qg 71 (.fa 3 (.t 7)) 70 false,qg 72 (.ld none (.t 71)) 70 false,qg 73 (.fa 3 (.t 8)) 70 false,qg 74 (.ld none (.t 73)) 70 false,qg 75 (.bin .neq (.t 72) (.t 74)) 70 false,qo 76 (.pick (.t 70) (.c (.b true)) (.t 75)),qm 77 76,qg 78 (.fa 5 (.t 7)) 77 false,qg 79 (.ld none (.t 78)) 77 false,qg 80 (.un .not (.t 79)) 77 false,qo 81 (.pick (.t 77) (.c (.b true)) (.t 80)),qm 82 81,qg 83 (.fa 5 (.t 8)) 82 false,qg 84 (.ld none (.t 83)) 82 false,qg 85 (.un .not (.t 84)) 82 false,qo 86 (.pick (.t 82) (.c (.b true)) (.t 85))])
 (.cond (.t 86) (.seq (.reg false [qo 2 (.mv (.c (.b false)))])
 .ret)
 .skip))
 (.seq (.reg false [qm 87 5,qo 88 (.iaa 40 1 (.t 3) (.t 87)),qo 89 (.ld none (.t 88)),qo 90 (.bin .add (.t 89) (.c (.i .i64 1))),qo 91 (.iaa 40 1 (.t 3) (.t 87)),qn (.st 1 (.t 91) (.t 90))])
 (.reg false [qm 92 6,qo 93 (.iaa 40 1 (.t 3) (.t 92)),qo 94 (.ld none (.t 93)),qo 95 (.bin .add (.t 94) (.c (.i .i64 1))),qo 96 (.iaa 40 1 (.t 3) (.t 92)),qn (.st 1 (.t 96) (.t 95))])))))))
 (.reg false [qm 15 4,qo 16 (.bin .add (.t 15) (.c (.i .i64 1))),qm 4 16]))))))
 (.seq (.seq (.reg false [qo 9 (.mv (.c (.i .i64 0)))])
 (.blk 2 (.loop (.seq (.seq (.reg false [qm 97 9,qo 98 (.fa 1 (.t 1)),qo 99 (.ld none (.t 98)),qo 100 (.len (.t 99)),qo 101 (.bin .lss (.t 97) (.t 100))])
 (.cond (.t 101) .skip
 (.ext 2)))
 (.seq (.blk 3 (.seq (.reg true [qm 104 9,qo 105 (.iaa 40 1 (.t 3) (.t 104)),qo 106 (.ld none (.t 105)),qo 107 (.bin .gtr (.t 106) (.c (.i .i64 1))),qm 108 107,qg 109 (.fa 1 (.t 1)) 108 false,qg 110 (.ld none (.t 109)) 108 false,qg 111 (.mv (.t 9)) 108 false,qg 112 (.ia 6 (.t 110) (.t 111)) 108 false,qg 113 (.fa 5 (.t 112)) 108 false,qg 114 (.ld none (.t 113)) 108 false,qg 115 (.mv (.t 9)) 108 false,qg 116 (.iaa 40 1 (.t 3) (.t 115)) 108 false,qg 117 (.ld none (.t 116)) 108 false,qg 118 (.bin .eql (.t 117) (.c (.i .i64 1))) 108 false,qg 119 (.eqb true (.t 114) (.t 118)) 108 false,qo 120 (.pick (.t 108) (.c (.b true)) (.t 119))])
 (.cond (.t 120) (.seq (.reg false [qo 2 (.mv (.c (.b false)))])
 .ret)
 .skip)))
 (.reg false [qm 102 9,qo 103 (.bin .add (.t 102) (.c (.i .i64 1))),qm 9 103]))))))
 (.seq (.reg false [qo 121 (.fa 4 (.t 1)),qo 122 (.ld none (.t 121)),qo 123 (.call .pure (.c (.fn 82 [] [])) [.t 122]),qm 2 123])
 .ret))))) }
def A_xref06_deps:AFun:={ res:=[.t 4],body:=(.seq (.reg false [qo 2 (.box (.t 0)),qo 4 (.mv (.c (.b false)))])
 (.seq (.seq (.reg false [qo 5 (.mv (.c (.i .i64 0)))])
 (.blk 0 (.loop (.seq (.seq (.reg false [qm 8 5,qm 9 1,qo 10 (.len (.t 9)),qo 11 (.bin .lss (.t 8) (.t 10))])
 (.cond (.t 11) .skip
 (.ext 0)))
 (.seq (.blk 1 (.seq (.reg true [qm 14 1,qm 15 5,qo 16 (.ia 2 (.t 14) (.t 15)),qo 17 (.fa 0 (.t 16)),qo 18 (.ld none (.t 17)),qm 19 1,qm 20 5,qo 21 (.ia 2 (.t 19) (.t 20)),qo 22 (.fa 1 (.t 21)),qo 23 (.ld none (.t 22)),qm 6 18,qm 7 23])
 (.seq (.reg true [qm 24 6,qo 25 (.bin .lss (.t 24) (.c (.i .i64 0))),qm 26 25,qg 27 (.mv (.t 7)) 26 false,qg 28 (.mv (.t 6)) 26 false,qg 29 (.bin .leq (.t 27) (.t 28)) 26 false,qo 30 (.pick (.t 26) (.c (.b true)) (.t 29)),qm 31 30,qg 32 (.mv (.t 7)) 31 false,qg 33 (.fa 1 (.t 2)) 31 false,qg 34 (.ld none (.t 33)) 31 false,qg 35 (.len (.t 34)) 31 false,qg 36 (.bin .geq (.t 32) (.t 35)) 31 false,qo 37 (.pick (.t 31) (.c (.b true)) (.t 36)),qm 38 37,qg 39 (.fa 1 (.t 2)) 38 false,qg 40 (.ld none (.t 39)) 38 false,qg 41 (.mv (.t 6)) 38 false,qg 42 (.ia 6 (.t 40) (.t 41)) 38 false,qg 43 (.fa 1 (.t 42)) 38 false,qg 44 (.ld none (.t 43)) 38 false,qg 45 (.bin .neq (.t 44) (.c (.i .i64 1))) 38 false,qo 46 (.pick (.t 38) (.c (.b true)) (.t 45)),qm 47 46,qg 48 (.fa 1 (.t 2)) 47 false,qg 49 (.ld none (.t 48)) 47 false,qg 50 (.mv (.t 6)) 47 false,qg 51 (.ia 6 (.t 49) (.t 50)) 47 false,qg 52 (.fa 0 (.t 51)) 47 false,qg 53 (.ld none (.t 52)) 47 false,qg 54 (.fa 1 (.t 2)) 47 false,qg 55 (.ld none (.t 54)) 47 false,qg 56 (.mv (.t 7)) 47 false,qg 57 (.ia 6 (.t 55) (.t 56)) 47 false,qg 58 (.fa 0 (.t 57)) 47 false,qg 59 (.ld none (.t 58)) 47 false,qg 60 (.bin .neq (.t 53) (.t 59)) 47 false,qo 61 (.pick (.t 47) (.c (.b true)) (.t 60))])
 (.cond (.t 61) (.seq (.reg false [qo 4 (.mv (.c (.b false)))])
 .ret)
 .skip))))
 (.reg false [qm 12 5,qo 13 (.bin .add (.t 12) (.c (.i .i64 1))),qm 5 13]))))))
 (.seq (.reg false [qm 62 1,qo 63 (.call .pure (.c (.fn 82 [] [])) [.t 62]),qm 4 63])
 .ret))) }
def A_xref06_rising:AFun:={ res:=[.t 2],body:=(.seq (.reg false [qo 2 (.mv (.c (.b false)))])
 (.seq (.seq (.reg false [qo 3 (.mv (.c (.i .i64 1)))])
 (.blk 0 (.loop (.seq (.seq (.reg false [qm 4 3,qm 5 0,qo 6 (.len (.t 5)),qo 7 (.bin .lss (.t 4) (.t 6))])
 (.cond (.t 7) .skip
 (.ext 0)))
 (.seq (.blk 1 (.seq (.reg true [qm 10 0,qm 11 3,qo 12 (.ia 2 (.t 10) (.t 11)),qo 13 (.fa 0 (.t 12)),qo 14 (.ld none (.t 13)),qm 15 0,qm 16 3,qo 17 (.bin .sub (.t 16) (.c (.i .i64 1))),qo 18 (.ia 2 (.t 15) (.t 17)),qo 19 (.fa 0 (.t 18)),qo 20 (.ld none (.t 19)),qo 21 (.bin .lss (.t 14) (.t 20)),qm 22 21,qg 23 (.mv (.t 0)) 22 false,qg 24 (.mv (.t 3)) 22 false,qg 25 (.ia 2 (.t 23) (.t 24)) 22 false,qg 26 (.fa 0 (.t 25)) 22 false,qg 27 (.ld none (.t 26)) 22 false,qg 28 (.mv (.t 0)) 22 false,qg 29 (.mv (.t 3)) 22 false,qg 30 (.bin .sub (.t 29) (.c (.i .i64 1))) 22 false,qg 31 (.ia 2 (.t 28) (.t 30)) 22 false,qg 32 (.fa 0 (.t 31)) 22 false,qg 33 (.ld none (.t 32)) 22 false,qg 34 (.bin .eql (.t 27) (.t 33)) 22 false,qg 35 (.mv (.t 34)) 22 false,qg 36 (.mv (.t 0)) 35 true,qg 37 (.mv (.t 3)) 35 true,qg 38 (.ia 2 (.t 36) (.t 37)) 35 true,qg 39 (.fa 1 (.t 38)) 35 true,qg 40 (.ld none (.t 39)) 35 true,qg 41 (.mv (.t 0)) 35 true,qg 42 (.mv (.t 3)) 35 true,qg 43 (.bin .sub (.t 42) (.c (.i .i64 1))) 35 true,qg 44 (.ia 2 (.t 41) (.t 43)) 35 true,qg 45 (.fa 1 (.t 44)) 35 true,qg 46 (.ld none (.t 45)) 35 true,qg 47 (.bin .leq (.t 40) (.t 46)) 35 true,qg 48 (.pick (.t 35) (.t 47) (.c (.b false))) 22 false,qo 49 (.pick (.t 22) (.c (.b true)) (.t 48))])
 (.cond (.t 49) (.seq (.reg false [qo 2 (.mv (.c (.b false)))])
 .ret)
 .skip)))
 (.reg false [qm 8 3,qo 9 (.bin .add (.t 8) (.c (.i .i64 1))),qm 3 9]))))))
 (.seq (.reg false [qo 2 (.mv (.c (.b true)))])
 .ret))) }
def A_xref06_Po:AFun:={ res:=[.t 2],body:=(.seq (.reg false [qo 1 (.box (.t 0)),qo 2 (.mv (.c (.nilp)))])
 (.seq (.reg false [qo 8 (.fa 1 (.t 1)),qo 9 (.ld none (.t 8)),qo 10 (.len (.t 9)),qo 11 (.call .thaw (.c (.fn 27 [] [])) [.t 10,.c (.sl [] 0 .rig)]),qm 3 11])
 (.seq (.seq (.reg false [qo 4 (.mv (.c (.i .i64 0)))])
 (.blk 0 (.loop (.seq (.seq (.reg false [qm 12 4,qm 13 3,qo 14 (.nilck (.t 13)),qo 15 (.fa 0 (.t 14)),qo 16 (.ld none (.t 15)),qo 17 (.bin .lss (.t 12) (.t 16))])
 (.cond (.t 17) .skip
 (.ext 0)))
 (.seq (.blk 1 (.seq (.reg false [qm 20 4,qo 21 (.bin .add (.t 20) (.c (.i .i64 1))),qm 5 21])
 (.blk 2 (.loop (.seq (.seq (.reg false [qm 22 5,qm 23 3,qo 24 (.nilck (.t 23)),qo 25 (.fa 0 (.t 24)),qo 26 (.ld none (.t 25)),qo 27 (.bin .lss (.t 22) (.t 26))])
 (.cond (.t 27) .skip
 (.ext 2)))
 (.seq (.blk 3 (.seq (.reg true [qo 30 (.fa 1 (.t 1)),qo 31 (.ld none (.t 30)),qm 32 4,qo 33 (.ia 6 (.t 31) (.t 32)),qo 34 (.fa 0 (.t 33)),qo 35 (.ld none (.t 34)),qo 36 (.fa 1 (.t 1)),qo 37 (.ld none (.t 36)),qm 38 5,qo 39 (.ia 6 (.t 37) (.t 38)),qo 40 (.fa 0 (.t 39)),qo 41 (.ld none (.t 40)),qm 6 35,qm 7 41])
 (.reg false [qm 42 3,qm 43 4,qm 44 5,qm 45 6,qo 46 (.bin .eql (.t 45) (.c (.i .i64 0))),qm 47 46,qg 48 (.mv (.t 7)) 47 true,qg 49 (.bin .gtr (.t 48) (.c (.i .i64 0))) 47 true,qo 50 (.pick (.t 47) (.t 49) (.c (.b false))),qm 51 50,qg 52 (.mv (.t 6)) 51 false,qg 53 (.bin .gtr (.t 52) (.c (.i .i64 0))) 51 false,qg 54 (.mv (.t 53)) 51 false,qg 55 (.mv (.t 6)) 54 true,qg 56 (.mv (.t 7)) 54 true,qg 57 (.bin .eql (.t 55) (.t 56)) 54 true,qg 58 (.pick (.t 54) (.t 57) (.c (.b false))) 51 false,qo 59 (.pick (.t 51) (.c (.b true)) (.t 58)),qo 60 (.nilck (.t 42)),qo 61 (.fa 1 (.t 60)),qo 62 (.iaa 40 40 (.t 61) (.t 43)),qo 63 (.iaa 40 1 (.t 62) (.t 44)),qn (.st 1 (.t 63) (.t 59))])))
 (.reg false [qm 28 5,qo 29 (.bin .add (.t 28) (.c (.i .i64 1))),qm 5 29])))))))
 (.reg false [qm 18 4,qo 19 (.bin .add (.t 18) (.c (.i .i64 1))),qm 4 19]))))))
 (.seq (.reg false [qm 64 3,qm 2 64])
 .ret)))) }
def A_xref06_Of:AFun:={ res:=[.t 4],body:=(.seq (.reg false [qo 2 (.box (.t 0)),qo 4 (.mv (.c (.nilp)))])
 (.seq (.reg false [qo 5 (.fa 1 (.t 2)),qo 6 (.ld none (.t 5)),qo 7 (.len (.t 6)),qm 8 1,qo 9 (.call .pure (.c (.fn 27 [] [])) [.t 7,.t 8]),qm 4 9])
 .ret)) }
def A_xref06_Kind:AFun:={ res:=[.t 8],body:=(.seq (.reg false [qo 4 (.box (.t 0)),qo 8 (.mv (.c (.nilp)))])
 (.seq (.reg false [qo 12 (.fa 1 (.t 4)),qo 13 (.ld none (.t 12)),qo 14 (.len (.t 13)),qo 15 (.call .thaw (.c (.fn 27 [] [])) [.t 14,.c (.sl [] 0 .rig)]),qm 9 15])
 (.seq (.seq (.reg false [qo 10 (.mv (.c (.i .i64 0)))])
 (.blk 0 (.loop (.seq (.seq (.reg false [qm 16 10,qm 17 9,qo 18 (.nilck (.t 17)),qo 19 (.fa 0 (.t 18)),qo 20 (.ld none (.t 19)),qo 21 (.bin .lss (.t 16) (.t 20))])
 (.cond (.t 21) .skip
 (.ext 0)))
 (.seq (.blk 1 (.seq (.reg false [qo 24 (.fa 1 (.t 4)),qo 25 (.ld none (.t 24)),qm 26 10,qo 27 (.ia 6 (.t 25) (.t 26)),qo 28 (.ld (some 6) (.t 27)),qo 11 (.new (List.replicate 5 (.i .i64 0) ++ [.b false])),qn (.st 6 (.t 11) (.t 28))])
 (.reg true [qm 29 9,qm 30 10,qm 31 10,qo 32 (.fa 1 (.t 11)),qo 33 (.ld none (.t 32)),qm 34 1,qo 35 (.bin .eql (.t 33) (.t 34)),qm 36 35,qg 37 (.fa 2 (.t 11)) 36 true,qg 38 (.ld none (.t 37)) 36 true,qg 39 (.mv (.t 2)) 36 true,qg 40 (.bin .geq (.t 38) (.t 39)) 36 true,qo 41 (.pick (.t 36) (.t 40) (.c (.b false))),qm 42 41,qg 43 (.fa 2 (.t 11)) 42 true,qg 44 (.ld none (.t 43)) 42 true,qg 45 (.mv (.t 3)) 42 true,qg 46 (.bin .leq (.t 44) (.t 45)) 42 true,qo 47 (.pick (.t 42) (.t 46) (.c (.b false))),qo 48 (.nilck (.t 29)),qo 49 (.fa 1 (.t 48)),qo 50 (.iaa 40 40 (.t 49) (.t 30)),qo 51 (.iaa 40 1 (.t 50) (.t 31)),qn (.st 1 (.t 51) (.t 47))])))
 (.reg false [qm 22 10,qo 23 (.bin .add (.t 22) (.c (.i .i64 1))),qm 10 23]))))))
 (.seq (.reg false [qm 52 9,qm 8 52])
 .ret)))) }
structure Pk_xref06 (F:Funs):Prop where
 xref06_Check:F 45 = some A_xref06_Check
 xref06_event:F 63 = some A_xref06_event
 xref06_rf:F 64 = some A_xref06_rf
 xref06_co:F 65 = some A_xref06_co
 xref06_rmw:F 66 = some A_xref06_rmw
 xref06_deps:F 67 = some A_xref06_deps
 xref06_rising:F 82 = some A_xref06_rising
 xref06_Po:F 84 = some A_xref06_Po
end Go.Ab
end
section
set_option linter.unusedVariables false
set_option linter.unusedSimpArgs false
namespace Go.Ab
variable {F:Funs}
def EvOk (locs i:Int) (p e:Ev):Prop:=
 (i < locs→e.th = 0∧e.kd = 2∧e.md = 0∧e.lc = i∧e.vl = 0∧e.ex = false) ∧
 (¬ i < locs→1≤e.th∧e.th≤4∧p.th≤e.th∧((e.kd = 1∧0≤e.lc∧e.lc < locs∧(e.md = 0∨e.md = 1))∨(e.kd = 2∧0≤e.lc∧e.lc < locs∧(e.md = 0∨e.md = 2))∨(e.kd = 3∧1≤e.md∧e.md≤4∧e.lc = 0∧e.vl = 0∧e.ex = false)))
end Go.Ab
end
section
set_option linter.unusedVariables false
set_option linter.unusedSimpArgs false
namespace Go.Ab
variable {F:Funs}
def RfOk (X:Gr) (i:Nat):Prop:=((X.evs.getD i ev0).kd≠1→X.rf.getD i 0 = -1) ∧
 ((X.evs.getD i ev0).kd = 1→0≤X.rf.getD i 0∧X.rf.getD i 0 < X.evs.length∧(X.evs.getD (X.rf.getD i 0).toNat ev0).kd = 2∧(X.evs.getD (X.rf.getD i 0).toNat ev0).lc = (X.evs.getD i ev0).lc∧(X.evs.getD (X.rf.getD i 0).toNat ev0).vl = (X.evs.getD i ev0).vl)
def isWr (loc:Int) (e:Ev):Bool:=e.kd == 2 && e.lc == loc
def cntW (X:Gr) (loc:Int) (k:Nat):Nat:=((X.evs.take k).filter (isWr loc)).length
theorem cntW_le (X:Gr) (loc:Int) (k:Nat):cntW X loc k≤k:=by
 unfold cntW
 have h1:=List.length_filter_le (isWr loc) (X.evs.take k)
 rw[List.length_take] at h1;omega
structure CoOk (X:Gr) (loc:Nat):Prop where
 wr:∀ i,i < (X.co.getD loc []).length→0≤(X.co.getD loc []).getD i 0∧(X.co.getD loc []).getD i 0 < X.evs.length∧(X.evs.getD ((X.co.getD loc []).getD i 0).toNat ev0).kd = 2∧(X.evs.getD ((X.co.getD loc []).getD i 0).toNat ev0).lc = loc
 ne:∀ i,i < (X.co.getD loc []).length→∀ k,k < i→(X.co.getD loc []).getD k 0≠(X.co.getD loc []).getD i 0
 len:(X.co.getD loc []).length = cntW X loc X.evs.length
 pos:0 < (X.co.getD loc []).length
 hd:(X.co.getD loc []).getD 0 0 = loc
end Go.Ab
end
section
namespace Go.Ab
def A_xref01_New:AFun:={ res:=[.t 4],body:=(.seq (.reg false [qo 4 (.mv (.c (.nilp)))])
 (.seq (.reg false [qm 9 0,qo 10 (.mx (.t 9) (.c (.i .i64 0))),qo 11 (.mn (.t 10) (.c (.i .i64 40))),qo 12 (.build ([.i .i64 0] ++ List.replicate 1600 (.b false)) [(0,1,.t 11)]),qo 13 (.box (.t 12)),qm 5 13])
 (.seq (.seq (.reg false [qo 6 (.mv (.c (.i .i64 0)))])
 (.blk 0 (.loop (.seq (.seq (.reg false [qm 14 6,qm 15 1,qo 16 (.len (.t 15)),qo 17 (.bin .lss (.t 14) (.t 16))])
 (.cond (.t 17) .skip
 (.ext 0)))
 (.seq (.blk 1 (.seq (.reg true [qm 20 1,qm 21 6,qo 22 (.ia 2 (.t 20) (.t 21)),qo 23 (.fa 0 (.t 22)),qo 24 (.ld none (.t 23)),qm 25 1,qm 26 6,qo 27 (.ia 2 (.t 25) (.t 26)),qo 28 (.fa 1 (.t 27)),qo 29 (.ld none (.t 28)),qm 7 24,qm 8 29])
 (.seq (.reg false [qm 30 7,qo 31 (.bin .geq (.t 30) (.c (.i .i64 0))),qm 32 31,qg 33 (.mv (.t 8)) 32 true,qg 34 (.bin .geq (.t 33) (.c (.i .i64 0))) 32 true,qo 35 (.pick (.t 32) (.t 34) (.c (.b false))),qm 36 35,qg 37 (.mv (.t 7)) 36 true,qg 38 (.mv (.t 5)) 36 true,qg 39 (.nilck (.t 38)) 36 true,qg 40 (.fa 0 (.t 39)) 36 true,qg 41 (.ld none (.t 40)) 36 true,qg 42 (.bin .lss (.t 37) (.t 41)) 36 true,qo 43 (.pick (.t 36) (.t 42) (.c (.b false))),qm 44 43,qg 45 (.mv (.t 8)) 44 true,qg 46 (.mv (.t 5)) 44 true,qg 47 (.nilck (.t 46)) 44 true,qg 48 (.fa 0 (.t 47)) 44 true,qg 49 (.ld none (.t 48)) 44 true,qg 50 (.bin .lss (.t 45) (.t 49)) 44 true,qo 51 (.pick (.t 44) (.t 50) (.c (.b false)))])
 (.cond (.t 51) (.reg false [qm 52 5,qm 53 7,qm 54 8,qo 55 (.nilck (.t 52)),qo 56 (.fa 1 (.t 55)),qo 57 (.iaa 40 40 (.t 56) (.t 53)),qo 58 (.iaa 40 1 (.t 57) (.t 54)),qn (.st 1 (.t 58) (.c (.b true)))])
 .skip))))
 (.reg false [qm 18 6,qo 19 (.bin .add (.t 18) (.c (.i .i64 1))),qm 6 19]))))))
 (.seq (.reg false [qm 59 5,qm 4 59])
 .ret)))) }
def A_xref01_R_Or:AFun:={ res:=[.t 4],body:=(.seq (.reg false [qo 4 (.mv (.c (.nilp)))])
 (.seq (.reg true [qm 8 0,qo 9 (.nilck (.t 8)),qo 10 (.fa 0 (.t 9)),qo 11 (.ld none (.t 10)),qm 12 1,qo 13 (.nilck (.t 12)),qo 14 (.fa 0 (.t 13)),qo 15 (.ld none (.t 14)),qo 16 (.mx (.t 11) (.t 15)),qo 17 (.call .thaw (.c (.fn 27 [] [])) [.t 16,.c (.sl [] 0 .rig)]),qm 5 17])
 (.seq (.seq (.reg false [qo 6 (.mv (.c (.i .i64 0)))])
 (.blk 0 (.loop (.seq (.seq (.reg false [qm 18 6,qm 19 5,qo 20 (.nilck (.t 19)),qo 21 (.fa 0 (.t 20)),qo 22 (.ld none (.t 21)),qo 23 (.bin .lss (.t 18) (.t 22))])
 (.cond (.t 23) .skip
 (.ext 0)))
 (.seq (.blk 1 (.seq (.reg false [qo 7 (.mv (.c (.i .i64 0)))])
 (.blk 2 (.loop (.seq (.seq (.reg false [qm 26 7,qm 27 5,qo 28 (.nilck (.t 27)),qo 29 (.fa 0 (.t 28)),qo 30 (.ld none (.t 29)),qo 31 (.bin .lss (.t 26) (.t 30))])
 (.cond (.t 31) .skip
 (.ext 2)))
 (.seq (.blk 3 (.reg true [qm 34 5,qm 35 6,qm 36 7,qm 37 0,qm 38 6,qm 39 7,qo 40 (.nilck (.t 37)),qo 41 (.fa 1 (.t 40)),qo 42 (.iaa 40 40 (.t 41) (.t 38)),qo 43 (.iaa 40 1 (.t 42) (.t 39)),qo 44 (.ld none (.t 43)),qm 45 44,qg 46 (.mv (.t 1)) 45 false,qg 47 (.mv (.t 6)) 45 false,qg 48 (.mv (.t 7)) 45 false,qg 49 (.nilck (.t 46)) 45 false,qg 50 (.fa 1 (.t 49)) 45 false,qg 51 (.iaa 40 40 (.t 50) (.t 47)) 45 false,qg 52 (.iaa 40 1 (.t 51) (.t 48)) 45 false,qg 53 (.ld none (.t 52)) 45 false,qo 54 (.pick (.t 45) (.c (.b true)) (.t 53)),qo 55 (.nilck (.t 34)),qo 56 (.fa 1 (.t 55)),qo 57 (.iaa 40 40 (.t 56) (.t 35)),qo 58 (.iaa 40 1 (.t 57) (.t 36)),qn (.st 1 (.t 58) (.t 54))]))
 (.reg false [qm 32 7,qo 33 (.bin .add (.t 32) (.c (.i .i64 1))),qm 7 33])))))))
 (.reg false [qm 24 6,qo 25 (.bin .add (.t 24) (.c (.i .i64 1))),qm 6 25]))))))
 (.seq (.reg false [qm 59 5,qm 4 59])
 .ret)))) }
def A_xref01_R_And:AFun:={ res:=[.t 4],body:=(.seq (.reg false [qo 4 (.mv (.c (.nilp)))])
 (.seq (.reg true [qm 8 0,qo 9 (.nilck (.t 8)),qo 10 (.fa 0 (.t 9)),qo 11 (.ld none (.t 10)),qm 12 1,qo 13 (.nilck (.t 12)),qo 14 (.fa 0 (.t 13)),qo 15 (.ld none (.t 14)),qo 16 (.mx (.t 11) (.t 15)),qo 17 (.call .thaw (.c (.fn 27 [] [])) [.t 16,.c (.sl [] 0 .rig)]),qm 5 17])
 (.seq (.seq (.reg false [qo 6 (.mv (.c (.i .i64 0)))])
 (.blk 0 (.loop (.seq (.seq (.reg false [qm 18 6,qm 19 5,qo 20 (.nilck (.t 19)),qo 21 (.fa 0 (.t 20)),qo 22 (.ld none (.t 21)),qo 23 (.bin .lss (.t 18) (.t 22))])
 (.cond (.t 23) .skip
 (.ext 0)))
 (.seq (.blk 1 (.seq (.reg false [qo 7 (.mv (.c (.i .i64 0)))])
 (.blk 2 (.loop (.seq (.seq (.reg false [qm 26 7,qm 27 5,qo 28 (.nilck (.t 27)),qo 29 (.fa 0 (.t 28)),qo 30 (.ld none (.t 29)),qo 31 (.bin .lss (.t 26) (.t 30))])
 (.cond (.t 31) .skip
 (.ext 2)))
 (.seq (.blk 3 (.reg true [qm 34 5,qm 35 6,qm 36 7,qm 37 0,qm 38 6,qm 39 7,qo 40 (.nilck (.t 37)),qo 41 (.fa 1 (.t 40)),qo 42 (.iaa 40 40 (.t 41) (.t 38)),qo 43 (.iaa 40 1 (.t 42) (.t 39)),qo 44 (.ld none (.t 43)),qm 45 44,qg 46 (.mv (.t 1)) 45 true,qg 47 (.mv (.t 6)) 45 true,qg 48 (.mv (.t 7)) 45 true,qg 49 (.nilck (.t 46)) 45 true,qg 50 (.fa 1 (.t 49)) 45 true,qg 51 (.iaa 40 40 (.t 50) (.t 47)) 45 true,qg 52 (.iaa 40 1 (.t 51) (.t 48)) 45 true,qg 53 (.ld none (.t 52)) 45 true,qo 54 (.pick (.t 45) (.t 53) (.c (.b false))),qo 55 (.nilck (.t 34)),qo 56 (.fa 1 (.t 55)),qo 57 (.iaa 40 40 (.t 56) (.t 35)),qo 58 (.iaa 40 1 (.t 57) (.t 36)),qn (.st 1 (.t 58) (.t 54))]))
 (.reg false [qm 32 7,qo 33 (.bin .add (.t 32) (.c (.i .i64 1))),qm 7 33])))))))
 (.reg false [qm 24 6,qo 25 (.bin .add (.t 24) (.c (.i .i64 1))),qm 6 25]))))))
 (.seq (.reg false [qm 59 5,qm 4 59])
 .ret)))) }
def A_xref01_R_Then:AFun:={ res:=[.t 4],body:=(.seq (.reg false [qo 4 (.mv (.c (.nilp)))])
 (.seq (.reg true [qm 9 0,qo 10 (.nilck (.t 9)),qo 11 (.fa 0 (.t 10)),qo 12 (.ld none (.t 11)),qm 13 1,qo 14 (.nilck (.t 13)),qo 15 (.fa 0 (.t 14)),qo 16 (.ld none (.t 15)),qo 17 (.mx (.t 12) (.t 16)),qo 18 (.call .thaw (.c (.fn 27 [] [])) [.t 17,.c (.sl [] 0 .rig)]),qm 5 18])
 (.seq (.seq (.reg false [qo 6 (.mv (.c (.i .i64 0)))])
 (.blk 0 (.loop (.seq (.seq (.reg false [qm 19 6,qm 20 5,qo 21 (.nilck (.t 20)),qo 22 (.fa 0 (.t 21)),qo 23 (.ld none (.t 22)),qo 24 (.bin .lss (.t 19) (.t 23))])
 (.cond (.t 24) .skip
 (.ext 0)))
 (.seq (.blk 1 (.seq (.reg false [qo 7 (.mv (.c (.i .i64 0)))])
 (.blk 2 (.loop (.seq (.seq (.reg false [qm 27 7,qm 28 5,qo 29 (.nilck (.t 28)),qo 30 (.fa 0 (.t 29)),qo 31 (.ld none (.t 30)),qo 32 (.bin .lss (.t 27) (.t 31))])
 (.cond (.t 32) .skip
 (.ext 2)))
 (.seq (.blk 3 (.seq (.reg false [qo 8 (.mv (.c (.i .i64 0)))])
 (.blk 4 (.loop (.seq (.seq (.reg false [qm 35 8,qm 36 5,qo 37 (.nilck (.t 36)),qo 38 (.fa 0 (.t 37)),qo 39 (.ld none (.t 38)),qo 40 (.bin .lss (.t 35) (.t 39)),qm 41 40,qg 42 (.mv (.t 0)) 41 true,qg 43 (.mv (.t 6)) 41 true,qg 44 (.mv (.t 7)) 41 true,qg 45 (.nilck (.t 42)) 41 true,qg 46 (.fa 1 (.t 45)) 41 true,qg 47 (.iaa 40 40 (.t 46) (.t 43)) 41 true,qg 48 (.iaa 40 1 (.t 47) (.t 44)) 41 true,qg 49 (.ld none (.t 48)) 41 true,qo 50 (.pick (.t 41) (.t 49) (.c (.b false)))])
 (.cond (.t 50) .skip
 (.ext 4)))
 (.seq (.blk 5 (.reg true [qm 53 5,qm 54 6,qm 55 8,qm 56 5,qm 57 6,qm 58 8,qo 59 (.nilck (.t 56)),qo 60 (.fa 1 (.t 59)),qo 61 (.iaa 40 40 (.t 60) (.t 57)),qo 62 (.iaa 40 1 (.t 61) (.t 58)),qo 63 (.ld none (.t 62)),qm 64 63,qg 65 (.mv (.t 1)) 64 false,qg 66 (.mv (.t 7)) 64 false,qg 67 (.mv (.t 8)) 64 false,qg 68 (.nilck (.t 65)) 64 false,qg 69 (.fa 1 (.t 68)) 64 false,qg 70 (.iaa 40 40 (.t 69) (.t 66)) 64 false,qg 71 (.iaa 40 1 (.t 70) (.t 67)) 64 false,qg 72 (.ld none (.t 71)) 64 false,qo 73 (.pick (.t 64) (.c (.b true)) (.t 72)),qo 74 (.nilck (.t 53)),qo 75 (.fa 1 (.t 74)),qo 76 (.iaa 40 40 (.t 75) (.t 54)),qo 77 (.iaa 40 1 (.t 76) (.t 55)),qn (.st 1 (.t 77) (.t 73))]))
 (.reg false [qm 51 8,qo 52 (.bin .add (.t 51) (.c (.i .i64 1))),qm 8 52])))))))
 (.reg false [qm 33 7,qo 34 (.bin .add (.t 33) (.c (.i .i64 1))),qm 7 34])))))))
 (.reg false [qm 25 6,qo 26 (.bin .add (.t 25) (.c (.i .i64 1))),qm 6 26]))))))
 (.seq (.reg false [qm 78 5,qm 4 78])
 .ret)))) }
def A_xref01_R_Back:AFun:={ res:=[.t 2],body:=(.seq (.reg false [qo 2 (.mv (.c (.nilp)))])
 (.seq (.reg false [qm 6 0,qo 7 (.nilck (.t 6)),qo 8 (.fa 0 (.t 7)),qo 9 (.ld none (.t 8)),qo 10 (.call .thaw (.c (.fn 27 [] [])) [.t 9,.c (.sl [] 0 .rig)]),qm 3 10])
 (.seq (.seq (.reg false [qo 4 (.mv (.c (.i .i64 0)))])
 (.blk 0 (.loop (.seq (.seq (.reg false [qm 11 4,qm 12 3,qo 13 (.nilck (.t 12)),qo 14 (.fa 0 (.t 13)),qo 15 (.ld none (.t 14)),qo 16 (.bin .lss (.t 11) (.t 15))])
 (.cond (.t 16) .skip
 (.ext 0)))
 (.seq (.blk 1 (.seq (.reg false [qo 5 (.mv (.c (.i .i64 0)))])
 (.blk 2 (.loop (.seq (.seq (.reg false [qm 19 5,qm 20 3,qo 21 (.nilck (.t 20)),qo 22 (.fa 0 (.t 21)),qo 23 (.ld none (.t 22)),qo 24 (.bin .lss (.t 19) (.t 23))])
 (.cond (.t 24) .skip
 (.ext 2)))
 (.seq (.blk 3 (.reg true [qm 27 3,qm 28 5,qm 29 4,qm 30 0,qm 31 4,qm 32 5,qo 33 (.nilck (.t 30)),qo 34 (.fa 1 (.t 33)),qo 35 (.iaa 40 40 (.t 34) (.t 31)),qo 36 (.iaa 40 1 (.t 35) (.t 32)),qo 37 (.ld none (.t 36)),qo 38 (.nilck (.t 27)),qo 39 (.fa 1 (.t 38)),qo 40 (.iaa 40 40 (.t 39) (.t 28)),qo 41 (.iaa 40 1 (.t 40) (.t 29)),qn (.st 1 (.t 41) (.t 37))]))
 (.reg false [qm 25 5,qo 26 (.bin .add (.t 25) (.c (.i .i64 1))),qm 5 26])))))))
 (.reg false [qm 17 4,qo 18 (.bin .add (.t 17) (.c (.i .i64 1))),qm 4 18]))))))
 (.seq (.reg false [qm 42 3,qm 2 42])
 .ret)))) }
def A_xref01_R_Plus:AFun:={ res:=[.t 2],body:=(.seq (.reg false [qo 2 (.mv (.c (.nilp)))])
 (.seq (.reg false [qm 7 0,qo 8 (.nilck (.t 7)),qo 9 (.fa 0 (.t 8)),qo 10 (.ld none (.t 9)),qo 11 (.call .thaw (.c (.fn 27 [] [])) [.t 10,.c (.sl [] 0 .rig)]),qm 3 11])
 (.seq (.reg false [qm 12 3,qm 13 0,qo 14 (.nilck (.t 13)),qo 15 (.fa 1 (.t 14)),qo 16 (.ld (some 1600) (.t 15)),qo 17 (.nilck (.t 12)),qo 18 (.fa 1 (.t 17)),qn (.st 1600 (.t 18) (.t 16))])
 (.seq (.seq (.reg false [qo 4 (.mv (.c (.i .i64 0)))])
 (.blk 0 (.loop (.seq (.seq (.reg false [qm 19 4,qm 20 3,qo 21 (.nilck (.t 20)),qo 22 (.fa 0 (.t 21)),qo 23 (.ld none (.t 22)),qo 24 (.bin .lss (.t 19) (.t 23))])
 (.cond (.t 24) .skip
 (.ext 0)))
 (.seq (.blk 1 (.seq (.reg false [qo 5 (.mv (.c (.i .i64 0)))])
 (.blk 2 (.loop (.seq (.seq (.reg false [qm 27 5,qm 28 3,qo 29 (.nilck (.t 28)),qo 30 (.fa 0 (.t 29)),qo 31 (.ld none (.t 30)),qo 32 (.bin .lss (.t 27) (.t 31))])
 (.cond (.t 32) .skip
 (.ext 2)))
 (.seq (.blk 3 (.seq (.reg false [qo 6 (.mv (.c (.i .i64 0)))])
 (.blk 4 (.loop (.seq (.seq (.reg false [qm 35 6,qm 36 3,qo 37 (.nilck (.t 36)),qo 38 (.fa 0 (.t 37)),qo 39 (.ld none (.t 38)),qo 40 (.bin .lss (.t 35) (.t 39)),qm 41 40,qg 42 (.mv (.t 3)) 41 true,qg 43 (.mv (.t 5)) 41 true,qg 44 (.mv (.t 4)) 41 true,qg 45 (.nilck (.t 42)) 41 true,qg 46 (.fa 1 (.t 45)) 41 true,qg 47 (.iaa 40 40 (.t 46) (.t 43)) 41 true,qg 48 (.iaa 40 1 (.t 47) (.t 44)) 41 true,qg 49 (.ld none (.t 48)) 41 true,qo 50 (.pick (.t 41) (.t 49) (.c (.b false)))])
 (.cond (.t 50) .skip
 (.ext 4)))
 (.seq (.blk 5 (.reg true [qm 53 3,qm 54 5,qm 55 6,qm 56 3,qm 57 5,qm 58 6,qo 59 (.nilck (.t 56)),qo 60 (.fa 1 (.t 59)),qo 61 (.iaa 40 40 (.t 60) (.t 57)),qo 62 (.iaa 40 1 (.t 61) (.t 58)),qo 63 (.ld none (.t 62)),qm 64 63,qg 65 (.mv (.t 3)) 64 false,qg 66 (.mv (.t 4)) 64 false,qg 67 (.mv (.t 6)) 64 false,qg 68 (.nilck (.t 65)) 64 false,qg 69 (.fa 1 (.t 68)) 64 false,qg 70 (.iaa 40 40 (.t 69) (.t 66)) 64 false,qg 71 (.iaa 40 1 (.t 70) (.t 67)) 64 false,qg 72 (.ld none (.t 71)) 64 false,qo 73 (.pick (.t 64) (.c (.b true)) (.t 72)),qo 74 (.nilck (.t 53)),qo 75 (.fa 1 (.t 74)),qo 76 (.iaa 40 40 (.t 75) (.t 54)),qo 77 (.iaa 40 1 (.t 76) (.t 55)),qn (.st 1 (.t 77) (.t 73))]))
 (.reg false [qm 51 6,qo 52 (.bin .add (.t 51) (.c (.i .i64 1))),qm 6 52])))))))
 (.reg false [qm 33 5,qo 34 (.bin .add (.t 33) (.c (.i .i64 1))),qm 5 34])))))))
 (.reg false [qm 25 4,qo 26 (.bin .add (.t 25) (.c (.i .i64 1))),qm 4 26]))))))
 (.seq (.reg false [qm 78 3,qm 2 78])
 .ret))))) }
def A_xref01_R_Maybe:AFun:={ res:=[.t 2],body:=(.seq (.reg false [qo 2 (.mv (.c (.nilp)))])
 (.seq (.reg false [qm 5 0,qo 6 (.nilck (.t 5)),qo 7 (.fa 0 (.t 6)),qo 8 (.ld none (.t 7)),qo 9 (.call .thaw (.c (.fn 27 [] [])) [.t 8,.c (.sl [] 0 .rig)]),qm 3 9])
 (.seq (.reg false [qm 10 3,qm 11 0,qo 12 (.nilck (.t 11)),qo 13 (.fa 1 (.t 12)),qo 14 (.ld (some 1600) (.t 13)),qo 15 (.nilck (.t 10)),qo 16 (.fa 1 (.t 15)),qn (.st 1600 (.t 16) (.t 14))])
 (.seq (.seq (.reg false [qo 4 (.mv (.c (.i .i64 0)))])
 (.blk 0 (.loop (.seq (.seq (.reg false [qm 17 4,qm 18 3,qo 19 (.nilck (.t 18)),qo 20 (.fa 0 (.t 19)),qo 21 (.ld none (.t 20)),qo 22 (.bin .lss (.t 17) (.t 21))])
 (.cond (.t 22) .skip
 (.ext 0)))
 (.seq (.blk 1 (.reg false [qm 25 3,qm 26 4,qm 27 4,qo 28 (.nilck (.t 25)),qo 29 (.fa 1 (.t 28)),qo 30 (.iaa 40 40 (.t 29) (.t 26)),qo 31 (.iaa 40 1 (.t 30) (.t 27)),qn (.st 1 (.t 31) (.c (.b true)))]))
 (.reg false [qm 23 4,qo 24 (.bin .add (.t 23) (.c (.i .i64 1))),qm 4 24]))))))
 (.seq (.reg false [qm 32 3,qm 2 32])
 .ret))))) }
def A_xref01_SamePairs:AFun:={ res:=[.t 4],body:=(.seq (.reg false [qo 4 (.mv (.c (.b false)))])
 (.seq (.seq (.reg false [qm 6 0,qo 7 (.len (.t 6)),qm 8 1,qo 9 (.len (.t 8)),qo 10 (.bin .neq (.t 7) (.t 9))])
 (.cond (.t 10) (.seq (.reg false [qo 4 (.mv (.c (.b false)))])
 .ret)
 .skip))
 (.seq (.seq (.reg false [qo 5 (.mv (.c (.i .i64 0)))])
 (.blk 0 (.loop (.seq (.seq (.reg false [qm 11 5,qm 12 0,qo 13 (.len (.t 12)),qo 14 (.bin .lss (.t 11) (.t 13))])
 (.cond (.t 14) .skip
 (.ext 0)))
 (.seq (.blk 1 (.seq (.reg true [qm 17 0,qm 18 5,qo 19 (.ia 2 (.t 17) (.t 18)),qo 20 (.fa 0 (.t 19)),qo 21 (.ld none (.t 20)),qm 22 1,qm 23 5,qo 24 (.ia 2 (.t 22) (.t 23)),qo 25 (.fa 0 (.t 24)),qo 26 (.ld none (.t 25)),qo 27 (.bin .neq (.t 21) (.t 26)),qm 28 27,qg 29 (.mv (.t 0)) 28 false,qg 30 (.mv (.t 5)) 28 false,qg 31 (.ia 2 (.t 29) (.t 30)) 28 false,qg 32 (.fa 1 (.t 31)) 28 false,qg 33 (.ld none (.t 32)) 28 false,qg 34 (.mv (.t 1)) 28 false,qg 35 (.mv (.t 5)) 28 false,qg 36 (.ia 2 (.t 34) (.t 35)) 28 false,qg 37 (.fa 1 (.t 36)) 28 false,qg 38 (.ld none (.t 37)) 28 false,qg 39 (.bin .neq (.t 33) (.t 38)) 28 false,qo 40 (.pick (.t 28) (.c (.b true)) (.t 39))])
 (.cond (.t 40) (.seq (.reg false [qo 4 (.mv (.c (.b false)))])
 .ret)
 .skip)))
 (.reg false [qm 15 5,qo 16 (.bin .add (.t 15) (.c (.i .i64 1))),qm 5 16]))))))
 (.seq (.reg false [qo 4 (.mv (.c (.b true)))])
 .ret)))) }
def A_xref01_R_Pairs:AFun:={ res:=[.t 2],body:=(.seq (.reg false [qo 2 (.mv (.c (.sl [] 0 .rig)))])
 (.seq (.reg false [qo 3 (.mv (.c (.sl [] 0 .rig)))])
 (.seq (.seq (.reg false [qo 4 (.mv (.c (.i .i64 0)))])
 (.blk 0 (.loop (.seq (.seq (.reg false [qm 6 4,qm 7 0,qo 8 (.nilck (.t 7)),qo 9 (.fa 0 (.t 8)),qo 10 (.ld none (.t 9)),qo 11 (.bin .lss (.t 6) (.t 10))])
 (.cond (.t 11) .skip
 (.ext 0)))
 (.seq (.blk 1 (.seq (.reg false [qo 5 (.mv (.c (.i .i64 0)))])
 (.blk 2 (.loop (.seq (.seq (.reg false [qm 14 5,qm 15 0,qo 16 (.nilck (.t 15)),qo 17 (.fa 0 (.t 16)),qo 18 (.ld none (.t 17)),qo 19 (.bin .lss (.t 14) (.t 18))])
 (.cond (.t 19) .skip
 (.ext 2)))
 (.seq (.blk 3 (.seq (.reg false [qm 22 0,qm 23 4,qm 24 5,qo 25 (.nilck (.t 22)),qo 26 (.fa 1 (.t 25)),qo 27 (.iaa 40 40 (.t 26) (.t 23)),qo 28 (.iaa 40 1 (.t 27) (.t 24)),qo 29 (.ld none (.t 28))])
 (.cond (.t 29) (.reg false [qm 30 3,qm 31 4,qm 32 5,qo 33 (.build ([.i .i64 0,.i .i64 0]) [(0,1,.t 31),(1,1,.t 32)]),qo 34 (.bsl true 1 ([.i .i64 0,.i .i64 0]) [(0,2,.t 33)]),qo 35 (.app 2 16 (.t 30) (.t 34)),qm 3 35])
 .skip)))
 (.reg false [qm 20 5,qo 21 (.bin .add (.t 20) (.c (.i .i64 1))),qm 5 21])))))))
 (.reg false [qm 12 4,qo 13 (.bin .add (.t 12) (.c (.i .i64 1))),qm 4 13]))))))
 (.seq (.reg false [qm 36 3,qm 2 36])
 .ret)))) }
def A_xref01_R_Star:AFun:={ res:=[.t 2],body:=(.seq (.reg false [qo 2 (.mv (.c (.nilp)))])
 (.seq (.reg false [qm 3 0,qo 4 (.call .pure (.c (.fn 34 [] [])) [.t 3]),qo 5 (.call .pure (.c (.fn 35 [] [])) [.t 4]),qm 2 5])
 .ret)) }
structure Pk_xref01 (F:Funs):Prop where
 xref01_New:F 27 = some A_xref01_New
 xref01_R_Or:F 29 = some A_xref01_R_Or
 xref01_R_And:F 30 = some A_xref01_R_And
 xref01_R_Then:F 32 = some A_xref01_R_Then
 xref01_R_Back:F 33 = some A_xref01_R_Back
 xref01_R_Plus:F 34 = some A_xref01_R_Plus
 xref01_R_Maybe:F 35 = some A_xref01_R_Maybe
 xref01_SamePairs:F 55 = some A_xref01_SamePairs
 xref01_R_Pairs:F 56 = some A_xref01_R_Pairs
end Go.Ab
end
section
set_option linter.unusedVariables false
set_option linter.unusedSimpArgs false
namespace Go.Ab
abbrev Mx:=Nat→Nat→Bool
def matR (M:Mx):List AV:=(List.range 1600).map fun i => .b (M (i / 40) (i % 40))
def matC (n:Nat) (M:Mx):List AV:=.i .i64 n :: matR M
theorem matR_len (M:Mx):(matR M).length = 1600:=by simp[matR]
theorem matC_len (n:Nat) (M:Mx):(matC n M).length = 1601:=by simp[matC,matR_len]
theorem matR_get {M:Mx} {a b:Nat} (ha:a < 40) (hb:b < 40):(matR M)[a * 40 + b]? = some (.b (M a b)):=by
 have h:a * 40 + b < 1600:=by omega
 simp only[matR,List.getElem?_map,List.getElem?_range h,Option.map_some]
 rw[show (a * 40 + b) / 40 = a by omega,show (a * 40 + b) % 40 = b by omega]
theorem matC_n (n:Nat) (M:Mx):part (matC n M) 0 none = some (.i .i64 n):=rfl
theorem matC_drop1 (n:Nat) (M:Mx):(matC n M).drop 1 = matR M:=rfl
theorem matC_at {n:Nat} {M:Mx} {a b:Nat} (h:a < 40∧b < 40):part (matC n M) (0 + 1 + a * 40 + b * 1) none = some (.b (M a b)):=by
 rw[show 0 + 1 + a * 40 + b * 1 = (a * 40 + b) + 1 by omega]
 simp only[part,matC,List.getElem?_cons_succ,matR_get h.1 h.2]
theorem matR_at {M:Mx} {a b:Nat} (h:a < 40∧b < 40):part (((matR M).drop (a * 40)).drop (b * 1)) 0 none = some (.b (M a b)):=by
 simp only[part,List.getElem?_drop,Nat.mul_one,Nat.add_zero,matR_get h.1 h.2]
def upd2 (M:Mx) (a b:Nat) (x:Bool):Mx:=fun i j => if i = a∧j = b then x else M i j
theorem matC_set {n:Nat} {M:Mx} {a b:Nat} {x:Bool} (h:a < 40∧b < 40):(matC n M).set (0 + 1 + a * 40 + b * 1) (.b x) = matC n (upd2 M a b x):=by
 rw[show 0 + 1 + a * 40 + b * 1 = (a * 40 + b) + 1 by omega]
 simp only[matC,List.set_cons_succ]
 refine congrArg (List.cons _) ?_
 refine List.ext_getElem? fun i => ?_
 rw[List.getElem?_set,matR_len]
 by_cases hi:i < 1600
 ·have e1:(matR M)[i]? = some (.b (M (i / 40) (i % 40))):=by simp[matR,hi]
  have e2:(matR (upd2 M a b x))[i]? = some (.b (upd2 M a b x (i / 40) (i % 40))):=by simp[matR,hi]
  rw[e1,e2]
  by_cases hab:a * 40 + b = i
  ·rw[if_pos hab,if_pos (by omega)]
   unfold upd2
   rw[if_pos (by omega)]
  ·rw[if_neg hab]
   unfold upd2
   rw[if_neg (by omega)]
 ·have e1:(matR M)[i]? = none:=by rw[List.getElem?_eq_none];rw[matR_len];omega
  have e2:(matR (upd2 M a b x))[i]? = none:=by rw[List.getElem?_eq_none];rw[matR_len];omega
  rw[e1,e2,if_neg (by omega)]
theorem matC_flat (n:Nat) (M:Mx):(matC n M).all flat = true:=by simp[matC,matR,flat]
theorem matC_one (n:Nat) (M:Mx):(matC n M).all one = true:=by simp[matC,matR,one]
theorem matR_one (M:Mx):(matR M).all one = true:=by simp[matR,one]
theorem part_matR (M:Mx):part (matR M) 0 (some 1600) = some (.agg (matR M)):=by
 simp[part,matR_len]
 rw[List.take_of_length_le (by rw[matR_len];omega)]
theorem splice_mat (n:Nat) (M M':Mx):splice (matC n M) 1 (matR M') = matC n M':=by
 have h:∀ (vs:List AV) (a:AV) (cs:List AV),2≤vs.length→vs.length = cs.length→splice (a :: cs) 1 vs = a :: vs:=by
  intro vs a cs h2 h
  match vs,h2 with
  | u :: v :: vs,_ =>
    show List.take 1 (a :: cs) ++ (u :: v :: vs) ++ List.drop (1 + (u :: v :: vs).length) (a :: cs) = _
    rw[List.drop_eq_nil_of_le (by simp at h ⊢;omega)]
    simp
 exact h _ _ _ (by rw[matR_len];omega) (by rw[matR_len,matR_len])
theorem zero_mat (n:Nat):AV.i .i64 n :: List.replicate 1600 (.b false) = matC n (fun _ _ => false):=by
 unfold matC matR
 refine congrArg (List.cons _) ?_
 refine List.ext_getElem? fun i => ?_
 by_cases hi:i < 1600
 ·rw[List.getElem?_replicate,if_pos hi,List.getElem?_map,List.getElem?_range hi];rfl
 ·rw[List.getElem?_eq_none (by rw[List.length_replicate];omega),List.getElem?_eq_none (by rw[List.length_map,List.length_range];omega)]
theorem ml:type_of% (And.intro (And.intro (And.intro @matC_n (And.intro @matC_at @matR_at)) (And.intro (And.intro @matC_drop1 @matC_len) (And.intro @matR_len @matC_one))) (And.intro (And.intro (And.intro @matR_one @matC_flat) (And.intro @part_matR @splice_mat)) (And.intro (And.intro @matC_set @retT_nrm) (And.intro @retT_ret @o_thaw)))):=(And.intro (And.intro (And.intro @matC_n (And.intro @matC_at @matR_at)) (And.intro (And.intro @matC_drop1 @matC_len) (And.intro @matR_len @matC_one))) (And.intro (And.intro (And.intro @matR_one @matC_flat) (And.intro @part_matR @splice_mat)) (And.intro (And.intro @matC_set @retT_nrm) (And.intro @retT_ret @o_thaw))))
end Go.Ab
end
section
set_option linter.unusedVariables false
set_option linter.unusedSimpArgs false
namespace Go.Ab
variable {F:Funs}
theorem pairs_a:∀ {l:List (Int × Int)} {k:Nat} (h:k < l.length),part ((pairsC l).drop (k * 2)) 0 none = some (.i .i64 (l.getD k (0,0)).1)
 | p :: l,0,_ => by simp[pairsC,part]
 | p :: l,k + 1,h => by
   have:=pairs_a (l:=l) (k:=k) (by simpa using h)
   simp only[List.getD_cons_succ]
   rw[←this]
   simp[pairsC,Nat.succ_mul]
theorem pairs_b:∀ {l:List (Int × Int)} {k:Nat} (h:k < l.length),part (((pairsC l).drop (k * 2)).drop 1) 0 none = some (.i .i64 (l.getD k (0,0)).2)
 | p :: l,0,_ => by simp[pairsC,part]
 | p :: l,k + 1,h => by
   have:=pairs_b (l:=l) (k:=k) (by simpa using h)
   simp only[List.getD_cons_succ]
   rw[←this]
   simp[pairsC,Nat.succ_mul]
def addM (n:Nat) (M:Mx) (p:Int × Int):Mx:=if inR n p then upd2 M p.1.toNat p.2.toNat true else M
def newM (n:Nat) (l:List (Int × Int)):Mx:=l.foldl (addM n) (fun _ _ => false)
theorem newM_take {n:Nat} {l:List (Int × Int)} {k:Nat} (h:k < l.length):newM n (l.take (k + 1)) = addM n (newM n (l.take k)) (l.getD k (0,0)):=by
 unfold newM
 rw[List.take_add_one,List.foldl_append,List.getElem?_eq_getElem h,List.getD_eq_getElem?_getD,List.getElem?_eq_getElem h]
 rfl
theorem new_W (n:Int) (l:List (Int × Int)) (t:Tok) (hlen:l.length < 9000000000000000000):W F A_xref01_New.body (argEnv [.i .i64 n,.sl (pairsC l) l.length t]) g0 (retT A_xref01_New.res (matC (clamp n) (newM (clamp n) l))):=by
 have c1:(if (40:Int) < (if n < 0 then (0:Int) else n) then (40:Int) else (if n < 0 then (0:Int) else n)) = clamp n:=by unfold clamp;split<;>split<;>omega
 have hcl:=clamp_le n
 simp (disch:=omega) only[A_xref01_New,wp,qa,qb,qc,c1,List.all_append,List.all_replicate,zero_mat,ml]
 generalize clamp n = N at hcl
 refine W_loop (fun m e g => ∃ k,m = l.length - k∧k≤l.length∧e 1 = .sl (pairsC l) l.length t∧e 6 = .i .i64 k∧e 5 = .mp 5 0∧g.hp 5 = some (.cells (matC N (newM N (l.take k))) false)∧5 < g.nx) l.length ?_ ?_
 ·refine ⟨0,rfl,Nat.zero_le _,?_⟩
  simp (disch:=omega) only[wp,qa,qb,qc]
  exact ⟨rfl,rfl,by omega⟩
 ·rintro m e g ⟨k,rfl,hk,h1,h6,h5,hg,hn⟩
  by_cases hk':k < l.length
  ·have hk1:(k:Int) < l.length:=by omega
   have hpa:=pairs_a hk'
   have hpb:=pairs_b hk'
   have hw:=succ_wrap (k:=k) (by omega)
   have ht:=newM_take (n:=N) hk'
   generalize l.getD k (0,0) = p at hpa hpb ht
   obtain ⟨a,b⟩:=p
   by_cases i1:0≤a
   ·by_cases i2:0≤b
    ·by_cases i3:a < N
     ·by_cases i4:b < N
      ·have hset:=matC_set (n:=N) (M:=newM N (l.take k)) (a:=a.toNat) (b:=b.toNat) (x:=true) (by omega)
       simp (disch:=omega) only[wp,qa,qb,qc,h1,h5,h6,hk1,hpa,hpb,hg,i1,i2,i3,i4,hw,ml,List.length_drop,pairsC_len,hset]
       refine ⟨_,?_,k + 1,rfl,by omega,rfl,?_,by first | omega | (dsimp only;omega)⟩
       ·omega
       ·rw[ht];simp[addM,inR,i1,i2,i3,i4]
      ·simp (disch:=omega) only[wp,qa,qb,qc,h1,h5,h6,hk1,hpa,hpb,hg,i1,i2,i3,i4,hw,ml,List.length_drop,pairsC_len]
       refine ⟨_,?_,k + 1,rfl,by omega,rfl,?_,by first | omega | (dsimp only;omega)⟩
       ·omega
       ·rw[ht];simp[addM,inR,i4]
     ·simp (disch:=omega) only[wp,qa,qb,qc,h1,h5,h6,hk1,hpa,hpb,hg,i1,i2,i3,hw,ml,List.length_drop,pairsC_len]
      refine ⟨_,?_,k + 1,rfl,by omega,rfl,?_,by first | omega | (dsimp only;omega)⟩
      ·omega
      ·rw[ht];simp[addM,inR,i3]
    ·simp (disch:=omega) only[wp,qa,qb,qc,h1,h5,h6,hk1,hpa,hpb,hg,i1,i2,hw,ml,List.length_drop,pairsC_len]
     refine ⟨_,?_,k + 1,rfl,by omega,rfl,?_,by first | omega | (dsimp only;omega)⟩
     ·omega
     ·rw[ht];simp[addM,inR,i2]
   ·simp (disch:=omega) only[wp,qa,qb,qc,h1,h5,h6,hk1,hpa,hpb,hg,i1,hw,ml,List.length_drop,pairsC_len]
    refine ⟨_,?_,k + 1,rfl,by omega,rfl,?_,by first | omega | (dsimp only;omega)⟩
    ·omega
    ·rw[ht];simp[addM,inR,i1]
  ·obtain rfl:k = l.length:=by omega
   have hk1:¬ ((l.length:Int) < l.length):=by omega
   simp (disch:=omega) only[wp,qa,qb,qc,h1,h5,h6,hk1,hg,retT_ret,List.take_length]
   exact ⟨5,rfl,hg.trans (by rw[List.take_length])⟩
theorem sp_newM (h27:F 27 = some A_xref01_New) (n:Int) (l:List (Int × Int)) (t:Tok) (hlen:l.length < 9000000000000000000):pureS F 27 [.i .i64 n,.sl (pairsC l) l.length t] = some (.ptr (matC (clamp n) (newM (clamp n) l))):=
 pure_of_thaw h27 (matC_flat _ _) (new_W n l t hlen)
theorem sp_newT (h27:F 27 = some A_xref01_New) {n:Nat} (hn:n≤40) (t:Tok):thawS F 27 [.i .i64 n,.sl [] 0 t] = some (matC n fun _ _ => false):=by
 have:=thaw_of h27 (matC_flat _ _) (new_W (F:=F) (n:Int) [] t (by simp))
 rw[show clamp (n:Int) = n by unfold clamp;omega] at this
 exact this
end Go.Ab
end
section
set_option linter.unusedVariables false
set_option linter.unusedSimpArgs false
namespace Go.Ab
variable {F:Funs}
def lessP (p q:Int × Int):Prop:=p.1 < q.1∨(p.1 = q.1∧p.2 < q.2)
def Rising (l:List (Int × Int)):Prop:=∀ i,i + 1 < l.length→lessP (l.getD i (0,0)) (l.getD (i + 1) (0,0))
def DepOk (X:Gr) (p:Int × Int):Prop:=0≤p.1∧p.1 < p.2∧p.2 < X.evs.length∧(X.evs.getD p.1.toNat ev0).kd = 1∧(X.evs.getD p.1.toNat ev0).th = (X.evs.getD p.2.toNat ev0).th
def DepsOk (X:Gr) (l:List (Int × Int)):Prop:=(∀ i,i < l.length→DepOk X (l.getD i (0,0)))∧Rising l
end Go.Ab
end
section
set_option linter.unusedVariables false
set_option linter.unusedSimpArgs false
namespace Go.Ab
variable {F:Funs}
def inB (i:Nat) (p:Int × Int):Bool:=p.1 == (i:Int) || p.2 == (i:Int)
def inC (l:List (Int × Int)) (i:Nat):Nat:=(l.filter (inB i)).length
def PairOk (X:Gr) (p:Int × Int):Prop:=0≤p.1∧p.1 < X.evs.length - 1∧p.2 = p.1 + 1∧(X.evs.getD p.1.toNat ev0).th = (X.evs.getD p.2.toNat ev0).th∧(X.evs.getD p.1.toNat ev0).kd = 1∧(X.evs.getD p.2.toNat ev0).kd = 2∧(X.evs.getD p.1.toNat ev0).lc = (X.evs.getD p.2.toNat ev0).lc∧(X.evs.getD p.1.toNat ev0).ex = true∧(X.evs.getD p.2.toNat ev0).ex = true
structure RmwOk (X:Gr):Prop where
 pairs:∀ j,j < X.rmw.length→PairOk X (X.rmw.getD j (0,0))
 once:∀ i,i < X.evs.length→inC X.rmw i≤1∧(X.evs.getD i ev0).ex = ((inC X.rmw i:Int) == 1)
 rise:Rising X.rmw
end Go.Ab
end
section
set_option linter.unusedVariables false
set_option linter.unusedSimpArgs false
namespace Go.Ab
variable {F:Funs}
structure GraphOk (X:Gr):Prop where
 locs1:1≤X.locs
 locs4:X.locs≤4
 nl:X.locs≤X.evs.length
 n40:X.evs.length≤40
 rfl:X.rf.length = X.evs.length
 col:(X.co.length:Int) = X.locs
 ev:∀ i,i < X.evs.length→EvOk X.locs i (X.evs.getD (i - 1) ev0) (X.evs.getD i ev0)
 rf:∀ i,i < X.evs.length→RfOk X i
 co:∀ i,i < X.co.length→CoOk X i
 rmw:RmwOk X
 data:DepsOk X X.data
 ctrl:DepsOk X X.ctrl
 ctrli:DepsOk X X.ctrli
end Go.Ab
end
section
set_option linter.unusedVariables false
set_option linter.unusedSimpArgs false
namespace Go.Ab
instance (p q:Int × Int):Decidable (lessP p q):=by unfold lessP;infer_instance
theorem lessP_trans {p q r:Int × Int} (h:lessP p q) (k:lessP q r):lessP p r:=by unfold lessP at *;omega
theorem lessP_tot {p q:Int × Int} (h:¬ lessP p q) (n:p≠q):lessP q p:=by
 unfold lessP at *
 have:¬ (p.1 = q.1∧p.2 = q.2):=fun h => n (Prod.ext h.1 h.2)
 omega
def Up (l:List Int):Prop:=l.Pairwise (· < ·)
def putI:List Int→Int→List Int
 | [],v => [v]
 | a :: l,v => if a < v then a :: putI l v else if a = v then a :: l else v :: a :: l
theorem putI_eq:∀ {l:List Int} {v:Int} {k:Nat},k≤l.length→(∀ j,j < k→l.getD j 0 < v)→(k < l.length→v < l.getD k 0)→putI l v = l.take k ++ v :: l.drop k
 | [],v,k,hk,_,_ => by
   obtain rfl:k = 0:=by simpa using hk
   rfl
 | a :: l,v,0,_,_,h => by
   have h1:v < a:=by simpa using h (by simp)
   simp only[putI,List.take_zero,List.drop_zero,List.nil_append]
   rw[if_neg (by omega),if_neg (by omega)]
 | a :: l,v,k + 1,hk,h,h2 => by
   have h1:a < v:=by simpa using h 0 (by omega)
   simp only[putI,List.take_succ_cons,List.drop_succ_cons,List.cons_append]
   rw[if_pos h1,putI_eq (by simpa using hk) (fun j hj => by simpa using h (j + 1) (by omega)) (fun hl => by simpa using h2 (by simpa using hl))]
theorem putI_has:∀ {l:List Int} {v:Int} {k:Nat},k < l.length→(∀ j,j < k→l.getD j 0 < v)→l.getD k 0 = v→putI l v = l
 | [],v,k,hk,_,_ => by simp at hk
 | a :: l,v,0,_,_,h => by
   have h1:a = v:=by simpa using h
   simp only[putI]
   rw[if_neg (by omega),if_pos h1]
 | a :: l,v,k + 1,hk,h,h2 => by
   have h1:a < v:=by simpa using h 0 (by omega)
   simp only[putI]
   rw[if_pos h1,putI_has (by simpa using hk) (fun j hj => by simpa using h (j + 1) (by omega)) (by simpa using h2)]
theorem putI_mem:∀ {l:List Int} {v x:Int},x∈putI l v↔x∈l∨x = v
 | [],v,x => by simp[putI]
 | a :: l,v,x => by
   unfold putI
   split
   ·simp[putI_mem,or_assoc]
   ·split
    ·rename_i h1 h2
     subst h2
     simp only[List.mem_cons]
     refine ⟨fun h => .inl h,fun h => ?_⟩
     rcases h with h | h
     ·exact h
     ·exact .inl h
    ·simp only[List.mem_cons]
     refine ⟨fun h => ?_,fun h => ?_⟩
     ·rcases h with h | h | h
      ·exact .inr h
      ·exact .inl (.inl h)
      ·exact .inl (.inr h)
     ·rcases h with (h | h) | h
      ·exact .inr (.inl h)
      ·exact .inr (.inr h)
      ·exact .inl h
theorem putI_up:∀ {l:List Int} {v:Int},Up l→Up (putI l v)
 | [],v,_ => by simp[putI,Up]
 | a :: l,v,h => by
   obtain ⟨h1,h2⟩:=List.pairwise_cons.1 h
   unfold putI
   split
   ·rename_i hv
    refine List.pairwise_cons.2 ⟨fun x hx => ?_,putI_up h2⟩
    rcases putI_mem.1 hx with hx | hx
    ·exact h1 x hx
    ·omega
   ·split
    ·exact h
    ·rename_i hv hn
     refine List.pairwise_cons.2 ⟨fun x hx => ?_,h⟩
     rcases List.mem_cons.1 hx with rfl | hx
     ·omega
     ·have:=h1 x hx;omega
def bothI (a b:List Int):List Int:=b.foldl putI a
theorem bothI_mem:∀ {b a:List Int} {x:Int},x∈bothI a b↔x∈a∨x∈b
 | [],a,x => by simp[bothI]
 | v :: b,a,x => by
   show x∈bothI (putI a v) b↔_
   rw[bothI_mem,putI_mem,List.mem_cons,or_assoc]
theorem bothI_up:∀ {b a:List Int},Up a→Up (bothI a b)
 | [],a,h => h
 | v :: b,a,h => bothI_up (b:=b) (putI_up h)
theorem up_len:∀ {l:List Int} {lo hi:Int},Up l→(∀ r∈l,lo≤r∧r < hi)→l.length≤(hi - lo).toNat
 | [],_,_,_,_ => Nat.zero_le _
 | a :: l,lo,hi,h,hb => by
   obtain ⟨h1,h2⟩:=List.pairwise_cons.1 h
   have ha:=hb a (List.mem_cons_self ..)
   have:=up_len (lo:=a + 1) (hi:=hi) h2 fun r hr => ⟨by have:=h1 r hr;omega,(hb r (List.mem_cons_of_mem _ hr)).2⟩
   simp only[List.length_cons]
   omega
def insP:List (Int × Int)→Int × Int→List (Int × Int)
 | [],p => [p]
 | q :: l,p => if lessP q p then q :: insP l p else p :: q :: l
theorem insP_eq:∀ {l:List (Int × Int)} {p:Int × Int} {k:Nat},k≤l.length→(∀ j,j < k→lessP (l.getD j (0,0)) p)→(k < l.length→¬ lessP (l.getD k (0,0)) p)→insP l p = l.take k ++ p :: l.drop k
 | [],p,k,hk,_,_ => by
   obtain rfl:k = 0:=by simpa using hk
   rfl
 | a :: l,p,0,_,_,h => by
   have h1:¬ lessP a p:=by simpa using h (by simp)
   simp only[insP,List.take_zero,List.drop_zero,List.nil_append]
   rw[if_neg h1]
 | a :: l,p,k + 1,hk,h,h2 => by
   have h1:lessP a p:=by simpa using h 0 (by omega)
   simp only[insP,List.take_succ_cons,List.drop_succ_cons,List.cons_append]
   rw[if_pos h1,insP_eq (by simpa using hk) (fun j hj => by simpa using h (j + 1) (by omega)) (fun hl => by simpa using h2 (by simpa using hl))]
theorem insP_mem:∀ {l:List (Int × Int)} {p x:Int × Int},x∈insP l p↔x∈l∨x = p
 | [],p,x => by simp[insP]
 | a :: l,p,x => by
   unfold insP
   split
   ·simp[insP_mem,or_assoc]
   ·simp only[List.mem_cons]
    refine ⟨fun h => ?_,fun h => ?_⟩
    ·rcases h with h | h | h
     ·exact .inr h
     ·exact .inl (.inl h)
     ·exact .inl (.inr h)
    ·rcases h with (h | h) | h
     ·exact .inr (.inl h)
     ·exact .inr (.inr h)
     ·exact .inl h
theorem insP_len:∀ {l:List (Int × Int)} {p:Int × Int},(insP l p).length = l.length + 1
 | [],p => rfl
 | a :: l,p => by
   unfold insP
   split
   ·simp[insP_len]
   ·simp
theorem insP_pw:∀ {l:List (Int × Int)} {p:Int × Int},l.Pairwise lessP→p ∉ l→(insP l p).Pairwise lessP
 | [],p,_,_ => by simp[insP]
 | a :: l,p,h,hn => by
   obtain ⟨h1,h2⟩:=List.pairwise_cons.1 h
   unfold insP
   split
   ·rename_i hv
    refine List.pairwise_cons.2 ⟨fun x hx => ?_,insP_pw h2 fun hm => hn (List.mem_cons_of_mem _ hm)⟩
    rcases insP_mem.1 hx with hx | rfl
    ·exact h1 x hx
    ·exact hv
   ·rename_i hv
    have hpa:lessP p a:=lessP_tot hv fun h => hn (by rw[h];exact List.mem_cons_self ..)
    refine List.pairwise_cons.2 ⟨fun x hx => ?_,h⟩
    rcases List.mem_cons.1 hx with rfl | hx
    ·exact hpa
    ·exact lessP_trans hpa (h1 x hx)
def pairsI (l:List (Int × Int)) (rs:List Int) (b:Int):List (Int × Int):=rs.foldl (fun l r => insP l (r,b)) l
theorem pairsI_mem:∀ {rs:List Int} {l:List (Int × Int)} {b:Int} {x:Int × Int},x∈pairsI l rs b↔x∈l∨(x.2 = b∧x.1∈rs)
 | [],l,b,x => by simp[pairsI]
 | r :: rs,l,b,x => by
   show x∈pairsI (insP l (r,b)) rs b↔_
   rw[pairsI_mem,insP_mem,List.mem_cons]
   have he:x = (r,b)↔x.1 = r∧x.2 = b:=by rw[Prod.ext_iff]
   rw[he]
   refine ⟨fun h => ?_,fun h => ?_⟩
   ·rcases h with (h | ⟨h1,h2⟩) | ⟨h1,h2⟩
    ·exact .inl h
    ·exact .inr ⟨h2,.inl h1⟩
    ·exact .inr ⟨h1,.inr h2⟩
   ·rcases h with h | ⟨h1,h2 | h2⟩
    ·exact .inl (.inl h)
    ·exact .inl (.inr ⟨h2,h1⟩)
    ·exact .inr ⟨h1,h2⟩
theorem pairsI_len:∀ {rs:List Int} {l:List (Int × Int)} {b:Int},(pairsI l rs b).length = l.length + rs.length
 | [],l,b => rfl
 | r :: rs,l,b => by
   show (pairsI (insP l (r,b)) rs b).length = _
   rw[pairsI_len,insP_len,List.length_cons]
   omega
theorem pairsI_pw:∀ {rs:List Int} {l:List (Int × Int)} {b:Int},l.Pairwise lessP→(∀ r∈rs,(r,b) ∉ l)→rs.Nodup→(pairsI l rs b).Pairwise lessP
 | [],l,b,h,_,_ => h
 | r :: rs,l,b,h,hn,hd => by
   obtain ⟨d1,d2⟩:=List.nodup_cons.1 hd
   show (pairsI (insP l (r,b)) rs b).Pairwise lessP
   refine pairsI_pw (insP_pw h (hn r (List.mem_cons_self ..))) (fun r' hr' hm => ?_) d2
   rcases insP_mem.1 hm with hm | hm
   ·exact hn r' (List.mem_cons_of_mem _ hr') hm
   ·have:r' = r:=congrArg Prod.fst hm
    subst this
    exact d1 hr'
theorem Up.nodup {l:List Int} (h:Up l):l.Nodup:=List.Pairwise.imp (fun {a b} (hab:a < b) => (by omega:a≠b)) h
structure RS where
 evs:List Ev
 rmw:List (Int × Int)
 data:List (Int × Int)
 ctrl:List (Int × Int)
 used:Nat
 regs:List Int
 frm:List (List Int)
 now:List Int
 short:Bool
def rs0:RS:=⟨[],[],[],[],0,List.replicate 8 0,List.replicate 8 [],[],false⟩
def evR (s:RS) (e:Ev) (dl:List Int):RS:={ s with evs:=s.evs ++ [e],data:=pairsI s.data dl s.evs.length,ctrl:=pairsI s.ctrl s.now s.evs.length }
def rdR (s:RS) (reads:List Int) (loc mode:Int) (ex:Bool) (reg:Nat):RS:=
 if reads.length≤s.used then { s with short:=true } else
  let s1:=evR { s with used:=s.used + 1 } ⟨0,1,mode,loc,reads.getD s.used 0,ex⟩ []
  { s1 with regs:=s1.regs.set reg (reads.getD s.used 0),frm:=s1.frm.set reg [(s.evs.length:Int)] }
def wrR (s:RS) (loc mode:Int) (ex:Bool) (v:Int) (dl:List Int):RS:=
 let s1:=evR s ⟨0,2,mode,loc,v,ex⟩ dl
 if ex then { s1 with rmw:=s1.rmw ++ [((s.evs.length:Int) - 1,(s.evs.length:Int))] } else s1
def exR (ex:List (Int × Int)):List Nat:=match ex with
 | (2,a) :: _ => [a.toNat]
 | _ => []
def ofR (s:RS) (ex:List (Int × Int)):List Int:=(exR ex).foldl (fun l r => bothI l (s.frm.getD r [])) []
def faR (s:RS) (reads:List Int) (loc md md2:Int) (reg:Nat) (from_:List Int) (add:Int):RS:=
 let s1:=rdR s reads loc md true reg
 if reads.length≤s.used then s1 else wrR s1 loc md2 true (IntKind.i64.wrap (s1.regs.getD reg 0 + add)) (bothI from_ (s1.frm.getD reg []))
def stR (V:List (Int × Int)→List Int→Int) (reads:List Int) (s:RS) (x:Ins):RS:=
 if x.kd = 1 then rdR s reads x.lc x.md false x.rg.toNat
 else if x.kd = 2 then wrR s x.lc x.md false (V x.ex s.regs) (ofR s x.ex)
 else if x.kd = 3 then evR s ⟨0,3,x.md,0,0,false⟩ []
 else if x.kd = 4 then faR s reads x.lc x.md x.md2 x.rg.toNat (ofR s x.ex) (V x.ex s.regs)
 else if x.kd = 5 then { s with regs:=s.regs.set x.rg.toNat (V x.ex s.regs),frm:=s.frm.set x.rg.toNat (ofR s x.ex) }
 else { s with now:=bothI s.now (ofR s x.ex) }
def skR (V:List (Int × Int)→List Int→Int) (s:RS) (x:Ins):Nat:=if x.kd = 6∧V x.ex s.regs≠0 then x.n.toNat else 0
def runR (V:List (Int × Int)→List Int→Int) (reads:List Int) (th:List Ins):Nat→Nat→RS→RS
 | 0,_,s => s
 | f + 1,k,s => if k < th.length∧s.short = false then runR V reads th f (k + skR V s (th.getD k fence0) + 1) (stR V reads s (th.getD k fence0)) else s
def doR (V:List (Int × Int)→List Int→Int) (th:List Ins) (reads:List Int):RS:=runR V reads th th.length 0 rs0
theorem evR_used (s e dl):(evR s e dl).used = s.used:=rfl
theorem wrR_used (s loc mode ex v dl):(wrR s loc mode ex v dl).used = s.used:=by unfold wrR;dsimp only;split<;>rfl
theorem wrR_short (s loc mode ex v dl):(wrR s loc mode ex v dl).short = s.short:=by unfold wrR;dsimp only;split<;>rfl
theorem rdR_used (s reads loc mode ex reg):(rdR s reads loc mode ex reg).used = if reads.length≤s.used then s.used else s.used + 1:=by
 unfold rdR;split<;>rfl
theorem stR_used (V reads s x):s.used≤(stR V reads s x).used∧(stR V reads s x).used≤s.used + 1∧(s.used≤reads.length→(stR V reads s x).used≤reads.length):=by
 unfold stR
 split
 ·rw[rdR_used];split<;>omega
 split
 ·rw[wrR_used];omega
 split
 ·rw[evR_used];omega
 split
 ·unfold faR
  dsimp only
  split
  ·rw[rdR_used];split<;>omega
  ·rw[wrR_used,rdR_used];split<;>omega
 split
 ·exact ⟨Nat.le_refl _,Nat.le_succ _,id⟩
 ·exact ⟨Nat.le_refl _,Nat.le_succ _,id⟩
theorem runR_used (V reads th):∀ f k s,s.used≤(runR V reads th f k s).used∧(runR V reads th f k s).used≤s.used + f∧(s.used≤reads.length→(runR V reads th f k s).used≤reads.length)
 | 0,k,s => ⟨Nat.le_refl _,Nat.le_refl _,id⟩
 | f + 1,k,s => by
   unfold runR
   split
   ·have h1:=stR_used V reads s (th.getD k fence0)
    have h2:=runR_used V reads th f (k + skR V s (th.getD k fence0) + 1) (stR V reads s (th.getD k fence0))
    omega
   ·omega
theorem stR_short {V reads s x} (h:s.short = false) (hs:(stR V reads s x).short = true):reads.length≤s.used∧(x.kd = 1∨x.kd = 4):=by
 unfold stR at hs
 split at hs
 ·rename_i hk
  unfold rdR at hs
  split at hs
  ·exact ⟨by assumption,.inl hk⟩
  ·rw[show (_:RS).short = s.short from rfl,h] at hs;cases hs
 split at hs
 ·rw[wrR_short,h] at hs;cases hs
 split at hs
 ·rw[show (evR _ _ _).short = s.short from rfl,h] at hs;cases hs
 split at hs
 ·rename_i hk
  unfold faR at hs
  dsimp only at hs
  split at hs
  ·exact ⟨by assumption,.inr hk⟩
  ·rename_i hu
   rw[wrR_short] at hs
   unfold rdR at hs
   rw[if_neg hu] at hs
   rw[show (_:RS).short = s.short from rfl,h] at hs;cases hs
 split at hs
 ·rw[show (_:RS).short = s.short from rfl,h] at hs;cases hs
 ·rw[show (_:RS).short = s.short from rfl,h] at hs;cases hs
theorem stR_more {V h x s i} (hs:s.short = false) (hn:(stR V h s i).short = false) (hu:s.used≤h.length):stR V (h ++ [x]) s i = stR V h s i:=by
 have key:(i.kd = 1∨i.kd = 4)→s.used < h.length:=by
  intro hk
  by_cases hc:h.length≤s.used
  ·exfalso
   unfold stR at hn
   rcases hk with hk | hk
   ·rw[if_pos hk] at hn
    unfold rdR at hn
    rw[if_pos hc] at hn
    cases hn
   ·rw[if_neg (by omega),if_neg (by omega),if_neg (by omega),if_pos hk] at hn
    unfold faR rdR at hn
    simp only[if_pos hc] at hn
    cases hn
  ·omega
 have rd:(i.kd = 1∨i.kd = 4)→∀ loc mode ex reg,rdR s (h ++ [x]) loc mode ex reg = rdR s h loc mode ex reg:=by
  intro hk loc mode ex reg
  have hlt:=key hk
  unfold rdR
  rw[if_neg (by simp;omega),if_neg (by omega)]
  have:(h ++ [x]).getD s.used 0 = h.getD s.used 0:=by simp[List.getD,List.getElem?_append_left hlt]
  rw[this]
 unfold stR
 split
 ·rename_i hk;exact rd (.inl hk) _ _ _ _
 split
 ·rfl
 split
 ·rfl
 split
 ·rename_i hk
  have hlt:=key (.inr hk)
  unfold faR
  rw[rd (.inr hk)]
  dsimp only
  rw[if_neg (by simp;omega),if_neg (by omega)]
 split
 ·rfl
 ·rfl
theorem runR_end {V reads th f k s} (h:s.short = true):runR V reads th f k s = s:=by
 cases f with
 | zero => rfl
 | succ f => unfold runR;rw[if_neg (by simp[h])]
theorem runR_more {V h x th}:∀ f k s,s.short = false→s.used≤h.length→(runR V h th f k s).short = true→(runR V (h ++ [x]) th f k s).used = h.length + 1
 | 0,k,s,hs,_,hn => by rw[show runR V h th 0 k s = s from rfl,hs] at hn;cases hn
 | f + 1,k,s,hs,hu,hn => by
   unfold runR at hn ⊢
   split at hn
   ·rename_i hk
    rw[if_pos hk]
    cases hb:(stR V h s (th.getD k fence0)).short with
    | false =>
      rw[stR_more hs hb hu]
      exact runR_more f _ _ hb ((stR_used V h s (th.getD k fence0)).2.2 hu) hn
    | true =>
      obtain ⟨h1,h2⟩:=stR_short hs hb
      have h3:(stR V (h ++ [x]) s (th.getD k fence0)).used = h.length + 1:=by
       unfold stR
       rcases h2 with h2 | h2
       ·rw[if_pos h2,rdR_used,if_neg (by simp;omega)];omega
       ·rw[if_neg (by omega),if_neg (by omega),if_neg (by omega),if_pos h2]
        unfold faR
        dsimp only
        rw[if_neg (by simp;omega),wrR_used,rdR_used,if_neg (by simp;omega)]
        omega
      have h4:=runR_used V (h ++ [x]) th f (k + skR V s (th.getD k fence0) + 1) (stR V (h ++ [x]) s (th.getD k fence0))
      rw[h3] at h4
      have h5:=h4.2.2 (by simp)
      rw[List.length_append,List.length_singleton] at h5
      omega
   ·rw[hs] at hn;cases hn
theorem doR_more {V th h x} (hs:(doR V th h).short = true):(doR V th (h ++ [x])).used = h.length + 1:=runR_more _ _ _ rfl (Nat.zero_le _) hs
theorem runR_far {V reads th}:∀ f k s,s.short = false→(runR V reads th f k s).short = true→reads.length < s.used + f
 | 0,k,s,hs,hn => by rw[show runR V reads th 0 k s = s from rfl,hs] at hn;cases hn
 | f + 1,k,s,hs,hn => by
   unfold runR at hn
   split at hn
   ·cases hb:(stR V reads s (th.getD k fence0)).short with
    | true => have:=(stR_short hs hb).1;omega
    | false =>
      have:=runR_far f _ _ hb hn
      have h1:=stR_used V reads s (th.getD k fence0)
      omega
   ·rw[hs] at hn;cases hn
theorem runR_fuel {V reads th}:∀ f f' k s,th.length≤k + f→th.length≤k + f'→runR V reads th f k s = runR V reads th f' k s
 | 0,0,k,s,_,_ => rfl
 | 0,f' + 1,k,s,h,_ => by
   show s = _
   unfold runR
   rw[if_neg (by omega)]
 | f + 1,0,k,s,_,h => by
   show _ = s
   unfold runR
   rw[if_neg (by omega)]
 | f + 1,f' + 1,k,s,h,h' => by
   unfold runR
   split
   ·exact runR_fuel f f' _ _ (by omega) (by omega)
   ·rfl
theorem doR_far {V th h} (hs:(doR V th h).short = true):h.length < th.length:=by
 have:=runR_far (V:=V) (reads:=h) (th:=th) th.length 0 rs0 rfl hs
 simpa [rs0] using this
end Go.Ab
end
section
set_option linter.unusedVariables false
set_option linter.unusedSimpArgs false
namespace Go.Ab
def EvT (e:Ev):Prop:=e.th = 0∧((e.kd = 1∧(e.lc = 0∨e.lc = 1)∧(e.md = 0∨e.md = 1))∨(e.kd = 2∧(e.lc = 0∨e.lc = 1)∧(e.md = 0∨e.md = 2))∨(e.kd = 3∧1≤e.md∧e.md≤4∧e.lc = 0∧e.vl = 0∧e.ex = false))
def RdL (es:List Ev) (l:List Int):Prop:=(∀ r∈l,0≤r∧r < es.length∧(es.getD r.toNat ev0).kd = 1)∧Up l
def DpL (es:List Ev) (l:List (Int × Int)):Prop:=(∀ p∈l,0≤p.1∧p.1 < p.2∧p.2 < es.length∧(es.getD p.1.toNat ev0).kd = 1∧(es.getD p.1.toNat ev0).th = (es.getD p.2.toNat ev0).th)∧l.Pairwise lessP
def RmP (es:List Ev) (p:Int × Int):Prop:=0≤p.1∧p.2 = p.1 + 1∧p.2 < es.length∧(es.getD p.1.toNat ev0).th = (es.getD p.2.toNat ev0).th∧(es.getD p.1.toNat ev0).kd = 1∧(es.getD p.2.toNat ev0).kd = 2∧(es.getD p.1.toNat ev0).lc = (es.getD p.2.toNat ev0).lc∧(es.getD p.1.toNat ev0).ex = true∧(es.getD p.2.toNat ev0).ex = true
structure RmL (es:List Ev) (l:List (Int × Int)):Prop where
 pairs:∀ p∈l,RmP es p
 once:∀ i,i < es.length→inC l i≤1∧(es.getD i ev0).ex = ((inC l i:Int) == 1)
 rise:l.Pairwise lessP
 len:l.length≤es.length
theorem getD_l {es:List Ev} {x:List Ev} {i:Nat} (h:i < es.length):(es ++ x).getD i ev0 = es.getD i ev0:=by
 simp[List.getD,List.getElem?_append_left h]
theorem getD_r {es:List Ev} {x:List Ev} {i:Nat}:(es ++ x).getD (es.length + i) ev0 = x.getD i ev0:=by
 simp[List.getD,List.getElem?_append_right]
theorem RdL.mono {es x l} (h:RdL es l):RdL (es ++ x) l:=by
 refine ⟨fun r hr => ?_,h.2⟩
 obtain ⟨h0,h1,h2⟩:=h.1 r hr
 refine ⟨h0,by rw[List.length_append];omega,?_⟩
 rw[getD_l (by omega)];exact h2
theorem DpL.mono {es x l} (h:DpL es l):DpL (es ++ x) l:=by
 refine ⟨fun p hp => ?_,h.2⟩
 obtain ⟨h0,h1,h2,h3,h4⟩:=h.1 p hp
 refine ⟨h0,h1,by rw[List.length_append];omega,?_,?_⟩
 ·rw[getD_l (by omega)];exact h3
 ·rw[getD_l (by omega),getD_l (by omega)];exact h4
theorem RmP.mono {es x p} (h:RmP es p):RmP (es ++ x) p:=by
 obtain ⟨h0,h1,h2,h3⟩:=h
 refine ⟨h0,h1,by rw[List.length_append];omega,?_⟩
 rw[getD_l (by omega),getD_l (by omega)];exact h3
theorem inC_app (a b:List (Int × Int)) (i:Nat):inC (a ++ b) i = inC a i + inC b i:=by simp[inC]
theorem inC_zero {l:List (Int × Int)} {i:Nat} (h:∀ p∈l,p.1≠(i:Int)∧p.2≠(i:Int)):inC l i = 0:=by
 unfold inC
 rw[List.length_eq_zero_iff,List.filter_eq_nil_iff]
 intro p hp
 have:=h p hp
 simp[inB,this.1,this.2]
theorem DpL.pairs {es:List Ev} {l:List (Int × Int)} {rs:List Int} {e:Ev} (h:DpL es l) (hr:RdL es rs) (ht:∀ x∈es,x.th = e.th):DpL (es ++ [e]) (pairsI l rs es.length):=by
 refine ⟨fun p hp => ?_,pairsI_pw h.2 (fun r hr' hm => ?_) hr.2.nodup⟩
 ·rcases pairsI_mem.1 hp with hp | ⟨hp2,hp1⟩
  ·exact (h.mono (x:=[e])).1 p hp
  ·obtain ⟨h0,h1,h2⟩:=hr.1 _ hp1
   refine ⟨h0,by omega,by rw[List.length_append];simp;omega,?_,?_⟩
   ·rw[getD_l (by omega)];exact h2
   ·rw[getD_l (by omega),hp2,show ((es.length:Int)).toNat = es.length + 0 by simp,getD_r]
    have:es.getD p.1.toNat ev0∈es:=by
     rw[List.getD_eq_getElem?_getD,List.getElem?_eq_getElem (by omega)]
     exact List.getElem_mem _
    exact ht _ this
 ·have:=h.1 _ hm
  simp only at this
  omega
theorem RmL.one {es l} {e:Ev} (h:RmL es l) (he:e.ex = false):RmL (es ++ [e]) l:=by
 refine ⟨fun p hp => (h.pairs p hp).mono,fun i hi => ?_,h.rise,by have:=h.len;rw[List.length_append];omega⟩
 by_cases c:i < es.length
 ·rw[getD_l c];exact h.once i c
 ·obtain rfl:i = es.length:=by rw[List.length_append] at hi;simp at hi;omega
  have hz:inC l es.length = 0:=inC_zero fun p hp => by
   obtain ⟨h0,h1,h2,_⟩:=h.pairs p hp
   omega
  rw[hz]
  refine ⟨by omega,?_⟩
  have:(es ++ [e]).getD es.length ev0 = e:=by have:=getD_r (es:=es) (x:=[e]) (i:=0);rw[Nat.add_zero] at this;rw[this];rfl
  rw[this,he]
  rfl
theorem RmL.two {es l} {r w:Ev} (h:RmL es l) (h1:r.th = w.th) (h2:r.kd = 1) (h3:w.kd = 2) (h4:r.lc = w.lc) (h5:r.ex = true) (h6:w.ex = true):RmL (es ++ [r] ++ [w]) (l ++ [((es.length:Int),(es.length:Int) + 1)]):=by
 have er:(es ++ [r] ++ [w]).getD es.length ev0 = r:=by
  rw[List.append_assoc];simp
 have ew:(es ++ [r] ++ [w]).getD (es.length + 1) ev0 = w:=by
  rw[List.append_assoc];simp
 have hlen:(es ++ [r] ++ [w]).length = es.length + 2:=by simp
 refine ⟨fun p hp => ?_,fun i hi => ?_,?_,?_⟩
 ·rcases List.mem_append.1 hp with hp | hp
  ·rw[List.append_assoc];exact (h.pairs p hp).mono
  ·obtain rfl:p = ((es.length:Int),(es.length:Int) + 1):=by simpa using hp
   have e1:((es.length:Int)).toNat = es.length:=by omega
   have e2:((es.length:Int) + 1).toNat = es.length + 1:=by omega
   refine ⟨by simp,rfl,by rw[hlen];simp,?_⟩
   simp only[e1,e2,er,ew]
   exact ⟨h1,h2,h3,h4,h5,h6⟩
 ·rw[inC_app]
  rw[hlen] at hi
  by_cases c:i < es.length
  ·have hz:inC [((es.length:Int),(es.length:Int) + 1)] i = 0:=inC_zero fun p hp => by
    obtain rfl:p = ((es.length:Int),(es.length:Int) + 1):=by simpa using hp
    simp only;omega
   rw[hz,List.append_assoc,getD_l c]
   exact h.once i c
  ·have hz:inC l i = 0:=inC_zero fun p hp => by
    obtain ⟨h0,h1,h2,_⟩:=h.pairs p hp
    omega
   rw[hz]
   by_cases c2:i = es.length
   ·subst c2
    rw[er,h5]
    simp[inC,inB]
   ·obtain rfl:i = es.length + 1:=by omega
    rw[ew,h6]
    simp[inC,inB]
 ·refine List.pairwise_append.2 ⟨h.rise,by simp,fun p hp q hq => ?_⟩
  obtain rfl:q = ((es.length:Int),(es.length:Int) + 1):=by simpa using hq
  obtain ⟨h0,h1,h2,_⟩:=h.pairs p hp
  unfold lessP
  simp only
  omega
 ·have:=h.len
  simp
  omega
structure RIn0 (s:RS):Prop where
 ev:∀ e∈s.evs,EvT e
 data:DpL s.evs s.data
 ctrl:DpL s.evs s.ctrl
 frm:∀ l∈s.frm,RdL s.evs l
 now:RdL s.evs s.now
 f8:s.frm.length = 8
 r8:s.regs.length = 8
 dl:s.data.length≤s.evs.length * s.evs.length
 cl:s.ctrl.length≤s.evs.length * s.evs.length
structure RInv (s:RS):Prop where
 b:RIn0 s
 rmw:RmL s.evs s.rmw
theorem RdL.len {es l} (h:RdL es l):l.length≤es.length:=by
 have:=up_len (lo:=0) (hi:=es.length) h.2 fun r hr => ⟨(h.1 r hr).1,(h.1 r hr).2.1⟩
 omega
theorem rdL_nil (es):RdL es []:=⟨fun r hr => absurd hr (List.not_mem_nil),List.Pairwise.nil⟩
theorem RIn0.ev1 {s:RS} {e:Ev} {dl:List Int} (h:RIn0 s) (he:EvT e) (hd:RdL s.evs dl):RIn0 (evR s e dl):=by
 have hth:∀ x∈s.evs,x.th = e.th:=fun x hx => by rw[(h.ev x hx).1,he.1]
 have hq:∀ a m:Nat,a≤m * m→∀ b,b≤m→a + b≤(m + 1) * (m + 1):=by
  intro a m h1 b h2
  have:(m + 1) * (m + 1) = m * m + m + m + 1:=by rw[Nat.add_mul,Nat.mul_add];omega
  omega
 refine ⟨fun x hx => ?_,h.data.pairs hd hth,h.ctrl.pairs h.now hth,fun l hl => (h.frm l hl).mono,h.now.mono,h.f8,h.r8,?_,?_⟩
 ·rcases List.mem_append.1 hx with hx | hx
  ·exact h.ev x hx
  ·obtain rfl:x = e:=by simpa using hx
   exact he
 ·show (pairsI _ _ _).length≤(s.evs ++ [e]).length * (s.evs ++ [e]).length
  rw[pairsI_len,List.length_append,List.length_singleton]
  exact hq _ _ h.dl _ hd.len
 ·show (pairsI _ _ _).length≤(s.evs ++ [e]).length * (s.evs ++ [e]).length
  rw[pairsI_len,List.length_append,List.length_singleton]
  exact hq _ _ h.cl _ h.now.len
theorem RdL.both {es a b} (ha:RdL es a) (hb:RdL es b):RdL es (bothI a b):=by
 refine ⟨fun r hr => ?_,bothI_up ha.2⟩
 rcases bothI_mem.1 hr with h | h
 ·exact ha.1 r h
 ·exact hb.1 r h
theorem RIn0.at {s:RS} (h:RIn0 s) (r:Nat):RdL s.evs (s.frm.getD r []):=by
 by_cases c:r < s.frm.length
 ·refine h.frm _ ?_
  rw[List.getD_eq_getElem?_getD,List.getElem?_eq_getElem c]
  exact List.getElem_mem c
 ·rw[List.getD_eq_getElem?_getD,List.getElem?_eq_none (by omega)]
  exact rdL_nil _
theorem RIn0.of {s:RS} (h:RIn0 s) (ex):RdL s.evs (ofR s ex):=by
 unfold ofR exR
 split
 ·exact (rdL_nil _).both (h.at _)
 ·exact rdL_nil _
theorem mem_set {α:Type} {l:List α} {i:Nat} {a x:α} (h:x∈l.set i a):x∈l∨x = a:=List.mem_or_eq_of_mem_set h
theorem RIn0.rd {s:RS} (h:RIn0 s) {reads:List Int} {loc mode:Int} {ex:Bool} {reg:Nat} (hl:loc = 0∨loc = 1) (hm:mode = 0∨mode = 1):RIn0 (rdR s reads loc mode ex reg):=by
 unfold rdR
 split
 ·exact ⟨h.ev,h.data,h.ctrl,h.frm,h.now,h.f8,h.r8,h.dl,h.cl⟩
 ·have h1:RIn0 (evR { s with used:=s.used + 1 } ⟨0,1,mode,loc,reads.getD s.used 0,ex⟩ []):=
   RIn0.ev1 (s:={ s with used:=s.used + 1 }) ⟨h.ev,h.data,h.ctrl,h.frm,h.now,h.f8,h.r8,h.dl,h.cl⟩ ⟨rfl,.inl ⟨rfl,hl,hm⟩⟩ (rdL_nil _)
  refine ⟨h1.ev,h1.data,h1.ctrl,fun l hl => ?_,h1.now,by simpa using h1.f8,by simpa using h1.r8,h1.dl,h1.cl⟩
  rcases mem_set hl with hl | rfl
  ·exact h1.frm l hl
  ·refine ⟨fun r hr => ?_,by simp[Up]⟩
   obtain rfl:r = (s.evs.length:Int):=by simpa using hr
   refine ⟨by omega,?_,?_⟩
   ·show _ < (((s.evs ++ [_]).length:Nat):Int)
    simp;omega
   ·show ((s.evs ++ [_]).getD _ ev0).kd = 1
    have:=getD_r (es:=s.evs) (x:=[⟨0,1,mode,loc,reads.getD s.used 0,ex⟩]) (i:=0)
    simp only[Nat.add_zero] at this
    rw[show ((s.evs.length:Int)).toNat = s.evs.length by omega,this]
    rfl
theorem RIn0.wr {s:RS} (h:RIn0 s) {loc mode:Int} {ex:Bool} {v:Int} {dl:List Int} (hl:loc = 0∨loc = 1) (hm:mode = 0∨mode = 2) (hd:RdL s.evs dl):RIn0 (wrR s loc mode ex v dl):=by
 have h1:RIn0 (evR s ⟨0,2,mode,loc,v,ex⟩ dl):=h.ev1 ⟨rfl,.inr (.inl ⟨rfl,hl,hm⟩)⟩ hd
 unfold wrR
 dsimp only
 split
 ·exact ⟨h1.ev,h1.data,h1.ctrl,h1.frm,h1.now,h1.f8,h1.r8,h1.dl,h1.cl⟩
 ·exact h1
theorem RInv.st {s:RS} (h:RInv s) {V reads x} {left:Int} (hx:InsK left x):RInv (stR V reads s x):=by
 unfold stR
 cases hx with
 | ld md rg lc h1 h2 h3 =>
   rw[if_pos rfl]
   refine ⟨h.b.rd h3 h1,?_⟩
   unfold rdR
   split
   ·exact h.rmw
   ·exact h.rmw.one (e:=⟨0,1,md,lc,reads.getD s.used 0,false⟩) rfl
 | st md lc ex h1 h3 he =>
   rw[if_neg (by simp),if_pos rfl]
   exact ⟨h.b.wr h3 h1 (h.b.of ex),h.rmw.one (e:=⟨0,2,md,lc,V ex s.regs,false⟩) rfl⟩
 | fe md h1 =>
   rw[if_neg (by simp),if_neg (by simp),if_pos rfl]
   exact ⟨h.b.ev1 ⟨rfl,.inr (.inr ⟨rfl,by simp only;omega,by simp only;omega,rfl,rfl,rfl⟩)⟩ (rdL_nil _),h.rmw.one rfl⟩
 | fa md md2 rg lc c h1 h4 h2 h3 h5 =>
   rw[if_neg (by simp),if_neg (by simp),if_neg (by simp),if_pos rfl]
   have hr:=h.b.rd (reads:=reads) (ex:=true) (reg:=rg.toNat) h3 h1
   unfold faR
   dsimp only
   split
   ·rename_i hc
    refine ⟨hr,?_⟩
    unfold rdR
    rw[if_pos hc]
    exact h.rmw
   ·rename_i hc
    have hof:RdL (rdR s reads lc md true rg.toNat).evs (ofR s [(1,c)]):=by
     show RdL _ []
     exact rdL_nil _
    refine ⟨hr.wr h3 h4 (hof.both (hr.at _)),?_⟩
    have he:(rdR s reads lc md true rg.toNat).evs = s.evs ++ [⟨0,1,md,lc,reads.getD s.used 0,true⟩]:=by
     unfold rdR;rw[if_neg hc];rfl
    have hm:(rdR s reads lc md true rg.toNat).rmw = s.rmw:=by
     unfold rdR;rw[if_neg hc];rfl
    generalize rdR s reads lc md true rg.toNat = s1 at he hm
    unfold wrR evR
    dsimp only
    rw[if_pos rfl]
    dsimp only
    rw[he,hm]
    have hn:(((s.evs ++ [(⟨0,1,md,lc,reads.getD s.used 0,true⟩:Ev)]).length:Nat):Int) - 1 = (s.evs.length:Int):=by simp
    have hn2:(((s.evs ++ [(⟨0,1,md,lc,reads.getD s.used 0,true⟩:Ev)]).length:Nat):Int) = (s.evs.length:Int) + 1:=by simp
    rw[hn,hn2]
    exact h.rmw.two rfl rfl rfl rfl rfl rfl
 | se rg ex h2 he =>
   rw[if_neg (by simp),if_neg (by simp),if_neg (by simp),if_neg (by simp),if_pos rfl]
   refine ⟨⟨h.b.ev,h.b.data,h.b.ctrl,fun l hl => ?_,h.b.now,by simpa using h.b.f8,by simpa using h.b.r8,h.b.dl,h.b.cl⟩,h.rmw⟩
   rcases mem_set hl with hl | rfl
   ·exact h.b.frm l hl
   ·exact h.b.of ex
 | sk ex n he h0 h1 =>
   rw[if_neg (by simp),if_neg (by simp),if_neg (by simp),if_neg (by simp),if_neg (by simp)]
   exact ⟨⟨h.b.ev,h.b.data,h.b.ctrl,h.b.frm,h.b.now.both (h.b.of ex),h.b.f8,h.b.r8,h.b.dl,h.b.cl⟩,h.rmw⟩
theorem stR_evs (V reads s x):(stR V reads s x).evs.length≤s.evs.length + 2:=by
 have rd:∀ loc mode ex reg,(rdR s reads loc mode ex reg).evs.length≤s.evs.length + 1:=by
  intro loc mode ex reg
  unfold rdR
  split
  ·exact Nat.le_succ _
  ·show (s.evs ++ [_]).length≤_;simp
 have wr:∀ s:RS,∀ loc mode ex v dl,(wrR s loc mode ex v dl).evs.length = s.evs.length + 1:=by
  intro s loc mode ex v dl
  unfold wrR
  dsimp only
  split<;>(show (s.evs ++ [_]).length = _;simp)
 unfold stR
 split
 ·have:=rd x.lc x.md false x.rg.toNat;omega
 split
 ·rw[wr];omega
 split
 ·show (s.evs ++ [_]).length≤_;simp
 split
 ·unfold faR
  dsimp only
  have:=rd x.lc x.md true x.rg.toNat
  split
  ·omega
  ·rw[wr];omega
 split
 ·exact Nat.le_add_right _ _
 ·exact Nat.le_add_right _ _
theorem RInv.run {V reads th} (hk:∀ k,k < th.length→∃ left,InsK left (th.getD k fence0)):∀ f k s,RInv s→RInv (runR V reads th f k s)∧(runR V reads th f k s).evs.length≤s.evs.length + 2 * f
 | 0,k,s,h => ⟨h,Nat.le_refl _⟩
 | f + 1,k,s,h => by
   unfold runR
   split
   ·rename_i hc
    obtain ⟨left,hx⟩:=hk k hc.1
    have h1:=RInv.run (V:=V) (reads:=reads) hk f (k + skR V s (th.getD k fence0) + 1) _ (h.st (V:=V) (reads:=reads) hx)
    have h2:=stR_evs V reads s (th.getD k fence0)
    exact ⟨h1.1,by omega⟩
   ·exact ⟨h,by omega⟩
theorem rs0_inv:RInv rs0:=by
 refine ⟨⟨fun e he => absurd he (List.not_mem_nil),⟨fun p hp => absurd hp (List.not_mem_nil),List.Pairwise.nil⟩,⟨fun p hp => absurd hp (List.not_mem_nil),List.Pairwise.nil⟩,fun l hl => ?_,rdL_nil _,rfl,rfl,Nat.le_refl _,Nat.le_refl _⟩,⟨fun p hp => absurd hp (List.not_mem_nil),fun i hi => absurd hi (Nat.not_lt_zero _),List.Pairwise.nil,Nat.le_refl _⟩⟩
 have:l = []:=List.eq_of_mem_replicate hl
 subst this
 exact rdL_nil _
theorem doR_inv {V th reads} (hk:∀ k,k < th.length→∃ left,InsK left (th.getD k fence0)):RInv (doR V th reads)∧(doR V th reads).evs.length≤2 * th.length:=by
 have:=RInv.run (V:=V) (reads:=reads) hk th.length 0 rs0 rs0_inv
 have h0:rs0.evs.length = 0:=rfl
 exact ⟨this.1,by have h2:=this.2;rw[h0] at h2;show (runR V reads th th.length 0 rs0).evs.length≤_;omega⟩
end Go.Ab
end
