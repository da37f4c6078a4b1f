/- What PowerCoherent rests on, part 3: lemmas, no claim of its own. -/
import Derived.Test.YtgfjjohnfbhjcaaPPowerCoherent2
section
namespace Go.Ab
theorem upd_same {α : Type} (e : Nat → α) (d : Nat) (v : α) : upd e d v d = v := if_pos rfl
theorem upd_ne {α : Type} (e : Nat → α) {d k : Nat} (v : α) (h : k ≠ d) : upd e d v k = e k := if_neg h
theorem put_some (e : Env) (d : Nat) (v : AV) : put e (some d) v = upd e d v := rfl
theorem put_none (e : Env) (v : AV) : put e none v = e := rfl
theorem allow_no (base : Nat) (pre : List Nat) (id : Nat) : allow false base pre id = true := rfl
theorem allow_lt {base id : Nat} (pre : List Nat) (h : id < base) : allow true base pre id = true := by simp [allow, h]
section
variable (c : CS) (d : Bool) (b j : Nat) (dst : Option Nat) (os : List AOper) (e : Env)
def bindR (r : Option (AV × G)) : Option (Env × G) :=
  match r with
  | some (v, g) => regE c d b j os (put e dst v) g
  | none => none
def selR (w : Bool) (op : AOp) (pre : List Nat) (g : G) : Option (Env × G) :=
  if w then bindR c d b (j + 1) dst os e (opE c (allow d b pre) b (b + j) op e g) else regE c d b (j + 1) os (put e dst .undef) g
theorem selR_true (op pre g) : selR c d b j dst os e true op pre g = bindR c d b (j + 1) dst os e (opE c (allow d b pre) b (b + j) op e g) := rfl
theorem regE_nil (g : G) : regE c d b j [] e g = some (e, g) := rfl
theorem regE_cons (op : AOp) (grd : Option (Nat × Bool)) (pre : List Nat) (g : G) :
    regE c d b j ({ dst, op, grd, pre } :: os) e g = selR c d b j dst os e (wanted e grd) op pre g := by
  simp only [regE, selR, bindR]
  rfl
end
section
variable (F : Funs)
noncomputable def thenS (x : ACode) (r : Option (Out × Env × G)) : Option (Out × Env × G) :=
  match r with
  | some (.nrm, e, g) => codeS F x e g
  | r => r
noncomputable def selS (t f : ACode) (e : Env) (g : G) (v : AV) : Option (Out × Env × G) :=
  match v with
  | .b c => if c then codeS F t e g else codeS F f e g
  | _ => none
def normS (r : Option (Env × G)) : Option (Out × Env × G) :=
  match r with
  | some (e, g) => some (.nrm, e, g)
  | none => none
def blkS (id : Nat) (r : Option (Out × Env × G)) : Option (Out × Env × G) :=
  match r with
  | some (.ext n, e, g) => some (if n = id then .nrm else .ext n, e, g)
  | r => r
theorem cS_reg (draw ops e g) : codeS F (.reg draw ops) e g = normS (regE (callS F) draw g.nx 0 ops e ⟨g.hp, g.nx + ops.length⟩) := codeS_reg F draw ops e g
theorem cS_seq (a b e g) : codeS F (.seq a b) e g = thenS F b (codeS F a e g) := codeS_seq F a b e g
theorem cS_cond (c t f e g) : codeS F (.cond c t f) e g = selS F t f e g (c.ev e) := codeS_cond F c t f e g
theorem cS_blk (id c e g) : codeS F (.blk id c) e g = blkS id (codeS F c e g) := codeS_blk F id c e g
theorem cS_loop (c e g) : codeS F (.loop c) e g = thenS F (.loop c) (codeS F c e g) := codeS_loop F c e g
end
def wantV (v : AV) (w : Bool) : Bool := match v with | .b x => x == w | _ => false
theorem wanted_none (e : Env) : wanted e none = true := rfl
theorem wanted_some (e : Env) (t : Nat) (w : Bool) : wanted e (some (t, w)) = wantV (e t) w := rfl
theorem wantV_1 (x : Bool) : wantV (.b x) true = x := by cases x <;> rfl
theorem wantV_0 (x : Bool) : wantV (.b x) false = !x := by cases x <;> rfl
theorem wantV_undef (w : Bool) : wantV .undef w = false := rfl
section
variable {c : CS} {al : Nat → Bool} {lo id : Nat} {e : Env} {g : G}
theorem ev_t (n : Nat) : Opd.ev e (.t n) = e n := rfl
theorem ev_c (v : AV) : Opd.ev e (.c v) = v := rfl
theorem o_mv (x : Opd) : opE c al lo id (.mv x) e g = some (x.ev e, g) := rfl
theorem o_pick (x y z : Opd) : opE c al lo id (.pick x y z) e g = vPick (x.ev e) (y.ev e) (z.ev e) g := rfl
theorem vPick_t (a b : AV) (g : G) : vPick (.b true) a b g = some (a, g) := rfl
theorem vPick_f (a b : AV) (g : G) : vPick (.b false) a b g = some (b, g) := rfl
theorem o_new (z : List AV) : opE c al lo id (.new z) e g = some (.mp id 0, ⟨upd g.hp id (some (.cells z false)), g.nx⟩) := rfl
theorem o_box (x : Opd) : opE c al lo id (.box x) e g = vBox id (x.ev e) g := rfl
theorem vMap_some (v : AV) : vMap g (some v) = some (v, g) := rfl
theorem vMapL_some (f) (v : List AV) : vMapL f g (some v) = some (f v, g) := rfl
theorem o_build (z : List AV) (ps) : opE c al lo id (.build z ps) e g = vMapL .agg g (fill e z ps) := rfl
theorem o_ld (agg) (x : Opd) : opE c al lo id (.ld agg x) e g = vLd al agg (x.ev e) g := rfl
theorem vLd_ptr (agg cs) : vLd al agg (.ptr cs) g = vMap g (part cs 0 agg) := rfl
theorem o_st (n) (a x : Opd) : opE c al lo id (.st n a x) e g = vSt al n (a.ev e) (x.ev e) g := rfl
theorem o_nilck (x : Opd) : opE c al lo id (.nilck x) e g = vNil (x.ev e) g := rfl
theorem vNil_ptr (cs) : vNil (.ptr cs) g = some (.ptr cs, g) := rfl
theorem vNil_mp (b o) : vNil (.mp b o) g = some (.mp b o, g) := rfl
theorem vNil_fn (f a b) : vNil (.fn f a b) g = some (.fn f a b, g) := rfl
theorem o_bin (op) (x y : Opd) : opE c al lo id (.bin op x y) e g = vMap g (abin op (x.ev e) (y.ev e)) := rfl
theorem o_un (op) (x : Opd) : opE c al lo id (.un op x) e g = vMap g (aun op (x.ev e)) := rfl
theorem o_mkfn (f a b) : opE c al lo id (.mkfn f a b) e g = some (.fn f (a.map (·.ev e)) (b.map (·.ev e)), g) := rfl
theorem o_fa (off) (x : Opd) : opE c al lo id (.fa off x) e g = vFa off (x.ev e) g := rfl
theorem vFa_mp (off b o) : vFa off (.mp b o) g = some (.mp b (o + off), g) := rfl
theorem o_fld (off agg) (x : Opd) : opE c al lo id (.fld off agg x) e g = vFld off agg (x.ev e) g := rfl
theorem vFld_agg (off agg cs) : vFld off agg (.agg cs) g = vMap g (part cs off agg) := rfl
theorem o_ia (esz) (x i : Opd) : opE c al lo id (.ia esz x i) e g = vIa esz (x.ev e) (i.ev e) g := rfl
theorem vIa_sl {esz cs t k} {n : Nat} {z : Int} (h0 : 0 ≤ z) (h : z < n) : vIa esz (.sl cs n t) (.i k z) g = some (.ptr (cs.drop (z.toNat * esz)), g) := if_pos ⟨h0, h⟩
theorem vIa_ms {esz b off k} {n : Nat} {z : Int} (h0 : 0 ≤ z) (h : z < n) : vIa esz (.ms b off n) (.i k z) g = some (.mp b (off + z.toNat * esz), g) := if_pos ⟨h0, h⟩
theorem o_iaa (len esz) (x i : Opd) : opE c al lo id (.iaa len esz x i) e g = vIaa len esz (x.ev e) (i.ev e) g := rfl
theorem vIaa_ptr {esz cs k} {len : Nat} {z : Int} (h0 : 0 ≤ z) (h : z < len) : vIaa len esz (.ptr cs) (.i k z) g = some (.ptr (cs.drop (z.toNat * esz)), g) := if_pos ⟨h0, h⟩
theorem vIaa_mp {esz b off k} {len : Nat} {z : Int} (h0 : 0 ≤ z) (h : z < len) : vIaa len esz (.mp b off) (.i k z) g = some (.mp b (off + z.toNat * esz), g) := if_pos ⟨h0, h⟩
theorem o_len (x : Opd) : opE c al lo id (.len x) e g = vLen (x.ev e) g := rfl
theorem vLen_sl (cs n t) : vLen (.sl cs n t) g = some (.i .i64 n, g) := rfl
theorem vLen_ms (b o n) : vLen (.ms b o n) g = some (.i .i64 n, g) := rfl
theorem o_mx (x y : Opd) : opE c al lo id (.mx x y) e g = vMx (x.ev e) (y.ev e) g := rfl
theorem o_mn (x y : Opd) : opE c al lo id (.mn x y) e g = vMn (x.ev e) (y.ev e) g := rfl
theorem vMx_i (k l a b) : vMx (.i k a) (.i l b) g = some (.i k (if b > a then b else a), g) := rfl
theorem vMn_i (k l a b) : vMn (.i k a) (.i l b) g = some (.i k (if b < a then b else a), g) := rfl
theorem o_ext (i) (x : Opd) : opE c al lo id (.ext i x) e g = vExt i (x.ev e) g := rfl
theorem vExt_tup (i cs) : vExt i (.tup cs) g = vMap g (cs[i]?) := rfl
theorem b_add (k x y) : abin .add (.i k x) (.i k y) = some (.i k (k.wrap (x + y))) := by simp [abin, ibin]
theorem b_sub (k x y) : abin .sub (.i k x) (.i k y) = some (.i k (k.wrap (x - y))) := by simp [abin, ibin]
theorem b_mul (k x y) : abin .mul (.i k x) (.i k y) = some (.i k (k.wrap (x * y))) := by simp [abin, ibin]
theorem b_rem {k x y} (h : y ≠ 0) : abin .rem (.i k x) (.i k y) = some (.i k (x.tmod y)) := by simp [abin, ibin, h]
theorem b_lss (k x y) : abin .lss (.i k x) (.i k y) = some (.b (decide (x < y))) := by simp [abin, ibin]
theorem b_leq (k x y) : abin .leq (.i k x) (.i k y) = some (.b (decide (x ≤ y))) := by simp [abin, ibin]
theorem b_gtr (k x y) : abin .gtr (.i k x) (.i k y) = some (.b (decide (x > y))) := by simp [abin, ibin]
theorem b_geq (k x y) : abin .geq (.i k x) (.i k y) = some (.b (decide (x ≥ y))) := by simp [abin, ibin]
theorem b_eql (k x y) : abin .eql (.i k x) (.i k y) = some (.b (x == y)) := by simp [abin, ibin]
theorem b_neq (k x y) : abin .neq (.i k x) (.i k y) = some (.b (x != y)) := by simp [abin, ibin]
end
def selB (x : Bool) (o : Option Blk) : Option Blk := if x then o else none
theorem selB_true (o) : selB true o = o := rfl
theorem rd_S (g : G) (al : Nat → Bool) (id : Nat) : rd g al id = selB (al id) (g.hp id) := rfl
section
variable {al : Nat → Bool} {g : G}
def ldS (agg : Option Nat) (off : Nat) (g : G) : Option Blk → Option (AV × G)
  | some (.cells cs _) => vMap g (part cs off agg)
  | _ => none
theorem ldS_ok (agg off g cs ro) : ldS agg off g (some (.cells cs ro)) = vMap g (part cs off agg) := rfl
theorem vLd_S (agg b off) : vLd al agg (.mp b off) g = ldS agg off g (selB (al b) (g.hp b)) := rfl
def stD (n b off len m : Nat) (ones : Bool) (cs vs : List AV) (g : G) : Option (AV × G) :=
  if len = n ∧ off + n ≤ m ∧ ones = true then some (.undef, ⟨upd g.hp b (some (.cells (splice cs off vs) false)), g.nx⟩) else none
theorem stD_ok {n b off len m : Nat} {cs vs g} (h : len = n ∧ off + n ≤ m) : stD n b off len m true cs vs g = some (.undef, ⟨upd g.hp b (some (.cells (splice cs off vs) false)), g.nx⟩) := if_pos ⟨h.1, h.2, rfl⟩
def stS (n b off : Nat) (vs : List AV) (g : G) : Option Blk → Option (AV × G)
  | some (.cells cs false) => stD n b off vs.length cs.length (vs.all one) cs vs g
  | _ => none
theorem stS_ok (n b off vs g cs) : stS n b off vs g (some (.cells cs false)) = stD n b off vs.length cs.length (vs.all one) cs vs g := rfl
theorem vSt_S (n b off x) : vSt al n (.mp b off) x g = stS n b off (cellsOf x) g (selB (al b) (g.hp b)) := by
  simp only [vSt]
  rw [rd_S]
  cases selB (al b) (g.hp b) with
  | none => rfl
  | some bl =>
    cases bl with
    | cells cs ro => cases ro <;> rfl
    | map es => rfl
    | tok l => rfl
def boxD (id : Nat) (cs : List AV) (g : G) (x : Bool) : Option (AV × G) := if x then some (.mp id 0, ⟨upd g.hp id (some (.cells cs false)), g.nx⟩) else none
theorem boxD_ok (id cs g) : boxD id cs g true = some (.mp id 0, ⟨upd g.hp id (some (.cells cs false)), g.nx⟩) := rfl
theorem vBox_S (id v) : vBox id v g = boxD id (cellsOf v) g ((cellsOf v).all one) := rfl
def faD (off len : Nat) (cs : List AV) (g : G) : Option (AV × G) := if off < len then some (.ptr (cs.drop off), g) else none
theorem faD_ok {off len : Nat} {cs g} (h : off < len) : faD off len cs g = some (.ptr (cs.drop off), g) := if_pos h
theorem vFa_S (off cs) : vFa off (.ptr cs) g = faD off cs.length cs g := rfl
def fillD (e : Env) (cs : List AV) (off n len m : Nat) (ones : Bool) (vs : List AV) (ps : List (Nat × Nat × Opd)) : Option (List AV) :=
  if len = n ∧ off + n ≤ m ∧ ones = true then fill e (splice cs off vs) ps else none
theorem fillD_ok {e cs off n len m vs ps} (h : len = n ∧ off + n ≤ m) : fillD e cs off n len m true vs ps = fill e (splice cs off vs) ps := if_pos ⟨h.1, h.2, rfl⟩
theorem fill_S (e : Env) (cs : List AV) (off n x ps) : fill e cs ((off, n, x) :: ps) = fillD e cs off n (cellsOf (x.ev e)).length cs.length ((cellsOf (x.ev e)).all one) (cellsOf (x.ev e)) ps := by
  simp only [fill, fillD]
theorem fill_nil (e cs) : fill e cs [] = some cs := rfl
theorem cellsOf_agg (cs) : cellsOf (.agg cs) = cs := rfl
theorem cellsOf_i (k n) : cellsOf (.i k n) = [.i k n] := rfl
theorem cellsOf_b (x) : cellsOf (.b x) = [.b x] := rfl
theorem cellsOf_s (x) : cellsOf (.s x) = [.s x] := rfl
theorem cellsOf_ptr (x) : cellsOf (.ptr x) = [.ptr x] := rfl
theorem cellsOf_nilp : cellsOf .nilp = [.nilp] := rfl
theorem cellsOf_sl (a b c) : cellsOf (.sl a b c) = [.sl a b c] := rfl
theorem cellsOf_mp (a b) : cellsOf (.mp a b) = [.mp a b] := rfl
theorem cellsOf_fn (a b c) : cellsOf (.fn a b c) = [.fn a b c] := rfl
theorem one_i (k n) : one (.i k n) = true := rfl
theorem one_b (x) : one (.b x) = true := rfl
theorem one_s (x) : one (.s x) = true := rfl
theorem one_ptr (x) : one (.ptr x) = true := rfl
theorem one_nilp : one .nilp = true := rfl
theorem one_sl (a b c) : one (.sl a b c) = true := rfl
theorem one_mp (a b) : one (.mp a b) = true := rfl
theorem one_fn (a b c) : one (.fn a b c) = true := rfl
theorem splice_1 (cs off v) : splice cs off [v] = cs.set off v := rfl
theorem splice_2 (a b x y) : splice [a, b] 0 [x, y] = [x, y] := rfl
theorem splice_3 (a b c x y z) : splice [a, b, c] 0 [x, y, z] = [x, y, z] := rfl
theorem part_0 (c cs) : part (c :: cs) 0 none = some c := rfl
theorem part_1 (c d cs) : part (c :: d :: cs) 1 none = some d := rfl
theorem part_2 (a c d cs) : part (a :: c :: d :: cs) 2 none = some d := rfl
def andLe (lo : Nat) (al : Nat → Bool) (i : Nat) : Bool := decide (lo ≤ i) && al i
theorem o_stL {c : CS} {al : Nat → Bool} {lo id : Nat} {e : Env} {g : G} (n a x) : opE c al lo id (.stL n a x) e g = vSt (andLe lo al) n (a.ev e) (x.ev e) g := rfl
theorem andLe_ok {lo : Nat} {al : Nat → Bool} {i : Nat} (h : lo ≤ i) : andLe lo al i = al i := by simp [andLe, h]
theorem allow_hd {base k id : Nat} (l : List Nat) (h : id = base + k) : allow true base (k :: l) id = true := by subst h; simp [allow]
theorem allow_h2 {base k k' id : Nat} (l : List Nat) (h : id = base + k) : allow true base (k' :: k :: l) id = true := by subst h; simp [allow]
theorem part_3 (a b c d : AV) (l : List AV) : part (a :: b :: c :: d :: l) 3 none = some d := rfl
theorem part_4 (a b c d e : AV) (l : List AV) : part (a :: b :: c :: d :: e :: l) 4 none = some e := rfl
theorem part_5 (a b c d e f : AV) (l : List AV) : part (a :: b :: c :: d :: e :: f :: l) 5 none = some f := rfl
theorem cellsOf_ms (a b c) : cellsOf (.ms a b c) = [.ms a b c] := rfl
theorem one_ms (a b c) : one (.ms a b c) = true := rfl
theorem drop_0 (l : List AV) : l.drop 0 = l := rfl
theorem g0_nx : g0.nx = 0 := rfl
theorem g0_hp : g0.hp = fun _ => none := rfl
theorem o_bsl {c : CS} {al : Nat → Bool} {lo id : Nat} {e : Env} {g : G} (imm n z ps) : opE c al lo id (.bsl imm n z ps) e g = vBsl id imm n (fill e z ps) g := rfl
theorem vBsl_t (id n cs) (g : G) : vBsl id true n (some cs) g = vMapL (fun cs => .sl cs n .rig) g (frzL (fun _ => none) depth cs) := rfl
theorem vBsl_f (id n cs) (g : G) : vBsl id false n (some cs) g = some (.ms id 0 n, ⟨upd g.hp id (some (.cells cs false)), g.nx⟩) := rfl
theorem o_app {c : CS} {al : Nat → Bool} {lo id : Nat} {e : Env} {g : G} (esz by' x y) : opE c al lo id (.app esz by' x y) e g = vApp al id esz by' (x.ev e) (y.ev e) g := rfl
def appD (n m esz bytes lc ld : Nat) (r : Option (AV × G)) : Option (AV × G) := if (n + m) * bytes ≤ 2 ^ 46 ∧ n + m ≤ 2 ^ 62 ∧ lc = n * esz ∧ ld = m * esz then r else none
theorem appD_ok {n m esz bytes lc ld r} (h : (n + m) * bytes ≤ 2 ^ 46 ∧ n + m ≤ 2 ^ 62 ∧ lc = n * esz ∧ ld = m * esz) : appD n m esz bytes lc ld r = r := if_pos h
theorem vApp_rig {id esz bytes cs n ds m t2} (h : m ≠ 0) : vApp al id esz bytes (.sl cs n .rig) (.sl ds m t2) g = appD n m esz bytes cs.length ds.length (some (.sl (cs ++ ds) (n + m) (.own id esz), ⟨upd g.hp id (some (.tok true)), g.nx⟩)) := by
  simp only [vApp, vSrc, if_neg h]; rfl
theorem vApp_rig0 {id esz bytes cs n ds t2} : vApp al id esz bytes (.sl cs n .rig) (.sl ds 0 t2) g = appD n 0 esz bytes cs.length ds.length (some (.sl cs n .rig, g)) := by
  simp only [vApp, vSrc, if_true]; rfl
def appK (id esz tk n : Nat) (cs : List AV) (g : G) : Option Blk → Option (AV × G)
  | some (.tok true) => some (.sl cs n (.own id esz), ⟨upd (upd g.hp tk (some (.tok false))) id (some (.tok true)), g.nx⟩)
  | _ => none
theorem appK_ok (id esz tk n cs g) : appK id esz tk n cs g (some (.tok true)) = some (.sl cs n (.own id esz), ⟨upd (upd g.hp tk (some (.tok false))) id (some (.tok true)), g.nx⟩) := rfl
theorem vApp_own {id esz bytes cs n tk ds m t2} : vApp al id esz bytes (.sl cs n (.own tk esz)) (.sl ds m t2) g = appD n m esz bytes cs.length ds.length (appK id esz tk (n + m) (cs ++ ds) g (selB (al tk) (g.hp tk))) := by
  simp only [vApp, vSrc, rd_S]
  unfold appD appK
  split
  · cases selB (al tk) (g.hp tk) with
    | none => rfl
    | some b =>
      cases b with
      | tok x => cases x <;> simp
      | cells _ _ => rfl
      | map _ => rfl
  · rfl
theorem o_eqn {c : CS} {al : Nat → Bool} {lo id : Nat} {e : Env} {g : G} (neg x y) : opE c al lo id (.eqn neg x y) e g = vMap g (negb neg (aeqn (x.ev e) (y.ev e))) := rfl
theorem o_eqb {c : CS} {al : Nat → Bool} {lo id : Nat} {e : Env} {g : G} (neg x y) : opE c al lo id (.eqb neg x y) e g = vMap g (negb neg (aeqb (x.ev e) (y.ev e))) := rfl
theorem o_eqa {c : CS} {al : Nat → Bool} {lo id : Nat} {e : Env} {g : G} (neg ks x y) : opE c al lo id (.eqa neg ks x y) e g = vMap g (negb neg (aeqa ks (x.ev e) (y.ev e))) := rfl
theorem aeqn_pn (cs) : aeqn (.ptr cs) .nilp = some false := rfl
theorem aeqn_np (cs) : aeqn .nilp (.ptr cs) = some false := rfl
theorem aeqn_mn (a b) : aeqn (.mp a b) .nilp = some false := rfl
theorem aeqn_nn : aeqn .nilp .nilp = some true := rfl
theorem aeqb_bb (x y) : aeqb (.b x) (.b y) = some (x == y) := rfl
theorem negb_t (x) : negb true (some x) = some (.b (!x)) := rfl
theorem negb_f (x) : negb false (some x) = some (.b x) := rfl
theorem aun_not (x) : aun .not (.b x) = some (.b !x) := rfl
end
end Go.Ab
end
section
set_option linter.unusedVariables false
namespace Go.Ab
section
variable (F : Funs)
def W (c : ACode) (e : Env) (g : G) (Q : Out → Env → G → Prop) : Prop := ∃ o e' g', codeS F c e g = some (o, e', g') ∧ Q o e' g'
def WR (d : Bool) (b j : Nat) (ops : List AOper) (e : Env) (g : G) (K : Env → G → Prop) : Prop := ∃ e' g', regE (callS F) d b j ops e g = some (e', g') ∧ K e' g'
def thenQ (b : ACode) (Q : Out → Env → G → Prop) : Out → Env → G → Prop
  | .nrm, e, g => W F b e g Q
  | o, e, g => Q o e g
def selW (t f : ACode) (e : Env) (g : G) (Q : Out → Env → G → Prop) : AV → Prop
  | .b true => W F t e g Q
  | .b false => W F f e g Q
  | _ => False
def blkQ (id : Nat) (Q : Out → Env → G → Prop) : Out → Env → G → Prop
  | .ext n, e, g => if n = id then Q .nrm e g else Q (.ext n) e g
  | o, e, g => Q o e g
def nrmQ (Q : Out → Env → G → Prop) (e : Env) (g : G) : Prop := Q .nrm e g
def bindO (d : Bool) (b j : Nat) (dst : Option Nat) (os : List AOper) (e : Env) (K : Env → G → Prop) : Option (AV × G) → Prop
  | some (v, g) => WR F d b j os (put e dst v) g K
  | none => False
def selO (d : Bool) (b j : Nat) (dst : Option Nat) (os : List AOper) (e : Env) (op : AOp) (pre : List Nat) (g : G) (K : Env → G → Prop) (w : Bool) : Prop :=
  if w then bindO F d b (j + 1) dst os e K (opE (callS F) (allow d b pre) b (b + j) op e g) else WR F d b (j + 1) os (put e dst .undef) g K
end
section
variable {F : Funs}
theorem W_skip {e g Q} : W F .skip e g Q = Q .nrm e g := by
  unfold W; rw [codeS_skip]; apply propext
  exact ⟨fun ⟨o, e', g', h, q⟩ => by cases h; exact q, fun q => ⟨_, _, _, rfl, q⟩⟩
theorem W_ext {id e g Q} : W F (.ext id) e g Q = Q (.ext id) e g := by
  unfold W; rw [codeS_ext]; apply propext
  exact ⟨fun ⟨o, e', g', h, q⟩ => by cases h; exact q, fun q => ⟨_, _, _, rfl, q⟩⟩
theorem W_ret {e g Q} : W F .ret e g Q = Q .ret e g := by
  unfold W; rw [codeS_ret]; apply propext
  exact ⟨fun ⟨o, e', g', h, q⟩ => by cases h; exact q, fun q => ⟨_, _, _, rfl, q⟩⟩
theorem W_seq {a b e g Q} : W F (.seq a b) e g Q = W F a e g (thenQ F b Q) := by
  unfold W; rw [cS_seq]; apply propext
  constructor
  · intro ⟨o, e', g', h, q⟩
    cases hc : codeS F a e g with
    | none => rw [hc] at h; cases h
    | some r =>
      obtain ⟨o1, e1, g1⟩ := r
      rw [hc] at h
      refine ⟨o1, e1, g1, rfl, ?_⟩
      cases o1 with
      | nrm => exact ⟨o, e', g', h, q⟩
      | ext n => cases h; exact q
      | ret => cases h; exact q
  · intro ⟨o, e', g', h, q⟩
    rw [h]
    cases o with
    | nrm => exact q
    | ext n => exact ⟨_, _, _, rfl, q⟩
    | ret => exact ⟨_, _, _, rfl, q⟩
theorem thenQ_nrm {b Q e g} : thenQ F b Q .nrm e g = W F b e g Q := rfl
theorem thenQ_ext {b Q n e g} : thenQ F b Q (.ext n) e g = Q (.ext n) e g := rfl
theorem thenQ_ret {b Q e g} : thenQ F b Q .ret e g = Q .ret e g := rfl
theorem W_cond {c t f e g Q} : W F (.cond c t f) e g Q = selW F t f e g Q (c.ev e) := by
  unfold W; rw [cS_cond]; apply propext
  generalize c.ev e = v
  cases v <;> simp only [selS, selW] <;> try (constructor <;> (intro h; first | exact h.elim | (obtain ⟨_, _, _, h, _⟩ := h; cases h)))
  rename_i x
  cases x <;> simp [W]
theorem selW_true {t f e g Q} : selW F t f e g Q (.b true) = W F t e g Q := rfl
theorem selW_false {t f e g Q} : selW F t f e g Q (.b false) = W F f e g Q := rfl
theorem W_scp {c e g Q} : W F (.scp c) e g Q = W F c e g Q := by unfold W; rw [codeS_scp]
theorem W_lab {e g Q} : W F .lab e g Q = Q .nrm e g := by
  unfold W; rw [codeS_lab]; apply propext
  exact ⟨fun ⟨o, e', g', h, q⟩ => by cases h; exact q, fun q => ⟨_, _, _, rfl, q⟩⟩
theorem W_blk {id c e g Q} : W F (.blk id c) e g Q = W F c e g (blkQ id Q) := by
  unfold W; rw [cS_blk]; apply propext
  constructor
  · intro ⟨o, e', g', h, q⟩
    cases hc : codeS F c e g with
    | none => rw [hc] at h; cases h
    | some r =>
      obtain ⟨o1, e1, g1⟩ := r
      rw [hc] at h
      refine ⟨o1, e1, g1, rfl, ?_⟩
      cases o1 with
      | nrm => cases h; exact q
      | ext n =>
        cases h
        show if n = id then _ else _
        split
        · rename_i hn; rw [if_pos hn] at q; exact q
        · rename_i hn; rw [if_neg hn] at q; exact q
      | ret => cases h; exact q
  · intro ⟨o, e', g', h, q⟩
    rw [h]
    cases o with
    | nrm => exact ⟨_, _, _, rfl, q⟩
    | ext n =>
      refine ⟨_, _, _, rfl, ?_⟩
      have q : if n = id then Q .nrm e' g' else Q (.ext n) e' g' := q
      split
      · rename_i hn; rw [if_pos hn] at q; exact q
      · rename_i hn; rw [if_neg hn] at q; exact q
    | ret => exact ⟨_, _, _, rfl, q⟩
theorem blkQ_nrm {id Q e g} : blkQ id Q .nrm e g = Q .nrm e g := rfl
theorem blkQ_ret {id Q e g} : blkQ id Q .ret e g = Q .ret e g := rfl
theorem blkQ_same {id Q e g} : blkQ id Q (.ext id) e g = Q .nrm e g := if_pos rfl
theorem blkQ_ne {id n Q e g} (h : n ≠ id) : blkQ id Q (.ext n) e g = Q (.ext n) e g := if_neg h
theorem W_reg {d ops e g Q} : W F (.reg d ops) e g Q = WR F d g.nx 0 ops e ⟨g.hp, g.nx + ops.length⟩ (nrmQ Q) := by
  unfold W WR; rw [cS_reg]; apply propext
  constructor
  · intro ⟨o, e', g', h, q⟩
    cases hc : regE (callS F) d g.nx 0 ops e ⟨g.hp, g.nx + ops.length⟩ with
    | none => rw [hc] at h; cases h
    | some r =>
      rw [hc] at h
      cases h
      exact ⟨_, _, rfl, q⟩
  · intro ⟨e', g', h, q⟩
    rw [h]
    exact ⟨.nrm, e', g', rfl, q⟩
theorem nrmQ_is {Q e g} : nrmQ Q e g = Q .nrm e g := rfl
theorem WR_nil {d b j e g K} : WR F d b j [] e g K = K e g := by
  unfold WR; apply propext
  simp only [regE_nil]
  exact ⟨fun ⟨e', g', h, q⟩ => by cases h; exact q, fun q => ⟨_, _, rfl, q⟩⟩
theorem WR_cons {d b j dst op grd pre os e g K} : WR F d b j ({ dst, op, grd, pre } :: os) e g K = selO F d b j dst os e op pre g K (wanted e grd) := by
  unfold WR; rw [regE_cons]
  generalize wanted e grd = w
  cases w
  · rfl
  · rw [selR_true]
    show _ = bindO _ _ _ _ _ _ _ _ _
    cases opE (callS F) (allow d b pre) b (b + j) op e g with
    | none =>
      apply propext
      constructor
      · intro ⟨_, _, h, _⟩; cases h
      · intro h; exact False.elim h
    | some r => rfl
theorem selO_true {d b j dst os e op pre g K} : selO F d b j dst os e op pre g K true = bindO F d b (j + 1) dst os e K (opE (callS F) (allow d b pre) b (b + j) op e g) := rfl
theorem selO_false {d b j dst os e op pre g K} : selO F d b j dst os e op pre g K false = WR F d b (j + 1) os (put e dst .undef) g K := rfl
theorem bindO_some {d b j dst os e K v g} : bindO F d b j dst os e K (some (v, g)) = WR F d b j os (put e dst v) g K := rfl
theorem W_mono {c e g} {Q Q' : Out → Env → G → Prop} (h : W F c e g Q) (hq : ∀ o e g, Q o e g → Q' o e g) : W F c e g Q' := by
  obtain ⟨o, e', g', h1, h2⟩ := h; exact ⟨o, e', g', h1, hq _ _ _ h2⟩
def loopQ (I : Nat → Env → G → Prop) (m : Nat) (Q : Out → Env → G → Prop) : Out → Env → G → Prop
  | .nrm, e, g => ∃ m', m' < m ∧ I m' e g
  | o, e, g => Q o e g
theorem loopQ_nrm {I m Q e g} : loopQ I m Q .nrm e g = ∃ m', m' < m ∧ I m' e g := rfl
theorem loopQ_ext {I m Q n e g} : loopQ I m Q (.ext n) e g = Q (.ext n) e g := rfl
theorem loopQ_ret {I m Q e g} : loopQ I m Q .ret e g = Q .ret e g := rfl
theorem W_loop {c e g Q} (I : Nat → Env → G → Prop) (n : Nat) (h0 : I n e g) (h : ∀ m e g, I m e g → W F c e g (loopQ I m Q)) : W F (.loop c) e g Q := by
  have key : ∀ m e g, I m e g → W F (.loop c) e g Q := by
    intro m
    induction m using Nat.strongRecOn with
    | _ m ih =>
      intro e g hI
      obtain ⟨o, e1, g1, h1, h2⟩ := h m e g hI
      unfold W
      rw [cS_loop, h1]
      cases o with
      | nrm =>
        obtain ⟨m', hm, hI'⟩ := h2
        exact ih m' hm e1 g1 hI'
      | ext n => exact ⟨_, _, _, rfl, h2⟩
      | ret => exact ⟨_, _, _, rfl, h2⟩
  exact key n e g h0
noncomputable def pureS (F : Funs) (f : Nat) (asx : List AV) : Option AV := match callS F f asx g0 with
  | some (v, g) => frz g.hp depth v
  | none => none
noncomputable def vPure (F : Funs) (al : Nat → Bool) (f : AV) (args : List AV) (g : G) : Option (AV × G) := vCall (callS F) al 0 .pure f args g
theorem o_pure {al lo id e g} (f : Opd) (asx : List Opd) : opE (callS F) al lo id (.call .pure f asx) e g = vPure F al (f.ev e) (asx.map (·.ev e)) g := rfl
theorem vPure_ok {al : Nat → Bool} {fid : Nat} {fst caps args bs : List AV} {g : G} {v : AV} (h1 : frzL (rd g al) depth (fst ++ args ++ caps) = some bs) (h2 : pureS F fid bs = some v) (h3 : (flat v || ((fst ++ args ++ caps).flatMap (vis (rd g al) depth)).isEmpty) = true) :
    vPure F al (.fn fid fst caps) args g = some (v, g) := by
  unfold pureS at h2
  split at h2
  · rename_i v0 g' hc
    have hc' : callS F fid bs ⟨fun _ => none, 0⟩ = some (v0, g') := hc
    unfold vPure vCall
    simp only [h1, hc', h2, h3, if_true]
  · cases h2
def retQ (rs : List ARes) (v : AV) : Out → Env → G → Prop
  | .ext _, _, _ => False
  | _, e, g => (match resE rs e g with | some v0 => frz g.hp depth v0 | none => none) = some v
theorem retQ_nrm {rs v e g} : retQ rs v .nrm e g = ((match resE rs e g with | some v0 => frz g.hp depth v0 | none => none) = some v) := rfl
theorem retQ_ret {rs v e g} : retQ rs v .ret e g = ((match resE rs e g with | some v0 => frz g.hp depth v0 | none => none) = some v) := rfl
theorem pure_of {f : Nat} {fn : AFun} {asx : List AV} {v : AV} (hF : F f = some fn) (h : W F fn.body (argEnv asx) g0 (retQ fn.res v)) : pureS F f asx = some v := by
  obtain ⟨o, e, g, h1, h2⟩ := h
  unfold pureS
  rw [callS_eq, hF]
  simp only [h1]
  cases o with
  | ext n => exact h2.elim
  | nrm =>
    have h2 : (match resE fn.res e g with | some v0 => frz g.hp depth v0 | none => none) = some v := h2
    cases hr : resE fn.res e g with
    | none => rw [hr] at h2; cases h2
    | some v0 => rw [hr] at h2; simp only [hr, Option.map_some]; exact h2
  | ret =>
    have h2 : (match resE fn.res e g with | some v0 => frz g.hp depth v0 | none => none) = some v := h2
    cases hr : resE fn.res e g with
    | none => rw [hr] at h2; cases h2
    | some v0 => rw [hr] at h2; simp only [hr, Option.map_some]; exact h2
end
theorem argEnv_0 (a l) : argEnv (a :: l) 0 = a := rfl
theorem argEnv_1 (a b l) : argEnv (a :: b :: l) 1 = b := rfl
theorem argEnv_2 (a b c l) : argEnv (a :: b :: c :: l) 2 = c := rfl
theorem argEnv_3 (a b c d l) : argEnv (a :: b :: c :: d :: l) 3 = d := rfl
theorem argEnv_4 (a b c d e l) : argEnv (a :: b :: c :: d :: e :: l) 4 = e := rfl
theorem argEnv_5 (a b c d e f l) : argEnv (a :: b :: c :: d :: e :: f :: l) 5 = f := rfl
theorem res_1 (n e g) : resE [.t n] e g = some (e n) := rfl
theorem res_2 (n m e g) : resE [.t n, .t m] e g = some (.tup [e n, e m]) := rfl
theorem frz_flat {hp} {d : Nat} {v : AV} (h : flat v = true) : frz hp (d + 1) v = some v := by cases v <;> first | (cases h; done) | simp only [frz]
theorem frzL_flat {hp} {d : Nat} : ∀ {cs : List AV}, cs.all flat = true → frzL hp (d + 1) cs = some cs
  | [], _ => by simp only [frzL]
  | c :: cs, h => by
    simp only [List.all_cons, Bool.and_eq_true] at h
    simp only [frzL, frz_flat h.1, frzL_flat h.2]
theorem frzL_nil (hp d) : frzL hp d [] = some [] := by simp only [frzL]
def consO (c : Option AV) (cs : Option (List AV)) : Option (List AV) := match c, cs with
  | some c, some cs => some (c :: cs)
  | _, _ => none
theorem consO_ok (c cs) : consO (some c) (some cs) = some (c :: cs) := rfl
theorem frzL_cons (hp d c cs) : frzL hp d (c :: cs) = consO (frz hp d c) (frzL hp d cs) := by
  simp only [frzL]
  cases frz hp d c <;> cases frzL hp d cs <;> rfl
theorem frz_d_i (hp k n) : frz hp depth (.i k n) = some (.i k n) := by show frz hp (8 + 1) _ = _; simp only [frz]
theorem frz_d_b (hp x) : frz hp depth (.b x) = some (.b x) := by show frz hp (8 + 1) _ = _; simp only [frz]
theorem frz_d_s (hp x) : frz hp depth (.s x) = some (.s x) := by show frz hp (8 + 1) _ = _; simp only [frz]
theorem frz_d_nilp (hp) : frz hp depth .nilp = some .nilp := by show frz hp (8 + 1) _ = _; simp only [frz]
theorem frz_d_ptr (hp cs) : frz hp depth (.ptr cs) = some (.ptr cs) := by show frz hp (8 + 1) _ = _; simp only [frz]
theorem frz_d_sl (hp cs n t) : frz hp depth (.sl cs n t) = some (.sl cs n .non) := by show frz hp (8 + 1) _ = _; simp only [frz]
theorem frz_d_fn0 (hp f) : frz hp depth (.fn f [] []) = some (.fn f [] []) := by show frz hp (8 + 1) _ = _; simp only [frz, frzL]
noncomputable def frzB (hp : Nat → Option Blk) (off : Nat) (cs : List AV) (x : Bool) : Option (List AV) := if x then some (cs.drop off) else frzL hp 8 (cs.drop off)
noncomputable def frzP (hp : Nat → Option Blk) (off : Nat) (f : List AV → AV) : Option Blk → Option AV
  | some (.cells cs _) => (frzB hp off cs (cs.all flat)).map f
  | _ => none
theorem frzB_eq (hp : Nat → Option Blk) (off : Nat) (cs : List AV) : frzB hp off cs (cs.all flat) = frzL hp 8 (cs.drop off) := by
  unfold frzB
  split
  · rename_i hf
    refine (frzL_flat ?_).symm
    rw [List.all_eq_true] at hf ⊢
    exact fun x hx => hf x (List.mem_of_mem_drop hx)
  · rfl
theorem frz_P (hp : Nat → Option Blk) (id off : Nat) : frz hp depth (.mp id off) = frzP hp off .ptr (hp id) := by
  show frz hp (8 + 1) _ = _
  simp only [frz]
  unfold frzP
  simp only [frzB_eq]
  cases hp id with
  | none => rfl
  | some b => cases b <;> rfl
theorem frz_Q (hp : Nat → Option Blk) (id off n : Nat) : frz hp depth (.ms id off n) = frzP hp off (fun cs => .sl cs n .non) (hp id) := by
  show frz hp (8 + 1) _ = _
  simp only [frz]
  unfold frzP
  simp only [frzB_eq]
  cases hp id with
  | none => rfl
  | some b => cases b <;> rfl
theorem frzP_cells (hp off f cs ro) : frzP hp off f (some (.cells cs ro)) = (frzB hp off cs (cs.all flat)).map f := rfl
theorem frzB_true (hp off cs) : frzB hp off cs true = some (cs.drop off) := rfl
theorem map_some' (f : List AV → AV) (cs : List AV) : (some cs).map f = some (f cs) := rfl
noncomputable def purD (g : G) (vs : List Nat) : Option AV → Option (AV × G)
  | some v => if flat v || vs.isEmpty then some (v, g) else none
  | none => none
def purE (g : G) (v : AV) (x : Bool) : Option (AV × G) := if x then some (v, g) else none
theorem purD_some (g vs v) : purD g vs (some v) = purE g v (flat v || vs.isEmpty) := rfl
theorem purE_true (g v) : purE g v true = some (v, g) := rfl
noncomputable def purS (F : Funs) (f : Nat) (g : G) (vs : List Nat) : Option (List AV) → Option (AV × G)
  | some bs => purD g vs (pureS F f bs)
  | none => none
theorem purS_some (F f g vs bs) : purS F f g vs (some bs) = purD g vs (pureS F f bs) := rfl
theorem vPure_S (F : Funs) (al : Nat → Bool) (fid : Nat) (fst args caps : List AV) (g : G) :
    vPure F al (.fn fid fst caps) args g = purS F fid g ((fst ++ args ++ caps).flatMap (vis (rd g al) depth)) (frzL (rd g al) depth (fst ++ args ++ caps)) := by
  unfold vPure vCall
  simp only
  cases frzL (rd g al) depth (fst ++ args ++ caps) with
  | none => rfl
  | some bs =>
    rw [purS_some]
    unfold pureS g0
    simp only
    cases callS F fid bs ⟨fun _ => none, 0⟩ with
    | none => rfl
    | some r =>
      obtain ⟨v, g'⟩ := r
      simp only
      cases frz g'.hp depth v with
      | none => rfl
      | some v' => rfl
theorem flat_i (k n) : flat (.i k n) = true := rfl
theorem flat_b (x) : flat (.b x) = true := rfl
theorem flat_s (x) : flat (.s x) = true := rfl
theorem flat_nilp : flat .nilp = true := rfl
theorem flat_ptr (x) : flat (.ptr x) = false := rfl
theorem flat_sl (a b c) : flat (.sl a b c) = false := rfl
theorem flat_agg (a) : flat (.agg a) = false := rfl
theorem flat_tup (a) : flat (.tup a) = false := rfl
theorem vis_i (hp k n) : vis hp depth (.i k n) = [] := by show vis hp (8 + 1) _ = _; simp only [vis]
theorem vis_b (hp x) : vis hp depth (.b x) = [] := by show vis hp (8 + 1) _ = _; simp only [vis]
theorem vis_s (hp x) : vis hp depth (.s x) = [] := by show vis hp (8 + 1) _ = _; simp only [vis]
theorem vis_nilp (hp) : vis hp depth .nilp = [] := by show vis hp (8 + 1) _ = _; simp only [vis]
theorem vis_ptr (hp x) : vis hp depth (.ptr x) = [] := by show vis hp (8 + 1) _ = _; simp only [vis]
theorem vis_sl (hp a b c) : vis hp depth (.sl a b c) = [] := by show vis hp (8 + 1) _ = _; simp only [vis]
theorem vis_fn0 (hp f) : vis hp depth (.fn f [] []) = [] := by show vis hp (8 + 1) _ = _; simp only [vis, List.flatMap_nil, List.append_nil]
theorem isEmpty_nil : ([] : List Nat).isEmpty = true := rfl
def midQ (M : Env → G → Prop) : Out → Env → G → Prop
  | .nrm, e, g => M e g
  | _, _, _ => False
theorem midQ_nrm {M e g} : midQ M .nrm e g = M e g := rfl
theorem midQ_then {F : Funs} {rest Q} {M : Env → G → Prop} (h2 : ∀ e g, M e g → W F rest e g Q) (o e g) (h : midQ M o e g) : thenQ F rest Q o e g := by
  cases o with
  | nrm => exact h2 e g h
  | ext n => exact h.elim
  | ret => exact h.elim
theorem W_cut {F : Funs} {c rest e g Q} (M : Env → G → Prop) (h1 : W F c e g (midQ M)) (h2 : ∀ e g, M e g → W F rest e g Q) : W F c e g (thenQ F rest Q) := W_mono h1 (midQ_then h2)
theorem frz_b_inv {hp : Nat → Option Blk} {k : Nat} {v : AV} {b : Bool} (h : frz hp (k + 1) v = some (.b b)) : v = .b b := by
  cases v with
  | b x => simp only [frz] at h; cases h; rfl
  | agg cs => simp only [frz] at h; cases hf : frzL hp k cs <;> rw [hf] at h <;> cases h
  | tup cs => simp only [frz] at h; cases hf : frzL hp k cs <;> rw [hf] at h <;> cases h
  | mp id off =>
    simp only [frz] at h
    split at h
    · cases hf : frzL hp k (List.drop off _) <;> rw [hf] at h <;> cases h
    · cases h
  | ms id off n =>
    simp only [frz] at h
    split at h
    · cases hf : frzL hp k (List.drop off _) <;> rw [hf] at h <;> cases h
    · cases h
  | fn f asx bs => simp only [frz] at h; split at h <;> cases h
  | ifc t w => simp only [frz] at h; cases hf : frz hp k w <;> rw [hf] at h <;> cases h
  | _ => simp only [frz] at h; cases h
theorem pureS_bool {F : Funs} {f : Nat} {asx : List AV} {b : Bool} (h : pureS F f asx = some (.b b)) : ∃ k g', callE F k f asx g0 = some (.b b, g') := by
  unfold pureS at h
  split at h
  · rename_i v g hc
    have := frz_b_inv (k := 8) h
    subst this
    obtain ⟨k, hk⟩ := (callS_some F).1 hc
    exact ⟨k, g, hk⟩
  · cases h
def retB (rs : List ARes) (P : Bool → Prop) : Out → Env → G → Prop
  | .ext _, _, _ => False
  | _, e, g => ∃ b, resE rs e g = some (.b b) ∧ P b
theorem retB_nrm {rs P e g} : retB rs P .nrm e g = (∃ b, resE rs e g = some (.b b) ∧ P b) := rfl
theorem retB_ret {rs P e g} : retB rs P .ret e g = (∃ b, resE rs e g = some (.b b) ∧ P b) := rfl
theorem blk_cut {F : Funs} {c rest : ACode} {id : Nat} {e : Env} {g : G} {Q : Out → Env → G → Prop} (M : Env → G → Prop) (h1 : W F c e g (blkQ id (midQ M))) (h2 : ∀ e g, M e g → W F rest e g Q) : W F c e g (blkQ id (thenQ F rest Q)) := by
  refine W_mono h1 fun o e g h => ?_
  cases o with
  | nrm => exact h2 e g h
  | ret => exact h.elim
  | ext n =>
    have h : if n = id then midQ M .nrm e g else midQ M (.ext n) e g := h
    show if n = id then thenQ F rest Q .nrm e g else thenQ F rest Q (.ext n) e g
    by_cases hn : n = id
    · rw [if_pos hn] at h ⊢; exact h2 e g h
    · rw [if_neg hn] at h; exact h.elim
def midR (Q : Out → Env → G → Prop) (M : Env → G → Prop) : Out → Env → G → Prop
  | .nrm, e, g => M e g
  | .ret, e, g => Q .ret e g
  | .ext _, _, _ => False
theorem midR_nrm {Q M e g} : midR Q M .nrm e g = M e g := rfl
theorem midR_ret {Q M e g} : midR Q M .ret e g = Q .ret e g := rfl
theorem blk_cutR {F : Funs} {c rest : ACode} {id : Nat} {e : Env} {g : G} {Q : Out → Env → G → Prop} (M : Env → G → Prop) (h1 : W F c e g (blkQ id (midR Q M))) (h2 : ∀ e g, M e g → W F rest e g Q) : W F c e g (blkQ id (thenQ F rest Q)) := by
  refine W_mono h1 fun o e g h => ?_
  cases o with
  | nrm => exact h2 e g h
  | ret => exact h
  | ext n =>
    have h : if n = id then midR Q M .nrm e g else midR Q M (.ext n) e g := h
    show if n = id then thenQ F rest Q .nrm e g else thenQ F rest Q (.ext n) e g
    by_cases hn : n = id
    · rw [if_pos hn] at h ⊢; exact h2 e g h
    · rw [if_neg hn] at h; exact h.elim
set_option maxRecDepth 10000 in
theorem wp : type_of% (And.intro (And.intro (And.intro (And.intro (And.intro (And.intro (And.intro @W_skip (And.intro @W_ext @W_ret)) (And.intro (And.intro @W_seq @thenQ_nrm) (And.intro @thenQ_ext @thenQ_ret))) (And.intro (And.intro (And.intro @W_cond @selW_true) (And.intro @selW_false @W_blk)) (And.intro (And.intro @blkQ_nrm @blkQ_ret) (And.intro @blkQ_same @blkQ_ne)))) (And.intro (And.intro (And.intro @W_reg (And.intro @nrmQ_is @WR_nil)) (And.intro (And.intro @WR_cons @selO_true) (And.intro @selO_false @bindO_some))) (And.intro (And.intro (And.intro @loopQ_nrm @loopQ_ext) (And.intro @loopQ_ret @wanted_none)) (And.intro (And.intro @wanted_some @wantV_1) (And.intro @wantV_0 @wantV_undef))))) (And.intro (And.intro (And.intro (And.intro @ev_t (And.intro @ev_c @put_some)) (And.intro (And.intro @put_none @upd_same) (And.intro @upd_ne @List.length_cons.{0}))) (And.intro (And.intro (And.intro @List.length_nil.{0} @List.map_cons.{0, 0}) (And.intro @List.map_nil.{0, 0} @allow_no)) (And.intro (And.intro @allow_lt @argEnv_0) (And.intro @argEnv_1 @argEnv_2)))) (And.intro (And.intro (And.intro (And.intro @argEnv_3 @argEnv_4) (And.intro @argEnv_5 @res_1)) (And.intro (And.intro @res_2 @retQ_nrm) (And.intro @retQ_ret @o_mv))) (And.intro (And.intro (And.intro @o_pick @vPick_t) (And.intro @vPick_f @o_new)) (And.intro (And.intro @o_box @vBox_S) (And.intro @boxD_ok @vMap_some)))))) (And.intro (And.intro (And.intro (And.intro (And.intro @vMapL_some (And.intro @o_build @o_ld)) (And.intro (And.intro @vLd_ptr @vLd_S) (And.intro @ldS_ok @selB_true))) (And.intro (And.intro (And.intro @o_st @vSt_S) (And.intro @stS_ok @stD_ok)) (And.intro (And.intro @o_nilck @vNil_ptr) (And.intro @vNil_mp @vNil_fn)))) (And.intro (And.intro (And.intro (And.intro @o_bin @o_un) (And.intro @o_mkfn @o_fa)) (And.intro (And.intro @vFa_mp @vFa_S) (And.intro @faD_ok @o_fld))) (And.intro (And.intro (And.intro @vFld_agg @o_ia) (And.intro @vIa_sl @vIa_ms)) (And.intro (And.intro @o_iaa @vIaa_ptr) (And.intro @vIaa_mp @o_len))))) (And.intro (And.intro (And.intro (And.intro @vLen_sl (And.intro @vLen_ms @o_mx)) (And.intro (And.intro @o_mn @vMx_i) (And.intro @vMn_i @o_ext))) (And.intro (And.intro (And.intro @vExt_tup @b_add) (And.intro @b_sub @b_mul)) (And.intro (And.intro @b_lss @b_leq) (And.intro @b_gtr @b_geq)))) (And.intro (And.intro (And.intro (And.intro @b_eql @b_neq) (And.intro @o_pure @List.nil_append.{0})) (And.intro (And.intro @List.append_nil.{0} @List.cons_append.{0}) (And.intro @frz_d_i @frz_d_b))) (And.intro (And.intro (And.intro @frz_d_s @frz_d_nilp) (And.intro @frz_d_ptr @frz_d_sl)) (And.intro (And.intro @frz_d_fn0 @Bool.not_true) (And.intro @Bool.not_false @Bool.true_and))))))) (And.intro (And.intro (And.intro (And.intro (And.intro (And.intro @Bool.and_true (And.intro @Bool.false_and @Bool.and_false)) (And.intro (And.intro @decide_true @decide_false) (And.intro @beq_self_eq_true.{0} @Bool.true_eq_false))) (And.intro (And.intro (And.intro @Bool.false_eq_true @Nat.zero_add) (And.intro @Nat.add_zero @Int.toNat_natCast)) (And.intro (And.intro @ge_iff_le.{0} @gt_iff_lt.{0}) (And.intro @fill_S @fillD_ok)))) (And.intro (And.intro (And.intro (And.intro @fill_nil @cellsOf_agg) (And.intro @cellsOf_i @cellsOf_b)) (And.intro (And.intro @cellsOf_s @cellsOf_ptr) (And.intro @cellsOf_nilp @cellsOf_sl))) (And.intro (And.intro (And.intro @cellsOf_mp @cellsOf_fn) (And.intro @one_i @one_b)) (And.intro (And.intro @one_s @one_ptr) (And.intro @one_nilp @one_sl))))) (And.intro (And.intro (And.intro (And.intro @one_mp (And.intro @one_fn @List.all_cons.{0})) (And.intro (And.intro @List.all_nil.{0} @splice_1) (And.intro @splice_2 @splice_3))) (And.intro (And.intro (And.intro @part_0 @part_1) (And.intro @part_2 @drop_0)) (And.intro (And.intro @g0_nx @g0_hp) (And.intro @List.set_cons_zero.{0} @List.set_cons_succ.{0})))) (And.intro (And.intro (And.intro (And.intro @List.length_append.{0} @List.length_replicate.{0}) (And.intro @eq_self.{1} @true_and)) (And.intro (And.intro @and_true @vPure_S) (And.intro @purS_some @purD_some))) (And.intro (And.intro (And.intro @purE_true @frzL_cons) (And.intro @frzL_nil @consO_ok)) (And.intro (And.intro @flat_i @flat_b) (And.intro @flat_s @flat_nilp)))))) (And.intro (And.intro (And.intro (And.intro (And.intro @flat_ptr (And.intro @flat_sl @flat_agg)) (And.intro (And.intro @flat_tup @vis_i) (And.intro @vis_b @vis_s))) (And.intro (And.intro (And.intro @vis_nilp @vis_ptr) (And.intro @vis_sl @vis_fn0)) (And.intro (And.intro @List.flatMap_cons.{0, 0} @List.flatMap_nil.{0, 0}) (And.intro @isEmpty_nil @Bool.true_or)))) (And.intro (And.intro (And.intro (And.intro @Bool.false_or @Bool.or_true) (And.intro @Bool.or_false @frz_P)) (And.intro (And.intro @frz_Q @frzP_cells) (And.intro @frzB_true @map_some'))) (And.intro (And.intro (And.intro @rd_S @o_bsl) (And.intro @vBsl_t @vBsl_f)) (And.intro (And.intro @o_app @appD_ok) (And.intro @vApp_rig @vApp_rig0))))) (And.intro (And.intro (And.intro (And.intro @appK_ok (And.intro @vApp_own @o_eqn)) (And.intro (And.intro @o_eqb @o_eqa) (And.intro @aeqn_pn @aeqn_np))) (And.intro (And.intro (And.intro @aeqn_mn @aeqn_nn) (And.intro @aeqb_bb @negb_t)) (And.intro (And.intro @negb_f @aun_not) (And.intro @midQ_nrm @part_3)))) (And.intro (And.intro (And.intro (And.intro @part_4 @part_5) (And.intro @cellsOf_ms @one_ms)) (And.intro (And.intro @Int.toNat_zero @Nat.zero_mul) (And.intro @o_stL @andLe_ok))) (And.intro (And.intro (And.intro @allow_hd @allow_h2) (And.intro @retB_nrm @retB_ret)) (And.intro (And.intro @midR_nrm @midR_ret) (And.intro @W_scp @W_lab)))))))) := (And.intro (And.intro (And.intro (And.intro (And.intro (And.intro (And.intro @W_skip (And.intro @W_ext @W_ret)) (And.intro (And.intro @W_seq @thenQ_nrm) (And.intro @thenQ_ext @thenQ_ret))) (And.intro (And.intro (And.intro @W_cond @selW_true) (And.intro @selW_false @W_blk)) (And.intro (And.intro @blkQ_nrm @blkQ_ret) (And.intro @blkQ_same @blkQ_ne)))) (And.intro (And.intro (And.intro @W_reg (And.intro @nrmQ_is @WR_nil)) (And.intro (And.intro @WR_cons @selO_true) (And.intro @selO_false @bindO_some))) (And.intro (And.intro (And.intro @loopQ_nrm @loopQ_ext) (And.intro @loopQ_ret @wanted_none)) (And.intro (And.intro @wanted_some @wantV_1) (And.intro @wantV_0 @wantV_undef))))) (And.intro (And.intro (And.intro (And.intro @ev_t (And.intro @ev_c @put_some)) (And.intro (And.intro @put_none @upd_same) (And.intro @upd_ne @List.length_cons.{0}))) (And.intro (And.intro (And.intro @List.length_nil.{0} @List.map_cons.{0, 0}) (And.intro @List.map_nil.{0, 0} @allow_no)) (And.intro (And.intro @allow_lt @argEnv_0) (And.intro @argEnv_1 @argEnv_2)))) (And.intro (And.intro (And.intro (And.intro @argEnv_3 @argEnv_4) (And.intro @argEnv_5 @res_1)) (And.intro (And.intro @res_2 @retQ_nrm) (And.intro @retQ_ret @o_mv))) (And.intro (And.intro (And.intro @o_pick @vPick_t) (And.intro @vPick_f @o_new)) (And.intro (And.intro @o_box @vBox_S) (And.intro @boxD_ok @vMap_some)))))) (And.intro (And.intro (And.intro (And.intro (And.intro @vMapL_some (And.intro @o_build @o_ld)) (And.intro (And.intro @vLd_ptr @vLd_S) (And.intro @ldS_ok @selB_true))) (And.intro (And.intro (And.intro @o_st @vSt_S) (And.intro @stS_ok @stD_ok)) (And.intro (And.intro @o_nilck @vNil_ptr) (And.intro @vNil_mp @vNil_fn)))) (And.intro (And.intro (And.intro (And.intro @o_bin @o_un) (And.intro @o_mkfn @o_fa)) (And.intro (And.intro @vFa_mp @vFa_S) (And.intro @faD_ok @o_fld))) (And.intro (And.intro (And.intro @vFld_agg @o_ia) (And.intro @vIa_sl @vIa_ms)) (And.intro (And.intro @o_iaa @vIaa_ptr) (And.intro @vIaa_mp @o_len))))) (And.intro (And.intro (And.intro (And.intro @vLen_sl (And.intro @vLen_ms @o_mx)) (And.intro (And.intro @o_mn @vMx_i) (And.intro @vMn_i @o_ext))) (And.intro (And.intro (And.intro @vExt_tup @b_add) (And.intro @b_sub @b_mul)) (And.intro (And.intro @b_lss @b_leq) (And.intro @b_gtr @b_geq)))) (And.intro (And.intro (And.intro (And.intro @b_eql @b_neq) (And.intro @o_pure @List.nil_append.{0})) (And.intro (And.intro @List.append_nil.{0} @List.cons_append.{0}) (And.intro @frz_d_i @frz_d_b))) (And.intro (And.intro (And.intro @frz_d_s @frz_d_nilp) (And.intro @frz_d_ptr @frz_d_sl)) (And.intro (And.intro @frz_d_fn0 @Bool.not_true) (And.intro @Bool.not_false @Bool.true_and))))))) (And.intro (And.intro (And.intro (And.intro (And.intro (And.intro @Bool.and_true (And.intro @Bool.false_and @Bool.and_false)) (And.intro (And.intro @decide_true @decide_false) (And.intro @beq_self_eq_true.{0} @Bool.true_eq_false))) (And.intro (And.intro (And.intro @Bool.false_eq_true @Nat.zero_add) (And.intro @Nat.add_zero @Int.toNat_natCast)) (And.intro (And.intro @ge_iff_le.{0} @gt_iff_lt.{0}) (And.intro @fill_S @fillD_ok)))) (And.intro (And.intro (And.intro (And.intro @fill_nil @cellsOf_agg) (And.intro @cellsOf_i @cellsOf_b)) (And.intro (And.intro @cellsOf_s @cellsOf_ptr) (And.intro @cellsOf_nilp @cellsOf_sl))) (And.intro (And.intro (And.intro @cellsOf_mp @cellsOf_fn) (And.intro @one_i @one_b)) (And.intro (And.intro @one_s @one_ptr) (And.intro @one_nilp @one_sl))))) (And.intro (And.intro (And.intro (And.intro @one_mp (And.intro @one_fn @List.all_cons.{0})) (And.intro (And.intro @List.all_nil.{0} @splice_1) (And.intro @splice_2 @splice_3))) (And.intro (And.intro (And.intro @part_0 @part_1) (And.intro @part_2 @drop_0)) (And.intro (And.intro @g0_nx @g0_hp) (And.intro @List.set_cons_zero.{0} @List.set_cons_succ.{0})))) (And.intro (And.intro (And.intro (And.intro @List.length_append.{0} @List.length_replicate.{0}) (And.intro @eq_self.{1} @true_and)) (And.intro (And.intro @and_true @vPure_S) (And.intro @purS_some @purD_some))) (And.intro (And.intro (And.intro @purE_true @frzL_cons) (And.intro @frzL_nil @consO_ok)) (And.intro (And.intro @flat_i @flat_b) (And.intro @flat_s @flat_nilp)))))) (And.intro (And.intro (And.intro (And.intro (And.intro @flat_ptr (And.intro @flat_sl @flat_agg)) (And.intro (And.intro @flat_tup @vis_i) (And.intro @vis_b @vis_s))) (And.intro (And.intro (And.intro @vis_nilp @vis_ptr) (And.intro @vis_sl @vis_fn0)) (And.intro (And.intro @List.flatMap_cons.{0, 0} @List.flatMap_nil.{0, 0}) (And.intro @isEmpty_nil @Bool.true_or)))) (And.intro (And.intro (And.intro (And.intro @Bool.false_or @Bool.or_true) (And.intro @Bool.or_false @frz_P)) (And.intro (And.intro @frz_Q @frzP_cells) (And.intro @frzB_true @map_some'))) (And.intro (And.intro (And.intro @rd_S @o_bsl) (And.intro @vBsl_t @vBsl_f)) (And.intro (And.intro @o_app @appD_ok) (And.intro @vApp_rig @vApp_rig0))))) (And.intro (And.intro (And.intro (And.intro @appK_ok (And.intro @vApp_own @o_eqn)) (And.intro (And.intro @o_eqb @o_eqa) (And.intro @aeqn_pn @aeqn_np))) (And.intro (And.intro (And.intro @aeqn_mn @aeqn_nn) (And.intro @aeqb_bb @negb_t)) (And.intro (And.intro @negb_f @aun_not) (And.intro @midQ_nrm @part_3)))) (And.intro (And.intro (And.intro (And.intro @part_4 @part_5) (And.intro @cellsOf_ms @one_ms)) (And.intro (And.intro @Int.toNat_zero @Nat.zero_mul) (And.intro @o_stL @andLe_ok))) (And.intro (And.intro (And.intro @allow_hd @allow_h2) (And.intro @retB_nrm @retB_ret)) (And.intro (And.intro @midR_nrm @midR_ret) (And.intro @W_scp @W_lab))))))))
end Go.Ab
end
section
set_option linter.unusedVariables false
set_option linter.unusedSimpArgs false
namespace Go.Ab
open Go.RowKit
def c0 (num : Nat → Nat) (w : World) : Cx := ⟨num, w.heap.size, fun _ => True, w, fun _ => (0, 0), fun _ => none⟩
theorem row_calls {P : Program} {num : Nat → Nat} {F : Funs} (hT : Table P num F) (hm : P.follows .mixedOrders = true) {f : Nat} {asx : List AV} {b : Bool} (h : pureS F f asx = some (.b b)) {w : World} {vargs : List Value} (hr : Reps (c0 num w) true asx vargs) :
    Calls P (num f) vargs.toArray w (fun e w' => e = .returned (.bool b) ∧ Below w.heap.size w w') := by
  obtain ⟨k, g', hk⟩ := pureS_bool h
  have K : Ok (c0 num w) 0 := {
    basele := Nat.le_refl _
    cells := fun _ _ _ h => by cases h
    maps := fun _ _ h => by cases h
    toks := fun _ h => by cases h
    inj := fun _ _ _ h => by obtain ⟨_, h, _⟩ := h; cases h
    fresh := fun _ _ => rfl }
  have := ((callE_ok hT hm k).2 f asx g0 _ _ hk).2 (c0 num w) vargs rfl rfl K hr
  refine Calls.mono this.1 fun e w' ⟨val, c', h1, h2, E, _, _, hrep⟩ => ?_
  cases hrep
  exact ⟨h1, h2 ▸ E.below⟩
def intsC (l : List Int) : List AV := l.map fun v => .i .i64 v
def pairsC (l : List (Int × Int)) : List AV := l.flatMap fun p => [.i .i64 p.1, .i .i64 p.2]
end Go.Ab
end
section
set_option linter.unusedVariables false
set_option linter.unusedSimpArgs false
namespace Go.Ab
abbrev Rw := Nat → BitVec 64
def U (x : BitVec 64) : AV := .i .u64 (x.toNat : Int)
def rowsC (R : Rw) : List AV := (List.range 40).map fun a => U (R a)
def relC (n : Nat) (R : Rw) : List AV := .i .i64 n :: rowsC R
theorem rowsC_len (R : Rw) : (rowsC R).length = 40 := by simp [rowsC]
theorem relC_len (n : Nat) (R : Rw) : (relC n R).length = 41 := by simp [relC, rowsC_len]
theorem rowsC_get {R : Rw} {a : Nat} (h : a < 40) : (rowsC R)[a]? = some (U (R a)) := by
  simp [rowsC, h]
theorem relC_n (n : Nat) (R : Rw) : part (relC n R) 0 none = some (.i .i64 n) := rfl
theorem relC_row {n : Nat} {R : Rw} {a : Nat} (h : a < 40) : part (relC n R) (0 + 1 + a * 1) none = some (U (R a)) := by
  rw [show 0 + 1 + a * 1 = a + 1 by omega]
  simp only [part, relC, List.getElem?_cons_succ, rowsC_get h]
theorem relC_drop1 (n : Nat) (R : Rw) : (relC n R).drop 1 = rowsC R := rfl
theorem relC_row' {R : Rw} {a : Nat} (h : a < 40) : part ((rowsC R).drop (a * 1)) 0 none = some (U (R a)) := by
  simp only [part, List.getElem?_drop, Nat.mul_one, Nat.add_zero, rowsC_get h]
theorem relC_set {n : Nat} {R : Rw} {a : Nat} {x : BitVec 64} (h : a < 40) : splice (relC n R) (0 + 1 + a * 1) [U x] = relC n (upd R a x) := by
  rw [show 0 + 1 + a * 1 = a + 1 by omega]
  show (relC n R).set (a + 1) (U x) = _
  simp only [relC, List.set_cons_succ]
  congr 1
  refine List.ext_getElem? fun i => ?_
  rw [List.getElem?_set]
  by_cases hi : i < 40
  · rw [rowsC_get hi]
    by_cases ha : a = i
    · subst ha
      rw [if_pos rfl, if_pos (by rw [rowsC_len]; exact h), rowsC_get hi, upd_same]
    · have : i ≠ a := fun h => ha h.symm
      rw [if_neg ha, rowsC_get hi, upd_ne _ _ this]
  · have h1 : (rowsC R)[i]? = none := by rw [List.getElem?_eq_none]; rw [rowsC_len]; omega
    have h2 : (rowsC (upd R a x))[i]? = none := by rw [List.getElem?_eq_none]; rw [rowsC_len]; omega
    rw [h2, h1]
    have : a ≠ i := by omega
    simp [this]
theorem relC_set' {n : Nat} {R : Rw} {a : Nat} {x : BitVec 64} (h : a < 40) : (relC n R).set (0 + 1 + a * 1) (U x) = relC n (upd R a x) := relC_set h
theorem cellsOf_U (x : BitVec 64) : cellsOf (U x) = [U x] := rfl
theorem one_U (x : BitVec 64) : one (U x) = true := rfl
theorem relC_flat (n : Nat) (R : Rw) : (relC n R).all flat = true := by
  simp [relC, rowsC, U, flat]
theorem relC_one (n : Nat) (R : Rw) : (relC n R).all one = true := by
  simp [relC, rowsC, U, one]
def bit (b : Nat) : BitVec 64 := 1#64 <<< b
theorem u64_wrap {x : Nat} (h : x < 2 ^ 64) : IntKind.u64.wrap (x : Int) = x := by
  simp [IntKind.wrap, IntKind.bits, IntKind.signed, IntKind.min, IntKind.max]
  omega
theorem ofU (x : BitVec 64) : BitVec.ofInt IntKind.u64.bits (x.toNat : Int) = x := by
  show BitVec.ofInt 64 _ = _
  apply BitVec.eq_of_toNat_eq
  simp
theorem u_or (x y : BitVec 64) : abin .or (U x) (U y) = some (U (x ||| y)) := by
  simp only [abin, U, ibin, if_true, ofU]
  show some (AV.i .u64 (IntKind.u64.wrap (((x ||| y : BitVec 64).toNat : Nat) : Int))) = _
  rw [u64_wrap (x ||| y : BitVec 64).isLt]
theorem u_and (x y : BitVec 64) : abin .and (U x) (U y) = some (U (x &&& y)) := by
  simp only [abin, U, ibin, if_true, ofU]
  show some (AV.i .u64 (IntKind.u64.wrap (((x &&& y : BitVec 64).toNat : Nat) : Int))) = _
  rw [u64_wrap (x &&& y : BitVec 64).isLt]
theorem u_andNot (x y : BitVec 64) : abin .andNot (U x) (U y) = some (U (x &&& ~~~ y)) := by
  simp only [abin, U, ibin, if_true, ofU]
  show some (AV.i .u64 (IntKind.u64.wrap (((x &&& ~~~ y : BitVec 64).toNat : Nat) : Int))) = _
  rw [u64_wrap (x &&& ~~~ y : BitVec 64).isLt]
theorem u_shl {b : Int} (h0 : 0 ≤ b) (h : b < 40) : abin .shl (.i .u64 1) (.i .i64 b) = some (U (bit b.toNat)) := by
  obtain ⟨k, rfl⟩ : ∃ k : Nat, b = k := ⟨b.toNat, by omega⟩
  have hk : k < 40 := by omega
  simp only [abin, ishift]
  rw [if_neg (by omega)]
  rw [show min ((k : Int)).toNat IntKind.u64.bits = k by show min k 64 = k; omega]
  have h2 : (2 ^ k : Nat) < 2 ^ 64 := Nat.pow_lt_pow_right (by omega) (by omega)
  have : (1 : Int) * 2 ^ k = ((2 ^ k : Nat) : Int) := by simp
  rw [this, u64_wrap h2]
  simp only [U, bit, Int.toNat_natCast, BitVec.toNat_shiftLeft, Nat.shiftLeft_eq]
  congr 2
  rw [show (1#64).toNat = 1 from rfl, Nat.one_mul, Nat.mod_eq_of_lt h2]
theorem u_test {x : BitVec 64} {b : Int} (h0 : 0 ≤ b) (h : b < 40) : ∃ y : BitVec 64, abin .shr (U x) (.i .i64 b) = some (U y) ∧ abin .and (U y) (.i .u64 1) = some (U (y &&& 1#64)) ∧ abin .neq (U (y &&& 1#64)) (.i .u64 0) = some (.b (x.getLsbD b.toNat)) := by
  obtain ⟨k, rfl⟩ : ∃ k : Nat, b = k := ⟨b.toNat, by omega⟩
  have hk : k < 40 := by omega
  refine ⟨x >>> k, ?_, u_and _ 1#64, ?_⟩
  · simp only [abin, ishift, U]
    rw [if_neg (by omega)]
    rw [show min ((k : Int)).toNat IntKind.u64.bits = k by show min k 64 = k; omega]
    simp only [BitVec.toNat_ushiftRight, Nat.shiftRight_eq_div_pow]
    congr 2
    have : (2 : Int) ^ k = ((2 ^ k : Nat) : Int) := by simp
    rw [this, Int.fdiv_eq_ediv_of_nonneg _ (Int.natCast_nonneg _)]
    norm_cast
  · rw [show (AV.i .u64 0) = U 0#64 from rfl]
    simp only [U, b_neq]
    congr 2
    simp only [Int.toNat_natCast]
    have key : ((x >>> k) &&& 1#64).toNat = if x.getLsbD k then 1 else 0 := by
      rw [BitVec.toNat_and, BitVec.toNat_ushiftRight]
      simp [Nat.and_one_is_mod, BitVec.getLsbD, Nat.testBit, Nat.and_comm]
      split <;> omega
    rw [key]
    split <;> simp_all
theorem splice_rel (n : Nat) (R : Rw) : splice (.i .i64 0 :: List.replicate 40 (.i .u64 0)) 0 (relC n R) = relC n R := by
  have h : ∀ (cs vs : List AV) (a b : AV), vs.length = cs.length → splice (a :: cs) 0 (b :: vs) = b :: vs := by
    intro cs vs a b h
    cases vs with
    | nil => cases cs <;> first | rfl | simp at h
    | cons v vs =>
      show [] ++ (b :: v :: vs) ++ List.drop (0 + (b :: v :: vs).length) (a :: cs) = _
      rw [List.drop_eq_nil_of_le (by simp at h ⊢; omega)]
      simp
  exact h _ _ _ _ (by simp [rowsC_len])
theorem part_rel (n : Nat) (R : Rw) : part (relC n R) 0 (some 41) = some (.agg (relC n R)) := by
  simp [part, relC_len]
  rw [List.take_of_length_le (by rw [relC_len]; omega)]
theorem frz_U (hp x) : frz hp depth (U x) = some (U x) := frz_d_i hp .u64 _
theorem flat_U (x) : flat (U x) = true := rfl
theorem vis_U (hp x) : vis hp depth (U x) = [] := vis_i hp .u64 _
theorem relC_congr {n : Nat} {R S : Rw} (h : ∀ a, a < 40 → R a = S a) : relC n R = relC n S := by
  unfold relC rowsC
  congr 1
  exact List.map_congr_left fun a ha => by rw [h a (List.mem_range.1 ha)]
theorem part_rows (R : Rw) : part (rowsC R) 0 (some 40) = some (.agg (rowsC R)) := by
  simp [part, rowsC_len]
  rw [List.take_of_length_le (by rw [rowsC_len]; omega)]
theorem cellsEq_U : ∀ l : List (BitVec 64), cellsEq (List.replicate l.length 0) (l.map U) (List.replicate l.length (.i .u64 0)) = some (l.all (· == 0#64))
  | [] => rfl
  | x :: l => by
    simp only [List.length_cons, List.replicate_succ, List.map_cons, cellsEq, cellsEq_U l, List.all_cons]
    show (match cellEq 0 (U x) (.i .u64 0), some (l.all (· == 0#64)) with | some a, some b => some (a && b) | _, _ => none) = _
    have : cellEq 0 (U x) (.i .u64 0) = some (x == 0#64) := by
      simp only [U, cellEq, if_true]
      congr 1
      by_cases h : x = 0#64
      · subst h; rfl
      · have : x.toNat ≠ 0 := fun h' => h (BitVec.eq_of_toNat_eq (by simpa using h'))
        rw [Bool.eq_iff_iff]
        simp [h]; omega
    rw [this]
def noneR (R : Rw) : Bool := (List.range 40).all fun a => R a == 0#64
theorem eqa_rows (R : Rw) : aeqa (List.replicate 40 0) (.agg (rowsC R)) (.agg (List.replicate 40 (.i .u64 0))) = some (noneR R) := by
  have := cellsEq_U ((List.range 40).map R)
  simp only [List.length_map, List.length_range, List.map_map] at this
  show cellsEq _ _ _ = _
  unfold rowsC noneR
  rw [show (fun a => U (R a)) = U ∘ R from rfl, this, List.all_map]
  rfl
set_option maxRecDepth 10000 in
theorem rl : type_of% (And.intro (And.intro (And.intro (And.intro @relC_n @relC_row) (And.intro @relC_row' (And.intro @relC_drop1 @relC_len))) (And.intro (And.intro @rowsC_len (And.intro @relC_one @relC_flat)) (And.intro @cellsOf_U (And.intro @one_U @frz_U)))) (And.intro (And.intro (And.intro @flat_U @vis_U) (And.intro @relC_set' (And.intro @u_shl @u_or))) (And.intro (And.intro @u_and (And.intro @u_andNot @part_rel)) (And.intro @splice_rel (And.intro @part_rows @eqa_rows))))) := (And.intro (And.intro (And.intro (And.intro @relC_n @relC_row) (And.intro @relC_row' (And.intro @relC_drop1 @relC_len))) (And.intro (And.intro @rowsC_len (And.intro @relC_one @relC_flat)) (And.intro @cellsOf_U (And.intro @one_U @frz_U)))) (And.intro (And.intro (And.intro @flat_U @vis_U) (And.intro @relC_set' (And.intro @u_shl @u_or))) (And.intro (And.intro @u_and (And.intro @u_andNot @part_rel)) (And.intro @splice_rel (And.intro @part_rows @eqa_rows)))))
end Go.Ab
end
section
set_option linter.unusedVariables false
set_option linter.unusedSimpArgs false
namespace Go.Ab
variable {F : Funs}
def has (n : Nat) (R : Rw) (a b : Int) : Bool := decide (0 ≤ a ∧ a < n ∧ 0 ≤ b ∧ b < n) && (R a.toNat).getLsbD b.toNat
theorem sp_has (pk : Pk_rel F) {n : Nat} (hn : n ≤ 40) (R : Rw) (a b : Int) : pureS F 13 [.ptr (relC n R), .i .i64 a, .i .i64 b] = some (.b (has n R a b)) := by
  refine pure_of pk.rel_Rel_Has ?_
  have hl := relC_len n R
  by_cases h1 : 0 ≤ a
  · by_cases h2 : a < n
    · by_cases h3 : 0 ≤ b
      · by_cases h4 : b < n
        · obtain ⟨y, hy1, hy2, hy3⟩ := u_test (x := R a.toNat) h3 (by omega)
          have h5 : (0 : Int) ≤ a := h1
          simp (disch := omega) only [A_rel_Rel_Has, wp, Nat.reduceAdd, Nat.reduceMul, Nat.reduceSub, h1, h2, h3, h4, hl, drop_0, relC_n, relC_drop1, relC_row', hy1, hy2, hy3]
          simp [has, h1, h2, h3, h4]
        · simp (disch := omega) only [A_rel_Rel_Has, wp, Nat.reduceAdd, Nat.reduceMul, Nat.reduceSub, h1, h2, h3, h4, hl, drop_0, relC_n]
          simp [has, h4]
      · simp (disch := omega) only [A_rel_Rel_Has, wp, Nat.reduceAdd, Nat.reduceMul, Nat.reduceSub, h1, h2, h3, hl, drop_0, relC_n]
        simp [has, h3]
    · simp (disch := omega) only [A_rel_Rel_Has, wp, Nat.reduceAdd, Nat.reduceMul, Nat.reduceSub, h1, h2, hl, drop_0, relC_n]
      simp [has, h2]
  · simp (disch := omega) only [A_rel_Rel_Has, wp, Nat.reduceAdd, Nat.reduceMul, Nat.reduceSub, h1, hl, drop_0, relC_n]
    simp [has, h1]
end Go.Ab
end
section
set_option linter.unusedVariables false
set_option linter.unusedSimpArgs false
namespace Go.Ab
variable {F : Funs}
theorem pairsC_len (l : List (Int × Int)) : (pairsC l).length = l.length * 2 := by
  induction l with
  | nil => rfl
  | cons p l ih => simp only [pairsC, List.flatMap_cons, List.length_append, List.length_cons, List.length_nil] at ih ⊢; omega
theorem pairs_part : ∀ {l : List (Int × Int)} {k : Nat} (h : k < l.length), part ((pairsC l).drop (k * 2)) 0 (some 2) = some (.agg [.i .i64 (l.getD k (0, 0)).1, .i .i64 (l.getD k (0, 0)).2])
  | p :: l, 0, _ => by simp [pairsC, part]
  | p :: l, k + 1, h => by
    have := pairs_part (l := l) (k := k) (by simpa using h)
    simp only [List.getD_cons_succ]
    rw [← this]
    simp [pairsC, Nat.succ_mul]
def inR (n : Nat) (p : Int × Int) : Bool := decide (0 ≤ p.1 ∧ p.1 < n ∧ 0 ≤ p.2 ∧ p.2 < n)
def addR (n : Nat) (R : Rw) (p : Int × Int) : Rw := if inR n p then upd R p.1.toNat (R p.1.toNat ||| bit p.2.toNat) else R
def newR (n : Nat) (l : List (Int × Int)) : Rw := l.foldl (addR n) (fun _ => 0)
def clamp (n : Int) : Nat := (max 0 (min n 40)).toNat
theorem clamp_le (n : Int) : clamp n ≤ 40 := by unfold clamp; omega
theorem newR_take {n : Nat} {l : List (Int × Int)} {k : Nat} (h : k < l.length) : newR n (l.take (k + 1)) = addR n (newR n (l.take k)) (l.getD k (0, 0)) := by
  unfold newR
  rw [List.take_add_one, List.foldl_append, List.getElem?_eq_getElem h, List.getD_eq_getElem?_getD, List.getElem?_eq_getElem h]
  rfl
theorem i64_wrap {x : Int} (h : -9223372036854775808 ≤ x) (h2 : x ≤ 9223372036854775807) : IntKind.i64.wrap x = x := by
  simp [IntKind.wrap, IntKind.bits, IntKind.signed, IntKind.min, IntKind.max]
  omega
set_option maxHeartbeats 1000000 in
theorem sp_new (pk : Pk_rel F) (n : Int) (l : List (Int × Int)) (t : Tok) (hlen : l.length < 9000000000000000000) : pureS F 11 [.i .i64 n, .sl (pairsC l) l.length t] = some (.ptr (relC (clamp n) (newR (clamp n) l))) := by
  refine pure_of pk.rel_New ?_
  have hc : (if (40 : Int) < n then (40 : Int) else n) = min n 40 := by split <;> omega
  have hc0 : (if (0 : Int) < min n 40 then min n 40 else 0) = clamp n := by unfold clamp; split <;> omega
  have hz : AV.i .i64 (clamp n) :: List.replicate 40 (.i .u64 0) = relC (clamp n) (fun _ => 0) := rfl
  simp (disch := omega) only [A_rel_New, wp, Nat.reduceAdd, Nat.reduceMul, Nat.reduceSub, hc, hc0, hz, relC_one, List.all_append, List.all_replicate]
  refine W_loop (fun m e g => ∃ k, m = l.length - k ∧ k ≤ l.length ∧ e 13 = .sl (pairsC l) l.length t ∧ e 14 = .i .i64 l.length ∧ e 15 = .i .i64 k ∧ e 5 = .mp 5 0 ∧ g.hp 5 = some (.cells (relC (clamp n) (newR (clamp n) (l.take k))) false) ∧ 5 < g.nx) l.length ?_ ?_
  · refine ⟨0, rfl, Nat.zero_le _, ?_⟩
    simp (disch := omega) only [wp, Nat.reduceAdd, Nat.reduceMul, Nat.reduceSub]
    exact ⟨rfl, rfl, by omega⟩
  · rintro m e g ⟨k, rfl, hk, h13, h14, h15, h5, hg, hn⟩
    have hcl := clamp_le n
    by_cases hk' : k < l.length
    · have hk1 : (k : Int) < l.length := by omega
      have hp := pairs_part hk'
      have hw : IntKind.i64.wrap ((k : Int) + 1) = ((k + 1 : Nat) : Int) := by rw [i64_wrap (by omega) (by omega)]; omega
      have ht := newR_take (n := clamp n) hk'
      have n1 : 5 ≠ g.nx + 1 + 2 := by omega
      have n2 : g.nx + 1 + 2 ≠ 5 := by omega
      generalize l.getD k (0, 0) = p at hp ht
      obtain ⟨a, b⟩ := p
      by_cases h1 : 0 ≤ a
      · by_cases h2 : a < clamp n
        · by_cases h3 : 0 ≤ b
          · by_cases h4 : b < clamp n
            · simp (disch := omega) only [wp, Nat.reduceAdd, Nat.reduceMul, Nat.reduceSub, h13, h14, h15, h5, hk1, hp, hg, h1, h2, h3, h4, hw, relC_n, relC_row, u_shl, u_or, relC_len, cellsOf_U, one_U, relC_set']
              refine ⟨_, ?_, k + 1, rfl, by omega, rfl, ?_, by show 5 < _; omega⟩
              · omega
              · rw [ht]
                simp [addR, inR, h1, h2, h3, h4]
            · simp (disch := omega) only [wp, Nat.reduceAdd, Nat.reduceMul, Nat.reduceSub, h13, h14, h15, h5, hk1, hp, hg, h1, h2, h3, h4, hw, relC_n]
              refine ⟨_, ?_, k + 1, rfl, by omega, rfl, ?_, by show 5 < _; omega⟩
              · omega
              · rw [ht]
                simp [addR, inR, h4]
          · simp (disch := omega) only [wp, Nat.reduceAdd, Nat.reduceMul, Nat.reduceSub, h13, h14, h15, h5, hk1, hp, hg, h1, h2, h3, hw, relC_n]
            refine ⟨_, ?_, k + 1, rfl, by omega, rfl, ?_, by show 5 < _; omega⟩
            · omega
            · rw [ht]
              simp [addR, inR, h3]
        · simp (disch := omega) only [wp, Nat.reduceAdd, Nat.reduceMul, Nat.reduceSub, h13, h14, h15, h5, hk1, hp, hg, h1, h2, hw, relC_n]
          refine ⟨_, ?_, k + 1, rfl, by omega, rfl, ?_, by show 5 < _; omega⟩
          · omega
          · rw [ht]
            simp [addR, inR, h2]
      · simp (disch := omega) only [wp, Nat.reduceAdd, Nat.reduceMul, Nat.reduceSub, h13, h14, h15, h5, hk1, hp, hg, h1, hw, relC_n]
        refine ⟨_, ?_, k + 1, rfl, by omega, rfl, ?_, by show 5 < _; omega⟩
        · omega
        · rw [ht]
          simp [addR, inR, h1]
    · have : k = l.length := by omega
      subst this
      have hk1 : ¬ ((l.length : Int) < l.length) := by omega
      simp (disch := omega) only [wp, Nat.reduceAdd, Nat.reduceMul, Nat.reduceSub, h13, h14, h15, h5, hk1, hg, relC_flat, List.take_length]
end Go.Ab
end
section
set_option linter.unusedVariables false
set_option linter.unusedSimpArgs false
namespace Go.Ab
variable {F : Funs}
theorem succ_wrap {k : Nat} (h : k < 9000000000000000000) : IntKind.i64.wrap ((k : Int) + 1) = ((k + 1 : Nat) : Int) := by rw [i64_wrap (by omega) (by omega)]; omega
def stepP (n b : Nat) (R : Rw) (a : Nat) : Rw := if has n R a b then upd R a (R a ||| R b) else R
def rowP (n b k : Nat) (R : Rw) : Rw := (List.range k).foldl (stepP n b) R
def plusK (n k : Nat) (R : Rw) : Rw := (List.range k).foldl (fun R b => rowP n b n R) R
def plusR (n : Nat) (R : Rw) : Rw := plusK n n R
theorem rowP_succ (n b k R) : rowP n b (k + 1) R = stepP n b (rowP n b k R) k := by simp [rowP, List.range_succ]
theorem plusK_succ (n k R) : plusK n (k + 1) R = rowP n k n (plusK n k R) := by simp [plusK, List.range_succ]
set_option maxHeartbeats 1000000 in
theorem sp_plus (pk : Pk_rel F) {n : Nat} (hn : n ≤ 40) (R : Rw) : pureS F 12 [.ptr (relC n R)] = some (.ptr (relC n (plusR n R))) := by
  refine pure_of pk.rel_Rel_Plus ?_
  simp (disch := omega) only [A_rel_Rel_Plus, wp, Nat.reduceAdd, Nat.reduceMul, Nat.reduceSub, rl]
  refine W_loop (fun m e g => ∃ k, m = n - k ∧ k ≤ n ∧ e 0 = .ptr (relC n R) ∧ e 12 = .i .i64 n ∧ e 13 = .i .i64 k ∧ e 3 = .mp 4 0 ∧ g.hp 4 = some (.cells (relC n (plusK n k R)) false) ∧ 4 < g.nx) n ?_ ?_
  · refine ⟨0, rfl, Nat.zero_le _, ?_⟩
    simp (disch := omega) only [wp, Nat.reduceAdd, Nat.reduceMul, Nat.reduceSub]
    exact ⟨rfl, rfl, by omega⟩
  · rintro m e g ⟨k, rfl, hk, h0, h12, h13, h3, hg, hnx⟩
    by_cases hk' : k < n
    · have hk1 : (k : Int) < n := by omega
      have hw := succ_wrap (k := k) (by omega)
      simp (disch := omega) only [wp, Nat.reduceAdd, Nat.reduceMul, Nat.reduceSub, h0, h12, h13, h3, hk1, rl]
      refine W_loop (fun m e g => ∃ j, m = n - j ∧ j ≤ n ∧ e 0 = .ptr (relC n R) ∧ e 12 = .i .i64 n ∧ e 13 = .i .i64 k ∧ e 3 = .mp 4 0 ∧ e 4 = .i .i64 k ∧ e 19 = .i .i64 n ∧ e 20 = .i .i64 j ∧ g.hp 4 = some (.cells (relC n (rowP n k j (plusK n k R))) false) ∧ 4 < g.nx) n ?_ ?_
      · refine ⟨0, rfl, Nat.zero_le _, ?_⟩
        simp (disch := omega) only [wp, Nat.reduceAdd, Nat.reduceMul, Nat.reduceSub, h0, h12, h13, h3, hg]
        exact ⟨rfl, rfl, by omega⟩
      · rintro m e g ⟨j, rfl, hj, h0, h12, h13, h3, h4, h19, h20, hg, hnx⟩
        by_cases hj' : j < n
        · have hj1 : (j : Int) < n := by omega
          have hwj := succ_wrap (k := j) (by omega)
          by_cases hh : has n (rowP n k j (plusK n k R)) j k = true
          · simp (disch := omega) only [wp, Nat.reduceAdd, Nat.reduceMul, Nat.reduceSub, h0, h12, h13, h3, h4, h19, h20, hj1, hg, rl, sp_has pk hn, hh, hwj]
            refine ⟨_, ?_, j + 1, rfl, by omega, rfl, ?_, by show 4 < _; omega⟩
            · omega
            · rw [rowP_succ, stepP, if_pos hh]
          · simp (disch := omega) only [wp, Nat.reduceAdd, Nat.reduceMul, Nat.reduceSub, h0, h12, h13, h3, h4, h19, h20, hj1, hg, rl, sp_has pk hn, hh, hwj]
            refine ⟨_, ?_, j + 1, rfl, by omega, rfl, ?_, by show 4 < _; omega⟩
            · omega
            · rw [rowP_succ, stepP, if_neg hh]
        · obtain rfl : j = n := by omega
          have hj1 : ¬ ((j : Int) < j) := by omega
          simp (disch := omega) only [wp, Nat.reduceAdd, Nat.reduceMul, Nat.reduceSub, h0, h12, h13, h3, h4, h19, h20, hj1, hg, hw]
          refine ⟨_, ?_, k + 1, rfl, by omega, rfl, ?_, by show 4 < _; omega⟩
          · omega
          · rw [plusK_succ]
    · obtain rfl : k = n := by omega
      have hk1 : ¬ ((k : Int) < k) := by omega
      simp (disch := omega) only [wp, Nat.reduceAdd, Nat.reduceMul, Nat.reduceSub, h0, h12, h13, h3, hk1, hg, rl]
      rfl
end Go.Ab
end
section
set_option linter.unusedVariables false
set_option linter.unusedSimpArgs false
namespace Go.Ab
variable {F : Funs}
theorem sp_len (pk : Pk_rel F) {n : Nat} (R : Rw) : pureS F 17 [.ptr (relC n R)] = some (.i .i64 n) := by
  refine pure_of pk.rel_Rel_Len ?_
  simp (disch := omega) only [A_rel_Rel_Len, wp, Nat.reduceAdd, Nat.reduceMul, Nat.reduceSub, rl]
def maybeK (k : Nat) (R : Rw) : Rw := (List.range k).foldl (fun R a => upd R a (R a ||| bit a)) R
theorem maybeK_succ (k R) : maybeK (k + 1) R = upd (maybeK k R) k (maybeK k R k ||| bit k) := by simp [maybeK, List.range_succ]
set_option maxHeartbeats 1000000 in
theorem sp_maybe (pk : Pk_rel F) {n : Nat} (hn : n ≤ 40) (R : Rw) : pureS F 16 [.ptr (relC n R)] = some (.ptr (relC n (maybeK n R))) := by
  refine pure_of pk.rel_Rel_Maybe ?_
  simp (disch := omega) only [A_rel_Rel_Maybe, wp, Nat.reduceAdd, Nat.reduceMul, Nat.reduceSub, rl]
  refine W_loop (fun m e g => ∃ k, m = n - k ∧ k ≤ n ∧ e 11 = .i .i64 n ∧ e 12 = .i .i64 k ∧ e 3 = .mp 4 0 ∧ g.hp 4 = some (.cells (relC n (maybeK k R)) false) ∧ 4 < g.nx) n ?_ ?_
  · refine ⟨0, rfl, Nat.zero_le _, ?_⟩
    simp (disch := omega) only [wp, Nat.reduceAdd, Nat.reduceMul, Nat.reduceSub]
    exact ⟨rfl, rfl, by omega⟩
  · rintro m e g ⟨k, rfl, hk, h11, h12, h3, hg, hnx⟩
    by_cases hk' : k < n
    · have hk1 : (k : Int) < n := by omega
      have hw := succ_wrap (k := k) (by omega)
      simp (disch := omega) only [wp, Nat.reduceAdd, Nat.reduceMul, Nat.reduceSub, h11, h12, h3, hk1, hg, rl, hw]
      refine ⟨_, ?_, k + 1, rfl, by omega, rfl, ?_, by show 4 < _; omega⟩
      · omega
      · rw [maybeK_succ]
    · obtain rfl : k = n := by omega
      have hk1 : ¬ ((k : Int) < k) := by omega
      simp (disch := omega) only [wp, Nat.reduceAdd, Nat.reduceMul, Nat.reduceSub, h11, h12, h3, hk1, hg, rl]
def loopsR (n : Nat) (R : Rw) : Bool := (List.range n).any fun a => has n (plusR n R) a a
set_option maxHeartbeats 1000000 in
theorem sp_loops (pk : Pk_rel F) {n : Nat} (hn : n ≤ 40) (R : Rw) : pureS F 14 [.ptr (relC n R)] = some (.b (loopsR n R)) := by
  refine pure_of pk.rel_Rel_Loops ?_
  simp (disch := omega) only [A_rel_Rel_Loops, wp, Nat.reduceAdd, Nat.reduceMul, Nat.reduceSub, rl, sp_plus pk hn]
  refine W_loop (fun m e g => ∃ k, m = n - k ∧ k ≤ n ∧ e 10 = .i .i64 n ∧ e 11 = .i .i64 k ∧ e 3 = .ptr (relC n (plusR n R)) ∧ ∀ a, a < k → has n (plusR n R) a a = false) n ?_ ?_
  · refine ⟨0, rfl, Nat.zero_le _, ?_⟩
    simp (disch := omega) only [wp, Nat.reduceAdd, Nat.reduceMul, Nat.reduceSub]
    exact ⟨rfl, fun a ha => absurd ha (Nat.not_lt_zero _)⟩
  · rintro m e g ⟨k, rfl, hk, h10, h11, h3, hall⟩
    by_cases hk' : k < n
    · have hk1 : (k : Int) < n := by omega
      have hw := succ_wrap (k := k) (by omega)
      by_cases hh : has n (plusR n R) k k = true
      · simp (disch := omega) only [wp, Nat.reduceAdd, Nat.reduceMul, Nat.reduceSub, h10, h11, h3, hk1, rl, hw, sp_has pk hn, hh]
        have : loopsR n R = true := List.any_eq_true.2 ⟨k, List.mem_range.2 hk', hh⟩
        rw [this]
      · simp (disch := omega) only [wp, Nat.reduceAdd, Nat.reduceMul, Nat.reduceSub, h10, h11, h3, hk1, rl, hw, sp_has pk hn, hh]
        refine ⟨_, ?_, k + 1, rfl, by omega, rfl, fun a ha => ?_⟩
        · omega
        · by_cases hak : a = k
          · subst hak; simpa using hh
          · exact hall a (by omega)
    · obtain rfl : k = n := by omega
      have hk1 : ¬ ((k : Int) < k) := by omega
      simp (disch := omega) only [wp, Nat.reduceAdd, Nat.reduceMul, Nat.reduceSub, h10, h11, h3, hk1, rl]
      have : loopsR k R = false := List.any_eq_false.2 fun a ha => by rw [hall a (List.mem_range.1 ha)]; simp
      rw [this]
def rowPr (n : Nat) (R : Rw) (a j : Nat) : List (Int × Int) := ((List.range j).filter fun (b : Nat) => has n R a b).map fun (b : Nat) => ((a : Int), (b : Int))
def pairsK (n k : Nat) (R : Rw) : List (Int × Int) := (List.range k).flatMap fun a => rowPr n R a n
def pairsR (n : Nat) (R : Rw) : List (Int × Int) := pairsK n n R
theorem pairsK_succ (n k R) : pairsK n (k + 1) R = pairsK n k R ++ rowPr n R k n := by simp [pairsK, List.range_succ]
theorem rowPr_succ (n R a j) : rowPr n R a (j + 1) = if has n R a j then rowPr n R a j ++ [((a : Int), (j : Int))] else rowPr n R a j := by
  unfold rowPr
  rw [List.range_succ, List.filter_append, List.filter_cons]
  split <;> simp
def partL (n k j : Nat) (R : Rw) : List (Int × Int) := pairsK n k R ++ rowPr n R k j
theorem partL_0 (n k R) : partL n k 0 R = pairsK n k R := by simp [partL, rowPr]
theorem partL_n (n k R) : partL n k n R = pairsK n (k + 1) R := (pairsK_succ n k R).symm
theorem partL_succ (n k j R) : partL n k (j + 1) R = if has n R k j then partL n k j R ++ [((k : Int), (j : Int))] else partL n k j R := by
  unfold partL
  rw [rowPr_succ]; split <;> simp
theorem pairsC_app (l m : List (Int × Int)) : pairsC (l ++ m) = pairsC l ++ pairsC m := by simp [pairsC]
theorem pairsC_one (a b : Int) : pairsC [(a, b)] = [.i .i64 a, .i .i64 b] := rfl
def Live (g : G) (esz : Nat) (t : Tok) : Prop := t = .rig ∨ ∃ τ, t = .own τ esz ∧ g.hp τ = some (.tok true) ∧ τ < g.nx
set_option maxHeartbeats 1000000 in
theorem sp_pairs (pk : Pk_rel F) {n : Nat} (hn : n ≤ 40) (R : Rw) : pureS F 15 [.ptr (relC n R)] = some (.sl (pairsC (pairsR n R)) (pairsR n R).length .non) := by
  refine pure_of pk.rel_Rel_Pairs ?_
  simp (disch := omega) only [A_rel_Rel_Pairs, wp, Nat.reduceAdd, Nat.reduceMul, Nat.reduceSub, rl]
  refine W_loop (fun m e g => ∃ k t, m = n - k ∧ k ≤ n ∧ e 0 = .ptr (relC n R) ∧ e 9 = .i .i64 n ∧ e 10 = .i .i64 k ∧ e 3 = .sl (pairsC (pairsK n k R)) (pairsK n k R).length t ∧ Live g 2 t ∧ (pairsK n k R).length ≤ 40 * k) n ?_ ?_
  · refine ⟨0, .rig, rfl, Nat.zero_le _, ?_⟩
    simp (disch := omega) only [wp, Nat.reduceAdd, Nat.reduceMul, Nat.reduceSub]
    exact ⟨rfl, rfl, .inl rfl, Nat.zero_le _⟩
  · rintro m e g ⟨k, t, rfl, hk, h0, h9, h10, h3, ht, hl⟩
    by_cases hk' : k < n
    · have hk1 : (k : Int) < n := by omega
      have hw := succ_wrap (k := k) (by omega)
      simp (disch := omega) only [wp, Nat.reduceAdd, Nat.reduceMul, Nat.reduceSub, h0, h9, h10, h3, hk1, rl]
      refine W_loop (fun m e g => ∃ j t, m = n - j ∧ j ≤ n ∧ e 0 = .ptr (relC n R) ∧ e 9 = .i .i64 n ∧ e 10 = .i .i64 k ∧ e 4 = .i .i64 k ∧ e 16 = .i .i64 n ∧ e 17 = .i .i64 j ∧ e 3 = .sl (pairsC (partL n k j R)) (partL n k j R).length t ∧ Live g 2 t ∧ (partL n k j R).length ≤ 40 * k + j) n ?_ ?_
      · refine ⟨0, t, rfl, Nat.zero_le _, ?_⟩
        simp (disch := omega) only [wp, Nat.reduceAdd, Nat.reduceMul, Nat.reduceSub, h0, h9, h10, h3]
        rw [partL_0]
        refine ⟨rfl, rfl, ?_, by omega⟩
        rcases ht with rfl | ⟨τ, rfl, hτ, hlt⟩
        · exact .inl rfl
        · exact .inr ⟨τ, rfl, hτ, Nat.lt_of_lt_of_le hlt (by dsimp only; omega)⟩
      · rintro m e g ⟨j, t, rfl, hj, h0, h9, h10, h4, h16, h17, h3, ht, hl⟩
        have hLn := partL_succ n k j R
        by_cases hj' : j < n
        · have hj1 : (j : Int) < n := by omega
          have hwj := succ_wrap (k := j) (by omega)
          by_cases hh : has n R k j = true
          · rw [if_pos hh] at hLn
            rcases ht with rfl | ⟨τ, rfl, hτ, hlt⟩
            · simp (disch := omega) only [wp, Nat.reduceAdd, Nat.reduceMul, Nat.reduceSub, h0, h9, h10, h4, h16, h17, h3, hj1, rl, sp_has pk hn, hh, hwj, pairsC_len]
              refine ⟨n - (j + 1), ?_, j + 1, ?_⟩
              · omega
              · rw [hLn, pairsC_app, pairsC_one, List.length_append]
                exact ⟨_, rfl, by omega, rfl, rfl, .inr ⟨_, rfl, upd_same _ _ _, by dsimp only; omega⟩, by simp; omega⟩
            · simp (disch := omega) only [wp, Nat.reduceAdd, Nat.reduceMul, Nat.reduceSub, h0, h9, h10, h4, h16, h17, h3, hj1, rl, sp_has pk hn, hh, hwj, pairsC_len, hτ]
              refine ⟨n - (j + 1), ?_, j + 1, ?_⟩
              · omega
              · rw [hLn, pairsC_app, pairsC_one, List.length_append]
                exact ⟨_, rfl, by omega, rfl, rfl, .inr ⟨_, rfl, upd_same _ _ _, by dsimp only; omega⟩, by simp; omega⟩
          · rw [if_neg hh] at hLn
            simp (disch := omega) only [wp, Nat.reduceAdd, Nat.reduceMul, Nat.reduceSub, h0, h9, h10, h4, h16, h17, h3, hj1, rl, sp_has pk hn, hh, hwj]
            refine ⟨_, ?_, j + 1, t, rfl, by omega, rfl, ?_⟩
            · omega
            · rw [hLn]
              refine ⟨rfl, ?_, by omega⟩
              rcases ht with rfl | ⟨τ, rfl, hτ, hlt⟩
              · exact .inl rfl
              · exact .inr ⟨τ, rfl, hτ, Nat.lt_of_lt_of_le hlt (by dsimp only; omega)⟩
        · obtain rfl : j = n := by omega
          have hj1 : ¬ ((j : Int) < j) := by omega
          simp (disch := omega) only [wp, Nat.reduceAdd, Nat.reduceMul, Nat.reduceSub, h0, h9, h10, h4, h16, h17, h3, hj1, hw]
          refine ⟨_, ?_, k + 1, t, rfl, by omega, rfl, ?_⟩
          · omega
          · rw [← partL_n]
            refine ⟨rfl, ?_, by omega⟩
            rcases ht with rfl | ⟨τ, rfl, hτ, hlt⟩
            · exact .inl rfl
            · exact .inr ⟨τ, rfl, hτ, Nat.lt_of_lt_of_le hlt (by dsimp only; omega)⟩
    · obtain rfl : k = n := by omega
      have hk1 : ¬ ((k : Int) < k) := by omega
      simp (disch := omega) only [wp, Nat.reduceAdd, Nat.reduceMul, Nat.reduceSub, h0, h9, h10, h3, hk1, rl]
      rfl
end Go.Ab
end
section
set_option linter.unusedVariables false
set_option linter.unusedSimpArgs false
namespace Go.Ab
variable {F : Funs}
def byK (φ : BitVec 64 → BitVec 64 → BitVec 64) (R S : Rw) (k : Nat) : Rw := fun a => if a < k then φ (R a) (S a) else 0
theorem byK_succ (φ R S k) : upd (byK φ R S k) k (φ (R k) (S k)) = byK φ R S (k + 1) := by
  funext a
  unfold upd byK
  by_cases h : a = k
  · subst h; simp
  · rw [if_neg h]
    by_cases h2 : a < k
    · rw [if_pos h2, if_pos (by omega)]
    · rw [if_neg h2, if_neg (by omega)]
theorem maxI (n m : Nat) : (if (n : Int) < m then (m : Int) else n) = ((max n m : Nat) : Int) := by split <;> omega
set_option maxHeartbeats 1000000 in
theorem sp_by (pk : Pk_rel F) {n m : Nat} (hn : n ≤ 40) (hm : m ≤ 40) (R S : Rw) {fid : Nat} {φ : BitVec 64 → BitVec 64 → BitVec 64} (hφ : ∀ x y, pureS F fid [U x, U y] = some (U (φ x y))) :
    pureS F 51 [.ptr (relC n R), .ptr (relC m S), .fn fid [] []] = some (.ptr (relC (max n m) fun a => φ (R a) (S a))) := by
  refine pure_of pk.rel_Rel_by ?_
  have hz : AV.i .i64 (max n m : Nat) :: List.replicate 40 (.i .u64 0) = relC (max n m) (byK φ R S 0) := rfl
  simp (disch := omega) only [A_rel_Rel_by, wp, Nat.reduceAdd, Nat.reduceMul, Nat.reduceSub, rl, maxI, hz, List.all_append, List.all_replicate]
  refine W_loop (fun q e g => ∃ k, q = 40 - k ∧ k ≤ 40 ∧ e 0 = .ptr (relC n R) ∧ e 1 = .ptr (relC m S) ∧ e 2 = .fn fid [] [] ∧ e 20 = .i .i64 k ∧ e 7 = .mp 11 0 ∧ g.hp 11 = some (.cells (relC (max n m) (byK φ R S k)) false) ∧ 11 < g.nx) 40 ?_ ?_
  · refine ⟨0, rfl, Nat.zero_le _, ?_⟩
    simp (disch := omega) only [wp, Nat.reduceAdd, Nat.reduceMul, Nat.reduceSub]
    exact ⟨rfl, by omega⟩
  · rintro q e g ⟨k, rfl, hk, h0, h1, h2, h20, h7, hg, hnx⟩
    by_cases hk' : k < 40
    · have hk1 : (k : Int) < 40 := by omega
      have hw := succ_wrap (k := k) (by omega)
      simp (disch := omega) only [wp, Nat.reduceAdd, Nat.reduceMul, Nat.reduceSub, h0, h1, h2, h20, h7, hk1, hg, rl, hw, hφ, byK_succ]
      refine ⟨40 - (k + 1), ?_, k + 1, rfl, by omega, rfl, rfl, by first | omega | (dsimp only; omega)⟩
      omega
    · obtain rfl : k = 40 := by omega
      have hk1 : ¬ (((40 : Nat) : Int) < 40) := by omega
      simp (disch := omega) only [wp, Nat.reduceAdd, Nat.reduceMul, Nat.reduceSub, h0, h1, h2, h20, h7, hg, rl, hk1]
      rw [relC_congr (R := byK φ R S 40) (S := fun a => φ (R a) (S a)) (fun a ha => by simp [byK, ha])]
theorem sp_or1 (pk : Pk_rel F) (x y : BitVec 64) : pureS F 53 [U x, U y] = some (U (x ||| y)) := by
  refine pure_of pk.rel_Rel_Or_1 ?_
  simp (disch := omega) only [A_rel_Rel_Or_1, wp, Nat.reduceAdd, Nat.reduceMul, Nat.reduceSub, rl]
theorem sp_and1 (pk : Pk_rel F) (x y : BitVec 64) : pureS F 52 [U x, U y] = some (U (x &&& y)) := by
  refine pure_of pk.rel_Rel_And_1 ?_
  simp (disch := omega) only [A_rel_Rel_And_1, wp, Nat.reduceAdd, Nat.reduceMul, Nat.reduceSub, rl]
structure RelLs (F : Funs) : Prop where
  rel_Rel_In : F 22 = some A_rel_Rel_In
  rel_Rel_Less : F 26 = some A_rel_Rel_Less
  rel_Rel_Less_1 : F 54 = some A_rel_Rel_Less_1
theorem sp_less1 (pk : RelLs F) (x y : BitVec 64) : pureS F 54 [U x, U y] = some (U (x &&& ~~~ y)) := by
  refine pure_of pk.rel_Rel_Less_1 ?_
  simp (disch := omega) only [A_rel_Rel_Less_1, wp, Nat.reduceAdd, Nat.reduceMul, Nat.reduceSub, rl]
def orR (R S : Rw) : Rw := fun a => R a ||| S a
def andR (R S : Rw) : Rw := fun a => R a &&& S a
def lessR (R S : Rw) : Rw := fun a => R a &&& ~~~ S a
theorem sp_or (pk : Pk_rel F) {n m : Nat} (hn : n ≤ 40) (hm : m ≤ 40) (R S : Rw) : pureS F 24 [.ptr (relC n R), .ptr (relC m S)] = some (.ptr (relC (max n m) (orR R S))) := by
  refine pure_of pk.rel_Rel_Or ?_
  simp (disch := omega) only [A_rel_Rel_Or, wp, Nat.reduceAdd, Nat.reduceMul, Nat.reduceSub, rl, sp_by pk hn hm R S (sp_or1 pk)]
  rfl
theorem sp_and (pk : Pk_rel F) {n m : Nat} (hn : n ≤ 40) (hm : m ≤ 40) (R S : Rw) : pureS F 18 [.ptr (relC n R), .ptr (relC m S)] = some (.ptr (relC (max n m) (andR R S))) := by
  refine pure_of pk.rel_Rel_And ?_
  simp (disch := omega) only [A_rel_Rel_And, wp, Nat.reduceAdd, Nat.reduceMul, Nat.reduceSub, rl, sp_by pk hn hm R S (sp_and1 pk)]
  rfl
theorem sp_less (ls : RelLs F) (pk : Pk_rel F) {n m : Nat} (hn : n ≤ 40) (hm : m ≤ 40) (R S : Rw) : pureS F 26 [.ptr (relC n R), .ptr (relC m S)] = some (.ptr (relC (max n m) (lessR R S))) := by
  refine pure_of ls.rel_Rel_Less ?_
  simp (disch := omega) only [A_rel_Rel_Less, wp, Nat.reduceAdd, Nat.reduceMul, Nat.reduceSub, rl, sp_by pk hn hm R S (sp_less1 ls)]
  rfl
theorem sp_in (ls : RelLs F) (pk : Pk_rel F) {n m : Nat} (hn : n ≤ 40) (hm : m ≤ 40) (R S : Rw) : pureS F 22 [.ptr (relC n R), .ptr (relC m S)] = some (.b (noneR (lessR R S))) := by
  refine pure_of ls.rel_Rel_In ?_
  simp (disch := omega) only [A_rel_Rel_In, wp, Nat.reduceAdd, Nat.reduceMul, Nat.reduceSub, rl, sp_less ls pk hn hm]
def stepT (n a : Nat) (R S : Rw) (T : Rw) (b : Nat) : Rw := if has n R a b then upd T a (T a ||| S b) else T
def rowT (n a k : Nat) (R S T : Rw) : Rw := (List.range k).foldl (stepT n a R S) T
def thenK (n k : Nat) (R S : Rw) : Rw := (List.range k).foldl (fun T a => rowT n a n R S T) (fun _ => 0)
def thenR (n : Nat) (R S : Rw) : Rw := thenK n n R S
theorem rowT_succ (n a k R S T) : rowT n a (k + 1) R S T = stepT n a R S (rowT n a k R S T) k := by simp [rowT, List.range_succ]
theorem thenK_succ (n k R S) : thenK n (k + 1) R S = rowT n k n R S (thenK n k R S) := by simp [thenK, List.range_succ]
set_option maxHeartbeats 1000000 in
theorem sp_then (pk : Pk_rel F) {n m : Nat} (hn : n ≤ 40) (hm : m ≤ 40) (R S : Rw) : pureS F 23 [.ptr (relC n R), .ptr (relC m S)] = some (.ptr (relC (max n m) (thenR n R S))) := by
  refine pure_of pk.rel_Rel_Then ?_
  have hz : AV.i .i64 (max n m : Nat) :: List.replicate 40 (.i .u64 0) = relC (max n m) (thenK n 0 R S) := rfl
  simp (disch := omega) only [A_rel_Rel_Then, wp, Nat.reduceAdd, Nat.reduceMul, Nat.reduceSub, rl, maxI, hz, List.all_append, List.all_replicate]
  refine W_loop (fun q e g => ∃ k, q = n - k ∧ k ≤ n ∧ e 0 = .ptr (relC n R) ∧ e 1 = .ptr (relC m S) ∧ e 22 = .i .i64 n ∧ e 23 = .i .i64 k ∧ e 5 = .mp 11 0 ∧ g.hp 11 = some (.cells (relC (max n m) (thenK n k R S)) false) ∧ 11 < g.nx) n ?_ ?_
  · refine ⟨0, rfl, Nat.zero_le _, ?_⟩
    simp (disch := omega) only [wp, Nat.reduceAdd, Nat.reduceMul, Nat.reduceSub]
    exact ⟨rfl, by omega⟩
  · rintro q e g ⟨k, rfl, hk, h0, h1, h22, h23, h5, hg, hnx⟩
    by_cases hk' : k < n
    · have hk1 : (k : Int) < n := by omega
      have hw := succ_wrap (k := k) (by omega)
      simp (disch := omega) only [wp, Nat.reduceAdd, Nat.reduceMul, Nat.reduceSub, h0, h1, h22, h23, h5, hk1, rl]
      refine W_loop (fun q e g => ∃ j, q = n - j ∧ j ≤ n ∧ e 0 = .ptr (relC n R) ∧ e 1 = .ptr (relC m S) ∧ e 22 = .i .i64 n ∧ e 23 = .i .i64 k ∧ e 6 = .i .i64 k ∧ e 29 = .i .i64 n ∧ e 30 = .i .i64 j ∧ e 5 = .mp 11 0 ∧ g.hp 11 = some (.cells (relC (max n m) (rowT n k j R S (thenK n k R S))) false) ∧ 11 < g.nx) n ?_ ?_
      · refine ⟨0, rfl, Nat.zero_le _, ?_⟩
        simp (disch := omega) only [wp, Nat.reduceAdd, Nat.reduceMul, Nat.reduceSub, h0, h1, h22, h23, h5, hg]
        exact ⟨rfl, rfl, by omega⟩
      · rintro q e g ⟨j, rfl, hj, h0, h1, h22, h23, h6, h29, h30, h5, hg, hnx⟩
        by_cases hj' : j < n
        · have hj1 : (j : Int) < n := by omega
          have hwj := succ_wrap (k := j) (by omega)
          by_cases hh : has n R k j = true
          · simp (disch := omega) only [wp, Nat.reduceAdd, Nat.reduceMul, Nat.reduceSub, h0, h1, h22, h23, h6, h29, h30, h5, hj1, hg, rl, sp_has pk hn, hh, hwj]
            refine ⟨n - (j + 1), ?_, j + 1, rfl, by omega, rfl, ?_, by first | omega | (dsimp only; omega)⟩
            · omega
            · rw [rowT_succ, stepT, if_pos hh]
          · simp (disch := omega) only [wp, Nat.reduceAdd, Nat.reduceMul, Nat.reduceSub, h0, h1, h22, h23, h6, h29, h30, h5, hj1, hg, rl, sp_has pk hn, hh, hwj]
            refine ⟨n - (j + 1), ?_, j + 1, rfl, by omega, rfl, ?_, by first | omega | (dsimp only; omega)⟩
            · omega
            · rw [rowT_succ, stepT, if_neg hh]
        · obtain rfl : j = n := by omega
          have hj1 : ¬ ((j : Int) < j) := by omega
          simp (disch := omega) only [wp, Nat.reduceAdd, Nat.reduceMul, Nat.reduceSub, h0, h1, h22, h23, h6, h29, h30, h5, hj1, hg, hw]
          refine ⟨j - (k + 1), ?_, k + 1, rfl, by omega, rfl, ?_, by first | omega | (dsimp only; omega)⟩
          · omega
          · rw [thenK_succ]
    · obtain rfl : k = n := by omega
      have hk1 : ¬ ((k : Int) < k) := by omega
      simp (disch := omega) only [wp, Nat.reduceAdd, Nat.reduceMul, Nat.reduceSub, h0, h1, h22, h23, h5, hk1, hg, rl]
      rfl
theorem pairsR_mem {n : Nat} {R : Rw} {p : Int × Int} (h : p ∈ pairsR n R) : 0 ≤ p.1 ∧ p.1 < n ∧ 0 ≤ p.2 ∧ p.2 < n := by
  simp only [pairsR, pairsK, rowPr, List.mem_flatMap, List.mem_map, List.mem_filter, List.mem_range] at h
  obtain ⟨a, ha, b, ⟨hb, _⟩, rfl⟩ := h
  simp only
  omega
theorem pairsK_len (n k : Nat) (R : Rw) : (pairsK n k R).length ≤ k * n := by
  induction k with
  | zero => simp [pairsK]
  | succ k ih =>
    rw [pairsK_succ, List.length_append, Nat.succ_mul]
    have : (rowPr n R k n).length ≤ n := by
      unfold rowPr
      rw [List.length_map]
      exact Nat.le_trans (List.length_filter_le _ _) (by simp)
    omega
theorem pairsR_len {n : Nat} (hn : n ≤ 40) (R : Rw) : (pairsR n R).length ≤ 1600 := by
  have h1 := pairsK_len n n R
  have h2 : n * n ≤ 40 * 40 := Nat.mul_le_mul hn hn
  show (pairsK n n R).length ≤ 1600
  omega
end Go.Ab
end
section
set_option linter.unusedVariables false
set_option linter.unusedSimpArgs false
namespace Go.Ab
def hb (R : Rw) (a b : Nat) : Bool := (R a).getLsbD b
def hN (n : Nat) (R : Rw) (a b : Nat) : Bool := decide (a < n) && decide (b < n) && hb R a b
def Wf (n : Nat) (R : Rw) : Prop := ∀ a b, hb R a b = true → a < n ∧ b < n
theorem has_N (n : Nat) (R : Rw) (a b : Nat) : has n R a b = hN n R a b := by
  unfold has hN hb
  have : decide (0 ≤ (a : Int) ∧ (a : Int) < n ∧ 0 ≤ (b : Int) ∧ (b : Int) < n) = (decide (a < n) && decide (b < n)) := by
    rw [Bool.eq_iff_iff]; simp
  rw [this]; rfl
theorem hN_wf {n : Nat} {R : Rw} (h : Wf n R) (a b : Nat) : hN n R a b = hb R a b := by
  unfold hN
  cases hh : hb R a b with
  | false => simp
  | true => obtain ⟨h1, h2⟩ := h a b hh; simp [h1, h2]
theorem rw_ext {R S : Rw} (h : ∀ a b, b < 64 → hb R a b = hb S a b) : R = S := by
  funext a
  exact BitVec.eq_of_getLsbD_eq fun b hb' => h a b hb'
theorem bit_get {a b : Nat} (ha : a < 64) : (bit a).getLsbD b = decide (b = a) := by
  unfold bit
  rw [BitVec.getLsbD_shiftLeft]
  by_cases h : b = a
  · subst h; simp [ha]
  · by_cases h2 : b < a
    · simp [h, h2]
    · have : b - a ≠ 0 := by omega
      simp [h, h2]
      intro _
      omega
theorem hb_upd (R : Rw) (x : BitVec 64) (c a b : Nat) : hb (upd R c x) a b = if a = c then x.getLsbD b else hb R a b := by
  unfold hb upd; split <;> rfl
theorem hb_zero (a b : Nat) : hb (fun _ => 0) a b = false := by simp [hb]
theorem hb_add {n : Nat} (hn : n ≤ 40) (R : Rw) (p : Int × Int) (a b : Nat) : hb (addR n R p) a b = (hb R a b || (inR n p && decide (p = ((a : Int), (b : Int))))) := by
  unfold addR
  by_cases h : inR n p = true
  · rw [if_pos h, hb_upd, h]
    obtain ⟨x, y⟩ := p
    simp only [inR, decide_eq_true_eq] at h
    by_cases ha : a = x.toNat
    · subst ha
      rw [if_pos rfl, BitVec.getLsbD_or, bit_get (by omega)]
      congr 1
      simp only [Bool.true_and]
      rw [decide_eq_decide]
      simp only [Prod.mk.injEq]
      omega
    · rw [if_neg ha]
      have : ¬ ((x, y) = ((a : Int), (b : Int))) := by simp only [Prod.mk.injEq]; omega
      simp [this]
  · rw [if_neg h]
    simp only [Bool.not_eq_true] at h
    simp [h]
theorem hb_new {n : Nat} (hn : n ≤ 40) (l : List (Int × Int)) (a b : Nat) : hb (newR n l) a b = (decide (a < n) && decide (b < n) && l.any fun p => decide (p = ((a : Int), (b : Int)))) := by
  have key : ∀ (l : List (Int × Int)) (R : Rw), hb (l.foldl (addR n) R) a b = (hb R a b || (decide (a < n) && decide (b < n) && l.any fun p => decide (p = ((a : Int), (b : Int))))) := by
    intro l
    induction l with
    | nil => intro R; simp
    | cons p l ih =>
      intro R
      rw [List.foldl_cons, ih, hb_add hn, List.any_cons]
      by_cases hp : p = ((a : Int), (b : Int))
      · subst hp
        have : inR n ((a : Int), (b : Int)) = (decide (a < n) && decide (b < n)) := by
          unfold inR; rw [Bool.eq_iff_iff]; simp
        rw [this]
        cases hb R a b <;> cases decide (a < n) <;> cases decide (b < n) <;> simp
      · simp [hp]
  unfold newR
  rw [key l, hb_zero]; rfl
theorem wf_new {n : Nat} (hn : n ≤ 40) (l : List (Int × Int)) : Wf n (newR n l) := by
  intro a b h
  rw [hb_new hn] at h
  simp at h; omega
theorem hb_or (R S : Rw) (a b : Nat) : hb (orR R S) a b = (hb R a b || hb S a b) := by simp [hb, orR]
theorem hb_and (R S : Rw) (a b : Nat) : hb (andR R S) a b = (hb R a b && hb S a b) := by simp [hb, andR]
theorem hb_less (R S : Rw) (a b : Nat) : hb (lessR R S) a b = (hb R a b && !hb S a b) := by
  unfold hb lessR
  rw [BitVec.getLsbD_and, BitVec.getLsbD_not]
  by_cases h : b < 64
  · simp [h]
  · simp [BitVec.getLsbD_of_ge (R a) b (by omega)]
theorem wf_or {n : Nat} {R S : Rw} (h : Wf n R) (k : Wf n S) : Wf n (orR R S) := fun a b hh => by
  rw [hb_or, Bool.or_eq_true] at hh; exact hh.elim (h a b) (k a b)
theorem wf_and {n : Nat} {R S : Rw} (h : Wf n R) : Wf n (andR R S) := fun a b hh => by
  rw [hb_and, Bool.and_eq_true] at hh; exact h a b hh.1
theorem wf_less {n : Nat} {R S : Rw} (h : Wf n R) : Wf n (lessR R S) := fun a b hh => by
  rw [hb_less, Bool.and_eq_true] at hh; exact h a b hh.1
theorem noneR_iff {n : Nat} {R : Rw} (hn : n ≤ 40) (h : Wf n R) : noneR R = true ↔ ∀ a b, hb R a b = false := by
  unfold noneR
  rw [List.all_eq_true]
  simp only [List.mem_range, beq_iff_eq]
  constructor
  · intro hh a b
    by_cases ha : a < 40
    · unfold hb; rw [hh a ha]; simp
    · cases hc : hb R a b with
      | false => rfl
      | true => obtain ⟨h1, h2⟩ := h a b hc; omega
  · intro hh a _
    refine BitVec.eq_of_getLsbD_eq fun b _ => ?_
    have := hh a b
    unfold hb at this
    rw [this]; simp
theorem in_iff {n : Nat} {R S : Rw} (hn : n ≤ 40) (h : Wf n R) : noneR (lessR R S) = true ↔ ∀ a b, hb R a b = true → hb S a b = true := by
  rw [noneR_iff hn (wf_less h)]
  simp only [hb_less]
  constructor
  · intro hh a b h1
    have := hh a b
    rw [h1] at this
    simpa using this
  · intro hh a b
    cases h1 : hb R a b with
    | false => rfl
    | true => simp [hh a b h1]
theorem hb_maybeK (R : Rw) (k a b : Nat) (hk : k ≤ 64) : hb (maybeK k R) a b = (hb R a b || (decide (a < k) && decide (b = a))) := by
  induction k with
  | zero => simp [maybeK]
  | succ k ih =>
    rw [maybeK_succ, hb_upd]
    by_cases h : a = k
    · subst h
      rw [if_pos rfl, BitVec.getLsbD_or, bit_get (by omega)]
      have := ih (by omega)
      unfold hb at this ⊢
      rw [this]; simp
    · rw [if_neg h, ih (by omega)]
      have : decide (a < k) = decide (a < k + 1) := by rw [decide_eq_decide]; omega
      rw [this]
theorem hb_rowT (n a : Nat) (R S T : Rw) (k : Nat) (x y : Nat) : hb (rowT n a k R S T) x y = (hb T x y || (decide (x = a) && (List.range k).any fun b => hN n R a b && hb S b y)) := by
  induction k with
  | zero => simp [rowT]
  | succ k ih =>
    rw [rowT_succ, stepT, List.range_succ, List.any_append, has_N]
    by_cases hh : hN n R a k = true
    · rw [if_pos hh, hb_upd]
      by_cases hx : x = a
      · subst hx
        rw [if_pos rfl, BitVec.getLsbD_or]
        have := ih
        unfold hb at this ⊢
        rw [this]
        simp [hh, Bool.or_assoc, hb]
      · rw [if_neg hx, ih]; simp [hx]
    · rw [if_neg hh, ih]
      simp [hh]
theorem hb_thenK (n : Nat) (R S : Rw) (k : Nat) (x y : Nat) : hb (thenK n k R S) x y = (decide (x < k) && (List.range n).any fun b => hN n R x b && hb S b y) := by
  induction k with
  | zero => simp [thenK, hb]
  | succ k ih =>
    rw [thenK_succ, hb_rowT, ih]
    by_cases hx : x = k
    · subst hx; simp
    · have : decide (x < k) = decide (x < k + 1) := by rw [decide_eq_decide]; omega
      rw [this]; simp [hx]
theorem hb_then {n : Nat} {R S : Rw} (hR : Wf n R) (a b : Nat) : hb (thenR n R S) a b = true ↔ ∃ c, hb R a c = true ∧ hb S c b = true := by
  unfold thenR
  rw [hb_thenK]
  simp only [Bool.and_eq_true, decide_eq_true_eq, List.any_eq_true, List.mem_range, hN_wf hR]
  constructor
  · rintro ⟨_, c, _, h1, h2⟩; exact ⟨c, h1, h2⟩
  · rintro ⟨c, h1, h2⟩; obtain ⟨h3, h4⟩ := hR a c h1; exact ⟨h3, c, h4, h1, h2⟩
theorem wf_then {n : Nat} {R S : Rw} (hR : Wf n R) (hS : Wf n S) : Wf n (thenR n R S) := fun a b h => by
  obtain ⟨c, h1, h2⟩ := (hb_then hR a b).1 h
  exact ⟨(hR a c h1).1, (hS c b h2).2⟩
inductive Thru (r : Nat → Nat → Prop) (k : Nat) : Nat → Nat → Prop
  | one {a b} : r a b → Thru r k a b
  | join {a c b} : c < k → Thru r k a c → Thru r k c b → Thru r k a b
theorem Thru.mono {r : Nat → Nat → Prop} {k k' : Nat} (h : k ≤ k') {a b : Nat} (t : Thru r k a b) : Thru r k' a b := by
  induction t with
  | one h => exact .one h
  | join hc _ _ ih1 ih2 => exact .join (by omega) ih1 ih2
theorem hb_rowP {n b : Nat} (hb' : b < n) (R : Rw) (hR : Wf n R) (k : Nat) (hk : k ≤ n) (x y : Nat) : hb (rowP n b k R) x y = (hb R x y || (decide (x < k) && hb R x b && hb R b y)) := by
  induction k generalizing x y with
  | zero => simp [rowP]
  | succ k ih =>
    have ih := fun x y => ih (by omega) x y
    have hwf : Wf n (rowP n b k R) := fun x y h => by
      rw [ih] at h
      simp at h
      rcases h with h | ⟨⟨_, h1⟩, h2⟩
      · exact hR x y h
      · exact ⟨(hR x b h1).1, (hR b y h2).2⟩
    have hrow : rowP n b k R b = R b := by
      refine BitVec.eq_of_getLsbD_eq fun y _ => ?_
      have := ih b y
      unfold hb at this
      rw [this]
      cases (R b).getLsbD y <;> cases (R b).getLsbD b <;> simp
    rw [rowP_succ, stepP, has_N, hN_wf hwf, ih k b]
    have hkb : (hb R k b || (decide (k < k) && hb R k b && hb R b b)) = hb R k b := by simp
    rw [hkb]
    by_cases hh : hb R k b = true
    · rw [if_pos hh, hb_upd]
      by_cases hx : x = k
      · subst hx
        rw [if_pos rfl, BitVec.getLsbD_or, hrow]
        have := ih x y
        unfold hb at this hh ⊢
        rw [this]
        simp [hh]
      · rw [if_neg hx, ih]
        have : decide (x < k) = decide (x < k + 1) := by rw [decide_eq_decide]; omega
        rw [this]
    · rw [if_neg hh, ih]
      by_cases hx : x = k
      · subst hx; simp [hh]
      · have : decide (x < k) = decide (x < k + 1) := by rw [decide_eq_decide]; omega
        rw [this]
inductive Steps' (r : Nat → Nat → Prop) : Nat → Nat → Prop
  | one {a b} : r a b → Steps' r a b
  | join {a c b} : Steps' r a c → Steps' r c b → Steps' r a b
end Go.Ab
end
section
set_option linter.unusedVariables false
set_option linter.unusedSimpArgs false
namespace Go.Ab
variable {F : Funs}
theorem t1_neg (u n : Int) (e1 : u % n + n * (u / n) = u) : -u = (n - u % n) + n * (-(u / n) - 1) := by
  have e2 : n * (-(u / n) - 1) = -(n * (u / n)) - n := by rw [Int.mul_sub, Int.mul_neg, Int.mul_one]
  rw [e2]
  generalize n * (u / n) = c at *
  generalize u % n = b at *
  omega
theorem tmod_cases {v n : Int} (hn : 0 < n) : (if v.tmod n < 0 then v.tmod n + n else v.tmod n) = v % n := by
  have h2 := Int.emod_nonneg v (by omega : n ≠ 0)
  have h3 := Int.emod_lt_of_pos v hn
  by_cases hv : 0 ≤ v
  · rw [Int.tmod_eq_emod_of_nonneg hv, if_neg (by omega)]
  · obtain ⟨u, rfl⟩ : ∃ u, v = -u := ⟨-v, by omega⟩
    rw [Int.neg_tmod, Int.tmod_eq_emod_of_nonneg (by omega : 0 ≤ u)]
    have h4 := Int.emod_nonneg u (by omega : n ≠ 0)
    have h5 := Int.emod_lt_of_pos u hn
    have e1 := Int.emod_add_mul_ediv u n
    by_cases h6 : u % n = 0
    · rw [h6, Int.neg_zero, if_neg (by omega)]
      exact (Int.emod_eq_zero_of_dvd (Int.dvd_neg.2 (Int.dvd_of_emod_eq_zero h6))).symm
    · rw [if_pos (by omega)]
      have e3 : (-u) % n = n - u % n := by
        rw [t1_neg u n e1, Int.add_mul_emod_self_left, Int.emod_eq_of_lt (by omega) (by omega)]
      rw [e3]
      omega
theorem tmod_bound {v n : Int} (hn : 0 < n) : -n ≤ v.tmod n ∧ v.tmod n < n := by
  refine ⟨?_, Int.tmod_lt_of_pos v hn⟩
  have h1 := tmod_cases (v := v) hn
  have h2 := Int.emod_nonneg v (by omega : n ≠ 0)
  split at h1 <;> omega
def place (v n : Int) : Int := v % n
theorem place_lt {v n : Int} (hn : 0 < n) : 0 ≤ place v n ∧ place v n < n := ⟨Int.emod_nonneg v (by omega), Int.emod_lt_of_pos v hn⟩
theorem sp_place (h10 : F 10 = some A_xlaw00_Place) {v n : Int} (hn : 0 < n) (hb : n ≤ 4611686018427387904) : pureS F 10 [.i .i64 v, .i .i64 n] = some (.i .i64 (place v n)) := by
  refine pure_of h10 ?_
  have h1 := tmod_cases (v := v) hn
  obtain ⟨h2, h3⟩ := tmod_bound (v := v) hn
  unfold place
  by_cases h : v.tmod n < 0
  · have hw : IntKind.i64.wrap (v.tmod n + n) = v.tmod n + n := i64_wrap (by omega) (by omega)
    rw [if_pos h] at h1
    simp (disch := omega) only [A_xlaw00_Place, wp, Nat.reduceAdd, Nat.reduceMul, Nat.reduceSub, b_rem, h, hw]
    rw [h1]
  · rw [if_neg h] at h1
    simp (disch := omega) only [A_xlaw00_Place, wp, Nat.reduceAdd, Nat.reduceMul, Nat.reduceSub, b_rem, h]
    rw [h1]
end Go.Ab
end
section
set_option linter.unusedVariables false
set_option linter.unusedSimpArgs false
namespace Go.Ab
variable {F : Funs}
theorem ints_part {l : List Int} {k : Nat} (h : k < l.length) : part ((intsC l).drop (k * 1)) 0 none = some (.i .i64 (l.getD k 0)) := by
  simp only [part, intsC, List.getElem?_drop, Nat.mul_one, Nat.add_zero, List.getElem?_map, List.getElem?_eq_getElem h, Option.map_some, List.getD_eq_getElem?_getD, Option.getD_some]
theorem Steps'.mono {r s : Nat → Nat → Prop} (h : ∀ a b, r a b → s a b) {a b : Nat} (t : Steps' r a b) : Steps' s a b := by
  induction t with
  | one h' => exact .one (h _ _ h')
  | join _ _ i1 i2 => exact .join i1 i2
theorem Steps'.first {r : Nat → Nat → Prop} {a b : Nat} (t : Steps' r a b) : r a b ∨ ∃ c, r a c ∧ Steps' r c b := by
  induction t with
  | one h => exact .inl h
  | @join a c b t1 t2 i1 i2 =>
    rcases i1 with h | ⟨d, h1, h2⟩
    · exact .inr ⟨c, h, t2⟩
    · exact .inr ⟨d, h1, .join h2 t2⟩
end Go.Ab
end
section
set_option linter.unusedVariables false
set_option linter.unusedSimpArgs false
namespace Go.Ab
noncomputable def vRaw (F : Funs) (al : Nat → Bool) (id : Nat) (f : AV) (args : List AV) (g : G) : Option (AV × G) := vCall (callS F) al id .raw f args g
theorem o_raw {F : Funs} {al lo id e g} (f : Opd) (asx : List Opd) : opE (callS F) al lo id (.call .raw f asx) e g = vRaw F al id (f.ev e) (asx.map (·.ev e)) g := rfl
theorem vRaw_fn {F : Funs} {al id fid fst caps args g} : vRaw F al id (.fn fid fst caps) args g = callS F fid (fst ++ args ++ caps) g := rfl
theorem bindO_call {F : Funs} {d b j dst os e K fid asx g} (P : AV → G → Prop) (h : ∃ v g', callS F fid asx g = some (v, g') ∧ P v g') (hk : ∀ v g', P v g' → WR F d b j os (put e dst v) g' K) : bindO F d b j dst os e K (callS F fid asx g) := by
  obtain ⟨v, g', h1, h2⟩ := h
  rw [h1]
  exact hk v g' h2
def retP (rs : List ARes) (P : AV → G → Prop) : Out → Env → G → Prop
  | .ext _, _, _ => False
  | _, e, g => ∃ v, resE rs e g = some v ∧ P v g
theorem retP_nrm {rs P e g} : retP rs P .nrm e g = (∃ v, resE rs e g = some v ∧ P v g) := rfl
theorem retP_ret {rs P e g} : retP rs P .ret e g = (∃ v, resE rs e g = some v ∧ P v g) := rfl
theorem raw_of {F : Funs} {f : Nat} {fn : AFun} {asx : List AV} {g : G} {P : AV → G → Prop} (hF : F f = some fn) (h : W F fn.body (argEnv asx) g (retP fn.res P)) : ∃ v g', callS F f asx g = some (v, g') ∧ P v g' := by
  obtain ⟨o, e, g', h1, h2⟩ := h
  rw [callS_eq, hF]
  simp only [h1]
  cases o with
  | ext n => exact h2.elim
  | nrm =>
    obtain ⟨v, h3, h4⟩ := h2
    exact ⟨v, g', by simp only [h3, Option.map_some], h4⟩
  | ret =>
    obtain ⟨v, h3, h4⟩ := h2
    exact ⟨v, g', by simp only [h3, Option.map_some], h4⟩
theorem res_0 (e g) : resE [] e g = some (.tup []) := rfl
def mgS (k : ByteArray) (g : G) : Option Blk → Option (AV × G)
  | some (.map es) => vMap g (mlook es k)
  | _ => none
theorem o_mget {c : CS} {al : Nat → Bool} {lo id : Nat} {e : Env} {g : G} (m k) : opE c al lo id (.mget m k) e g = vMget al (m.ev e) (k.ev e) g := rfl
theorem vMget_S {al : Nat → Bool} {g : G} (b k) : vMget al (.mm b) (.s k) g = mgS k g (selB (al b) (g.hp b)) := by
  simp only [vMget, rd_S]
  cases selB (al b) (g.hp b) with
  | none => rfl
  | some bl => cases bl <;> rfl
theorem mgS_map (k g es) : mgS k g (some (.map es)) = vMap g (mlook es k) := rfl
theorem o_mkmap {c : CS} {al : Nat → Bool} {lo id : Nat} {e : Env} {g : G} : opE c al lo id .mkmap e g = some (.mm id, ⟨upd g.hp id (some (.map [])), g.nx⟩) := rfl
theorem o_mput {c : CS} {al : Nat → Bool} {lo id : Nat} {e : Env} {g : G} (m k v) : opE c al lo id (.mput m k v) e g = vMput al (m.ev e) (k.ev e) (v.ev e) g := rfl
def mpO (b : Nat) (k : ByteArray) (v : AV) (es : List (AV × AV)) (g : G) (x : Bool) : Option AV → Option (AV × G)
  | none => if x then some (.undef, ⟨upd g.hp b (some (.map (es ++ [(.s k, v)]))), g.nx⟩) else none
  | some _ => none
def mpS (b : Nat) (k : ByteArray) (v : AV) (g : G) (x : Bool) : Option Blk → Option (AV × G)
  | some (.map es) => mpO b k v es g x (mlook es k)
  | _ => none
theorem vMput_S {al : Nat → Bool} {g : G} (b k v) : vMput al (.mm b) (.s k) v g = mpS b k v g (one v) (selB (al b) (g.hp b)) := by
  simp only [vMput, rd_S]
  cases selB (al b) (g.hp b) with
  | none => rfl
  | some bl =>
    cases bl with
    | map es => simp only [mpS]; cases mlook es k <;> rfl
    | cells _ _ => rfl
    | tok _ => rfl
theorem mpS_map (b k v g x es) : mpS b k v g x (some (.map es)) = mpO b k v es g x (mlook es k) := rfl
theorem mpO_none (b k v es g) : mpO b k v es g true none = some (.undef, ⟨upd g.hp b (some (.map (es ++ [(.s k, v)]))), g.nx⟩) := rfl
theorem frz_d_agg {hp cs ds} (h : frzL hp 8 cs = some ds) : frz hp depth (.agg cs) = some (.agg ds) := by
  show frz hp (8 + 1) _ = _
  simp only [frz, h, Option.map_some]
end Go.Ab
end
section
set_option linter.unusedVariables false
set_option linter.unusedSimpArgs false
namespace Go.Ab
structure Ev where
  th : Int
  kd : Int
  md : Int
  lc : Int
  vl : Int
  ex : Bool
structure Gr where
  locs : Int
  evs : List Ev
  rf : List Int
  co : List (List Int)
  rmw : List (Int × Int)
  data : List (Int × Int)
  ctrl : List (Int × Int)
  ctrli : List (Int × Int)
def ev0 : Ev := ⟨0, 0, 0, 0, 0, false⟩
def evC (e : Ev) : List AV := [.i .i64 e.th, .i .i64 e.kd, .i .i64 e.md, .i .i64 e.lc, .i .i64 e.vl, .b e.ex]
def evsC (l : List Ev) : List AV := l.flatMap evC
def coC (l : List (List Int)) : List AV := l.map fun c => .sl (intsC c) c.length .non
def grC (g : Gr) : List AV := [.i .i64 g.locs, .sl (evsC g.evs) g.evs.length .non, .sl (intsC g.rf) g.rf.length .non, .sl (coC g.co) g.co.length .non,
  .sl (pairsC g.rmw) g.rmw.length .non, .sl (pairsC g.data) g.data.length .non, .sl (pairsC g.ctrl) g.ctrl.length .non, .sl (pairsC g.ctrli) g.ctrli.length .non]
theorem evsC_len (l : List Ev) : (evsC l).length = l.length * 6 := by
  induction l with
  | nil => rfl
  | cons p l ih => simp only [evsC, List.flatMap_cons, List.length_append, List.length_cons, evC, List.length_nil] at ih ⊢; omega
theorem ev_part : ∀ {l : List Ev} {k : Nat} (h : k < l.length), part ((evsC l).drop (k * 6)) 0 (some 6) = some (.agg (evC (l.getD k ev0)))
  | p :: l, 0, _ => by simp [evsC, part, evC]
  | p :: l, k + 1, h => by
    have := ev_part (l := l) (k := k) (by simpa using h)
    simp only [List.getD_cons_succ]
    rw [← this]
    simp [evsC, Nat.succ_mul, evC]
theorem coC_len (l : List (List Int)) : (coC l).length = l.length := by simp [coC]
theorem co_part {l : List (List Int)} {k : Nat} (h : k < l.length) : part ((coC l).drop (k * 1)) 0 none = some (.sl (intsC (l.getD k [])) (l.getD k []).length .non) := by
  simp only [part, coC, List.getElem?_drop, Nat.mul_one, Nat.add_zero, List.getElem?_map, List.getElem?_eq_getElem h, Option.map_some, List.getD_eq_getElem?_getD, Option.getD_some]
theorem splice_ev (e : Ev) : splice (List.replicate 5 (AV.i .i64 0) ++ [.b false]) 0 (evC e) = evC e := rfl
theorem part_22 (a b : AV) : part [a, b] 0 (some 2) = some (.agg [a, b]) := rfl
theorem evC_len (e : Ev) : (evC e).length = 6 := rfl
theorem evC_one (e : Ev) : (evC e).all one = true := rfl
theorem evC_flat (e : Ev) : (evC e).all flat = true := rfl
theorem evC_all (e : Ev) : part (evC e) 0 (some 6) = some (.agg (evC e)) := rfl
theorem ev_th (e : Ev) : part (evC e) 0 none = some (.i .i64 e.th) := rfl
theorem ev_kd (e : Ev) : part (evC e) 1 none = some (.i .i64 e.kd) := rfl
theorem ev_md (e : Ev) : part (evC e) 2 none = some (.i .i64 e.md) := rfl
theorem ev_lc (e : Ev) : part (evC e) 3 none = some (.i .i64 e.lc) := rfl
theorem ev_vl (e : Ev) : part (evC e) 4 none = some (.i .i64 e.vl) := rfl
theorem ev_ex (e : Ev) : part (evC e) 5 none = some (.b e.ex) := rfl
theorem grC_len (g : Gr) : (grC g).length = 8 := rfl
theorem grC_one (g : Gr) : (grC g).all one = true := rfl
theorem grC_all (g : Gr) : part (grC g) 0 (some 8) = some (.agg (grC g)) := rfl
theorem gr_locs (g : Gr) : part (grC g) 0 none = some (.i .i64 g.locs) := rfl
theorem gr_evs (g : Gr) : part (grC g) 1 none = some (.sl (evsC g.evs) g.evs.length .non) := rfl
theorem gr_rf (g : Gr) : part (grC g) 2 none = some (.sl (intsC g.rf) g.rf.length .non) := rfl
theorem gr_co (g : Gr) : part (grC g) 3 none = some (.sl (coC g.co) g.co.length .non) := rfl
theorem gr_rmw (g : Gr) : part (grC g) 4 none = some (.sl (pairsC g.rmw) g.rmw.length .non) := rfl
theorem gr_data (g : Gr) : part (grC g) 5 none = some (.sl (pairsC g.data) g.data.length .non) := rfl
theorem gr_ctrl (g : Gr) : part (grC g) 6 none = some (.sl (pairsC g.ctrl) g.ctrl.length .non) := rfl
theorem gr_ctrli (g : Gr) : part (grC g) 7 none = some (.sl (pairsC g.ctrli) g.ctrli.length .non) := rfl
theorem frz_gr (hp) (g : Gr) : frz hp depth (.agg (grC g)) = some (.agg (grC g)) := by
  refine frz_d_agg ?_
  show frzL hp (7 + 1) _ = _
  simp only [grC, frzL, frz]
theorem frz_ev (hp) (e : Ev) : frz hp depth (.agg (evC e)) = some (.agg (evC e)) := frz_d_agg (frzL_flat (d := 7) (evC_flat e))
theorem vis_gr (hp) (g : Gr) : vis hp depth (.agg (grC g)) = [] := by
  show vis hp (8 + 1) _ = _
  simp only [vis, grC, List.flatMap_cons, List.flatMap_nil, List.nil_append, List.append_nil]
theorem vis_ev (hp) (e : Ev) : vis hp depth (.agg (evC e)) = [] := by
  show vis hp (8 + 1) _ = _
  simp only [vis, evC, List.flatMap_cons, List.flatMap_nil, List.nil_append, List.append_nil]
set_option maxRecDepth 10000 in
theorem gl : type_of% (And.intro (And.intro (And.intro (And.intro (And.intro @evC_len @evC_one) (And.intro @evC_flat (And.intro @evC_all @ev_th))) (And.intro (And.intro @ev_kd @ev_md) (And.intro @ev_lc (And.intro @ev_vl @ev_ex)))) (And.intro (And.intro (And.intro @grC_len @grC_one) (And.intro @grC_all (And.intro @gr_locs @gr_evs))) (And.intro (And.intro @gr_rf (And.intro @gr_co @gr_rmw)) (And.intro @gr_data (And.intro @gr_ctrl @gr_ctrli))))) (And.intro (And.intro (And.intro (And.intro @frz_gr @frz_ev) (And.intro @vis_gr (And.intro @vis_ev @splice_ev))) (And.intro (And.intro @evsC_len @coC_len) (And.intro @o_raw (And.intro @vRaw_fn @res_0)))) (And.intro (And.intro (And.intro @retP_nrm @retP_ret) (And.intro @o_mget (And.intro @vMget_S @mgS_map))) (And.intro (And.intro @o_mkmap (And.intro @o_mput @vMput_S)) (And.intro @mpS_map (And.intro @mpO_none @part_22)))))) := (And.intro (And.intro (And.intro (And.intro (And.intro @evC_len @evC_one) (And.intro @evC_flat (And.intro @evC_all @ev_th))) (And.intro (And.intro @ev_kd @ev_md) (And.intro @ev_lc (And.intro @ev_vl @ev_ex)))) (And.intro (And.intro (And.intro @grC_len @grC_one) (And.intro @grC_all (And.intro @gr_locs @gr_evs))) (And.intro (And.intro @gr_rf (And.intro @gr_co @gr_rmw)) (And.intro @gr_data (And.intro @gr_ctrl @gr_ctrli))))) (And.intro (And.intro (And.intro (And.intro @frz_gr @frz_ev) (And.intro @vis_gr (And.intro @vis_ev @splice_ev))) (And.intro (And.intro @evsC_len @coC_len) (And.intro @o_raw (And.intro @vRaw_fn @res_0)))) (And.intro (And.intro (And.intro @retP_nrm @retP_ret) (And.intro @o_mget (And.intro @vMget_S @mgS_map))) (And.intro (And.intro @o_mkmap (And.intro @o_mput @vMput_S)) (And.intro @mpS_map (And.intro @mpO_none @part_22))))))
end Go.Ab
end
section
set_option linter.unusedVariables false
set_option linter.unusedSimpArgs false
namespace Go.Ab
variable {F : Funs}
set_option maxRecDepth 100000 in
theorem sp_of (h81 : F 81 = some A_graph_Of) (pr : Pk_rel F) (G : Gr) (l : List (Int × Int)) (t : Tok) (hl : l.length < 9000000000000000000) : pureS F 81 [.agg (grC G), .sl (pairsC l) l.length t] = some (.ptr (relC (clamp G.evs.length) (newR (clamp G.evs.length) l))) := by
  refine pure_of h81 ?_
  simp (disch := omega) only [A_graph_Of, wp, Nat.reduceAdd, Nat.reduceMul, Nat.reduceSub, gl, sp_new pr _ l _ hl]
structure EcoSt (X : Gr) (l : List (Int × Int)) (g : G) : Prop where
  gr : g.hp 0 = some (.cells (grC X) false)
  put : ∃ t, g.hp 2 = some (.cells [.sl (pairsC l) l.length t] false) ∧ Live g 2 t
  f4 : g.hp 4 = some (.cells [.fn 92 [] [.mp 2 0]] false)
  f7 : g.hp 7 = some (.cells [.fn 93 [] [.mp 0 0, .mp 4 0]] false)
  m9 : g.hp 9 = some (.map [(.s ⟨#[114, 102]⟩, .fn 94 [] [.mp 4 0]), (.s ⟨#[99, 111]⟩, .fn 95 [] [.mp 7 0]), (.s ⟨#[102, 114]⟩, .fn 96 [] [.mp 7 0])])
  nx : 9 < g.nx
def Kept (g g' : G) : Prop := g.nx ≤ g'.nx ∧ ∀ i, 9 < i → i < g.nx → CM (g.hp i) → g'.hp i = g.hp i
theorem Kept.refl (g : G) : Kept g g := ⟨Nat.le_refl _, fun _ _ _ _ => rfl⟩
theorem Kept.trans {g g1 g2 : G} (h : Kept g g1) (k : Kept g1 g2) : Kept g g2 := ⟨Nat.le_trans h.1 k.1, fun i h1 h2 h3 => by
  have e := h.2 i h1 h2 h3
  rw [← e]
  exact k.2 i h1 (Nat.lt_of_lt_of_le h2 h.1) (by rw [e]; exact h3)⟩
theorem EcoSt.same {X : Gr} {l : List (Int × Int)} {g g' : G} (h : EcoSt X l g) (k : Kept g g') (h9 : ∀ i, i ≤ 9 → g'.hp i = g.hp i) (ht : ∀ i b, g.hp i = some (.tok b) → g'.hp i = g.hp i) : EcoSt X l g' := by
  obtain ⟨t, h1, h2⟩ := h.put
  refine ⟨by rw [h9 0 (by omega)]; exact h.gr, ⟨t, by rw [h9 2 (by omega)]; exact h1, ?_⟩, by rw [h9 4 (by omega)]; exact h.f4, by rw [h9 7 (by omega)]; exact h.f7, by rw [h9 9 (by omega)]; exact h.m9, Nat.lt_of_lt_of_le h.nx k.1⟩
  rcases h2 with rfl | ⟨τ, rfl, hτ, hlt⟩
  · exact .inl rfl
  · exact .inr ⟨τ, rfl, by rw [ht τ _ hτ]; exact hτ, Nat.lt_of_lt_of_le hlt k.1⟩
set_option maxRecDepth 100000 in
theorem sp_put (h92 : F 92 = some A_eco_pairs_1) {X : Gr} {l : List (Int × Int)} {g : G} (S : EcoSt X l g) (hl : l.length < 1099511627776) (a b : Int) :
    ∃ v g', callS F 92 [.i .i64 a, .i .i64 b, .mp 2 0] g = some (v, g') ∧ EcoSt X (l ++ [(a, b)]) g' ∧ Kept g g' := by
  refine raw_of (P := fun v g' => EcoSt X (l ++ [(a, b)]) g' ∧ Kept g g') h92 ?_
  obtain ⟨t, hp, ht⟩ := S.put
  have hnx := S.nx
  have h0 := S.gr; have h4 := S.f4; have h7 := S.f7; have h9 := S.m9
  rcases ht with rfl | ⟨τ, rfl, hτ, hlt⟩
  · simp (disch := omega) only [A_eco_pairs_1, wp, Nat.reduceAdd, Nat.reduceMul, Nat.reduceSub, gl, hp, pairsC_len]
    refine ⟨_, rfl, ?_, ?_⟩
    · refine ⟨?_, ⟨.own (g.nx + 5) 2, ?_, ?_⟩, ?_, ?_, ?_, by dsimp only; omega⟩
      · simp (disch := omega) only [upd_ne]; exact h0
      · simp (disch := omega) only [upd_same, pairsC_app, pairsC_one, List.length_append]; rfl
      · exact .inr ⟨_, rfl, by simp (disch := omega) only [upd_same, upd_ne], by dsimp only; omega⟩
      · simp (disch := omega) only [upd_ne]; exact h4
      · simp (disch := omega) only [upd_ne]; exact h7
      · simp (disch := omega) only [upd_ne]; exact h9
    · refine ⟨by dsimp only; omega, fun i i1 i2 i3 => ?_⟩
      simp (disch := omega) only [upd_ne]
  · have n0 : τ ≠ 0 := fun h => by rw [h, h0] at hτ; cases hτ
    have n2 : τ ≠ 2 := fun h => by rw [h, hp] at hτ; cases hτ
    have n4 : τ ≠ 4 := fun h => by rw [h, h4] at hτ; cases hτ
    have n7 : τ ≠ 7 := fun h => by rw [h, h7] at hτ; cases hτ
    have n9 : τ ≠ 9 := fun h => by rw [h, h9] at hτ; cases hτ
    simp (disch := omega) only [A_eco_pairs_1, wp, Nat.reduceAdd, Nat.reduceMul, Nat.reduceSub, gl, hp, pairsC_len, hτ]
    refine ⟨_, rfl, ?_, ?_⟩
    · refine ⟨?_, ⟨.own (g.nx + 5) 2, ?_, ?_⟩, ?_, ?_, ?_, by dsimp only; omega⟩
      · simp (disch := omega) only [upd_ne]; exact h0
      · simp (disch := omega) only [upd_same, pairsC_app, pairsC_one, List.length_append]; rfl
      · exact .inr ⟨_, rfl, by simp (disch := omega) only [upd_same, upd_ne], by dsimp only; omega⟩
      · simp (disch := omega) only [upd_ne]; exact h4
      · simp (disch := omega) only [upd_ne]; exact h7
      · simp (disch := omega) only [upd_ne]; exact h9
    · refine ⟨by dsimp only; omega, fun i i1 i2 i3 => ?_⟩
      have : i ≠ τ := fun h => by rw [h, hτ] at i3; exact i3
      simp (disch := omega) only [upd_ne]
end Go.Ab
end
section
set_option linter.unusedVariables false
set_option linter.unusedSimpArgs false
namespace Go.Ab
variable {F : Funs}
def aftS (w : Int) (p : List Int × Bool) (i : Int) : List Int × Bool := (if p.2 then p.1 ++ [i] else p.1, p.2 || i == w)
def aft (w : Int) (c : List Int) : List Int × Bool := c.foldl (aftS w) ([], false)
def behL (a w : Int) (co : List (List Int)) : List (Int × Int) := co.flatMap fun c => (aft w c).1.map fun i => (a, i)
theorem aft_take {w : Int} {c : List Int} {k : Nat} (h : k < c.length) : aft w (c.take (k + 1)) = aftS w (aft w (c.take k)) (c.getD k 0) := by
  unfold aft
  rw [List.take_add_one, List.foldl_append, List.getElem?_eq_getElem h, List.getD_eq_getElem?_getD, List.getElem?_eq_getElem h]
  rfl
theorem behL_take {a w : Int} {co : List (List Int)} {k : Nat} (h : k < co.length) : behL a w (co.take (k + 1)) = behL a w (co.take k) ++ (aft w (co.getD k [])).1.map (fun i => (a, i)) := by
  unfold behL
  rw [List.take_add_one, List.flatMap_append, List.getElem?_eq_getElem h, List.getD_eq_getElem?_getD, List.getElem?_eq_getElem h]
  simp
theorem aft_len (w : Int) (c : List Int) : (aft w c).1.length ≤ c.length := by
  have key : ∀ (c : List Int) (p : List Int × Bool), (c.foldl (aftS w) p).1.length ≤ p.1.length + c.length := by
    intro c
    induction c with
    | nil => intro p; simp
    | cons i c ih =>
      intro p
      rw [List.foldl_cons]
      have := ih (aftS w p i)
      have h2 : (aftS w p i).1.length ≤ p.1.length + 1 := by unfold aftS; split <;> simp
      simp only [List.length_cons]; omega
  have := key c ([], false)
  unfold aft
  simpa using this
theorem behL_len (a w : Int) (co : List (List Int)) {b : Nat} (h : ∀ c ∈ co, c.length ≤ b) : (behL a w co).length ≤ co.length * b := by
  induction co with
  | nil => simp [behL]
  | cons c co ih =>
    have h1 := ih fun d hd => h d (List.mem_cons_of_mem _ hd)
    have h2 := aft_len w c
    have h3 := h c (List.mem_cons_self ..)
    unfold behL at h1 ⊢
    rw [List.flatMap_cons, List.length_append, List.length_map, List.length_cons, Nat.succ_mul]
    omega
theorem EcoSt.on {X : Gr} {l : List (Int × Int)} {g : G} (h : EcoSt X l g) {n : Nat} (hn : g.nx ≤ n) : EcoSt X l ⟨g.hp, n⟩ :=
  h.same ⟨hn, fun _ _ _ _ => rfl⟩ (fun _ _ => rfl) (fun _ _ _ => rfl)
theorem Kept.on {g g' : G} (h : Kept g g') {n : Nat} (hn : g'.nx ≤ n) : Kept g ⟨g'.hp, n⟩ := ⟨Nat.le_trans h.1 hn, h.2⟩
theorem Kept.from {g g' : G} {n : Nat} (hn : g.nx ≤ n) (h : Kept ⟨g.hp, n⟩ g') : Kept g g' := ⟨Nat.le_trans hn h.1, fun i h1 h2 h3 => h.2 i h1 (Nat.lt_of_lt_of_le h2 hn) h3⟩
set_option maxRecDepth 100000 in
set_option maxHeartbeats 4000000 in
theorem sp_behind (h93 : F 93 = some A_eco_pairs_2) (h92 : F 92 = some A_eco_pairs_1) {X : Gr} {l : List (Int × Int)} {g : G} (S : EcoSt X l g) (hl : l.length < 1000000) (hco : X.co.length ≤ 1000 ∧ ∀ c ∈ X.co, c.length ≤ 1000) (a w : Int) :
    ∃ v g', callS F 93 [.i .i64 a, .i .i64 w, .mp 0 0, .mp 4 0] g = some (v, g') ∧ EcoSt X (l ++ behL a w X.co) g' ∧ Kept g g' := by
  refine raw_of (P := fun v g' => EcoSt X (l ++ behL a w X.co) g' ∧ Kept g g') h93 ?_
  have h0 := S.gr
  have hnx := S.nx
  simp (disch := omega) only [A_eco_pairs_2, wp, Nat.reduceAdd, Nat.reduceMul, Nat.reduceSub, gl, h0]
  refine W_loop (fun q e g1 => ∃ k, q = X.co.length - k ∧ k ≤ X.co.length ∧ e 0 = .i .i64 a ∧ e 1 = .i .i64 w ∧ e 3 = .mp 4 0 ∧ e 12 = .sl (coC X.co) X.co.length .non ∧ e 13 = .i .i64 X.co.length ∧ e 14 = .i .i64 k ∧ EcoSt X (l ++ behL a w (X.co.take k)) g1 ∧ Kept g g1) X.co.length ?_ ?_
  · refine ⟨0, rfl, Nat.zero_le _, ?_⟩
    simp (disch := omega) only [wp, Nat.reduceAdd, Nat.reduceMul, Nat.reduceSub]
    refine ⟨rfl, ?_, (Kept.refl g).on (by omega)⟩
    have : l ++ behL a w (List.take 0 X.co) = l := by simp [behL]
    rw [this]
    exact S.on (by omega)
  · rintro q e g1 ⟨k, rfl, hk, e0, e1, e3, e12, e13, e14, S1, K1⟩
    by_cases hk' : k < X.co.length
    · have hk1 : (k : Int) < X.co.length := by omega
      have hwk := succ_wrap (k := k) (by omega)
      have hcp := co_part hk'
      have hbt := behL_take (a := a) (w := w) hk'
      have hcl : (X.co.getD k []).length ≤ 1000 := hco.2 _ (by rw [List.getD_eq_getElem?_getD, List.getElem?_eq_getElem hk']; exact List.getElem_mem hk')
      have hbl : (behL a w (X.co.take k)).length ≤ 1000000 := by
        have h1 := behL_len a w (X.co.take k) (b := 1000) fun c hc => hco.2 c (List.mem_of_mem_take hc)
        rw [List.length_take] at h1
        have h2 : min k X.co.length * 1000 ≤ 1000 * 1000 := Nat.mul_le_mul (by omega) (Nat.le_refl _)
        omega
      generalize X.co.getD k [] = c at hcp hbt hcl
      generalize behL a w (X.co.take k) = B at S1 hbt hbl
      simp (disch := omega) only [wp, Nat.reduceAdd, Nat.reduceMul, Nat.reduceSub, gl, e0, e1, e3, e12, e13, e14, hk1, hcp]
      refine W_loop (fun q e g2 => ∃ j, q = c.length - j ∧ j ≤ c.length ∧ e 0 = .i .i64 a ∧ e 1 = .i .i64 w ∧ e 3 = .mp 4 0 ∧ e 12 = .sl (coC X.co) X.co.length .non ∧ e 13 = .i .i64 X.co.length ∧ e 14 = .i .i64 k ∧ e 18 = .sl (intsC c) c.length .non ∧ e 19 = .i .i64 c.length ∧ e 20 = .i .i64 j ∧ e 8 = .b (aft w (c.take j)).2 ∧ EcoSt X (l ++ B ++ (aft w (c.take j)).1.map fun i => (a, i)) g2 ∧ Kept g g2) c.length ?_ ?_
      · refine ⟨0, rfl, Nat.zero_le _, ?_⟩
        simp (disch := omega) only [wp, Nat.reduceAdd, Nat.reduceMul, Nat.reduceSub, e0, e1, e3, e12, e13, e14]
        refine ⟨rfl, rfl, ?_, K1.on (by omega)⟩
        have : l ++ B ++ (aft w (List.take 0 c)).1.map (fun i => (a, i)) = l ++ B := by simp [aft]
        rw [this]
        exact S1.on (by omega)
      · rintro q e g2 ⟨j, rfl, hj, e0, e1, e3, e12, e13, e14, e18, e19, e20, e8, S2, K2⟩
        by_cases hj' : j < c.length
        · have hj1 : (j : Int) < c.length := by omega
          have hwj := succ_wrap (k := j) (by omega)
          have hip := ints_part hj'
          have hat := aft_take (w := w) hj'
          have hal := aft_len w (c.take j)
          rw [List.length_take] at hal
          generalize c.getD j 0 = i at hip hat
          generalize aft w (c.take j) = p at hat e8 S2 hal
          obtain ⟨acc, s⟩ := p
          simp only at e8 S2 hal
          have hL : (l ++ B ++ acc.map fun i => (a, i)).length < 1099511627776 := by
            rw [List.length_append, List.length_append, List.length_map]; omega
          cases s with
          | true =>
            have f4 := S2.f4
            have n2 := S2.nx
            simp (disch := omega) only [wp, Nat.reduceAdd, Nat.reduceMul, Nat.reduceSub, gl, e0, e1, e3, e12, e13, e14, e18, e19, e20, e8, hj1, hip, f4]
            refine bindO_call _ (sp_put h92 (S2.on (n := _) (by omega)) hL a i) ?_
            rintro v g3 ⟨S3, K3⟩
            simp (disch := omega) only [wp, Nat.reduceAdd, Nat.reduceMul, Nat.reduceSub, gl, e0, e1, e3, e12, e13, e14, e18, e19, e20, e8, hwj]
            have n3 := K3.1
            dsimp only at n3
            refine ⟨c.length - (j + 1), by omega, j + 1, rfl, by omega, rfl, ?_, ?_, ((K2.trans (K3.from (by omega))).on (by first | omega | (dsimp only; omega)))⟩
            · rw [hat]; rfl
            · rw [hat]
              simp only [aftS, if_true, List.map_append, List.map_cons, List.map_nil]
              rw [← List.append_assoc]
              exact S3.on (by first | omega | (dsimp only; omega))
          | false =>
            simp (disch := omega) only [wp, Nat.reduceAdd, Nat.reduceMul, Nat.reduceSub, gl, e0, e1, e3, e12, e13, e14, e18, e19, e20, e8, hj1, hip, hwj]
            refine ⟨c.length - (j + 1), by omega, j + 1, rfl, by omega, rfl, ?_, ?_, K2.on (by first | omega | (dsimp only; omega))⟩
            · rw [hat]; simp [aftS]
            · rw [hat]
              simp only [aftS, Bool.false_eq_true, if_false]
              exact S2.on (by first | omega | (dsimp only; omega))
        · obtain rfl : j = c.length := by omega
          have hj1 : ¬ ((c.length : Int) < c.length) := by omega
          simp (disch := omega) only [wp, Nat.reduceAdd, Nat.reduceMul, Nat.reduceSub, gl, e0, e1, e3, e12, e13, e14, e18, e19, e20, e8, hj1, hwk]
          refine ⟨X.co.length - (k + 1), by omega, k + 1, rfl, by omega, rfl, ?_, K2.on (by first | omega | (dsimp only; omega))⟩
          rw [hbt, ← List.append_assoc]
          rw [List.take_length] at S2
          exact S2.on (by first | omega | (dsimp only; omega))
    · obtain rfl : k = X.co.length := by omega
      have hk1 : ¬ ((X.co.length : Int) < X.co.length) := by omega
      simp (disch := omega) only [wp, Nat.reduceAdd, Nat.reduceMul, Nat.reduceSub, gl, e0, e1, e3, e12, e13, e14, hk1]
      rw [List.take_length] at S1
      exact ⟨_, rfl, S1.on (by first | omega | (dsimp only; omega)), K1.on (by first | omega | (dsimp only; omega))⟩
end Go.Ab
end
section
set_option linter.unusedVariables false
set_option linter.unusedSimpArgs false
namespace Go.Ab
variable {F : Funs}
theorem EcoSt.grow {X : Gr} {l : List (Int × Int)} {g g' : G} (h : EcoSt X l g) (hn : g.nx ≤ g'.nx) (ho : ∀ i, i < g.nx → g'.hp i = g.hp i) : EcoSt X l g' ∧ Kept g g' := by
  have h9 := h.nx
  obtain ⟨t, h1, h2⟩ := h.put
  refine ⟨⟨by rw [ho 0 (by omega)]; exact h.gr, ⟨t, by rw [ho 2 (by omega)]; exact h1, ?_⟩, by rw [ho 4 (by omega)]; exact h.f4, by rw [ho 7 (by omega)]; exact h.f7, by rw [ho 9 (by omega)]; exact h.m9, by omega⟩, hn, fun i _ hi _ => ho i hi⟩
  rcases h2 with rfl | ⟨τ, rfl, hτ, hlt⟩
  · exact .inl rfl
  · exact .inr ⟨τ, rfl, by rw [ho τ hlt]; exact hτ, by omega⟩
def rfS (i w : Int) (e : Ev) : List (Int × Int) := if e.kd = 1 then [(w, i)] else []
def coS (co : List (List Int)) (i w : Int) (e : Ev) : List (Int × Int) := if e.kd = 2 then behL i i co else []
def frS (co : List (List Int)) (i w : Int) (e : Ev) : List (Int × Int) := if e.kd = 1 then behL i w co else []
set_option maxRecDepth 100000 in
theorem sp_94 (h94 : F 94 = some A_eco_pairs_3) (h92 : F 92 = some A_eco_pairs_1) {X : Gr} {l : List (Int × Int)} {g : G} (S : EcoSt X l g) (hl : l.length < 1000000) (i w : Int) (e : Ev) :
    ∃ v g', callS F 94 [.i .i64 i, .i .i64 w, .agg (evC e), .mp 4 0] g = some (v, g') ∧ EcoSt X (l ++ rfS i w e) g' ∧ Kept g g' := by
  refine raw_of (P := fun v g' => EcoSt X (l ++ rfS i w e) g' ∧ Kept g g') h94 ?_
  have hnx := S.nx
  have f4 := S.f4
  have grow := fun (n : Nat) (hn : g.nx ≤ n) => S.grow (g' := ⟨upd g.hp g.nx (some (.cells (evC e) false)), n⟩) hn fun i hi => by
    show upd _ _ _ _ = _
    rw [upd_ne _ _ (by omega)]
  by_cases hk : e.kd = 1
  · have hk1 : (e.kd == 1) = true := by simp [hk]
    simp (disch := omega) only [A_eco_pairs_3, wp, Nat.reduceAdd, Nat.reduceMul, Nat.reduceSub, gl, hk1, f4]
    obtain ⟨S1, K1⟩ := grow (g.nx + 1 + 3 + 4) (by omega)
    refine bindO_call _ (sp_put h92 S1 (by omega) w i) ?_
    rintro v g3 ⟨S3, K3⟩
    simp (disch := omega) only [wp, Nat.reduceAdd, Nat.reduceMul, Nat.reduceSub, gl]
    have : rfS i w e = [(w, i)] := if_pos hk
    rw [this]
    exact ⟨_, rfl, S3, K1.trans K3⟩
  · have hk1 : (e.kd == 1) = false := by simp [hk]
    simp (disch := omega) only [A_eco_pairs_3, wp, Nat.reduceAdd, Nat.reduceMul, Nat.reduceSub, gl, hk1, f4]
    have : l ++ rfS i w e = l := by rw [rfS, if_neg hk]; simp
    rw [this]
    exact ⟨_, rfl, (grow _ (by omega)).1, (grow _ (by omega)).2⟩
set_option maxRecDepth 100000 in
theorem sp_95 (h95 : F 95 = some A_eco_pairs_4) (h93 : F 93 = some A_eco_pairs_2) (h92 : F 92 = some A_eco_pairs_1) {X : Gr} {l : List (Int × Int)} {g : G} (S : EcoSt X l g) (hl : l.length < 1000000) (hco : X.co.length ≤ 1000 ∧ ∀ c ∈ X.co, c.length ≤ 1000) (i w : Int) (e : Ev) :
    ∃ v g', callS F 95 [.i .i64 i, .i .i64 w, .agg (evC e), .mp 7 0] g = some (v, g') ∧ EcoSt X (l ++ coS X.co i w e) g' ∧ Kept g g' := by
  refine raw_of (P := fun v g' => EcoSt X (l ++ coS X.co i w e) g' ∧ Kept g g') h95 ?_
  have hnx := S.nx
  have f7 := S.f7
  have grow := fun (n : Nat) (hn : g.nx ≤ n) => S.grow (g' := ⟨upd g.hp g.nx (some (.cells (evC e) false)), n⟩) hn fun i hi => by
    show upd _ _ _ _ = _
    rw [upd_ne _ _ (by omega)]
  by_cases hk : e.kd = 2
  · have hk1 : (e.kd == 2) = true := by simp [hk]
    simp (disch := omega) only [A_eco_pairs_4, wp, Nat.reduceAdd, Nat.reduceMul, Nat.reduceSub, gl, hk1, f7]
    obtain ⟨S1, K1⟩ := grow (g.nx + 1 + 3 + 4) (by omega)
    refine bindO_call _ (sp_behind h93 h92 S1 hl hco i i) ?_
    rintro v g3 ⟨S3, K3⟩
    simp (disch := omega) only [wp, Nat.reduceAdd, Nat.reduceMul, Nat.reduceSub, gl]
    have : coS X.co i w e = behL i i X.co := if_pos hk
    rw [this]
    exact ⟨_, rfl, S3, K1.trans K3⟩
  · have hk1 : (e.kd == 2) = false := by simp [hk]
    simp (disch := omega) only [A_eco_pairs_4, wp, Nat.reduceAdd, Nat.reduceMul, Nat.reduceSub, gl, hk1, f7]
    have : l ++ coS X.co i w e = l := by rw [coS, if_neg hk]; simp
    rw [this]
    exact ⟨_, rfl, (grow _ (by omega)).1, (grow _ (by omega)).2⟩
set_option maxRecDepth 100000 in
theorem sp_96 (h96 : F 96 = some A_eco_pairs_5) (h93 : F 93 = some A_eco_pairs_2) (h92 : F 92 = some A_eco_pairs_1) {X : Gr} {l : List (Int × Int)} {g : G} (S : EcoSt X l g) (hl : l.length < 1000000) (hco : X.co.length ≤ 1000 ∧ ∀ c ∈ X.co, c.length ≤ 1000) (i w : Int) (e : Ev) :
    ∃ v g', callS F 96 [.i .i64 i, .i .i64 w, .agg (evC e), .mp 7 0] g = some (v, g') ∧ EcoSt X (l ++ frS X.co i w e) g' ∧ Kept g g' := by
  refine raw_of (P := fun v g' => EcoSt X (l ++ frS X.co i w e) g' ∧ Kept g g') h96 ?_
  have hnx := S.nx
  have f7 := S.f7
  have grow := fun (n : Nat) (hn : g.nx ≤ n) => S.grow (g' := ⟨upd g.hp g.nx (some (.cells (evC e) false)), n⟩) hn fun i hi => by
    show upd _ _ _ _ = _
    rw [upd_ne _ _ (by omega)]
  by_cases hk : e.kd = 1
  · have hk1 : (e.kd == 1) = true := by simp [hk]
    simp (disch := omega) only [A_eco_pairs_5, wp, Nat.reduceAdd, Nat.reduceMul, Nat.reduceSub, gl, hk1, f7]
    obtain ⟨S1, K1⟩ := grow (g.nx + 1 + 3 + 4) (by omega)
    refine bindO_call _ (sp_behind h93 h92 S1 hl hco i w) ?_
    rintro v g3 ⟨S3, K3⟩
    simp (disch := omega) only [wp, Nat.reduceAdd, Nat.reduceMul, Nat.reduceSub, gl]
    have : frS X.co i w e = behL i w X.co := if_pos hk
    rw [this]
    exact ⟨_, rfl, S3, K1.trans K3⟩
  · have hk1 : (e.kd == 1) = false := by simp [hk]
    simp (disch := omega) only [A_eco_pairs_5, wp, Nat.reduceAdd, Nat.reduceMul, Nat.reduceSub, gl, hk1, f7]
    have : l ++ frS X.co i w e = l := by rw [frS, if_neg hk]; simp
    rw [this]
    exact ⟨_, rfl, (grow _ (by omega)).1, (grow _ (by omega)).2⟩
end Go.Ab
end
section
set_option linter.unusedVariables false
set_option linter.unusedSimpArgs false
namespace Go.Ab
variable {F : Funs}
def Few (X : Gr) : Prop := X.evs.length ≤ 60 ∧ X.co.length ≤ 6 ∧ ∀ c ∈ X.co, c.length ≤ 60
def wOf (X : Gr) (i : Nat) : Int := if i < X.rf.length then X.rf.getD i 0 else -1
def pairsE (stp : Int → Int → Ev → List (Int × Int)) (X : Gr) (k : Nat) : List (Int × Int) := (List.range k).flatMap fun (i : Nat) => stp (i : Int) (wOf X i) (X.evs.getD i ev0)
theorem pairsE_succ (stp X k) : pairsE stp X (k + 1) = pairsE stp X k ++ stp k (wOf X k) (X.evs.getD k ev0) := by simp [pairsE, List.range_succ]
theorem pairsE_len {stp X} (h : ∀ i w e, (stp i w e).length ≤ 1000) : ∀ k, (pairsE stp X k).length ≤ k * 1000
  | 0 => by simp [pairsE]
  | k + 1 => by
    rw [pairsE_succ, List.length_append, Nat.succ_mul]
    have h1 := pairsE_len (X := X) h k
    have h2 := h k (wOf X k) (X.evs.getD k ev0)
    omega
set_option maxRecDepth 100000 in
set_option maxHeartbeats 4000000 in
theorem sp_pairsE (h80 : F 80 = some A_eco_pairs) (h81 : F 81 = some A_graph_Of) (pr : Pk_rel F) {X : Gr} (hX : Few X) {s : ByteArray} {fid : Nat} {caps : List AV} {stp : Int → Int → Ev → List (Int × Int)}
    (hm : mlook [(.s ⟨#[114, 102]⟩, .fn 94 [] [.mp 4 0]), (.s ⟨#[99, 111]⟩, .fn 95 [] [.mp 7 0]), (.s ⟨#[102, 114]⟩, .fn 96 [] [.mp 7 0])] s = some (.fn fid [] caps))
    (hlen : ∀ i w e, (stp i w e).length ≤ 1000)
    (hstp : ∀ (l : List (Int × Int)) (g : G), EcoSt X l g → l.length < 1000000 → ∀ (i w : Int) (e : Ev), ∃ v g', callS F fid ([.i .i64 i, .i .i64 w, .agg (evC e)] ++ caps) g = some (v, g') ∧ EcoSt X (l ++ stp i w e) g' ∧ Kept g g') :
    pureS F 80 [.agg (grC X), .s s] = some (.ptr (relC (clamp X.evs.length) (newR (clamp X.evs.length) (pairsE stp X X.evs.length)))) := by
  refine pure_of h80 ?_
  have e1 : mlook [(AV.s ⟨#[114, 102]⟩, AV.fn 94 [] [.mp 4 0])] ⟨#[99, 111]⟩ = none := by rfl
  have e2 : mlook [(AV.s ⟨#[114, 102]⟩, AV.fn 94 [] [.mp 4 0]), (AV.s ⟨#[99, 111]⟩, AV.fn 95 [] [.mp 7 0])] ⟨#[102, 114]⟩ = none := by rfl
  have e0 : mlook [] (⟨#[114, 102]⟩ : ByteArray) = none := rfl
  have hev := hX.1
  simp (disch := omega) only [A_eco_pairs, wp, Nat.reduceAdd, Nat.reduceMul, Nat.reduceSub, gl, e0, e1, e2]
  refine W_loop (fun q e g => ∃ k, q = X.evs.length - k ∧ k ≤ X.evs.length ∧ e 1 = .s s ∧ e 2 = .mp 0 0 ∧ e 5 = .mp 2 0 ∧ e 8 = .mm 9 ∧ e 20 = .sl (evsC X.evs) X.evs.length .non ∧ e 21 = .i .i64 X.evs.length ∧ e 22 = .i .i64 k ∧ EcoSt X (pairsE stp X k) g) X.evs.length ?_ ?_
  · refine ⟨0, rfl, Nat.zero_le _, ?_⟩
    simp (disch := omega) only [wp, Nat.reduceAdd, Nat.reduceMul, Nat.reduceSub]
    refine ⟨rfl, ?_, ⟨.rig, ?_, .inl rfl⟩, ?_, ?_, ?_, ?_⟩
    · simp (disch := omega) only [upd_same, upd_ne]
    · simp (disch := omega) only [upd_same, upd_ne]; rfl
    · simp (disch := omega) only [upd_same, upd_ne]
    · simp (disch := omega) only [upd_same, upd_ne]
    · simp (disch := omega) only [upd_same, upd_ne]
    · first | omega | (dsimp only; omega)
  · rintro q e g ⟨k, rfl, hk, e1, e2, e5, e8, e20, e21, e22, S⟩
    have hnx := S.nx
    have h0 := S.gr
    have h9 := S.m9
    by_cases hk' : k < X.evs.length
    · have hk1 : (k : Int) < X.evs.length := by omega
      have hwk := succ_wrap (k := k) (by omega)
      have hp := ev_part hk'
      have hs := pairsE_succ stp X k
      have hl := pairsE_len (X := X) hlen k
      generalize hE : X.evs.getD k ev0 = ev at hp hs
      have grow : ∀ n, g.nx ≤ n → EcoSt X (pairsE stp X k) ⟨upd (upd g.hp (g.nx + 1 + 3) (some (.cells (List.replicate 5 (AV.i .i64 0) ++ [.b false]) false))) (g.nx + 1 + 3) (some (.cells (evC ev) false)), n⟩ := fun n hn =>
        (S.grow hn fun i hi => by
          show upd _ _ _ _ = _
          rw [upd_ne _ _ (by omega), upd_ne _ _ (by omega)]).1
      by_cases hr : k < X.rf.length
      · have hr1 : (k : Int) < X.rf.length := by omega
        have hip := ints_part hr
        have hw : wOf X k = X.rf.getD k 0 := if_pos hr
        rw [hw] at hs
        generalize X.rf.getD k 0 = w at hip hs
        simp (disch := omega) only [wp, Nat.reduceAdd, Nat.reduceMul, Nat.reduceSub, gl, e1, e2, e5, e8, e20, e21, e22, h0, h9, hk1, hp, hr1, hip, hm]
        refine bindO_call _ (hstp _ _ (grow _ (by omega)) (by omega) k w ev) ?_
        rintro v g3 ⟨S3, K3⟩
        simp (disch := omega) only [wp, Nat.reduceAdd, Nat.reduceMul, Nat.reduceSub, gl, e1, e2, e5, e8, e20, e21, e22, hwk]
        refine ⟨X.evs.length - (k + 1), by omega, k + 1, rfl, by omega, rfl, ?_⟩
        rw [hs]
        exact S3.on (by first | omega | (dsimp only; omega))
      · have hr1 : ¬ (k : Int) < X.rf.length := by omega
        have hw : wOf X k = -1 := if_neg hr
        rw [hw] at hs
        simp (disch := omega) only [wp, Nat.reduceAdd, Nat.reduceMul, Nat.reduceSub, gl, e1, e2, e5, e8, e20, e21, e22, h0, h9, hk1, hp, hr1, hm]
        refine bindO_call _ (hstp _ _ (grow _ (by omega)) (by omega) k (-1) ev) ?_
        rintro v g3 ⟨S3, K3⟩
        simp (disch := omega) only [wp, Nat.reduceAdd, Nat.reduceMul, Nat.reduceSub, gl, e1, e2, e5, e8, e20, e21, e22, hwk]
        refine ⟨X.evs.length - (k + 1), by omega, k + 1, rfl, by omega, rfl, ?_⟩
        rw [hs]
        exact S3.on (by first | omega | (dsimp only; omega))
    · obtain rfl : k = X.evs.length := by omega
      have hk1 : ¬ ((X.evs.length : Int) < X.evs.length) := by omega
      obtain ⟨t, hp, ht⟩ := S.put
      have hl := pairsE_len (X := X) hlen X.evs.length
      have hof := sp_of h81 pr X (pairsE stp X X.evs.length) .non (by omega)
      simp (disch := omega) only [wp, Nat.reduceAdd, Nat.reduceMul, Nat.reduceSub, gl, e1, e2, e5, e8, e20, e21, e22, h0, hk1, hp, hof]
end Go.Ab
end
section
set_option linter.unusedVariables false
set_option linter.unusedSimpArgs false
namespace Go.Ab
variable {F : Funs}
def nOf (X : Gr) : Nat := clamp X.evs.length
def relE (stp : Int → Int → Ev → List (Int × Int)) (X : Gr) : Rw := newR (nOf X) (pairsE stp X X.evs.length)
theorem few_beh {X : Gr} (hX : Few X) (i w : Int) : (behL i w X.co).length ≤ 1000 := by
  have h1 := behL_len i w X.co hX.2.2
  have h2 : X.co.length * 60 ≤ 6 * 60 := Nat.mul_le_mul hX.2.1 (Nat.le_refl _)
  omega
theorem few_co {X : Gr} (hX : Few X) : X.co.length ≤ 1000 ∧ ∀ c ∈ X.co, c.length ≤ 1000 := ⟨by have := hX.2.1; omega, fun c hc => by have := hX.2.2 c hc; omega⟩
set_option maxRecDepth 100000 in
theorem sp_Rf (pe : Pk_eco F) (h81 : F 81 = some A_graph_Of) (pr : Pk_rel F) {X : Gr} (hX : Few X) : pureS F 48 [.agg (grC X)] = some (.ptr (relC (nOf X) (relE rfS X))) := by
  refine pure_of pe.eco_Rf ?_
  have h := sp_pairsE pe.eco_pairs h81 pr hX (s := ⟨#[114, 102]⟩) (fid := 94) (caps := [.mp 4 0]) (stp := rfS) (by rfl) (fun i w e => by unfold rfS; split <;> simp) (fun l g S hl i w e => sp_94 pe.eco_pairs_3 pe.eco_pairs_1 S hl i w e)
  simp (disch := omega) only [A_eco_Rf, wp, Nat.reduceAdd, Nat.reduceMul, Nat.reduceSub, gl, h]
  rfl
set_option maxRecDepth 100000 in
theorem sp_Co (pe : Pk_eco F) (h81 : F 81 = some A_graph_Of) (pr : Pk_rel F) {X : Gr} (hX : Few X) : pureS F 49 [.agg (grC X)] = some (.ptr (relC (nOf X) (relE (coS X.co) X))) := by
  refine pure_of pe.eco_Co ?_
  have h := sp_pairsE pe.eco_pairs h81 pr hX (s := ⟨#[99, 111]⟩) (fid := 95) (caps := [.mp 7 0]) (stp := coS X.co) (by rfl) (fun i w e => by unfold coS; split; exact few_beh hX i i; simp) (fun l g S hl i w e => sp_95 pe.eco_pairs_4 pe.eco_pairs_2 pe.eco_pairs_1 S hl (few_co hX) i w e)
  simp (disch := omega) only [A_eco_Co, wp, Nat.reduceAdd, Nat.reduceMul, Nat.reduceSub, gl, h]
  rfl
set_option maxRecDepth 100000 in
theorem sp_Fr (pe : Pk_eco F) (h81 : F 81 = some A_graph_Of) (pr : Pk_rel F) {X : Gr} (hX : Few X) : pureS F 50 [.agg (grC X)] = some (.ptr (relC (nOf X) (relE (frS X.co) X))) := by
  refine pure_of pe.eco_Fr ?_
  have h := sp_pairsE pe.eco_pairs h81 pr hX (s := ⟨#[102, 114]⟩) (fid := 96) (caps := [.mp 7 0]) (stp := frS X.co) (by rfl) (fun i w e => by unfold frS; split; exact few_beh hX i w; simp) (fun l g S hl i w e => sp_96 pe.eco_pairs_5 pe.eco_pairs_2 pe.eco_pairs_1 S hl (few_co hX) i w e)
  simp (disch := omega) only [A_eco_Fr, wp, Nat.reduceAdd, Nat.reduceMul, Nat.reduceSub, gl, h]
  rfl
theorem nOf_le (X : Gr) : nOf X ≤ 40 := clamp_le _
def okP (so : Ev → Ev → Bool) (X : Gr) (p : Int × Int) : Bool := decide (p.1 < X.evs.length) && decide (p.2 < X.evs.length) && so (X.evs.getD p.1.toNat ev0) (X.evs.getD p.2.toNat ev0)
theorem filter_take {P : Int × Int → Bool} {l : List (Int × Int)} {k : Nat} (h : k < l.length) : (l.take (k + 1)).filter P = (l.take k).filter P ++ (if P (l.getD k (0, 0)) then [l.getD k (0, 0)] else []) := by
  rw [List.take_add_one, List.filter_append, List.getElem?_eq_getElem h, List.getD_eq_getElem?_getD, List.getElem?_eq_getElem h]
  simp only [Option.toList, Option.getD_some, List.filter_cons, List.filter_nil]
set_option maxRecDepth 100000 in
set_option maxHeartbeats 8000000 in
theorem sp_someE (pe : Pk_eco F) (h81 : F 81 = some A_graph_Of) (pr : Pk_rel F) {X : Gr} {n : Nat} (hn : n ≤ 40) (R : Rw) {fid : Nat} {so : Ev → Ev → Bool} (hso : ∀ x y, pureS F fid [.agg (evC x), .agg (evC y)] = some (.b (so x y))) :
    pureS F 57 [.agg (grC X), .ptr (relC n R), .fn fid [] []] = some (.ptr (relC (nOf X) (newR (nOf X) ((pairsR n R).filter (okP so X))))) := by
  refine pure_of pe.eco_some ?_
  have hlen := pairsR_len hn R
  simp (disch := omega) only [A_eco_some, wp, Nat.reduceAdd, Nat.reduceMul, Nat.reduceSub, gl, sp_pairs pr hn]
  generalize hL : pairsR n R = L at hlen
  refine W_loop (fun q e g => ∃ k t, q = L.length - k ∧ k ≤ L.length ∧ e 2 = .fn fid [] [] ∧ e 3 = .mp 0 0 ∧ e 11 = .sl (pairsC L) L.length .non ∧ e 12 = .i .i64 L.length ∧ e 13 = .i .i64 k ∧ e 7 = .sl (pairsC ((L.take k).filter (okP so X))) ((L.take k).filter (okP so X)).length t ∧ Live g 2 t ∧ g.hp 0 = some (.cells (grC X) false) ∧ 0 < g.nx) L.length ?_ ?_
  · refine ⟨0, .rig, rfl, Nat.zero_le _, ?_⟩
    simp (disch := omega) only [wp, Nat.reduceAdd, Nat.reduceMul, Nat.reduceSub]
    exact ⟨rfl, rfl, .inl rfl, by first | omega | (dsimp only; omega)⟩
  · rintro q e g ⟨k, t, rfl, hk, e2, e3, e11, e12, e13, e7, ht, h0, hnx⟩
    by_cases hk' : k < L.length
    · have hk1 : (k : Int) < L.length := by omega
      have hw := succ_wrap (k := k) (by omega)
      have hp := pairs_part hk'
      have hf := filter_take (P := okP so X) hk'
      have hfl : ((L.take k).filter (okP so X)).length ≤ 1600 := by
        have h1 := List.length_filter_le (okP so X) (L.take k)
        rw [List.length_take] at h1; omega
      have hmem : L.getD k (0, 0) ∈ pairsR n R := by
        rw [hL, List.getD_eq_getElem?_getD, List.getElem?_eq_getElem hk']
        exact List.getElem_mem hk'
      obtain ⟨m1, m2, m3, m4⟩ := pairsR_mem hmem
      generalize L.getD k (0, 0) = p at hp hf m1 m2 m3 m4
      generalize (L.take k).filter (okP so X) = B at e7 hf hfl
      obtain ⟨a, b⟩ := p
      simp only at m1 m2 m3 m4
      have n1 : 0 ≠ g.nx + 1 + 2 := by omega
      have hno : ∀ {x}, okP so X (a, b) = x → x = false → (L.take (k + 1)).filter (okP so X) = B := fun h1 h2 => by rw [hf, h1, h2]; simp
      by_cases iA : a < X.evs.length
      · by_cases iB : b < X.evs.length
        · have pA := ev_part (l := X.evs) (k := a.toNat) (by omega)
          have pB := ev_part (l := X.evs) (k := b.toNat) (by omega)
          cases hs : so (X.evs.getD a.toNat ev0) (X.evs.getD b.toNat ev0) with
          | true =>
            have hok : okP so X (a, b) = true := by simp only [okP, hs, decide_eq_true iA, decide_eq_true iB, Bool.and_true]
            rw [if_pos hok] at hf
            rcases ht with rfl | ⟨τ, rfl, hτ, hlt⟩
            · simp (disch := omega) only [wp, Nat.reduceAdd, Nat.reduceMul, Nat.reduceSub, gl, e2, e3, e11, e12, e13, e7, h0, hk1, hp, iA, iB, pA, pB, hso, hs, pairsC_len, hw]
              refine ⟨L.length - (k + 1), by omega, k + 1, ?_⟩
              rw [hf, pairsC_app, pairsC_one, List.length_append]
              exact ⟨_, rfl, by omega, rfl, rfl, .inr ⟨_, rfl, upd_same _ _ _, by first | omega | (dsimp only; omega)⟩, by first | omega | (dsimp only; omega)⟩
            · have n0 : τ ≠ 0 := fun h => by rw [h, h0] at hτ; cases hτ
              simp (disch := omega) only [wp, Nat.reduceAdd, Nat.reduceMul, Nat.reduceSub, gl, e2, e3, e11, e12, e13, e7, h0, hk1, hp, iA, iB, pA, pB, hso, hs, pairsC_len, hw, hτ]
              refine ⟨L.length - (k + 1), by omega, k + 1, ?_⟩
              rw [hf, pairsC_app, pairsC_one, List.length_append]
              exact ⟨_, rfl, by omega, rfl, rfl, .inr ⟨_, rfl, upd_same _ _ _, by first | omega | (dsimp only; omega)⟩, by first | omega | (dsimp only; omega)⟩
          | false =>
            have hB := hno (x := false) (by simp only [okP, hs, Bool.and_false]) rfl
            simp (disch := omega) only [wp, Nat.reduceAdd, Nat.reduceMul, Nat.reduceSub, gl, e2, e3, e11, e12, e13, e7, h0, hk1, hp, iA, iB, pA, pB, hso, hs, hw]
            refine ⟨L.length - (k + 1), by omega, k + 1, t, rfl, by omega, rfl, ?_⟩
            rw [hB]
            refine ⟨rfl, ?_, by first | omega | (dsimp only; omega)⟩
            rcases ht with rfl | ⟨τ, rfl, hτ, hlt⟩
            · exact .inl rfl
            · exact .inr ⟨τ, rfl, by simp (disch := omega) only [upd_ne]; exact hτ, by first | omega | (dsimp only; omega)⟩
        · have hB := hno (x := false) (by simp [okP, iB]) rfl
          simp (disch := omega) only [wp, Nat.reduceAdd, Nat.reduceMul, Nat.reduceSub, gl, e2, e3, e11, e12, e13, e7, h0, hk1, hp, iA, iB, hw]
          refine ⟨L.length - (k + 1), by omega, k + 1, t, rfl, by omega, rfl, ?_⟩
          rw [hB]
          refine ⟨rfl, ?_, by first | omega | (dsimp only; omega)⟩
          rcases ht with rfl | ⟨τ, rfl, hτ, hlt⟩
          · exact .inl rfl
          · exact .inr ⟨τ, rfl, by simp (disch := omega) only [upd_ne]; exact hτ, by first | omega | (dsimp only; omega)⟩
      · have hB := hno (x := false) (by simp [okP, iA]) rfl
        simp (disch := omega) only [wp, Nat.reduceAdd, Nat.reduceMul, Nat.reduceSub, gl, e2, e3, e11, e12, e13, e7, h0, hk1, hp, iA, hw]
        refine ⟨L.length - (k + 1), by omega, k + 1, t, rfl, by omega, rfl, ?_⟩
        rw [hB]
        refine ⟨rfl, ?_, by first | omega | (dsimp only; omega)⟩
        rcases ht with rfl | ⟨τ, rfl, hτ, hlt⟩
        · exact .inl rfl
        · exact .inr ⟨τ, rfl, by simp (disch := omega) only [upd_ne]; exact hτ, by first | omega | (dsimp only; omega)⟩
    · obtain rfl : k = L.length := by omega
      have hk1 : ¬ ((L.length : Int) < L.length) := by omega
      rw [List.take_length] at e7
      have hfl : (L.filter (okP so X)).length ≤ 1600 := by
        have h1 := List.length_filter_le (okP so X) L
        omega
      have hof := sp_of h81 pr X (L.filter (okP so X)) .non (by omega)
      simp (disch := omega) only [wp, Nat.reduceAdd, Nat.reduceMul, Nat.reduceSub, gl, e2, e3, e11, e12, e13, e7, h0, hk1, hof]
      rfl
end Go.Ab
end
section
set_option linter.unusedVariables false
set_option linter.unusedSimpArgs false
namespace Go.Ab
variable {F : Funs}
def inner (x y : Ev) : Bool := x.th == y.th
def outer (x y : Ev) : Bool := x.th != y.th
def locP (x y : Ev) : Bool := x.kd != 3 && y.kd != 3 && x.lc == y.lc
set_option maxRecDepth 100000 in
theorem sp_58 (h : F 58 = some A_eco_Inner_1) (x y : Ev) : pureS F 58 [.agg (evC x), .agg (evC y)] = some (.b (inner x y)) := by
  refine pure_of h ?_
  simp (disch := omega) only [A_eco_Inner_1, wp, Nat.reduceAdd, Nat.reduceMul, Nat.reduceSub, gl]
  rfl
set_option maxRecDepth 100000 in
theorem sp_59 (h : F 59 = some A_eco_Outer_1) (x y : Ev) : pureS F 59 [.agg (evC x), .agg (evC y)] = some (.b (outer x y)) := by
  refine pure_of h ?_
  simp (disch := omega) only [A_eco_Outer_1, wp, Nat.reduceAdd, Nat.reduceMul, Nat.reduceSub, gl]
  rfl
set_option maxRecDepth 100000 in
theorem sp_61 (h : F 61 = some A_eco_Loc_1) (x y : Ev) : pureS F 61 [.agg (evC x), .agg (evC y)] = some (.b (locP x y)) := by
  refine pure_of h ?_
  unfold locP
  cases h1 : (x.kd != 3) with
  | true =>
    cases h2 : (y.kd != 3) with
    | true => simp (disch := omega) only [A_eco_Loc_1, wp, Nat.reduceAdd, Nat.reduceMul, Nat.reduceSub, gl, h1, h2]
    | false => simp (disch := omega) only [A_eco_Loc_1, wp, Nat.reduceAdd, Nat.reduceMul, Nat.reduceSub, gl, h1, h2]
  | false => simp (disch := omega) only [A_eco_Loc_1, wp, Nat.reduceAdd, Nat.reduceMul, Nat.reduceSub, gl, h1]
def partR (so : Ev → Ev → Bool) (X : Gr) (n : Nat) (R : Rw) : Rw := newR (nOf X) ((pairsR n R).filter (okP so X))
set_option maxRecDepth 100000 in
theorem sp_Inner (pe : Pk_eco F) (h81 : F 81 = some A_graph_Of) (pr : Pk_rel F) {X : Gr} {n : Nat} (hn : n ≤ 40) (R : Rw) : pureS F 39 [.agg (grC X), .ptr (relC n R)] = some (.ptr (relC (nOf X) (partR inner X n R))) := by
  refine pure_of pe.eco_Inner ?_
  have h := sp_someE pe h81 pr (X := X) hn R (sp_58 pe.eco_Inner_1)
  simp (disch := omega) only [A_eco_Inner, wp, Nat.reduceAdd, Nat.reduceMul, Nat.reduceSub, gl, h]
  rfl
set_option maxRecDepth 100000 in
theorem sp_Outer (pe : Pk_eco F) (h81 : F 81 = some A_graph_Of) (pr : Pk_rel F) {X : Gr} {n : Nat} (hn : n ≤ 40) (R : Rw) : pureS F 40 [.agg (grC X), .ptr (relC n R)] = some (.ptr (relC (nOf X) (partR outer X n R))) := by
  refine pure_of pe.eco_Outer ?_
  have h := sp_someE pe h81 pr (X := X) hn R (sp_59 pe.eco_Outer_1)
  simp (disch := omega) only [A_eco_Outer, wp, Nat.reduceAdd, Nat.reduceMul, Nat.reduceSub, gl, h]
  rfl
end Go.Ab
end
section
set_option linter.unusedVariables false
set_option linter.unusedSimpArgs false
namespace Go.Ab
variable {F : Funs}
def poB (a b : Nat) (x y : Ev) : Bool := ((x.th == 0) && (y.th != 0)) || ((x.th == y.th) && ((x.th != 0) && decide (a < b)))
def poReg : ACode := match A_graph_Po.body with
  | .seq _ (.seq _ (.seq (.seq _ (.blk _ (.loop (.seq _ (.seq _ (.seq (.blk _ (.seq _ (.seq _ (.blk _ (.loop (.seq _ (.seq _ (.seq (.blk _ (.seq _ (.seq r _))) _)))))))) _)))))) _)) => r
  | _ => .skip
set_option maxRecDepth 100000 in
set_option maxHeartbeats 4000000 in
theorem po_reg {e : Env} {g : G} {a b i j : Nat} {x y : Ev} (h5 : e 5 = .mp i 0) (h7 : e 7 = .mp j 0) (h4 : e 4 = .i .i64 a) (h6 : e 6 = .i .i64 b) (hi : g.hp i = some (.cells (evC x) false)) (hj : g.hp j = some (.cells (evC y) false)) :
    W F poReg e g (midQ fun e' g' => e' 48 = .b (poB a b x y) ∧ (∀ t, t < 24 → e' t = e t) ∧ g' = ⟨g.hp, g.nx + 25⟩) := by
  have fin : ∀ {e' : Env}, (∀ t, t < 24 → e' t = e t) → True := fun _ => trivial
  unfold poB
  cases c1 : (x.th == 0) <;> cases c2 : (y.th != 0) <;> cases c3 : (x.th == y.th) <;> cases c4 : (x.th != 0) <;> cases c5 : decide ((a : Int) < b) <;>
    (have c5' : decide (a < b) = decide ((a : Int) < b) := by rw [decide_eq_decide]; omega) <;>
    rw [c5] at c5' <;>
    simp (disch := omega) only [poReg, A_graph_Po, wp, Nat.reduceAdd, Nat.reduceMul, Nat.reduceSub, gl, h5, h7, h4, h6, hi, hj, c1, c2, c3, c4, c5, c5'] <;>
    (intro t ht; simp (disch := omega) only [upd_ne])
def A_graph_Po' : AFun := { res := [.t 2], body := (.seq (.reg false [{ dst := some 1, op := .box (.t 0) },
  { dst := some 2, op := .mv (.c (.nilp)) }])
 (.seq (.reg false [{ dst := some 3, op := .mv (.c (.sl [] 0 .rig)) }])
 (.seq (.seq (.reg false [{ dst := some 8, op := .fa 1 (.t 1) },
  { dst := some 9, op := .ld none (.t 8) },
  { dst := some 10, op := .len (.t 9) },
  { dst := some 11, op := .mv (.c (.i .i64 0)) }])
 (.blk 0 (.loop (.seq (.reg false [{ dst := some 12, op := .bin .lss (.t 11) (.t 10) }])
 (.seq (.cond (.t 12) .skip
 (.ext 0))
 (.seq (.blk 1 (.seq (.reg false [{ dst := some 13, op := .mv (.t 11) },
  { dst := some 14, op := .ia 6 (.t 9) (.t 11) },
  { dst := some 15, op := .ld (some 6) (.t 14) },
  { dst := some 5, op := .new (List.replicate 5 (.i .i64 0) ++ [.b false]) },
  { dst := some 4, op := .mv (.t 13) },
  { dst := none, op := .st 6 (.t 5) (.t 15) }])
 (.seq (.reg false [{ dst := some 16, op := .fa 1 (.t 1) },
  { dst := some 17, op := .ld none (.t 16) },
  { dst := some 18, op := .len (.t 17) },
  { dst := some 19, op := .mv (.c (.i .i64 0)) }])
 (.blk 2 (.loop (.seq (.reg false [{ dst := some 20, op := .bin .lss (.t 19) (.t 18) }])
 (.seq (.cond (.t 20) .skip
 (.ext 2))
 (.seq (.blk 3 (.seq (.reg false [{ dst := some 21, op := .mv (.t 19) },
  { dst := some 22, op := .ia 6 (.t 17) (.t 19) },
  { dst := some 23, op := .ld (some 6) (.t 22) },
  { dst := some 7, op := .new (List.replicate 5 (.i .i64 0) ++ [.b false]) },
  { dst := some 6, op := .mv (.t 21) },
  { dst := none, op := .st 6 (.t 7) (.t 23) }])
 (.seq poReg
 (.cond (.t 48) (.reg false [{ dst := some 49, op := .mv (.t 3) },
  { dst := some 50, op := .mv (.t 4) },
  { dst := some 51, op := .mv (.t 6) },
  { dst := some 52, op := .build ([.i .i64 0, .i .i64 0]) [(0, 1, .t 50), (1, 1, .t 51)] },
  { dst := some 53, op := .bsl true 1 ([.i .i64 0, .i .i64 0]) [(0, 2, .t 52)] },
  { dst := some 54, op := .app 2 16 (.t 49) (.t 53) },
  { dst := some 3, op := .mv (.t 54) }])
 .skip))))
 (.reg false [{ dst := some 55, op := .bin .add (.t 19) (.c (.i .i64 1)) },
  { dst := some 19, op := .mv (.t 55) }])))))))))
 (.reg false [{ dst := some 56, op := .bin .add (.t 11) (.c (.i .i64 1)) },
  { dst := some 11, op := .mv (.t 56) }])))))))
 (.seq (.reg false [{ dst := some 57, op := .ld (some 8) (.t 1) },
  { dst := some 58, op := .mv (.t 3) },
  { dst := some 59, op := .call .pure (.c (.fn 81 [] [])) [.t 57, .t 58] },
  { dst := some 2, op := .mv (.t 59) }])
 .ret)))) }
theorem po_eq : A_graph_Po = A_graph_Po' := rfl
def poRow (X : Gr) (k j : Nat) : List (Int × Int) := ((List.range j).filter fun (b : Nat) => poB k b (X.evs.getD k ev0) (X.evs.getD b ev0)).map fun (b : Nat) => ((k : Int), (b : Int))
def poK (X : Gr) (k : Nat) : List (Int × Int) := (List.range k).flatMap fun a => poRow X a X.evs.length
def poL (X : Gr) (k j : Nat) : List (Int × Int) := poK X k ++ poRow X k j
theorem poK_succ (X k) : poK X (k + 1) = poL X k X.evs.length := by simp [poK, poL, List.range_succ]
theorem poL_0 (X k) : poL X k 0 = poK X k := by simp [poL, poRow]
theorem poL_succ (X k j) : poL X k (j + 1) = if poB k j (X.evs.getD k ev0) (X.evs.getD j ev0) then poL X k j ++ [((k : Int), (j : Int))] else poL X k j := by
  unfold poL poRow
  rw [List.range_succ, List.filter_append, List.filter_cons]
  split <;> simp
set_option maxRecDepth 100000 in
set_option maxHeartbeats 4000000 in
theorem sp_Po (h60 : F 60 = some A_graph_Po) (h81 : F 81 = some A_graph_Of) (pr : Pk_rel F) {X : Gr} (hX : X.evs.length ≤ 1000) : pureS F 60 [.agg (grC X)] = some (.ptr (relC (nOf X) (newR (nOf X) (poK X X.evs.length)))) := by
  rw [po_eq] at h60
  refine pure_of h60 ?_
  simp (disch := omega) only [A_graph_Po', wp, Nat.reduceAdd, Nat.reduceMul, Nat.reduceSub, gl]
  refine W_loop (fun q e g => ∃ k t, q = X.evs.length - k ∧ k ≤ X.evs.length ∧ e 1 = .mp 0 0 ∧ e 9 = .sl (evsC X.evs) X.evs.length .non ∧ e 10 = .i .i64 X.evs.length ∧ e 11 = .i .i64 k ∧ e 3 = .sl (pairsC (poK X k)) (poK X k).length t ∧ Live g 2 t ∧ (poK X k).length ≤ 1000 * k ∧ g.hp 0 = some (.cells (grC X) false) ∧ 0 < g.nx) X.evs.length ?_ ?_
  · refine ⟨0, .rig, rfl, Nat.zero_le _, ?_⟩
    simp (disch := omega) only [wp, Nat.reduceAdd, Nat.reduceMul, Nat.reduceSub]
    exact ⟨rfl, rfl, .inl rfl, Nat.zero_le _, by first | omega | (dsimp only; omega)⟩
  · rintro q e g ⟨k, t, rfl, hk, e1, e9, e10, e11, e3, ht, hl, h0, hnx⟩
    by_cases hk' : k < X.evs.length
    · have hk1 : (k : Int) < X.evs.length := by omega
      have hwk := succ_wrap (k := k) (by omega)
      have hpk := ev_part hk'
      have n1 : 0 ≠ g.nx + 1 + 3 := by omega
      simp (disch := omega) only [wp, Nat.reduceAdd, Nat.reduceMul, Nat.reduceSub, gl, e1, e9, e10, e11, e3, h0, hk1, hpk]
      refine W_loop (fun q e g2 => ∃ j t, q = X.evs.length - j ∧ j ≤ X.evs.length ∧ e 1 = .mp 0 0 ∧ e 9 = .sl (evsC X.evs) X.evs.length .non ∧ e 10 = .i .i64 X.evs.length ∧ e 11 = .i .i64 k ∧ e 4 = .i .i64 k ∧ e 5 = .mp (g.nx + 1 + 3) 0 ∧ e 17 = .sl (evsC X.evs) X.evs.length .non ∧ e 18 = .i .i64 X.evs.length ∧ e 19 = .i .i64 j ∧ e 3 = .sl (pairsC (poL X k j)) (poL X k j).length t ∧ Live g2 2 t ∧ (poL X k j).length ≤ 1000 * k + j ∧ g2.hp 0 = some (.cells (grC X) false) ∧ g2.hp (g.nx + 1 + 3) = some (.cells (evC (X.evs.getD k ev0)) false) ∧ g.nx + 1 + 3 < g2.nx) X.evs.length ?_ ?_
      · refine ⟨0, t, rfl, Nat.zero_le _, ?_⟩
        simp (disch := omega) only [wp, Nat.reduceAdd, Nat.reduceMul, Nat.reduceSub, e1, e9, e10, e11, e3, h0, poL_0]
        refine ⟨rfl, ?_, by first | omega | (dsimp only; omega), by first | omega | (dsimp only; omega)⟩
        rcases ht with rfl | ⟨τ, rfl, hτ, hlt⟩
        · exact .inl rfl
        · exact .inr ⟨τ, rfl, by simp (disch := omega) only [upd_ne]; exact hτ, by first | omega | (dsimp only; omega)⟩
      · rintro q e g2 ⟨j, t, rfl, hj, e1, e9, e10, e11, e4, e5, e17, e18, e19, e3, ht, hl, h0, hc, hn2⟩
        by_cases hj' : j < X.evs.length
        · have hj1 : (j : Int) < X.evs.length := by omega
          have hwj := succ_wrap (k := j) (by omega)
          have hpj := ev_part hj'
          have hLs := poL_succ X k j
          simp (disch := omega) only [wp, Nat.reduceAdd, Nat.reduceMul, Nat.reduceSub, gl, e1, e9, e10, e11, e4, e5, e17, e18, e19, e3, hj1, hpj]
          have m1 : g.nx + 1 + 3 ≠ g2.nx + 1 + 3 := by omega
          refine W_mono (po_reg (a := k) (b := j) (i := g.nx + 1 + 3) (j := g2.nx + 1 + 3) (x := X.evs.getD k ev0) (y := X.evs.getD j ev0) (by simp (disch := omega) only [upd_ne, e5]) (by simp (disch := omega) only [upd_ne, upd_same]) (by simp (disch := omega) only [upd_ne, e4]) (by simp (disch := omega) only [upd_ne, upd_same]) (by simp (disch := omega) only [upd_ne]; exact hc) (by simp (disch := omega) only [upd_same])) ?_
          intro o e' g' hm
          cases o with
          | ext n => exact hm.elim
          | ret => exact hm.elim
          | nrm =>
            obtain ⟨f48, hfr, rfl⟩ := hm
            have f1 := hfr 1 (by omega)
            have f3 := hfr 3 (by omega)
            have f4 := hfr 4 (by omega)
            have f5 := hfr 5 (by omega)
            have f6 := hfr 6 (by omega)
            have f9 := hfr 9 (by omega)
            have f10 := hfr 10 (by omega)
            have f11 := hfr 11 (by omega)
            have f17 := hfr 17 (by omega)
            have f18 := hfr 18 (by omega)
            have f19 := hfr 19 (by omega)
            simp (disch := omega) only [upd_ne, upd_same, e1, e3, e4, e5, e9, e10, e11, e17, e18, e19] at f1 f3 f4 f5 f6 f9 f10 f11 f17 f18 f19
            clear hfr
            cases hB : poB k j (X.evs.getD k ev0) (X.evs.getD j ev0) with
            | true =>
              rw [hB] at f48 hLs
              rw [if_pos rfl] at hLs
              rcases ht with rfl | ⟨τ, rfl, hτ, hlt⟩
              · simp (disch := omega) only [wp, Nat.reduceAdd, Nat.reduceMul, Nat.reduceSub, gl, f1, f3, f4, f5, f6, f9, f10, f11, f17, f18, f19, f48, pairsC_len, hwj]
                refine ⟨X.evs.length - (j + 1), by omega, j + 1, ?_⟩
                rw [hLs, pairsC_app, pairsC_one, List.length_append]
                exact ⟨_, rfl, by omega, rfl, rfl, .inr ⟨_, rfl, upd_same _ _ _, by first | omega | (dsimp only; omega)⟩, by simp; omega, h0, hc, by first | omega | (dsimp only; omega)⟩
              · have n0 : τ ≠ 0 := fun h => by rw [h, h0] at hτ; cases hτ
                have nc : τ ≠ g.nx + 1 + 3 := fun h => by rw [h, hc] at hτ; cases hτ
                simp (disch := omega) only [wp, Nat.reduceAdd, Nat.reduceMul, Nat.reduceSub, gl, f1, f3, f4, f5, f6, f9, f10, f11, f17, f18, f19, f48, pairsC_len, hwj, hτ]
                refine ⟨X.evs.length - (j + 1), by omega, j + 1, ?_⟩
                rw [hLs, pairsC_app, pairsC_one, List.length_append]
                exact ⟨_, rfl, by omega, rfl, rfl, .inr ⟨_, rfl, upd_same _ _ _, by first | omega | (dsimp only; omega)⟩, by simp; omega, h0, hc, by first | omega | (dsimp only; omega)⟩
            | false =>
              rw [hB] at f48 hLs
              rw [if_neg (by simp)] at hLs
              simp (disch := omega) only [wp, Nat.reduceAdd, Nat.reduceMul, Nat.reduceSub, gl, f1, f3, f4, f5, f6, f9, f10, f11, f17, f18, f19, f48, hwj]
              refine ⟨X.evs.length - (j + 1), by omega, j + 1, t, rfl, by omega, rfl, ?_⟩
              rw [hLs]
              refine ⟨rfl, ?_, by omega, by first | exact h0 | (simp (disch := omega) only [upd_ne]; exact h0), by first | exact hc | (simp (disch := omega) only [upd_ne]; exact hc), by first | omega | (dsimp only; omega)⟩
              rcases ht with rfl | ⟨τ, rfl, hτ, hlt⟩
              · exact .inl rfl
              · exact .inr ⟨τ, rfl, by simp (disch := omega) only [upd_ne]; exact hτ, by first | omega | (dsimp only; omega)⟩
        · obtain rfl : j = X.evs.length := by omega
          have hj1 : ¬ ((X.evs.length : Int) < X.evs.length) := by omega
          rw [← poK_succ] at e3 hl
          simp (disch := omega) only [wp, Nat.reduceAdd, Nat.reduceMul, Nat.reduceSub, gl, e1, e9, e10, e11, e4, e5, e17, e18, e19, e3, hj1, hwk]
          refine ⟨X.evs.length - (k + 1), by omega, k + 1, t, rfl, by omega, rfl, rfl, ?_, by omega, h0, by first | omega | (dsimp only; omega)⟩
          rcases ht with rfl | ⟨τ, rfl, hτ, hlt⟩
          · exact .inl rfl
          · exact .inr ⟨τ, rfl, hτ, by first | omega | (dsimp only; omega)⟩
    · obtain rfl : k = X.evs.length := by omega
      have hk1 : ¬ ((X.evs.length : Int) < X.evs.length) := by omega
      have hof := sp_of h81 pr X (poK X X.evs.length) .non (by omega)
      simp (disch := omega) only [wp, Nat.reduceAdd, Nat.reduceMul, Nat.reduceSub, gl, e1, e9, e10, e11, e3, h0, hk1, hof]
      rfl
def poR (X : Gr) : Rw := newR (nOf X) (poK X X.evs.length)
set_option maxRecDepth 100000 in
theorem sp_Loc (pe : Pk_eco F) (h60 : F 60 = some A_graph_Po) (h81 : F 81 = some A_graph_Of) (pr : Pk_rel F) {X : Gr} (hX : X.evs.length ≤ 1000) : pureS F 41 [.agg (grC X)] = some (.ptr (relC (nOf X) (partR locP X (nOf X) (poR X)))) := by
  refine pure_of pe.eco_Loc ?_
  have h1 := sp_Po h60 h81 pr hX
  have h := sp_someE pe h81 pr (X := X) (nOf_le X) (poR X) (sp_61 pe.eco_Loc_1)
  unfold poR at h
  simp (disch := omega) only [A_eco_Loc, wp, Nat.reduceAdd, Nat.reduceMul, Nat.reduceSub, gl, h1, h]
  rfl
end Go.Ab
end
section
set_option linter.unusedVariables false
set_option linter.unusedSimpArgs false
namespace Go.Ab
variable {F : Funs}
theorem evs_drop : ∀ {l : List Ev} {k : Nat} (h : k < l.length), (evsC l).drop (k * 6) = evC (l.getD k ev0) ++ evsC (l.drop (k + 1))
  | p :: l, 0, _ => by simp [evsC]
  | p :: l, k + 1, h => by
    have := evs_drop (l := l) (k := k) (by simpa using h)
    simp only [List.getD_cons_succ, List.drop_succ_cons]
    rw [← this]
    simp [evsC, Nat.succ_mul, evC]
theorem ev_kd_at {l : List Ev} {k : Nat} (h : k < l.length) : part (((evsC l).drop (k * 6)).drop 1) 0 none = some (.i .i64 (l.getD k ev0).kd) := by
  rw [evs_drop h]; rfl
theorem ev_lc_at {l : List Ev} {k : Nat} (h : k < l.length) : part (((evsC l).drop (k * 6)).drop 3) 0 none = some (.i .i64 (l.getD k ev0).lc) := by
  rw [evs_drop h]; rfl
theorem ev_vl_at {l : List Ev} {k : Nat} (h : k < l.length) : part (((evsC l).drop (k * 6)).drop 4) 0 none = some (.i .i64 (l.getD k ev0).vl) := by
  rw [evs_drop h]; rfl
structure FewG (X : Gr) : Prop where
  evs : X.evs.length ≤ 50
  rf : X.rf.length ≤ 60
  co : X.co.length ≤ 6
  cos : ∀ c ∈ X.co, c.length ≤ 50
  rmw : X.rmw.length ≤ 50
  data : X.data.length ≤ 300
  ctrl : X.ctrl.length ≤ 300
  ctrli : X.ctrli.length ≤ 300
end Go.Ab
end
section
set_option linter.unusedVariables false
set_option linter.unusedSimpArgs false
namespace Go.Ab
variable {F : Funs}
def EvOk (locs i : Int) (p e : Ev) : Prop :=
  (i < locs → e.th = 0 ∧ e.kd = 2 ∧ e.md = 0 ∧ e.lc = i ∧ e.vl = 0 ∧ e.ex = false) ∧
  (¬ i < locs → 1 ≤ e.th ∧ e.th ≤ 4 ∧ p.th ≤ e.th ∧ ((e.kd = 1 ∧ 0 ≤ e.lc ∧ e.lc < locs ∧ (e.md = 0 ∨ e.md = 1)) ∨ (e.kd = 2 ∧ 0 ≤ e.lc ∧ e.lc < locs ∧ (e.md = 0 ∨ e.md = 2)) ∨ (e.kd = 3 ∧ 1 ≤ e.md ∧ e.md ≤ 4 ∧ e.lc = 0 ∧ e.vl = 0 ∧ e.ex = false)))
end Go.Ab
end
section
set_option linter.unusedVariables false
set_option linter.unusedSimpArgs false
namespace Go.Ab
variable {F : Funs}
def RfOk (X : Gr) (i : Nat) : Prop := ((X.evs.getD i ev0).kd ≠ 1 → X.rf.getD i 0 = -1) ∧
  ((X.evs.getD i ev0).kd = 1 → 0 ≤ X.rf.getD i 0 ∧ X.rf.getD i 0 < X.evs.length ∧ (X.evs.getD (X.rf.getD i 0).toNat ev0).kd = 2 ∧ (X.evs.getD (X.rf.getD i 0).toNat ev0).lc = (X.evs.getD i ev0).lc ∧ (X.evs.getD (X.rf.getD i 0).toNat ev0).vl = (X.evs.getD i ev0).vl)
def isWr (loc : Int) (e : Ev) : Bool := e.kd == 2 && e.lc == loc
def cntW (X : Gr) (loc : Int) (k : Nat) : Nat := ((X.evs.take k).filter (isWr loc)).length
structure CoOk (X : Gr) (loc : Nat) : Prop where
  wr : ∀ i, i < (X.co.getD loc []).length → 0 ≤ (X.co.getD loc []).getD i 0 ∧ (X.co.getD loc []).getD i 0 < X.evs.length ∧ (X.evs.getD ((X.co.getD loc []).getD i 0).toNat ev0).kd = 2 ∧ (X.evs.getD ((X.co.getD loc []).getD i 0).toNat ev0).lc = loc
  ne : ∀ i, i < (X.co.getD loc []).length → ∀ k, k < i → (X.co.getD loc []).getD k 0 ≠ (X.co.getD loc []).getD i 0
  len : (X.co.getD loc []).length = cntW X loc X.evs.length
  pos : 0 < (X.co.getD loc []).length
  hd : (X.co.getD loc []).getD 0 0 = loc
end Go.Ab
end
section
set_option linter.unusedVariables false
set_option linter.unusedSimpArgs false
namespace Go.Ab
abbrev Mx := Nat → Nat → Bool
def upd2 (M : Mx) (a b : Nat) (x : Bool) : Mx := fun i j => if i = a ∧ j = b then x else M i j
end Go.Ab
end
section
set_option linter.unusedVariables false
set_option linter.unusedSimpArgs false
namespace Go.Ab
variable {F : Funs}
def addM (n : Nat) (M : Mx) (p : Int × Int) : Mx := if inR n p then upd2 M p.1.toNat p.2.toNat true else M
def newM (n : Nat) (l : List (Int × Int)) : Mx := l.foldl (addM n) (fun _ _ => false)
end Go.Ab
end
section
set_option linter.unusedVariables false
set_option linter.unusedSimpArgs false
namespace Go.Ab
variable {F : Funs}
def lessP (p q : Int × Int) : Prop := p.1 < q.1 ∨ (p.1 = q.1 ∧ p.2 < q.2)
def Rising (l : List (Int × Int)) : Prop := ∀ i, i + 1 < l.length → lessP (l.getD i (0, 0)) (l.getD (i + 1) (0, 0))
def DepOk (X : Gr) (p : Int × Int) : Prop := 0 ≤ p.1 ∧ p.1 < p.2 ∧ p.2 < X.evs.length ∧ (X.evs.getD p.1.toNat ev0).kd = 1 ∧ (X.evs.getD p.1.toNat ev0).th = (X.evs.getD p.2.toNat ev0).th
def DepsOk (X : Gr) (l : List (Int × Int)) : Prop := (∀ i, i < l.length → DepOk X (l.getD i (0, 0))) ∧ Rising l
end Go.Ab
end
section
set_option linter.unusedVariables false
set_option linter.unusedSimpArgs false
namespace Go.Ab
variable {F : Funs}
def inB (i : Nat) (p : Int × Int) : Bool := p.1 == (i : Int) || p.2 == (i : Int)
def inC (l : List (Int × Int)) (i : Nat) : Nat := (l.filter (inB i)).length
def PairOk (X : Gr) (p : Int × Int) : Prop := 0 ≤ p.1 ∧ p.1 < X.evs.length - 1 ∧ p.2 = p.1 + 1 ∧ (X.evs.getD p.1.toNat ev0).th = (X.evs.getD p.2.toNat ev0).th ∧ (X.evs.getD p.1.toNat ev0).kd = 1 ∧ (X.evs.getD p.2.toNat ev0).kd = 2 ∧ (X.evs.getD p.1.toNat ev0).lc = (X.evs.getD p.2.toNat ev0).lc ∧ (X.evs.getD p.1.toNat ev0).ex = true ∧ (X.evs.getD p.2.toNat ev0).ex = true
structure RmwOk (X : Gr) : Prop where
  pairs : ∀ j, j < X.rmw.length → PairOk X (X.rmw.getD j (0, 0))
  once : ∀ i, i < X.evs.length → inC X.rmw i ≤ 1 ∧ (X.evs.getD i ev0).ex = ((inC X.rmw i : Int) == 1)
  rise : Rising X.rmw
end Go.Ab
end
section
set_option linter.unusedVariables false
set_option linter.unusedSimpArgs false
namespace Go.Ab
variable {F : Funs}
structure GraphOk (X : Gr) : Prop where
  locs1 : 1 ≤ X.locs
  locs4 : X.locs ≤ 4
  nl : X.locs ≤ X.evs.length
  n40 : X.evs.length ≤ 40
  rfl : X.rf.length = X.evs.length
  col : (X.co.length : Int) = X.locs
  ev : ∀ i, i < X.evs.length → EvOk X.locs i (X.evs.getD (i - 1) ev0) (X.evs.getD i ev0)
  rf : ∀ i, i < X.evs.length → RfOk X i
  co : ∀ i, i < X.co.length → CoOk X i
  rmw : RmwOk X
  data : DepsOk X X.data
  ctrl : DepsOk X X.ctrl
  ctrli : DepsOk X X.ctrli
end Go.Ab
end
section
set_option linter.unusedVariables false
set_option linter.unusedSimpArgs false
namespace Go.Ab
variable {F : Funs}
def allN (n : Nat) (p : Nat → Bool) : Bool := (List.range n).all p
theorem allN_iff {n : Nat} {p : Nat → Bool} : allN n p = true ↔ ∀ i, i < n → p i = true := by
  unfold allN
  rw [List.all_eq_true]
  exact ⟨fun h i hi => h i (List.mem_range.2 hi), fun h i hi => h i (List.mem_range.1 hi)⟩
theorem allN_t {n : Nat} {p : Nat → Bool} (h : ∀ i, i < n → p i = true) : allN n p = true := allN_iff.2 h
theorem allN_f {n : Nat} {p : Nat → Bool} {k : Nat} (hk : k < n) (h : p k = false) : allN n p = false := by
  cases c : allN n p with
  | false => rfl
  | true => rw [allN_iff.1 c k hk] at h; cases h
def cmpI (a b : Int) : Int := if a < b then -1 else if b < a then 1 else 0
def ordP (p q : Int × Int) : Int := if cmpI p.1 q.1 != 0 then cmpI p.1 q.1 else cmpI p.2 q.2
def gEv (locs : Int) (e : Ev) : Bool :=
  if e.kd == 1 then (decide (0 ≤ e.lc) && decide (e.lc < locs)) && (e.md == 0 || e.md == 1)
  else if e.kd == 2 then (decide (0 ≤ e.lc) && decide (e.lc < locs)) && (e.md == 0 || e.md == 2)
  else e.kd == 3 && decide (1 ≤ e.md) && decide (e.md ≤ 4) && e.lc == 0 && e.vl == 0 && !e.ex
def gWr (X : Gr) (i loc : Int) : Bool := decide (0 ≤ i) && decide (i < X.evs.length) && (X.evs.getD i.toNat ev0).kd == 2 && (X.evs.getD i.toNat ev0).lc == loc
def mayD (a b : Ev) : Bool := a.kd == 1 && a.th == b.th
def mayR (a b : Ev) : Bool := a.kd == 1 && b.kd == 2 && a.lc == b.lc && a.ex && b.ex && a.th == b.th
section
variable (pc : Pk_cmp F)
include pc
set_option maxRecDepth 100000 in
theorem sg_nan (a : Int) : pureS F 266 [.i .i64 a] = some (.b false) := by
  refine pure_of pc.cmp_isNaN_int ?_
  have h : (a != a) = false := by simp
  simp (disch := omega) only [A_cmp_isNaN_int, wp, Nat.reduceAdd, Nat.reduceMul, Nat.reduceSub, h]
set_option maxRecDepth 100000 in
theorem sg_cmp (a b : Int) : pureS F 248 [.i .i64 a, .i .i64 b] = some (.i .i64 (cmpI a b)) := by
  refine pure_of pc.cmp_Compare_int ?_
  unfold cmpI
  by_cases c1 : a < b
  · simp (disch := omega) only [A_cmp_Compare_int, wp, Nat.reduceAdd, Nat.reduceMul, Nat.reduceSub, sg_nan pc, c1, if_true]
  · by_cases c2 : b < a
    · simp (disch := omega) only [A_cmp_Compare_int, wp, Nat.reduceAdd, Nat.reduceMul, Nat.reduceSub, sg_nan pc, c1, c2, if_true, if_false]
    · simp (disch := omega) only [A_cmp_Compare_int, wp, Nat.reduceAdd, Nat.reduceMul, Nat.reduceSub, sg_nan pc, c1, c2, if_false]
set_option maxRecDepth 100000 in
theorem sg_or (a b : Int) : pureS F 249 [.sl [.i .i64 a, .i .i64 b] 2 .non] = some (.i .i64 (if a != 0 then a else b)) := by
  refine pure_of pc.cmp_Or_int ?_
  simp (disch := omega) only [A_cmp_Or_int, wp, Nat.reduceAdd, Nat.reduceMul, Nat.reduceSub]
  have p0 : part (List.drop (0 * 1) [AV.i .i64 a, AV.i .i64 b]) 0 none = some (.i .i64 a) := rfl
  have p1 : part (List.drop (1 * 1) [AV.i .i64 a, AV.i .i64 b]) 0 none = some (.i .i64 b) := rfl
  have w0 := succ_wrap (k := 0) (by omega)
  have w1 := succ_wrap (k := 1) (by omega)
  refine W_loop (fun q e g => ∃ k : Nat, q = 2 - k ∧ k ≤ 2 ∧ e 3 = .i .i64 0 ∧ e 6 = .sl [.i .i64 a, .i .i64 b] 2 .non ∧ e 7 = .i .i64 2 ∧ e 8 = .i .i64 k ∧ (1 ≤ k → a = 0) ∧ (2 ≤ k → b = 0)) 2 ?_ ?_
  · refine ⟨0, rfl, by omega, ?_⟩
    simp (disch := omega) only [wp, Nat.reduceAdd, Nat.reduceMul, Nat.reduceSub]
    exact ⟨rfl, rfl, fun h => by omega, fun h => by omega⟩
  · rintro q e g ⟨k, rfl, hk, e3, e6, e7, e8, ha, hb'⟩
    by_cases hk' : k < 2
    · have hk1 : (k : Int) < 2 := by omega
      have hwk := succ_wrap (k := k) (by omega)
      by_cases k0 : k = 0
      · subst k0
        cases c : (a != 0)
        · simp (disch := omega) only [wp, Nat.reduceAdd, Nat.reduceMul, Nat.reduceSub, e3, e6, e7, e8, hk1, p0, c, hwk]
          exact ⟨1, by omega, 1, rfl, by omega, rfl, fun _ => by simpa using c, fun h => by omega⟩
        · simp (disch := omega) only [wp, Nat.reduceAdd, Nat.reduceMul, Nat.reduceSub, e3, e6, e7, e8, hk1, p0, c]
          rfl
      · obtain rfl : k = 1 := by omega
        have ha := ha (by omega)
        subst ha
        cases c : (b != 0)
        · simp (disch := omega) only [wp, Nat.reduceAdd, Nat.reduceMul, Nat.reduceSub, e3, e6, e7, e8, hk1, p1, c, hwk]
          exact ⟨0, by omega, 2, rfl, by omega, rfl, fun _ => trivial, fun h => by simpa using c⟩
        · simp (disch := omega) only [wp, Nat.reduceAdd, Nat.reduceMul, Nat.reduceSub, e3, e6, e7, e8, hk1, p1, c]
          rfl
    · obtain rfl : k = 2 := by omega
      have hk1 : ¬ (((2 : Nat) : Int) < 2) := by omega
      have ha := ha (by omega)
      have hb' := hb' (by omega)
      subst ha hb'
      simp (disch := omega) only [wp, Nat.reduceAdd, Nat.reduceMul, Nat.reduceSub, e3, e6, e7, e8, hk1]
      rfl
end
set_option maxRecDepth 100000 in
set_option maxHeartbeats 4000000 in
theorem sg_event (h236 : F 236 = some A_graph_event) (e : Ev) (locs : Int) : pureS F 236 [.agg (evC e), .i .i64 locs] = some (.b (gEv locs e)) := by
  refine pure_of h236 ?_
  obtain ⟨th, kd, md, lc, vl, ex⟩ := e
  have d0 : (evC ⟨th, kd, md, lc, vl, ex⟩) = [.i .i64 th, .i .i64 kd, .i .i64 md, .i .i64 lc, .i .i64 vl, .b ex] := rfl
  have fin : gEv locs ⟨th, kd, md, lc, vl, ex⟩ = if kd == 1 then (decide (0 ≤ lc) && decide (lc < locs)) && (md == 0 || md == 1) else if kd == 2 then (decide (0 ≤ lc) && decide (lc < locs)) && (md == 0 || md == 2) else kd == 3 && decide (1 ≤ md) && decide (md ≤ 4) && lc == 0 && vl == 0 && !ex := rfl
  generalize gEv locs ⟨th, kd, md, lc, vl, ex⟩ = R at fin
  simp only [A_graph_event, W_seq]
  refine W_cut (fun e g => e 1 = .i .i64 locs ∧ e 2 = .mp 0 0 ∧ g.hp 0 = some (.cells (evC ⟨th, kd, md, lc, vl, ex⟩) false)) ?_ ?_
  · simp (disch := omega) only [wp, Nat.reduceAdd, Nat.reduceMul, Nat.reduceSub, gl]
  rintro e g ⟨e1, e2, hg⟩
  simp only [W_seq]
  refine W_cut (fun e g => e 2 = .mp 0 0 ∧ e 5 = .b (decide (0 ≤ lc) && decide (lc < locs)) ∧ g.hp 0 = some (.cells (evC ⟨th, kd, md, lc, vl, ex⟩) false)) ?_ ?_
  · by_cases l1 : 0 ≤ lc
    · simp (disch := omega) only [wp, Nat.reduceAdd, Nat.reduceMul, Nat.reduceSub, gl, e1, e2, hg, d0, l1]
    · simp (disch := omega) only [wp, Nat.reduceAdd, Nat.reduceMul, Nat.reduceSub, gl, e1, e2, hg, d0, l1]
  rintro e g ⟨e2, e5, hg⟩
  generalize (decide (0 ≤ lc) && decide (lc < locs)) = at0 at e5 fin
  cases k1 : (kd == 1)
  case true =>
    rw [k1, if_pos rfl] at fin
    cases at0
    · simp (disch := omega) only [wp, Nat.reduceAdd, Nat.reduceMul, Nat.reduceSub, gl, e2, e5, hg, d0, k1, fin]
    · cases m0 : (md == 0)
      · rw [m0] at fin
        simp (disch := omega) only [wp, Nat.reduceAdd, Nat.reduceMul, Nat.reduceSub, gl, e2, e5, hg, d0, k1, m0, fin]
      · rw [m0] at fin
        simp (disch := omega) only [wp, Nat.reduceAdd, Nat.reduceMul, Nat.reduceSub, gl, e2, e5, hg, d0, k1, m0, fin]
  case false =>
    rw [k1, if_neg (by decide)] at fin
    cases k2 : (kd == 2)
    case true =>
      rw [k2, if_pos rfl] at fin
      cases at0
      · simp (disch := omega) only [wp, Nat.reduceAdd, Nat.reduceMul, Nat.reduceSub, gl, e2, e5, hg, d0, k1, k2, fin]
      · cases m0 : (md == 0)
        · rw [m0] at fin
          simp (disch := omega) only [wp, Nat.reduceAdd, Nat.reduceMul, Nat.reduceSub, gl, e2, e5, hg, d0, k1, k2, m0, fin]
        · rw [m0] at fin
          simp (disch := omega) only [wp, Nat.reduceAdd, Nat.reduceMul, Nat.reduceSub, gl, e2, e5, hg, d0, k1, k2, m0, fin]
    case false =>
      rw [k2, if_neg (by decide)] at fin
      cases k3 : (kd == 3)
      · rw [k3] at fin
        simp (disch := omega) only [wp, Nat.reduceAdd, Nat.reduceMul, Nat.reduceSub, gl, e2, e5, hg, d0, k1, k2, k3, fin]
      rw [k3] at fin
      by_cases m1 : 1 ≤ md
      case neg => simp (disch := omega) only [wp, Nat.reduceAdd, Nat.reduceMul, Nat.reduceSub, gl, e2, e5, hg, d0, k1, k2, k3, m1, fin]
      by_cases m4 : md ≤ 4
      case neg => simp (disch := omega) only [wp, Nat.reduceAdd, Nat.reduceMul, Nat.reduceSub, gl, e2, e5, hg, d0, k1, k2, k3, m1, m4, fin]
      cases a3 : (lc == 0)
      · rw [a3] at fin
        simp (disch := omega) only [wp, Nat.reduceAdd, Nat.reduceMul, Nat.reduceSub, gl, e2, e5, hg, d0, k1, k2, k3, m1, m4, a3, fin]
      cases a4 : (vl == 0)
      · rw [a3, a4] at fin
        simp (disch := omega) only [wp, Nat.reduceAdd, Nat.reduceMul, Nat.reduceSub, gl, e2, e5, hg, d0, k1, k2, k3, m1, m4, a3, a4, fin]
      rw [a3, a4] at fin
      simp (disch := omega) only [wp, Nat.reduceAdd, Nat.reduceMul, Nat.reduceSub, gl, e2, e5, hg, d0, k1, k2, k3, m1, m4, a3, a4, fin]
set_option maxRecDepth 100000 in
set_option maxHeartbeats 4000000 in
theorem sg_write (h237 : F 237 = some A_graph_write) (X : Gr) (i loc : Int) : pureS F 237 [.agg (grC X), .i .i64 i, .i .i64 loc] = some (.b (gWr X i loc)) := by
  refine pure_of h237 ?_
  unfold gWr
  by_cases c1 : 0 ≤ i
  case neg => simp (disch := omega) only [A_graph_write, wp, Nat.reduceAdd, Nat.reduceMul, Nat.reduceSub, gl, c1]
  by_cases c2 : i < X.evs.length
  case neg => simp (disch := omega) only [A_graph_write, wp, Nat.reduceAdd, Nat.reduceMul, Nat.reduceSub, gl, c1, c2]
  have ka := ev_kd_at (l := X.evs) (k := i.toNat) (by omega)
  have la := ev_lc_at (l := X.evs) (k := i.toNat) (by omega)
  have da : (List.drop (i.toNat * 6) (evsC X.evs)).length = X.evs.length * 6 - i.toNat * 6 := by rw [List.length_drop, evsC_len]
  cases c3 : ((X.evs.getD i.toNat ev0).kd == 2)
  · simp (disch := omega) only [A_graph_write, wp, Nat.reduceAdd, Nat.reduceMul, Nat.reduceSub, gl, c1, c2, ka, la, da, c3]
  · simp (disch := omega) only [A_graph_write, wp, Nat.reduceAdd, Nat.reduceMul, Nat.reduceSub, gl, c1, c2, ka, la, da, c3]
set_option maxRecDepth 100000 in
theorem sg_mayD (h191 : F 191 = some A_graph_Check_1) (a b : Ev) : pureS F 191 [.agg (evC a), .agg (evC b)] = some (.b (mayD a b)) := by
  refine pure_of h191 ?_
  unfold mayD
  cases c1 : (a.kd == 1)
  · simp (disch := omega) only [A_graph_Check_1, wp, Nat.reduceAdd, Nat.reduceMul, Nat.reduceSub, gl, c1]
  · simp (disch := omega) only [A_graph_Check_1, wp, Nat.reduceAdd, Nat.reduceMul, Nat.reduceSub, gl, c1]
set_option maxRecDepth 100000 in
set_option maxHeartbeats 4000000 in
theorem sg_mayR (h238 : F 238 = some A_graph_rmw_1) (a b : Ev) : pureS F 238 [.agg (evC a), .agg (evC b)] = some (.b (mayR a b)) := by
  refine pure_of h238 ?_
  unfold mayR
  cases c1 : (a.kd == 1)
  · simp (disch := omega) only [A_graph_rmw_1, wp, Nat.reduceAdd, Nat.reduceMul, Nat.reduceSub, gl, c1]
  cases c2 : (b.kd == 2)
  · simp (disch := omega) only [A_graph_rmw_1, wp, Nat.reduceAdd, Nat.reduceMul, Nat.reduceSub, gl, c1, c2]
  cases c3 : (a.lc == b.lc)
  · simp (disch := omega) only [A_graph_rmw_1, wp, Nat.reduceAdd, Nat.reduceMul, Nat.reduceSub, gl, c1, c2, c3]
  cases c4 : a.ex
  · simp (disch := omega) only [A_graph_rmw_1, wp, Nat.reduceAdd, Nat.reduceMul, Nat.reduceSub, gl, c1, c2, c3, c4]
  cases c5 : b.ex
  · simp (disch := omega) only [A_graph_rmw_1, wp, Nat.reduceAdd, Nat.reduceMul, Nat.reduceSub, gl, c1, c2, c3, c4, c5]
  simp (disch := omega) only [A_graph_rmw_1, wp, Nat.reduceAdd, Nat.reduceMul, Nat.reduceSub, gl, c1, c2, c3, c4, c5]
set_option maxRecDepth 100000 in
theorem sg_order (pc : Pk_cmp F) (h239 : F 239 = some A_graph_order) (p q : Int × Int) : pureS F 239 [.agg [.i .i64 p.1, .i .i64 p.2], .agg [.i .i64 q.1, .i .i64 q.2]] = some (.i .i64 (ordP p q)) := by
  refine pure_of h239 ?_
  simp (disch := omega) only [A_graph_order, wp, Nat.reduceAdd, Nat.reduceMul, Nat.reduceSub, gl, sg_cmp pc, sg_or pc]
  rfl
end Go.Ab
end
section
set_option linter.unusedVariables false
set_option linter.unusedSimpArgs false
namespace Go.Ab
variable {F : Funs}
def evIs (a b : Ev) : Bool := a.th == b.th && (a.kd == b.kd && (a.md == b.md && (a.lc == b.lc && (a.vl == b.vl && (a.ex == b.ex && true)))))
def gFirst (X : Gr) : Bool := allN X.locs.toNat fun i => evIs (X.evs.getD i ev0) ⟨0, 2, 0, i, 0, false⟩
set_option maxRecDepth 100000 in
set_option maxHeartbeats 4000000 in
theorem sg_first (h186 : F 186 = some A_graph_first) {X : Gr} (h0 : 0 ≤ X.locs) (hl : X.locs ≤ X.evs.length) (hn : X.evs.length ≤ 1000) : pureS F 186 [.agg (grC X)] = some (.b (gFirst X)) := by
  refine pure_of h186 ?_
  have finT : (∀ i, i < X.locs.toNat → evIs (X.evs.getD i ev0) ⟨0, 2, 0, i, 0, false⟩ = true) → gFirst X = true := allN_t
  have finF : ∀ k, k < X.locs.toNat → evIs (X.evs.getD k ev0) ⟨0, 2, 0, k, 0, false⟩ = false → gFirst X = false := fun k hk h => allN_f hk h
  generalize gFirst X = R at finT finF
  have r5 : ∀ x : AV, List.replicate 5 x = [x, x, x, x, x] := fun _ => rfl
  simp (disch := omega) only [A_graph_first, wp, Nat.reduceAdd, Nat.reduceMul, Nat.reduceSub, gl]
  refine W_loop (fun q e g => ∃ k : Nat, q = X.locs.toNat - k ∧ k ≤ X.locs.toNat ∧ e 1 = .mp 0 0 ∧ e 5 = .i .i64 X.locs ∧ e 6 = .i .i64 k ∧ g.hp 0 = some (.cells (grC X) false) ∧ 0 < g.nx ∧ ∀ i, i < k → evIs (X.evs.getD i ev0) ⟨0, 2, 0, i, 0, false⟩ = true) X.locs.toNat ?_ ?_
  · refine ⟨0, rfl, Nat.zero_le _, ?_⟩
    simp (disch := omega) only [wp, Nat.reduceAdd, Nat.reduceMul, Nat.reduceSub]
    exact ⟨rfl, by first | omega | (dsimp only; omega), fun i hi => by omega⟩
  · rintro q e g ⟨k, rfl, hk, e1, e5, e6, hg, hnx, hall⟩
    by_cases hk' : k < X.locs.toNat
    · have hk1 : (k : Int) < X.locs := by omega
      have hkn : (k : Int) < X.evs.length := by omega
      have hwk := succ_wrap (k := k) (by omega)
      have hev := ev_part (l := X.evs) (k := k) (by omega)
      have he : aeqa [0, 0, 0, 0, 0, 1] (.agg (evC (X.evs.getD k ev0))) (.agg [.i .i64 0, .i .i64 2, .i .i64 0, .i .i64 k, .i .i64 0, .b false]) = some (evIs (X.evs.getD k ev0) ⟨0, 2, 0, k, 0, false⟩) := rfl
      cases c : evIs (X.evs.getD k ev0) ⟨0, 2, 0, k, 0, false⟩
      · obtain rfl := finF k hk' c
        rw [c] at he
        simp (disch := omega) only [wp, Nat.reduceAdd, Nat.reduceMul, Nat.reduceSub, gl, e1, e5, e6, hg, hk1, hkn, hev, r5, he]
      · have hc := c
        rw [c] at he
        simp (disch := omega) only [wp, Nat.reduceAdd, Nat.reduceMul, Nat.reduceSub, gl, e1, e5, e6, hg, hk1, hkn, hev, r5, he, hwk]
        refine ⟨X.locs.toNat - (k + 1), by omega, k + 1, rfl, by omega, rfl, by first | omega | (dsimp only; omega), fun i hi => ?_⟩
        by_cases hik : i = k
        · subst hik; exact hc
        · exact hall i (by omega)
    · have hk1 : ¬ ((k : Int) < X.locs) := by omega
      obtain rfl : k = X.locs.toNat := by omega
      obtain rfl := finT hall
      simp (disch := omega) only [wp, Nat.reduceAdd, Nat.reduceMul, Nat.reduceSub, gl, e1, e5, e6, hg, hk1]
theorem o_slice' {call al lo' id e g} (esz : Nat) (x : Opd) (lo hi mx : Option Opd) : opE call al lo' id (.slice esz x lo hi mx) e g = vSlice esz (x.ev e) (evo e lo) (evo e hi) (evo e mx) g := rfl
theorem vSlice_lo {esz : Nat} {cs : List AV} {n : Nat} {lo : Int} {g : G} (h0 : 0 ≤ lo) (h : lo ≤ n) : vSlice esz (.sl cs n .non) (some (.i .i64 lo)) none none g = some (.sl ((cs.drop (lo.toNat * esz)).take ((n - lo.toNat) * esz)) (n - lo.toNat) .non, g) := by
  unfold vSlice
  have e : bnd n none = some (n : Int) := rfl
  have e2 : bnd 0 (some (.i .i64 lo)) = some lo := rfl
  have c : 0 ≤ lo ∧ lo ≤ (n : Int) ∧ (n : Int) ≤ n := ⟨h0, h, by omega⟩
  simp only [e, e2, if_pos c, Int.toNat_natCast]
  rfl
theorem evsC_drop : ∀ (l : List Ev) (k : Nat), (evsC l).drop (k * 6) = evsC (l.drop k)
  | l, 0 => by simp
  | [], k + 1 => by simp [evsC]
  | x :: l, k + 1 => by
    have e : (k + 1) * 6 = (evC x).length + k * 6 := by show _ = 6 + k * 6; omega
    rw [List.drop_succ_cons, ← evsC_drop l k, e]
    show List.drop _ (evC x ++ evsC l) = _
    rw [List.drop_length_add_append]
theorem evs_tail {l : List Ev} {lo : Int} (h0 : 0 ≤ lo) (h : lo ≤ l.length) : ((evsC l).drop (lo.toNat * 6)).take ((l.length - lo.toNat) * 6) = evsC (l.drop lo.toNat) := by
  rw [evsC_drop, List.take_of_length_le]
  rw [evsC_len, List.length_drop]
  exact Nat.le_refl _
def thrWas (D : List Ev) (k : Nat) : Int := if k = 0 then 1 else (D.getD (k - 1) ev0).th
def thrK (locs : Int) (D : List Ev) (k : Nat) : Bool := !decide ((D.getD k ev0).th < thrWas D k) && (!decide (4 < (D.getD k ev0).th) && gEv locs (D.getD k ev0))
def gThr (X : Gr) : Bool := allN (X.evs.length - X.locs.toNat) (thrK X.locs (X.evs.drop X.locs.toNat))
set_option maxRecDepth 100000 in
set_option maxHeartbeats 4000000 in
theorem sg_threads (h187 : F 187 = some A_graph_threads) (h236 : F 236 = some A_graph_event) {X : Gr} (h0 : 0 ≤ X.locs) (hl : X.locs ≤ X.evs.length) (hn : X.evs.length ≤ 1000) : pureS F 187 [.agg (grC X)] = some (.b (gThr X)) := by
  refine pure_of h187 ?_
  have hD : (X.evs.drop X.locs.toNat).length = X.evs.length - X.locs.toNat := List.length_drop ..
  have finT : (∀ i, i < X.evs.length - X.locs.toNat → thrK X.locs (X.evs.drop X.locs.toNat) i = true) → gThr X = true := allN_t
  have finF : ∀ k, k < X.evs.length - X.locs.toNat → thrK X.locs (X.evs.drop X.locs.toNat) k = false → gThr X = false := fun k hk h => allN_f hk h
  generalize gThr X = R at finT finF
  have hs : ∀ g : G, vSlice 6 (.sl (evsC X.evs) X.evs.length .non) (some (.i .i64 X.locs)) none none g = some (.sl (evsC (X.evs.drop X.locs.toNat)) (X.evs.drop X.locs.toNat).length .non, g) := fun g => by
    rw [vSlice_lo h0 hl, evs_tail h0 hl, hD]
  rw [← hD] at finT finF
  simp (disch := omega) only [A_graph_threads, wp, Nat.reduceAdd, Nat.reduceMul, Nat.reduceSub, gl, o_slice', evo, Option.map_some, Option.map_none, hs]
  generalize X.evs.drop X.locs.toNat = D at finT finF hD
  have s6 : ∀ b1 b2 b3 b4 b5 b6 c1 c2 c3 c4 c5 c6 : AV, splice [b1, b2, b3, b4, b5, b6] 0 [c1, c2, c3, c4, c5, c6] = [c1, c2, c3, c4, c5, c6] := fun _ _ _ _ _ _ _ _ _ _ _ _ => rfl
  have r5 : ∀ x : AV, List.replicate 5 x = [x, x, x, x, x] := fun _ => rfl
  refine W_loop (fun q e g => ∃ k : Nat, q = D.length - k ∧ k ≤ D.length ∧ e 1 = .mp 0 0 ∧ e 3 = .i .i64 (thrWas D k) ∧ e 10 = .sl (evsC D) D.length .non ∧ e 11 = .i .i64 D.length ∧ e 12 = .i .i64 k ∧ g.hp 0 = some (.cells (grC X) false) ∧ 0 < g.nx ∧ ∀ i, i < k → thrK X.locs D i = true) D.length ?_ ?_
  · refine ⟨0, rfl, Nat.zero_le _, ?_⟩
    simp (disch := omega) only [wp, Nat.reduceAdd, Nat.reduceMul, Nat.reduceSub]
    exact ⟨rfl, rfl, by first | omega | (dsimp only; omega), fun i hi => by omega⟩
  · rintro q e g ⟨k, rfl, hk, e1, e3, e10, e11, e12, hg, hnx, hall⟩
    by_cases hk' : k < D.length
    · have hk1 : (k : Int) < D.length := by omega
      have hwk := succ_wrap (k := k) (by omega)
      have hev := ev_part hk'
      have hK : thrK X.locs D k = (!decide ((D.getD k ev0).th < thrWas D k) && (!decide (4 < (D.getD k ev0).th) && gEv X.locs (D.getD k ev0))) := rfl
      have hW : thrWas D (k + 1) = (D.getD k ev0).th := rfl
      have hv := sg_event h236 (D.getD k ev0) X.locs
      have hf := finF k hk'
      rw [hK] at hf
      have hall' : thrK X.locs D k = true → ∀ i, i < k + 1 → thrK X.locs D i = true := by
        intro h i hi
        by_cases hik : i = k
        · subst hik; exact h
        · exact hall i (by omega)
      rw [hK] at hall'
      generalize thrWas D k = was at e3 hf hall'
      have t0 := ev_th (D.getD k ev0)
      generalize D.getD k ev0 = ev at hev hW hv hf hall' t0
      have n1 : 0 ≠ g.nx + 1 + 1 := by omega
      by_cases c1 : ev.th < was
      · obtain rfl := hf (by simp [c1])
        simp (disch := omega) only [wp, Nat.reduceAdd, Nat.reduceMul, Nat.reduceSub, gl, e1, e3, e10, e11, e12, hg, hk1, hev, c1]
      by_cases c2 : 4 < ev.th
      · obtain rfl := hf (by simp [c2])
        simp (disch := omega) only [wp, Nat.reduceAdd, Nat.reduceMul, Nat.reduceSub, gl, e1, e3, e10, e11, e12, hg, hk1, hev, c1, c2]
      cases c3 : gEv X.locs ev
      · rw [c3] at hv
        obtain rfl := hf (by simp [c3])
        simp (disch := omega) only [wp, Nat.reduceAdd, Nat.reduceMul, Nat.reduceSub, gl, e1, e3, e10, e11, e12, hg, hk1, hev, c1, c2, hv]
      · rw [c3] at hv
        have hall' := hall' (by simp [c1, c2, c3])
        simp (disch := omega) only [wp, Nat.reduceAdd, Nat.reduceMul, Nat.reduceSub, gl, e1, e3, e10, e11, e12, hg, hk1, hev, c1, c2, hv, hwk]
        exact ⟨D.length - (k + 1), by omega, k + 1, rfl, by omega, by rw [hW], rfl, by first | omega | (dsimp only; omega), hall'⟩
    · have hk1 : ¬ ((k : Int) < D.length) := by omega
      obtain rfl : k = D.length := by omega
      obtain rfl := finT hall
      simp (disch := omega) only [wp, Nat.reduceAdd, Nat.reduceMul, Nat.reduceSub, gl, e1, e3, e10, e11, e12, hg, hk1]
end Go.Ab
end
section
set_option linter.unusedVariables false
set_option linter.unusedSimpArgs false
namespace Go.Ab
variable {F : Funs}
def rfK (X : Gr) (i : Nat) : Bool := !((X.evs.getD i ev0).kd != 1 && X.rf.getD i 0 != -1) && !((X.evs.getD i ev0).kd == 1 && (!gWr X (X.rf.getD i 0) (X.evs.getD i ev0).lc || (X.evs.getD (X.rf.getD i 0).toNat ev0).vl != (X.evs.getD i ev0).vl))
def gRf (X : Gr) : Bool := ((X.rf.length : Int) == X.evs.length) && allN X.evs.length (rfK X)
theorem gWr_in {X : Gr} {i loc : Int} (h : gWr X i loc = true) : 0 ≤ i ∧ i < X.evs.length := by
  unfold gWr at h
  simp only [Bool.and_eq_true, decide_eq_true_eq] at h
  exact ⟨h.1.1.1, h.1.1.2⟩
set_option maxRecDepth 100000 in
set_option maxHeartbeats 4000000 in
theorem sg_rf (h188 : F 188 = some A_graph_rf) (h237 : F 237 = some A_graph_write) {X : Gr} (hn : X.evs.length ≤ 1000) : pureS F 188 [.agg (grC X)] = some (.b (gRf X)) := by
  refine pure_of h188 ?_
  have hR : gRf X = (((X.rf.length : Int) == X.evs.length) && allN X.evs.length (rfK X)) := rfl
  cases c0 : ((X.rf.length : Int) == (X.evs.length : Int))
  · rw [c0] at hR
    have c0' : ((X.rf.length : Int) != (X.evs.length : Int)) = true := by unfold bne; rw [c0]; rfl
    rw [hR]
    simp (disch := omega) only [A_graph_rf, wp, Nat.reduceAdd, Nat.reduceMul, Nat.reduceSub, gl, c0']
  rw [c0, Bool.true_and] at hR
  have c0' : ((X.rf.length : Int) != (X.evs.length : Int)) = false := by unfold bne; rw [c0]; rfl
  have hrl : X.rf.length = X.evs.length := by have := of_decide_eq_true (p := (X.rf.length : Int) = X.evs.length) (by simpa using c0); omega
  have finT : (∀ i, i < X.evs.length → rfK X i = true) → gRf X = true := fun h => by rw [hR]; exact allN_t h
  have finF : ∀ k, k < X.evs.length → rfK X k = false → gRf X = false := fun k hk h => by rw [hR]; exact allN_f hk h
  clear hR
  generalize gRf X = R at finT finF
  have r5 : ∀ x : AV, List.replicate 5 x = [x, x, x, x, x] := fun _ => rfl
  simp (disch := omega) only [A_graph_rf, wp, Nat.reduceAdd, Nat.reduceMul, Nat.reduceSub, gl, c0']
  refine W_loop (fun q e g => ∃ k : Nat, q = X.evs.length - k ∧ k ≤ X.evs.length ∧ e 1 = .mp 0 0 ∧ e 14 = .sl (evsC X.evs) X.evs.length .non ∧ e 15 = .i .i64 X.evs.length ∧ e 16 = .i .i64 k ∧ g.hp 0 = some (.cells (grC X) false) ∧ 0 < g.nx ∧ ∀ i, i < k → rfK X i = true) X.evs.length ?_ ?_
  · refine ⟨0, rfl, Nat.zero_le _, ?_⟩
    simp (disch := omega) only [wp, Nat.reduceAdd, Nat.reduceMul, Nat.reduceSub]
    exact ⟨rfl, by first | omega | (dsimp only; omega), fun i hi => by omega⟩
  · rintro q e g ⟨k, rfl, hk, e1, e14, e15, e16, hg, hnx, hall⟩
    by_cases hk' : k < X.evs.length
    · have hk1 : (k : Int) < X.evs.length := by omega
      have hkr : (k : Int) < X.rf.length := by omega
      have hwk := succ_wrap (k := k) (by omega)
      have hev := ev_part hk'
      have hrf := ints_part (l := X.rf) (k := k) (by omega)
      have hK : rfK X k = (!((X.evs.getD k ev0).kd != 1 && X.rf.getD k 0 != -1) && !((X.evs.getD k ev0).kd == 1 && (!gWr X (X.rf.getD k 0) (X.evs.getD k ev0).lc || (X.evs.getD (X.rf.getD k 0).toNat ev0).vl != (X.evs.getD k ev0).vl))) := rfl
      have hf := finF k hk'
      rw [hK] at hf
      have hall' : rfK X k = true → ∀ i, i < k + 1 → rfK X i = true := by
        intro h i hi
        by_cases hik : i = k
        · subst hik; exact h
        · exact hall i (by omega)
      rw [hK] at hall'
      have hw := sg_write h237 X (X.rf.getD k 0) (X.evs.getD k ev0).lc
      have hin := gWr_in (X := X) (i := X.rf.getD k 0) (loc := (X.evs.getD k ev0).lc)
      generalize X.rf.getD k 0 = w at hrf hf hall' hw hin
      have n1 : 0 ≠ g.nx + 2 + 1 := by omega
      cases c1 : ((X.evs.getD k ev0).kd == 1)
      · have c1' : ((X.evs.getD k ev0).kd != 1) = true := by unfold bne; rw [c1]; rfl
        rw [c1, c1'] at hf hall'
        generalize X.evs.getD k ev0 = ev at hev hw c1 c1'
        cases c2 : (w != -1)
        · rw [c2] at hall'
          have hall' := hall' rfl
          simp (disch := omega) only [wp, Nat.reduceAdd, Nat.reduceMul, Nat.reduceSub, gl, e1, e14, e15, e16, hg, hk1, hkr, hev, hrf, c1, c1', c2, hwk]
          exact ⟨X.evs.length - (k + 1), by omega, k + 1, rfl, by omega, rfl, by first | omega | (dsimp only; omega), hall'⟩
        · rw [c2] at hf
          obtain rfl := hf rfl
          simp (disch := omega) only [wp, Nat.reduceAdd, Nat.reduceMul, Nat.reduceSub, gl, e1, e14, e15, e16, hg, hk1, hkr, hev, hrf, c1, c1', c2]
      · have c1' : ((X.evs.getD k ev0).kd != 1) = false := by unfold bne; rw [c1]; rfl
        rw [c1, c1'] at hf hall'
        generalize X.evs.getD k ev0 = ev at hev hw c1 c1' hf hall' hin
        cases c2 : gWr X w ev.lc
        · rw [c2] at hf hw
          obtain rfl := hf rfl
          simp (disch := omega) only [wp, Nat.reduceAdd, Nat.reduceMul, Nat.reduceSub, gl, e1, e14, e15, e16, hg, hk1, hkr, hev, hrf, c1, c1', hw]
        · rw [c2] at hf hw hall'
          obtain ⟨w0, w1⟩ := hin c2
          have va := ev_vl_at (l := X.evs) (k := w.toNat) (by omega)
          have da : (List.drop (w.toNat * 6) (evsC X.evs)).length = X.evs.length * 6 - w.toNat * 6 := by rw [List.length_drop, evsC_len]
          cases c3 : ((X.evs.getD w.toNat ev0).vl != ev.vl)
          · rw [c3] at hall'
            have hall' := hall' rfl
            simp (disch := omega) only [wp, Nat.reduceAdd, Nat.reduceMul, Nat.reduceSub, gl, e1, e14, e15, e16, hg, hk1, hkr, hev, hrf, c1, c1', hw, w0, w1, va, da, c3, hwk]
            exact ⟨X.evs.length - (k + 1), by omega, k + 1, rfl, by omega, rfl, by first | omega | (dsimp only; omega), hall'⟩
          · rw [c3] at hf
            obtain rfl := hf rfl
            simp (disch := omega) only [wp, Nat.reduceAdd, Nat.reduceMul, Nat.reduceSub, gl, e1, e14, e15, e16, hg, hk1, hkr, hev, hrf, c1, c1', hw, w0, w1, va, da, c3]
    · have hk1 : ¬ ((k : Int) < X.evs.length) := by omega
      obtain rfl : k = X.evs.length := by omega
      obtain rfl := finT hall
      simp (disch := omega) only [wp, Nat.reduceAdd, Nat.reduceMul, Nat.reduceSub, gl, e1, e14, e15, e16, hg, hk1]
end Go.Ab
end
section
set_option linter.unusedVariables false
set_option linter.unusedSimpArgs false
namespace Go.Ab
variable {F : Funs}
def lsK (X : Gr) (may : Ev → Ev → Bool) (l : List (Int × Int)) (i : Nat) : Bool :=
  !decide ((l.getD i (0, 0)).1 < 0) && (!decide ((X.evs.length : Int) ≤ (l.getD i (0, 0)).2) && (!decide ((l.getD i (0, 0)).2 ≤ (l.getD i (0, 0)).1) && (!(decide (0 < i) && decide (0 ≤ ordP (l.getD (i - 1) (0, 0)) (l.getD i (0, 0)))) && may (X.evs.getD (l.getD i (0, 0)).1.toNat ev0) (X.evs.getD (l.getD i (0, 0)).2.toNat ev0))))
def gList (X : Gr) (may : Ev → Ev → Bool) (l : List (Int × Int)) : Bool := allN l.length (lsK X may l)
theorem frz_p2 (hp) (x y : Int) : frz hp depth (.agg [.i .i64 x, .i .i64 y]) = some (.agg [.i .i64 x, .i .i64 y]) := by
  show frz hp (8 + 1) _ = _
  simp only [frz, frzL, Option.map_some]
theorem vis_p2 (hp) (x y : Int) : vis hp depth (.agg [.i .i64 x, .i .i64 y]) = [] := by
  show vis hp (8 + 1) _ = _
  simp only [vis, List.flatMap_cons, List.flatMap_nil, List.append_nil]
set_option maxRecDepth 100000 in
set_option maxHeartbeats 8000000 in
theorem sg_list (h192 : F 192 = some A_graph_list) (h239 : F 239 = some A_graph_order) (pc : Pk_cmp F) {X : Gr} (hn : X.evs.length ≤ 1000) {fid : Nat} {may : Ev → Ev → Bool} (hmay : ∀ a b, pureS F fid [.agg (evC a), .agg (evC b)] = some (.b (may a b))) (l : List (Int × Int)) (hl : l.length ≤ 1000) : pureS F 192 [.agg (grC X), .sl (pairsC l) l.length .non, .fn fid [] []] = some (.b (gList X may l)) := by
  refine pure_of h192 ?_
  have finT : (∀ i, i < l.length → lsK X may l i = true) → gList X may l = true := allN_t
  have finF : ∀ k, k < l.length → lsK X may l k = false → gList X may l = false := fun k hk h => allN_f hk h
  generalize gList X may l = R at finT finF
  simp (disch := omega) only [A_graph_list, wp, Nat.reduceAdd, Nat.reduceMul, Nat.reduceSub, gl]
  refine W_loop (fun q e g => ∃ k : Nat, q = l.length - k ∧ k ≤ l.length ∧ e 1 = .sl (pairsC l) l.length .non ∧ e 2 = .fn fid [] [] ∧ e 3 = .mp 0 0 ∧ e 9 = .sl (pairsC l) l.length .non ∧ e 10 = .i .i64 l.length ∧ e 11 = .i .i64 k ∧ g.hp 0 = some (.cells (grC X) false) ∧ 0 < g.nx ∧ ∀ i, i < k → lsK X may l i = true) l.length ?_ ?_
  · refine ⟨0, rfl, Nat.zero_le _, ?_⟩
    simp (disch := omega) only [wp, Nat.reduceAdd, Nat.reduceMul, Nat.reduceSub]
    exact ⟨rfl, by first | omega | (dsimp only; omega), fun i hi => by omega⟩
  · rintro q e g ⟨k, rfl, hk, e1, e2, e3, e9, e10, e11, hg, hnx, hall⟩
    by_cases hk' : k < l.length
    · have hk1 : (k : Int) < l.length := by omega
      have hwk := succ_wrap (k := k) (by omega)
      have hpp := pairs_part hk'
      have hK : lsK X may l k = (!decide ((l.getD k (0, 0)).1 < 0) && (!decide ((X.evs.length : Int) ≤ (l.getD k (0, 0)).2) && (!decide ((l.getD k (0, 0)).2 ≤ (l.getD k (0, 0)).1) && (!(decide (0 < k) && decide (0 ≤ ordP (l.getD (k - 1) (0, 0)) (l.getD k (0, 0)))) && may (X.evs.getD (l.getD k (0, 0)).1.toNat ev0) (X.evs.getD (l.getD k (0, 0)).2.toNat ev0))))) := rfl
      have hf := finF k hk'
      rw [hK] at hf
      have hall' : lsK X may l k = true → ∀ i, i < k + 1 → lsK X may l i = true := by
        intro h i hi
        by_cases hik : i = k
        · subst hik; exact h
        · exact hall i (by omega)
      rw [hK] at hall'
      have ho := sg_order pc h239 (l.getD (k - 1) (0, 0)) (l.getD k (0, 0))
      have hpq := pairs_part (l := l) (k := k - 1) (by omega)
      have dq : (List.drop ((k - 1) * 2) (pairsC l)).length = l.length * 2 - (k - 1) * 2 := by rw [List.length_drop, pairsC_len]
      generalize l.getD k (0, 0) = p at hpp hf hall' ho
      generalize l.getD (k - 1) (0, 0) = pq at hf hall' ho hpq
      obtain ⟨a, b⟩ := p
      have s2 : ∀ b1 b2 c1 c2 : AV, splice [b1, b2] 0 [c1, c2] = [c1, c2] := fun _ _ _ _ => rfl
      have n1 : 0 ≠ g.nx + 2 + 1 := by omega
      simp only at hpp hf hall' ho
      by_cases c1 : a < 0
      · obtain rfl := hf (by simp [c1])
        simp (disch := omega) only [wp, Nat.reduceAdd, Nat.reduceMul, Nat.reduceSub, gl, s2, frz_p2, vis_p2, e1, e2, e3, e9, e10, e11, hg, hk1, hpp, c1]
      by_cases c2 : (X.evs.length : Int) ≤ b
      · obtain rfl := hf (by simp [c2])
        simp (disch := omega) only [wp, Nat.reduceAdd, Nat.reduceMul, Nat.reduceSub, gl, s2, frz_p2, vis_p2, e1, e2, e3, e9, e10, e11, hg, hk1, hpp, c1, c2]
      by_cases c3 : b ≤ a
      · obtain rfl := hf (by simp [c3])
        simp (disch := omega) only [wp, Nat.reduceAdd, Nat.reduceMul, Nat.reduceSub, gl, s2, frz_p2, vis_p2, e1, e2, e3, e9, e10, e11, hg, hk1, hpp, c1, c2, c3]
      have hm := hmay (X.evs.getD a.toNat ev0) (X.evs.getD b.toNat ev0)
      have pa := ev_part (l := X.evs) (k := a.toNat) (by omega)
      have pb := ev_part (l := X.evs) (k := b.toNat) (by omega)
      generalize X.evs.getD a.toNat ev0 = ea at hm pa hf hall'
      generalize X.evs.getD b.toNat ev0 = eb at hm pb hf hall'
      have a0 : 0 ≤ a := by omega
      have an : a < X.evs.length := by omega
      have b0 : 0 ≤ b := by omega
      have bn : b < X.evs.length := by omega
      by_cases c4 : 0 < k
      · have c4' : (0 : Int) < k := by omega
        have hw1 : IntKind.i64.wrap ((k : Int) - 1) = ((k - 1 : Nat) : Int) := by rw [i64_wrap (by omega) (by omega)]; omega
        have km : ((k - 1 : Nat) : Int) < l.length := by omega
        by_cases c5 : 0 ≤ ordP pq (a, b)
        · obtain rfl := hf (by simp [c4, c5])
          simp (disch := omega) only [wp, Nat.reduceAdd, Nat.reduceMul, Nat.reduceSub, gl, s2, frz_p2, vis_p2, e1, e2, e3, e9, e10, e11, hg, hk1, hpp, c1, c2, c3, c4', hw1, km, hpq, dq, ho, c5]
        · cases c6 : may ea eb
          · rw [c6] at hm
            obtain rfl := hf (by simp [c6])
            simp (disch := omega) only [wp, Nat.reduceAdd, Nat.reduceMul, Nat.reduceSub, gl, s2, frz_p2, vis_p2, e1, e2, e3, e9, e10, e11, hg, hk1, hpp, c1, c2, c3, c4', hw1, km, hpq, dq, ho, c5, pa, pb, a0, an, b0, bn, hm]
          · rw [c6] at hm
            have hall' := hall' (by simp [c1, c2, c3, c5, c6])
            simp (disch := omega) only [wp, Nat.reduceAdd, Nat.reduceMul, Nat.reduceSub, gl, s2, frz_p2, vis_p2, e1, e2, e3, e9, e10, e11, hg, hk1, hpp, c1, c2, c3, c4', hw1, km, hpq, dq, ho, c5, pa, pb, a0, an, b0, bn, hm, hwk]
            exact ⟨l.length - (k + 1), by omega, k + 1, rfl, by omega, rfl, by first | omega | (dsimp only; omega), hall'⟩
      · have c4' : ¬ (0 : Int) < k := by omega
        cases c6 : may ea eb
        · rw [c6] at hm
          obtain rfl := hf (by simp [c6])
          simp (disch := omega) only [wp, Nat.reduceAdd, Nat.reduceMul, Nat.reduceSub, gl, s2, frz_p2, vis_p2, e1, e2, e3, e9, e10, e11, hg, hk1, hpp, c1, c2, c3, c4', pa, pb, a0, an, b0, bn, hm]
        · rw [c6] at hm
          have hall' := hall' (by simp [c1, c2, c3, c4, c6])
          simp (disch := omega) only [wp, Nat.reduceAdd, Nat.reduceMul, Nat.reduceSub, gl, s2, frz_p2, vis_p2, e1, e2, e3, e9, e10, e11, hg, hk1, hpp, c1, c2, c3, c4', pa, pb, a0, an, b0, bn, hm, hwk]
          exact ⟨l.length - (k + 1), by omega, k + 1, rfl, by omega, rfl, by first | omega | (dsimp only; omega), hall'⟩
    · have hk1 : ¬ ((k : Int) < l.length) := by omega
      obtain rfl : k = l.length := by omega
      obtain rfl := finT hall
      simp (disch := omega) only [wp, Nat.reduceAdd, Nat.reduceMul, Nat.reduceSub, gl, e1, e2, e3, e9, e10, e11, hg, hk1]
end Go.Ab
end
section
set_option linter.unusedVariables false
set_option linter.unusedSimpArgs false
namespace Go.Ab
variable {F : Funs}
def nEx (X : Gr) (k : Nat) : Nat := ((X.evs.take k).filter (·.ex)).length
theorem nEx_succ {X : Gr} {k : Nat} (h : k < X.evs.length) : nEx X (k + 1) = if (X.evs.getD k ev0).ex then nEx X k + 1 else nEx X k := by
  unfold nEx
  rw [List.take_add_one, List.filter_append, List.getElem?_eq_getElem h, List.getD_eq_getElem?_getD, List.getElem?_eq_getElem h, List.length_append]
  simp only [Option.toList_some, Option.getD_some, List.filter_cons, List.filter_nil]
  split <;> simp
theorem nEx_le (X : Gr) (k : Nat) : nEx X k ≤ k := by
  unfold nEx
  have h1 := List.length_filter_le (·.ex) (X.evs.take k)
  rw [List.length_take] at h1
  omega
def rmLast (X : Gr) (k : Nat) : Int := if k = 0 then -1 else (X.rmw.getD (k - 1) (0, 0)).2
def rmK (X : Gr) (k : Nat) : Bool := !((X.rmw.getD k (0, 0)).2 != (X.rmw.getD k (0, 0)).1 + 1) && !decide ((X.rmw.getD k (0, 0)).1 ≤ rmLast X k)
def gRmw (X : Gr) : Bool := gList X mayR X.rmw && (allN X.rmw.length (rmK X) && ((nEx X X.evs.length : Int) == 2 * (X.rmw.length : Int)))
theorem gList_at {X : Gr} {may} {l : List (Int × Int)} (h : gList X may l = true) {k : Nat} (hk : k < l.length) : 0 ≤ (l.getD k (0, 0)).1 ∧ (l.getD k (0, 0)).1 < (l.getD k (0, 0)).2 ∧ (l.getD k (0, 0)).2 < X.evs.length := by
  have := allN_iff.1 h k hk
  unfold lsK at this
  simp only [Bool.and_eq_true, Bool.not_eq_true', decide_eq_false_iff_not] at this
  obtain ⟨h1, h2, h3, _⟩ := this
  omega
set_option maxRecDepth 100000 in
set_option maxHeartbeats 8000000 in
theorem sg_rmw (h190 : F 190 = some A_graph_rmw) (h238 : F 238 = some A_graph_rmw_1) (h192 : F 192 = some A_graph_list) (h239 : F 239 = some A_graph_order) (pc : Pk_cmp F) {X : Gr} (hn : X.evs.length ≤ 1000) (hr : X.rmw.length ≤ 1000) : pureS F 190 [.agg (grC X)] = some (.b (gRmw X)) := by
  refine pure_of h190 ?_
  have hR : gRmw X = (gList X mayR X.rmw && (allN X.rmw.length (rmK X) && ((nEx X X.evs.length : Int) == 2 * (X.rmw.length : Int)))) := rfl
  have hl := sg_list h192 h239 pc hn (sg_mayR h238) X.rmw hr
  cases c0 : gList X mayR X.rmw
  · rw [c0] at hR hl
    rw [hR]
    simp (disch := omega) only [A_graph_rmw, wp, Nat.reduceAdd, Nat.reduceMul, Nat.reduceSub, gl, hl]
  rw [c0] at hl
  rw [c0, Bool.true_and] at hR
  have hat := fun {k : Nat} (hk : k < X.rmw.length) => gList_at c0 hk
  have finF : ∀ k, k < X.rmw.length → rmK X k = false → gRmw X = false := fun k hk h => by rw [hR, allN_f hk h]; rfl
  have finT : (∀ i, i < X.rmw.length → rmK X i = true) → gRmw X = ((nEx X X.evs.length : Int) == 2 * (X.rmw.length : Int)) := fun h => by rw [hR, allN_t h, Bool.true_and]
  clear hR
  generalize gRmw X = R at finT finF
  simp (disch := omega) only [A_graph_rmw, wp, Nat.reduceAdd, Nat.reduceMul, Nat.reduceSub, gl, hl]
  refine blk_cut (fun e g => e 1 = .mp 0 0 ∧ e 4 = .i .i64 (nEx X X.evs.length : Nat) ∧ g.hp 0 = some (.cells (grC X) false) ∧ 0 < g.nx) ?_ ?_
  · refine W_loop (fun q e g => ∃ k : Nat, q = X.evs.length - k ∧ k ≤ X.evs.length ∧ e 1 = .mp 0 0 ∧ e 4 = .i .i64 (nEx X k : Nat) ∧ e 17 = .sl (evsC X.evs) X.evs.length .non ∧ e 18 = .i .i64 X.evs.length ∧ e 19 = .i .i64 k ∧ g.hp 0 = some (.cells (grC X) false) ∧ 0 < g.nx) X.evs.length ?_ ?_
    · refine ⟨0, rfl, Nat.zero_le _, ?_⟩
      simp (disch := omega) only [wp, Nat.reduceAdd, Nat.reduceMul, Nat.reduceSub]
      exact ⟨rfl, rfl, by first | omega | (dsimp only; omega)⟩
    · rintro q e g ⟨k, rfl, hk, e1, e4, e17, e18, e19, hg, hnx⟩
      by_cases hk' : k < X.evs.length
      · have hk1 : (k : Int) < X.evs.length := by omega
        have hwk := succ_wrap (k := k) (by omega)
        have hev := ev_part hk'
        have hs := nEx_succ hk'
        have hle := nEx_le X k
        generalize nEx X k = c at e4 hs hle
        have hwc := succ_wrap (k := c) (by omega)
        generalize X.evs.getD k ev0 = ev at hev hs
        have n1 : 0 ≠ g.nx + 1 + 1 := by omega
        cases c1 : ev.ex
        · rw [c1] at hs
          simp (disch := omega) only [wp, Nat.reduceAdd, Nat.reduceMul, Nat.reduceSub, gl, e1, e4, e17, e18, e19, hg, hk1, hev, c1, hwk]
          exact ⟨X.evs.length - (k + 1), by omega, k + 1, rfl, by omega, by rw [hs]; rfl, rfl, by first | omega | (dsimp only; omega)⟩
        · rw [c1] at hs
          simp (disch := omega) only [wp, Nat.reduceAdd, Nat.reduceMul, Nat.reduceSub, gl, e1, e4, e17, e18, e19, hg, hk1, hev, c1, hwk, hwc]
          exact ⟨X.evs.length - (k + 1), by omega, k + 1, rfl, by omega, by rw [hs]; rfl, rfl, by first | omega | (dsimp only; omega)⟩
      · have hk1 : ¬ ((k : Int) < X.evs.length) := by omega
        obtain rfl : k = X.evs.length := by omega
        simp (disch := omega) only [wp, Nat.reduceAdd, Nat.reduceMul, Nat.reduceSub, gl, e1, e4, e17, e18, e19, hg, hk1]
        exact (by first | omega | (dsimp only; omega))
  · rintro e g ⟨e1, e4, hg, hnx⟩
    generalize nEx X X.evs.length = N at e4 finT
    simp (disch := omega) only [wp, Nat.reduceAdd, Nat.reduceMul, Nat.reduceSub, gl, e1, e4, hg]
    refine W_loop (fun q e g => ∃ k : Nat, q = X.rmw.length - k ∧ k ≤ X.rmw.length ∧ e 1 = .mp 0 0 ∧ e 4 = .i .i64 N ∧ e 7 = .i .i64 (rmLast X k) ∧ e 29 = .sl (pairsC X.rmw) X.rmw.length .non ∧ e 30 = .i .i64 X.rmw.length ∧ e 31 = .i .i64 k ∧ g.hp 0 = some (.cells (grC X) false) ∧ 0 < g.nx ∧ ∀ i, i < k → rmK X i = true) X.rmw.length ?_ ?_
    · refine ⟨0, rfl, Nat.zero_le _, ?_⟩
      simp (disch := omega) only [wp, Nat.reduceAdd, Nat.reduceMul, Nat.reduceSub, e1, e4]
      exact ⟨rfl, rfl, hg, by first | omega | (dsimp only; omega), fun i hi => by omega⟩
    · rintro q e g ⟨k, rfl, hk, e1, e4, e7, e29, e30, e31, hg, hnx, hall⟩
      by_cases hk' : k < X.rmw.length
      · have hk1 : (k : Int) < X.rmw.length := by omega
        have hwk := succ_wrap (k := k) (by omega)
        have hpp := pairs_part hk'
        have hb := hat hk'
        have hK : rmK X k = (!((X.rmw.getD k (0, 0)).2 != (X.rmw.getD k (0, 0)).1 + 1) && !decide ((X.rmw.getD k (0, 0)).1 ≤ rmLast X k)) := rfl
        have hL : rmLast X (k + 1) = (X.rmw.getD k (0, 0)).2 := rfl
        have hf := finF k hk'
        rw [hK] at hf
        have hall' : rmK X k = true → ∀ i, i < k + 1 → rmK X i = true := by
          intro h i hi
          by_cases hik : i = k
          · subst hik; exact h
          · exact hall i (by omega)
        rw [hK] at hall'
        generalize rmLast X k = la at e7 hf hall'
        generalize X.rmw.getD k (0, 0) = p at hpp hf hall' hL hb
        obtain ⟨a, b⟩ := p
        simp only at hpp hf hall' hL hb
        have s2 : ∀ b1 b2 c1 c2 : AV, splice [b1, b2] 0 [c1, c2] = [c1, c2] := fun _ _ _ _ => rfl
        have n1 : 0 ≠ g.nx + 1 + 1 := by omega
        have hwa : IntKind.i64.wrap (a + 1) = a + 1 := by rw [i64_wrap (by omega) (by omega)]
        cases c1 : (b != a + 1)
        · by_cases c2 : a ≤ la
          · obtain rfl := hf (by simp [c2])
            simp (disch := omega) only [wp, Nat.reduceAdd, Nat.reduceMul, Nat.reduceSub, gl, s2, e1, e4, e7, e29, e30, e31, hg, hk1, hpp, hwa, c1, c2]
          · rw [c1] at hall'
            have hall' := hall' (by simp [c2])
            simp (disch := omega) only [wp, Nat.reduceAdd, Nat.reduceMul, Nat.reduceSub, gl, s2, e1, e4, e7, e29, e30, e31, hg, hk1, hpp, hwa, c1, c2, hwk]
            exact ⟨X.rmw.length - (k + 1), by omega, k + 1, rfl, by omega, by rw [hL], rfl, by first | omega | (dsimp only; omega), hall'⟩
        · rw [c1] at hf
          obtain rfl := hf rfl
          simp (disch := omega) only [wp, Nat.reduceAdd, Nat.reduceMul, Nat.reduceSub, gl, s2, e1, e4, e7, e29, e30, e31, hg, hk1, hpp, hwa, c1]
      · have hk1 : ¬ ((k : Int) < X.rmw.length) := by omega
        obtain rfl : k = X.rmw.length := by omega
        obtain rfl := finT hall
        have hwm : IntKind.i64.wrap (2 * (X.rmw.length : Int)) = 2 * (X.rmw.length : Int) := by rw [i64_wrap (by omega) (by omega)]
        simp (disch := omega) only [wp, Nat.reduceAdd, Nat.reduceMul, Nat.reduceSub, gl, e1, e4, e7, e29, e30, e31, hg, hk1, hwm]
end Go.Ab
end
section
set_option linter.unusedVariables false
set_option linter.unusedSimpArgs false
namespace Go.Ab
variable {F : Funs}
def seenC (L : List Int) : List AV := (List.range 40).map fun i : Nat => .b (L.contains (i : Int))
theorem seenC_len (L) : (seenC L).length = 40 := by simp [seenC]
theorem seenC_zero : List.replicate 40 (AV.b false) = seenC [] := by rfl
theorem seen_at {L : List Int} {a : Nat} (h : a < 40) : part (seenC L) (a * 1) none = some (.b (L.contains (a : Int))) := by
  simp only [part, seenC, Nat.mul_one, List.getElem?_map, List.getElem?_range h, Option.map_some]
theorem seen_set {L : List Int} {a : Nat} (h : a < 40) : (seenC L).set (a * 1) (.b true) = seenC (L ++ [(a : Int)]) := by
  rw [Nat.mul_one]
  refine List.ext_getElem? fun i => ?_
  rw [List.getElem?_set]
  unfold seenC
  simp only [List.length_map, List.length_range, List.getElem?_map]
  by_cases hi : a = i
  · subst hi
    rw [if_pos rfl, if_pos h, List.getElem?_range h]
    simp
  · rw [if_neg hi]
    by_cases hl : i < 40
    · rw [List.getElem?_range hl]
      simp only [Option.map_some, Option.some.injEq, AV.b.injEq, List.contains_eq_mem, List.mem_append, List.mem_singleton]
      have hne : ¬ ((i : Int) = (a : Int)) := by omega
      simp [hne]
    · rw [List.getElem?_eq_none (by simp; omega)]; rfl
def coS' (X : Gr) (k j : Nat) : List Int := (X.co.take k).flatten ++ (X.co.getD k []).take j
theorem coS'_succ {X : Gr} {k j : Nat} (h : j < (X.co.getD k []).length) : coS' X k (j + 1) = coS' X k j ++ [(X.co.getD k []).getD j 0] := by
  unfold coS'
  rw [List.take_add_one, List.getElem?_eq_getElem h, List.append_assoc, List.getD_eq_getElem?_getD (l := X.co.getD k []), List.getElem?_eq_getElem h]
  rfl
theorem coS'_next {X : Gr} {k : Nat} (h : k < X.co.length) : coS' X k (X.co.getD k []).length = coS' X (k + 1) 0 := by
  unfold coS'
  rw [List.take_length, List.take_zero, List.append_nil, List.take_add_one, List.getElem?_eq_getElem h, List.getD_eq_getElem?_getD, List.getElem?_eq_getElem h, List.flatten_append]
  simp
theorem coS'_end (X : Gr) : coS' X X.co.length 0 = X.co.flatten := by
  unfold coS'
  rw [List.take_length, List.take_zero, List.append_nil]
theorem coS'_le {X : Gr} {k j : Nat} (h : k < X.co.length) : (coS' X k j).length ≤ X.co.flatten.length := by
  have e : X.co = X.co.take k ++ X.co.drop k := (List.take_append_drop k X.co).symm
  have e2 : X.co.drop k = X.co.getD k [] :: X.co.drop (k + 1) := by
    rw [List.drop_eq_getElem_cons h, List.getD_eq_getElem?_getD, List.getElem?_eq_getElem h]; rfl
  have e3 : X.co.flatten = (X.co.take k).flatten ++ (X.co.getD k [] ++ (X.co.drop (k + 1)).flatten) := by
    conv => lhs; rw [e, e2]
    rw [List.flatten_append, List.flatten_cons]
  rw [e3]
  unfold coS'
  simp only [List.length_append, List.length_take]
  omega
def ciK (X : Gr) (k j : Nat) : Bool := gWr X ((X.co.getD k []).getD j 0) k && !(coS' X k j).contains ((X.co.getD k []).getD j 0)
def coK (X : Gr) (k : Nat) : Bool := !(((X.co.getD k []).length : Int) == 0) && (!((X.co.getD k []).getD 0 0 != (k : Int)) && allN (X.co.getD k []).length (ciK X k))
def nWr (X : Gr) (k : Nat) : Nat := ((X.evs.take k).filter (·.kd == 2)).length
theorem nWr_succ {X : Gr} {k : Nat} (h : k < X.evs.length) : nWr X (k + 1) = if (X.evs.getD k ev0).kd == 2 then nWr X k + 1 else nWr X k := by
  unfold nWr
  rw [List.take_add_one, List.filter_append, List.getElem?_eq_getElem h, List.getD_eq_getElem?_getD, List.getElem?_eq_getElem h, List.length_append]
  simp only [Option.toList_some, Option.getD_some, List.filter_cons, List.filter_nil]
  split <;> simp
theorem nWr_le (X : Gr) (k : Nat) : nWr X k ≤ k := by
  unfold nWr
  have h1 := List.length_filter_le (·.kd == 2) (X.evs.take k)
  rw [List.length_take] at h1
  omega
def gCo (X : Gr) : Bool := ((X.co.length : Int) == X.locs) && (allN X.co.length (coK X) && ((X.co.flatten.length : Int) - (nWr X X.evs.length : Int) == 0))
set_option maxRecDepth 100000 in
set_option maxHeartbeats 8000000 in
theorem sg_co (h189 : F 189 = some A_graph_co) (h237 : F 237 = some A_graph_write) {X : Gr} (hn : X.evs.length ≤ 40) (hc : X.co.flatten.length ≤ 1000) (hc6 : X.co.length ≤ 1000) (hcl : ∀ k, (X.co.getD k []).length ≤ 1000) : pureS F 189 [.agg (grC X)] = some (.b (gCo X)) := by
  refine pure_of h189 ?_
  have hR : gCo X = (((X.co.length : Int) == X.locs) && (allN X.co.length (coK X) && ((X.co.flatten.length : Int) - (nWr X X.evs.length : Int) == 0))) := rfl
  cases c0 : ((X.co.length : Int) == X.locs)
  · rw [c0] at hR
    have c0' : ((X.co.length : Int) != X.locs) = true := by unfold bne; rw [c0]; rfl
    rw [hR]
    simp (disch := omega) only [A_graph_co, wp, Nat.reduceAdd, Nat.reduceMul, Nat.reduceSub, gl, c0']
  rw [c0, Bool.true_and] at hR
  have c0' : ((X.co.length : Int) != X.locs) = false := by unfold bne; rw [c0]; rfl
  have finF : ∀ k, k < X.co.length → coK X k = false → gCo X = false := fun k hk h => by rw [hR, allN_f hk h]; rfl
  have finT : (∀ i, i < X.co.length → coK X i = true) → gCo X = ((X.co.flatten.length : Int) - (nWr X X.evs.length : Int) == 0) := fun h => by rw [hR, allN_t h, Bool.true_and]
  clear hR
  generalize gCo X = R at finT finF
  simp (disch := omega) only [A_graph_co, wp, Nat.reduceAdd, Nat.reduceMul, Nat.reduceSub, gl, c0', seenC_zero]
  refine blk_cutR (fun e g => e 1 = .mp 0 0 ∧ e 3 = .i .i64 X.co.flatten.length ∧ g.hp 0 = some (.cells (grC X) false) ∧ 0 < g.nx ∧ ∀ i, i < X.co.length → coK X i = true) ?_ ?_
  · refine W_loop (fun q e g => ∃ k : Nat, q = X.co.length - k ∧ k ≤ X.co.length ∧ e 1 = .mp 0 0 ∧ e 3 = .i .i64 (coS' X k 0).length ∧ e 4 = .mp 9 0 ∧ e 18 = .sl (coC X.co) X.co.length .non ∧ e 19 = .i .i64 X.co.length ∧ e 20 = .i .i64 k ∧ g.hp 0 = some (.cells (grC X) false) ∧ g.hp 9 = some (.cells (seenC (coS' X k 0)) false) ∧ 9 < g.nx ∧ ∀ i, i < k → coK X i = true) X.co.length ?_ ?_
    · refine ⟨0, rfl, Nat.zero_le _, ?_⟩
      simp (disch := omega) only [wp, Nat.reduceAdd, Nat.reduceMul, Nat.reduceSub]
      exact ⟨rfl, rfl, rfl, by first | omega | (dsimp only; omega), fun i hi => by omega⟩
    · rintro q e g ⟨k, rfl, hk, e1, e3, e4, e18, e19, e20, hg, hs, hnx, hall⟩
      by_cases hk' : k < X.co.length
      · have hk1 : (k : Int) < X.co.length := by omega
        have hwk := succ_wrap (k := k) (by omega)
        have hcp := co_part hk'
        have hK : coK X k = (!(((X.co.getD k []).length : Int) == 0) && (!((X.co.getD k []).getD 0 0 != (k : Int)) && allN (X.co.getD k []).length (ciK X k))) := rfl
        have hci : ∀ j, ciK X k j = (gWr X ((X.co.getD k []).getD j 0) k && !(coS' X k j).contains ((X.co.getD k []).getD j 0)) := fun _ => rfl
        have hf := finF k hk'
        rw [hK] at hf
        have hall' : coK X k = true → ∀ i, i < k + 1 → coK X i = true := by
          intro h i hi
          by_cases hik : i = k
          · subst hik; exact h
          · exact hall i (by omega)
        rw [hK] at hall'
        have hll := hcl k
        have hsu := fun {j : Nat} (h : j < (X.co.getD k []).length) => coS'_succ h
        have hnx' := coS'_next hk'
        have hle := fun j => coS'_le (X := X) (k := k) (j := j) hk'
        generalize X.co.getD k [] = l at hcp hf hall' hll hsu hnx' hci
        cases c1 : ((l.length : Int) == 0)
        case true =>
          rw [c1] at hf
          obtain rfl := hf rfl
          simp (disch := omega) only [wp, Nat.reduceAdd, Nat.reduceMul, Nat.reduceSub, gl, e1, e3, e4, e18, e19, e20, hg, hs, hk1, hcp, c1]
        have hl0 : 0 < l.length := by have : ¬ (l.length : Int) = 0 := by simpa using c1
                                      omega
        have hl0' : (0 : Int) < l.length := by omega
        have hip := ints_part hl0
        rw [Nat.zero_mul, List.drop_zero] at hip
        cases c2 : (l.getD 0 0 != (k : Int))
        case true =>
          rw [c2] at hf
          obtain rfl := hf (by simp)
          simp (disch := omega) only [wp, Nat.reduceAdd, Nat.reduceMul, Nat.reduceSub, gl, e1, e3, e4, e18, e19, e20, hg, hs, hk1, hcp, c1, hl0', hip, c2]
        rw [c1, c2] at hf hall'
        have hf : ∀ j, j < l.length → ciK X k j = false → R = false := fun j hj h => hf (by rw [allN_f hj h]; rfl)
        have hall' : (∀ j, j < l.length → ciK X k j = true) → ∀ i, i < k + 1 → coK X i = true := fun h => hall' (by rw [allN_t h]; rfl)
        simp (disch := omega) only [wp, Nat.reduceAdd, Nat.reduceMul, Nat.reduceSub, gl, e1, e3, e4, e18, e19, e20, hg, hs, hk1, hcp, c1, hl0', hip, c2]
        refine W_loop (fun q e g => ∃ j : Nat, q = l.length - j ∧ j ≤ l.length ∧ e 1 = .mp 0 0 ∧ e 3 = .i .i64 (coS' X k j).length ∧ e 4 = .mp 9 0 ∧ e 5 = .i .i64 k ∧ e 18 = .sl (coC X.co) X.co.length .non ∧ e 19 = .i .i64 X.co.length ∧ e 20 = .i .i64 k ∧ e 35 = .sl (intsC l) l.length .non ∧ e 36 = .i .i64 l.length ∧ e 37 = .i .i64 j ∧ g.hp 0 = some (.cells (grC X) false) ∧ g.hp 9 = some (.cells (seenC (coS' X k j)) false) ∧ 9 < g.nx ∧ ∀ i, i < j → ciK X k i = true) l.length ?_ ?_
        · refine ⟨0, rfl, Nat.zero_le _, ?_⟩
          simp (disch := omega) only [wp, Nat.reduceAdd, Nat.reduceMul, Nat.reduceSub, e1, e3, e4, e18, e19, e20]
          exact ⟨rfl, hg, hs, by first | omega | (dsimp only; omega), fun i hi => by omega⟩
        · rintro q e g ⟨j, rfl, hj, e1, e3, e4, e5, e18, e19, e20, e35, e36, e37, hg, hs, hnx, hin⟩
          by_cases hj' : j < l.length
          · have hj1 : (j : Int) < l.length := by omega
            have hwj := succ_wrap (k := j) (by omega)
            have hjp := ints_part hj'
            have hw := sg_write h237 X (l.getD j 0) k
            have hwin := gWr_in (X := X) (i := l.getD j 0) (loc := k)
            have hff := hf j hj'
            have hcj := hci j
            have hsu := hsu hj'
            have hlj := hle j
            rw [hcj] at hff
            have hin' : ciK X k j = true → ∀ i, i < j + 1 → ciK X k i = true := by
              intro h i hi
              by_cases hij : i = j
              · subst hij; exact h
              · exact hin i (by omega)
            rw [hcj] at hin'
            generalize l.getD j 0 = w at hjp hw hwin hff hin' hsu
            generalize coS' X k j = L at e3 hs hff hin' hsu hlj
            have hwc := succ_wrap (k := L.length) (by omega)
            cases c3 : gWr X w k
            · rw [c3] at hw hff
              obtain rfl := hff rfl
              simp (disch := omega) only [wp, Nat.reduceAdd, Nat.reduceMul, Nat.reduceSub, gl, e1, e3, e4, e5, e18, e19, e20, e35, e36, e37, hg, hs, hj1, hjp, hw]
            · obtain ⟨w0, w1⟩ := hwin c3
              rw [c3] at hw hff hin'
              have ra := seen_at (L := L) (a := w.toNat) (by omega)
              have sa := seen_set (L := L) (a := w.toNat) (by omega)
              have ew : ((w.toNat : Nat) : Int) = w := by omega
              rw [ew] at ra sa
              have w40 : w < 40 := by omega
              cases c4 : L.contains w
              · rw [c4] at ra hin'
                have hin' := hin' rfl
                simp (disch := omega) only [wp, Nat.reduceAdd, Nat.reduceMul, Nat.reduceSub, gl, e1, e3, e4, e5, e18, e19, e20, e35, e36, e37, hg, hs, hj1, hjp, hw, w0, w40, ra, sa, seenC_len, hwj, hwc]
                refine ⟨l.length - (j + 1), by omega, j + 1, rfl, by omega, by rw [hsu, List.length_append]; rfl, rfl, by rw [hsu], by first | omega | (dsimp only; omega), hin'⟩
              · rw [c4] at ra hff
                obtain rfl := hff rfl
                simp (disch := omega) only [wp, Nat.reduceAdd, Nat.reduceMul, Nat.reduceSub, gl, e1, e3, e4, e5, e18, e19, e20, e35, e36, e37, hg, hs, hj1, hjp, hw, w0, w40, ra]
          · have hj1 : ¬ ((j : Int) < l.length) := by omega
            obtain rfl : j = l.length := by omega
            rw [hnx'] at e3 hs
            simp (disch := omega) only [wp, Nat.reduceAdd, Nat.reduceMul, Nat.reduceSub, gl, e1, e3, e4, e5, e18, e19, e20, e35, e36, e37, hg, hs, hj1, hwk]
            exact ⟨X.co.length - (k + 1), by omega, k + 1, rfl, by omega, rfl, rfl, by first | rfl | exact hs | omega, by first | omega | (dsimp only; omega), hall' hin⟩
      · have hk1 : ¬ ((k : Int) < X.co.length) := by omega
        obtain rfl : k = X.co.length := by omega
        rw [coS'_end] at e3
        simp (disch := omega) only [wp, Nat.reduceAdd, Nat.reduceMul, Nat.reduceSub, gl, e1, e3, e4, e18, e19, e20, hg, hs, hk1]
        exact ⟨by first | omega | (dsimp only; omega), hall⟩
  · rintro e g ⟨e1, e3, hg, hnx, hall⟩
    obtain rfl := finT hall
    generalize X.co.flatten.length = T at e3 hc
    simp (disch := omega) only [wp, Nat.reduceAdd, Nat.reduceMul, Nat.reduceSub, gl, e1, e3, hg]
    refine W_loop (fun q e g => ∃ k : Nat, q = X.evs.length - k ∧ k ≤ X.evs.length ∧ e 1 = .mp 0 0 ∧ e 3 = .i .i64 ((T : Int) - (nWr X k : Nat)) ∧ e 58 = .sl (evsC X.evs) X.evs.length .non ∧ e 59 = .i .i64 X.evs.length ∧ e 60 = .i .i64 k ∧ g.hp 0 = some (.cells (grC X) false) ∧ 0 < g.nx) X.evs.length ?_ ?_
    · refine ⟨0, rfl, Nat.zero_le _, ?_⟩
      simp (disch := omega) only [wp, Nat.reduceAdd, Nat.reduceMul, Nat.reduceSub, e1, e3]
      exact ⟨by simp [nWr], rfl, hg, by first | omega | (dsimp only; omega)⟩
    · rintro q e g ⟨k, rfl, hk, e1, e3, e58, e59, e60, hg, hnx⟩
      by_cases hk' : k < X.evs.length
      · have hk1 : (k : Int) < X.evs.length := by omega
        have hwk := succ_wrap (k := k) (by omega)
        have hev := ev_part hk'
        have hs := nWr_succ hk'
        have hle := nWr_le X k
        generalize nWr X k = c at e3 hs hle
        have hwc : IntKind.i64.wrap ((T : Int) - (c : Nat) - 1) = (T : Int) - ((c + 1 : Nat) : Int) := by rw [i64_wrap (by omega) (by omega)]; omega
        generalize X.evs.getD k ev0 = ev at hev hs
        have n1 : 0 ≠ g.nx + 1 + 1 := by omega
        cases c1 : (ev.kd == 2)
        · rw [c1] at hs
          simp (disch := omega) only [wp, Nat.reduceAdd, Nat.reduceMul, Nat.reduceSub, gl, e1, e3, e58, e59, e60, hg, hk1, hev, c1, hwk]
          exact ⟨X.evs.length - (k + 1), by omega, k + 1, rfl, by omega, by rw [hs]; rfl, rfl, by first | omega | (dsimp only; omega)⟩
        · rw [c1] at hs
          simp (disch := omega) only [wp, Nat.reduceAdd, Nat.reduceMul, Nat.reduceSub, gl, e1, e3, e58, e59, e60, hg, hk1, hev, c1, hwk, hwc]
          exact ⟨X.evs.length - (k + 1), by omega, k + 1, rfl, by omega, by rw [hs]; rfl, rfl, by first | omega | (dsimp only; omega)⟩
      · have hk1 : ¬ ((k : Int) < X.evs.length) := by omega
        obtain rfl : k = X.evs.length := by omega
        simp (disch := omega) only [wp, Nat.reduceAdd, Nat.reduceMul, Nat.reduceSub, gl, e1, e3, e58, e59, e60, hg, hk1]
end Go.Ab
end
section
set_option linter.unusedVariables false
set_option linter.unusedSimpArgs false
namespace Go.Ab
variable {F : Funs}
def gCheck (X : Gr) : Bool :=
  !decide (X.locs < 1) && (!decide (4 < X.locs) && (!decide (40 < (X.evs.length : Int)) && (!decide ((X.evs.length : Int) < X.locs) && (gFirst X && (gThr X && (gRf X && (gCo X && (gRmw X && (gList X mayD X.data && (gList X mayD X.ctrl && gList X mayD X.ctrli))))))))))
structure GrFs (F : Funs) : Prop where
  chk : F 152 = some A_graph_Check
  fst : F 186 = some A_graph_first
  thr : F 187 = some A_graph_threads
  rf : F 188 = some A_graph_rf
  co : F 189 = some A_graph_co
  rmw : F 190 = some A_graph_rmw
  chk1 : F 191 = some A_graph_Check_1
  list : F 192 = some A_graph_list
  event : F 236 = some A_graph_event
  write : F 237 = some A_graph_write
  rmw1 : F 238 = some A_graph_rmw_1
  order : F 239 = some A_graph_order
  pc : Pk_cmp F
structure LenG (X : Gr) : Prop where
  fl : X.co.flatten.length ≤ 1000
  col : X.co.length ≤ 1000
  cos : ∀ k, (X.co.getD k []).length ≤ 1000
  rmw : X.rmw.length ≤ 1000
  data : X.data.length ≤ 1000
  ctrl : X.ctrl.length ≤ 1000
  ctrli : X.ctrli.length ≤ 1000
theorem flat_le : ∀ {l : List (List Int)} {m : Nat}, (∀ c ∈ l, c.length ≤ m) → l.flatten.length ≤ l.length * m
  | [], _, _ => by simp
  | c :: l, m, h => by
    have h1 := flat_le (l := l) (m := m) fun c hc => h c (List.mem_cons_of_mem _ hc)
    have h2 := h c (List.mem_cons_self ..)
    rw [List.flatten_cons, List.length_append, List.length_cons, Nat.succ_mul]
    omega
theorem FewG.len {X : Gr} (h : FewG X) : LenG X := by
  have h1 := flat_le h.cos
  have h2 := h.co
  have h3 : X.co.length * 50 ≤ 6 * 50 := Nat.mul_le_mul_right _ h2
  refine ⟨by omega, by omega, fun k => ?_, by have := h.rmw; omega, by have := h.data; omega, by have := h.ctrl; omega, by have := h.ctrli; omega⟩
  by_cases hk : k < X.co.length
  · have hm : X.co.getD k [] ∈ X.co := by
      rw [List.getD_eq_getElem?_getD, List.getElem?_eq_getElem hk]; exact List.getElem_mem hk
    have := h.cos _ hm; omega
  · rw [List.getD_eq_getElem?_getD, List.getElem?_eq_none (by omega)]; simp
set_option maxRecDepth 100000 in
set_option maxHeartbeats 8000000 in
theorem sg_check (S : GrFs F) {X : Gr} (hX : LenG X) : pureS F 152 [.agg (grC X)] = some (.b (gCheck X)) := by
  refine pure_of S.chk ?_
  have hR : gCheck X = (!decide (X.locs < 1) && (!decide (4 < X.locs) && (!decide (40 < (X.evs.length : Int)) && (!decide ((X.evs.length : Int) < X.locs) && (gFirst X && (gThr X && (gRf X && (gCo X && (gRmw X && (gList X mayD X.data && (gList X mayD X.ctrl && gList X mayD X.ctrli))))))))))) := rfl
  generalize gCheck X = R at hR
  by_cases c1 : X.locs < 1
  · obtain rfl : R = false := by rw [hR]; simp [c1]
    simp (disch := omega) only [A_graph_Check, wp, Nat.reduceAdd, Nat.reduceMul, Nat.reduceSub, gl, c1]
  by_cases c2 : 4 < X.locs
  · obtain rfl : R = false := by rw [hR]; simp [c2]
    simp (disch := omega) only [A_graph_Check, wp, Nat.reduceAdd, Nat.reduceMul, Nat.reduceSub, gl, c1, c2]
  by_cases c3 : 40 < (X.evs.length : Int)
  · obtain rfl : R = false := by rw [hR]; simp [c3]
    simp (disch := omega) only [A_graph_Check, wp, Nat.reduceAdd, Nat.reduceMul, Nat.reduceSub, gl, c1, c2, c3]
  by_cases c4 : (X.evs.length : Int) < X.locs
  · obtain rfl : R = false := by rw [hR]; simp [c4]
    simp (disch := omega) only [A_graph_Check, wp, Nat.reduceAdd, Nat.reduceMul, Nat.reduceSub, gl, c1, c2, c3, c4]
  have h5 := sg_first S.fst (X := X) (by omega) (by omega) (by omega)
  have h6 := sg_threads S.thr S.event (X := X) (by omega) (by omega) (by omega)
  have h7 := sg_rf S.rf S.write (X := X) (by omega)
  have h8 := sg_co S.co S.write (X := X) (by omega) hX.fl hX.col hX.cos
  have h9 := sg_rmw S.rmw S.rmw1 S.list S.order S.pc (X := X) (by omega) hX.rmw
  have h10 := sg_list S.list S.order S.pc (X := X) (by omega) (sg_mayD S.chk1) X.data hX.data
  have h11 := sg_list S.list S.order S.pc (X := X) (by omega) (sg_mayD S.chk1) X.ctrl hX.ctrl
  have h12 := sg_list S.list S.order S.pc (X := X) (by omega) (sg_mayD S.chk1) X.ctrli hX.ctrli
  have hR : R = (gFirst X && (gThr X && (gRf X && (gCo X && (gRmw X && (gList X mayD X.data && (gList X mayD X.ctrl && gList X mayD X.ctrli))))))) := by rw [hR]; simp [c1, c2, c3, c4]
  generalize gFirst X = b5 at h5 hR
  generalize gThr X = b6 at h6 hR
  generalize gRf X = b7 at h7 hR
  generalize gCo X = b8 at h8 hR
  generalize gRmw X = b9 at h9 hR
  generalize gList X mayD X.data = b10 at h10 hR
  generalize gList X mayD X.ctrl = b11 at h11 hR
  generalize gList X mayD X.ctrli = b12 at h12 hR
  subst hR
  cases b5
  · simp (disch := omega) only [A_graph_Check, wp, Nat.reduceAdd, Nat.reduceMul, Nat.reduceSub, gl, c1, c2, c3, c4, h5]
  cases b6
  · simp (disch := omega) only [A_graph_Check, wp, Nat.reduceAdd, Nat.reduceMul, Nat.reduceSub, gl, c1, c2, c3, c4, h5, h6]
  cases b7
  · simp (disch := omega) only [A_graph_Check, wp, Nat.reduceAdd, Nat.reduceMul, Nat.reduceSub, gl, c1, c2, c3, c4, h5, h6, h7]
  cases b8
  · simp (disch := omega) only [A_graph_Check, wp, Nat.reduceAdd, Nat.reduceMul, Nat.reduceSub, gl, c1, c2, c3, c4, h5, h6, h7, h8]
  cases b9
  · simp (disch := omega) only [A_graph_Check, wp, Nat.reduceAdd, Nat.reduceMul, Nat.reduceSub, gl, c1, c2, c3, c4, h5, h6, h7, h8, h9]
  cases b10
  · simp (disch := omega) only [A_graph_Check, wp, Nat.reduceAdd, Nat.reduceMul, Nat.reduceSub, gl, c1, c2, c3, c4, h5, h6, h7, h8, h9, h10]
  cases b11
  · simp (disch := omega) only [A_graph_Check, wp, Nat.reduceAdd, Nat.reduceMul, Nat.reduceSub, gl, c1, c2, c3, c4, h5, h6, h7, h8, h9, h10, h11]
  simp (disch := omega) only [A_graph_Check, wp, Nat.reduceAdd, Nat.reduceMul, Nat.reduceSub, gl, c1, c2, c3, c4, h5, h6, h7, h8, h9, h10, h11, h12]
end Go.Ab
end
section
set_option linter.unusedVariables false
set_option linter.unusedSimpArgs false
namespace Go.Ab
variable {F : Funs}
def stM (φ : Bool → Bool → Bool) (A B : Mx) (N a b : Nat) : Mx := fun i j => if (i < a ∧ j < N) ∨ (i = a ∧ j < b) then φ (A i j) (B i j) else false
def opM (φ : Bool → Bool → Bool) (A B : Mx) (N : Nat) : Mx := stM φ A B N N 0
end Go.Ab
end
section
set_option linter.unusedVariables false
set_option linter.unusedSimpArgs false
namespace Go.Ab
variable {F : Funs}
def t1M (A B : Mx) (a b c : Nat) (T : Mx) : Mx := fun i j => if i = a ∧ j < c then T i j || B b j else T i j
def t2M (A B : Mx) (N a : Nat) (T : Mx) (b : Nat) : Mx := if A a b then t1M A B a b N T else T
def t3M (A B : Mx) (N a k : Nat) (T : Mx) : Mx := (List.range k).foldl (t2M A B N a) T
def thM (A B : Mx) (N k : Nat) : Mx := (List.range k).foldl (fun T a => t3M A B N a N T) (fun _ _ => false)
theorem t3M_succ (A B N a k T) : t3M A B N a (k + 1) T = t2M A B N a (t3M A B N a k T) k := by simp [t3M, List.range_succ]
theorem thM_succ (A B N k) : thM A B N (k + 1) = t3M A B N k N (thM A B N k) := by simp [thM, List.range_succ]
end Go.Ab
end
section
set_option linter.unusedVariables false
set_option linter.unusedSimpArgs false
namespace Go.Ab
variable {F : Funs}
def Eqv (A : Mx) (R : Rw) : Prop := ∀ a b, A a b = hb R a b
theorem upd2_get (M : Mx) (a b : Nat) (x : Bool) (i j : Nat) : upd2 M a b x i j = if i = a ∧ j = b then x else M i j := rfl
theorem eqv_new {n : Nat} (hn : n ≤ 40) (l : List (Int × Int)) : Eqv (newM n l) (newR n l) := by
  have key : ∀ (l : List (Int × Int)) (M : Mx) (R : Rw), Eqv M R → Eqv (l.foldl (addM n) M) (l.foldl (addR n) R) := by
    intro l
    induction l with
    | nil => intro M R h; exact h
    | cons p l ih =>
      intro M R h
      refine ih _ _ fun a b => ?_
      rw [hb_add hn]
      unfold addM
      by_cases hi : inR n p = true
      · rw [if_pos hi, upd2_get, hi]
        have hi' := hi
        simp only [inR, decide_eq_true_eq] at hi'
        by_cases h2 : a = p.1.toNat ∧ b = p.2.toNat
        · rw [if_pos h2]
          have : p = ((a : Int), (b : Int)) := by
            obtain ⟨x, y⟩ := p
            simp only at h2 hi'
            simp only [Prod.mk.injEq]; omega
          simp [this]
        · rw [if_neg h2, h a b]
          have : ¬ p = ((a : Int), (b : Int)) := by
            rintro rfl
            exact h2 ⟨by simp, by simp⟩
          simp [this]
      · rw [if_neg hi, h a b]
        simp only [Bool.not_eq_true] at hi
        simp [hi]
  exact key l _ _ fun a b => by rw [hb_zero]
def Same (n : Nat) (M : Mx) (R : Rw) : Prop := ∀ a b : Nat, a < n → b < n → M a b = has n R a b
theorem same_of {n : Nat} {M : Mx} {R : Rw} (h : ∀ a b, a < n → b < n → M a b = hb R a b) : Same n M R := fun a b ha hb' => by
  rw [h a b ha hb', has_N]
  simp [hN, ha, hb']
theorem opM_get (φ : Bool → Bool → Bool) (A B : Mx) (N a b : Nat) (ha : a < N) (hb' : b < N) : opM φ A B N a b = φ (A a b) (B a b) := by
  unfold opM stM; rw [if_pos (.inl ⟨ha, hb'⟩)]
theorem t3M_get (A B : Mx) (N a k : Nat) (T : Mx) (i j : Nat) (hj : j < N) : t3M A B N a k T i j = (T i j || (decide (i = a) && (List.range k).any fun c => A a c && B c j)) := by
  induction k with
  | zero => simp [t3M]
  | succ k ih =>
    rw [t3M_succ, t2M, List.range_succ, List.any_append]
    cases hA : A a k with
    | true =>
      rw [if_pos rfl]
      unfold t1M
      by_cases hi : i = a
      · subst hi
        rw [if_pos ⟨rfl, hj⟩, ih]
        simp [hA, Bool.or_assoc]
      · rw [if_neg (fun h => hi h.1), ih]
        simp [hi]
    | false =>
      rw [if_neg (by simp), ih]
      simp [hA]
theorem thM_get (A B : Mx) (N k : Nat) (i j : Nat) (hj : j < N) : thM A B N k i j = (decide (i < k) && (List.range N).any fun c => A i c && B c j) := by
  induction k with
  | zero => simp [thM]
  | succ k ih =>
    rw [thM_succ, t3M_get _ _ _ _ _ _ _ _ hj, ih]
    by_cases hi : i = k
    · subst hi; simp
    · have : decide (i < k) = decide (i < k + 1) := by rw [decide_eq_decide]; omega
      rw [this]; simp [hi]
theorem Wf.mono {n m : Nat} (h : n ≤ m) {R : Rw} (hR : Wf n R) : Wf m R := fun a b hh => by obtain ⟨h1, h2⟩ := hR a b hh; omega
end Go.Ab
end
section
set_option linter.unusedVariables false
set_option linter.unusedSimpArgs false
namespace Go.Ab
variable {F : Funs}
def EqN (n : Nat) (A : Mx) (R : Rw) : Prop := Wf n R ∧ ∀ a b, a < n → b < n → A a b = hb R a b
theorem EqN.same {n A R} (h : EqN n A R) : Same n A R := same_of h.2
theorem EqN.new {n : Nat} (hn : n ≤ 40) (l : List (Int × Int)) : EqN n (newM n l) (newR n l) := ⟨wf_new hn _, fun a b _ _ => eqv_new hn l a b⟩
section
variable {n : Nat} {A B : Mx} {R S : Rw}
theorem EqN.or (h : EqN n A R) (k : EqN n B S) : EqN n (opM (fun x y => x || y) A B n) (orR R S) :=
  ⟨wf_or h.1 k.1, fun a b ha hb' => by rw [opM_get _ _ _ _ _ _ ha hb', h.2 a b ha hb', k.2 a b ha hb', hb_or]⟩
theorem EqN.and (h : EqN n A R) (k : EqN n B S) : EqN n (opM (fun x y => x && y) A B n) (andR R S) :=
  ⟨wf_and h.1, fun a b ha hb' => by rw [opM_get _ _ _ _ _ _ ha hb', h.2 a b ha hb', k.2 a b ha hb', hb_and]⟩
theorem EqN.then (h : EqN n A R) (k : EqN n B S) : EqN n (thM A B n n) (thenR n R S) :=
  ⟨wf_then h.1 k.1, fun a b ha hb' => by
    rw [thM_get _ _ _ _ _ _ hb', Bool.eq_iff_iff, hb_then h.1, decide_eq_true ha, Bool.true_and, List.any_eq_true]
    constructor
    · rintro ⟨c, hc, hh⟩
      rw [h.2 a c ha (List.mem_range.1 hc), k.2 c b (List.mem_range.1 hc) hb', Bool.and_eq_true] at hh
      exact ⟨c, hh.1, hh.2⟩
    · rintro ⟨c, h1, h2⟩
      have hc := (h.1 a c h1).2
      exact ⟨c, List.mem_range.2 hc, by rw [h.2 a c ha hc, k.2 c b hc hb', h1, h2]; rfl⟩⟩
end
end Go.Ab
end
section
set_option linter.unusedVariables false
set_option linter.unusedSimpArgs false
namespace Go.Ab
variable {F : Funs}
def anyM (L : List (Int × Int)) : Mx := fun a b => L.any fun q => decide (q = ((a : Int), (b : Int)))
theorem anyM_mem {L : List (Int × Int)} {a b : Nat} : anyM L a b = true ↔ ((a : Int), (b : Int)) ∈ L := by
  unfold anyM
  rw [List.any_eq_true]
  constructor
  · rintro ⟨q, hq, h⟩; rw [decide_eq_true_eq] at h; rw [← h]; exact hq
  · intro h; exact ⟨_, h, by simp⟩
end Go.Ab
end
section
set_option linter.unusedVariables false
set_option linter.unusedSimpArgs false
namespace Go.Ab
variable {F : Funs}
theorem GraphOk.nOf {X : Gr} (h : GraphOk X) : nOf X = X.evs.length := by
  have := h.n40
  unfold Go.Ab.nOf clamp; omega
theorem hb_newM {n : Nat} (hn : n ≤ 40) (L : List (Int × Int)) {a b : Nat} (ha : a < n) (hb' : b < n) : hb (newR n L) a b = anyM L a b := by
  rw [hb_new hn, decide_eq_true ha, decide_eq_true hb', Bool.true_and, Bool.true_and]; rfl
section
variable {X : Gr} (h : GraphOk X)
include h
end
end Go.Ab
end
section
set_option linter.unusedVariables false
set_option linter.unusedSimpArgs false
namespace Go.Ab
variable {F : Funs}
def setL (X : Gr) (p : Ev → Bool) (k : Nat) : List (Int × Int) := (List.range k).flatMap fun (i : Nat) => if p (X.evs.getD i ev0) then [((i : Int), (i : Int))] else []
theorem setL_succ (X p k) : setL X p (k + 1) = setL X p k ++ (if p (X.evs.getD k ev0) then [((k : Int), (k : Int))] else []) := by simp [setL, List.range_succ]
theorem setL_len (X p k) : (setL X p k).length ≤ k := by
  induction k with
  | zero => simp [setL]
  | succ k ih => rw [setL_succ, List.length_append]; split <;> simp <;> omega
theorem mem_setL {X : Gr} {p : Ev → Bool} {k a b : Nat} : ((a : Int), (b : Int)) ∈ setL X p k ↔ a = b ∧ a < k ∧ p (X.evs.getD a ev0) = true := by
  unfold setL
  simp only [List.mem_flatMap, List.mem_range]
  constructor
  · rintro ⟨i, hi, h⟩
    by_cases hp : p (X.evs.getD i ev0) = true
    · rw [if_pos hp, List.mem_singleton, Prod.mk.injEq] at h
      have e1 : a = i := by omega
      have e2 : b = i := by omega
      subst e1 e2
      exact ⟨rfl, hi, hp⟩
    · rw [if_neg hp] at h; cases h
  · rintro ⟨rfl, hk, hp⟩
    exact ⟨a, hk, by rw [if_pos hp]; exact List.mem_singleton.2 rfl⟩
def setR (X : Gr) (p : Ev → Bool) : Rw := newR (nOf X) (setL X p X.evs.length)
def kindK (X : Gr) (q : Ev → Bool) (k : Nat) : Mx := fun a b => decide (a = b) && (decide (a < k) && q (X.evs.getD a ev0))
section
variable {X : Gr} (h : GraphOk X)
include h
theorem EqN.set {p q : Ev → Bool} (hq : ∀ i, i < X.evs.length → p (X.evs.getD i ev0) = q (X.evs.getD i ev0)) : EqN X.evs.length (kindK X q X.evs.length) (setR X p) := by
  unfold setR
  rw [h.nOf]
  refine ⟨wf_new h.n40 _, fun a b ha hb' => ?_⟩
  rw [hb_newM h.n40 _ ha hb', Bool.eq_iff_iff, anyM_mem, mem_setL]
  unfold kindK
  simp only [Bool.and_eq_true, decide_eq_true_eq, hq a ha]
end
end Go.Ab
end
section
namespace Go.Ab
def A_sync_Hb : AFun := { res := [.t 2], body := (.seq (.reg false [{ dst := some 1, op := .box (.t 0) },
  { dst := some 2, op := .mv (.c (.nilp)) }])
 (.seq (.reg true [{ dst := some 3, op := .ld (some 8) (.t 1), pre := [] },
  { dst := some 4, op := .call .pure (.c (.fn 60 [] [])) [.t 3], pre := [] },
  { dst := some 5, op := .ld (some 8) (.t 1), pre := [] },
  { dst := some 6, op := .call .pure (.c (.fn 176 [] [])) [.t 5], pre := [] },
  { dst := some 7, op := .call .pure (.c (.fn 24 [] [])) [.t 4, .t 6], pre := [] },
  { dst := some 8, op := .call .pure (.c (.fn 12 [] [])) [.t 7], pre := [] },
  { dst := some 2, op := .mv (.t 8) }])
 .ret)) }
def A_sync_Release : AFun := { res := [.t 2], body := (.seq (.reg false [{ dst := some 1, op := .box (.t 0) },
  { dst := some 2, op := .mv (.c (.nilp)) }])
 (.seq (.reg true [{ dst := some 4, op := .ld (some 8) (.t 1), pre := [] },
  { dst := some 5, op := .bsl true 3 ([.i .i64 0, .i .i64 0, .i .i64 0]) [(0, 1, .c (.i .i64 2)), (1, 1, .c (.i .i64 3)), (2, 1, .c (.i .i64 4))], pre := [] },
  { dst := some 6, op := .call .pure (.c (.fn 178 [] [])) [.t 4, .c (.i .i64 3), .t 5], pre := [] },
  { dst := some 7, op := .ld (some 8) (.t 1), pre := [] },
  { dst := some 8, op := .call .pure (.c (.fn 60 [] [])) [.t 7], pre := [] },
  { dst := some 9, op := .bsl true 1 ([.nilp]) [(0, 1, .t 8)], pre := [] },
  { dst := some 10, op := .call .pure (.c (.fn 177 [] [])) [.t 6, .t 9], pre := [] },
  { dst := some 3, op := .mv (.t 10) }])
 (.seq (.reg true [{ dst := some 11, op := .ld (some 8) (.t 1), pre := [] },
  { dst := some 12, op := .bsl true 1 ([.i .i64 0]) [(0, 1, .c (.i .i64 2))], pre := [] },
  { dst := some 13, op := .call .pure (.c (.fn 178 [] [])) [.t 11, .c (.i .i64 2), .t 12], pre := [] },
  { dst := some 14, op := .mv (.t 3) },
  { dst := some 15, op := .call .pure (.c (.fn 24 [] [])) [.t 13, .t 14], pre := [] },
  { dst := some 16, op := .ld (some 8) (.t 1), pre := [] },
  { dst := some 17, op := .call .pure (.c (.fn 179 [] [])) [.t 16], pre := [] },
  { dst := some 18, op := .bsl true 1 ([.nilp]) [(0, 1, .t 17)], pre := [] },
  { dst := some 19, op := .call .pure (.c (.fn 177 [] [])) [.t 15, .t 18], pre := [] },
  { dst := some 2, op := .mv (.t 19) }])
 .ret))) }
def A_sync_Sw : AFun := { res := [.t 2], body := (.seq (.reg false [{ dst := some 1, op := .box (.t 0) },
  { dst := some 2, op := .mv (.c (.nilp)) }])
 (.seq (.reg false [{ dst := some 6, op := .ld (some 8) (.t 1) },
  { dst := some 7, op := .call .pure (.c (.fn 48 [] [])) [.t 6] },
  { dst := some 3, op := .mv (.t 7) }])
 (.seq (.reg true [{ dst := some 8, op := .ld (some 8) (.t 1), pre := [] },
  { dst := some 9, op := .mv (.t 3) },
  { dst := some 10, op := .call .pure (.c (.fn 39 [] [])) [.t 8, .t 9], pre := [] },
  { dst := some 11, op := .ld (some 8) (.t 1), pre := [] },
  { dst := some 12, op := .call .pure (.c (.fn 41 [] [])) [.t 11], pre := [] },
  { dst := some 13, op := .call .pure (.c (.fn 16 [] [])) [.t 12], pre := [] },
  { dst := some 14, op := .ld (some 8) (.t 1), pre := [] },
  { dst := some 15, op := .mv (.t 3) },
  { dst := some 16, op := .call .pure (.c (.fn 40 [] [])) [.t 14, .t 15], pre := [] },
  { dst := some 17, op := .bsl true 1 ([.nilp]) [(0, 1, .t 16)], pre := [] },
  { dst := some 18, op := .call .pure (.c (.fn 177 [] [])) [.t 13, .t 17], pre := [] },
  { dst := some 19, op := .call .pure (.c (.fn 24 [] [])) [.t 10, .t 18], pre := [] },
  { dst := some 4, op := .mv (.t 19) }])
 (.seq (.reg true [{ dst := some 20, op := .ld (some 8) (.t 1), pre := [] },
  { dst := some 21, op := .call .pure (.c (.fn 60 [] [])) [.t 20], pre := [] },
  { dst := some 22, op := .ld (some 8) (.t 1), pre := [] },
  { dst := some 23, op := .bsl true 3 ([.i .i64 0, .i .i64 0, .i .i64 0]) [(0, 1, .c (.i .i64 1)), (1, 1, .c (.i .i64 3)), (2, 1, .c (.i .i64 4))], pre := [] },
  { dst := some 24, op := .call .pure (.c (.fn 178 [] [])) [.t 22, .c (.i .i64 3), .t 23], pre := [] },
  { dst := some 25, op := .bsl true 1 ([.nilp]) [(0, 1, .t 24)], pre := [] },
  { dst := some 26, op := .call .pure (.c (.fn 177 [] [])) [.t 21, .t 25], pre := [] },
  { dst := some 5, op := .mv (.t 26) }])
 (.seq (.reg true [{ dst := some 27, op := .ld (some 8) (.t 1), pre := [] },
  { dst := some 28, op := .call .pure (.c (.fn 149 [] [])) [.t 27], pre := [] },
  { dst := some 29, op := .mv (.t 4) },
  { dst := some 30, op := .ld (some 8) (.t 1), pre := [] },
  { dst := some 31, op := .bsl true 1 ([.i .i64 0]) [(0, 1, .c (.i .i64 1))], pre := [] },
  { dst := some 32, op := .call .pure (.c (.fn 178 [] [])) [.t 30, .c (.i .i64 1), .t 31], pre := [] },
  { dst := some 33, op := .mv (.t 5) },
  { dst := some 34, op := .call .pure (.c (.fn 24 [] [])) [.t 32, .t 33], pre := [] },
  { dst := some 35, op := .bsl true 2 ([.nilp, .nilp]) [(0, 1, .t 29), (1, 1, .t 34)], pre := [] },
  { dst := some 36, op := .call .pure (.c (.fn 177 [] [])) [.t 28, .t 35], pre := [] },
  { dst := some 2, op := .mv (.t 36) }])
 .ret))))) }
def A_sync_then : AFun := { res := [.t 4], body := (.seq (.reg false [{ dst := some 4, op := .mv (.c (.nilp)) }])
 (.seq (.seq (.reg false [{ dst := some 7, op := .mv (.t 1) },
  { dst := some 8, op := .len (.t 7) },
  { dst := some 9, op := .mv (.c (.i .i64 0)) }])
 (.blk 0 (.loop (.seq (.reg false [{ dst := some 10, op := .bin .lss (.t 9) (.t 8) }])
 (.seq (.cond (.t 10) .skip
 (.ext 0))
 (.seq (.blk 1 (.seq (.reg false [{ dst := some 11, op := .ia 1 (.t 7) (.t 9) },
  { dst := some 12, op := .ld none (.t 11) },
  { dst := some 6, op := .mv (.t 12) }])
 (.reg false [{ dst := some 13, op := .mv (.t 0) },
  { dst := some 14, op := .mv (.t 6) },
  { dst := some 15, op := .call .pure (.c (.fn 23 [] [])) [.t 13, .t 14] },
  { dst := some 0, op := .mv (.t 15) }])))
 (.reg false [{ dst := some 16, op := .bin .add (.t 9) (.c (.i .i64 1)) },
  { dst := some 9, op := .mv (.t 16) }])))))))
 (.seq (.reg false [{ dst := some 17, op := .mv (.t 0) },
  { dst := some 4, op := .mv (.t 17) }])
 .ret))) }
def A_sync_set : AFun := { res := [.t 6], body := (.seq (.reg false [{ dst := some 3, op := .boxI (.t 0) },
  { dst := some 4, op := .boxI (.t 1) },
  { dst := some 5, op := .boxI (.t 2) },
  { dst := some 6, op := .mv (.c (.nilp)) }])
 (.seq (.reg false [{ dst := some 7, op := .ld (some 8) (.t 3) },
  { dst := some 8, op := .mkfn 229 [] [.t 5, .t 4] },
  { dst := some 9, op := .call .pure (.c (.fn 166 [] [])) [.t 7, .t 8] },
  { dst := some 6, op := .mv (.t 9) }])
 .ret)) }
def A_sync_Rs : AFun := { res := [.t 2], body := (.seq (.reg false [{ dst := some 1, op := .box (.t 0) },
  { dst := some 2, op := .mv (.c (.nilp)) }])
 (.seq (.reg true [{ dst := some 6, op := .ld (some 8) (.t 1), pre := [] },
  { dst := some 7, op := .call .pure (.c (.fn 178 [] [])) [.t 6, .c (.i .i64 2), .c (.sl [] 0 .rig)], pre := [] },
  { dst := some 8, op := .ld (some 8) (.t 1), pre := [] },
  { dst := some 9, op := .call .pure (.c (.fn 41 [] [])) [.t 8], pre := [] },
  { dst := some 3, op := .mv (.t 7) },
  { dst := some 4, op := .mv (.t 9) }])
 (.seq (.reg true [{ dst := some 10, op := .mv (.t 4) },
  { dst := some 11, op := .call .pure (.c (.fn 16 [] [])) [.t 10], pre := [] },
  { dst := some 12, op := .ld (some 8) (.t 1), pre := [] },
  { dst := some 13, op := .call .pure (.c (.fn 48 [] [])) [.t 12], pre := [] },
  { dst := some 14, op := .ld (some 8) (.t 1), pre := [] },
  { dst := some 15, op := .fa 4 (.t 1) },
  { dst := some 16, op := .ld none (.t 15), pre := [] },
  { dst := some 17, op := .call .pure (.c (.fn 81 [] [])) [.t 14, .t 16], pre := [] },
  { dst := some 18, op := .bsl true 2 ([.nilp, .nilp]) [(0, 1, .t 13), (1, 1, .t 17)], pre := [] },
  { dst := some 19, op := .call .pure (.c (.fn 177 [] [])) [.t 11, .t 18], pre := [] },
  { dst := some 5, op := .mv (.t 19) }])
 (.seq (.reg false [{ dst := some 20, op := .mv (.t 3) },
  { dst := some 21, op := .mv (.t 4) },
  { dst := some 22, op := .mv (.t 3) },
  { dst := some 23, op := .bsl true 2 ([.nilp, .nilp]) [(0, 1, .t 21), (1, 1, .t 22)] },
  { dst := some 24, op := .call .pure (.c (.fn 177 [] [])) [.t 20, .t 23] },
  { dst := some 25, op := .mv (.t 3) },
  { dst := some 26, op := .mv (.t 5) },
  { dst := some 27, op := .call .pure (.c (.fn 12 [] [])) [.t 26] },
  { dst := some 28, op := .call .pure (.c (.fn 16 [] [])) [.t 27] },
  { dst := some 29, op := .bsl true 1 ([.nilp]) [(0, 1, .t 28)] },
  { dst := some 30, op := .call .pure (.c (.fn 177 [] [])) [.t 25, .t 29] },
  { dst := some 31, op := .call .pure (.c (.fn 24 [] [])) [.t 24, .t 30] },
  { dst := some 2, op := .mv (.t 31) }])
 .ret)))) }
def A_sync_set_1 : AFun := { res := [.t 4], body := (.seq (.reg false [{ dst := some 3, op := .box (.t 0) },
  { dst := some 4, op := .mv (.c (.b false)) }])
 (.seq (.reg false [{ dst := some 8, op := .ld none (.t 1) },
  { dst := some 9, op := .len (.t 8) },
  { dst := some 10, op := .bin .eql (.t 9) (.c (.i .i64 0)) },
  { dst := some 5, op := .mv (.t 10) }])
 (.seq (.seq (.reg false [{ dst := some 11, op := .ld none (.t 1) },
  { dst := some 12, op := .len (.t 11) },
  { dst := some 13, op := .mv (.c (.i .i64 0)) }])
 (.blk 0 (.loop (.seq (.reg false [{ dst := some 14, op := .bin .lss (.t 13) (.t 12) }])
 (.seq (.cond (.t 14) .skip
 (.ext 0))
 (.seq (.blk 1 (.seq (.reg false [{ dst := some 15, op := .ia 1 (.t 11) (.t 13) },
  { dst := some 16, op := .ld none (.t 15) },
  { dst := some 7, op := .mv (.t 16) }])
 (.reg false [{ dst := some 17, op := .mv (.t 5) },
  { dst := some 18, op := .mv (.t 17) },
  { dst := some 19, op := .fa 2 (.t 3), grd := some (18, false) },
  { dst := some 20, op := .ld none (.t 19), grd := some (18, false) },
  { dst := some 21, op := .mv (.t 7), grd := some (18, false) },
  { dst := some 22, op := .bin .eql (.t 20) (.t 21), grd := some (18, false) },
  { dst := some 23, op := .pick (.t 18) (.c (.b true)) (.t 22) },
  { dst := some 5, op := .mv (.t 23) }])))
 (.reg false [{ dst := some 24, op := .bin .add (.t 13) (.c (.i .i64 1)) },
  { dst := some 13, op := .mv (.t 24) }])))))))
 (.seq (.reg false [{ dst := some 25, op := .fa 1 (.t 3) },
  { dst := some 26, op := .ld none (.t 25) },
  { dst := some 27, op := .ld none (.t 2) },
  { dst := some 28, op := .bin .eql (.t 26) (.t 27) },
  { dst := some 29, op := .mv (.t 28) },
  { dst := some 30, op := .mv (.t 5), grd := some (29, true) },
  { dst := some 31, op := .pick (.t 29) (.t 30) (.c (.b false)) },
  { dst := some 4, op := .mv (.t 31) }])
 .ret)))) }
structure Pk_sync (F : Funs) : Prop where
  sync_Hb : F 148 = some A_sync_Hb
  sync_Release : F 149 = some A_sync_Release
  sync_Sw : F 176 = some A_sync_Sw
  sync_then : F 177 = some A_sync_then
  sync_set : F 178 = some A_sync_set
  sync_Rs : F 179 = some A_sync_Rs
  sync_set_1 : F 229 = some A_sync_set_1
end Go.Ab
end
section
set_option linter.unusedVariables false
set_option linter.unusedSimpArgs false
namespace Go.Ab
variable {F : Funs}
theorem o_boxI {c : CS} {al : Nat → Bool} {lo id : Nat} {e : Env} {g : G} (x) : opE c al lo id (.boxI x) e g = vBoxI (x.ev e) g := rfl
noncomputable def bxiD (x : Bool) (cs : Option (List AV)) (g : G) : Option (AV × G) := if x then vMapL .ptr g cs else none
theorem vBoxI_S (v g) : vBoxI v g = bxiD ((cellsOf v).all one) (frzL (fun _ => none) depth (cellsOf v)) g := rfl
theorem bxiD_ok (cs g) : bxiD true cs g = vMapL .ptr g cs := rfl
theorem frzL_gr (hp) (X : Gr) : frzL hp depth (grC X) = some (grC X) := by
  show frzL hp (8 + 1) _ = _
  simp only [grC, frzL, frz]
set_option maxRecDepth 100000 in
set_option maxHeartbeats 4000000 in
theorem sp_setE (h166 : F 166 = some A_graph_Set) (h81 : F 81 = some A_graph_Of) (pr : Pk_rel F) {X : Gr} (hX : X.evs.length ≤ 1000) {fid : Nat} {caps : List AV} {p : Ev → Bool} (hp : ∀ e, pureS F fid (.agg (evC e) :: caps) = some (.b (p e)))
    (hc : ∀ hp, frzL hp depth caps = some caps) (hv : ∀ hp, caps.flatMap (vis hp depth) = []) : pureS F 166 [.agg (grC X), .fn fid [] caps] = some (.ptr (relC (nOf X) (setR X p))) := by
  refine pure_of h166 ?_
  simp (disch := omega) only [A_graph_Set, wp, Nat.reduceAdd, Nat.reduceMul, Nat.reduceSub, gl]
  refine W_loop (fun q e g => ∃ k t, q = X.evs.length - k ∧ k ≤ X.evs.length ∧ e 2 = .mp 0 0 ∧ e 5 = .sl (pairsC (setL X p k)) (setL X p k).length t ∧ e 6 = .mp 5 0 ∧ e 12 = .sl (evsC X.evs) X.evs.length .non ∧ e 13 = .i .i64 X.evs.length ∧ e 14 = .i .i64 k ∧ Live g 2 t ∧ g.hp 0 = some (.cells (grC X) false) ∧ g.hp 5 = some (.cells [.fn fid [] caps] false) ∧ 5 < g.nx) X.evs.length ?_ ?_
  · refine ⟨0, .rig, rfl, Nat.zero_le _, ?_⟩
    simp (disch := omega) only [wp, Nat.reduceAdd, Nat.reduceMul, Nat.reduceSub]
    exact ⟨by rfl, rfl, .inl rfl, by first | omega | (dsimp only; omega)⟩
  · rintro q e g ⟨k, t, rfl, hk, e2, e5, e6, e12, e13, e14, L, hg, hf, hnx⟩
    by_cases hk' : k < X.evs.length
    · have hk1 : (k : Int) < X.evs.length := by omega
      have hwk := succ_wrap (k := k) (by omega)
      have hev := ev_part hk'
      have hs := setL_succ X p k
      have hl := setL_len X p k
      generalize X.evs.getD k ev0 = ev at hev hs
      have hpe := hp ev
      generalize setL X p k = B at e5 hs hl
      cases hb : p ev with
      | true =>
        rw [hb] at hpe
        rw [hb, if_pos rfl] at hs
        rcases L with rfl | ⟨τ, rfl, hτ, hlt⟩
        · simp (disch := omega) only [wp, Nat.reduceAdd, Nat.reduceMul, Nat.reduceSub, gl, e2, e5, e6, e12, e13, e14, hg, hf, hk1, hev, hc, hv, hpe, pairsC_len, hwk]
          refine ⟨X.evs.length - (k + 1), by omega, k + 1, ?_⟩
          rw [hs, pairsC_app, pairsC_one, List.length_append]
          exact ⟨_, rfl, by omega, rfl, rfl, .inr ⟨_, rfl, upd_same _ _ _, by first | omega | (dsimp only; omega)⟩, by first | omega | (dsimp only; omega)⟩
        · have n0 : τ ≠ 0 := fun h => by rw [h, hg] at hτ; cases hτ
          have n5 : τ ≠ 5 := fun h => by rw [h, hf] at hτ; cases hτ
          simp (disch := omega) only [wp, Nat.reduceAdd, Nat.reduceMul, Nat.reduceSub, gl, e2, e5, e6, e12, e13, e14, hg, hf, hk1, hev, hc, hv, hpe, pairsC_len, hwk, hτ]
          refine ⟨X.evs.length - (k + 1), by omega, k + 1, ?_⟩
          rw [hs, pairsC_app, pairsC_one, List.length_append]
          exact ⟨_, rfl, by omega, rfl, rfl, .inr ⟨_, rfl, upd_same _ _ _, by first | omega | (dsimp only; omega)⟩, by first | omega | (dsimp only; omega)⟩
      | false =>
        rw [hb] at hpe
        rw [hb, if_neg (by simp), List.append_nil] at hs
        simp (disch := omega) only [wp, Nat.reduceAdd, Nat.reduceMul, Nat.reduceSub, gl, e2, e5, e6, e12, e13, e14, hg, hf, hk1, hev, hc, hv, hpe, hwk]
        refine ⟨X.evs.length - (k + 1), by omega, k + 1, t, rfl, by omega, by rw [hs], rfl, ?_, by first | omega | (dsimp only; omega)⟩
        rcases L with rfl | ⟨τ, rfl, hτ, hlt⟩
        · exact .inl rfl
        · exact .inr ⟨τ, rfl, by simp (disch := omega) only [upd_ne]; exact hτ, by first | omega | (dsimp only; omega)⟩
    · obtain rfl : k = X.evs.length := by omega
      have hk1 : ¬ ((X.evs.length : Int) < X.evs.length) := by omega
      have hl := setL_len X p X.evs.length
      have hof := sp_of h81 pr X (setL X p X.evs.length) .non (by omega)
      simp (disch := omega) only [wp, Nat.reduceAdd, Nat.reduceMul, Nat.reduceSub, gl, e2, e5, e6, e12, e13, e14, hg, hf, hk1, hof]
      rfl
def relsC (n : Nat) (l : List Rw) : List AV := l.map fun R => .ptr (relC n R)
def thenL (n : Nat) (R : Rw) (l : List Rw) : Rw := l.foldl (fun R S => thenR n R S) R
theorem rels_part {n : Nat} {l : List Rw} {k : Nat} (h : k < l.length) : part ((relsC n l).drop (k * 1)) 0 none = some (.ptr (relC n (l.getD k fun _ => 0))) := by
  simp only [part, relsC, List.getElem?_drop, Nat.mul_one, Nat.add_zero, List.getElem?_map, List.getElem?_eq_getElem h, Option.map_some, List.getD_eq_getElem?_getD, Option.getD_some]
end Go.Ab
end
section
set_option linter.unusedVariables false
set_option linter.unusedSimpArgs false
namespace Go.Ab
variable {F : Funs}
section
variable (X : Gr)
def locR : Rw := partR locP X (nOf X) (poR X)
def rfR : Rw := relE rfS X
end
structure SyncF (F : Funs) : Prop where
  ps : Pk_sync F
  pe : Pk_eco F
  pr : Pk_rel F
  po : F 60 = some A_graph_Po
  gof : F 81 = some A_graph_Of
  set : F 166 = some A_graph_Set
section
variable (S : SyncF F) {X : Gr} (hX : Few X)
include S hX
end
end Go.Ab
end
section
set_option linter.unusedVariables false
set_option linter.unusedSimpArgs false
namespace Go.Ab
variable {F : Funs}
def resC (agg : Option Nat) (g : G) : AV → Option AV
  | .mp b off => match g.hp b with
    | some (.cells cs _) => part cs off agg
    | _ => none
  | _ => none
theorem res_cell (n agg e g) : resE [.cell n agg] e g = resC agg g (e n) := by
  simp only [resE, resAll, resOne, resC]
  cases e n <;> try rfl
  rename_i b off
  simp only
  cases g.hp b with
  | none => rfl
  | some bl =>
    cases bl with
    | cells cs ro => simp only; cases part cs off agg <;> rfl
    | map _ => rfl
    | tok _ => rfl
end Go.Ab
end
section
set_option linter.unusedVariables false
set_option linter.unusedSimpArgs false
namespace Go.Ab
variable {F : Funs}
def fullRow (n a j : Nat) : List (Int × Int) := (List.range j).map fun (b : Nat) => ((a : Int), (b : Int))
def fullK (n k : Nat) : List (Int × Int) := (List.range k).flatMap fun a => fullRow n a n
theorem fullK_succ (n k) : fullK n (k + 1) = fullK n k ++ fullRow n k n := by simp [fullK, List.range_succ]
theorem mem_full {n : Nat} {p : Int × Int} : p ∈ fullK n n ↔ ∃ a b : Nat, a < n ∧ b < n ∧ p = ((a : Int), (b : Int)) := by
  unfold fullK fullRow
  simp only [List.mem_flatMap, List.mem_map, List.mem_range]
  constructor
  · rintro ⟨a, ha, b, hb, rfl⟩; exact ⟨a, b, ha, hb, rfl⟩
  · rintro ⟨a, b, ha, hb, rfl⟩; exact ⟨a, ha, b, hb, rfl⟩
def fullL (n a j : Nat) : List (Int × Int) := fullK n a ++ fullRow n a j
theorem fullL_0 (n a) : fullL n a 0 = fullK n a := by simp [fullL, fullRow]
theorem fullL_len (n a j) : (fullL n a j).length = a * n + j := by
  have : ∀ a, (fullK n a).length = a * n := by
    intro a
    induction a with
    | zero => simp [fullK]
    | succ a ih => rw [fullK_succ, List.length_append, ih, Nat.succ_mul]; simp [fullRow]
  simp [fullL, this, fullRow]
end Go.Ab
end
section
set_option linter.unusedVariables false
set_option linter.unusedSimpArgs false
namespace Go.Ab
structure Q4 where
  ii : Rw
  ic : Rw
  ci : Rw
  cc : Rw
inductive Pp (q : Q4) : Nat → Nat → Nat → Prop
  | b0 {a b} : hb q.ii a b = true → Pp q 0 a b
  | b1 {a b} : hb q.ic a b = true → Pp q 1 a b
  | b2 {a b} : hb q.ci a b = true → Pp q 2 a b
  | b3 {a b} : hb q.cc a b = true → Pp q 3 a b
  | r1 {a b} : Pp q 2 a b → Pp q 0 a b
  | r2 {a c b} : Pp q 1 a c → Pp q 2 c b → Pp q 0 a b
  | r3 {a c b} : Pp q 0 a c → Pp q 0 c b → Pp q 0 a b
  | r4 {a b} : Pp q 0 a b → Pp q 1 a b
  | r5 {a b} : Pp q 3 a b → Pp q 1 a b
  | r6 {a c b} : Pp q 1 a c → Pp q 3 c b → Pp q 1 a b
  | r7 {a c b} : Pp q 0 a c → Pp q 1 c b → Pp q 1 a b
  | r8 {a c b} : Pp q 2 a c → Pp q 0 c b → Pp q 2 a b
  | r9 {a c b} : Pp q 3 a c → Pp q 2 c b → Pp q 2 a b
  | r10 {a b} : Pp q 2 a b → Pp q 3 a b
  | r11 {a c b} : Pp q 2 a c → Pp q 1 c b → Pp q 3 a b
  | r12 {a c b} : Pp q 3 a c → Pp q 3 c b → Pp q 3 a b
structure WfQ (n : Nat) (q : Q4) : Prop where
  ii : Wf n q.ii
  ic : Wf n q.ic
  ci : Wf n q.ci
  cc : Wf n q.cc
structure LeQ (q p : Q4) : Prop where
  ii : ∀ a b, hb q.ii a b = true → hb p.ii a b = true
  ic : ∀ a b, hb q.ic a b = true → hb p.ic a b = true
  ci : ∀ a b, hb q.ci a b = true → hb p.ci a b = true
  cc : ∀ a b, hb q.cc a b = true → hb p.cc a b = true
theorem LeQ.refl (q : Q4) : LeQ q q := ⟨fun _ _ h => h, fun _ _ h => h, fun _ _ h => h, fun _ _ h => h⟩
theorem LeQ.trans {p q r : Q4} (h : LeQ p q) (k : LeQ q r) : LeQ p r := ⟨fun a b x => k.ii a b (h.ii a b x), fun a b x => k.ic a b (h.ic a b x), fun a b x => k.ci a b (h.ci a b x), fun a b x => k.cc a b (h.cc a b x)⟩
structure InP (q0 q : Q4) : Prop where
  ii : ∀ a b, hb q.ii a b = true → Pp q0 0 a b
  ic : ∀ a b, hb q.ic a b = true → Pp q0 1 a b
  ci : ∀ a b, hb q.ci a b = true → Pp q0 2 a b
  cc : ∀ a b, hb q.cc a b = true → Pp q0 3 a b
theorem InP.base (q : Q4) : InP q q := ⟨fun _ _ h => .b0 h, fun _ _ h => .b1 h, fun _ _ h => .b2 h, fun _ _ h => .b3 h⟩
theorem filter_lt {α : Type} {P Q : α → Bool} : ∀ {l : List α}, (∀ x ∈ l, P x = true → Q x = true) → (l.filter P).length ≤ (l.filter Q).length
  | [], _ => by simp
  | x :: l, h => by
    have ih := filter_lt (P := P) (Q := Q) (l := l) fun y hy => h y (List.mem_cons_of_mem _ hy)
    have h0 := h x (List.mem_cons_self ..)
    rw [List.filter_cons, List.filter_cons]
    cases hP : P x with
    | true => rw [h0 hP, if_pos rfl, if_pos rfl]; simp only [List.length_cons]; omega
    | false =>
      rw [if_neg (by simp)]
      split <;> first | omega | (simp only [List.length_cons]; omega)
theorem filter_lt' {α : Type} {P Q : α → Bool} : ∀ {l : List α}, (∀ x ∈ l, P x = true → Q x = true) → (∃ x ∈ l, P x = false ∧ Q x = true) → (l.filter P).length < (l.filter Q).length
  | [], _, ⟨x, hx, _⟩ => by cases hx
  | x :: l, h, ⟨y, hy, h1, h2⟩ => by
    have hl := fun z hz => h z (List.mem_cons_of_mem x hz)
    have h0 := h x (List.mem_cons_self ..)
    rw [List.filter_cons, List.filter_cons]
    rcases List.mem_cons.1 hy with rfl | hy
    · have := filter_lt (P := P) (Q := Q) hl
      rw [h1, h2, if_neg (by simp), if_pos rfl]
      simp only [List.length_cons]; omega
    · have ih := filter_lt' (P := P) (Q := Q) hl ⟨y, hy, h1, h2⟩
      cases hP : P x with
      | true => rw [h0 hP, if_pos rfl, if_pos rfl]; simp only [List.length_cons]; omega
      | false =>
        rw [if_neg (by simp)]
        split <;> first | omega | (simp only [List.length_cons]; omega)
def cntR (n : Nat) (R : Rw) : Nat := ((fullK n n).filter fun p => hb R p.1.toNat p.2.toNat).length
theorem cntR_le {n : Nat} (hn : n ≤ 40) (R : Rw) : cntR n R ≤ 1600 := by
  have h1 := List.length_filter_le (fun p : Int × Int => hb R p.1.toNat p.2.toNat) (fullK n n)
  have h2 : (fullK n n).length = n * n := by have := fullL_len n n 0; rwa [fullL_0] at this
  have h3 : n * n ≤ 40 * 40 := Nat.mul_le_mul hn hn
  unfold cntR; omega
theorem cntR_mono {n : Nat} {R S : Rw} (h : ∀ a b, hb R a b = true → hb S a b = true) : cntR n R ≤ cntR n S := filter_lt fun p _ hp => h _ _ hp
theorem cntR_lt {n : Nat} (hn : n ≤ 40) {R S : Rw} (hS : Wf n S) (h : ∀ a b, hb R a b = true → hb S a b = true) (hne : noneR (lessR S R) = false) : cntR n R < cntR n S := by
  refine filter_lt' (fun p _ hp => h _ _ hp) ?_
  have hex : ∃ a b, hb S a b = true ∧ hb R a b = false := by
    by_cases hx : ∃ a b, hb S a b = true ∧ hb R a b = false
    · exact hx
    · exfalso
      have : noneR (lessR S R) = true := (in_iff hn hS).2 fun a b hab => by
        cases hr : hb R a b with
        | true => rfl
        | false => exact absurd ⟨a, b, hab, hr⟩ hx
      rw [hne] at this; cases this
  obtain ⟨a, b, h1, h2⟩ := hex
  obtain ⟨ha, hb'⟩ := hS a b h1
  exact ⟨((a : Int), (b : Int)), mem_full.2 ⟨a, b, ha, hb', rfl⟩, by simpa using h2, by simpa using h1⟩
def cntQ (n : Nat) (q : Q4) : Nat := cntR n q.ii + cntR n q.ic + cntR n q.ci + cntR n q.cc
theorem cntQ_le {n : Nat} (hn : n ≤ 40) (q : Q4) : cntQ n q ≤ 6400 := by
  have h1 := cntR_le hn q.ii
  have h2 := cntR_le hn q.ic
  have h3 := cntR_le hn q.ci
  have h4 := cntR_le hn q.cc
  unfold cntQ; omega
def subQ (q p : Q4) : Bool := noneR (lessR q.ii p.ii) && (noneR (lessR q.ic p.ic) && (noneR (lessR q.ci p.ci) && noneR (lessR q.cc p.cc)))
theorem cntQ_lt {n : Nat} (hn : n ≤ 40) {q p : Q4} (hp : WfQ n p) (h : LeQ q p) (hne : subQ p q = false) : cntQ n q < cntQ n p := by
  have h1 := cntR_mono (n := n) h.ii
  have h2 := cntR_mono (n := n) h.ic
  have h3 := cntR_mono (n := n) h.ci
  have h4 := cntR_mono (n := n) h.cc
  unfold subQ at hne
  unfold cntQ
  cases c1 : noneR (lessR p.ii q.ii) with
  | false => have := cntR_lt hn hp.ii h.ii c1; omega
  | true =>
    cases c2 : noneR (lessR p.ic q.ic) with
    | false => have := cntR_lt hn hp.ic h.ic c2; omega
    | true =>
      cases c3 : noneR (lessR p.ci q.ci) with
      | false => have := cntR_lt hn hp.ci h.ci c3; omega
      | true =>
        cases c4 : noneR (lessR p.cc q.cc) with
        | false => have := cntR_lt hn hp.cc h.cc c4; omega
        | true => rw [c1, c2, c3, c4] at hne; cases hne
def stepQ (n : Nat) (q : Q4) : Q4 := ⟨orR (orR (orR q.ii q.ci) (thenR n q.ic q.ci)) (thenR n q.ii q.ii), orR (orR (orR (orR q.ic q.ii) q.cc) (thenR n q.ic q.cc)) (thenR n q.ii q.ic), orR (orR q.ci (thenR n q.ci q.ii)) (thenR n q.cc q.ci), orR (orR (orR q.cc q.ci) (thenR n q.ci q.ic)) (thenR n q.cc q.cc)⟩
def itQ (n : Nat) : Nat → Q4 → Q4
  | 0, q => q
  | f + 1, q => if subQ (stepQ n q) q then q else itQ n f (stepQ n q)
section
variable {n : Nat} {q : Q4} (w : WfQ n q)
include w
theorem stepQ_wf : WfQ n (stepQ n q) :=
  ⟨wf_or (wf_or (wf_or w.ii w.ci) (wf_then w.ic w.ci)) (wf_then w.ii w.ii), wf_or (wf_or (wf_or (wf_or w.ic w.ii) w.cc) (wf_then w.ic w.cc)) (wf_then w.ii w.ic), wf_or (wf_or w.ci (wf_then w.ci w.ii)) (wf_then w.cc w.ci), wf_or (wf_or (wf_or w.cc w.ci) (wf_then w.ci w.ic)) (wf_then w.cc w.cc)⟩
omit w in
theorem stepQ_ge : LeQ q (stepQ n q) := by
  refine ⟨fun a b h => ?_, fun a b h => ?_, fun a b h => ?_, fun a b h => ?_⟩ <;> simp only [stepQ, hb_or, h, Bool.true_or]
end
end Go.Ab
end
section
set_option linter.unusedVariables false
set_option linter.unusedSimpArgs false
namespace Go.Ab
variable {F : Funs}
theorem res_4 (a b c d e g) : resE [.t a, .t b, .t c, .t d] e g = some (.tup [e a, e b, e c, e d]) := rfl
theorem frz_tup4 (hp) (a b c d : List AV) : frz hp depth (.tup [.ptr a, .ptr b, .ptr c, .ptr d]) = some (.tup [.ptr a, .ptr b, .ptr c, .ptr d]) := by
  show frz hp (8 + 1) _ = _
  simp only [frz, frzL, Option.map_some]
def pR (e : Ev) : Bool := e.kd == 1
def pW (e : Ev) : Bool := e.kd == 2
def pM (e : Ev) : Bool := e.kd == 1 || e.kd == 2
def pMi (e : Ev) : Bool := e.th != 0
structure PpoF (F : Funs) : Prop where
  pp : Pk_ppo F
  pe : Pk_eco F
  pr : Pk_rel F
  po : F 60 = some A_graph_Po
  gof : F 81 = some A_graph_Of
  set : F 166 = some A_graph_Set
  ls : RelLs F
section
variable (X : Gr)
def plocR : Rw := thenR (nOf X) (setR X pMi) (partR inner X (nOf X) (locR X))
def byR (out : Rw) : Rw := andR (plocR X) (thenR (nOf X) (partR outer X (nOf X) out) (partR outer X (nOf X) (rfR X)))
def rdwR : Rw := byR X (relE (frS X.co) X)
def detR : Rw := byR X (relE (coS X.co) X)
def q0Q : Q4 := ⟨orR (orR (newR (nOf X) X.data) (rdwR X)) (partR inner X (nOf X) (rfR X)), newR (nOf X) [], orR (thenR (nOf X) (newR (nOf X) X.ctrli) (setR X pM)) (detR X), orR (orR (newR (nOf X) X.data) (plocR X)) (thenR (nOf X) (newR (nOf X) X.ctrl) (setR X pM))⟩
def partsQ : Q4 := itQ (nOf X) 6401 (q0Q X)
def ppoR : Rw := orR (thenR (nOf X) (thenR (nOf X) (setR X pR) (partsQ X).ii) (setR X pR)) (thenR (nOf X) (thenR (nOf X) (setR X pR) (partsQ X).ic) (setR X pW))
end
def orL (R : Rw) (l : List Rw) : Rw := l.foldl orR R
section
variable (S : PpoF F)
include S
set_option maxRecDepth 100000 in
theorem sp_isR (e : Ev) : pureS F 167 [.agg (evC e)] = some (.b (pR e)) := by
  refine pure_of S.pp.ppo_isR ?_
  simp (disch := omega) only [A_ppo_isR, wp, Nat.reduceAdd, Nat.reduceMul, Nat.reduceSub, gl]
  rfl
set_option maxRecDepth 100000 in
theorem sp_isW (e : Ev) : pureS F 168 [.agg (evC e)] = some (.b (pW e)) := by
  refine pure_of S.pp.ppo_isW ?_
  simp (disch := omega) only [A_ppo_isW, wp, Nat.reduceAdd, Nat.reduceMul, Nat.reduceSub, gl]
  rfl
set_option maxRecDepth 100000 in
theorem sp_isM (e : Ev) : pureS F 219 [.agg (evC e)] = some (.b (pM e)) := by
  refine pure_of S.pp.ppo_isM ?_
  unfold pM
  cases h1 : (e.kd == 1) with
  | true => simp (disch := omega) only [A_ppo_isM, wp, Nat.reduceAdd, Nat.reduceMul, Nat.reduceSub, gl, h1]
  | false => simp (disch := omega) only [A_ppo_isM, wp, Nat.reduceAdd, Nat.reduceMul, Nat.reduceSub, gl, h1]
set_option maxRecDepth 100000 in
theorem sp_isMi (e : Ev) : pureS F 246 [.agg (evC e)] = some (.b (pMi e)) := by
  refine pure_of S.pp.ppo_ploc_1 ?_
  simp (disch := omega) only [A_ppo_ploc_1, wp, Nat.reduceAdd, Nat.reduceMul, Nat.reduceSub, gl]
  rfl
set_option maxRecDepth 100000 in
set_option maxHeartbeats 4000000 in
theorem sp_orP {n : Nat} (hn : n ≤ 40) (R : Rw) (l : List Rw) (hl : l.length ≤ 1000) (t : Tok) : pureS F 220 [.ptr (relC n R), .sl (relsC n l) l.length t] = some (.ptr (relC n (orL R l))) := by
  refine pure_of S.pp.ppo_or ?_
  simp (disch := omega) only [A_ppo_or, wp, Nat.reduceAdd, Nat.reduceMul, Nat.reduceSub, gl]
  refine W_loop (fun q e g => ∃ k, q = l.length - k ∧ k ≤ l.length ∧ e 0 = .ptr (relC n (orL R (l.take k))) ∧ e 7 = .sl (relsC n l) l.length t ∧ e 8 = .i .i64 l.length ∧ e 9 = .i .i64 k) l.length ?_ ?_
  · refine ⟨0, rfl, Nat.zero_le _, ?_⟩
    simp (disch := omega) only [wp, Nat.reduceAdd, Nat.reduceMul, Nat.reduceSub]
    exact ⟨by rfl, rfl⟩
  · rintro q e g ⟨k, rfl, hk, e0, e7, e8, e9⟩
    by_cases hk' : k < l.length
    · have hk1 : (k : Int) < l.length := by omega
      have hwk := succ_wrap (k := k) (by omega)
      have hp := rels_part (n := n) hk'
      have hs : orL R (l.take (k + 1)) = orR (orL R (l.take k)) (l.getD k fun _ => 0) := by
        unfold orL
        rw [List.take_add_one, List.foldl_append, List.getElem?_eq_getElem hk', List.getD_eq_getElem?_getD, List.getElem?_eq_getElem hk']
        rfl
      generalize orL R (l.take k) = A at e0 hs
      generalize (l.getD k fun _ => 0) = B at hp hs
      simp (disch := omega) only [wp, Nat.reduceAdd, Nat.reduceMul, Nat.reduceSub, gl, e0, e7, e8, e9, hk1, hp, sp_or S.pr hn hn, Nat.max_self, hwk]
      exact ⟨l.length - (k + 1), by omega, k + 1, rfl, by omega, by rw [hs], rfl⟩
    · obtain rfl : k = l.length := by omega
      have hk1 : ¬ ((l.length : Int) < l.length) := by omega
      rw [List.take_length] at e0
      simp (disch := omega) only [wp, Nat.reduceAdd, Nat.reduceMul, Nat.reduceSub, gl, e0, e7, e8, e9, hk1]
theorem sp_or_1 {n : Nat} (hn : n ≤ 40) (R A : Rw) : pureS F 220 [.ptr (relC n R), .sl [.ptr (relC n A)] 1 .non] = some (.ptr (relC n (orR R A))) := sp_orP S hn R [A] (by simp) .non
theorem sp_or_2 {n : Nat} (hn : n ≤ 40) (R A B : Rw) : pureS F 220 [.ptr (relC n R), .sl [.ptr (relC n A), .ptr (relC n B)] 2 .non] = some (.ptr (relC n (orR (orR R A) B))) := sp_orP S hn R [A, B] (by simp) .non
theorem sp_or_3 {n : Nat} (hn : n ≤ 40) (R A B C : Rw) : pureS F 220 [.ptr (relC n R), .sl [.ptr (relC n A), .ptr (relC n B), .ptr (relC n C)] 3 .non] = some (.ptr (relC n (orR (orR (orR R A) B) C))) := sp_orP S hn R [A, B, C] (by simp) .non
theorem sp_or_4 {n : Nat} (hn : n ≤ 40) (R A B C D : Rw) : pureS F 220 [.ptr (relC n R), .sl [.ptr (relC n A), .ptr (relC n B), .ptr (relC n C), .ptr (relC n D)] 4 .non] = some (.ptr (relC n (orR (orR (orR (orR R A) B) C) D))) := sp_orP S hn R [A, B, C, D] (by simp) .non
variable {X : Gr} (hX : Few X)
include hX
theorem sp_setF {fid : Nat} {p : Ev → Bool} (hp : ∀ e, pureS F fid [.agg (evC e)] = some (.b (p e))) : pureS F 166 [.agg (grC X), .fn fid [] []] = some (.ptr (relC (nOf X) (setR X p))) :=
  sp_setE S.set S.gof S.pr (by have := hX.1; omega) hp (fun hp => frzL_nil hp _) (fun hp => rfl)
theorem sp_locP : pureS F 41 [.agg (grC X)] = some (.ptr (relC (nOf X) (locR X))) := sp_Loc S.pe S.po S.gof S.pr (by have := hX.1; omega)
theorem sp_rfP : pureS F 48 [.agg (grC X)] = some (.ptr (relC (nOf X) (rfR X))) := sp_Rf S.pe S.gof S.pr hX
omit hX in
theorem sp_ofP (l : List (Int × Int)) (hl : l.length ≤ 1000) (t : Tok) : pureS F 81 [.agg (grC X), .sl (pairsC l) l.length t] = some (.ptr (relC (nOf X) (newR (nOf X) l))) := sp_of S.gof S.pr X l t (by omega)
set_option maxRecDepth 100000 in
theorem sp_ploc : pureS F 221 [.agg (grC X)] = some (.ptr (relC (nOf X) (plocR X))) := by
  refine pure_of S.pp.ppo_ploc ?_
  have hn := nOf_le X
  simp (disch := omega) only [A_ppo_ploc, wp, Nat.reduceAdd, Nat.reduceMul, Nat.reduceSub, gl, sp_setF S hX (sp_isMi S), sp_locP S hX, sp_Inner S.pe S.gof S.pr hn, sp_then S.pr hn hn, Nat.max_self]
  rfl
set_option maxRecDepth 100000 in
theorem sp_by' (out : Rw) : pureS F 170 [.agg (grC X), .ptr (relC (nOf X) out)] = some (.ptr (relC (nOf X) (byR X out))) := by
  refine pure_of S.pp.ppo_by ?_
  have hn := nOf_le X
  simp (disch := omega) only [A_ppo_by, wp, Nat.reduceAdd, Nat.reduceMul, Nat.reduceSub, gl, sp_ploc S hX, sp_rfP S hX, sp_Outer S.pe S.gof S.pr hn, sp_then S.pr hn hn, sp_and S.pr hn hn, Nat.max_self]
  rfl
set_option maxRecDepth 100000 in
theorem sp_rdw : pureS F 145 [.agg (grC X)] = some (.ptr (relC (nOf X) (rdwR X))) := by
  refine pure_of S.pp.ppo_Rdw ?_
  simp (disch := omega) only [A_ppo_Rdw, wp, Nat.reduceAdd, Nat.reduceMul, Nat.reduceSub, gl, sp_by' S hX, sp_Fr S.pe S.gof S.pr hX]
  rfl
set_option maxRecDepth 100000 in
theorem sp_det : pureS F 146 [.agg (grC X)] = some (.ptr (relC (nOf X) (detR X))) := by
  refine pure_of S.pp.ppo_Detour ?_
  simp (disch := omega) only [A_ppo_Detour, wp, Nat.reduceAdd, Nat.reduceMul, Nat.reduceSub, gl, sp_by' S hX, sp_Co S.pe S.gof S.pr hX]
  rfl
omit S hX in
theorem q0_wf (X : Gr) : WfQ (nOf X) (q0Q X) := by
  have hn := nOf_le X
  have wp : Wf (nOf X) (plocR X) := wf_then (wf_new hn _) (wf_new hn _)
  have wb : ∀ out, Wf (nOf X) (byR X out) := fun out => wf_and wp
  exact ⟨wf_or (wf_or (wf_new hn _) (wb _)) (wf_new hn _), wf_new hn _, wf_or (wf_then (wf_new hn _) (wf_new hn _)) (wb _), wf_or (wf_or (wf_new hn _) wp) (wf_then (wf_new hn _) (wf_new hn _))⟩
def tupQ (n : Nat) (q : Q4) : AV := .tup [.ptr (relC n q.ii), .ptr (relC n q.ic), .ptr (relC n q.ci), .ptr (relC n q.cc)]
set_option maxRecDepth 100000 in
set_option maxHeartbeats 8000000 in
theorem sp_parts (hd : X.data.length ≤ 1000) (hc : X.ctrl.length ≤ 1000) (hi : X.ctrli.length ≤ 1000) : pureS F 165 [.agg (grC X)] = some (tupQ (nOf X) (partsQ X)) := by
  refine pure_of S.pp.ppo_Parts ?_
  have hn := nOf_le X
  have d0 : ∀ hp, True := fun (_ : Nat) => trivial
  have dn : pureS F 11 [.i .i64 X.evs.length, .sl [] 0 .non] = some (.ptr (relC (nOf X) (newR (nOf X) []))) := sp_new S.pr X.evs.length [] .non (by simp)
  have r4 : ∀ x : AV, List.replicate 4 x = [x, x, x, x] := fun _ => rfl
  have hw0 := q0_wf X
  have hq0 : q0Q X = ⟨orR (orR (newR (nOf X) X.data) (rdwR X)) (partR inner X (nOf X) (rfR X)), newR (nOf X) [], orR (thenR (nOf X) (newR (nOf X) X.ctrli) (setR X pM)) (detR X), orR (orR (newR (nOf X) X.data) (plocR X)) (thenR (nOf X) (newR (nOf X) X.ctrl) (setR X pM))⟩ := rfl
  have hpq : partsQ X = itQ (nOf X) 6401 (q0Q X) := rfl
  simp (disch := omega) only [A_ppo_Parts, wp, Nat.reduceAdd, Nat.reduceMul, Nat.reduceSub, gl, sp_setF S hX (sp_isM S), sp_ofP S, sp_rdw S hX, sp_det S hX, sp_ploc S hX, sp_rfP S hX, sp_Inner S.pe S.gof S.pr hn, sp_then S.pr hn hn, sp_or_1 S hn, sp_or_2 S hn, dn, Nat.max_self]
  generalize partsQ X = R at hpq
  refine W_loop (fun m e g => ∃ q f, m = 6400 - cntQ (nOf X) q ∧ m < f ∧ R = itQ (nOf X) f q ∧ WfQ (nOf X) q ∧ e 2 = .ptr (relC (nOf X) q.ii) ∧ e 3 = .ptr (relC (nOf X) q.ic) ∧ e 4 = .ptr (relC (nOf X) q.ci) ∧ e 5 = .ptr (relC (nOf X) q.cc)) (6400 - cntQ (nOf X) (q0Q X)) ?_ ?_
  · refine ⟨q0Q X, 6401, rfl, by omega, hpq, hw0, ?_⟩
    rw [hq0]
    simp (disch := omega) only [wp, Nat.reduceAdd, Nat.reduceMul, Nat.reduceSub]
  · rintro m e g ⟨q, f, rfl, hf, hR, w, e2, e3, e4, e5⟩
    have hcl := cntQ_le hn (stepQ (nOf X) q)
    have hlt := cntQ_lt hn (stepQ_wf w) stepQ_ge
    obtain ⟨f', rfl⟩ : ∃ f', f = f' + 1 := ⟨f - 1, by omega⟩
    have hst : stepQ (nOf X) q = ⟨orR (orR (orR q.ii q.ci) (thenR (nOf X) q.ic q.ci)) (thenR (nOf X) q.ii q.ii), orR (orR (orR (orR q.ic q.ii) q.cc) (thenR (nOf X) q.ic q.cc)) (thenR (nOf X) q.ii q.ic), orR (orR q.ci (thenR (nOf X) q.ci q.ii)) (thenR (nOf X) q.cc q.ci), orR (orR (orR q.cc q.ci) (thenR (nOf X) q.ci q.ic)) (thenR (nOf X) q.cc q.cc)⟩ := rfl
    have hsb : subQ (stepQ (nOf X) q) q = (noneR (lessR (stepQ (nOf X) q).ii q.ii) && (noneR (lessR (stepQ (nOf X) q).ic q.ic) && (noneR (lessR (stepQ (nOf X) q).ci q.ci) && noneR (lessR (stepQ (nOf X) q).cc q.cc)))) := rfl
    have go : subQ (stepQ (nOf X) q) q = false → ∃ m', m' < 6400 - cntQ (nOf X) q ∧ m' = 6400 - cntQ (nOf X) (stepQ (nOf X) q) ∧ m' < f' ∧ R = itQ (nOf X) f' (stepQ (nOf X) q) := by
      intro hs
      have := hlt hs
      refine ⟨_, by omega, rfl, by omega, ?_⟩
      rw [hR, itQ, hs, if_neg (by simp)]
    have ws := stepQ_wf w
    generalize hA : (stepQ (nOf X) q).ii = A at hsb
    generalize hB : (stepQ (nOf X) q).ic = B at hsb
    generalize hC : (stepQ (nOf X) q).ci = C at hsb
    generalize hD : (stepQ (nOf X) q).cc = D at hsb
    rw [hst] at hA hB hC hD
    simp only at hA hB hC hD
    have fin : subQ (stepQ (nOf X) q) q = false → ∃ m', m' < 6400 - cntQ (nOf X) q ∧ ∃ q' f, m' = 6400 - cntQ (nOf X) q' ∧ m' < f ∧ R = itQ (nOf X) f q' ∧ WfQ (nOf X) q' ∧ AV.ptr (relC (nOf X) A) = .ptr (relC (nOf X) q'.ii) ∧ AV.ptr (relC (nOf X) B) = .ptr (relC (nOf X) q'.ic) ∧ AV.ptr (relC (nOf X) C) = .ptr (relC (nOf X) q'.ci) ∧ AV.ptr (relC (nOf X) D) = .ptr (relC (nOf X) q'.cc) := by
      intro hs
      obtain ⟨m', h1, h2, h3, h4⟩ := go hs
      exact ⟨m', h1, stepQ (nOf X) q, f', h2, h3, h4, ws, by rw [← hA]; rfl, by rw [← hB]; rfl, by rw [← hC]; rfl, by rw [← hD]; rfl⟩
    cases c1 : noneR (lessR A q.ii)
    case false =>
      simp (disch := omega) only [wp, Nat.reduceAdd, Nat.reduceMul, Nat.reduceSub, gl, e2, e3, e4, e5, r4, sp_then S.pr hn hn, sp_or_3 S hn, sp_or_4 S hn, sp_or_2 S hn, sp_in S.ls S.pr hn hn, Nat.max_self, hA, hB, hC, hD, c1]
      exact fin (by rw [hsb, c1]; rfl)
    cases c2 : noneR (lessR B q.ic)
    case false =>
      simp (disch := omega) only [wp, Nat.reduceAdd, Nat.reduceMul, Nat.reduceSub, gl, e2, e3, e4, e5, r4, sp_then S.pr hn hn, sp_or_3 S hn, sp_or_4 S hn, sp_or_2 S hn, sp_in S.ls S.pr hn hn, Nat.max_self, hA, hB, hC, hD, c1, c2]
      exact fin (by rw [hsb, c1, c2]; rfl)
    cases c3 : noneR (lessR C q.ci)
    case false =>
      simp (disch := omega) only [wp, Nat.reduceAdd, Nat.reduceMul, Nat.reduceSub, gl, e2, e3, e4, e5, r4, sp_then S.pr hn hn, sp_or_3 S hn, sp_or_4 S hn, sp_or_2 S hn, sp_in S.ls S.pr hn hn, Nat.max_self, hA, hB, hC, hD, c1, c2, c3]
      exact fin (by rw [hsb, c1, c2, c3]; rfl)
    cases c4 : noneR (lessR D q.cc)
    case false =>
      simp (disch := omega) only [wp, Nat.reduceAdd, Nat.reduceMul, Nat.reduceSub, gl, e2, e3, e4, e5, r4, sp_then S.pr hn hn, sp_or_3 S hn, sp_or_4 S hn, sp_or_2 S hn, sp_in S.ls S.pr hn hn, Nat.max_self, hA, hB, hC, hD, c1, c2, c3, c4]
      exact fin (by rw [hsb, c1, c2, c3, c4]; rfl)
    have hRq : R = q := by rw [hR, itQ, hsb, c1, c2, c3, c4]; rfl
    subst hRq
    simp (disch := omega) only [wp, Nat.reduceAdd, Nat.reduceMul, Nat.reduceSub, gl, e2, e3, e4, e5, r4, sp_then S.pr hn hn, sp_or_3 S hn, sp_or_4 S hn, sp_or_2 S hn, sp_in S.ls S.pr hn hn, Nat.max_self, hA, hB, hC, hD, c1, c2, c3, c4, res_4, frz_tup4]
    rfl
set_option maxRecDepth 100000 in
theorem sp_ppo (hd : X.data.length ≤ 1000) (hc : X.ctrl.length ≤ 1000) (hi : X.ctrli.length ≤ 1000) : pureS F 143 [.agg (grC X)] = some (.ptr (relC (nOf X) (ppoR X))) := by
  refine pure_of S.pp.ppo_Ppo ?_
  have hn := nOf_le X
  have hp := sp_parts S hX hd hc hi
  unfold tupQ at hp
  have x1 : ∀ (a b c d : AV) g, vExt 1 (.tup [a, b, c, d]) g = some (b, g) := fun _ _ _ _ _ => rfl
  have x0 : ∀ (a b c d : AV) g, vExt 0 (.tup [a, b, c, d]) g = some (a, g) := fun _ _ _ _ _ => rfl
  have x2 : ∀ (a b c d : AV) g, vExt 2 (.tup [a, b, c, d]) g = some (c, g) := fun _ _ _ _ _ => rfl
  have x3 : ∀ (a b c d : AV) g, vExt 3 (.tup [a, b, c, d]) g = some (d, g) := fun _ _ _ _ _ => rfl
  simp (disch := omega) only [A_ppo_Ppo, o_ext, x0, x1, x2, x3, wp, Nat.reduceAdd, Nat.reduceMul, Nat.reduceSub, gl, hp, sp_setF S hX (sp_isR S), sp_setF S hX (sp_isW S), sp_then S.pr hn hn, sp_or S.pr hn hn, Nat.max_self]
  rfl
end
end Go.Ab
end
