/- What SoundNumbers rests on, part 3: lemmas, no claim of its own. -/
import Derived.OpenShut
import Derived.ChangeArms
import Derived.Laws.Rows
import Derived.Test.YtgkoidglnjdgoaaPSoundNumbers2
section
namespace Go.Ab
theorem upd_same {α : Type} (e : Nat → α) (d : Nat) (v : α) : upd e d v d = v := if_pos rfl
theorem upd_ne {α : Type} (e : Nat → α) {d k : Nat} (v : α) (h : k ≠ d) : upd e d v k = e k := if_neg h
theorem put_some (e : Env) (d : Nat) (v : AV) : put e (some d) v = upd e d v := rfl
theorem put_none (e : Env) (v : AV) : put e none v = e := rfl
theorem allow_no (base : Nat) (pre : List Nat) (id : Nat) : allow false base pre id = true := rfl
theorem allow_lt {base id : Nat} (pre : List Nat) (h : id < base) : allow true base pre id = true := by simp [allow, h]
theorem rd_ok {g : G} {al : Nat → Bool} {id : Nat} (h : al id = true) : rd g al id = g.hp id := by simp [rd, h]
section
variable (c : CS) (d : Bool) (b j : Nat) (dst : Option Nat) (os : List AOper) (e : Env)
def bindR (r : Option (AV × G)) : Option (Env × G) :=
  match r with
  | some (v, g) => regE c d b j os (put e dst v) g
  | none => none
def selR (w : Bool) (op : AOp) (pre : List Nat) (g : G) : Option (Env × G) :=
  if w then bindR c d b (j + 1) dst os e (opE c (allow d b pre) b (b + j) op e g) else regE c d b (j + 1) os (put e dst .undef) g
theorem selR_true (op pre g) : selR c d b j dst os e true op pre g = bindR c d b (j + 1) dst os e (opE c (allow d b pre) b (b + j) op e g) := rfl
theorem regE_nil (g : G) : regE c d b j [] e g = some (e, g) := rfl
theorem regE_cons (op : AOp) (grd : Option (Nat × Bool)) (pre : List Nat) (g : G) :
    regE c d b j ({ dst, op, grd, pre } :: os) e g = selR c d b j dst os e (wanted e grd) op pre g := by
  simp only [regE, selR, bindR]
  rfl
end
section
variable (F : Funs)
noncomputable def thenS (x : ACode) (r : Option (Out × Env × G)) : Option (Out × Env × G) :=
  match r with
  | some (.nrm, e, g) => codeS F x e g
  | r => r
noncomputable def selS (t f : ACode) (e : Env) (g : G) (v : AV) : Option (Out × Env × G) :=
  match v with
  | .b c => if c then codeS F t e g else codeS F f e g
  | _ => none
def normS (r : Option (Env × G)) : Option (Out × Env × G) :=
  match r with
  | some (e, g) => some (.nrm, e, g)
  | none => none
def blkS (id : Nat) (r : Option (Out × Env × G)) : Option (Out × Env × G) :=
  match r with
  | some (.ext n, e, g) => some (if n = id then .nrm else .ext n, e, g)
  | r => r
theorem cS_reg (draw ops e g) : codeS F (.reg draw ops) e g = normS (regE (callS F) draw g.nx 0 ops e ⟨g.hp, g.nx + ops.length⟩) := codeS_reg F draw ops e g
theorem cS_seq (a b e g) : codeS F (.seq a b) e g = thenS F b (codeS F a e g) := codeS_seq F a b e g
theorem cS_cond (c t f e g) : codeS F (.cond c t f) e g = selS F t f e g (c.ev e) := codeS_cond F c t f e g
theorem cS_blk (id c e g) : codeS F (.blk id c) e g = blkS id (codeS F c e g) := codeS_blk F id c e g
theorem cS_loop (c e g) : codeS F (.loop c) e g = thenS F (.loop c) (codeS F c e g) := codeS_loop F c e g
end
def wantV (v : AV) (w : Bool) : Bool := match v with | .b x => x == w | _ => false
theorem wanted_none (e : Env) : wanted e none = true := rfl
theorem wanted_some (e : Env) (t : Nat) (w : Bool) : wanted e (some (t, w)) = wantV (e t) w := rfl
theorem wantV_1 (x : Bool) : wantV (.b x) true = x := by cases x <;> rfl
theorem wantV_0 (x : Bool) : wantV (.b x) false = !x := by cases x <;> rfl
theorem wantV_undef (w : Bool) : wantV .undef w = false := rfl
section
variable {c : CS} {al : Nat → Bool} {lo id : Nat} {e : Env} {g : G}
theorem ev_t (n : Nat) : Opd.ev e (.t n) = e n := rfl
theorem ev_c (v : AV) : Opd.ev e (.c v) = v := rfl
theorem o_mv (x : Opd) : opE c al lo id (.mv x) e g = some (x.ev e, g) := rfl
theorem o_pick (x y z : Opd) : opE c al lo id (.pick x y z) e g = vPick (x.ev e) (y.ev e) (z.ev e) g := rfl
theorem vPick_t (a b : AV) (g : G) : vPick (.b true) a b g = some (a, g) := rfl
theorem vPick_f (a b : AV) (g : G) : vPick (.b false) a b g = some (b, g) := rfl
theorem o_new (z : List AV) : opE c al lo id (.new z) e g = some (.mp id 0, ⟨upd g.hp id (some (.cells z false)), g.nx⟩) := rfl
theorem o_box (x : Opd) : opE c al lo id (.box x) e g = vBox id (x.ev e) g := rfl
theorem vMap_some (v : AV) : vMap g (some v) = some (v, g) := rfl
theorem vMapL_some (f) (v : List AV) : vMapL f g (some v) = some (f v, g) := rfl
theorem o_build (z : List AV) (ps) : opE c al lo id (.build z ps) e g = vMapL .agg g (fill e z ps) := rfl
theorem o_ld (agg) (x : Opd) : opE c al lo id (.ld agg x) e g = vLd al agg (x.ev e) g := rfl
theorem vLd_ptr (agg cs) : vLd al agg (.ptr cs) g = vMap g (part cs 0 agg) := rfl
theorem o_st (n) (a x : Opd) : opE c al lo id (.st n a x) e g = vSt al n (a.ev e) (x.ev e) g := rfl
theorem o_nilck (x : Opd) : opE c al lo id (.nilck x) e g = vNil (x.ev e) g := rfl
theorem vNil_ptr (cs) : vNil (.ptr cs) g = some (.ptr cs, g) := rfl
theorem vNil_mp (b o) : vNil (.mp b o) g = some (.mp b o, g) := rfl
theorem vNil_fn (f a b) : vNil (.fn f a b) g = some (.fn f a b, g) := rfl
theorem o_bin (op) (x y : Opd) : opE c al lo id (.bin op x y) e g = vMap g (abin op (x.ev e) (y.ev e)) := rfl
theorem o_un (op) (x : Opd) : opE c al lo id (.un op x) e g = vMap g (aun op (x.ev e)) := rfl
theorem o_mkfn (f a b) : opE c al lo id (.mkfn f a b) e g = some (.fn f (a.map (·.ev e)) (b.map (·.ev e)), g) := rfl
theorem o_fa (off) (x : Opd) : opE c al lo id (.fa off x) e g = vFa off (x.ev e) g := rfl
theorem vFa_mp (off b o) : vFa off (.mp b o) g = some (.mp b (o + off), g) := rfl
theorem o_fld (off agg) (x : Opd) : opE c al lo id (.fld off agg x) e g = vFld off agg (x.ev e) g := rfl
theorem vFld_agg (off agg cs) : vFld off agg (.agg cs) g = vMap g (part cs off agg) := rfl
theorem o_ia (esz) (x i : Opd) : opE c al lo id (.ia esz x i) e g = vIa esz (x.ev e) (i.ev e) g := rfl
theorem vIa_sl {esz cs t k} {n : Nat} {z : Int} (h0 : 0 ≤ z) (h : z < n) : vIa esz (.sl cs n t) (.i k z) g = some (.ptr (cs.drop (z.toNat * esz)), g) := if_pos ⟨h0, h⟩
theorem vIa_ms {esz b off k} {n : Nat} {z : Int} (h0 : 0 ≤ z) (h : z < n) : vIa esz (.ms b off n) (.i k z) g = some (.mp b (off + z.toNat * esz), g) := if_pos ⟨h0, h⟩
theorem o_iaa (len esz) (x i : Opd) : opE c al lo id (.iaa len esz x i) e g = vIaa len esz (x.ev e) (i.ev e) g := rfl
theorem vIaa_ptr {esz cs k} {len : Nat} {z : Int} (h0 : 0 ≤ z) (h : z < len) : vIaa len esz (.ptr cs) (.i k z) g = some (.ptr (cs.drop (z.toNat * esz)), g) := if_pos ⟨h0, h⟩
theorem vIaa_mp {esz b off k} {len : Nat} {z : Int} (h0 : 0 ≤ z) (h : z < len) : vIaa len esz (.mp b off) (.i k z) g = some (.mp b (off + z.toNat * esz), g) := if_pos ⟨h0, h⟩
theorem o_len (x : Opd) : opE c al lo id (.len x) e g = vLen (x.ev e) g := rfl
theorem vLen_sl (cs n t) : vLen (.sl cs n t) g = some (.i .i64 n, g) := rfl
theorem vLen_ms (b o n) : vLen (.ms b o n) g = some (.i .i64 n, g) := rfl
theorem o_mx (x y : Opd) : opE c al lo id (.mx x y) e g = vMx (x.ev e) (y.ev e) g := rfl
theorem o_mn (x y : Opd) : opE c al lo id (.mn x y) e g = vMn (x.ev e) (y.ev e) g := rfl
theorem vMx_i (k l a b) : vMx (.i k a) (.i l b) g = some (.i k (if b > a then b else a), g) := rfl
theorem vMn_i (k l a b) : vMn (.i k a) (.i l b) g = some (.i k (if b < a then b else a), g) := rfl
theorem o_ext (i) (x : Opd) : opE c al lo id (.ext i x) e g = vExt i (x.ev e) g := rfl
theorem vExt_tup (i cs) : vExt i (.tup cs) g = vMap g (cs[i]?) := rfl
theorem b_add (k x y) : abin .add (.i k x) (.i k y) = some (.i k (k.wrap (x + y))) := by simp [abin, ibin]
theorem b_sub (k x y) : abin .sub (.i k x) (.i k y) = some (.i k (k.wrap (x - y))) := by simp [abin, ibin]
theorem b_mul (k x y) : abin .mul (.i k x) (.i k y) = some (.i k (k.wrap (x * y))) := by simp [abin, ibin]
theorem b_quo {k x y} (h : y ≠ 0) : abin .quo (.i k x) (.i k y) = some (.i k (k.wrap (x.tdiv y))) := by simp [abin, ibin, h]
theorem b_rem {k x y} (h : y ≠ 0) : abin .rem (.i k x) (.i k y) = some (.i k (x.tmod y)) := by simp [abin, ibin, h]
theorem b_lss (k x y) : abin .lss (.i k x) (.i k y) = some (.b (decide (x < y))) := by simp [abin, ibin]
theorem b_leq (k x y) : abin .leq (.i k x) (.i k y) = some (.b (decide (x ≤ y))) := by simp [abin, ibin]
theorem b_gtr (k x y) : abin .gtr (.i k x) (.i k y) = some (.b (decide (x > y))) := by simp [abin, ibin]
theorem b_geq (k x y) : abin .geq (.i k x) (.i k y) = some (.b (decide (x ≥ y))) := by simp [abin, ibin]
theorem b_eql (k x y) : abin .eql (.i k x) (.i k y) = some (.b (x == y)) := by simp [abin, ibin]
theorem b_neq (k x y) : abin .neq (.i k x) (.i k y) = some (.b (x != y)) := by simp [abin, ibin]
end
def selB (x : Bool) (o : Option Blk) : Option Blk := if x then o else none
theorem selB_true (o) : selB true o = o := rfl
theorem rd_S (g : G) (al : Nat → Bool) (id : Nat) : rd g al id = selB (al id) (g.hp id) := rfl
section
variable {al : Nat → Bool} {g : G}
def ldS (agg : Option Nat) (off : Nat) (g : G) : Option Blk → Option (AV × G)
  | some (.cells cs _) => vMap g (part cs off agg)
  | _ => none
theorem ldS_ok (agg off g cs ro) : ldS agg off g (some (.cells cs ro)) = vMap g (part cs off agg) := rfl
theorem vLd_S (agg b off) : vLd al agg (.mp b off) g = ldS agg off g (selB (al b) (g.hp b)) := rfl
def stD (n b off len m : Nat) (ones : Bool) (cs vs : List AV) (g : G) : Option (AV × G) :=
  if len = n ∧ off + n ≤ m ∧ ones = true then some (.undef, ⟨upd g.hp b (some (.cells (splice cs off vs) false)), g.nx⟩) else none
theorem stD_ok {n b off len m : Nat} {cs vs g} (h : len = n ∧ off + n ≤ m) : stD n b off len m true cs vs g = some (.undef, ⟨upd g.hp b (some (.cells (splice cs off vs) false)), g.nx⟩) := if_pos ⟨h.1, h.2, rfl⟩
def stS (n b off : Nat) (vs : List AV) (g : G) : Option Blk → Option (AV × G)
  | some (.cells cs false) => stD n b off vs.length cs.length (vs.all one) cs vs g
  | _ => none
theorem stS_ok (n b off vs g cs) : stS n b off vs g (some (.cells cs false)) = stD n b off vs.length cs.length (vs.all one) cs vs g := rfl
theorem vSt_S (n b off x) : vSt al n (.mp b off) x g = stS n b off (cellsOf x) g (selB (al b) (g.hp b)) := by
  simp only [vSt]
  rw [rd_S]
  cases selB (al b) (g.hp b) with
  | none => rfl
  | some bl =>
    cases bl with
    | cells cs ro => cases ro <;> rfl
    | map es => rfl
    | tok l => rfl
def boxD (id : Nat) (cs : List AV) (g : G) (x : Bool) : Option (AV × G) := if x then some (.mp id 0, ⟨upd g.hp id (some (.cells cs false)), g.nx⟩) else none
theorem boxD_ok (id cs g) : boxD id cs g true = some (.mp id 0, ⟨upd g.hp id (some (.cells cs false)), g.nx⟩) := rfl
theorem vBox_S (id v) : vBox id v g = boxD id (cellsOf v) g ((cellsOf v).all one) := rfl
def faD (off len : Nat) (cs : List AV) (g : G) : Option (AV × G) := if off < len then some (.ptr (cs.drop off), g) else none
theorem faD_ok {off len : Nat} {cs g} (h : off < len) : faD off len cs g = some (.ptr (cs.drop off), g) := if_pos h
theorem vFa_S (off cs) : vFa off (.ptr cs) g = faD off cs.length cs g := rfl
def fillD (e : Env) (cs : List AV) (off n len m : Nat) (ones : Bool) (vs : List AV) (ps : List (Nat × Nat × Opd)) : Option (List AV) :=
  if len = n ∧ off + n ≤ m ∧ ones = true then fill e (splice cs off vs) ps else none
theorem fillD_ok {e cs off n len m vs ps} (h : len = n ∧ off + n ≤ m) : fillD e cs off n len m true vs ps = fill e (splice cs off vs) ps := if_pos ⟨h.1, h.2, rfl⟩
theorem fill_S (e : Env) (cs : List AV) (off n x ps) : fill e cs ((off, n, x) :: ps) = fillD e cs off n (cellsOf (x.ev e)).length cs.length ((cellsOf (x.ev e)).all one) (cellsOf (x.ev e)) ps := by
  simp only [fill, fillD]
theorem fill_nil (e cs) : fill e cs [] = some cs := rfl
theorem cellsOf_agg (cs) : cellsOf (.agg cs) = cs := rfl
theorem cellsOf_i (k n) : cellsOf (.i k n) = [.i k n] := rfl
theorem cellsOf_b (x) : cellsOf (.b x) = [.b x] := rfl
theorem cellsOf_s (x) : cellsOf (.s x) = [.s x] := rfl
theorem cellsOf_ptr (x) : cellsOf (.ptr x) = [.ptr x] := rfl
theorem cellsOf_nilp : cellsOf .nilp = [.nilp] := rfl
theorem cellsOf_sl (a b c) : cellsOf (.sl a b c) = [.sl a b c] := rfl
theorem cellsOf_mp (a b) : cellsOf (.mp a b) = [.mp a b] := rfl
theorem cellsOf_fn (a b c) : cellsOf (.fn a b c) = [.fn a b c] := rfl
theorem one_i (k n) : one (.i k n) = true := rfl
theorem one_b (x) : one (.b x) = true := rfl
theorem one_s (x) : one (.s x) = true := rfl
theorem one_ptr (x) : one (.ptr x) = true := rfl
theorem one_nilp : one .nilp = true := rfl
theorem one_sl (a b c) : one (.sl a b c) = true := rfl
theorem one_mp (a b) : one (.mp a b) = true := rfl
theorem one_fn (a b c) : one (.fn a b c) = true := rfl
theorem splice_1 (cs off v) : splice cs off [v] = cs.set off v := rfl
theorem splice_2 (a b x y) : splice [a, b] 0 [x, y] = [x, y] := rfl
theorem splice_3 (a b c x y z) : splice [a, b, c] 0 [x, y, z] = [x, y, z] := rfl
theorem part_0 (c cs) : part (c :: cs) 0 none = some c := rfl
theorem part_1 (c d cs) : part (c :: d :: cs) 1 none = some d := rfl
theorem part_2 (a c d cs) : part (a :: c :: d :: cs) 2 none = some d := rfl
def andLe (lo : Nat) (al : Nat → Bool) (i : Nat) : Bool := decide (lo ≤ i) && al i
theorem o_stL {c : CS} {al : Nat → Bool} {lo id : Nat} {e : Env} {g : G} (n a x) : opE c al lo id (.stL n a x) e g = vSt (andLe lo al) n (a.ev e) (x.ev e) g := rfl
theorem andLe_ok {lo : Nat} {al : Nat → Bool} {i : Nat} (h : lo ≤ i) : andLe lo al i = al i := by simp [andLe, h]
theorem allow_hd {base k id : Nat} (l : List Nat) (h : id = base + k) : allow true base (k :: l) id = true := by subst h; simp [allow]
theorem allow_h2 {base k k' id : Nat} (l : List Nat) (h : id = base + k) : allow true base (k' :: k :: l) id = true := by subst h; simp [allow]
theorem part_3 (a b c d : AV) (l : List AV) : part (a :: b :: c :: d :: l) 3 none = some d := rfl
theorem part_4 (a b c d e : AV) (l : List AV) : part (a :: b :: c :: d :: e :: l) 4 none = some e := rfl
theorem part_5 (a b c d e f : AV) (l : List AV) : part (a :: b :: c :: d :: e :: f :: l) 5 none = some f := rfl
theorem cellsOf_ms (a b c) : cellsOf (.ms a b c) = [.ms a b c] := rfl
theorem one_ms (a b c) : one (.ms a b c) = true := rfl
theorem drop_0 (l : List AV) : l.drop 0 = l := rfl
theorem g0_nx : g0.nx = 0 := rfl
theorem g0_hp : g0.hp = fun _ => none := rfl
theorem o_bsl {c : CS} {al : Nat → Bool} {lo id : Nat} {e : Env} {g : G} (imm n z ps) : opE c al lo id (.bsl imm n z ps) e g = vBsl id imm n (fill e z ps) g := rfl
theorem vBsl_t (id n cs) (g : G) : vBsl id true n (some cs) g = vMapL (fun cs => .sl cs n .rig) g (frzL (fun _ => none) depth cs) := rfl
theorem vBsl_f (id n cs) (g : G) : vBsl id false n (some cs) g = some (.ms id 0 n, ⟨upd g.hp id (some (.cells cs false)), g.nx⟩) := rfl
theorem o_app {c : CS} {al : Nat → Bool} {lo id : Nat} {e : Env} {g : G} (esz by' x y) : opE c al lo id (.app esz by' x y) e g = vApp al id esz by' (x.ev e) (y.ev e) g := rfl
def appD (n m esz bytes lc ld : Nat) (r : Option (AV × G)) : Option (AV × G) := if (n + m) * bytes ≤ 2 ^ 46 ∧ n + m ≤ 2 ^ 62 ∧ lc = n * esz ∧ ld = m * esz then r else none
theorem appD_ok {n m esz bytes lc ld r} (h : (n + m) * bytes ≤ 2 ^ 46 ∧ n + m ≤ 2 ^ 62 ∧ lc = n * esz ∧ ld = m * esz) : appD n m esz bytes lc ld r = r := if_pos h
theorem vApp_rig {id esz bytes cs n ds m t2} (h : m ≠ 0) : vApp al id esz bytes (.sl cs n .rig) (.sl ds m t2) g = appD n m esz bytes cs.length ds.length (some (.sl (cs ++ ds) (n + m) (.own id esz), ⟨upd g.hp id (some (.tok true)), g.nx⟩)) := by
  simp only [vApp, vSrc, if_neg h]; rfl
theorem vApp_rig0 {id esz bytes cs n ds t2} : vApp al id esz bytes (.sl cs n .rig) (.sl ds 0 t2) g = appD n 0 esz bytes cs.length ds.length (some (.sl cs n .rig, g)) := by
  simp only [vApp, vSrc, if_true]; rfl
def appK (id esz tk n : Nat) (cs : List AV) (g : G) : Option Blk → Option (AV × G)
  | some (.tok true) => some (.sl cs n (.own id esz), ⟨upd (upd g.hp tk (some (.tok false))) id (some (.tok true)), g.nx⟩)
  | _ => none
theorem appK_ok (id esz tk n cs g) : appK id esz tk n cs g (some (.tok true)) = some (.sl cs n (.own id esz), ⟨upd (upd g.hp tk (some (.tok false))) id (some (.tok true)), g.nx⟩) := rfl
theorem vApp_own {id esz bytes cs n tk ds m t2} : vApp al id esz bytes (.sl cs n (.own tk esz)) (.sl ds m t2) g = appD n m esz bytes cs.length ds.length (appK id esz tk (n + m) (cs ++ ds) g (selB (al tk) (g.hp tk))) := by
  simp only [vApp, vSrc, rd_S]
  unfold appD appK
  split
  · cases selB (al tk) (g.hp tk) with
    | none => rfl
    | some b =>
      cases b with
      | tok x => cases x <;> simp
      | cells _ _ => rfl
      | map _ => rfl
  · rfl
theorem o_eqn {c : CS} {al : Nat → Bool} {lo id : Nat} {e : Env} {g : G} (neg x y) : opE c al lo id (.eqn neg x y) e g = vMap g (negb neg (aeqn (x.ev e) (y.ev e))) := rfl
theorem o_eqb {c : CS} {al : Nat → Bool} {lo id : Nat} {e : Env} {g : G} (neg x y) : opE c al lo id (.eqb neg x y) e g = vMap g (negb neg (aeqb (x.ev e) (y.ev e))) := rfl
theorem o_eqa {c : CS} {al : Nat → Bool} {lo id : Nat} {e : Env} {g : G} (neg ks x y) : opE c al lo id (.eqa neg ks x y) e g = vMap g (negb neg (aeqa ks (x.ev e) (y.ev e))) := rfl
theorem aeqn_pn (cs) : aeqn (.ptr cs) .nilp = some false := rfl
theorem aeqn_np (cs) : aeqn .nilp (.ptr cs) = some false := rfl
theorem aeqn_mn (a b) : aeqn (.mp a b) .nilp = some false := rfl
theorem aeqn_nn : aeqn .nilp .nilp = some true := rfl
theorem aeqb_bb (x y) : aeqb (.b x) (.b y) = some (x == y) := rfl
theorem negb_t (x) : negb true (some x) = some (.b (!x)) := rfl
theorem negb_f (x) : negb false (some x) = some (.b x) := rfl
theorem aun_not (x) : aun .not (.b x) = some (.b !x) := rfl
end
end Go.Ab
end
section
set_option linter.unusedVariables false
namespace Go.Ab
section
variable (F : Funs)
def W (c : ACode) (e : Env) (g : G) (Q : Out → Env → G → Prop) : Prop := ∃ o e' g', codeS F c e g = some (o, e', g') ∧ Q o e' g'
def WR (d : Bool) (b j : Nat) (ops : List AOper) (e : Env) (g : G) (K : Env → G → Prop) : Prop := ∃ e' g', regE (callS F) d b j ops e g = some (e', g') ∧ K e' g'
def thenQ (b : ACode) (Q : Out → Env → G → Prop) : Out → Env → G → Prop
  | .nrm, e, g => W F b e g Q
  | o, e, g => Q o e g
def selW (t f : ACode) (e : Env) (g : G) (Q : Out → Env → G → Prop) : AV → Prop
  | .b true => W F t e g Q
  | .b false => W F f e g Q
  | _ => False
def blkQ (id : Nat) (Q : Out → Env → G → Prop) : Out → Env → G → Prop
  | .ext n, e, g => if n = id then Q .nrm e g else Q (.ext n) e g
  | o, e, g => Q o e g
def nrmQ (Q : Out → Env → G → Prop) (e : Env) (g : G) : Prop := Q .nrm e g
def bindO (d : Bool) (b j : Nat) (dst : Option Nat) (os : List AOper) (e : Env) (K : Env → G → Prop) : Option (AV × G) → Prop
  | some (v, g) => WR F d b j os (put e dst v) g K
  | none => False
def selO (d : Bool) (b j : Nat) (dst : Option Nat) (os : List AOper) (e : Env) (op : AOp) (pre : List Nat) (g : G) (K : Env → G → Prop) (w : Bool) : Prop :=
  if w then bindO F d b (j + 1) dst os e K (opE (callS F) (allow d b pre) b (b + j) op e g) else WR F d b (j + 1) os (put e dst .undef) g K
end
section
variable {F : Funs}
theorem W_skip {e g Q} : W F .skip e g Q = Q .nrm e g := by
  unfold W; rw [codeS_skip]; apply propext
  exact ⟨fun ⟨o, e', g', h, q⟩ => by cases h; exact q, fun q => ⟨_, _, _, rfl, q⟩⟩
theorem W_ext {id e g Q} : W F (.ext id) e g Q = Q (.ext id) e g := by
  unfold W; rw [codeS_ext]; apply propext
  exact ⟨fun ⟨o, e', g', h, q⟩ => by cases h; exact q, fun q => ⟨_, _, _, rfl, q⟩⟩
theorem W_ret {e g Q} : W F .ret e g Q = Q .ret e g := by
  unfold W; rw [codeS_ret]; apply propext
  exact ⟨fun ⟨o, e', g', h, q⟩ => by cases h; exact q, fun q => ⟨_, _, _, rfl, q⟩⟩
theorem W_seq {a b e g Q} : W F (.seq a b) e g Q = W F a e g (thenQ F b Q) := by
  unfold W; rw [cS_seq]; apply propext
  constructor
  · intro ⟨o, e', g', h, q⟩
    cases hc : codeS F a e g with
    | none => rw [hc] at h; cases h
    | some r =>
      obtain ⟨o1, e1, g1⟩ := r
      rw [hc] at h
      refine ⟨o1, e1, g1, rfl, ?_⟩
      cases o1 with
      | nrm => exact ⟨o, e', g', h, q⟩
      | ext n => cases h; exact q
      | ret => cases h; exact q
  · intro ⟨o, e', g', h, q⟩
    rw [h]
    cases o with
    | nrm => exact q
    | ext n => exact ⟨_, _, _, rfl, q⟩
    | ret => exact ⟨_, _, _, rfl, q⟩
theorem thenQ_nrm {b Q e g} : thenQ F b Q .nrm e g = W F b e g Q := rfl
theorem thenQ_ext {b Q n e g} : thenQ F b Q (.ext n) e g = Q (.ext n) e g := rfl
theorem thenQ_ret {b Q e g} : thenQ F b Q .ret e g = Q .ret e g := rfl
theorem W_cond {c t f e g Q} : W F (.cond c t f) e g Q = selW F t f e g Q (c.ev e) := by
  unfold W; rw [cS_cond]; apply propext
  generalize c.ev e = v
  cases v <;> simp only [selS, selW] <;> try (constructor <;> (intro h; first | exact h.elim | (obtain ⟨_, _, _, h, _⟩ := h; cases h)))
  rename_i x
  cases x <;> simp [W]
theorem selW_true {t f e g Q} : selW F t f e g Q (.b true) = W F t e g Q := rfl
theorem selW_false {t f e g Q} : selW F t f e g Q (.b false) = W F f e g Q := rfl
theorem W_scp {c e g Q} : W F (.scp c) e g Q = W F c e g Q := by unfold W; rw [codeS_scp]
theorem W_lab {e g Q} : W F .lab e g Q = Q .nrm e g := by
  unfold W; rw [codeS_lab]; apply propext
  exact ⟨fun ⟨o, e', g', h, q⟩ => by cases h; exact q, fun q => ⟨_, _, _, rfl, q⟩⟩
theorem W_blk {id c e g Q} : W F (.blk id c) e g Q = W F c e g (blkQ id Q) := by
  unfold W; rw [cS_blk]; apply propext
  constructor
  · intro ⟨o, e', g', h, q⟩
    cases hc : codeS F c e g with
    | none => rw [hc] at h; cases h
    | some r =>
      obtain ⟨o1, e1, g1⟩ := r
      rw [hc] at h
      refine ⟨o1, e1, g1, rfl, ?_⟩
      cases o1 with
      | nrm => cases h; exact q
      | ext n =>
        cases h
        show if n = id then _ else _
        split
        · rename_i hn; rw [if_pos hn] at q; exact q
        · rename_i hn; rw [if_neg hn] at q; exact q
      | ret => cases h; exact q
  · intro ⟨o, e', g', h, q⟩
    rw [h]
    cases o with
    | nrm => exact ⟨_, _, _, rfl, q⟩
    | ext n =>
      refine ⟨_, _, _, rfl, ?_⟩
      have q : if n = id then Q .nrm e' g' else Q (.ext n) e' g' := q
      split
      · rename_i hn; rw [if_pos hn] at q; exact q
      · rename_i hn; rw [if_neg hn] at q; exact q
    | ret => exact ⟨_, _, _, rfl, q⟩
theorem blkQ_nrm {id Q e g} : blkQ id Q .nrm e g = Q .nrm e g := rfl
theorem blkQ_ret {id Q e g} : blkQ id Q .ret e g = Q .ret e g := rfl
theorem blkQ_same {id Q e g} : blkQ id Q (.ext id) e g = Q .nrm e g := if_pos rfl
theorem blkQ_ne {id n Q e g} (h : n ≠ id) : blkQ id Q (.ext n) e g = Q (.ext n) e g := if_neg h
theorem W_reg {d ops e g Q} : W F (.reg d ops) e g Q = WR F d g.nx 0 ops e ⟨g.hp, g.nx + ops.length⟩ (nrmQ Q) := by
  unfold W WR; rw [cS_reg]; apply propext
  constructor
  · intro ⟨o, e', g', h, q⟩
    cases hc : regE (callS F) d g.nx 0 ops e ⟨g.hp, g.nx + ops.length⟩ with
    | none => rw [hc] at h; cases h
    | some r =>
      rw [hc] at h
      cases h
      exact ⟨_, _, rfl, q⟩
  · intro ⟨e', g', h, q⟩
    rw [h]
    exact ⟨.nrm, e', g', rfl, q⟩
theorem nrmQ_is {Q e g} : nrmQ Q e g = Q .nrm e g := rfl
theorem WR_nil {d b j e g K} : WR F d b j [] e g K = K e g := by
  unfold WR; apply propext
  simp only [regE_nil]
  exact ⟨fun ⟨e', g', h, q⟩ => by cases h; exact q, fun q => ⟨_, _, rfl, q⟩⟩
theorem WR_cons {d b j dst op grd pre os e g K} : WR F d b j ({ dst, op, grd, pre } :: os) e g K = selO F d b j dst os e op pre g K (wanted e grd) := by
  unfold WR; rw [regE_cons]
  generalize wanted e grd = w
  cases w
  · rfl
  · rw [selR_true]
    show _ = bindO _ _ _ _ _ _ _ _ _
    cases opE (callS F) (allow d b pre) b (b + j) op e g with
    | none =>
      apply propext
      constructor
      · intro ⟨_, _, h, _⟩; cases h
      · intro h; exact False.elim h
    | some r => rfl
theorem selO_true {d b j dst os e op pre g K} : selO F d b j dst os e op pre g K true = bindO F d b (j + 1) dst os e K (opE (callS F) (allow d b pre) b (b + j) op e g) := rfl
theorem selO_false {d b j dst os e op pre g K} : selO F d b j dst os e op pre g K false = WR F d b (j + 1) os (put e dst .undef) g K := rfl
theorem bindO_some {d b j dst os e K v g} : bindO F d b j dst os e K (some (v, g)) = WR F d b j os (put e dst v) g K := rfl
theorem W_mono {c e g} {Q Q' : Out → Env → G → Prop} (h : W F c e g Q) (hq : ∀ o e g, Q o e g → Q' o e g) : W F c e g Q' := by
  obtain ⟨o, e', g', h1, h2⟩ := h; exact ⟨o, e', g', h1, hq _ _ _ h2⟩
def loopQ (I : Nat → Env → G → Prop) (m : Nat) (Q : Out → Env → G → Prop) : Out → Env → G → Prop
  | .nrm, e, g => ∃ m', m' < m ∧ I m' e g
  | o, e, g => Q o e g
theorem loopQ_nrm {I m Q e g} : loopQ I m Q .nrm e g = ∃ m', m' < m ∧ I m' e g := rfl
theorem loopQ_ext {I m Q n e g} : loopQ I m Q (.ext n) e g = Q (.ext n) e g := rfl
theorem loopQ_ret {I m Q e g} : loopQ I m Q .ret e g = Q .ret e g := rfl
theorem W_loop {c e g Q} (I : Nat → Env → G → Prop) (n : Nat) (h0 : I n e g) (h : ∀ m e g, I m e g → W F c e g (loopQ I m Q)) : W F (.loop c) e g Q := by
  have key : ∀ m e g, I m e g → W F (.loop c) e g Q := by
    intro m
    induction m using Nat.strongRecOn with
    | _ m ih =>
      intro e g hI
      obtain ⟨o, e1, g1, h1, h2⟩ := h m e g hI
      unfold W
      rw [cS_loop, h1]
      cases o with
      | nrm =>
        obtain ⟨m', hm, hI'⟩ := h2
        exact ih m' hm e1 g1 hI'
      | ext n => exact ⟨_, _, _, rfl, h2⟩
      | ret => exact ⟨_, _, _, rfl, h2⟩
  exact key n e g h0
noncomputable def pureS (F : Funs) (f : Nat) (asx : List AV) : Option AV := match callS F f asx g0 with
  | some (v, g) => frz g.hp depth v
  | none => none
noncomputable def vPure (F : Funs) (al : Nat → Bool) (f : AV) (args : List AV) (g : G) : Option (AV × G) := vCall (callS F) al 0 .pure f args g
theorem o_pure {al lo id e g} (f : Opd) (asx : List Opd) : opE (callS F) al lo id (.call .pure f asx) e g = vPure F al (f.ev e) (asx.map (·.ev e)) g := rfl
theorem vPure_ok {al : Nat → Bool} {fid : Nat} {fst caps args bs : List AV} {g : G} {v : AV} (h1 : frzL (rd g al) depth (fst ++ args ++ caps) = some bs) (h2 : pureS F fid bs = some v) (h3 : (flat v || ((fst ++ args ++ caps).flatMap (vis (rd g al) depth)).isEmpty) = true) :
    vPure F al (.fn fid fst caps) args g = some (v, g) := by
  unfold pureS at h2
  split at h2
  · rename_i v0 g' hc
    have hc' : callS F fid bs ⟨fun _ => none, 0⟩ = some (v0, g') := hc
    unfold vPure vCall
    simp only [h1, hc', h2, h3, if_true]
  · cases h2
def retQ (rs : List ARes) (v : AV) : Out → Env → G → Prop
  | .ext _, _, _ => False
  | _, e, g => (match resE rs e g with | some v0 => frz g.hp depth v0 | none => none) = some v
theorem retQ_nrm {rs v e g} : retQ rs v .nrm e g = ((match resE rs e g with | some v0 => frz g.hp depth v0 | none => none) = some v) := rfl
theorem retQ_ret {rs v e g} : retQ rs v .ret e g = ((match resE rs e g with | some v0 => frz g.hp depth v0 | none => none) = some v) := rfl
theorem pure_of {f : Nat} {fn : AFun} {asx : List AV} {v : AV} (hF : F f = some fn) (h : W F fn.body (argEnv asx) g0 (retQ fn.res v)) : pureS F f asx = some v := by
  obtain ⟨o, e, g, h1, h2⟩ := h
  unfold pureS
  rw [callS_eq, hF]
  simp only [h1]
  cases o with
  | ext n => exact h2.elim
  | nrm =>
    have h2 : (match resE fn.res e g with | some v0 => frz g.hp depth v0 | none => none) = some v := h2
    cases hr : resE fn.res e g with
    | none => rw [hr] at h2; cases h2
    | some v0 => rw [hr] at h2; simp only [hr, Option.map_some]; exact h2
  | ret =>
    have h2 : (match resE fn.res e g with | some v0 => frz g.hp depth v0 | none => none) = some v := h2
    cases hr : resE fn.res e g with
    | none => rw [hr] at h2; cases h2
    | some v0 => rw [hr] at h2; simp only [hr, Option.map_some]; exact h2
end
theorem argEnv_0 (a l) : argEnv (a :: l) 0 = a := rfl
theorem argEnv_1 (a b l) : argEnv (a :: b :: l) 1 = b := rfl
theorem argEnv_2 (a b c l) : argEnv (a :: b :: c :: l) 2 = c := rfl
theorem argEnv_3 (a b c d l) : argEnv (a :: b :: c :: d :: l) 3 = d := rfl
theorem argEnv_4 (a b c d e l) : argEnv (a :: b :: c :: d :: e :: l) 4 = e := rfl
theorem argEnv_5 (a b c d e f l) : argEnv (a :: b :: c :: d :: e :: f :: l) 5 = f := rfl
theorem res_1 (n e g) : resE [.t n] e g = some (e n) := rfl
theorem res_2 (n m e g) : resE [.t n, .t m] e g = some (.tup [e n, e m]) := rfl
theorem frz_flat {hp} {d : Nat} {v : AV} (h : flat v = true) : frz hp (d + 1) v = some v := by cases v <;> first | (cases h; done) | simp only [frz]
theorem frzL_flat {hp} {d : Nat} : ∀ {cs : List AV}, cs.all flat = true → frzL hp (d + 1) cs = some cs
  | [], _ => by simp only [frzL]
  | c :: cs, h => by
    simp only [List.all_cons, Bool.and_eq_true] at h
    simp only [frzL, frz_flat h.1, frzL_flat h.2]
theorem frzL_nil (hp d) : frzL hp d [] = some [] := by simp only [frzL]
def consO (c : Option AV) (cs : Option (List AV)) : Option (List AV) := match c, cs with
  | some c, some cs => some (c :: cs)
  | _, _ => none
theorem consO_ok (c cs) : consO (some c) (some cs) = some (c :: cs) := rfl
theorem frzL_cons (hp d c cs) : frzL hp d (c :: cs) = consO (frz hp d c) (frzL hp d cs) := by
  simp only [frzL]
  cases frz hp d c <;> cases frzL hp d cs <;> rfl
theorem frz_d_i (hp k n) : frz hp depth (.i k n) = some (.i k n) := by show frz hp (8 + 1) _ = _; simp only [frz]
theorem frz_d_b (hp x) : frz hp depth (.b x) = some (.b x) := by show frz hp (8 + 1) _ = _; simp only [frz]
theorem frz_d_s (hp x) : frz hp depth (.s x) = some (.s x) := by show frz hp (8 + 1) _ = _; simp only [frz]
theorem frz_d_nilp (hp) : frz hp depth .nilp = some .nilp := by show frz hp (8 + 1) _ = _; simp only [frz]
theorem frz_d_ptr (hp cs) : frz hp depth (.ptr cs) = some (.ptr cs) := by show frz hp (8 + 1) _ = _; simp only [frz]
theorem frz_d_sl (hp cs n t) : frz hp depth (.sl cs n t) = some (.sl cs n .non) := by show frz hp (8 + 1) _ = _; simp only [frz]
theorem frz_d_fn0 (hp f) : frz hp depth (.fn f [] []) = some (.fn f [] []) := by show frz hp (8 + 1) _ = _; simp only [frz, frzL]
noncomputable def frzB (hp : Nat → Option Blk) (off : Nat) (cs : List AV) (x : Bool) : Option (List AV) := if x then some (cs.drop off) else frzL hp 8 (cs.drop off)
noncomputable def frzP (hp : Nat → Option Blk) (off : Nat) (f : List AV → AV) : Option Blk → Option AV
  | some (.cells cs _) => (frzB hp off cs (cs.all flat)).map f
  | _ => none
theorem frzB_eq (hp : Nat → Option Blk) (off : Nat) (cs : List AV) : frzB hp off cs (cs.all flat) = frzL hp 8 (cs.drop off) := by
  unfold frzB
  split
  · rename_i hf
    refine (frzL_flat ?_).symm
    rw [List.all_eq_true] at hf ⊢
    exact fun x hx => hf x (List.mem_of_mem_drop hx)
  · rfl
theorem frz_P (hp : Nat → Option Blk) (id off : Nat) : frz hp depth (.mp id off) = frzP hp off .ptr (hp id) := by
  show frz hp (8 + 1) _ = _
  simp only [frz]
  unfold frzP
  simp only [frzB_eq]
  cases hp id with
  | none => rfl
  | some b => cases b <;> rfl
theorem frz_Q (hp : Nat → Option Blk) (id off n : Nat) : frz hp depth (.ms id off n) = frzP hp off (fun cs => .sl cs n .non) (hp id) := by
  show frz hp (8 + 1) _ = _
  simp only [frz]
  unfold frzP
  simp only [frzB_eq]
  cases hp id with
  | none => rfl
  | some b => cases b <;> rfl
theorem frzP_cells (hp off f cs ro) : frzP hp off f (some (.cells cs ro)) = (frzB hp off cs (cs.all flat)).map f := rfl
theorem frzB_true (hp off cs) : frzB hp off cs true = some (cs.drop off) := rfl
theorem map_some' (f : List AV → AV) (cs : List AV) : (some cs).map f = some (f cs) := rfl
noncomputable def purD (g : G) (vs : List Nat) : Option AV → Option (AV × G)
  | some v => if flat v || vs.isEmpty then some (v, g) else none
  | none => none
def purE (g : G) (v : AV) (x : Bool) : Option (AV × G) := if x then some (v, g) else none
theorem purD_some (g vs v) : purD g vs (some v) = purE g v (flat v || vs.isEmpty) := rfl
theorem purE_true (g v) : purE g v true = some (v, g) := rfl
noncomputable def purS (F : Funs) (f : Nat) (g : G) (vs : List Nat) : Option (List AV) → Option (AV × G)
  | some bs => purD g vs (pureS F f bs)
  | none => none
theorem purS_some (F f g vs bs) : purS F f g vs (some bs) = purD g vs (pureS F f bs) := rfl
theorem vPure_S (F : Funs) (al : Nat → Bool) (fid : Nat) (fst args caps : List AV) (g : G) :
    vPure F al (.fn fid fst caps) args g = purS F fid g ((fst ++ args ++ caps).flatMap (vis (rd g al) depth)) (frzL (rd g al) depth (fst ++ args ++ caps)) := by
  unfold vPure vCall
  simp only
  cases frzL (rd g al) depth (fst ++ args ++ caps) with
  | none => rfl
  | some bs =>
    rw [purS_some]
    unfold pureS g0
    simp only
    cases callS F fid bs ⟨fun _ => none, 0⟩ with
    | none => rfl
    | some r =>
      obtain ⟨v, g'⟩ := r
      simp only
      cases frz g'.hp depth v with
      | none => rfl
      | some v' => rfl
theorem flat_i (k n) : flat (.i k n) = true := rfl
theorem flat_b (x) : flat (.b x) = true := rfl
theorem flat_s (x) : flat (.s x) = true := rfl
theorem flat_nilp : flat .nilp = true := rfl
theorem flat_ptr (x) : flat (.ptr x) = false := rfl
theorem flat_sl (a b c) : flat (.sl a b c) = false := rfl
theorem flat_agg (a) : flat (.agg a) = false := rfl
theorem flat_tup (a) : flat (.tup a) = false := rfl
theorem vis_i (hp k n) : vis hp depth (.i k n) = [] := by show vis hp (8 + 1) _ = _; simp only [vis]
theorem vis_b (hp x) : vis hp depth (.b x) = [] := by show vis hp (8 + 1) _ = _; simp only [vis]
theorem vis_s (hp x) : vis hp depth (.s x) = [] := by show vis hp (8 + 1) _ = _; simp only [vis]
theorem vis_nilp (hp) : vis hp depth .nilp = [] := by show vis hp (8 + 1) _ = _; simp only [vis]
theorem vis_ptr (hp x) : vis hp depth (.ptr x) = [] := by show vis hp (8 + 1) _ = _; simp only [vis]
theorem vis_sl (hp a b c) : vis hp depth (.sl a b c) = [] := by show vis hp (8 + 1) _ = _; simp only [vis]
theorem vis_fn0 (hp f) : vis hp depth (.fn f [] []) = [] := by show vis hp (8 + 1) _ = _; simp only [vis, List.flatMap_nil, List.append_nil]
theorem isEmpty_nil : ([] : List Nat).isEmpty = true := rfl
def midQ (M : Env → G → Prop) : Out → Env → G → Prop
  | .nrm, e, g => M e g
  | _, _, _ => False
theorem midQ_nrm {M e g} : midQ M .nrm e g = M e g := rfl
theorem midQ_then {F : Funs} {rest Q} {M : Env → G → Prop} (h2 : ∀ e g, M e g → W F rest e g Q) (o e g) (h : midQ M o e g) : thenQ F rest Q o e g := by
  cases o with
  | nrm => exact h2 e g h
  | ext n => exact h.elim
  | ret => exact h.elim
theorem W_cut {F : Funs} {c rest e g Q} (M : Env → G → Prop) (h1 : W F c e g (midQ M)) (h2 : ∀ e g, M e g → W F rest e g Q) : W F c e g (thenQ F rest Q) := W_mono h1 (midQ_then h2)
theorem sel_cut {F : Funs} {t f rest e g Q v} (M : Env → G → Prop) (h1 : selW F t f e g (midQ M) v) (h2 : ∀ e g, M e g → W F rest e g Q) : selW F t f e g (thenQ F rest Q) v := by
  cases v <;> simp only [selW] at h1 ⊢
  rename_i x
  cases x <;> exact W_mono h1 (midQ_then h2)
theorem frz_b_inv {hp : Nat → Option Blk} {k : Nat} {v : AV} {b : Bool} (h : frz hp (k + 1) v = some (.b b)) : v = .b b := by
  cases v with
  | b x => simp only [frz] at h; cases h; rfl
  | agg cs => simp only [frz] at h; cases hf : frzL hp k cs <;> rw [hf] at h <;> cases h
  | tup cs => simp only [frz] at h; cases hf : frzL hp k cs <;> rw [hf] at h <;> cases h
  | mp id off =>
    simp only [frz] at h
    split at h
    · cases hf : frzL hp k (List.drop off _) <;> rw [hf] at h <;> cases h
    · cases h
  | ms id off n =>
    simp only [frz] at h
    split at h
    · cases hf : frzL hp k (List.drop off _) <;> rw [hf] at h <;> cases h
    · cases h
  | fn f asx bs => simp only [frz] at h; split at h <;> cases h
  | ifc t w => simp only [frz] at h; cases hf : frz hp k w <;> rw [hf] at h <;> cases h
  | _ => simp only [frz] at h; cases h
theorem pureS_bool {F : Funs} {f : Nat} {asx : List AV} {b : Bool} (h : pureS F f asx = some (.b b)) : ∃ k g', callE F k f asx g0 = some (.b b, g') := by
  unfold pureS at h
  split at h
  · rename_i v g hc
    have := frz_b_inv (k := 8) h
    subst this
    obtain ⟨k, hk⟩ := (callS_some F).1 hc
    exact ⟨k, g, hk⟩
  · cases h
def retB (rs : List ARes) (P : Bool → Prop) : Out → Env → G → Prop
  | .ext _, _, _ => False
  | _, e, g => ∃ b, resE rs e g = some (.b b) ∧ P b
theorem retB_nrm {rs P e g} : retB rs P .nrm e g = (∃ b, resE rs e g = some (.b b) ∧ P b) := rfl
theorem retB_ret {rs P e g} : retB rs P .ret e g = (∃ b, resE rs e g = some (.b b) ∧ P b) := rfl
theorem blk_cut {F : Funs} {c rest : ACode} {id : Nat} {e : Env} {g : G} {Q : Out → Env → G → Prop} (M : Env → G → Prop) (h1 : W F c e g (blkQ id (midQ M))) (h2 : ∀ e g, M e g → W F rest e g Q) : W F c e g (blkQ id (thenQ F rest Q)) := by
  refine W_mono h1 fun o e g h => ?_
  cases o with
  | nrm => exact h2 e g h
  | ret => exact h.elim
  | ext n =>
    have h : if n = id then midQ M .nrm e g else midQ M (.ext n) e g := h
    show if n = id then thenQ F rest Q .nrm e g else thenQ F rest Q (.ext n) e g
    by_cases hn : n = id
    · rw [if_pos hn] at h ⊢; exact h2 e g h
    · rw [if_neg hn] at h; exact h.elim
def midR (Q : Out → Env → G → Prop) (M : Env → G → Prop) : Out → Env → G → Prop
  | .nrm, e, g => M e g
  | .ret, e, g => Q .ret e g
  | .ext _, _, _ => False
theorem midR_nrm {Q M e g} : midR Q M .nrm e g = M e g := rfl
theorem midR_ret {Q M e g} : midR Q M .ret e g = Q .ret e g := rfl
theorem blk_cutR {F : Funs} {c rest : ACode} {id : Nat} {e : Env} {g : G} {Q : Out → Env → G → Prop} (M : Env → G → Prop) (h1 : W F c e g (blkQ id (midR Q M))) (h2 : ∀ e g, M e g → W F rest e g Q) : W F c e g (blkQ id (thenQ F rest Q)) := by
  refine W_mono h1 fun o e g h => ?_
  cases o with
  | nrm => exact h2 e g h
  | ret => exact h
  | ext n =>
    have h : if n = id then midR Q M .nrm e g else midR Q M (.ext n) e g := h
    show if n = id then thenQ F rest Q .nrm e g else thenQ F rest Q (.ext n) e g
    by_cases hn : n = id
    · rw [if_pos hn] at h ⊢; exact h2 e g h
    · rw [if_neg hn] at h; exact h.elim
set_option maxRecDepth 10000 in
theorem wp : type_of% (And.intro (And.intro (And.intro (And.intro (And.intro (And.intro (And.intro @W_skip (And.intro @W_ext @W_ret)) (And.intro (And.intro @W_seq @thenQ_nrm) (And.intro @thenQ_ext @thenQ_ret))) (And.intro (And.intro (And.intro @W_cond @selW_true) (And.intro @selW_false @W_blk)) (And.intro (And.intro @blkQ_nrm @blkQ_ret) (And.intro @blkQ_same @blkQ_ne)))) (And.intro (And.intro (And.intro @W_reg (And.intro @nrmQ_is @WR_nil)) (And.intro (And.intro @WR_cons @selO_true) (And.intro @selO_false @bindO_some))) (And.intro (And.intro (And.intro @loopQ_nrm @loopQ_ext) (And.intro @loopQ_ret @wanted_none)) (And.intro (And.intro @wanted_some @wantV_1) (And.intro @wantV_0 @wantV_undef))))) (And.intro (And.intro (And.intro (And.intro @ev_t (And.intro @ev_c @put_some)) (And.intro (And.intro @put_none @upd_same) (And.intro @upd_ne @List.length_cons.{0}))) (And.intro (And.intro (And.intro @List.length_nil.{0} @List.map_cons.{0, 0}) (And.intro @List.map_nil.{0, 0} @allow_no)) (And.intro (And.intro @allow_lt @argEnv_0) (And.intro @argEnv_1 @argEnv_2)))) (And.intro (And.intro (And.intro (And.intro @argEnv_3 @argEnv_4) (And.intro @argEnv_5 @res_1)) (And.intro (And.intro @res_2 @retQ_nrm) (And.intro @retQ_ret @o_mv))) (And.intro (And.intro (And.intro @o_pick @vPick_t) (And.intro @vPick_f @o_new)) (And.intro (And.intro @o_box @vBox_S) (And.intro @boxD_ok @vMap_some)))))) (And.intro (And.intro (And.intro (And.intro (And.intro @vMapL_some (And.intro @o_build @o_ld)) (And.intro (And.intro @vLd_ptr @vLd_S) (And.intro @ldS_ok @selB_true))) (And.intro (And.intro (And.intro @o_st @vSt_S) (And.intro @stS_ok @stD_ok)) (And.intro (And.intro @o_nilck @vNil_ptr) (And.intro @vNil_mp @vNil_fn)))) (And.intro (And.intro (And.intro (And.intro @o_bin @o_un) (And.intro @o_mkfn @o_fa)) (And.intro (And.intro @vFa_mp @vFa_S) (And.intro @faD_ok @o_fld))) (And.intro (And.intro (And.intro @vFld_agg @o_ia) (And.intro @vIa_sl @vIa_ms)) (And.intro (And.intro @o_iaa @vIaa_ptr) (And.intro @vIaa_mp @o_len))))) (And.intro (And.intro (And.intro (And.intro @vLen_sl (And.intro @vLen_ms @o_mx)) (And.intro (And.intro @o_mn @vMx_i) (And.intro @vMn_i @o_ext))) (And.intro (And.intro (And.intro @vExt_tup @b_add) (And.intro @b_sub @b_mul)) (And.intro (And.intro @b_lss @b_leq) (And.intro @b_gtr @b_geq)))) (And.intro (And.intro (And.intro (And.intro @b_eql @b_neq) (And.intro @o_pure @List.nil_append.{0})) (And.intro (And.intro @List.append_nil.{0} @List.cons_append.{0}) (And.intro @frz_d_i @frz_d_b))) (And.intro (And.intro (And.intro @frz_d_s @frz_d_nilp) (And.intro @frz_d_ptr @frz_d_sl)) (And.intro (And.intro @frz_d_fn0 @Bool.not_true) (And.intro @Bool.not_false @Bool.true_and))))))) (And.intro (And.intro (And.intro (And.intro (And.intro (And.intro @Bool.and_true (And.intro @Bool.false_and @Bool.and_false)) (And.intro (And.intro @decide_true @decide_false) (And.intro @beq_self_eq_true.{0} @Bool.true_eq_false))) (And.intro (And.intro (And.intro @Bool.false_eq_true @Nat.zero_add) (And.intro @Nat.add_zero @Int.toNat_natCast)) (And.intro (And.intro @ge_iff_le.{0} @gt_iff_lt.{0}) (And.intro @fill_S @fillD_ok)))) (And.intro (And.intro (And.intro (And.intro @fill_nil @cellsOf_agg) (And.intro @cellsOf_i @cellsOf_b)) (And.intro (And.intro @cellsOf_s @cellsOf_ptr) (And.intro @cellsOf_nilp @cellsOf_sl))) (And.intro (And.intro (And.intro @cellsOf_mp @cellsOf_fn) (And.intro @one_i @one_b)) (And.intro (And.intro @one_s @one_ptr) (And.intro @one_nilp @one_sl))))) (And.intro (And.intro (And.intro (And.intro @one_mp (And.intro @one_fn @List.all_cons.{0})) (And.intro (And.intro @List.all_nil.{0} @splice_1) (And.intro @splice_2 @splice_3))) (And.intro (And.intro (And.intro @part_0 @part_1) (And.intro @part_2 @drop_0)) (And.intro (And.intro @g0_nx @g0_hp) (And.intro @List.set_cons_zero.{0} @List.set_cons_succ.{0})))) (And.intro (And.intro (And.intro (And.intro @List.length_append.{0} @List.length_replicate.{0}) (And.intro @eq_self.{1} @true_and)) (And.intro (And.intro @and_true @vPure_S) (And.intro @purS_some @purD_some))) (And.intro (And.intro (And.intro @purE_true @frzL_cons) (And.intro @frzL_nil @consO_ok)) (And.intro (And.intro @flat_i @flat_b) (And.intro @flat_s @flat_nilp)))))) (And.intro (And.intro (And.intro (And.intro (And.intro @flat_ptr (And.intro @flat_sl @flat_agg)) (And.intro (And.intro @flat_tup @vis_i) (And.intro @vis_b @vis_s))) (And.intro (And.intro (And.intro @vis_nilp @vis_ptr) (And.intro @vis_sl @vis_fn0)) (And.intro (And.intro @List.flatMap_cons.{0, 0} @List.flatMap_nil.{0, 0}) (And.intro @isEmpty_nil @Bool.true_or)))) (And.intro (And.intro (And.intro (And.intro @Bool.false_or @Bool.or_true) (And.intro @Bool.or_false @frz_P)) (And.intro (And.intro @frz_Q @frzP_cells) (And.intro @frzB_true @map_some'))) (And.intro (And.intro (And.intro @rd_S @o_bsl) (And.intro @vBsl_t @vBsl_f)) (And.intro (And.intro @o_app @appD_ok) (And.intro @vApp_rig @vApp_rig0))))) (And.intro (And.intro (And.intro (And.intro @appK_ok (And.intro @vApp_own @o_eqn)) (And.intro (And.intro @o_eqb @o_eqa) (And.intro @aeqn_pn @aeqn_np))) (And.intro (And.intro (And.intro @aeqn_mn @aeqn_nn) (And.intro @aeqb_bb @negb_t)) (And.intro (And.intro @negb_f @aun_not) (And.intro @midQ_nrm @part_3)))) (And.intro (And.intro (And.intro (And.intro @part_4 @part_5) (And.intro @cellsOf_ms @one_ms)) (And.intro (And.intro @Int.toNat_zero @Nat.zero_mul) (And.intro @o_stL @andLe_ok))) (And.intro (And.intro (And.intro @allow_hd @allow_h2) (And.intro @retB_nrm @retB_ret)) (And.intro (And.intro @midR_nrm @midR_ret) (And.intro @W_scp @W_lab)))))))) := (And.intro (And.intro (And.intro (And.intro (And.intro (And.intro (And.intro @W_skip (And.intro @W_ext @W_ret)) (And.intro (And.intro @W_seq @thenQ_nrm) (And.intro @thenQ_ext @thenQ_ret))) (And.intro (And.intro (And.intro @W_cond @selW_true) (And.intro @selW_false @W_blk)) (And.intro (And.intro @blkQ_nrm @blkQ_ret) (And.intro @blkQ_same @blkQ_ne)))) (And.intro (And.intro (And.intro @W_reg (And.intro @nrmQ_is @WR_nil)) (And.intro (And.intro @WR_cons @selO_true) (And.intro @selO_false @bindO_some))) (And.intro (And.intro (And.intro @loopQ_nrm @loopQ_ext) (And.intro @loopQ_ret @wanted_none)) (And.intro (And.intro @wanted_some @wantV_1) (And.intro @wantV_0 @wantV_undef))))) (And.intro (And.intro (And.intro (And.intro @ev_t (And.intro @ev_c @put_some)) (And.intro (And.intro @put_none @upd_same) (And.intro @upd_ne @List.length_cons.{0}))) (And.intro (And.intro (And.intro @List.length_nil.{0} @List.map_cons.{0, 0}) (And.intro @List.map_nil.{0, 0} @allow_no)) (And.intro (And.intro @allow_lt @argEnv_0) (And.intro @argEnv_1 @argEnv_2)))) (And.intro (And.intro (And.intro (And.intro @argEnv_3 @argEnv_4) (And.intro @argEnv_5 @res_1)) (And.intro (And.intro @res_2 @retQ_nrm) (And.intro @retQ_ret @o_mv))) (And.intro (And.intro (And.intro @o_pick @vPick_t) (And.intro @vPick_f @o_new)) (And.intro (And.intro @o_box @vBox_S) (And.intro @boxD_ok @vMap_some)))))) (And.intro (And.intro (And.intro (And.intro (And.intro @vMapL_some (And.intro @o_build @o_ld)) (And.intro (And.intro @vLd_ptr @vLd_S) (And.intro @ldS_ok @selB_true))) (And.intro (And.intro (And.intro @o_st @vSt_S) (And.intro @stS_ok @stD_ok)) (And.intro (And.intro @o_nilck @vNil_ptr) (And.intro @vNil_mp @vNil_fn)))) (And.intro (And.intro (And.intro (And.intro @o_bin @o_un) (And.intro @o_mkfn @o_fa)) (And.intro (And.intro @vFa_mp @vFa_S) (And.intro @faD_ok @o_fld))) (And.intro (And.intro (And.intro @vFld_agg @o_ia) (And.intro @vIa_sl @vIa_ms)) (And.intro (And.intro @o_iaa @vIaa_ptr) (And.intro @vIaa_mp @o_len))))) (And.intro (And.intro (And.intro (And.intro @vLen_sl (And.intro @vLen_ms @o_mx)) (And.intro (And.intro @o_mn @vMx_i) (And.intro @vMn_i @o_ext))) (And.intro (And.intro (And.intro @vExt_tup @b_add) (And.intro @b_sub @b_mul)) (And.intro (And.intro @b_lss @b_leq) (And.intro @b_gtr @b_geq)))) (And.intro (And.intro (And.intro (And.intro @b_eql @b_neq) (And.intro @o_pure @List.nil_append.{0})) (And.intro (And.intro @List.append_nil.{0} @List.cons_append.{0}) (And.intro @frz_d_i @frz_d_b))) (And.intro (And.intro (And.intro @frz_d_s @frz_d_nilp) (And.intro @frz_d_ptr @frz_d_sl)) (And.intro (And.intro @frz_d_fn0 @Bool.not_true) (And.intro @Bool.not_false @Bool.true_and))))))) (And.intro (And.intro (And.intro (And.intro (And.intro (And.intro @Bool.and_true (And.intro @Bool.false_and @Bool.and_false)) (And.intro (And.intro @decide_true @decide_false) (And.intro @beq_self_eq_true.{0} @Bool.true_eq_false))) (And.intro (And.intro (And.intro @Bool.false_eq_true @Nat.zero_add) (And.intro @Nat.add_zero @Int.toNat_natCast)) (And.intro (And.intro @ge_iff_le.{0} @gt_iff_lt.{0}) (And.intro @fill_S @fillD_ok)))) (And.intro (And.intro (And.intro (And.intro @fill_nil @cellsOf_agg) (And.intro @cellsOf_i @cellsOf_b)) (And.intro (And.intro @cellsOf_s @cellsOf_ptr) (And.intro @cellsOf_nilp @cellsOf_sl))) (And.intro (And.intro (And.intro @cellsOf_mp @cellsOf_fn) (And.intro @one_i @one_b)) (And.intro (And.intro @one_s @one_ptr) (And.intro @one_nilp @one_sl))))) (And.intro (And.intro (And.intro (And.intro @one_mp (And.intro @one_fn @List.all_cons.{0})) (And.intro (And.intro @List.all_nil.{0} @splice_1) (And.intro @splice_2 @splice_3))) (And.intro (And.intro (And.intro @part_0 @part_1) (And.intro @part_2 @drop_0)) (And.intro (And.intro @g0_nx @g0_hp) (And.intro @List.set_cons_zero.{0} @List.set_cons_succ.{0})))) (And.intro (And.intro (And.intro (And.intro @List.length_append.{0} @List.length_replicate.{0}) (And.intro @eq_self.{1} @true_and)) (And.intro (And.intro @and_true @vPure_S) (And.intro @purS_some @purD_some))) (And.intro (And.intro (And.intro @purE_true @frzL_cons) (And.intro @frzL_nil @consO_ok)) (And.intro (And.intro @flat_i @flat_b) (And.intro @flat_s @flat_nilp)))))) (And.intro (And.intro (And.intro (And.intro (And.intro @flat_ptr (And.intro @flat_sl @flat_agg)) (And.intro (And.intro @flat_tup @vis_i) (And.intro @vis_b @vis_s))) (And.intro (And.intro (And.intro @vis_nilp @vis_ptr) (And.intro @vis_sl @vis_fn0)) (And.intro (And.intro @List.flatMap_cons.{0, 0} @List.flatMap_nil.{0, 0}) (And.intro @isEmpty_nil @Bool.true_or)))) (And.intro (And.intro (And.intro (And.intro @Bool.false_or @Bool.or_true) (And.intro @Bool.or_false @frz_P)) (And.intro (And.intro @frz_Q @frzP_cells) (And.intro @frzB_true @map_some'))) (And.intro (And.intro (And.intro @rd_S @o_bsl) (And.intro @vBsl_t @vBsl_f)) (And.intro (And.intro @o_app @appD_ok) (And.intro @vApp_rig @vApp_rig0))))) (And.intro (And.intro (And.intro (And.intro @appK_ok (And.intro @vApp_own @o_eqn)) (And.intro (And.intro @o_eqb @o_eqa) (And.intro @aeqn_pn @aeqn_np))) (And.intro (And.intro (And.intro @aeqn_mn @aeqn_nn) (And.intro @aeqb_bb @negb_t)) (And.intro (And.intro @negb_f @aun_not) (And.intro @midQ_nrm @part_3)))) (And.intro (And.intro (And.intro (And.intro @part_4 @part_5) (And.intro @cellsOf_ms @one_ms)) (And.intro (And.intro @Int.toNat_zero @Nat.zero_mul) (And.intro @o_stL @andLe_ok))) (And.intro (And.intro (And.intro @allow_hd @allow_h2) (And.intro @retB_nrm @retB_ret)) (And.intro (And.intro @midR_nrm @midR_ret) (And.intro @W_scp @W_lab))))))))
end Go.Ab
end
section
set_option linter.unusedVariables false
set_option linter.unusedSimpArgs false
namespace Go.Ab
noncomputable def vRaw (F : Funs) (al : Nat → Bool) (id : Nat) (f : AV) (args : List AV) (g : G) : Option (AV × G) := vCall (callS F) al id .raw f args g
theorem o_raw {F : Funs} {al lo id e g} (f : Opd) (asx : List Opd) : opE (callS F) al lo id (.call .raw f asx) e g = vRaw F al id (f.ev e) (asx.map (·.ev e)) g := rfl
theorem vRaw_fn {F : Funs} {al id fid fst caps args g} : vRaw F al id (.fn fid fst caps) args g = callS F fid (fst ++ args ++ caps) g := rfl
def retP (rs : List ARes) (P : AV → G → Prop) : Out → Env → G → Prop
  | .ext _, _, _ => False
  | _, e, g => ∃ v, resE rs e g = some v ∧ P v g
theorem retP_nrm {rs P e g} : retP rs P .nrm e g = (∃ v, resE rs e g = some v ∧ P v g) := rfl
theorem retP_ret {rs P e g} : retP rs P .ret e g = (∃ v, resE rs e g = some v ∧ P v g) := rfl
theorem res_0 (e g) : resE [] e g = some (.tup []) := rfl
def mgS (k : ByteArray) (g : G) : Option Blk → Option (AV × G)
  | some (.map es) => vMap g (mlook es k)
  | _ => none
theorem o_mget {c : CS} {al : Nat → Bool} {lo id : Nat} {e : Env} {g : G} (m k) : opE c al lo id (.mget m k) e g = vMget al (m.ev e) (k.ev e) g := rfl
theorem vMget_S {al : Nat → Bool} {g : G} (b k) : vMget al (.mm b) (.s k) g = mgS k g (selB (al b) (g.hp b)) := by
  simp only [vMget, rd_S]
  cases selB (al b) (g.hp b) with
  | none => rfl
  | some bl => cases bl <;> rfl
theorem mgS_map (k g es) : mgS k g (some (.map es)) = vMap g (mlook es k) := rfl
theorem o_mkmap {c : CS} {al : Nat → Bool} {lo id : Nat} {e : Env} {g : G} : opE c al lo id .mkmap e g = some (.mm id, ⟨upd g.hp id (some (.map [])), g.nx⟩) := rfl
theorem o_mput {c : CS} {al : Nat → Bool} {lo id : Nat} {e : Env} {g : G} (m k v) : opE c al lo id (.mput m k v) e g = vMput al (m.ev e) (k.ev e) (v.ev e) g := rfl
def mpO (b : Nat) (k : ByteArray) (v : AV) (es : List (AV × AV)) (g : G) (x : Bool) : Option AV → Option (AV × G)
  | none => if x then some (.undef, ⟨upd g.hp b (some (.map (es ++ [(.s k, v)]))), g.nx⟩) else none
  | some _ => none
def mpS (b : Nat) (k : ByteArray) (v : AV) (g : G) (x : Bool) : Option Blk → Option (AV × G)
  | some (.map es) => mpO b k v es g x (mlook es k)
  | _ => none
theorem vMput_S {al : Nat → Bool} {g : G} (b k v) : vMput al (.mm b) (.s k) v g = mpS b k v g (one v) (selB (al b) (g.hp b)) := by
  simp only [vMput, rd_S]
  cases selB (al b) (g.hp b) with
  | none => rfl
  | some bl =>
    cases bl with
    | map es => simp only [mpS]; cases mlook es k <;> rfl
    | cells _ _ => rfl
    | tok _ => rfl
theorem mpS_map (b k v g x es) : mpS b k v g x (some (.map es)) = mpO b k v es g x (mlook es k) := rfl
theorem mpO_none (b k v es g) : mpO b k v es g true none = some (.undef, ⟨upd g.hp b (some (.map (es ++ [(.s k, v)]))), g.nx⟩) := rfl
theorem frz_d_agg {hp cs ds} (h : frzL hp 8 cs = some ds) : frz hp depth (.agg cs) = some (.agg ds) := by
  show frz hp (8 + 1) _ = _
  simp only [frz, h, Option.map_some]
end Go.Ab
end
section
set_option linter.unusedVariables false
set_option linter.unusedSimpArgs false
namespace Go.Ab
inductive ET where
  | leaf
  | node (v : Option AV) (l r : ET)
noncomputable def ET.get (t : ET) : Nat → Option AV :=
  ET.rec (motive := fun _ => Nat → Option AV) (fun _ => none) (fun v _ _ gl gr n => Nat.rec (motive := fun _ => Option AV) v (fun m _ => Bool.rec (motive := fun _ => Option AV) (gr (Nat.div m 2)) (gl (Nat.div m 2)) (Nat.beq (Nat.mod m 2) 0)) n) t
theorem ET.get_succ (v l r) (m : Nat) : (ET.node v l r).get (m + 1) = if m % 2 = 0 then l.get (m / 2) else r.get (m / 2) := by
  show Bool.rec (motive := fun _ => Option AV) (r.get (m / 2)) (l.get (m / 2)) (Nat.beq (m % 2) 0) = _
  cases h : Nat.beq (m % 2) 0 with
  | true => rw [if_pos (Nat.eq_of_beq_eq_true h)]
  | false => rw [if_neg (Nat.ne_of_beq_eq_false h)]
section
variable {α : Type}
noncomputable def ET.putK (v : AV) (fuel : Nat) : ET → Nat → (ET → α) → α :=
  Nat.rec (motive := fun _ => ET → Nat → (ET → α) → α) (fun t _ k => k t)
    (fun _ ih t n k => ET.rec (motive := fun _ => α)
      (Nat.rec (motive := fun _ => α) (k (.node (some v) .leaf .leaf)) (fun m _ => Bool.rec (motive := fun _ => α) (ih .leaf (Nat.div m 2) fun r' => k (.node none .leaf r')) (ih .leaf (Nat.div m 2) fun l' => k (.node none l' .leaf)) (Nat.beq (Nat.mod m 2) 0)) n)
      (fun w l r _ _ => Nat.rec (motive := fun _ => α) (k (.node (some v) l r)) (fun m _ => Bool.rec (motive := fun _ => α) (ih r (Nat.div m 2) fun r' => k (.node w l r')) (ih l (Nat.div m 2) fun l' => k (.node w l' r)) (Nat.beq (Nat.mod m 2) 0)) n) t) fuel
theorem ET.putK_ok (v : AV) : ∀ (fuel : Nat) (t : ET) (n : Nat) (k : ET → α), n < fuel → ∃ t', ET.putK v fuel t n k = k t' ∧ ∀ j, t'.get j = if j = n then some v else t.get j
  | 0, _, _, _, h => absurd h (Nat.not_lt_zero _)
  | f + 1, t, 0, k, _ => by
    cases t with
    | leaf =>
      refine ⟨.node (some v) .leaf .leaf, rfl, fun j => ?_⟩
      cases j with
      | zero => rfl
      | succ j => rw [ET.get_succ, if_neg (Nat.succ_ne_zero j)]; split <;> rfl
    | node w l r =>
      refine ⟨.node (some v) l r, rfl, fun j => ?_⟩
      cases j with
      | zero => rfl
      | succ j => rw [ET.get_succ, if_neg (Nat.succ_ne_zero j), ET.get_succ]
  | f + 1, t, m + 1, k, h => by
    have hd : m / 2 < f := by omega
    cases t with
    | leaf =>
      cases hb : Nat.beq (m % 2) 0 with
      | true =>
        have hm := Nat.eq_of_beq_eq_true hb
        obtain ⟨t', h1, h2⟩ := ET.putK_ok v f .leaf (m / 2) (fun l' => k (.node none l' .leaf)) hd
        refine ⟨.node none t' .leaf, ?_, fun j => ?_⟩
        · show Bool.rec (motive := fun _ => α) _ (ET.putK v f .leaf (m / 2) fun l' => k (.node none l' .leaf)) (Nat.beq (m % 2) 0) = _
          rw [hb]; exact h1
        · cases j with
          | zero => rw [if_neg (by omega)]; rfl
          | succ j =>
            rw [ET.get_succ]
            by_cases hj : j % 2 = 0
            · rw [if_pos hj, h2]
              by_cases e : j / 2 = m / 2
              · rw [if_pos e, if_pos (by omega)]
              · rw [if_neg e, if_neg (by omega)]; rfl
            · rw [if_neg hj, if_neg (by omega)]; rfl
      | false =>
        have hm := Nat.ne_of_beq_eq_false hb
        obtain ⟨t', h1, h2⟩ := ET.putK_ok v f .leaf (m / 2) (fun r' => k (.node none .leaf r')) hd
        refine ⟨.node none .leaf t', ?_, fun j => ?_⟩
        · show Bool.rec (motive := fun _ => α) (ET.putK v f .leaf (m / 2) fun r' => k (.node none .leaf r')) _ (Nat.beq (m % 2) 0) = _
          rw [hb]; exact h1
        · cases j with
          | zero => rw [if_neg (by omega)]; rfl
          | succ j =>
            rw [ET.get_succ]
            by_cases hj : j % 2 = 0
            · rw [if_pos hj, if_neg (by omega)]; rfl
            · rw [if_neg hj, h2]
              by_cases e : j / 2 = m / 2
              · rw [if_pos e, if_pos (by omega)]
              · rw [if_neg e, if_neg (by omega)]; rfl
    | node w l r =>
      cases hb : Nat.beq (m % 2) 0 with
      | true =>
        have hm := Nat.eq_of_beq_eq_true hb
        obtain ⟨t', h1, h2⟩ := ET.putK_ok v f l (m / 2) (fun l' => k (.node w l' r)) hd
        refine ⟨.node w t' r, ?_, fun j => ?_⟩
        · show Bool.rec (motive := fun _ => α) _ (ET.putK v f l (m / 2) fun l' => k (.node w l' r)) (Nat.beq (m % 2) 0) = _
          rw [hb]; exact h1
        · cases j with
          | zero => rw [if_neg (by omega)]; rfl
          | succ j =>
            rw [ET.get_succ, ET.get_succ]
            by_cases hj : j % 2 = 0
            · rw [if_pos hj, if_pos hj, h2]
              by_cases e : j / 2 = m / 2
              · rw [if_pos e, if_pos (by omega)]
              · rw [if_neg e, if_neg (by omega)]
            · rw [if_neg hj, if_neg hj, if_neg (by omega)]
      | false =>
        have hm := Nat.ne_of_beq_eq_false hb
        obtain ⟨t', h1, h2⟩ := ET.putK_ok v f r (m / 2) (fun r' => k (.node w l r')) hd
        refine ⟨.node w l t', ?_, fun j => ?_⟩
        · show Bool.rec (motive := fun _ => α) (ET.putK v f r (m / 2) fun r' => k (.node w l r')) _ (Nat.beq (m % 2) 0) = _
          rw [hb]; exact h1
        · cases j with
          | zero => rw [if_neg (by omega)]; rfl
          | succ j =>
            rw [ET.get_succ, ET.get_succ]
            by_cases hj : j % 2 = 0
            · rw [if_pos hj, if_pos hj, if_neg (by omega)]
            · rw [if_neg hj, if_neg hj, h2]
              by_cases e : j / 2 = m / 2
              · rw [if_pos e, if_pos (by omega)]
              · rw [if_neg e, if_neg (by omega)]
noncomputable def frcN (n : Nat) (k : Nat → α) : α := Nat.rec (motive := fun _ => α) (k 0) (fun m _ => k (Nat.add m 1)) n
theorem frcN_ok (n : Nat) (k : Nat → α) : frcN n k = k n := by cases n <;> rfl
noncomputable def frcI (n : Int) (k : Int → α) : α := Int.rec (motive := fun _ => α) (fun m => frcN m fun m => k (.ofNat m)) (fun m => frcN m fun m => k (.negSucc m)) n
theorem frcI_ok (n : Int) (k : Int → α) : frcI n k = k n := by
  cases n with
  | ofNat m => exact frcN_ok m fun m => k (.ofNat m)
  | negSucc m => exact frcN_ok m fun m => k (.negSucc m)
noncomputable def frcB (x : Bool) (k : Bool → α) : α := Bool.rec (motive := fun _ => α) (k false) (k true) x
theorem frcB_ok (x : Bool) (k : Bool → α) : frcB x k = k x := by cases x <;> rfl
noncomputable def frc1 (v : AV) (k : AV → α) : α := match v with
  | .i s n => frcI n fun n => k (.i s n)
  | .b x => frcB x fun x => k (.b x)
  | v => k v
theorem frc1_ok (v : AV) (k : AV → α) : frc1 v k = k v := by
  cases v with
  | i s n => exact frcI_ok n fun n => k (.i s n)
  | b x => exact frcB_ok x fun x => k (.b x)
  | _ => rfl
noncomputable def frcL (cs : List AV) : (List AV → α) → α := List.rec (motive := fun _ => (List AV → α) → α) (fun k => k []) (fun c _ ih k => frc1 c fun c => ih fun cs => k (c :: cs)) cs
theorem frcL_ok : ∀ (cs : List AV) (k : List AV → α), frcL cs k = k cs
  | [], _ => rfl
  | c :: cs, k => by
    show frc1 c (fun c => frcL cs fun cs => k (c :: cs)) = _
    rw [frc1_ok, frcL_ok cs]
noncomputable def frcV (v : AV) (k : AV → α) : α := match v with
  | .i s n => frcI n fun n => k (.i s n)
  | .b x => frcB x fun x => k (.b x)
  | .sl cs n t => frcL cs fun cs => frcN n fun n => k (.sl cs n t)
  | .agg cs => frcL cs fun cs => k (.agg cs)
  | .ptr cs => frcL cs fun cs => k (.ptr cs)
  | .mp a o => frcN a fun a => frcN o fun o => k (.mp a o)
  | .ms a o n => frcN a fun a => frcN o fun o => frcN n fun n => k (.ms a o n)
  | v => k v
theorem frcV_ok (v : AV) (k : AV → α) : frcV v k = k v := by
  cases v with
  | i s n => exact frcI_ok n fun n => k (.i s n)
  | b x => exact frcB_ok x fun x => k (.b x)
  | sl cs n t =>
    show frcL cs (fun cs => frcN n fun n => k (.sl cs n t)) = _
    rw [frcL_ok, frcN_ok]
  | agg cs => exact frcL_ok cs fun cs => k (.agg cs)
  | ptr cs => exact frcL_ok cs fun cs => k (.ptr cs)
  | mp a o =>
    show frcN a (fun a => frcN o fun o => k (.mp a o)) = _
    rw [frcN_ok, frcN_ok]
  | ms a o n =>
    show frcN a (fun a => frcN o fun o => frcN n fun n => k (.ms a o n)) = _
    rw [frcN_ok, frcN_ok, frcN_ok]
  | _ => rfl
end
noncomputable def mapO (f : AV → Option AV) (cs : List AV) : Option (List AV) := List.rec (motive := fun _ => Option (List AV)) (some []) (fun c _ ih => match f c with
  | some c => (match ih with | some cs => some (c :: cs) | none => none)
  | none => none) cs
noncomputable def frzK (hp : Nat → Option Blk) (k : Nat) : AV → Option AV := Nat.rec (motive := fun _ => AV → Option AV) (fun _ => none) (fun _ ih v => match v with
  | .agg cs => (match mapO ih cs with | some cs => some (.agg cs) | none => none)
  | .tup cs => (match mapO ih cs with | some cs => some (.tup cs) | none => none)
  | .sl cs n _ => some (.sl cs n .non)
  | .mp id off => (match hp id with
    | some (.cells cs _) => (match mapO ih (cs.drop off) with | some cs => some (.ptr cs) | none => none)
    | _ => none)
  | .ms id off n => (match hp id with
    | some (.cells cs _) => (match mapO ih (cs.drop off) with | some cs => some (.sl cs n .non) | none => none)
    | _ => none)
  | .fn f a b => (match mapO ih a with
    | some a => (match mapO ih b with | some b => some (.fn f a b) | none => none)
    | none => none)
  | .ifc t v => (match ih v with | some v => some (.ifc t v) | none => none)
  | .mm _ => none
  | v => some v) k
noncomputable def frzLK (hp : Nat → Option Blk) (k : Nat) (cs : List AV) : Option (List AV) := mapO (frzK hp k) cs
theorem mapO_cons (f c cs) : mapO f (c :: cs) = (match f c with
  | some c => (match mapO f cs with | some cs => some (c :: cs) | none => none)
  | none => none) := rfl
theorem mapO_frz (hp : Nat → Option Blk) (k : Nat) (h : ∀ v, frzK hp k v = frz hp k v) : ∀ cs, mapO (frzK hp k) cs = frzL hp k cs
  | [] => by simp only [frzL]; rfl
  | c :: cs => by
    rw [mapO_cons, mapO_frz hp k h cs, h c]
    simp only [frzL]
    cases frz hp k c <;> cases frzL hp k cs <;> rfl
theorem frzK_ok (hp : Nat → Option Blk) : ∀ (k : Nat) (v : AV), frzK hp k v = frz hp k v
  | 0, v => by simp only [frz]; rfl
  | k + 1, v => by
    have hl := mapO_frz hp k (frzK_ok hp k)
    have e : frzK hp (k + 1) v = (match v with
      | .agg cs => (match mapO (frzK hp k) cs with | some cs => some (.agg cs) | none => none)
      | .tup cs => (match mapO (frzK hp k) cs with | some cs => some (.tup cs) | none => none)
      | .sl cs n _ => some (.sl cs n .non)
      | .mp id off => (match hp id with
        | some (.cells cs _) => (match mapO (frzK hp k) (cs.drop off) with | some cs => some (.ptr cs) | none => none)
        | _ => none)
      | .ms id off n => (match hp id with
        | some (.cells cs _) => (match mapO (frzK hp k) (cs.drop off) with | some cs => some (.sl cs n .non) | none => none)
        | _ => none)
      | .fn f a b => (match mapO (frzK hp k) a with
        | some a => (match mapO (frzK hp k) b with | some b => some (.fn f a b) | none => none)
        | none => none)
      | .ifc t v => (match frzK hp k v with | some v => some (.ifc t v) | none => none)
      | .mm _ => none
      | v => some v) := rfl
    rw [e]
    simp only [hl, frzK_ok hp k]
    cases v with
    | agg cs => simp only [frz]; cases frzL hp k cs <;> rfl
    | tup cs => simp only [frz]; cases frzL hp k cs <;> rfl
    | mp id off =>
      simp only [frz]
      cases hp id with
      | none => rfl
      | some b =>
        cases b with
        | cells cs ro => simp only; cases frzL hp k (cs.drop off) <;> rfl
        | _ => rfl
    | ms id off n =>
      simp only [frz]
      cases hp id with
      | none => rfl
      | some b =>
        cases b with
        | cells cs ro => simp only; cases frzL hp k (cs.drop off) <;> rfl
        | _ => rfl
    | fn f a b =>
      simp only [frz]
      cases frzL hp k a <;> cases frzL hp k b <;> rfl
    | ifc t v => simp only [frz]; cases frz hp k v <;> rfl
    | _ => simp only [frz]
theorem frzLK_ok (hp : Nat → Option Blk) (k : Nat) (cs : List AV) : frzLK hp k cs = frzL hp k cs := mapO_frz hp k (frzK_ok hp k) cs
noncomputable def kBoxI (v : AV) (g : G) : Option (AV × G) :=
  if (cellsOf v).all one then vMapL .ptr g (frzLK (fun _ => none) depth (cellsOf v)) else none
noncomputable def kBsl (id : Nat) (imm : Bool) (n : Nat) (cs : Option (List AV)) (g : G) : Option (AV × G) := match cs with
  | none => none
  | some cs =>
    if imm then vMapL (fun cs => .sl cs n .rig) g (frzLK (fun _ => none) depth cs)
    else some (.ms id 0 n, ⟨upd g.hp id (some (.cells cs false)), g.nx⟩)
noncomputable def kSrc (al : Nat → Bool) (esz : Nat) (y : AV) (g : G) : Option (List AV × Nat) := match y with
  | .sl ds m _ => some (ds, m)
  | .ms b off m => match rd g al b with
    | some (.cells ds _) => match frzLK (fun _ => none) depth ((ds.drop off).take (m * esz)) with
      | some ds => some (ds, m)
      | none => none
    | _ => none
  | _ => none
noncomputable def kApp (al : Nat → Bool) (id esz bytes : Nat) (x y : AV) (g : G) : Option (AV × G) := match x with
  | .sl cs n t => match kSrc al esz y g with
    | none => none
    | some (ds, m) =>
      if (n + m) * bytes ≤ 2 ^ 46 ∧ n + m ≤ 2 ^ 62 ∧ cs.length = n * esz ∧ ds.length = m * esz then
        match t with
        | .non => none
        | .rig => if m = 0 then some (.sl cs n .rig, g) else some (.sl (cs ++ ds) (n + m) (.own id esz), ⟨upd g.hp id (some (.tok true)), g.nx⟩)
        | .own tk e => match rd g al tk with
          | some (.tok true) => if e = esz then some (.sl (cs ++ ds) (n + m) (.own id esz), ⟨upd (upd g.hp tk (some (.tok false))) id (some (.tok true)), g.nx⟩) else none
          | _ => none
      else none
  | _ => none
theorem kSrc_ok (al esz y g) : kSrc al esz y g = vSrc al esz y g := by unfold kSrc vSrc; simp only [frzLK_ok]; rfl
theorem kApp_ok (al id esz bytes x y g) : kApp al id esz bytes x y g = vApp al id esz bytes x y g := by
  unfold kApp vApp
  simp only [kSrc_ok]
  rfl
theorem kBsl_ok (id imm n cs g) : kBsl id imm n cs g = vBsl id imm n cs g := by unfold kBsl vBsl; simp only [frzLK_ok]; first | done | rfl
theorem kBoxI_ok (v g) : kBoxI v g = vBoxI v g := by unfold kBoxI vBoxI; simp only [frzLK_ok]; first | done | rfl
noncomputable def kCall (call : CS) (al : Nat → Bool) (id : Nat) (m : Mode) (f : AV) (args : List AV) (g : G) : Option (AV × G) := match f with
  | .fn fid fst caps => match m with
    | .raw => call fid (fst ++ args ++ caps) g
    | .pure => match frzLK (rd g al) depth (fst ++ args ++ caps) with
      | none => none
      | some bs => match call fid bs ⟨fun _ => none, 0⟩ with
        | none => none
        | some (v, g') => match frzK g'.hp depth v with
          | none => none
          | some v => if flat v || ((fst ++ args ++ caps).flatMap (vis (rd g al) depth)).isEmpty then some (v, g) else none
    | .lock => match frzLK (rd g al) depth (fst ++ args ++ caps) with
      | none => none
      | some bs => match call fid bs ⟨fun _ => none, 0⟩ with
        | none => none
        | some (v, g') => match frzK g'.hp depth v with
          | none => none
          | some v => some (v, ⟨lock g.hp ((fst ++ args ++ caps).flatMap (vis (rd g al) depth)), g.nx⟩)
    | .thaw => match frzLK (rd g al) depth (fst ++ args ++ caps) with
      | none => none
      | some bs => match call fid bs ⟨fun _ => none, 0⟩ with
        | some (.mp b 0, g') => match g'.hp b with
          | some (.cells cs false) => match frzLK g'.hp depth cs with
            | some cs' =>
              if ((fst ++ args ++ caps).flatMap (vis (rd g al) depth)).isEmpty && !(cs.flatMap (vis g'.hp depth)).contains b then some (.mp id 0, ⟨upd g.hp id (some (.cells cs' false)), g.nx⟩) else none
            | none => none
          | _ => none
        | _ => none
    | .melt => match frzLK (rd g al) depth (fst ++ args ++ caps) with
      | none => none
      | some bs => match call fid bs ⟨fun _ => none, 0⟩ with
        | some (.ms b 0 n, g') => match g'.hp b with
          | some (.cells cs false) => match frzLK g'.hp depth cs with
            | some cs' =>
              if ((fst ++ args ++ caps).flatMap (vis (rd g al) depth)).isEmpty && !(cs.flatMap (vis g'.hp depth)).contains b then some (.ms id 0 n, ⟨upd g.hp id (some (.cells cs' false)), g.nx⟩) else none
            | none => none
          | _ => none
        | _ => none
  | _ => none
theorem kCall_ok (call al id m f args g) : kCall call al id m f args g = vCall call al id m f args g := by
  unfold kCall vCall
  simp only [frzLK_ok, frzK_ok]
  rfl
abbrev Orc := Nat → List AV → Option AV
noncomputable def kev (b : Env) (t : ET) : Env := fun n => match t.get n with | some v => v | none => b n
noncomputable def putO {α : Type} (d : Option Nat) (v : AV) (t : ET) (k : ET → α) : α := match d with
  | some d => ET.putK v (d + 1) t d k
  | none => k t
theorem putO_ok {α : Type} (b : Env) (d : Option Nat) (v : AV) (t : ET) (k : ET → α) : ∃ t', putO d v t k = k t' ∧ kev b t' = put (kev b t) d v := by
  cases d with
  | none => exact ⟨t, rfl, rfl⟩
  | some d =>
    obtain ⟨t', h1, h2⟩ := ET.putK_ok v (d + 1) t d k (by omega)
    refine ⟨t', h1, ?_⟩
    funext j
    simp only [kev, put, upd, h2]
    by_cases e : j = d
    · simp only [if_pos e]
    · simp only [if_neg e]
noncomputable def ltI (a b : Int) : Bool := Int.rec (motive := fun _ => Bool) (fun m => Int.rec (motive := fun _ => Bool) (fun n => Nat.ble (Nat.add m 1) n) (fun _ => false) b) (fun m => Int.rec (motive := fun _ => Bool) (fun _ => true) (fun n => Nat.ble (Nat.add n 1) m) b) a
theorem ble_dec (m n : Nat) : Nat.ble m n = decide (m ≤ n) := by
  cases h : Nat.ble m n with
  | true => exact (decide_eq_true (Nat.le_of_ble_eq_true h)).symm
  | false => exact (decide_eq_false (fun hh => by rw [Nat.ble_eq_true_of_le hh] at h; cases h)).symm
theorem ltI_ok (a b : Int) : ltI a b = decide (a < b) := by
  cases a with
  | ofNat m =>
    cases b with
    | ofNat n =>
      show Nat.ble (m + 1) n = _
      rw [ble_dec, decide_eq_decide]
      show m + 1 ≤ n ↔ (m : Int) < (n : Int)
      omega
    | negSucc n =>
      show false = _
      refine (decide_eq_false ?_).symm
      show ¬ (m : Int) < Int.negSucc n
      omega
  | negSucc m =>
    cases b with
    | ofNat n =>
      show true = _
      refine (decide_eq_true ?_).symm
      show Int.negSucc m < (n : Int)
      omega
    | negSucc n =>
      show Nat.ble (n + 1) m = _
      rw [ble_dec, decide_eq_decide]
      omega
noncomputable def eqI (a b : Int) : Bool := Int.rec (motive := fun _ => Bool) (fun m => Int.rec (motive := fun _ => Bool) (fun n => Nat.beq m n) (fun _ => false) b) (fun m => Int.rec (motive := fun _ => Bool) (fun _ => false) (fun n => Nat.beq m n) b) a
theorem beq_dec (m n : Nat) : Nat.beq m n = decide (m = n) := by
  cases h : Nat.beq m n with
  | true => exact (decide_eq_true (Nat.eq_of_beq_eq_true h)).symm
  | false => exact (decide_eq_false (Nat.ne_of_beq_eq_false h)).symm
theorem eqI_ok (a b : Int) : eqI a b = (a == b) := by
  have e : (a == b) = decide (a = b) := by rw [Bool.eq_iff_iff]; simp
  rw [e]
  cases a with
  | ofNat m =>
    cases b with
    | ofNat n =>
      show Nat.beq m n = _
      rw [beq_dec, decide_eq_decide]
      show m = n ↔ (m : Int) = (n : Int)
      omega
    | negSucc n => exact (decide_eq_false (fun h => by cases h)).symm
  | negSucc m =>
    cases b with
    | ofNat n => exact (decide_eq_false (fun h => by cases h)).symm
    | negSucc n =>
      show Nat.beq m n = _
      rw [beq_dec, decide_eq_decide]
      omega
noncomputable def wrI (n : Int) : Int := Int.rec (motive := fun _ => Int) (fun m => Bool.rec (motive := fun _ => Int) (IntKind.i64.wrap (.ofNat m)) (.ofNat m) (Nat.ble m 9223372036854775807)) (fun m => Bool.rec (motive := fun _ => Int) (IntKind.i64.wrap (.negSucc m)) (.negSucc m) (Nat.ble m 9223372036854775807)) n
theorem wrI_in {x : Int} (h : -9223372036854775808 ≤ x) (h2 : x ≤ 9223372036854775807) : IntKind.i64.wrap x = x := by
  simp [IntKind.wrap, IntKind.bits, IntKind.signed]
  omega
theorem wrI_ok (n : Int) : wrI n = IntKind.i64.wrap n := by
  cases n with
  | ofNat m =>
    show Bool.rec (motive := fun _ => Int) (IntKind.i64.wrap (.ofNat m)) (.ofNat m) (Nat.ble m 9223372036854775807) = _
    rw [ble_dec]
    by_cases h : m ≤ 9223372036854775807
    · rw [decide_eq_true h]
      exact (wrI_in (x := (m : Int)) (by omega) (by omega)).symm
    · rw [decide_eq_false h]
  | negSucc m =>
    show Bool.rec (motive := fun _ => Int) (IntKind.i64.wrap (.negSucc m)) (.negSucc m) (Nat.ble m 9223372036854775807) = _
    rw [ble_dec]
    by_cases h : m ≤ 9223372036854775807
    · rw [decide_eq_true h]
      exact (wrI_in (x := Int.negSucc m) (by omega) (by omega)).symm
    · rw [decide_eq_false h]
noncomputable def addI (a b : Int) : Int := Int.rec (motive := fun _ => Int) (fun m => Int.rec (motive := fun _ => Int) (fun n => .ofNat (Nat.add m n)) (fun n => Int.add (.ofNat m) (.negSucc n)) b) (fun m => Int.add (.negSucc m) b) a
theorem addI_ok (a b : Int) : addI a b = a + b := by cases a <;> cases b <;> rfl
noncomputable def kII (op : BinOp) : Int → Int → Option AV := BinOp.casesOn (motive := fun _ => Int → Int → Option AV) op
  (fun a b => some (.i .i64 (wrI (addI a b)))) (fun a b => some (.i .i64 (wrI (Int.sub a b)))) (ibin .mul .i64) (ibin .quo .i64) (ibin .rem .i64) (ibin .and .i64) (ibin .or .i64) (ibin .xor .i64)
  (ishift .shl .i64) (ishift .shr .i64) (ibin .andNot .i64) (fun a b => some (.b (eqI a b))) (fun a b => some (.b (!eqI a b))) (fun a b => some (.b (ltI a b))) (fun a b => some (.b (!ltI b a))) (fun a b => some (.b (ltI b a))) (fun a b => some (.b (!ltI a b)))
theorem kII_ok (op : BinOp) (a b : Int) : kII op a b = abin op (.i .i64 a) (.i .i64 b) := by
  cases op
  · show some (AV.i .i64 (wrI (addI a b))) = _
    rw [wrI_ok, addI_ok]; simp [abin, ibin]
  · show some (AV.i .i64 (wrI (a - b))) = _
    rw [wrI_ok]; simp [abin, ibin]
  · show ibin .mul .i64 a b = _; simp [abin]
  · show ibin .quo .i64 a b = _; simp [abin]
  · show ibin .rem .i64 a b = _; simp [abin]
  · show ibin .and .i64 a b = _; simp [abin]
  · show ibin .or .i64 a b = _; simp [abin]
  · show ibin .xor .i64 a b = _; simp [abin]
  · show ishift .shl .i64 a b = _; simp [abin]
  · show ishift .shr .i64 a b = _; simp [abin]
  · show ibin .andNot .i64 a b = _; simp [abin]
  · show some (AV.b (eqI a b)) = _
    rw [eqI_ok]; simp [abin, ibin]
  · show some (AV.b (!eqI a b)) = _
    rw [eqI_ok]; simp only [abin, ibin, if_true]; rfl
  · show some (AV.b (ltI a b)) = _
    rw [ltI_ok]; simp [abin, ibin]
  · show some (AV.b (!ltI b a)) = _
    rw [ltI_ok]; simp [abin, ibin]
    rw [← decide_not, decide_eq_decide]; omega
  · show some (AV.b (ltI b a)) = _
    rw [ltI_ok]; simp [abin, ibin]
  · show some (AV.b (!ltI a b)) = _
    rw [ltI_ok]; simp [abin, ibin]
    rw [← decide_not, decide_eq_decide]; omega
noncomputable def kBin (op : BinOp) (x y : AV) : Option AV := match x with
  | .i k a => (match k with
    | .i64 => (match y with
      | .i k' b => (match k' with
        | .i64 => kII op a b
        | k' => abin op (.i .i64 a) (.i k' b))
      | y => abin op (.i .i64 a) y)
    | k => abin op (.i k a) y)
  | x => abin op x y
theorem kBin_ok (op : BinOp) (x y : AV) : kBin op x y = abin op x y := by
  cases x with
  | i k a =>
    cases k <;> first
      | rfl
      | (cases y with
        | i k' b => cases k' <;> first | rfl | exact kII_ok op a b
        | _ => rfl)
  | _ => rfl
noncomputable def frcR (r : Option (AV × G)) : Option (AV × G) := match r with
  | some (v, g) => frcV v fun v => some (v, g)
  | none => none
theorem frcR_ok (r : Option (AV × G)) : frcR r = r := by
  cases r with
  | none => rfl
  | some p =>
    obtain ⟨v, g⟩ := p
    show frcV v (fun v => some (v, g)) = _
    rw [frcV_ok]
abbrev KO := Orc → CS → (Nat → Bool) → Nat → Nat → Env → G → Option (AV × G)
noncomputable def ko_mv (x : Opd) : KO := fun _ _ _ _ _ e g => some (x.ev e, g)
noncomputable def ko_pick (c a b : Opd) : KO := fun _ _ _ _ _ e g => vPick (c.ev e) (a.ev e) (b.ev e) g
noncomputable def ko_new (zero : List AV) : KO := fun _ _ _ _ id _ g => some (.mp id 0, ⟨upd g.hp id (some (.cells zero false)), g.nx⟩)
noncomputable def ko_box (x : Opd) : KO := fun _ _ _ _ id e g => vBox id (x.ev e) g
noncomputable def ko_boxI (x : Opd) : KO := fun _ _ _ _ _ e g => kBoxI (x.ev e) g
noncomputable def ko_build (zero : List AV) (parts : List (Nat × Nat × Opd)) : KO := fun _ _ _ _ _ e g => frcR (vMapL .agg g (fill e zero parts))
noncomputable def ko_bsl (imm : Bool) (n : Nat) (zero : List AV) (parts : List (Nat × Nat × Opd)) : KO := fun _ _ _ _ id e g => frcR (kBsl id imm n (fill e zero parts) g)
noncomputable def ko_ld (agg : Option Nat) (x : Opd) : KO := fun _ _ al _ _ e g => vLd al agg (x.ev e) g
noncomputable def ko_st (n : Nat) (a x : Opd) : KO := fun _ _ al _ _ e g => vSt al n (a.ev e) (x.ev e) g
noncomputable def ko_stL (n : Nat) (a x : Opd) : KO := fun _ _ al lo _ e g => vSt (fun i => decide (lo ≤ i) && al i) n (a.ev e) (x.ev e) g
noncomputable def ko_ldF (agg : Option Nat) (x : Opd) : KO := fun _ _ al _ _ e g => vLdF al agg (x.ev e) g
noncomputable def ko_stW (n : Nat) (a x : Opd) : KO := fun _ _ al _ _ e g => vSt al n (a.ev e) (x.ev e) g
noncomputable def ko_ldQ (agg : Option Nat) (x : Opd) (t : Nat) : KO := fun _ _ al _ _ e g => vLdQ al agg (x.ev e) (e t) g
noncomputable def ko_stN (n : Nat) (a x : Opd) (ts : List Nat) : KO := fun _ _ al _ _ e g => vStN al n (a.ev e) (x.ev e) (ts.map e) g
noncomputable def ko_nilck (x : Opd) : KO := fun _ _ _ _ _ e g => vNil (x.ev e) g
noncomputable def ko_bin (op : BinOp) (x y : Opd) : KO := fun _ _ _ _ _ e g => frcR (vMap g (kBin op (x.ev e) (y.ev e)))
noncomputable def ko_eqb (neg : Bool) (x y : Opd) : KO := fun _ _ _ _ _ e g => frcR (vMap g (negb neg (aeqb (x.ev e) (y.ev e))))
noncomputable def ko_eqs (neg : Bool) (x : Opd) : KO := fun _ _ _ _ _ e g => frcR (vMap g (negb neg (aeqs (x.ev e))))
noncomputable def ko_eqn (neg : Bool) (x y : Opd) : KO := fun _ _ _ _ _ e g => frcR (vMap g (negb neg (aeqn (x.ev e) (y.ev e))))
noncomputable def ko_eqa (neg : Bool) (ks : List Nat) (x y : Opd) : KO := fun _ _ _ _ _ e g => frcR (vMap g (negb neg (aeqa ks (x.ev e) (y.ev e))))
noncomputable def ko_un (op : UnOp) (x : Opd) : KO := fun _ _ _ _ _ e g => frcR (vMap g (aun op (x.ev e)))
noncomputable def ko_conv (k : IntKind) (x : Opd) : KO := fun _ _ _ _ _ e g => frcR (vConv k (x.ev e) g)
noncomputable def ko_mkfn (f : Nat) (fst caps : List Opd) : KO := fun _ _ _ _ _ e g => some (.fn f (fst.map (·.ev e)) (caps.map (·.ev e)), g)
noncomputable def ko_mkmap : KO := fun _ _ _ _ id _ g => some (.mm id, ⟨upd g.hp id (some (.map [])), g.nx⟩)
noncomputable def ko_mput (m k v : Opd) : KO := fun _ _ al _ _ e g => vMput al (m.ev e) (k.ev e) (v.ev e) g
noncomputable def ko_mget (m k : Opd) : KO := fun _ _ al _ _ e g => vMget al (m.ev e) (k.ev e) g
noncomputable def ko_mksl (zero : List AV) (esz bytes : Nat) (len cap : Opd) : KO := fun _ _ _ _ id e g => frcR (vMksl id zero esz bytes (len.ev e) (cap.ev e) g)
noncomputable def ko_slice (esz : Nat) (x : Opd) (lo hi mx : Option Opd) : KO := fun _ _ _ _ _ e g => frcR (vSlice esz (x.ev e) (evo e lo) (evo e hi) (evo e mx) g)
noncomputable def ko_fa (off : Nat) (x : Opd) : KO := fun _ _ _ _ _ e g => vFa off (x.ev e) g
noncomputable def ko_fld (off : Nat) (agg : Option Nat) (x : Opd) : KO := fun _ _ _ _ _ e g => vFld off agg (x.ev e) g
noncomputable def ko_ia (esz : Nat) (x i : Opd) : KO := fun _ _ _ _ _ e g => vIa esz (x.ev e) (i.ev e) g
noncomputable def ko_iaa (len esz : Nat) (x i : Opd) : KO := fun _ _ _ _ _ e g => vIaa len esz (x.ev e) (i.ev e) g
noncomputable def ko_idx (len esz : Nat) (agg : Option Nat) (x i : Opd) : KO := fun _ _ _ _ _ e g => vIdx len esz agg (x.ev e) (i.ev e) g
noncomputable def ko_sidx (x i : Opd) : KO := fun _ _ _ _ _ e g => frcR (vSidx (x.ev e) (i.ev e) g)
noncomputable def ko_ext (i : Nat) (x : Opd) : KO := fun _ _ _ _ _ e g => vExt i (x.ev e) g
noncomputable def ko_len (x : Opd) : KO := fun _ _ _ _ _ e g => vLen (x.ev e) g
noncomputable def ko_slen (x : Opd) : KO := fun _ _ _ _ _ e g => frcR (vSlen (x.ev e) g)
noncomputable def ko_sslice (x : Opd) (lo hi : Option Opd) : KO := fun _ _ _ _ _ e g => frcR (vSslice (x.ev e) (evo e lo) (evo e hi) g)
noncomputable def ko_mx (x y : Opd) : KO := fun _ _ _ _ _ e g => frcR (vMx (x.ev e) (y.ev e) g)
noncomputable def ko_mn (x y : Opd) : KO := fun _ _ _ _ _ e g => frcR (vMn (x.ev e) (y.ev e) g)
noncomputable def ko_app (esz bytes : Nat) (x y : Opd) : KO := fun _ _ al _ id e g => frcR (kApp al id esz bytes (x.ev e) (y.ev e) g)
noncomputable def ko_appM (esz bytes : Nat) (x y : Opd) : KO := fun _ _ al _ id e g => frcR (vAppM al id esz bytes (x.ev e) (y.ev e) g)
noncomputable def ko_clr (esz : Nat) (zero : List AV) (x : Opd) : KO := fun _ _ al _ _ e g => frcR (vClr al esz zero (x.ev e) g)
noncomputable def ko_cutM (esz : Nat) (x hi : Opd) : KO := fun _ _ al _ id e g => frcR (vCutM al id esz (x.ev e) (hi.ev e) g)
noncomputable def ko_bad : KO := fun _ _ _ _ _ _ _ => none
noncomputable def ko_pure (f : Opd) (args : List Opd) : KO := fun orc call al _ id e g => match f.ev e with
  | .fn fid fst caps => (match frzLK (rd g al) depth (fst ++ args.map (·.ev e) ++ caps) with
    | some bs => (match orc fid bs with
      | some v => frcV v fun v => if flat v || ((fst ++ args.map (·.ev e) ++ caps).flatMap (vis (rd g al) depth)).isEmpty then some (v, g) else none
      | none => frcR (kCall call al id .pure (f.ev e) (args.map (·.ev e)) g))
    | none => none)
  | _ => none
noncomputable def ko_call (m : Mode) (f : Opd) (args : List Opd) : KO := Mode.casesOn (motive := fun _ => KO) m (ko_pure f args)
  (fun _ call al _ id e g => frcR (kCall call al id .lock (f.ev e) (args.map (·.ev e)) g))
  (fun _ call al _ id e g => frcR (kCall call al id .thaw (f.ev e) (args.map (·.ev e)) g))
  (fun _ call al _ id e g => frcR (kCall call al id .raw (f.ev e) (args.map (·.ev e)) g))
  (fun _ call al _ id e g => frcR (kCall call al id .melt (f.ev e) (args.map (·.ev e)) g))
section
variable (orc : Orc)
noncomputable def opK (call : CS) (al : Nat → Bool) (lo id : Nat) (op : AOp) (e : Env) (g : G) : Option (AV × G) :=
  AOp.casesOn (motive := fun _ => KO) op ko_mv ko_pick ko_new ko_box ko_boxI ko_build ko_bsl ko_ld ko_ldF ko_ldQ ko_st ko_stL ko_stW ko_stN ko_nilck ko_bin ko_eqb ko_eqn ko_eqs ko_eqa ko_un ko_conv ko_mkfn ko_mkmap ko_mput ko_mget ko_mksl ko_slice ko_fa ko_fld ko_ia ko_iaa ko_idx ko_sidx ko_ext ko_len ko_slen ko_sslice ko_mx ko_mn ko_app ko_appM ko_cutM ko_clr ko_bad ko_call orc call al lo id e g
noncomputable def regK (call : CS) (b : Env) (draw : Bool) (base : Nat) (ops : List AOper) : Nat → ET → G → Option (ET × G) :=
  List.rec (motive := fun _ => Nat → ET → G → Option (ET × G)) (fun _ t g => some (t, g)) (fun o _ ih j t g =>
    match wanted (kev b t) o.grd with
    | true => match opK orc call (allow draw base o.pre) base (base + j) o.op (kev b t) g with
      | some (v, g) => putO o.dst v t fun t => ih (j + 1) t g
      | none => none
    | false => putO o.dst .undef t fun t => ih (j + 1) t g) ops
noncomputable def iterK (f : ET → G → Option (Out × ET × G)) (k : Nat) : ET → G → Option (Out × ET × G) :=
  Nat.rec (motive := fun _ => ET → G → Option (Out × ET × G)) (fun _ _ => none) (fun _ ih t g => match f t g with
    | some (.nrm, t, g) => ih t g
    | r => r) k
noncomputable def codeK (call : CS) (b : Env) (k : Nat) (c : ACode) : ET → G → Option (Out × ET × G) :=
  ACode.rec (motive := fun _ => ET → G → Option (Out × ET × G))
    (fun t g => some (.nrm, t, g))
    (fun draw ops t g => frcN g.nx fun base => frcN (base + ops.length) fun nx => match regK orc call b draw base ops 0 t ⟨g.hp, nx⟩ with
      | some (t, g) => some (.nrm, t, g)
      | none => none)
    (fun _ _ fa fb t g => match fa t g with
      | some (.nrm, t, g) => fb t g
      | r => r)
    (fun c _ _ ft ff t g => match c.ev (kev b t) with
      | .b x => Bool.rec (motive := fun _ => Option (Out × ET × G)) (ff t g) (ft t g) x
      | _ => none)
    (fun id _ fc t g => match fc t g with
      | some (.ext n, t, g) => some (Bool.rec (motive := fun _ => Out) (.ext n) .nrm (Nat.beq n id), t, g)
      | r => r)
    (fun n _ fc t g => fc t ⟨lock g.hp (vis g.hp depth (kev b t n)), g.nx⟩)
    (fun n _ fc t g => fc t ⟨lock g.hp (ids1 (kev b t n)), g.nx⟩)
    (fun n _ fc t g => match frzK g.hp depth (kev b t n) with
      | some v => ET.putK v (n + 1) t n fun t' => fc t' ⟨lock g.hp (vis g.hp depth (kev b t n)), g.nx⟩
      | none => none)
    (fun _ _ _ _ => none)
    (fun _ fc t g => fc t g)
    (fun t g => some (.nrm, t, g))
    (fun _ fc t g => iterK fc k t g)
    (fun id t g => some (.ext id, t, g))
    (fun t g => some (.ret, t, g)) c
variable (F : Funs)
noncomputable def callK (k : Nat) : CS :=
  Nat.rec (motive := fun _ => CS) (fun _ _ _ => none) (fun k ih f args g => match F f with
    | none => none
    | some fn => match codeK orc ih (argEnv args) k fn.body .leaf g with
      | some (.nrm, t, g) => (resE fn.res (kev (argEnv args) t) g).map (·, g)
      | some (.ret, t, g) => (resE fn.res (kev (argEnv args) t) g).map (·, g)
      | _ => none) k
end
def OrcOk (F : Funs) (orc : Orc) : Prop := ∀ f bs v, orc f bs = some v → pureS F f bs = some v
section
variable {F : Funs} {orc : Orc} (ho : OrcOk F orc)
include ho
theorem opK_ok {call : CS} (hc : CLe call (callS F)) {al lo id op e g r} (h : opK orc call al lo id op e g = some r) : opE (callS F) al lo id op e g = some r := by
  cases op with
  | boxI x =>
    have h : kBoxI (x.ev e) g = some r := h
    rw [kBoxI_ok] at h; exact h
  | build z ps =>
    have h : frcR (vMapL .agg g (fill e z ps)) = some r := h
    rw [frcR_ok] at h; exact h
  | bsl imm n z ps =>
    have h : frcR (kBsl id imm n (fill e z ps) g) = some r := h
    rw [frcR_ok, kBsl_ok] at h; exact h
  | bin o x y =>
    have h : frcR (vMap g (kBin o (x.ev e) (y.ev e))) = some r := h
    rw [frcR_ok, kBin_ok] at h; exact h
  | eqb neg x y =>
    have h : frcR (vMap g (negb neg (aeqb (x.ev e) (y.ev e)))) = some r := h
    rw [frcR_ok] at h; exact h
  | eqn neg x y =>
    have h : frcR (vMap g (negb neg (aeqn (x.ev e) (y.ev e)))) = some r := h
    rw [frcR_ok] at h; exact h
  | eqs neg x =>
    have h : frcR (vMap g (negb neg (aeqs (x.ev e)))) = some r := h
    rw [frcR_ok] at h; exact h
  | eqa neg ks x y =>
    have h : frcR (vMap g (negb neg (aeqa ks (x.ev e) (y.ev e)))) = some r := h
    rw [frcR_ok] at h; exact h
  | un o x =>
    have h : frcR (vMap g (aun o (x.ev e))) = some r := h
    rw [frcR_ok] at h; exact h
  | conv k x =>
    have h : frcR (vConv k (x.ev e) g) = some r := h
    rw [frcR_ok] at h; exact h
  | mksl z esz bytes len cap =>
    have h : frcR (vMksl id z esz bytes (len.ev e) (cap.ev e) g) = some r := h
    rw [frcR_ok] at h; exact h
  | slice esz x lo' hi mx =>
    have h : frcR (vSlice esz (x.ev e) (evo e lo') (evo e hi) (evo e mx) g) = some r := h
    rw [frcR_ok] at h; exact h
  | sidx x i =>
    have h : frcR (vSidx (x.ev e) (i.ev e) g) = some r := h
    rw [frcR_ok] at h; exact h
  | slen x =>
    have h : frcR (vSlen (x.ev e) g) = some r := h
    rw [frcR_ok] at h; exact h
  | sslice x lo' hi =>
    have h : frcR (vSslice (x.ev e) (evo e lo') (evo e hi) g) = some r := h
    rw [frcR_ok] at h; exact h
  | mx x y =>
    have h : frcR (vMx (x.ev e) (y.ev e) g) = some r := h
    rw [frcR_ok] at h; exact h
  | mn x y =>
    have h : frcR (vMn (x.ev e) (y.ev e) g) = some r := h
    rw [frcR_ok] at h; exact h
  | app esz bytes x y =>
    have h : frcR (kApp al id esz bytes (x.ev e) (y.ev e) g) = some r := h
    rw [frcR_ok, kApp_ok] at h; exact h
  | appM esz bytes x y =>
    have h : frcR (vAppM al id esz bytes (x.ev e) (y.ev e) g) = some r := h
    rw [frcR_ok] at h; exact h
  | clr esz z x =>
    have h : frcR (vClr al esz z (x.ev e) g) = some r := h
    rw [frcR_ok] at h; exact h
  | cutM esz x hi =>
    have h : frcR (vCutM al id esz (x.ev e) (hi.ev e) g) = some r := h
    rw [frcR_ok] at h; exact h
  | bad => cases h
  | call m f args =>
    cases m with
    | raw =>
      have h : frcR (kCall call al id .raw (f.ev e) (args.map (·.ev e)) g) = some r := h
      rw [frcR_ok, kCall_ok] at h
      exact opE_mono (op := .call .raw f args) hc h
    | lock =>
      have h : frcR (kCall call al id .lock (f.ev e) (args.map (·.ev e)) g) = some r := h
      rw [frcR_ok, kCall_ok] at h
      exact opE_mono (op := .call .lock f args) hc h
    | thaw =>
      have h : frcR (kCall call al id .thaw (f.ev e) (args.map (·.ev e)) g) = some r := h
      rw [frcR_ok, kCall_ok] at h
      exact opE_mono (op := .call .thaw f args) hc h
    | melt =>
      have h : frcR (kCall call al id .melt (f.ev e) (args.map (·.ev e)) g) = some r := h
      rw [frcR_ok, kCall_ok] at h
      exact opE_mono (op := .call .melt f args) hc h
    | pure =>
      have h : ko_pure f args orc call al lo id e g = some r := h
      unfold ko_pure at h
      split at h
      · rename_i fid fst caps hf
        split at h
        · rename_i bs hb
          split at h
          · rename_i v hv
            rw [frcV_ok] at h
            split at h
            · rename_i hfl
              cases h
              show vPure F al (f.ev e) (args.map (·.ev e)) g = _
              rw [hf]
              rw [frzLK_ok] at hb
              exact vPure_ok hb (ho _ _ _ hv) hfl
            · cases h
          · rw [frcR_ok, kCall_ok] at h
            exact opE_mono (op := .call .pure f args) hc h
        · cases h
      · cases h
  | _ => exact h
theorem regK_ok {call : CS} (hc : CLe call (callS F)) {b : Env} {draw : Bool} {base : Nat} : ∀ {ops : List AOper} {j : Nat} {t : ET} {g : G} {t' g'}, regK orc call b draw base ops j t g = some (t', g') → regE (callS F) draw base j ops (kev b t) g = some (kev b t', g')
  | [], j, t, g, t', g', h => by cases h; rfl
  | o :: os, j, t, g, t', g', h => by
    have h : (match wanted (kev b t) o.grd with
      | true => match opK orc call (allow draw base o.pre) base (base + j) o.op (kev b t) g with
        | some (v, g) => putO o.dst v t fun t => regK orc call b draw base os (j + 1) t g
        | none => none
      | false => putO o.dst .undef t fun t => regK orc call b draw base os (j + 1) t g) = some (t', g') := h
    simp only [regE]
    cases hw : wanted (kev b t) o.grd with
    | true =>
      rw [hw] at h
      simp only [if_true]
      cases hop : opK orc call (allow draw base o.pre) base (base + j) o.op (kev b t) g with
      | none => rw [hop] at h; cases h
      | some r =>
        obtain ⟨v, g1⟩ := r
        rw [hop] at h
        simp only at h
        rw [opK_ok ho hc hop]
        obtain ⟨t1, e1, e2⟩ := putO_ok b o.dst v t fun t => regK orc call b draw base os (j + 1) t g1
        rw [e1] at h
        simp only
        rw [← e2]
        exact regK_ok hc h
    | false =>
      rw [hw] at h
      simp only [Bool.false_eq_true, if_false]
      obtain ⟨t1, e1, e2⟩ := putO_ok b o.dst .undef t fun t => regK orc call b draw base os (j + 1) t g
      simp only [e1] at h
      rw [← e2]
      exact regK_ok hc h
theorem codeK_ok {call : CS} (hc : CLe call (callS F)) {b : Env} {k : Nat} : ∀ {c : ACode} {t : ET} {g : G} {o t' g'}, codeK orc call b k c t g = some (o, t', g') → codeS F c (kev b t) g = some (o, kev b t', g') := by
  intro c
  induction c with
  | skip => intro t g o t' g' h; cases h; exact codeS_skip F _ _
  | lab => intro t g o t' g' h; cases h; exact codeS_lab F _ _
  | ext id => intro t g o t' g' h; cases h; exact codeS_ext F _ _ _
  | ret => intro t g o t' g' h; cases h; exact codeS_ret F _ _
  | scp c ih => intro t g o t' g' h; rw [codeS_scp]; exact ih h
  | lck n c ih => intro t g o t' g' h; rw [codeS_lck]; exact ih h
  | lckS n c ih => intro t g o t' g' h; rw [codeS_lckS]; exact ih h
  | tmp c ih =>
    intro t g o t' g' h
    have h : (none : Option (Out × ET × G)) = some (o, t', g') := h
    cases h
  | imm n c ih =>
    intro t g o t' g' h
    have h : (match frzK g.hp depth (kev b t n) with
      | some v => ET.putK v (n + 1) t n fun t' => codeK orc call b k c t' ⟨lock g.hp (vis g.hp depth (kev b t n)), g.nx⟩
      | none => none) = some (o, t', g') := h
    rw [frzK_ok] at h
    rw [codeS_imm]
    cases hf : frz g.hp depth (kev b t n) with
    | none => rw [hf] at h; cases h
    | some v =>
      rw [hf] at h
      obtain ⟨t1, e1, e2⟩ := putO_ok b (some n) v t fun t' => codeK orc call b k c t' ⟨lock g.hp (vis g.hp depth (kev b t n)), g.nx⟩
      have e1' : ET.putK v (n + 1) t n (fun t' => codeK orc call b k c t' ⟨lock g.hp (vis g.hp depth (kev b t n)), g.nx⟩) = _ := e1
      simp only [e1'] at h
      have e3 : upd (kev b t) n v = kev b t1 := e2.symm
      simp only [e3]
      exact ih h
  | reg draw ops =>
    intro t g o t' g' h
    have h : (frcN g.nx fun base => frcN (base + ops.length) fun nx => match regK orc call b draw base ops 0 t ⟨g.hp, nx⟩ with
      | some (t, g) => some (Out.nrm, t, g)
      | none => none) = some (o, t', g') := h
    simp only [frcN_ok] at h
    rw [codeS_reg]
    cases hr : regK orc call b draw g.nx ops 0 t ⟨g.hp, g.nx + ops.length⟩ with
    | none => rw [hr] at h; cases h
    | some r =>
      obtain ⟨t1, g1⟩ := r
      rw [hr] at h
      cases h
      rw [regK_ok ho hc hr]
  | seq x y ihx ihy =>
    intro t g o t' g' h
    have h : (match codeK orc call b k x t g with
      | some (.nrm, t, g) => codeK orc call b k y t g
      | r => r) = some (o, t', g') := h
    rw [codeS_seq]
    cases hx : codeK orc call b k x t g with
    | none => rw [hx] at h; cases h
    | some r =>
      obtain ⟨o1, t1, g1⟩ := r
      rw [hx] at h
      rw [ihx hx]
      cases o1 with
      | nrm => exact ihy h
      | ext n => cases h; rfl
      | ret => cases h; rfl
  | cond x y z ihy ihz =>
    intro t g o t' g' h
    have h : (match x.ev (kev b t) with
      | .b w => Bool.rec (motive := fun _ => Option (Out × ET × G)) (codeK orc call b k z t g) (codeK orc call b k y t g) w
      | _ => none) = some (o, t', g') := h
    rw [codeS_cond]
    generalize x.ev (kev b t) = v at h ⊢
    cases v with
    | b w =>
      cases w with
      | true => exact ihy h
      | false => exact ihz h
    | _ => cases h
  | blk id c ih =>
    intro t g o t' g' h
    have h : (match codeK orc call b k c t g with
      | some (.ext n, t, g) => some (Bool.rec (motive := fun _ => Out) (.ext n) .nrm (Nat.beq n id), t, g)
      | r => r) = some (o, t', g') := h
    rw [codeS_blk]
    cases hx : codeK orc call b k c t g with
    | none => rw [hx] at h; cases h
    | some r =>
      obtain ⟨o1, t1, g1⟩ := r
      rw [hx] at h
      rw [ih hx]
      cases o1 with
      | nrm => cases h; rfl
      | ret => cases h; rfl
      | ext n =>
        simp only at h ⊢
        cases hb : Nat.beq n id with
        | true => rw [hb] at h; cases h; rw [if_pos (Nat.eq_of_beq_eq_true hb)]
        | false => rw [hb] at h; cases h; rw [if_neg (Nat.ne_of_beq_eq_false hb)]
  | loop c ih =>
    intro t g o t' g' h
    have key : ∀ (j : Nat) (t : ET) (g : G), iterK (codeK orc call b k c) j t g = some (o, t', g') → codeS F (.loop c) (kev b t) g = some (o, kev b t', g') := by
      intro j
      induction j with
      | zero => intro t g h; cases h
      | succ j ihj =>
        intro t g h
        have h : (match codeK orc call b k c t g with
          | some (.nrm, t, g) => iterK (codeK orc call b k c) j t g
          | r => r) = some (o, t', g') := h
        rw [codeS_loop]
        cases hx : codeK orc call b k c t g with
        | none => rw [hx] at h; cases h
        | some r =>
          obtain ⟨o1, t1, g1⟩ := r
          rw [hx] at h
          rw [ih hx]
          cases o1 with
          | nrm => exact ihj _ _ h
          | ext n => cases h; rfl
          | ret => cases h; rfl
    exact key k t g h
theorem callK_ok : ∀ (k : Nat), CLe (callK orc F k) (callS F)
  | 0 => fun _ _ _ _ h => by cases h
  | k + 1 => fun f asx g r h => by
    have h : (match F f with
      | none => none
      | some fn => match codeK orc (callK orc F k) (argEnv asx) k fn.body .leaf g with
        | some (.nrm, t, g) => (resE fn.res (kev (argEnv asx) t) g).map (·, g)
        | some (.ret, t, g) => (resE fn.res (kev (argEnv asx) t) g).map (·, g)
        | _ => none) = some r := h
    rw [callS_eq]
    cases hF : F f with
    | none => rw [hF] at h; cases h
    | some fn =>
      rw [hF] at h
      simp only at h ⊢
      have e0 : kev (argEnv asx) .leaf = argEnv asx := rfl
      cases hx : codeK orc (callK orc F k) (argEnv asx) k fn.body .leaf g with
      | none => rw [hx] at h; cases h
      | some q =>
        obtain ⟨o1, t1, g1⟩ := q
        rw [hx] at h
        have := codeK_ok ho (callK_ok k) hx
        rw [e0] at this
        rw [this]
        cases o1 with
        | nrm => exact h
        | ext n => cases h
        | ret => exact h
noncomputable def evK (orc : Orc) (F : Funs) (k : Nat) (rs : List ARes) (c : ACode) (e : Env) (g : G) : Bool :=
  match codeK orc (callK orc F k) e k c .leaf g with
  | some (.nrm, t, g) => (match resE rs (kev e t) g with | some v => (match frzK g.hp depth v with | some (.b x) => x | _ => false) | none => false)
  | some (.ret, t, g) => (match resE rs (kev e t) g with | some v => (match frzK g.hp depth v with | some (.b x) => x | _ => false) | none => false)
  | _ => false
theorem W_eval (k : Nat) {rs : List ARes} {c : ACode} {e : Env} {g : G} (h : evK orc F k rs c e g = true) : W F c e g (retQ rs (.b true)) := by
  unfold evK at h
  have fin : ∀ (t : ET) (g : G), (match resE rs (kev e t) g with | some v => (match frzK g.hp depth v with | some (.b x) => x | _ => false) | none => false) = true → (match resE rs (kev e t) g with | some v0 => frz g.hp depth v0 | none => none) = some (.b true) := by
    intro t g h
    cases hr : resE rs (kev e t) g with
    | none => rw [hr] at h; cases h
    | some v =>
      rw [hr] at h
      simp only [frzK_ok] at h ⊢
      cases hf : frz g.hp depth v with
      | none => rw [hf] at h; cases h
      | some w =>
        rw [hf] at h
        cases w <;> first | (cases h; done) | (simp only at h; subst h; rfl)
  split at h
  · rename_i t g1 hx
    exact ⟨_, _, _, codeK_ok ho (callK_ok ho k) hx, fin t g1 h⟩
  · rename_i t g1 hx
    exact ⟨_, _, _, codeK_ok ho (callK_ok ho k) hx, fin t g1 h⟩
  · cases h
theorem pure_eval (k : Nat) {f : Nat} {fn : AFun} {asx : List AV} (hF : F f = some fn) (h : evK orc F k fn.res fn.body (argEnv asx) g0 = true) : pureS F f asx = some (.b true) :=
  pure_of hF (W_eval ho k h)
end
def orc0 : Orc := fun _ _ => none
theorem orc0_ok (F : Funs) : OrcOk F orc0 := fun _ _ _ h => by cases h
end Go.Ab
end
section
set_option linter.unusedVariables false
set_option linter.unusedSimpArgs false
namespace Go.Ab
open Go.RowKit
def ShR (S : List AV → Prop) (n : Nat) (asx : List AV) : Prop := ∃ rows : List (List AV), rows.length = n ∧ asx = rows.flatten ∧ ∀ r ∈ rows, S r
def ShL (S : TypeId → List AV → Prop) : List TypeId → List AV → Prop
  | [], asx => asx = []
  | t :: ts, asx => ∃ a b, asx = a ++ b ∧ S t a ∧ ShL S ts b
def Sh (P : Program) : Nat → TypeId → List AV → Prop
  | 0, _, _ => False
  | m + 1, t, asx => match P.underlying t with
    | some .bool => ∃ b, asx = [.b b]
    | some (.int k) => ∃ n, asx = [.i k n] ∧ (Lit.int k n).wf = true
    | some .string => ∃ s, asx = [.s s] ∧ s.size ≤ maxLen
    | some (.slice e) => ∃ cs n, asx = [.sl cs n .non] ∧ n ≤ maxLen ∧ ShR (Sh P m e) n cs
    | some (.pointer e) => asx = [.nilp] ∨ ∃ cs, asx = [.ptr cs] ∧ Sh P m e cs
    | some (.struct fs) => ShL (Sh P m) (fs.toList.map (·.type)) asx
    | some (.array n e) => ShR (Sh P m e) n asx
    | _ => False
def fieldsOk (P : Program) : Nat → List Field → Nat → Bool
  | o, [], n => o == n
  | o, f :: fs, n => (f.offset == o) && fieldsOk P (o + P.cellsOf f.type) fs n
def plainB (P : Program) : Nat → TypeId → Bool
  | 0, _ => false
  | m + 1, t => match P.underlying t with
    | some .bool | some (.int _) | some .string => true
    | some (.slice e) => plainB P m e
    | some (.pointer e) => plainB P m e
    | some (.struct fs) => fieldsOk P 0 fs.toList (P.cellsOf t) && fs.toList.all (fun f => plainB P m f.type)
    | some (.array n e) => (P.cellsOf t == n * P.cellsOf e) && plainB P m e
    | _ => false
section
variable {H : Type} {enc : TypeId × Value → H} {P : Program} {c : Cx}
theorem add_add' (a : Addr) (m n : Nat) : (a.add m).add n = a.add (m + n) := by
  unfold Addr.add
  by_cases hm : m = 0 <;> by_cases hn : n = 0 <;> simp [hm, hn, Nat.add_assoc]
theorem I_cell (hb : c.base = c.w.heap.size) (hJ : c.J = fun _ => True) {a : Addr} {v : Value} (h : c.w.cell? a = some v) : c.I a := .inl ⟨by rw [hb]; exact block_lt_of_cell h, by rw [hJ]; trivial⟩
theorem read_rows {S : List AV → Prop} {sz : Nat} {a : Addr} {n : Nat}
    (h : ∀ i, i < n → ∃ row rs, c.w.cells? 0 (a.add (i * sz)) sz = some row ∧ S rs ∧ Reps c false rs row ∧ ∀ v ∈ row, v.oneCell' = true) :
    ∃ cs vs, ShR S n cs ∧ Reps c false cs vs ∧ vs.length = n * sz ∧ (∀ v ∈ vs, v.oneCell' = true) ∧ ∀ j, j < n * sz → c.w.cell? (a.add j) = vs[j]? := by
  induction n with
  | zero => exact ⟨[], [], ⟨[], rfl, rfl, fun _ h => by cases h⟩, Reps.nil, by simp, (fun v (h : v ∈ ([] : List Value)) => by cases h), fun j hj => by omega⟩
  | succ n ih =>
    obtain ⟨cs, vs, ⟨rows, hl, rfl, hS⟩, hR, hlen, h1, hcell⟩ := ih fun i hi => h i (by omega)
    obtain ⟨row, rs, hc, hSr, hRr, h1r⟩ := h n (by omega)
    obtain ⟨_, hrl, hrc⟩ := World.cells?_some hc
    refine ⟨_, vs ++ row, ⟨rows ++ [rs], by simp [hl], rfl, ?_⟩, ?_, ?_, ?_, ?_⟩
    · intro r hr
      rcases List.mem_append.1 hr with hr | hr
      · exact hS r hr
      · rw [List.mem_singleton.1 hr]; exact hSr
    · simp only [List.flatten_append, List.flatten_cons, List.flatten_nil, List.append_nil]
      exact hR.append hRr
    · rw [List.length_append, hlen, hrl, Nat.succ_mul]
    · intro v hv
      rcases List.mem_append.1 hv with hv | hv
      · exact h1 v hv
      · exact h1r v hv
    · intro j hj
      rw [Nat.succ_mul] at hj
      by_cases hjn : j < n * sz
      · rw [List.getElem?_append_left (by omega)]; exact hcell j hjn
      · rw [List.getElem?_append_right (by omega), hlen, ← hrc (j - n * sz) (by omega), add_add']
        rw [show n * sz + (j - n * sz) = j by omega]
theorem read_cells (hb : c.base = c.w.heap.size) (hJ : c.J = fun _ => True) : ∀ (m : Nat) {t : TypeId} {fuel : Nat} {cs : List Value} {x : DataW H × List MemPlace},
    plainB P m t = true → DataW.trod enc P c.w 0 (fun _ => true) true fuel t cs = some x → ∃ asx, Sh P m t asx ∧ Reps c false asx cs ∧ ∀ v ∈ cs, v.oneCell' = true
  | 0, _, _, _, _, h, _ => by simp [plainB] at h
  | m + 1, t, fuel, cs, x, hp, h => by
    have one : ∀ {y : AV} {v : Value}, Rep c false y v → v.oneCell' = true → Reps c false [y] [v] ∧ ∀ u ∈ [v], u.oneCell' = true := fun hr h1 =>
      ⟨Reps.cons hr Reps.nil, fun u hu => by rw [List.mem_singleton.1 hu]; exact h1⟩
    simp only [plainB] at hp
    cases ht : P.underlying t with
    | none => rw [ht] at hp; cases hp
    | some d =>
      rw [ht] at hp
      cases d with
      | bool =>
        obtain ⟨b, rfl, _⟩ := DataW.trod_bool ht h
        exact ⟨[.b b], by simp only [Sh, ht]; exact ⟨b, rfl⟩, one (.b b) rfl⟩
      | int k =>
        obtain ⟨n, rfl, _, hw⟩ := DataW.trod_int ht h
        exact ⟨[.i k n], by simp only [Sh, ht]; exact ⟨n, rfl, hw⟩, one (.i k n) rfl⟩
      | string =>
        obtain ⟨s, rfl, _, hs⟩ := DataW.trod_string ht h
        exact ⟨[.s s], by simp only [Sh, ht]; exact ⟨s, rfl, hs⟩, one (.s s) rfl⟩
      | slice e =>
        rcases DataW.trod_slice ht h with ⟨rfl, _⟩ | ⟨a, len, cap, elems, rest, n, rfl, rfl, _, _, hl, hm, hel, hget, _, _⟩
        · refine ⟨[.sl [] 0 .non], by simp only [Sh, ht]; exact ⟨[], 0, rfl, Nat.zero_le _, [], rfl, rfl, fun _ h => by cases h⟩, one ?_ rfl⟩
          exact .sl ⟨0, 0, none⟩ [] (Nat.le_refl _) (Nat.zero_le _) (fun h => by cases h) (fun _ _ _ h => by cases h) (fun h => by omega) (fun _ h => by cases h) rfl (fun h => absurd rfl h) (fun j v h => by simp at h) (fun j x v h => by simp at h) (fun _ _ h => by cases h)
        · obtain ⟨asx, vs, hS, hR, hlen, h1, hcell⟩ := read_rows (c := c) (S := Sh P m e) (sz := P.cellsOf e) (a := a) (n := len) fun i hi => by
            have hg := hget i hi
            cases hc : c.w.cells? 0 (a.add (i * P.cellsOf e)) (P.cellsOf e) with
            | none => rw [hc] at hg; simp at hg; omega
            | some row =>
              rw [hc, Option.bind_some, List.getElem?_eq_getElem (by omega)] at hg
              obtain ⟨rs, h1, h2, h3⟩ := read_cells hb hJ m hp hg
              exact ⟨row, rs, rfl, h1, h2, h3⟩
          have hk : ∀ (j : Nat) v, vs[j]? = some v → c.I (a.add j) ∧ c.w.cell? (a.add j) = some v := fun j v hv => by
            have hj : j < len * P.cellsOf e := by rw [← hlen]; exact (List.getElem?_eq_some_iff.1 hv).1
            have := (hcell j hj).trans hv
            exact ⟨I_cell hb hJ this, this⟩
          refine ⟨[.sl asx len .non], by simp only [Sh, ht]; exact ⟨asx, len, rfl, by omega, hS⟩, one ?_ rfl⟩
          exact .sl a vs hl hm (fun h => by cases h) (fun _ _ _ h => by cases h) (fun _ => rfl) h1 hR.1 (fun _ => rfl) hk (fun j x v hx hv => hR.2 j x v hx hv) (fun _ _ h => by cases h)
      | pointer e =>
        rcases DataW.trod_pointer ht h with ⟨rfl, _⟩ | ⟨a, cs', y, n, rfl, rfl, _, hc, hd⟩
        · exact ⟨[.nilp], by simp only [Sh, ht]; exact .inl trivial, one .nilp rfl⟩
        · obtain ⟨rs, h1, h2, h3⟩ := read_cells hb hJ m hp hd
          obtain ⟨_, hl, hcell⟩ := World.cells?_some hc
          have hk : ∀ (j : Nat) v, cs'[j]? = some v → c.I (a.add j) ∧ c.w.cell? (a.add j) = some v := fun j v hv => by
            have hj : j < P.cellsOf e := by rw [← hl]; exact (List.getElem?_eq_some_iff.1 hv).1
            have := (hcell j hj).trans hv
            exact ⟨I_cell hb hJ this, this⟩
          exact ⟨[.ptr rs], by simp only [Sh, ht]; exact .inr ⟨rs, rfl, h1⟩, one (.ptr a cs' h3 h2.1 hk (fun j x v hx hv => h2.2 j x v hx hv)) rfl⟩
      | struct fs =>
        simp only [Bool.and_eq_true, List.all_eq_true] at hp
        obtain ⟨xs, n, rfl, _, hcl, hxl, hget⟩ := DataW.trod_struct ht h
        have key : ∀ (l : List Field) (o : Nat) (i : Nat), fieldsOk P o l (P.cellsOf t) = true → o ≤ cs.length → (∀ f ∈ l, plainB P m f.type = true) → (∀ j f, l[j]? = some f → DataW.trod enc P c.w 0 (fun _ => true) true n f.type ((cs.drop f.offset).take (P.cellsOf f.type)) = xs[i + j]?) → i + l.length = xs.length →
            ∃ asx, ShL (Sh P m) (l.map (·.type)) asx ∧ Reps c false asx (cs.drop o) ∧ ∀ v ∈ cs.drop o, v.oneCell' = true := by
          intro l
          induction l with
          | nil =>
            intro o i hf ho _ _ _
            simp only [fieldsOk, beq_iff_eq] at hf
            have : cs.drop o = [] := List.drop_eq_nil_of_le (by omega)
            rw [this]
            exact ⟨[], rfl, Reps.nil, fun _ h => by cases h⟩
          | cons f l ih =>
            intro o i hf ho hpl hg hlen
            simp only [fieldsOk, Bool.and_eq_true, beq_iff_eq] at hf
            obtain ⟨hfo, hf⟩ := hf
            have hg0 := hg 0 f rfl
            simp only [List.length_cons] at hlen
            rw [List.getElem?_eq_getElem (by omega), hfo] at hg0
            obtain ⟨rs, h1, h2, h3⟩ := read_cells hb hJ m (hpl f (List.mem_cons_self ..)) hg0
            have mono : ∀ (l : List Field) (o : Nat), fieldsOk P o l (P.cellsOf t) = true → o ≤ P.cellsOf t := by
              intro l
              induction l with
              | nil => intro o h; simp only [fieldsOk, beq_iff_eq] at h; omega
              | cons f l ih => intro o h; simp only [fieldsOk, Bool.and_eq_true] at h; have := ih _ h.2; omega
            have ho2 := mono _ _ hf
            obtain ⟨asx, h4, h5, h6⟩ := ih (o + P.cellsOf f.type) (i + 1) hf (by omega) (fun g hg => hpl g (List.mem_cons_of_mem _ hg)) (fun j g hj => by
              have := hg (j + 1) g (by simpa using hj)
              rwa [show i + (j + 1) = i + 1 + j by omega] at this) (by omega)
            have hsplit : cs.drop o = (cs.drop o).take (P.cellsOf f.type) ++ cs.drop (o + P.cellsOf f.type) := by
              rw [← List.drop_drop, List.take_append_drop]
            rw [hsplit]
            refine ⟨rs ++ asx, ⟨rs, asx, rfl, h1, h4⟩, h2.append h5, fun v hv => ?_⟩
            rcases List.mem_append.1 hv with hv | hv
            · exact h3 v hv
            · exact h6 v hv
        obtain ⟨asx, h1, h2, h3⟩ := key fs.toList 0 0 hp.1 (Nat.zero_le _) hp.2 (fun j f hj => by
          have := hget j f (by simpa using hj)
          rwa [show 0 + j = j by omega]) (by simp [hxl])
        exact ⟨asx, by simp only [Sh, ht]; exact h1, by simpa using h2, by simpa using h3⟩
      | array n e =>
        simp only [Bool.and_eq_true, beq_iff_eq] at hp
        obtain ⟨xs, q, rfl, _, hcl, hxl, hget⟩ := DataW.trod_array ht h
        have key : ∀ i, i ≤ n → ∃ asx, ShR (Sh P m e) i asx ∧ Reps c false asx (cs.take (i * P.cellsOf e)) ∧ ∀ v ∈ cs.take (i * P.cellsOf e), v.oneCell' = true := by
          intro i
          induction i with
          | zero => intro _; exact ⟨[], ⟨[], rfl, rfl, fun _ h => by cases h⟩, by simpa using Reps.nil, by simp⟩
          | succ i ih =>
            intro hi
            obtain ⟨asx, ⟨rows, hl, rfl, hS⟩, h2, h3⟩ := ih (by omega)
            have hg := hget i (by omega)
            rw [List.getElem?_eq_getElem (by omega)] at hg
            obtain ⟨rs, h4, h5, h6⟩ := read_cells hb hJ m hp.2 hg
            have hsplit : cs.take ((i + 1) * P.cellsOf e) = cs.take (i * P.cellsOf e) ++ (cs.drop (i * P.cellsOf e)).take (P.cellsOf e) := by
              rw [Nat.succ_mul, List.take_add]
            rw [hsplit]
            refine ⟨_, ⟨rows ++ [rs], by simp [hl], rfl, fun r hr => ?_⟩, ?_, fun v hv => ?_⟩
            · rcases List.mem_append.1 hr with hr | hr
              · exact hS r hr
              · rw [List.mem_singleton.1 hr]; exact h4
            · simp only [List.flatten_append, List.flatten_cons, List.flatten_nil, List.append_nil]
              exact h2.append h5
            · rcases List.mem_append.1 hv with hv | hv
              · exact h3 v hv
              · exact h6 v hv
        obtain ⟨asx, h1, h2, h3⟩ := key n (Nat.le_refl _)
        have hall : cs.take (n * P.cellsOf e) = cs := List.take_of_length_le (by omega)
        rw [hall] at h2 h3
        exact ⟨asx, by simp only [Sh, ht]; exact h1, h2, h3⟩
      | _ => cases hp
theorem read_one (hb : c.base = c.w.heap.size) (hJ : c.J = fun _ => True) (m : Nat) {t : TypeId} {v : Value} {d : DataW H} {ps : List MemPlace} (hp : plainB P m t = true) (hv : v.cells = #[v]) (h : DataW.Trod enc P c.w 0 (fun _ => true) true t v d ps) :
    ∃ x, Sh P m t [x] ∧ Rep c true x v := by
  obtain ⟨fuel, hf⟩ := h
  rw [hv] at hf
  obtain ⟨asx, h1, h2, _⟩ := read_cells hb hJ m hp hf
  have hl : asx.length = 1 := by simpa using h2.1
  match asx, hl with
  | [x], _ => exact ⟨x, h1, (h2.2 0 x v rfl rfl).up⟩
end
end Go.Ab
end
section
set_option linter.unusedVariables false
set_option linter.unusedSimpArgs false
namespace Go.Ab
open Go.RowKit
def c0 (num : Nat → Nat) (w : World) : Cx := ⟨num, w.heap.size, fun _ => True, w, fun _ => (0, 0), fun _ => none⟩
theorem row_calls {P : Program} {num : Nat → Nat} {F : Funs} (hT : Table P num F) (hm : P.follows .mixedOrders = true) {f : Nat} {asx : List AV} {b : Bool} (h : pureS F f asx = some (.b b)) {w : World} {vargs : List Value} (hr : Reps (c0 num w) true asx vargs) :
    Calls P (num f) vargs.toArray w (fun e w' => e = .returned (.bool b) ∧ Below w.heap.size w w') := by
  obtain ⟨k, g', hk⟩ := pureS_bool h
  have K : Ok (c0 num w) 0 := {
    basele := Nat.le_refl _
    cells := fun _ _ _ h => by cases h
    maps := fun _ _ h => by cases h
    toks := fun _ h => by cases h
    inj := fun _ _ _ h => by obtain ⟨_, h, _⟩ := h; cases h
    fresh := fun _ _ => rfl }
  have := ((callE_ok hT hm k).2 f asx g0 _ _ hk).2 (c0 num w) vargs rfl rfl K hr
  refine Calls.mono this.1 fun e w' ⟨val, c', h1, h2, E, _, _, hrep⟩ => ?_
  cases hrep
  exact ⟨h1, h2 ▸ E.below⟩
def intsC (l : List Int) : List AV := l.map fun v => .i .i64 v
def pairsC (l : List (Int × Int)) : List AV := l.flatMap fun p => [.i .i64 p.1, .i .i64 p.2]
theorem sh_ints {P : Program} {t e : TypeId} {x : AV} (ht : P.underlying t = some (.slice e)) (he : P.underlying e = some (.int .i64)) (h : Sh P 2 t [x]) :
    ∃ l : List Int, x = .sl (intsC l) l.length .non ∧ l.length ≤ maxLen ∧ ∀ n ∈ l, (Lit.int .i64 n).wf = true := by
  simp only [Sh, ht, he] at h
  obtain ⟨cs, n, hx, hn, rows, hl, rfl, hS⟩ := h
  cases hx
  have key : ∀ rows : List (List AV), (∀ r ∈ rows, ∃ n, r = [AV.i .i64 n] ∧ (Lit.int .i64 n).wf = true) → ∃ l : List Int, rows.flatten = intsC l ∧ l.length = rows.length ∧ ∀ n ∈ l, (Lit.int .i64 n).wf = true := by
    intro rows
    induction rows with
    | nil => intro _; exact ⟨[], rfl, rfl, fun _ h => by cases h⟩
    | cons r rows ih =>
      intro h
      obtain ⟨n, rfl, hn⟩ := h r (List.mem_cons_self ..)
      obtain ⟨l, h1, h2, h3⟩ := ih fun r hr => h r (List.mem_cons_of_mem _ hr)
      refine ⟨n :: l, by rw [List.flatten_cons, h1]; rfl, by simp [h2], fun m hm => ?_⟩
      rcases List.mem_cons.1 hm with rfl | hm
      · exact hn
      · exact h3 m hm
  obtain ⟨l, h1, h2, h3⟩ := key rows hS
  exact ⟨l, by rw [h1, ← hl, h2], by omega, h3⟩
end Go.Ab
end
section
set_option linter.unusedVariables false
set_option linter.unusedSimpArgs false
namespace Go.Ab
abbrev Rw := Nat → BitVec 64
def U (x : BitVec 64) : AV := .i .u64 (x.toNat : Int)
def rowsC (R : Rw) : List AV := (List.range 40).map fun a => U (R a)
def relC (n : Nat) (R : Rw) : List AV := .i .i64 n :: rowsC R
theorem rowsC_len (R : Rw) : (rowsC R).length = 40 := by simp [rowsC]
theorem rowsC_get {R : Rw} {a : Nat} (h : a < 40) : (rowsC R)[a]? = some (U (R a)) := by
  simp [rowsC, h]
end Go.Ab
end
section
set_option linter.unusedVariables false
set_option linter.unusedSimpArgs false
namespace Go.Ab
variable {F : Funs}
def has (n : Nat) (R : Rw) (a b : Int) : Bool := decide (0 ≤ a ∧ a < n ∧ 0 ≤ b ∧ b < n) && (R a.toNat).getLsbD b.toNat
end Go.Ab
end
section
set_option linter.unusedVariables false
set_option linter.unusedSimpArgs false
namespace Go.Ab
variable {F : Funs}
theorem i64_wrap {x : Int} (h : -9223372036854775808 ≤ x) (h2 : x ≤ 9223372036854775807) : IntKind.i64.wrap x = x := by
  simp [IntKind.wrap, IntKind.bits, IntKind.signed, IntKind.min, IntKind.max]
  omega
end Go.Ab
end
section
set_option linter.unusedVariables false
set_option linter.unusedSimpArgs false
namespace Go.Ab
variable {F : Funs}
theorem succ_wrap {k : Nat} (h : k < 9000000000000000000) : IntKind.i64.wrap ((k : Int) + 1) = ((k + 1 : Nat) : Int) := by rw [i64_wrap (by omega) (by omega)]; omega
end Go.Ab
end
section
set_option linter.unusedVariables false
set_option linter.unusedSimpArgs false
namespace Go.Ab
variable {F : Funs}
def Live (g : G) (esz : Nat) (t : Tok) : Prop := t = .rig ∨ ∃ τ, t = .own τ esz ∧ g.hp τ = some (.tok true) ∧ τ < g.nx
end Go.Ab
end
section
set_option linter.unusedVariables false
set_option linter.unusedSimpArgs false
namespace Go.Ab
def hb (R : Rw) (a b : Nat) : Bool := (R a).getLsbD b
def hN (n : Nat) (R : Rw) (a b : Nat) : Bool := decide (a < n) && decide (b < n) && hb R a b
inductive Thru (r : Nat → Nat → Prop) (k : Nat) : Nat → Nat → Prop
  | one {a b} : r a b → Thru r k a b
  | join {a c b} : c < k → Thru r k a c → Thru r k c b → Thru r k a b
theorem Thru.mono {r : Nat → Nat → Prop} {k k' : Nat} (h : k ≤ k') {a b : Nat} (t : Thru r k a b) : Thru r k' a b := by
  induction t with
  | one h => exact .one h
  | join hc _ _ ih1 ih2 => exact .join (by omega) ih1 ih2
inductive Steps' (r : Nat → Nat → Prop) : Nat → Nat → Prop
  | one {a b} : r a b → Steps' r a b
  | join {a c b} : Steps' r a c → Steps' r c b → Steps' r a b
end Go.Ab
end
section
set_option linter.unusedVariables false
set_option linter.unusedSimpArgs false
namespace Go.Ab
variable {F : Funs}
theorem t1_neg (u n : Int) (e1 : u % n + n * (u / n) = u) : -u = (n - u % n) + n * (-(u / n) - 1) := by
  have e2 : n * (-(u / n) - 1) = -(n * (u / n)) - n := by rw [Int.mul_sub, Int.mul_neg, Int.mul_one]
  rw [e2]
  generalize n * (u / n) = c at *
  generalize u % n = b at *
  omega
theorem tmod_cases {v n : Int} (hn : 0 < n) : (if v.tmod n < 0 then v.tmod n + n else v.tmod n) = v % n := by
  have h2 := Int.emod_nonneg v (by omega : n ≠ 0)
  have h3 := Int.emod_lt_of_pos v hn
  by_cases hv : 0 ≤ v
  · rw [Int.tmod_eq_emod_of_nonneg hv, if_neg (by omega)]
  · obtain ⟨u, rfl⟩ : ∃ u, v = -u := ⟨-v, by omega⟩
    rw [Int.neg_tmod, Int.tmod_eq_emod_of_nonneg (by omega : 0 ≤ u)]
    have h4 := Int.emod_nonneg u (by omega : n ≠ 0)
    have h5 := Int.emod_lt_of_pos u hn
    have e1 := Int.emod_add_mul_ediv u n
    by_cases h6 : u % n = 0
    · rw [h6, Int.neg_zero, if_neg (by omega)]
      exact (Int.emod_eq_zero_of_dvd (Int.dvd_neg.2 (Int.dvd_of_emod_eq_zero h6))).symm
    · rw [if_pos (by omega)]
      have e3 : (-u) % n = n - u % n := by
        rw [t1_neg u n e1, Int.add_mul_emod_self_left, Int.emod_eq_of_lt (by omega) (by omega)]
      rw [e3]
      omega
theorem tmod_bound {v n : Int} (hn : 0 < n) : -n ≤ v.tmod n ∧ v.tmod n < n := by
  refine ⟨?_, Int.tmod_lt_of_pos v hn⟩
  have h1 := tmod_cases (v := v) hn
  have h2 := Int.emod_nonneg v (by omega : n ≠ 0)
  split at h1 <;> omega
def place (v n : Int) : Int := v % n
theorem place_lt {v n : Int} (hn : 0 < n) : 0 ≤ place v n ∧ place v n < n := ⟨Int.emod_nonneg v (by omega), Int.emod_lt_of_pos v hn⟩
theorem sp_place (h10 : F 10 = some A_xlaw00_Place) {v n : Int} (hn : 0 < n) (hb : n ≤ 4611686018427387904) : pureS F 10 [.i .i64 v, .i .i64 n] = some (.i .i64 (place v n)) := by
  refine pure_of h10 ?_
  have h1 := tmod_cases (v := v) hn
  obtain ⟨h2, h3⟩ := tmod_bound (v := v) hn
  unfold place
  by_cases h : v.tmod n < 0
  · have hw : IntKind.i64.wrap (v.tmod n + n) = v.tmod n + n := i64_wrap (by omega) (by omega)
    rw [if_pos h] at h1
    simp (disch := omega) only [A_xlaw00_Place, wp, Nat.reduceAdd, Nat.reduceMul, Nat.reduceSub, b_rem, h, hw]
    rw [h1]
  · rw [if_neg h] at h1
    simp (disch := omega) only [A_xlaw00_Place, wp, Nat.reduceAdd, Nat.reduceMul, Nat.reduceSub, b_rem, h]
    rw [h1]
end Go.Ab
end
section
set_option linter.unusedVariables false
set_option linter.unusedSimpArgs false
namespace Go.Ab
variable {F : Funs}
theorem ints_part {l : List Int} {k : Nat} (h : k < l.length) : part ((intsC l).drop (k * 1)) 0 none = some (.i .i64 (l.getD k 0)) := by
  simp only [part, intsC, List.getElem?_drop, Nat.mul_one, Nat.add_zero, List.getElem?_map, List.getElem?_eq_getElem h, Option.map_some, List.getD_eq_getElem?_getD, Option.getD_some]
theorem Steps'.mono {r s : Nat → Nat → Prop} (h : ∀ a b, r a b → s a b) {a b : Nat} (t : Steps' r a b) : Steps' s a b := by
  induction t with
  | one h' => exact .one (h _ _ h')
  | join _ _ i1 i2 => exact .join i1 i2
theorem Steps'.first {r : Nat → Nat → Prop} {a b : Nat} (t : Steps' r a b) : r a b ∨ ∃ c, r a c ∧ Steps' r c b := by
  induction t with
  | one h => exact .inl h
  | @join a c b t1 t2 i1 i2 =>
    rcases i1 with h | ⟨d, h1, h2⟩
    · exact .inr ⟨c, h, t2⟩
    · exact .inr ⟨d, h1, .join h2 t2⟩
end Go.Ab
end
section
set_option linter.unusedVariables false
set_option linter.unusedSimpArgs false
namespace Go.Ab
structure Ev where
  th : Int
  kd : Int
  md : Int
  lc : Int
  vl : Int
  ex : Bool
structure Gr where
  locs : Int
  evs : List Ev
  rf : List Int
  co : List (List Int)
  rmw : List (Int × Int)
  data : List (Int × Int)
  ctrl : List (Int × Int)
  ctrli : List (Int × Int)
def evC (e : Ev) : List AV := [.i .i64 e.th, .i .i64 e.kd, .i .i64 e.md, .i .i64 e.lc, .i .i64 e.vl, .b e.ex]
def evsC (l : List Ev) : List AV := l.flatMap evC
def coC (l : List (List Int)) : List AV := l.map fun c => .sl (intsC c) c.length .non
def grC (g : Gr) : List AV := [.i .i64 g.locs, .sl (evsC g.evs) g.evs.length .non, .sl (intsC g.rf) g.rf.length .non, .sl (coC g.co) g.co.length .non,
  .sl (pairsC g.rmw) g.rmw.length .non, .sl (pairsC g.data) g.data.length .non, .sl (pairsC g.ctrl) g.ctrl.length .non, .sl (pairsC g.ctrli) g.ctrli.length .non]
theorem evsC_len (l : List Ev) : (evsC l).length = l.length * 6 := by
  induction l with
  | nil => rfl
  | cons p l ih => simp only [evsC, List.flatMap_cons, List.length_append, List.length_cons, evC, List.length_nil] at ih ⊢; omega
theorem coC_len (l : List (List Int)) : (coC l).length = l.length := by simp [coC]
theorem splice_ev (e : Ev) : splice (List.replicate 5 (AV.i .i64 0) ++ [.b false]) 0 (evC e) = evC e := rfl
theorem part_22 (a b : AV) : part [a, b] 0 (some 2) = some (.agg [a, b]) := rfl
theorem evC_len (e : Ev) : (evC e).length = 6 := rfl
theorem evC_one (e : Ev) : (evC e).all one = true := rfl
theorem evC_flat (e : Ev) : (evC e).all flat = true := rfl
theorem evC_all (e : Ev) : part (evC e) 0 (some 6) = some (.agg (evC e)) := rfl
theorem ev_th (e : Ev) : part (evC e) 0 none = some (.i .i64 e.th) := rfl
theorem ev_kd (e : Ev) : part (evC e) 1 none = some (.i .i64 e.kd) := rfl
theorem ev_md (e : Ev) : part (evC e) 2 none = some (.i .i64 e.md) := rfl
theorem ev_lc (e : Ev) : part (evC e) 3 none = some (.i .i64 e.lc) := rfl
theorem ev_vl (e : Ev) : part (evC e) 4 none = some (.i .i64 e.vl) := rfl
theorem ev_ex (e : Ev) : part (evC e) 5 none = some (.b e.ex) := rfl
theorem grC_len (g : Gr) : (grC g).length = 8 := rfl
theorem grC_one (g : Gr) : (grC g).all one = true := rfl
theorem grC_all (g : Gr) : part (grC g) 0 (some 8) = some (.agg (grC g)) := rfl
theorem gr_locs (g : Gr) : part (grC g) 0 none = some (.i .i64 g.locs) := rfl
theorem gr_evs (g : Gr) : part (grC g) 1 none = some (.sl (evsC g.evs) g.evs.length .non) := rfl
theorem gr_rf (g : Gr) : part (grC g) 2 none = some (.sl (intsC g.rf) g.rf.length .non) := rfl
theorem gr_co (g : Gr) : part (grC g) 3 none = some (.sl (coC g.co) g.co.length .non) := rfl
theorem gr_rmw (g : Gr) : part (grC g) 4 none = some (.sl (pairsC g.rmw) g.rmw.length .non) := rfl
theorem gr_data (g : Gr) : part (grC g) 5 none = some (.sl (pairsC g.data) g.data.length .non) := rfl
theorem gr_ctrl (g : Gr) : part (grC g) 6 none = some (.sl (pairsC g.ctrl) g.ctrl.length .non) := rfl
theorem gr_ctrli (g : Gr) : part (grC g) 7 none = some (.sl (pairsC g.ctrli) g.ctrli.length .non) := rfl
theorem frz_gr (hp) (g : Gr) : frz hp depth (.agg (grC g)) = some (.agg (grC g)) := by
  refine frz_d_agg ?_
  show frzL hp (7 + 1) _ = _
  simp only [grC, frzL, frz]
theorem frz_ev (hp) (e : Ev) : frz hp depth (.agg (evC e)) = some (.agg (evC e)) := frz_d_agg (frzL_flat (d := 7) (evC_flat e))
theorem vis_gr (hp) (g : Gr) : vis hp depth (.agg (grC g)) = [] := by
  show vis hp (8 + 1) _ = _
  simp only [vis, grC, List.flatMap_cons, List.flatMap_nil, List.nil_append, List.append_nil]
theorem vis_ev (hp) (e : Ev) : vis hp depth (.agg (evC e)) = [] := by
  show vis hp (8 + 1) _ = _
  simp only [vis, evC, List.flatMap_cons, List.flatMap_nil, List.nil_append, List.append_nil]
set_option maxRecDepth 10000 in
theorem gl : type_of% (And.intro (And.intro (And.intro (And.intro (And.intro @evC_len @evC_one) (And.intro @evC_flat (And.intro @evC_all @ev_th))) (And.intro (And.intro @ev_kd @ev_md) (And.intro @ev_lc (And.intro @ev_vl @ev_ex)))) (And.intro (And.intro (And.intro @grC_len @grC_one) (And.intro @grC_all (And.intro @gr_locs @gr_evs))) (And.intro (And.intro @gr_rf (And.intro @gr_co @gr_rmw)) (And.intro @gr_data (And.intro @gr_ctrl @gr_ctrli))))) (And.intro (And.intro (And.intro (And.intro @frz_gr @frz_ev) (And.intro @vis_gr (And.intro @vis_ev @splice_ev))) (And.intro (And.intro @evsC_len @coC_len) (And.intro @o_raw (And.intro @vRaw_fn @res_0)))) (And.intro (And.intro (And.intro @retP_nrm @retP_ret) (And.intro @o_mget (And.intro @vMget_S @mgS_map))) (And.intro (And.intro @o_mkmap (And.intro @o_mput @vMput_S)) (And.intro @mpS_map (And.intro @mpO_none @part_22)))))) := (And.intro (And.intro (And.intro (And.intro (And.intro @evC_len @evC_one) (And.intro @evC_flat (And.intro @evC_all @ev_th))) (And.intro (And.intro @ev_kd @ev_md) (And.intro @ev_lc (And.intro @ev_vl @ev_ex)))) (And.intro (And.intro (And.intro @grC_len @grC_one) (And.intro @grC_all (And.intro @gr_locs @gr_evs))) (And.intro (And.intro @gr_rf (And.intro @gr_co @gr_rmw)) (And.intro @gr_data (And.intro @gr_ctrl @gr_ctrli))))) (And.intro (And.intro (And.intro (And.intro @frz_gr @frz_ev) (And.intro @vis_gr (And.intro @vis_ev @splice_ev))) (And.intro (And.intro @evsC_len @coC_len) (And.intro @o_raw (And.intro @vRaw_fn @res_0)))) (And.intro (And.intro (And.intro @retP_nrm @retP_ret) (And.intro @o_mget (And.intro @vMget_S @mgS_map))) (And.intro (And.intro @o_mkmap (And.intro @o_mput @vMput_S)) (And.intro @mpS_map (And.intro @mpO_none @part_22))))))
end Go.Ab
end
section
set_option linter.unusedVariables false
set_option linter.unusedSimpArgs false
namespace Go.Ab
variable {F : Funs}
structure EcoSt (X : Gr) (l : List (Int × Int)) (g : G) : Prop where
  gr : g.hp 0 = some (.cells (grC X) false)
  put : ∃ t, g.hp 2 = some (.cells [.sl (pairsC l) l.length t] false) ∧ Live g 2 t
  f4 : g.hp 4 = some (.cells [.fn 92 [] [.mp 2 0]] false)
  f7 : g.hp 7 = some (.cells [.fn 93 [] [.mp 0 0, .mp 4 0]] false)
  m9 : g.hp 9 = some (.map [(.s ⟨#[114, 102]⟩, .fn 94 [] [.mp 4 0]), (.s ⟨#[99, 111]⟩, .fn 95 [] [.mp 7 0]), (.s ⟨#[102, 114]⟩, .fn 96 [] [.mp 7 0])])
  nx : 9 < g.nx
def Kept (g g' : G) : Prop := g.nx ≤ g'.nx ∧ ∀ i, 9 < i → i < g.nx → CM (g.hp i) → g'.hp i = g.hp i
theorem Kept.refl (g : G) : Kept g g := ⟨Nat.le_refl _, fun _ _ _ _ => rfl⟩
theorem Kept.trans {g g1 g2 : G} (h : Kept g g1) (k : Kept g1 g2) : Kept g g2 := ⟨Nat.le_trans h.1 k.1, fun i h1 h2 h3 => by
  have e := h.2 i h1 h2 h3
  rw [← e]
  exact k.2 i h1 (Nat.lt_of_lt_of_le h2 h.1) (by rw [e]; exact h3)⟩
theorem EcoSt.same {X : Gr} {l : List (Int × Int)} {g g' : G} (h : EcoSt X l g) (k : Kept g g') (h9 : ∀ i, i ≤ 9 → g'.hp i = g.hp i) (ht : ∀ i b, g.hp i = some (.tok b) → g'.hp i = g.hp i) : EcoSt X l g' := by
  obtain ⟨t, h1, h2⟩ := h.put
  refine ⟨by rw [h9 0 (by omega)]; exact h.gr, ⟨t, by rw [h9 2 (by omega)]; exact h1, ?_⟩, by rw [h9 4 (by omega)]; exact h.f4, by rw [h9 7 (by omega)]; exact h.f7, by rw [h9 9 (by omega)]; exact h.m9, Nat.lt_of_lt_of_le h.nx k.1⟩
  rcases h2 with rfl | ⟨τ, rfl, hτ, hlt⟩
  · exact .inl rfl
  · exact .inr ⟨τ, rfl, by rw [ht τ _ hτ]; exact hτ, Nat.lt_of_lt_of_le hlt k.1⟩
end Go.Ab
end
section
set_option linter.unusedVariables false
set_option linter.unusedSimpArgs false
namespace Go.Ab
variable {F : Funs}
theorem EcoSt.on {X : Gr} {l : List (Int × Int)} {g : G} (h : EcoSt X l g) {n : Nat} (hn : g.nx ≤ n) : EcoSt X l ⟨g.hp, n⟩ :=
  h.same ⟨hn, fun _ _ _ _ => rfl⟩ (fun _ _ => rfl) (fun _ _ _ => rfl)
theorem Kept.on {g g' : G} (h : Kept g g') {n : Nat} (hn : g'.nx ≤ n) : Kept g ⟨g'.hp, n⟩ := ⟨Nat.le_trans h.1 hn, h.2⟩
theorem Kept.from {g g' : G} {n : Nat} (hn : g.nx ≤ n) (h : Kept ⟨g.hp, n⟩ g') : Kept g g' := ⟨Nat.le_trans hn h.1, fun i h1 h2 h3 => h.2 i h1 (Nat.lt_of_lt_of_le h2 hn) h3⟩
end Go.Ab
end
section
set_option linter.unusedVariables false
set_option linter.unusedSimpArgs false
namespace Go.Ab
variable {F : Funs}
theorem EcoSt.grow {X : Gr} {l : List (Int × Int)} {g g' : G} (h : EcoSt X l g) (hn : g.nx ≤ g'.nx) (ho : ∀ i, i < g.nx → g'.hp i = g.hp i) : EcoSt X l g' ∧ Kept g g' := by
  have h9 := h.nx
  obtain ⟨t, h1, h2⟩ := h.put
  refine ⟨⟨by rw [ho 0 (by omega)]; exact h.gr, ⟨t, by rw [ho 2 (by omega)]; exact h1, ?_⟩, by rw [ho 4 (by omega)]; exact h.f4, by rw [ho 7 (by omega)]; exact h.f7, by rw [ho 9 (by omega)]; exact h.m9, by omega⟩, hn, fun i _ hi _ => ho i hi⟩
  rcases h2 with rfl | ⟨τ, rfl, hτ, hlt⟩
  · exact .inl rfl
  · exact .inr ⟨τ, rfl, by rw [ho τ hlt]; exact hτ, by omega⟩
end Go.Ab
end
section
set_option linter.unusedVariables false
set_option linter.unusedSimpArgs false
namespace Go.Ab
variable {F : Funs}
def Lst (R : Rw) (zs : List Nat) : Prop := zs.length = 40 ∧ ∀ a, a < 40 → (R a).toNat = zs.getD a 0
theorem Lst.cells {n : Nat} {R : Rw} {zs : List Nat} (h : Lst R zs) : relC n R = .i .i64 n :: zs.map fun (x : Nat) => .i .u64 (x : Int) := by
  show AV.i .i64 (n : Int) :: rowsC R = _
  congr 1
  refine List.ext_getElem? fun i => ?_
  by_cases hi : i < 40
  · rw [rowsC_get hi, List.getElem?_map, List.getElem?_eq_getElem (by rw [h.1]; exact hi)]
    simp only [Option.map_some, U]
    rw [h.2 i hi, List.getD_eq_getElem?_getD, List.getElem?_eq_getElem (by rw [h.1]; exact hi), Option.getD_some]
  · rw [List.getElem?_eq_none (by rw [rowsC_len]; omega), List.getElem?_eq_none (by rw [List.length_map, h.1]; omega)]
noncomputable def newRow (n a : Nat) (l : List (Int × Int)) : Nat := List.rec (motive := fun _ => Nat) 0 (fun p _ ih => match p with
  | (.ofNat x, .ofNat y) => Bool.rec (motive := fun _ => Nat) ih (Bool.rec (motive := fun _ => Nat) ih (Nat.lor (Nat.shiftLeft 1 y) ih) (Nat.ble (Nat.add y 1) n)) (Nat.beq x a)
  | _ => ih) l
end Go.Ab
end
section
set_option linter.unusedVariables false
set_option linter.unusedSimpArgs false
namespace Go.Ab
variable {F : Funs}
structure FewG (X : Gr) : Prop where
  evs : X.evs.length ≤ 50
  rf : X.rf.length ≤ 60
  co : X.co.length ≤ 6
  cos : ∀ c ∈ X.co, c.length ≤ 50
  rmw : X.rmw.length ≤ 50
  data : X.data.length ≤ 300
  ctrl : X.ctrl.length ≤ 300
  ctrli : X.ctrli.length ≤ 300
end Go.Ab
end
section
set_option linter.unusedVariables false
set_option linter.unusedSimpArgs false
namespace Go.Ab
variable {F : Funs}
structure LenG (X : Gr) : Prop where
  fl : X.co.flatten.length ≤ 1000
  col : X.co.length ≤ 1000
  cos : ∀ k, (X.co.getD k []).length ≤ 1000
  rmw : X.rmw.length ≤ 1000
  data : X.data.length ≤ 1000
  ctrl : X.ctrl.length ≤ 1000
  ctrli : X.ctrli.length ≤ 1000
theorem flat_le : ∀ {l : List (List Int)} {m : Nat}, (∀ c ∈ l, c.length ≤ m) → l.flatten.length ≤ l.length * m
  | [], _, _ => by simp
  | c :: l, m, h => by
    have h1 := flat_le (l := l) (m := m) fun c hc => h c (List.mem_cons_of_mem _ hc)
    have h2 := h c (List.mem_cons_self ..)
    rw [List.flatten_cons, List.length_append, List.length_cons, Nat.succ_mul]
    omega
theorem FewG.len {X : Gr} (h : FewG X) : LenG X := by
  have h1 := flat_le h.cos
  have h2 := h.co
  have h3 : X.co.length * 50 ≤ 6 * 50 := Nat.mul_le_mul_right _ h2
  refine ⟨by omega, by omega, fun k => ?_, by have := h.rmw; omega, by have := h.data; omega, by have := h.ctrl; omega, by have := h.ctrli; omega⟩
  by_cases hk : k < X.co.length
  · have hm : X.co.getD k [] ∈ X.co := by
      rw [List.getD_eq_getElem?_getD, List.getElem?_eq_getElem hk]; exact List.getElem_mem hk
    have := h.cos _ hm; omega
  · rw [List.getD_eq_getElem?_getD, List.getElem?_eq_none (by omega)]; simp
end Go.Ab
end
section
set_option linter.unusedVariables false
set_option linter.unusedSimpArgs false
namespace Go.Ab
def sL : ACode → ACode
  | .seq a _ => a
  | c => c
def sR : ACode → ACode
  | .seq _ b => b
  | c => c
end Go.Ab
end
section
set_option linter.unusedVariables false
namespace Go.Ab
noncomputable def evKv (orc : Orc) (F : Funs) (k : Nat) (rs : List ARes) (c : ACode) (e : Env) (g : G) : Option AV :=
  match codeK orc (callK orc F k) e k c .leaf g with
  | some (.nrm, t, g) => (match resE rs (kev e t) g with | some v => frzK g.hp depth v | none => none)
  | some (.ret, t, g) => (match resE rs (kev e t) g with | some v => frzK g.hp depth v | none => none)
  | _ => none
theorem W_evalv {F : Funs} {orc : Orc} (ho : OrcOk F orc) (k : Nat) {rs : List ARes} {c : ACode} {e : Env} {g : G} {w : AV} (h : evKv orc F k rs c e g = some w) : W F c e g (retQ rs w) := by
  unfold evKv at h
  have fin : ∀ (t : ET) (g : G), (match resE rs (kev e t) g with | some v => frzK g.hp depth v | none => none) = some w → (match resE rs (kev e t) g with | some v0 => frz g.hp depth v0 | none => none) = some w := by
    intro t g h
    cases hr : resE rs (kev e t) g with
    | none => rw [hr] at h; cases h
    | some v =>
      rw [hr] at h
      simp only [frzK_ok] at h ⊢
      exact h
  split at h
  · rename_i t g1 hx
    exact ⟨_, _, _, codeK_ok ho (callK_ok ho k) hx, fin t g1 h⟩
  · rename_i t g1 hx
    exact ⟨_, _, _, codeK_ok ho (callK_ok ho k) hx, fin t g1 h⟩
  · cases h
theorem pure_evalv {F : Funs} {orc : Orc} (ho : OrcOk F orc) (k : Nat) {f : Nat} {fn : AFun} {asx : List AV} {w : AV} (hF : F f = some fn) (h : evKv orc F k fn.res fn.body (argEnv asx) g0 = some w) : pureS F f asx = some w :=
  pure_of hF (W_evalv ho k h)
end Go.Ab
end
section
set_option linter.unusedVariables false
set_option linter.unusedSimpArgs false
namespace Go.Ab
variable {F : Funs}
def resC (agg : Option Nat) (g : G) : AV → Option AV
  | .mp b off => match g.hp b with
    | some (.cells cs _) => part cs off agg
    | _ => none
  | _ => none
theorem res_cell (n agg e g) : resE [.cell n agg] e g = resC agg g (e n) := by
  simp only [resE, resAll, resOne, resC]
  cases e n <;> try rfl
  rename_i b off
  simp only
  cases g.hp b with
  | none => rfl
  | some bl =>
    cases bl with
    | cells cs ro => simp only; cases part cs off agg <;> rfl
    | map _ => rfl
    | tok _ => rfl
end Go.Ab
end
section
set_option linter.unusedVariables false
set_option linter.unusedSimpArgs false
namespace Go.Ab
variable {F : Funs}
theorem q_nat {x y : Int} (hx : 0 ≤ x) (hm : x ≤ 9223372036854775807) (hy : 0 < y) : abin .quo (.i .i64 x) (.i .i64 y) = some (.i .i64 (x / y)) := by
  rw [b_quo (by omega), Int.tdiv_eq_ediv_of_nonneg hx]
  have h1 := Int.ediv_nonneg hx (by omega : 0 ≤ y)
  have h2 := Int.ediv_le_self y hx
  rw [i64_wrap (by omega) (by omega)]
theorem r_nat {x y : Int} (hx : 0 ≤ x) (hy : 0 < y) : abin .rem (.i .i64 x) (.i .i64 y) = some (.i .i64 (x % y)) := by
  rw [b_rem (by omega), Int.tmod_eq_emod_of_nonneg hx]
theorem o_idx {c : CS} {al : Nat → Bool} {lo id : Nat} {e : Env} {g : G} (len esz agg x i) : opE c al lo id (.idx len esz agg x i) e g = vIdx len esz agg (x.ev e) (i.ev e) g := rfl
theorem part_ag2 (a b : AV) : part [a, b] 0 (some 2) = some (.agg [a, b]) := rfl
theorem part_ag7 (a b c d e f x : AV) : part [a, b, c, d, e, f, x] 0 (some 7) = some (.agg [a, b, c, d, e, f, x]) := rfl
theorem frz_ag2 (hp : Nat → Option Blk) (x y : Int) : frz hp depth (.agg [.i .i64 x, .i .i64 y]) = some (.agg [.i .i64 x, .i .i64 y]) := by
  refine frz_d_agg ?_
  show frzL _ (7 + 1) _ = _
  simp only [frzL, frz]
theorem frz_ag7 (hp : Nat → Option Blk) (a b c d e f : Int) (cs : List AV) (n : Nat) (t : Tok) : frz hp depth (.agg [.i .i64 a, .i .i64 b, .i .i64 c, .i .i64 d, .i .i64 e, .sl cs n t, .i .i64 f]) = some (.agg [.i .i64 a, .i .i64 b, .i .i64 c, .i .i64 d, .i .i64 e, .sl cs n .non, .i .i64 f]) := by
  refine frz_d_agg ?_
  show frzL _ (7 + 1) _ = _
  simp only [frzL, frz]
def tkC (e : List (Int × Int)) : List AV := e.flatMap fun p => [.i .i64 p.1, .i .i64 p.2]
def exV (e : List (Int × Int)) : AV := .sl (tkC e) e.length .non
structure Ins where
  kd : Int
  md : Int
  md2 : Int
  rg : Int
  lc : Int
  ex : List (Int × Int)
  n : Int
def insC (x : Ins) : List AV := [.i .i64 x.kd, .i .i64 x.md, .i .i64 x.md2, .i .i64 x.rg, .i .i64 x.lc, exV x.ex, .i .i64 x.n]
def exM (a b m : Int) : List (Int × Int) :=
  if m ≤ 2 then [(1, b)] else if m ≤ 5 then [(2, a)] else if m = 6 then [(2, a), (2, a), (3, 4)] else if m = 7 then [(2, a), (1, b), (3, 5)] else if m = 8 then [(2, a), (1, b), (3, 6)] else [(1, b), (1, 1), (3, 3)]
def exN (v : Int) : List (Int × Int) := exM (place v 1073741824 / 10 % 3) (place v 1073741824 / 30 % 3) (place v 1073741824 % 10)
theorem sp_num (h : F 108 = some A_xlaw00_num) (v : Int) : pureS F 108 [.i .i64 v] = some (.agg [.i .i64 1, .i .i64 v]) := by
  refine pure_of h ?_
  simp (disch := omega) only [A_xlaw00_num, wp, Nat.reduceAdd, Nat.reduceMul, Nat.reduceSub, res_cell, resC, part_ag2, frz_ag2]
theorem sp_reg (h : F 123 = some A_xlaw00_reg) (v : Int) : pureS F 123 [.i .i64 v] = some (.agg [.i .i64 2, .i .i64 v]) := by
  refine pure_of h ?_
  simp (disch := omega) only [A_xlaw00_reg, wp, Nat.reduceAdd, Nat.reduceMul, Nat.reduceSub, res_cell, resC, part_ag2, frz_ag2]
theorem sp_op (h : F 124 = some A_xlaw00_op) (v : Int) : pureS F 124 [.i .i64 v] = some (.agg [.i .i64 3, .i .i64 v]) := by
  refine pure_of h ?_
  simp (disch := omega) only [A_xlaw00_op, wp, Nat.reduceAdd, Nat.reduceMul, Nat.reduceSub, res_cell, resC, part_ag2, frz_ag2]
structure ProgF (F : Funs) : Prop where
  place : F 10 = some A_xlaw00_Place
  num : F 108 = some A_xlaw00_num
  reg : F 123 = some A_xlaw00_reg
  op : F 124 = some A_xlaw00_op
  expr : F 107 = some A_xlaw00_Expr
  instr : F 97 = some A_xlaw00_Instr
set_option maxRecDepth 100000 in
set_option maxHeartbeats 2000000 in
theorem sp_expr (S : ProgF F) (v : Int) : pureS F 107 [.i .i64 v] = some (exV (exN v)) := by
  refine pure_of S.expr ?_
  have hp := sp_place S.place (v := v) (n := 1073741824) (by omega) (by omega)
  obtain ⟨p0, p1⟩ := place_lt (v := v) (n := 1073741824) (by omega)
  unfold exN
  generalize place v 1073741824 = k at hp p0 p1
  have q1 := q_nat (x := k) (y := 10) p0 (by omega) (by omega)
  have r1 := r_nat (x := k / 10) (y := 3) (by omega) (by omega)
  have q2 := q_nat (x := k) (y := 30) p0 (by omega) (by omega)
  have r2 := r_nat (x := k / 30) (y := 3) (by omega) (by omega)
  have r3 := r_nat (x := k) (y := 10) p0 (by omega)
  have hm : 0 ≤ k % 10 ∧ k % 10 < 10 := by omega
  generalize k % 10 = m at r3 hm
  generalize k / 10 % 3 = a at r1
  generalize k / 30 % 3 = b at r2
  have n1 := sp_num S.num b
  have n2 := sp_reg S.reg a
  have n3 := sp_num S.num 1
  have n4 := sp_op S.op
  have r4 : ∀ x : AV, List.replicate 4 x = [x, x, x, x] := fun _ => rfl
  have r6 : ∀ x : AV, List.replicate 6 x = [x, x, x, x, x, x] := fun _ => rfl
  have hc : m = 0 ∨ m = 1 ∨ m = 2 ∨ m = 3 ∨ m = 4 ∨ m = 5 ∨ m = 6 ∨ m = 7 ∨ m = 8 ∨ m = 9 := by omega
  rcases hc with rfl | rfl | rfl | rfl | rfl | rfl | rfl | rfl | rfl | rfl
  all_goals
    simp (disch := omega) only [A_xlaw00_Expr, wp, Nat.reduceAdd, Nat.reduceMul, Nat.reduceSub, hp, q1, r1, q2, r2, r3, n1, n2, n3, n4, r4, r6, part_ag2, Int.reduceBEq, splice, List.take_succ_cons, List.take_zero, List.drop_succ_cons, List.drop_zero]
    try rfl
def acqM (w : Int) : Int := if w / 7 % 3 = 2 then 1 else 0
def relM (w : Int) : Int := if w / 11 % 3 = 2 then 2 else 0
def insT (t w left : Int) : Ins :=
  if t < 6 then ⟨1, acqM w, 0, w % 3, w / 3 % 2, [], 0⟩
  else if t < 12 then ⟨2, relM w, 0, 0, w / 3 % 2, exN (w / 12), 0⟩
  else if t < 15 then ⟨3, 1 + w / 5 % 4, 0, 0, 0, [], 0⟩
  else if t < 16 then ⟨4, acqM w, relM w, w % 3, w / 3 % 2, [(1, w / 17 % 2)], 0⟩
  else if t < 18 then ⟨5, 0, 0, w % 3, 0, exN (w / 12), 0⟩
  else ⟨6, 0, 0, 0, 0, exN (w / 12), w / 19 % (left + 1)⟩
def insN (v left : Int) : Ins := insT (place v 1099511627776 % 20) (place v 1099511627776 / 20) left
theorem pick3 {g : G} {a z : Int} (h0 : 0 ≤ z) (h1 : z < 3) : vIdx 3 1 none (.agg [.i .i64 0, .i .i64 0, .i .i64 a]) (.i .i64 z) g = some (.i .i64 (if z = 2 then a else 0), g) := by
  have hc : z = 0 ∨ z = 1 ∨ z = 2 := by omega
  rcases hc with rfl | rfl | rfl <;> rfl
set_option maxRecDepth 100000 in
set_option maxHeartbeats 2000000 in
theorem sp_instr (S : ProgF F) {v left : Int} (h0 : 0 ≤ left) (h1 : left ≤ 1000) : pureS F 97 [.i .i64 v, .i .i64 2, .i .i64 left] = some (.agg (insC (insN v left))) := by
  refine pure_of S.instr ?_
  have hp := sp_place S.place (v := v) (n := 1099511627776) (by omega) (by omega)
  obtain ⟨p0, p1⟩ := place_lt (v := v) (n := 1099511627776) (by omega)
  unfold insN
  generalize place v 1099511627776 = k at hp p0 p1
  have q1 := q_nat (x := k) (y := 20) p0 (by omega) (by omega)
  have r0 := r_nat (x := k) (y := 20) p0 (by omega)
  have w0 : 0 ≤ k / 20 ∧ k / 20 < 1099511627776 := by omega
  have t0 : 0 ≤ k % 20 ∧ k % 20 < 20 := by omega
  generalize k / 20 = w at q1 w0
  generalize k % 20 = t at r0 t0
  have r1 := r_nat (x := w) (y := 3) w0.1 (by omega)
  have q2 := q_nat (x := w) (y := 3) w0.1 (by omega) (by omega)
  have r2 := r_nat (x := w / 3) (y := 2) (by omega) (by omega)
  have q3 := q_nat (x := w) (y := 12) w0.1 (by omega) (by omega)
  have q4 := q_nat (x := w) (y := 7) w0.1 (by omega) (by omega)
  have r4 := r_nat (x := w / 7) (y := 3) (by omega) (by omega)
  have q5 := q_nat (x := w) (y := 11) w0.1 (by omega) (by omega)
  have r5 := r_nat (x := w / 11) (y := 3) (by omega) (by omega)
  have q6 := q_nat (x := w) (y := 5) w0.1 (by omega) (by omega)
  have r6 := r_nat (x := w / 5) (y := 4) (by omega) (by omega)
  have q7 := q_nat (x := w) (y := 17) w0.1 (by omega) (by omega)
  have r7 := r_nat (x := w / 17) (y := 2) (by omega) (by omega)
  have q8 := q_nat (x := w) (y := 19) w0.1 (by omega) (by omega)
  have w1 : IntKind.i64.wrap (left + 1) = left + 1 := i64_wrap (by omega) (by omega)
  have r8 := r_nat (x := w / 19) (y := left + 1) (by omega) (by omega)
  have w2 : IntKind.i64.wrap (1 + w / 5 % 4) = 1 + w / 5 % 4 := i64_wrap (by omega) (by omega)
  have he := sp_expr S (w / 12)
  have hn := sp_num S.num (w / 17 % 2)
  have i1 : ∀ g, vIdx 3 1 none (.agg [.i .i64 0, .i .i64 0, .i .i64 1]) (.i .i64 (w / 7 % 3)) g = some (.i .i64 (acqM w), g) := fun g => pick3 (by omega) (by omega)
  have i2 : ∀ g, vIdx 3 1 none (.agg [.i .i64 0, .i .i64 0, .i .i64 2]) (.i .i64 (w / 11 % 3)) g = some (.i .i64 (relM w), g) := fun g => pick3 (by omega) (by omega)
  have l5 : ∀ x : AV, List.replicate 5 x = [x, x, x, x, x] := fun _ => rfl
  have s7 : ∀ a b c d e f x1 x2 x3 x4 x5 x6 x7 y : AV, splice [a, b, c, d, e, f, y] 0 [x1, x2, x3, x4, x5, x6, x7] = [x1, x2, x3, x4, x5, x6, x7] := fun _ _ _ _ _ _ _ _ _ _ _ _ _ _ => rfl
  unfold exV at he
  by_cases c1 : t < 6
  · simp (disch := omega) only [A_xlaw00_Instr, wp, Nat.reduceAdd, Nat.reduceMul, Nat.reduceSub, res_cell, resC, hp, q1, r0, r1, q2, r2, q3, he, o_idx, q4, r4, i1, q5, r5, i2, l5, s7, c1, part_ag7, frz_ag7]
    unfold insT; rw [if_pos c1]; rfl
  by_cases c2 : t < 12
  · simp (disch := omega) only [A_xlaw00_Instr, wp, Nat.reduceAdd, Nat.reduceMul, Nat.reduceSub, res_cell, resC, hp, q1, r0, r1, q2, r2, q3, he, o_idx, q4, r4, i1, q5, r5, i2, l5, s7, c1, c2, part_ag7, frz_ag7]
    unfold insT; rw [if_neg c1, if_pos c2]; rfl
  by_cases c3 : t < 15
  · simp (disch := omega) only [A_xlaw00_Instr, wp, Nat.reduceAdd, Nat.reduceMul, Nat.reduceSub, res_cell, resC, hp, q1, r0, r1, q2, r2, q3, he, o_idx, q4, r4, i1, q5, r5, i2, q6, r6, w2, l5, s7, c1, c2, c3, part_ag7, frz_ag7]
    unfold insT; rw [if_neg c1, if_neg c2, if_pos c3]; rfl
  by_cases c4 : t < 16
  · simp (disch := omega) only [A_xlaw00_Instr, wp, Nat.reduceAdd, Nat.reduceMul, Nat.reduceSub, res_cell, resC, hp, q1, r0, r1, q2, r2, q3, he, o_idx, q4, r4, i1, q5, r5, i2, q7, r7, hn, l5, s7, c1, c2, c3, c4, part_ag7, frz_ag7]
    unfold insT; rw [if_neg c1, if_neg c2, if_neg c3, if_pos c4]; rfl
  by_cases c5 : t < 18
  · simp (disch := omega) only [A_xlaw00_Instr, wp, Nat.reduceAdd, Nat.reduceMul, Nat.reduceSub, res_cell, resC, hp, q1, r0, r1, q2, r2, q3, he, o_idx, q4, r4, i1, q5, r5, i2, l5, s7, c1, c2, c3, c4, c5, part_ag7, frz_ag7]
    unfold insT; rw [if_neg c1, if_neg c2, if_neg c3, if_neg c4, if_pos c5]; rfl
  · simp (disch := omega) only [A_xlaw00_Instr, wp, Nat.reduceAdd, Nat.reduceMul, Nat.reduceSub, res_cell, resC, hp, q1, r0, r1, q2, r2, q3, he, o_idx, q4, r4, i1, q5, r5, i2, q8, w1, r8, l5, s7, c1, c2, c3, c4, c5, part_ag7, frz_ag7]
    unfold insT; rw [if_neg c1, if_neg c2, if_neg c3, if_neg c4, if_neg c5]; rfl
end Go.Ab
end
section
set_option linter.unusedVariables false
set_option linter.unusedSimpArgs false
namespace Go.Ab
variable {F : Funs}
def insLC (l : List Ins) : List AV := l.flatMap insC
theorem insC_len (x : Ins) : (insC x).length = 7 := rfl
theorem insLC_len (l : List Ins) : (insLC l).length = l.length * 7 := by
  induction l with
  | nil => rfl
  | cons x l ih => simp only [insLC, List.flatMap_cons, List.length_append, List.length_cons, insC_len] at ih ⊢; omega
theorem insLC_snoc (l : List Ins) (x : Ins) : insLC (l ++ [x]) = insLC l ++ insC x := by
  simp only [insLC, List.flatMap_append, List.flatMap_cons, List.flatMap_nil, List.append_nil]
def fence0 : Ins := ⟨3, 4, 0, 0, 0, [], 0⟩
def skips (l : List Ins) : Nat := l.countP fun x => x.kd == 6
theorem skips_snoc (l : List Ins) (x : Ins) : skips (l ++ [x]) = skips l + (if x.kd = 6 then 1 else 0) := by
  unfold skips
  rw [List.countP_append]
  congr 1
  by_cases h : x.kd = 6 <;> simp [List.countP_cons, h]
structure PreOk (l : List Int) (T t n : Nat) (pre : List Ins) : Prop where
  ins : ∀ k, k < pre.length → (∃ v, pre.getD k fence0 = insN v ((n - 1 - k : Nat) : Int)) ∨ pre.getD k fence0 = fence0
structure ThrOk (l : List Int) (T t most : Nat) (th : List Ins) : Prop where
  most : th.length ≤ most
  at_ : ∀ k, k < th.length → t + k * T < l.length
  pre : PreOk l T t th.length th
  sk : skips th ≤ 2
theorem PreOk.snoc {l T t n pre} (h : PreOk l T t n pre) {x : Ins} (hx : (∃ v, x = insN v ((n - 1 - pre.length : Nat) : Int)) ∨ x = fence0) : PreOk l T t n (pre ++ [x]) := by
  refine ⟨fun k hk => ?_⟩
  rw [List.length_append, List.length_singleton] at hk
  by_cases h1 : k < pre.length
  · have := h.ins k h1
    rwa [List.getD_eq_getElem?_getD, List.getElem?_append_left h1, ← List.getD_eq_getElem?_getD]
  · obtain rfl : k = pre.length := by omega
    rw [List.getD_eq_getElem?_getD, List.getElem?_append_right (Nat.le_refl _)]
    simpa using hx
theorem o_mksl {c : CS} {al : Nat → Bool} {lo id : Nat} {e : Env} {g : G} (z esz b n m) : opE c al lo id (.mksl z esz b n m) e g = vMksl id z esz b (n.ev e) (m.ev e) g := rfl
theorem vMksl_ms {id : Nat} {z : List AV} {b n : Nat} {g : G} (h1 : 1 ≤ n) (h2 : n ≤ 1000) (hb : b ≤ 1000) (hz : z.length = 1) : vMksl id z 1 b (.i .i64 (n : Int)) (.i .i64 (n : Int)) g = some (.ms id 0 n, ⟨upd g.hp id (some (.cells (List.replicate n z).flatten false)), g.nx⟩) := by
  have h3 : (b : Int) * (n : Int) ≤ 1000 * 1000 := Int.mul_le_mul (by omega) (by omega) (by omega) (by omega)
  simp only [vMksl]
  rw [if_pos ⟨by omega, by omega, by simp only [lim64]; omega, by omega⟩, if_neg (by omega), if_pos ⟨trivial, hz⟩, Int.toNat_natCast]
theorem blk_end {c : ACode} {id : Nat} {e : Env} {g : G} {Q : Out → Env → G → Prop} (M : Env → G → Prop) (h1 : W F c e g (blkQ id (midQ M))) (h2 : ∀ e g, M e g → Q .nrm e g) : W F c e g (blkQ id Q) := by
  refine W_mono h1 fun o e g h => ?_
  cases o with
  | nrm => exact h2 e g h
  | ret => exact h.elim
  | ext n =>
    have h : if n = id then midQ M .nrm e g else midQ M (.ext n) e g := h
    show if n = id then Q .nrm e g else Q (.ext n) e g
    split at h
    · rename_i hn; rw [if_pos hn]; exact h2 e g h
    · exact h.elim
theorem int_at {l : List Int} {k : Nat} (h : k < l.length) : part ((intsC l).drop (k * 1)) 0 none = some (.i .i64 (l.getD k 0)) := ints_part h
structure PgSt (B : Nat) (hp0 : Nat → Option Blk) (l : List Int) (T most t : Nat) (cs : List AV) (e : Env) (g : G) : Prop where
  e0 : e 0 = .sl (intsC l) l.length .non
  e1 : e 1 = .i .i64 (T : Nat)
  e2 : e 2 = .i .i64 (most : Nat)
  e6 : e 6 = .mp B 0
  e7 : e 7 = .mp (B + 4) 0
  e8 : e 8 = .i .i64 (t : Nat)
  h0 : g.hp B = some (.cells [.i .i64 0, .sl [] 0 .rig] false)
  h4 : g.hp (B + 4) = some (.cells [.i .i64 2, .ms (B + 2) 0 T] false)
  h2 : g.hp (B + 2) = some (.cells cs false)
  nx : B + 4 < g.nx
  len : cs.length = T
  fr : ∀ i, i < B → g.hp i = hp0 i
def CsOk (l : List Int) (T t most : Nat) (cs : List AV) : Prop := ∀ j, j < T → if j < t then ∃ th tok, cs[j]? = some (.sl (insLC th) th.length tok) ∧ ThrOk l T j most th else cs[j]? = some (.sl [] 0 .rig)
theorem pg_count {B : Nat} {hp0 : Nat → Option Blk} {l : List Int} {T most t : Nat} {cs : List AV} {Q : Env → G → Prop} (hT : 1 ≤ T) (hT8 : T ≤ 8) (hm : most ≤ 16) (hl : (l.length : Int) ≤ 140737488355328) (ht : t < T) {e : Env} {g : G} (S : PgSt B hp0 l T most t cs e g) (e9 : e 9 = .i .i64 0) (e10 : e 10 = .i .i64 0) (e11 : e 11 = .i .i64 (t : Nat)) (c : ACode)
    (hc : c = (.seq (.seq (.reg false [{ dst := some 23, op := .mv (.t 11) },
  { dst := some 24, op := .mv (.t 0) },
  { dst := some 25, op := .len (.t 24) },
  { dst := some 26, op := .bin .lss (.t 23) (.t 25) },
  { dst := some 27, op := .mv (.t 26) },
  { dst := some 28, op := .mv (.t 9), grd := some (27, true) },
  { dst := some 29, op := .mv (.t 2), grd := some (27, true) },
  { dst := some 30, op := .bin .lss (.t 28) (.t 29), grd := some (27, true) },
  { dst := some 31, op := .pick (.t 27) (.t 30) (.c (.b false)) }])
 (.cond (.t 31) .skip
 (.ext 2)))
 (.seq (.blk 3 (.reg false [{ dst := some 35, op := .mv (.t 9) },
  { dst := some 36, op := .bin .add (.t 35) (.c (.i .i64 1)) },
  { dst := some 9, op := .mv (.t 36) }]))
 (.reg false [{ dst := some 32, op := .mv (.t 11) },
  { dst := some 33, op := .mv (.t 1) },
  { dst := some 34, op := .bin .add (.t 32) (.t 33) },
  { dst := some 11, op := .mv (.t 34) }]))))
    (hQ : ∀ e g, (∃ n : Nat, PgSt B hp0 l T most t cs e g ∧ e 9 = .i .i64 (n : Nat) ∧ e 10 = .i .i64 0 ∧ n ≤ most ∧ ∀ k, k < n → t + k * T < l.length) → Q e g) : W F (.loop c) e g (blkQ 2 (midQ Q)) := by
  refine W_loop (fun q e g => ∃ n : Nat, q = most - n ∧ n ≤ most ∧ PgSt B hp0 l T most t cs e g ∧ e 9 = .i .i64 (n : Nat) ∧ e 10 = .i .i64 0 ∧ e 11 = .i .i64 ((t + n * T : Nat) : Int) ∧ ∀ k, k < n → t + k * T < l.length) most ⟨0, rfl, Nat.zero_le _, S, e9, e10, by rw [e11]; simp, fun k hk => by omega⟩ ?_
  rintro q e g ⟨n, rfl, hn, S, e9, e10, e11, hall⟩
  obtain ⟨e0, e1, e2, e6, e7, e8, h0, h4, h2, hnx, hlen, hfr⟩ := S
  subst hc
  by_cases h1 : t + n * T < l.length
  · have h1' : ((t + n * T : Nat) : Int) < l.length := by omega
    by_cases h2' : n < most
    · have h3 : (n : Int) < most := by omega
      have hw1 := succ_wrap (k := n) (by omega)
      have hw2 : IntKind.i64.wrap (((t + n * T : Nat) : Int) + ((T : Nat) : Int)) = ((t + (n + 1) * T : Nat) : Int) := by
        have hz : t + (n + 1) * T = t + n * T + T := by rw [Nat.succ_mul]; omega
        rw [i64_wrap (by omega) (by omega), hz]; omega
      simp (disch := omega) only [wp, Nat.reduceAdd, Nat.reduceMul, Nat.reduceSub, gl, e0, e1, e2, e9, e11, h1', h3, hw1, hw2]
      refine ⟨most - (n + 1), by omega, n + 1, rfl, by omega, ⟨?_, ?_, ?_, ?_, ?_, ?_, h0, h4, h2, by first | omega | (dsimp only; omega), hlen, hfr⟩, rfl, ?_, rfl, fun k hk => ?_⟩
      · simp (disch := omega) only [wp, Nat.reduceAdd, Nat.reduceMul, Nat.reduceSub, e0]
      · simp (disch := omega) only [wp, Nat.reduceAdd, Nat.reduceMul, Nat.reduceSub, e1]
      · simp (disch := omega) only [wp, Nat.reduceAdd, Nat.reduceMul, Nat.reduceSub, e2]
      · simp (disch := omega) only [wp, Nat.reduceAdd, Nat.reduceMul, Nat.reduceSub, e6]
      · simp (disch := omega) only [wp, Nat.reduceAdd, Nat.reduceMul, Nat.reduceSub, e7]
      · simp (disch := omega) only [wp, Nat.reduceAdd, Nat.reduceMul, Nat.reduceSub, e8]
      · simp (disch := omega) only [wp, Nat.reduceAdd, Nat.reduceMul, Nat.reduceSub, e10]
      · by_cases hk' : k = n
        · subst hk'; exact h1
        · exact hall k (by omega)
    · have h3 : ¬ (n : Int) < most := by omega
      simp (disch := omega) only [wp, Nat.reduceAdd, Nat.reduceMul, Nat.reduceSub, gl, e0, e1, e2, e9, e11, h1', h3]
      refine hQ _ _ ⟨n, ⟨?_, ?_, ?_, ?_, ?_, ?_, h0, h4, h2, by first | omega | (dsimp only; omega), hlen, hfr⟩, ?_, ?_, hn, hall⟩
      all_goals simp (disch := omega) only [wp, Nat.reduceAdd, Nat.reduceMul, Nat.reduceSub, e0, e1, e2, e6, e7, e8, e9, e10]
  · have h1' : ¬ ((t + n * T : Nat) : Int) < l.length := by omega
    simp (disch := omega) only [wp, Nat.reduceAdd, Nat.reduceMul, Nat.reduceSub, gl, e0, e1, e2, e9, e11, h1']
    refine hQ _ _ ⟨n, ⟨?_, ?_, ?_, ?_, ?_, ?_, h0, h4, h2, by first | omega | (dsimp only; omega), hlen, hfr⟩, ?_, ?_, hn, hall⟩
    all_goals simp (disch := omega) only [wp, Nat.reduceAdd, Nat.reduceMul, Nat.reduceSub, e0, e1, e2, e6, e7, e8, e9, e10]
end Go.Ab
end
section
set_option linter.unusedVariables false
set_option linter.unusedSimpArgs false
namespace Go.Ab
variable {F : Funs}
def pgC : ACode := (.seq (.seq (.reg false [{ dst := some 37, op := .mv (.t 12) },
  { dst := some 38, op := .mv (.t 9) },
  { dst := some 39, op := .bin .lss (.t 37) (.t 38) }])
 (.cond (.t 39) .skip
 (.ext 4)))
 (.seq (.blk 5 (.seq (.reg true [{ dst := some 42, op := .mv (.t 0) },
  { dst := some 43, op := .mv (.t 8) },
  { dst := some 44, op := .mv (.t 12) },
  { dst := some 45, op := .mv (.t 1) },
  { dst := some 46, op := .bin .mul (.t 44) (.t 45) },
  { dst := some 47, op := .bin .add (.t 43) (.t 46) },
  { dst := some 48, op := .ia 1 (.t 42) (.t 47) },
  { dst := some 49, op := .ld none (.t 48), pre := [] },
  { dst := some 50, op := .fa 0 (.t 7) },
  { dst := some 51, op := .ld none (.t 50), pre := [] },
  { dst := some 52, op := .mv (.t 9) },
  { dst := some 53, op := .bin .sub (.t 52) (.c (.i .i64 1)) },
  { dst := some 54, op := .mv (.t 12) },
  { dst := some 55, op := .bin .sub (.t 53) (.t 54) },
  { dst := some 56, op := .call .pure (.c (.fn 97 [] [])) [.t 49, .t 51, .t 55], pre := [] },
  { dst := some 13, op := .new (List.replicate 5 (.i .i64 0) ++ [.sl [] 0 .rig, .i .i64 0]) },
  { dst := none, op := .stL 7 (.t 13) (.t 56), pre := [15] }])
 (.seq (.seq (.reg false [{ dst := some 57, op := .fa 0 (.t 13) },
  { dst := some 58, op := .ld none (.t 57) },
  { dst := some 59, op := .bin .eql (.t 58) (.c (.i .i64 6)) }])
 (.cond (.t 59) (.seq (.reg false [{ dst := some 60, op := .mv (.t 10) },
  { dst := some 61, op := .bin .add (.t 60) (.c (.i .i64 1)) },
  { dst := some 10, op := .mv (.t 61) }])
 (.seq (.reg false [{ dst := some 62, op := .mv (.t 10) },
  { dst := some 63, op := .bin .gtr (.t 62) (.c (.i .i64 2)) }])
 (.cond (.t 63) (.reg false [{ dst := some 64, op := .build (List.replicate 5 (.i .i64 0) ++ [.sl [] 0 .rig, .i .i64 0]) [(0, 1, .c (.i .i64 3)), (1, 1, .c (.i .i64 4))] },
  { dst := none, op := .st 7 (.t 13) (.t 64) }])
 .skip)))
 .skip))
 (.reg true [{ dst := some 65, op := .fa 1 (.t 7) },
  { dst := some 66, op := .ld none (.t 65), pre := [] },
  { dst := some 67, op := .mv (.t 8) },
  { dst := some 68, op := .fa 1 (.t 7) },
  { dst := some 69, op := .ld none (.t 68), pre := [] },
  { dst := some 70, op := .mv (.t 8) },
  { dst := some 71, op := .ia 1 (.t 69) (.t 70) },
  { dst := some 72, op := .ld none (.t 71), pre := [] },
  { dst := some 73, op := .ld (some 7) (.t 13), pre := [] },
  { dst := some 74, op := .bsl true 1 (List.replicate 5 (.i .i64 0) ++ [.sl [] 0 .rig, .i .i64 0]) [(0, 7, .t 73)], pre := [] },
  { dst := some 75, op := .app 7 72 (.t 72) (.t 74), pre := [] },
  { dst := some 76, op := .ia 1 (.t 66) (.t 67) },
  { dst := none, op := .st 1 (.t 76) (.t 75), pre := [10] }]))))
 (.reg false [{ dst := some 40, op := .mv (.t 12) },
  { dst := some 41, op := .bin .add (.t 40) (.c (.i .i64 1)) },
  { dst := some 12, op := .mv (.t 41) }])))
def insCt (x : Ins) (tk : Tok) : List AV := [.i .i64 x.kd, .i .i64 x.md, .i .i64 x.md2, .i .i64 x.rg, .i .i64 x.lc, .sl (tkC x.ex) x.ex.length tk, .i .i64 x.n]
theorem min_a {s : Nat} (h : ¬ s + 1 > 2) : min s 2 + 1 = min (s + 1) 2 := by omega
theorem min_b {s : Nat} (h : s + 1 > 2) : min s 2 + 0 = min (s + 1) 2 := by omega
structure PiSt (B : Nat) (hp0 : Nat → Option Blk) (l : List Int) (T most t n : Nat) (cs : List AV) (k : Nat) (pre : List Ins) (tok : Tok) (e : Env) (g : G) : Prop where
  st : PgSt B hp0 l T most t (cs.set t (.sl (insLC pre) k tok)) e g
  e9 : e 9 = .i .i64 (n : Nat)
  e12 : e 12 = .i .i64 (k : Nat)
  pl : pre.length = k
  tk : (tok = .rig ∧ k = 0) ∨ ∃ τ, tok = .own τ 7 ∧ g.hp τ = some (.tok true) ∧ B + 4 < τ ∧ τ < g.nx
  pre : PreOk l T t n pre
set_option maxRecDepth 100000 in
set_option maxHeartbeats 4000000 in
theorem pg_thread (S : ProgF F) {B : Nat} {hp0 : Nat → Option Blk} {l : List Int} {T most t n : Nat} {cs : List AV} {Q : Env → G → Prop} (hT : 1 ≤ T) (hT8 : T ≤ 8) (hm : most ≤ 16) (hl : (l.length : Int) ≤ 140737488355328) (ht : t < T) (hn : n ≤ most) (hall : ∀ k, k < n → t + k * T < l.length) (hcl : cs.length = T) {e : Env} {g : G} (I : PiSt B hp0 l T most t n cs 0 [] .rig e g) (e10 : e 10 = .i .i64 0)
    (hQ : ∀ e g, (∃ th tok, th.length = n ∧ PgSt B hp0 l T most t (cs.set t (.sl (insLC th) n tok)) e g ∧ ThrOk l T t most th) → Q e g) : W F (.loop pgC) e g (blkQ 4 (midQ Q)) := by
  have l5 : ∀ x : AV, List.replicate 5 x = [x, x, x, x, x] := fun _ => rfl
  have s7 : ∀ a b c d e f x1 x2 x3 x4 x5 x6 x7 y : AV, splice [a, b, c, d, e, f, y] 0 [x1, x2, x3, x4, x5, x6, x7] = [x1, x2, x3, x4, x5, x6, x7] := fun _ _ _ _ _ _ _ _ _ _ _ _ _ _ => rfl
  refine W_loop (fun q e g => ∃ (k : Nat) (pre : List Ins) (tok : Tok) (s : Nat), q = n - k ∧ k ≤ n ∧ PiSt B hp0 l T most t n cs k pre tok e g ∧ e 10 = .i .i64 (s : Nat) ∧ skips pre = min s 2 ∧ s ≤ k) n ⟨0, [], .rig, 0, rfl, Nat.zero_le _, I, e10, rfl, Nat.le_refl _⟩ ?_
  rintro q e g ⟨k, pre, tok, s, rfl, hkn, I, e10, hsk, hs⟩
  obtain ⟨⟨e0, e1, e2, e6, e7, e8, h0, h4, h2, hnx, hlen, hfr⟩, e9, e12, hpl, htk, hpre⟩ := I
  by_cases h1 : k < n
  · have h1' : (k : Int) < n := by omega
    have hlt := hall k h1
    have hw1 : IntKind.i64.wrap (((k : Nat) : Int) * ((T : Nat) : Int)) = ((k * T : Nat) : Int) := by
      have : k * T ≤ 16 * 8 := Nat.mul_le_mul (by omega) hT8
      rw [← Int.natCast_mul, i64_wrap (by omega) (by omega)]
    have hw2 : IntKind.i64.wrap (((t : Nat) : Int) + ((k * T : Nat) : Int)) = ((t + k * T : Nat) : Int) := by
      rw [i64_wrap (by omega) (by omega)]; omega
    have hw3 : IntKind.i64.wrap (((n : Nat) : Int) - 1) = ((n - 1 : Nat) : Int) := by rw [i64_wrap (by omega) (by omega)]; omega
    have hw4 : IntKind.i64.wrap (((n - 1 : Nat) : Int) - ((k : Nat) : Int)) = ((n - 1 - k : Nat) : Int) := by rw [i64_wrap (by omega) (by omega)]; omega
    have hi0 : (0 : Int) ≤ ((t + k * T : Nat) : Int) := by omega
    have hi1 : ((t + k * T : Nat) : Int) < ((l.length : Nat) : Int) := by omega
    have hp := int_at (l := l) hlt
    have hI := sp_instr S (v := l.getD (t + k * T) 0) (left := ((n - 1 - k : Nat) : Int)) (by omega) (by omega)
    generalize hx : insN (l.getD (t + k * T) 0) ((n - 1 - k : Nat) : Int) = x at hI
    unfold pgC
    simp (disch := omega) only [wp, Nat.reduceAdd, Nat.reduceMul, Nat.reduceSub, gl, e0, e1, e2, e7, e8, e9, e12, h1', hw1, hw2, hw3, hw4, hi0, hi1, hp, hI, h4, insC, exV, l5, s7]
    refine sel_cut (fun e g => ∃ (x' : Ins) (s' b : Nat) (tk : Tok), PgSt B hp0 l T most t (cs.set t (.sl (insLC pre) k tok)) e g ∧ e 9 = .i .i64 (n : Nat) ∧ e 12 = .i .i64 (k : Nat) ∧ e 10 = .i .i64 (s' : Nat) ∧ e 13 = .mp b 0 ∧ g.hp b = some (.cells (insCt x' tk) false) ∧ ((tok = .rig ∧ k = 0) ∨ ∃ τ, tok = .own τ 7 ∧ g.hp τ = some (.tok true) ∧ B + 4 < τ ∧ τ < g.nx) ∧ ((∃ v, x' = insN v ((n - 1 - k : Nat) : Int)) ∨ x' = fence0) ∧ skips (pre ++ [x']) = min s' 2 ∧ s' ≤ k + 1 ∧ B + 4 < b ∧ b < g.nx) ?_ ?_
    · have hm3 : ∀ (x' : Ins) (s' b : Nat) (tk : Tok) (e : Env) (g : G), PgSt B hp0 l T most t (cs.set t (.sl (insLC pre) k tok)) e g → e 9 = .i .i64 (n : Nat) → e 12 = .i .i64 (k : Nat) → e 10 = .i .i64 (s' : Nat) → e 13 = .mp b 0 → g.hp b = some (.cells (insCt x' tk) false) → ((tok = .rig ∧ k = 0) ∨ ∃ τ, tok = .own τ 7 ∧ g.hp τ = some (.tok true) ∧ B + 4 < τ ∧ τ < g.nx) → ((∃ v, x' = insN v ((n - 1 - k : Nat) : Int)) ∨ x' = fence0) → skips (pre ++ [x']) = min s' 2 → s' ≤ k + 1 → B + 4 < b → b < g.nx → ∃ (x' : Ins) (s' b : Nat) (tk : Tok), PgSt B hp0 l T most t (cs.set t (.sl (insLC pre) k tok)) e g ∧ e 9 = .i .i64 (n : Nat) ∧ e 12 = .i .i64 (k : Nat) ∧ e 10 = .i .i64 (s' : Nat) ∧ e 13 = .mp b 0 ∧ g.hp b = some (.cells (insCt x' tk) false) ∧ ((tok = .rig ∧ k = 0) ∨ ∃ τ, tok = .own τ 7 ∧ g.hp τ = some (.tok true) ∧ B + 4 < τ ∧ τ < g.nx) ∧ ((∃ v, x' = insN v ((n - 1 - k : Nat) : Int)) ∨ x' = fence0) ∧ skips (pre ++ [x']) = min s' 2 ∧ s' ≤ k + 1 ∧ B + 4 < b ∧ b < g.nx :=
        fun x' s' b tk e g a1 a2 a3 a4 a5 a6 a7 a8 a9 a10 a11 a12 => ⟨x', s', b, tk, a1, a2, a3, a4, a5, a6, a7, a8, a9, a10, a11, a12⟩
      cases h6 : (x.kd == 6)
      · have h6' : ¬ x.kd = 6 := by simpa using h6
        simp (disch := omega) only [wp, Nat.reduceAdd, Nat.reduceMul, Nat.reduceSub, gl]
        refine hm3 x s (g.nx + 3 + 15) .non _ _ ⟨?_, ?_, ?_, ?_, ?_, ?_, ?_, ?_, ?_, by first | omega | (dsimp only; omega), hlen, fun i hi => ?_⟩ ?_ ?_ ?_ ?_ ?_ ?_ (.inl ⟨_, hx.symm⟩) (by rw [skips_snoc, if_neg h6', hsk]; rfl) (by omega) ?_ ?_
        all_goals first
          | omega
          | (dsimp only; omega)
          | (simp (disch := omega) only [wp, Nat.reduceAdd, Nat.reduceMul, Nat.reduceSub, e0, e1, e2, e6, e7, e8, e9, e10, e12, h0, h4, h2, insCt, fence0, tkC]; done)
          | (simp (disch := omega) only [wp, Nat.reduceAdd, Nat.reduceMul, Nat.reduceSub, insCt]; done)
          | (simp (disch := omega) only [wp, Nat.reduceAdd, Nat.reduceMul, Nat.reduceSub, hfr i hi]; done)
          | (rcases htk with ⟨a, b⟩ | ⟨τ, a, hτ, a1, a2⟩
             · exact .inl ⟨a, b⟩
             · exact .inr ⟨τ, a, by simp (disch := omega) only [wp, Nat.reduceAdd, Nat.reduceMul, Nat.reduceSub, hτ], a1, by first | omega | (dsimp only; omega)⟩)
      · have h6' : x.kd = 6 := by simpa using h6
        have hws : IntKind.i64.wrap ((s : Nat) + 1) = ((s + 1 : Nat) : Int) := succ_wrap (by omega)
        by_cases hs2 : s + 1 > 2
        · have hs2' : (2 : Int) < ((s + 1 : Nat) : Int) := by omega
          simp (disch := omega) only [wp, Nat.reduceAdd, Nat.reduceMul, Nat.reduceSub, gl, e10, hws, hs2', l5, s7]
          refine hm3 fence0 (s + 1) (g.nx + 3 + 15) .rig _ _ ⟨?_, ?_, ?_, ?_, ?_, ?_, ?_, ?_, ?_, by first | omega | (dsimp only; omega), hlen, fun i hi => ?_⟩ ?_ ?_ ?_ ?_ ?_ ?_ (.inr rfl) (by rw [skips_snoc, if_neg (by decide), hsk]; exact min_b hs2) (by omega) ?_ ?_
          all_goals first
          | omega
          | (dsimp only; omega)
          | (simp (disch := omega) only [wp, Nat.reduceAdd, Nat.reduceMul, Nat.reduceSub, e0, e1, e2, e6, e7, e8, e9, e10, e12, h0, h4, h2, insCt, fence0, tkC]; done)
          | (simp (disch := omega) only [wp, Nat.reduceAdd, Nat.reduceMul, Nat.reduceSub, insCt]; done)
          | (simp (disch := omega) only [wp, Nat.reduceAdd, Nat.reduceMul, Nat.reduceSub, hfr i hi]; done)
          | (rcases htk with ⟨a, b⟩ | ⟨τ, a, hτ, a1, a2⟩
             · exact .inl ⟨a, b⟩
             · exact .inr ⟨τ, a, by simp (disch := omega) only [wp, Nat.reduceAdd, Nat.reduceMul, Nat.reduceSub, hτ], a1, by first | omega | (dsimp only; omega)⟩)
        · have hs2' : ¬ (2 : Int) < ((s + 1 : Nat) : Int) := by omega
          simp (disch := omega) only [wp, Nat.reduceAdd, Nat.reduceMul, Nat.reduceSub, gl, e10, hws, hs2']
          refine hm3 x (s + 1) (g.nx + 3 + 15) .non _ _ ⟨?_, ?_, ?_, ?_, ?_, ?_, ?_, ?_, ?_, by first | omega | (dsimp only; omega), hlen, fun i hi => ?_⟩ ?_ ?_ ?_ ?_ ?_ ?_ (.inl ⟨_, hx.symm⟩) (by rw [skips_snoc, if_pos h6', hsk]; exact min_a hs2) (by omega) ?_ ?_
          all_goals first
          | omega
          | (dsimp only; omega)
          | (simp (disch := omega) only [wp, Nat.reduceAdd, Nat.reduceMul, Nat.reduceSub, e0, e1, e2, e6, e7, e8, e9, e10, e12, h0, h4, h2, insCt, fence0, tkC]; done)
          | (simp (disch := omega) only [wp, Nat.reduceAdd, Nat.reduceMul, Nat.reduceSub, insCt]; done)
          | (simp (disch := omega) only [wp, Nat.reduceAdd, Nat.reduceMul, Nat.reduceSub, hfr i hi]; done)
          | (rcases htk with ⟨a, b⟩ | ⟨τ, a, hτ, a1, a2⟩
             · exact .inl ⟨a, b⟩
             · exact .inr ⟨τ, a, by simp (disch := omega) only [wp, Nat.reduceAdd, Nat.reduceMul, Nat.reduceSub, hτ], a1, by first | omega | (dsimp only; omega)⟩)
    · rintro e g ⟨x', s', b, tk, ⟨e0, e1, e2, e6, e7, e8, h0, h4, h2, hnx, hlen, hfr⟩, e9, e12, e10, e13, hb, htk, hx', hsk', hs', hb4, hbn⟩
      have hti0 : (0 : Int) ≤ ((t : Nat) : Int) := by omega
      have hti1 : ((t : Nat) : Int) < ((T : Nat) : Int) := by omega
      have hpt : part (cs.set t (.sl (insLC pre) k tok)) (t * 1) none = some (.sl (insLC pre) k tok) := by
        simp only [part, Nat.mul_one]
        rw [List.getElem?_set_self (by omega)]
      have hil := insLC_len pre
      have hwk := succ_wrap (k := k) (by omega)
      rcases htk with ⟨rfl, rfl⟩ | ⟨τ, rfl, hτ, hτ4, hτn⟩
      · simp (disch := omega) only [wp, Nat.reduceAdd, Nat.reduceMul, Nat.reduceSub, gl, e1, e7, e8, e12, e13, h4, h2, hb, hti0, hti1, hpt, insCt, insC, exV, part_ag7, s7, hil, List.length_set, hwk]
        refine ⟨n - (0 + 1), by omega, 0 + 1, pre ++ [x'], .own (g.nx + 10) 7, s', rfl, by omega, ⟨⟨?_, ?_, ?_, ?_, ?_, ?_, ?_, ?_, ?_, by first | omega | (dsimp only; omega), by rw [List.length_set]; omega, fun i hi => ?_⟩, ?_, ?_, by rw [List.length_append, List.length_singleton]; omega, .inr ⟨_, rfl, by simp (disch := omega) only [wp, Nat.reduceAdd, Nat.reduceMul, Nat.reduceSub], by omega, by first | omega | (dsimp only; omega)⟩, hpre.snoc (by rw [hpl]; exact hx')⟩, ?_, hsk', by omega⟩
        all_goals first
          | (simp (disch := omega) only [wp, Nat.reduceAdd, Nat.reduceMul, Nat.reduceSub, e0, e1, e2, e6, e7, e8, e9, e10, e12, h0, h4, h2, insLC_snoc, List.set_set, Nat.mul_one, insC, exV]; done)
          | (simp (disch := omega) only [wp, Nat.reduceAdd, Nat.reduceMul, Nat.reduceSub, hfr i hi]; done)
      · simp (disch := omega) only [wp, Nat.reduceAdd, Nat.reduceMul, Nat.reduceSub, gl, e1, e7, e8, e12, e13, h4, h2, hb, hτ, hti0, hti1, hpt, insCt, insC, exV, part_ag7, s7, hil, List.length_set, hwk]
        refine ⟨n - (k + 1), by omega, k + 1, pre ++ [x'], .own (g.nx + 10) 7, s', rfl, by omega, ⟨⟨?_, ?_, ?_, ?_, ?_, ?_, ?_, ?_, ?_, by first | omega | (dsimp only; omega), by rw [List.length_set]; omega, fun i hi => ?_⟩, ?_, ?_, by rw [List.length_append, List.length_singleton]; omega, .inr ⟨_, rfl, by simp (disch := omega) only [wp, Nat.reduceAdd, Nat.reduceMul, Nat.reduceSub], by omega, by first | omega | (dsimp only; omega)⟩, hpre.snoc (by rw [hpl]; exact hx')⟩, ?_, hsk', by omega⟩
        all_goals first
          | (simp (disch := omega) only [wp, Nat.reduceAdd, Nat.reduceMul, Nat.reduceSub, e0, e1, e2, e6, e7, e8, e9, e10, e12, h0, h4, h2, insLC_snoc, List.set_set, Nat.mul_one, insC, exV]; done)
          | (simp (disch := omega) only [wp, Nat.reduceAdd, Nat.reduceMul, Nat.reduceSub, hfr i hi]; done)
  · have h1' : ¬ (k : Int) < n := by omega
    obtain rfl : k = n := by omega
    unfold pgC
    simp (disch := omega) only [wp, Nat.reduceAdd, Nat.reduceMul, Nat.reduceSub, gl, e9, e12, h1']
    refine hQ _ _ ⟨pre, tok, hpl, ⟨?_, ?_, ?_, ?_, ?_, ?_, h0, h4, h2, by first | omega | (dsimp only; omega), hlen, hfr⟩, ⟨by omega, fun j hj => hall j (by omega), by rw [hpl]; exact hpre, by omega⟩⟩
    all_goals simp (disch := omega) only [wp, Nat.reduceAdd, Nat.reduceMul, Nat.reduceSub, e0, e1, e2, e6, e7, e8]
end Go.Ab
end
section
set_option linter.unusedVariables false
set_option linter.unusedSimpArgs false
namespace Go.Ab
variable {F : Funs}
def thsC (ths : List (List Ins)) : List AV := ths.map fun th => .sl (insLC th) th.length .non
structure PgEnd (B : Nat) (hp0 : Nat → Option Blk) (l : List Int) (T most : Nat) (cs : List AV) (e : Env) (g : G) : Prop where
  e6 : e 6 = .mp B 0
  h0 : g.hp B = some (.cells [.i .i64 2, .ms (B + 2) 0 T] false)
  h2 : g.hp (B + 2) = some (.cells cs false)
  nx : B + 4 < g.nx
  len : cs.length = T
  fr : ∀ i, i < B → g.hp i = hp0 i
  ok : CsOk l T T most cs
theorem set_same {cs : List AV} {t : Nat} {v : AV} (h : cs[t]? = some v) : cs.set t v = cs := by
  refine List.ext_getElem? fun j => ?_
  by_cases hj : t = j
  · subst hj
    rw [List.getElem?_set_self (List.getElem?_eq_some_iff.1 h).1, h]
  · rw [List.getElem?_set_ne hj]
set_option maxRecDepth 100000 in
set_option maxHeartbeats 4000000 in
theorem pg_walk (S : ProgF F) {l : List Int} {T most : Nat} (hT : 1 ≤ T) (hT8 : T ≤ 8) (hm : most ≤ 16) (hl : (l.length : Int) ≤ 140737488355328) {g : G} {Q : Out → Env → G → Prop} (hQ : ∀ e g' cs, PgEnd g.nx g.hp l T most cs e g' → Q .ret e g') : W F A_xlaw00_Prog.body (argEnv [.sl (intsC l) l.length .non, .i .i64 (T : Nat), .i .i64 (most : Nat)]) g Q := by
  have hmk := fun id g => vMksl_ms (id := id) (z := [AV.sl [] 0 .rig]) (b := 24) (n := T) (g := g) hT (by omega) (by omega) rfl
  simp (disch := omega) only [A_xlaw00_Prog, wp, Nat.reduceAdd, Nat.reduceMul, Nat.reduceSub, gl, o_mksl, hmk, Nat.add_assoc]
  refine blk_cut (fun e g' => ∃ cs, PgSt g.nx g.hp l T most T cs e g' ∧ CsOk l T T most cs) ?_ ?_
  · refine W_loop (fun q e g' => ∃ (t : Nat) (cs : List AV), q = T - t ∧ t ≤ T ∧ PgSt g.nx g.hp l T most t cs e g' ∧ CsOk l T t most cs) T ?_ ?_
    · refine ⟨0, (List.replicate T [AV.sl [] 0 .rig]).flatten, rfl, Nat.zero_le _, ⟨?_, ?_, ?_, ?_, ?_, ?_, ?_, ?_, ?_, by first | omega | (dsimp only; omega), by simp, fun i hi => ?_⟩, fun j hj => ?_⟩
      · simp (disch := omega) only [wp, Nat.reduceAdd, Nat.reduceMul, Nat.reduceSub]
      · simp (disch := omega) only [wp, Nat.reduceAdd, Nat.reduceMul, Nat.reduceSub]
      · simp (disch := omega) only [wp, Nat.reduceAdd, Nat.reduceMul, Nat.reduceSub]
      · simp (disch := omega) only [wp, Nat.reduceAdd, Nat.reduceMul, Nat.reduceSub]
      · simp (disch := omega) only [wp, Nat.reduceAdd, Nat.reduceMul, Nat.reduceSub]
      · simp (disch := omega) only [wp, Nat.reduceAdd, Nat.reduceMul, Nat.reduceSub]; rfl
      · simp (disch := omega) only [wp, Nat.reduceAdd, Nat.reduceMul, Nat.reduceSub]
      · simp (disch := omega) only [wp, Nat.reduceAdd, Nat.reduceMul, Nat.reduceSub]
      · simp (disch := omega) only [wp, Nat.reduceAdd, Nat.reduceMul, Nat.reduceSub]
      · simp (disch := omega) only [wp, Nat.reduceAdd, Nat.reduceMul, Nat.reduceSub]
      · rw [if_neg (by omega)]
        have hf : (List.replicate T [AV.sl [] 0 Tok.rig]).flatten = List.replicate T (AV.sl [] 0 .rig) := by simp [List.flatten_replicate_singleton]
        rw [hf, List.getElem?_replicate, if_pos hj]
    · rintro q e g' ⟨t, cs, rfl, htT, St, hcs⟩
      have St0 := St
      obtain ⟨e0, e1, e2, e6, e7, e8, h0, h4, h2, hnx, hlen, hfr⟩ := St
      by_cases ht : t < T
      · have ht' : (t : Int) < T := by omega
        simp (disch := omega) only [wp, Nat.reduceAdd, Nat.reduceMul, Nat.reduceSub, gl, e1, e8, ht']
        refine blk_cut (fun e g' => ∃ n : Nat, PgSt g.nx g.hp l T most t cs e g' ∧ e 9 = .i .i64 (n : Nat) ∧ e 10 = .i .i64 0 ∧ n ≤ most ∧ ∀ k, k < n → t + k * T < l.length) ?_ ?_
        · refine pg_count hT hT8 hm hl ht (B := g.nx) (hp0 := g.hp) (cs := cs) (g := ⟨g'.hp, g'.nx + 3 + 2 + 2⟩) ⟨?_, ?_, ?_, ?_, ?_, ?_, h0, h4, h2, ?_, hlen, hfr⟩ ?_ ?_ ?_ _ rfl (fun e g h => h)
          all_goals first | (simp (disch := omega) only [wp, Nat.reduceAdd, Nat.reduceMul, Nat.reduceSub, e0, e1, e2, e6, e7, e8]; done) | omega | (dsimp only; omega)
        · rintro e g1 ⟨n, ⟨e0, e1, e2, e6, e7, e8, h0, h4, h2, hnx, hlen, hfr⟩, e9, e10, hn, hall⟩
          simp (disch := omega) only [wp, Nat.reduceAdd, Nat.reduceMul, Nat.reduceSub, gl]
          have hct : cs[t]? = some (.sl [] 0 .rig) := by have := hcs t ht; rwa [if_neg (by omega)] at this
          refine blk_end (fun e g' => ∃ th tok, PgSt g.nx g.hp l T most t (cs.set t (.sl (insLC th) n tok)) e g' ∧ th.length = n ∧ ThrOk l T t most th) ?_ ?_
          · show W F (.loop pgC) _ _ _
            refine pg_thread S hT hT8 hm hl ht hn hall hlen (B := g.nx) (hp0 := g.hp) (g := ⟨g1.hp, g1.nx + 1⟩) ⟨⟨?_, ?_, ?_, ?_, ?_, ?_, h0, h4, ?_, ?_, by rw [List.length_set]; exact hlen, hfr⟩, ?_, ?_, rfl, .inl ⟨rfl, rfl⟩, ⟨fun k hk => by simp at hk⟩⟩ ?_ (fun e g ⟨th, tok, a, b, c⟩ => ⟨th, tok, b, a, c⟩)
            · simp (disch := omega) only [wp, Nat.reduceAdd, Nat.reduceMul, Nat.reduceSub, e0]
            · simp (disch := omega) only [wp, Nat.reduceAdd, Nat.reduceMul, Nat.reduceSub, e1]
            · simp (disch := omega) only [wp, Nat.reduceAdd, Nat.reduceMul, Nat.reduceSub, e2]
            · simp (disch := omega) only [wp, Nat.reduceAdd, Nat.reduceMul, Nat.reduceSub, e6]
            · simp (disch := omega) only [wp, Nat.reduceAdd, Nat.reduceMul, Nat.reduceSub, e7]
            · simp (disch := omega) only [wp, Nat.reduceAdd, Nat.reduceMul, Nat.reduceSub, e8]
            · rw [show insLC [] = [] from rfl, set_same hct]; exact h2
            · first | omega | (dsimp only; omega)
            · simp (disch := omega) only [wp, Nat.reduceAdd, Nat.reduceMul, Nat.reduceSub, e9]
            · simp (disch := omega) only [wp, Nat.reduceAdd, Nat.reduceMul, Nat.reduceSub]; rfl
            · simp (disch := omega) only [wp, Nat.reduceAdd, Nat.reduceMul, Nat.reduceSub, e10]
          · rintro e g2 ⟨th, tok, ⟨e0, e1, e2, e6, e7, e8, h0, h4, h2, hnx, hlen2, hfr⟩, hthn, hth⟩
            have hwt := succ_wrap (k := t) (by omega)
            simp (disch := omega) only [wp, Nat.reduceAdd, Nat.reduceMul, Nat.reduceSub, gl, e8, hwt]
            refine ⟨T - (t + 1), by omega, t + 1, cs.set t (.sl (insLC th) n tok), rfl, by omega, ⟨?_, ?_, ?_, ?_, ?_, ?_, h0, h4, h2, by first | omega | (dsimp only; omega), hlen2, hfr⟩, fun j hj => ?_⟩
            · simp (disch := omega) only [wp, Nat.reduceAdd, Nat.reduceMul, Nat.reduceSub, e0]
            · simp (disch := omega) only [wp, Nat.reduceAdd, Nat.reduceMul, Nat.reduceSub, e1]
            · simp (disch := omega) only [wp, Nat.reduceAdd, Nat.reduceMul, Nat.reduceSub, e2]
            · simp (disch := omega) only [wp, Nat.reduceAdd, Nat.reduceMul, Nat.reduceSub, e6]
            · simp (disch := omega) only [wp, Nat.reduceAdd, Nat.reduceMul, Nat.reduceSub, e7]
            · simp (disch := omega) only [wp, Nat.reduceAdd, Nat.reduceMul, Nat.reduceSub]
            · by_cases hjt : j = t
              · subst hjt
                rw [if_pos (by omega)]
                exact ⟨th, tok, by rw [List.getElem?_set_self (by omega), hthn], hth⟩
              · have := hcs j hj
                by_cases hj2 : j < t
                · rw [if_pos hj2] at this
                  rw [if_pos (by omega), List.getElem?_set_ne (by omega)]
                  exact this
                · rw [if_neg hj2] at this
                  rw [if_neg (by omega), List.getElem?_set_ne (by omega)]
                  exact this
      · have ht' : ¬ (t : Int) < T := by omega
        obtain rfl : t = T := by omega
        simp (disch := omega) only [wp, Nat.reduceAdd, Nat.reduceMul, Nat.reduceSub, gl, e1, e8, ht']
        refine ⟨cs, ⟨?_, ?_, ?_, ?_, ?_, ?_, h0, h4, h2, by first | omega | (dsimp only; omega), hlen, hfr⟩, hcs⟩
        all_goals simp (disch := omega) only [wp, Nat.reduceAdd, Nat.reduceMul, Nat.reduceSub, e0, e1, e2, e6, e7, e8]
  · rintro e g1 ⟨cs, ⟨e0, e1, e2, e6, e7, e8, h0, h4, h2, hnx, hlen, hfr⟩, hcs⟩
    simp (disch := omega) only [wp, Nat.reduceAdd, Nat.reduceMul, Nat.reduceSub, gl, e6, e7, h0, h4, part_ag2]
    refine hQ _ _ cs ⟨?_, ?_, ?_, by first | omega | (dsimp only; omega), hlen, fun i hi => ?_, hcs⟩
    · simp (disch := omega) only [wp, Nat.reduceAdd, Nat.reduceMul, Nat.reduceSub, e6]
    · simp (disch := omega) only [wp, Nat.reduceAdd, Nat.reduceMul, Nat.reduceSub]
    · simp (disch := omega) only [wp, Nat.reduceAdd, Nat.reduceMul, Nat.reduceSub, h2]
    · simp (disch := omega) only [wp, Nat.reduceAdd, Nat.reduceMul, Nat.reduceSub, hfr i hi]
theorem list_of {P : Nat → List Ins → Prop} : ∀ (cs : List AV), (∀ j, j < cs.length → ∃ th tok, cs[j]? = some (.sl (insLC th) th.length tok) ∧ P j th) → ∃ ths : List (List Ins), ths.length = cs.length ∧ ∀ j, j < cs.length → (∃ tok, cs[j]? = some (.sl (insLC (ths.getD j [])) (ths.getD j []).length tok)) ∧ P j (ths.getD j []) := by
  intro cs
  induction cs generalizing P with
  | nil => intro _; exact ⟨[], rfl, fun j hj => by simp at hj⟩
  | cons c cs ih =>
    intro h
    obtain ⟨th, tok, h1, h2⟩ := h 0 (by simp)
    obtain ⟨ths, h3, h4⟩ := ih (P := fun j => P (j + 1)) (fun j hj => by simpa using h (j + 1) (by simpa using hj))
    refine ⟨th :: ths, by simp [h3], fun j hj => ?_⟩
    cases j with
    | zero => exact ⟨⟨tok, by simpa using h1⟩, by simpa using h2⟩
    | succ j => simpa using h4 j (by simpa using hj)
theorem frzL_ths {hp : Nat → Option Blk} {k : Nat} : ∀ {cs : List AV} {ths : List (List Ins)}, ths.length = cs.length → (∀ j, j < cs.length → ∃ tok, cs[j]? = some (.sl (insLC (ths.getD j [])) (ths.getD j []).length tok)) → frzL hp (k + 1) cs = some (thsC ths)
  | [], [], _, _ => by simp [frzL, thsC]
  | c :: cs, th :: ths, hl, h => by
    obtain ⟨tok, h1⟩ := h 0 (by simp)
    have ih := frzL_ths (hp := hp) (k := k) (cs := cs) (ths := ths) (by simpa using hl) (fun j hj => by simpa using h (j + 1) (by simpa using hj))
    have h1 : c = .sl (insLC th) th.length tok := by simpa using h1
    subst h1
    simp only [frzL, frz, ih]
    rfl
end Go.Ab
end
section
set_option linter.unusedVariables false
set_option linter.unusedSimpArgs false
namespace Go.Ab
def ExOk (ex : List (Int × Int)) : Prop := ∃ a b m : Int, 0 ≤ a ∧ a < 3 ∧ 0 ≤ b ∧ b < 3 ∧ 0 ≤ m ∧ m < 10 ∧ ex = exM a b m
theorem exN_ok (v : Int) : ExOk (exN v) := by
  obtain ⟨p0, p1⟩ := place_lt (v := v) (n := 1073741824) (by omega)
  exact ⟨_, _, _, by omega, by omega, by omega, by omega, by omega, by omega, rfl⟩
inductive InsK (left : Int) : Ins → Prop
  | ld (md rg lc : Int) (h1 : md = 0 ∨ md = 1) (h2 : rg = 0 ∨ rg = 1 ∨ rg = 2) (h3 : lc = 0 ∨ lc = 1) : InsK left ⟨1, md, 0, rg, lc, [], 0⟩
  | st (md lc : Int) (ex : List (Int × Int)) (h1 : md = 0 ∨ md = 2) (h3 : lc = 0 ∨ lc = 1) (he : ExOk ex) : InsK left ⟨2, md, 0, 0, lc, ex, 0⟩
  | fe (md : Int) (h1 : md = 1 ∨ md = 2 ∨ md = 3 ∨ md = 4) : InsK left ⟨3, md, 0, 0, 0, [], 0⟩
  | fa (md md2 rg lc c : Int) (h1 : md = 0 ∨ md = 1) (h4 : md2 = 0 ∨ md2 = 2) (h2 : rg = 0 ∨ rg = 1 ∨ rg = 2) (h3 : lc = 0 ∨ lc = 1) (h5 : c = 0 ∨ c = 1) : InsK left ⟨4, md, md2, rg, lc, [(1, c)], 0⟩
  | se (rg : Int) (ex : List (Int × Int)) (h2 : rg = 0 ∨ rg = 1 ∨ rg = 2) (he : ExOk ex) : InsK left ⟨5, 0, 0, rg, 0, ex, 0⟩
  | sk (ex : List (Int × Int)) (n : Int) (he : ExOk ex) (h0 : 0 ≤ n) (h1 : n ≤ left) : InsK left ⟨6, 0, 0, 0, 0, ex, n⟩
theorem acq_01 (w : Int) : acqM w = 0 ∨ acqM w = 1 := by unfold acqM; split <;> omega
theorem rel_02 (w : Int) : relM w = 0 ∨ relM w = 2 := by unfold relM; split <;> omega
theorem insN_k {v left : Int} (h : 0 ≤ left) : InsK left (insN v left) := by
  obtain ⟨p0, p1⟩ := place_lt (v := v) (n := 1099511627776) (by omega)
  unfold insN
  generalize place v 1099511627776 = k at p0 p1
  have w0 : 0 ≤ k / 20 := by omega
  generalize k / 20 = w at w0
  generalize k % 20 = t
  unfold insT
  split
  · exact .ld _ _ _ (acq_01 w) (by omega) (by omega)
  split
  · exact .st _ _ _ (rel_02 w) (by omega) (exN_ok _)
  split
  · exact .fe _ (by omega)
  split
  · exact .fa _ _ _ _ _ (acq_01 w) (rel_02 w) (by omega) (by omega) (by omega)
  split
  · exact .se _ _ (by omega) (exN_ok _)
  · have h1 := Int.emod_nonneg (w / 19) (by omega : left + 1 ≠ 0)
    have h2 := Int.emod_lt_of_pos (w / 19) (by omega : 0 < left + 1)
    exact .sk _ _ (exN_ok _) h1 (by omega)
theorem fence_k (left : Int) : InsK left fence0 := .fe 4 (by omega)
theorem PreOk.k {l : List Int} {T t n : Nat} {pre : List Ins} (h : PreOk l T t n pre) {k : Nat} (hk : k < pre.length) : InsK ((n - 1 - k : Nat) : Int) (pre.getD k fence0) := by
  rcases h.ins k hk with ⟨v, h1⟩ | h1
  · rw [h1]; exact insN_k (by omega)
  · rw [h1]; exact fence_k _
end Go.Ab
end
section
set_option linter.unusedVariables false
set_option linter.unusedSimpArgs false
set_option maxRecDepth 100000
namespace Go.Proofs.Ytgkoidglnjdgoaa
open Go.Ab
def swRows : List AV := [0,0,0,0, 3,3,1,1, 6,5,1,1, 0,30,1,1, 7,3,5,2, 5,1,1,0, 12,1,1,0].map (.i .i64)
theorem swL : swRows.length = 28 := rfl
theorem swKinds : pureS funs 330 [] = some (.sl swRows 7 .non) := by
  refine pure_of (fn := A_sound_kinds) rfl ?_
  have r4 : ∀ x : AV, List.replicate 4 x = [x, x, x, x] := fun _ => rfl
  have r28 : ∀ x : AV, List.replicate 28 x = [x, x, x, x, x, x, x, x, x, x, x, x, x, x, x, x, x, x, x, x, x, x, x, x, x, x, x, x] := fun _ => rfl
  simp (disch := omega) only [A_sound_kinds, wp, Nat.reduceAdd, Nat.reduceMul, Nat.reduceSub, r4, r28, splice, List.take_succ_cons, List.take_zero, List.drop_succ_cons, List.drop_zero]
  try rfl
theorem swOf1 : pureS funs 303 [.i .i64 1] = some (.agg [.i .i64 3, .i .i64 3, .i .i64 1, .i .i64 1]) := by
  refine pure_of (fn := A_sound_of) rfl ?_
  have r4 : ∀ x : AV, List.replicate 4 x = [x, x, x, x] := fun _ => rfl
  have p4 : ∀ a b c d : AV, Go.Ab.part [a, b, c, d] 0 (some 4) = some (.agg [a, b, c, d]) := fun _ _ _ _ => rfl
  have s4 : ∀ a b c d w x y z : AV, splice [a, b, c, d] 0 [w, x, y, z] = [w, x, y, z] := fun _ _ _ _ _ _ _ _ => rfl
  have n0 : ¬ ((1 : Int) < 0) := by omega
  have n7 : ¬ (((7 : Nat) : Int) ≤ 1) := by omega
  have i1 : (1 : Int).toNat = 1 := rfl
  have d1 : Go.Ab.part (swRows.drop (1 * 4)) 0 (some 4) = some (.agg [.i .i64 3, .i .i64 3, .i .i64 1, .i .i64 1]) := rfl
  simp (disch := omega) only [A_sound_of, wp, Nat.reduceAdd, Nat.reduceMul, Nat.reduceSub, swKinds, r4, s4, d1, n0, n7, i1, swL, res_cell, resC, List.length_set, p4]
  refine frz_d_agg ?_
  show frzL _ (7 + 1) _ = _
  simp only [frzL, frz]
theorem swOf2 : pureS funs 303 [.i .i64 2] = some (.agg [.i .i64 6, .i .i64 5, .i .i64 1, .i .i64 1]) := by
  refine pure_of (fn := A_sound_of) rfl ?_
  have r4 : ∀ x : AV, List.replicate 4 x = [x, x, x, x] := fun _ => rfl
  have p4 : ∀ a b c d : AV, Go.Ab.part [a, b, c, d] 0 (some 4) = some (.agg [a, b, c, d]) := fun _ _ _ _ => rfl
  have s4 : ∀ a b c d w x y z : AV, splice [a, b, c, d] 0 [w, x, y, z] = [w, x, y, z] := fun _ _ _ _ _ _ _ _ => rfl
  have n0 : ¬ ((2 : Int) < 0) := by omega
  have n7 : ¬ (((7 : Nat) : Int) ≤ 2) := by omega
  have i2 : (2 : Int).toNat = 2 := rfl
  have d2 : Go.Ab.part (swRows.drop (2 * 4)) 0 (some 4) = some (.agg [.i .i64 6, .i .i64 5, .i .i64 1, .i .i64 1]) := rfl
  simp (disch := omega) only [A_sound_of, wp, Nat.reduceAdd, Nat.reduceMul, Nat.reduceSub, swKinds, r4, s4, d2, n0, n7, i2, swL, res_cell, resC, List.length_set, p4]
  refine frz_d_agg ?_
  show frzL _ (7 + 1) _ = _
  simp only [frzL, frz]
theorem swOf3 : pureS funs 303 [.i .i64 3] = some (.agg [.i .i64 0, .i .i64 30, .i .i64 1, .i .i64 1]) := by
  refine pure_of (fn := A_sound_of) rfl ?_
  have r4 : ∀ x : AV, List.replicate 4 x = [x, x, x, x] := fun _ => rfl
  have p4 : ∀ a b c d : AV, Go.Ab.part [a, b, c, d] 0 (some 4) = some (.agg [a, b, c, d]) := fun _ _ _ _ => rfl
  have s4 : ∀ a b c d w x y z : AV, splice [a, b, c, d] 0 [w, x, y, z] = [w, x, y, z] := fun _ _ _ _ _ _ _ _ => rfl
  have n0 : ¬ ((3 : Int) < 0) := by omega
  have n7 : ¬ (((7 : Nat) : Int) ≤ 3) := by omega
  have i3 : (3 : Int).toNat = 3 := rfl
  have d3 : Go.Ab.part (swRows.drop (3 * 4)) 0 (some 4) = some (.agg [.i .i64 0, .i .i64 30, .i .i64 1, .i .i64 1]) := rfl
  simp (disch := omega) only [A_sound_of, wp, Nat.reduceAdd, Nat.reduceMul, Nat.reduceSub, swKinds, r4, s4, d3, n0, n7, i3, swL, res_cell, resC, List.length_set, p4]
  refine frz_d_agg ?_
  show frzL _ (7 + 1) _ = _
  simp only [frzL, frz]
theorem swOf4 : pureS funs 303 [.i .i64 4] = some (.agg [.i .i64 7, .i .i64 3, .i .i64 5, .i .i64 2]) := by
  refine pure_of (fn := A_sound_of) rfl ?_
  have r4 : ∀ x : AV, List.replicate 4 x = [x, x, x, x] := fun _ => rfl
  have p4 : ∀ a b c d : AV, Go.Ab.part [a, b, c, d] 0 (some 4) = some (.agg [a, b, c, d]) := fun _ _ _ _ => rfl
  have s4 : ∀ a b c d w x y z : AV, splice [a, b, c, d] 0 [w, x, y, z] = [w, x, y, z] := fun _ _ _ _ _ _ _ _ => rfl
  have n0 : ¬ ((4 : Int) < 0) := by omega
  have n7 : ¬ (((7 : Nat) : Int) ≤ 4) := by omega
  have i4 : (4 : Int).toNat = 4 := rfl
  have d4 : Go.Ab.part (swRows.drop (4 * 4)) 0 (some 4) = some (.agg [.i .i64 7, .i .i64 3, .i .i64 5, .i .i64 2]) := rfl
  simp (disch := omega) only [A_sound_of, wp, Nat.reduceAdd, Nat.reduceMul, Nat.reduceSub, swKinds, r4, s4, d4, n0, n7, i4, swL, res_cell, resC, List.length_set, p4]
  refine frz_d_agg ?_
  show frzL _ (7 + 1) _ = _
  simp only [frzL, frz]
theorem swOf5 : pureS funs 303 [.i .i64 5] = some (.agg [.i .i64 5, .i .i64 1, .i .i64 1, .i .i64 0]) := by
  refine pure_of (fn := A_sound_of) rfl ?_
  have r4 : ∀ x : AV, List.replicate 4 x = [x, x, x, x] := fun _ => rfl
  have p4 : ∀ a b c d : AV, Go.Ab.part [a, b, c, d] 0 (some 4) = some (.agg [a, b, c, d]) := fun _ _ _ _ => rfl
  have s4 : ∀ a b c d w x y z : AV, splice [a, b, c, d] 0 [w, x, y, z] = [w, x, y, z] := fun _ _ _ _ _ _ _ _ => rfl
  have n0 : ¬ ((5 : Int) < 0) := by omega
  have n7 : ¬ (((7 : Nat) : Int) ≤ 5) := by omega
  have i5 : (5 : Int).toNat = 5 := rfl
  have d5 : Go.Ab.part (swRows.drop (5 * 4)) 0 (some 4) = some (.agg [.i .i64 5, .i .i64 1, .i .i64 1, .i .i64 0]) := rfl
  simp (disch := omega) only [A_sound_of, wp, Nat.reduceAdd, Nat.reduceMul, Nat.reduceSub, swKinds, r4, s4, d5, n0, n7, i5, swL, res_cell, resC, List.length_set, p4]
  refine frz_d_agg ?_
  show frzL _ (7 + 1) _ = _
  simp only [frzL, frz]
theorem swOf6 : pureS funs 303 [.i .i64 6] = some (.agg [.i .i64 12, .i .i64 1, .i .i64 1, .i .i64 0]) := by
  refine pure_of (fn := A_sound_of) rfl ?_
  have r4 : ∀ x : AV, List.replicate 4 x = [x, x, x, x] := fun _ => rfl
  have p4 : ∀ a b c d : AV, Go.Ab.part [a, b, c, d] 0 (some 4) = some (.agg [a, b, c, d]) := fun _ _ _ _ => rfl
  have s4 : ∀ a b c d w x y z : AV, splice [a, b, c, d] 0 [w, x, y, z] = [w, x, y, z] := fun _ _ _ _ _ _ _ _ => rfl
  have n0 : ¬ ((6 : Int) < 0) := by omega
  have n7 : ¬ (((7 : Nat) : Int) ≤ 6) := by omega
  have i6 : (6 : Int).toNat = 6 := rfl
  have d6 : Go.Ab.part (swRows.drop (6 * 4)) 0 (some 4) = some (.agg [.i .i64 12, .i .i64 1, .i .i64 1, .i .i64 0]) := rfl
  simp (disch := omega) only [A_sound_of, wp, Nat.reduceAdd, Nat.reduceMul, Nat.reduceSub, swKinds, r4, s4, d6, n0, n7, i6, swL, res_cell, resC, List.length_set, p4]
  refine frz_d_agg ?_
  show frzL _ (7 + 1) _ = _
  simp only [frzL, frz]
theorem sn_part0 (left : Int) : pureS funs 306 [.b false, .i .i64 0, .i .i64 left] = some (.b true) := by
  refine pure_of (fn := A_sound_part) rfl ?_
  have h0 : (0 : Int) ≤ 0 := Int.le_refl _
  simp (disch := omega) only [A_sound_part, wp, Nat.reduceAdd, Nat.reduceMul, Nat.reduceSub, h0]
theorem sn_part (x top : Int) (h0 : 0 ≤ x) (h1 : x ≤ top) : pureS funs 306 [.b true, .i .i64 x, .i .i64 top] = some (.b true) := by
  refine pure_of (fn := A_sound_part) rfl ?_
  simp (disch := omega) only [A_sound_part, wp, Nat.reduceAdd, Nat.reduceMul, Nat.reduceSub, h0, h1]
theorem sn_ex {ex : List (Int × Int)} (h : ExOk ex) : pureS funs 308 [exV ex] = some (.b true) := by
  obtain ⟨a, b, m, a0, a1, b0, b1, m0, m1, rfl⟩ := h
  have ha : a = 0 ∨ a = 1 ∨ a = 2 := by omega
  have hb : b = 0 ∨ b = 1 ∨ b = 2 := by omega
  have hm : m = 0 ∨ m = 1 ∨ m = 2 ∨ m = 3 ∨ m = 4 ∨ m = 5 ∨ m = 6 ∨ m = 7 ∨ m = 8 ∨ m = 9 := by omega
  rcases ha with rfl | rfl | rfl <;> rcases hb with rfl | rfl | rfl <;> rcases hm with rfl | rfl | rfl | rfl | rfl | rfl | rfl | rfl | rfl | rfl <;> exact pure_eval (orc0_ok funs) 1000 (fn := A_expr_Check) rfl (by kernel_rfl)
theorem snB1_1 : pureS funs 304 [.i .i64 1, .ptr [.i .i64 3, .i .i64 3, .i .i64 1, .i .i64 1]] = some (.b true) := pure_evalv (orc0_ok funs) 1000 (fn := A_sound_Instr_1) rfl (by kernel_rfl)
theorem snB1_2 : pureS funs 304 [.i .i64 2, .ptr [.i .i64 3, .i .i64 3, .i .i64 1, .i .i64 1]] = some (.b true) := pure_evalv (orc0_ok funs) 1000 (fn := A_sound_Instr_1) rfl (by kernel_rfl)
theorem snB1_4 : pureS funs 304 [.i .i64 4, .ptr [.i .i64 3, .i .i64 3, .i .i64 1, .i .i64 1]] = some (.b false) := pure_evalv (orc0_ok funs) 1000 (fn := A_sound_Instr_1) rfl (by kernel_rfl)
theorem snB1_8 : pureS funs 304 [.i .i64 8, .ptr [.i .i64 3, .i .i64 3, .i .i64 1, .i .i64 1]] = some (.b false) := pure_evalv (orc0_ok funs) 1000 (fn := A_sound_Instr_1) rfl (by kernel_rfl)
theorem snB2_1 : pureS funs 304 [.i .i64 1, .ptr [.i .i64 6, .i .i64 5, .i .i64 1, .i .i64 1]] = some (.b false) := pure_evalv (orc0_ok funs) 1000 (fn := A_sound_Instr_1) rfl (by kernel_rfl)
theorem snB2_2 : pureS funs 304 [.i .i64 2, .ptr [.i .i64 6, .i .i64 5, .i .i64 1, .i .i64 1]] = some (.b true) := pure_evalv (orc0_ok funs) 1000 (fn := A_sound_Instr_1) rfl (by kernel_rfl)
theorem snB2_4 : pureS funs 304 [.i .i64 4, .ptr [.i .i64 6, .i .i64 5, .i .i64 1, .i .i64 1]] = some (.b true) := pure_evalv (orc0_ok funs) 1000 (fn := A_sound_Instr_1) rfl (by kernel_rfl)
theorem snB2_8 : pureS funs 304 [.i .i64 8, .ptr [.i .i64 6, .i .i64 5, .i .i64 1, .i .i64 1]] = some (.b false) := pure_evalv (orc0_ok funs) 1000 (fn := A_sound_Instr_1) rfl (by kernel_rfl)
theorem snB3_1 : pureS funs 304 [.i .i64 1, .ptr [.i .i64 0, .i .i64 30, .i .i64 1, .i .i64 1]] = some (.b false) := pure_evalv (orc0_ok funs) 1000 (fn := A_sound_Instr_1) rfl (by kernel_rfl)
theorem snB3_2 : pureS funs 304 [.i .i64 2, .ptr [.i .i64 0, .i .i64 30, .i .i64 1, .i .i64 1]] = some (.b false) := pure_evalv (orc0_ok funs) 1000 (fn := A_sound_Instr_1) rfl (by kernel_rfl)
theorem snB3_4 : pureS funs 304 [.i .i64 4, .ptr [.i .i64 0, .i .i64 30, .i .i64 1, .i .i64 1]] = some (.b false) := pure_evalv (orc0_ok funs) 1000 (fn := A_sound_Instr_1) rfl (by kernel_rfl)
theorem snB3_8 : pureS funs 304 [.i .i64 8, .ptr [.i .i64 0, .i .i64 30, .i .i64 1, .i .i64 1]] = some (.b false) := pure_evalv (orc0_ok funs) 1000 (fn := A_sound_Instr_1) rfl (by kernel_rfl)
theorem snB4_1 : pureS funs 304 [.i .i64 1, .ptr [.i .i64 7, .i .i64 3, .i .i64 5, .i .i64 2]] = some (.b true) := pure_evalv (orc0_ok funs) 1000 (fn := A_sound_Instr_1) rfl (by kernel_rfl)
theorem snB4_2 : pureS funs 304 [.i .i64 2, .ptr [.i .i64 7, .i .i64 3, .i .i64 5, .i .i64 2]] = some (.b true) := pure_evalv (orc0_ok funs) 1000 (fn := A_sound_Instr_1) rfl (by kernel_rfl)
theorem snB4_4 : pureS funs 304 [.i .i64 4, .ptr [.i .i64 7, .i .i64 3, .i .i64 5, .i .i64 2]] = some (.b true) := pure_evalv (orc0_ok funs) 1000 (fn := A_sound_Instr_1) rfl (by kernel_rfl)
theorem snB4_8 : pureS funs 304 [.i .i64 8, .ptr [.i .i64 7, .i .i64 3, .i .i64 5, .i .i64 2]] = some (.b false) := pure_evalv (orc0_ok funs) 1000 (fn := A_sound_Instr_1) rfl (by kernel_rfl)
theorem snB5_1 : pureS funs 304 [.i .i64 1, .ptr [.i .i64 5, .i .i64 1, .i .i64 1, .i .i64 0]] = some (.b true) := pure_evalv (orc0_ok funs) 1000 (fn := A_sound_Instr_1) rfl (by kernel_rfl)
theorem snB5_2 : pureS funs 304 [.i .i64 2, .ptr [.i .i64 5, .i .i64 1, .i .i64 1, .i .i64 0]] = some (.b false) := pure_evalv (orc0_ok funs) 1000 (fn := A_sound_Instr_1) rfl (by kernel_rfl)
theorem snB5_4 : pureS funs 304 [.i .i64 4, .ptr [.i .i64 5, .i .i64 1, .i .i64 1, .i .i64 0]] = some (.b true) := pure_evalv (orc0_ok funs) 1000 (fn := A_sound_Instr_1) rfl (by kernel_rfl)
theorem snB5_8 : pureS funs 304 [.i .i64 8, .ptr [.i .i64 5, .i .i64 1, .i .i64 1, .i .i64 0]] = some (.b false) := pure_evalv (orc0_ok funs) 1000 (fn := A_sound_Instr_1) rfl (by kernel_rfl)
theorem snB6_1 : pureS funs 304 [.i .i64 1, .ptr [.i .i64 12, .i .i64 1, .i .i64 1, .i .i64 0]] = some (.b false) := pure_evalv (orc0_ok funs) 1000 (fn := A_sound_Instr_1) rfl (by kernel_rfl)
theorem snB6_2 : pureS funs 304 [.i .i64 2, .ptr [.i .i64 12, .i .i64 1, .i .i64 1, .i .i64 0]] = some (.b false) := pure_evalv (orc0_ok funs) 1000 (fn := A_sound_Instr_1) rfl (by kernel_rfl)
theorem snB6_4 : pureS funs 304 [.i .i64 4, .ptr [.i .i64 12, .i .i64 1, .i .i64 1, .i .i64 0]] = some (.b true) := pure_evalv (orc0_ok funs) 1000 (fn := A_sound_Instr_1) rfl (by kernel_rfl)
theorem snB6_8 : pureS funs 304 [.i .i64 8, .ptr [.i .i64 12, .i .i64 1, .i .i64 1, .i .i64 0]] = some (.b true) := pure_evalv (orc0_ok funs) 1000 (fn := A_sound_Instr_1) rfl (by kernel_rfl)
theorem snM0_3 : pureS funs 305 [.i .i64 0, .i .i64 3] = some (.b true) := pure_eval (orc0_ok funs) 1000 (fn := A_sound_mode) rfl (by kernel_rfl)
theorem snM1_3 : pureS funs 305 [.i .i64 1, .i .i64 3] = some (.b true) := pure_eval (orc0_ok funs) 1000 (fn := A_sound_mode) rfl (by kernel_rfl)
theorem snM0_1 : pureS funs 305 [.i .i64 0, .i .i64 1] = some (.b true) := pure_eval (orc0_ok funs) 1000 (fn := A_sound_mode) rfl (by kernel_rfl)
theorem snM0_5 : pureS funs 305 [.i .i64 0, .i .i64 5] = some (.b true) := pure_eval (orc0_ok funs) 1000 (fn := A_sound_mode) rfl (by kernel_rfl)
theorem snM2_5 : pureS funs 305 [.i .i64 2, .i .i64 5] = some (.b true) := pure_eval (orc0_ok funs) 1000 (fn := A_sound_mode) rfl (by kernel_rfl)
theorem snM1_30 : pureS funs 305 [.i .i64 1, .i .i64 30] = some (.b true) := pure_eval (orc0_ok funs) 1000 (fn := A_sound_mode) rfl (by kernel_rfl)
theorem snM2_30 : pureS funs 305 [.i .i64 2, .i .i64 30] = some (.b true) := pure_eval (orc0_ok funs) 1000 (fn := A_sound_mode) rfl (by kernel_rfl)
theorem snM3_30 : pureS funs 305 [.i .i64 3, .i .i64 30] = some (.b true) := pure_eval (orc0_ok funs) 1000 (fn := A_sound_mode) rfl (by kernel_rfl)
theorem snM4_30 : pureS funs 305 [.i .i64 4, .i .i64 30] = some (.b true) := pure_eval (orc0_ok funs) 1000 (fn := A_sound_mode) rfl (by kernel_rfl)
end Go.Proofs.Ytgkoidglnjdgoaa
end
section
set_option linter.unusedVariables false
set_option linter.unusedSimpArgs false
set_option maxRecDepth 100000
namespace Go.Proofs.Ytgkoidglnjdgoaa
open Go.Ab
set_option maxHeartbeats 2000000 in
theorem sn_ld (md rg lc left : Int) (h1 : md = 0 ∨ md = 1) (h2 : rg = 0 ∨ rg = 1 ∨ rg = 2) (h3 : lc = 0 ∨ lc = 1) : pureS funs 282 [.agg [.i .i64 1, .i .i64 md, .i .i64 0, .i .i64 rg, .i .i64 lc, .sl [] 0 .non, .i .i64 0], .i .i64 2, .i .i64 left] = some (.b true) := by
  refine pure_of (fn := A_sound_Instr) rfl ?_
  have r4 : ∀ x : AV, List.replicate 4 x = [x, x, x, x] := fun _ => rfl
  have s4 : ∀ a b c d w x y z : AV, splice [a, b, c, d] 0 [w, x, y, z] = [w, x, y, z] := fun _ _ _ _ _ _ _ _ => rfl
  have p4 : ∀ a b c d : AV, Go.Ab.part [a, b, c, d] 0 (some 4) = some (.agg [a, b, c, d]) := fun _ _ _ _ => rfl
  have hk4 : ((1 : Int) == 4) = false := rfl
  have p6 : ∀ a b c d e f x : AV, Go.Ab.part [a, b, c, d, e, f, x] 6 none = some x := fun _ _ _ _ _ _ _ => rfl
  have hmx : IntKind.i64.wrap ((if (2 : Int) < 0 then 0 else 2) - 1) = 1 := by decide +kernel
  have q0 : negb true (aeqa [0, 0, 0, 0] (.agg [.i .i64 3, .i .i64 3, .i .i64 1, .i .i64 1]) (.agg [.i .i64 0, .i .i64 0, .i .i64 0, .i .i64 0])) = some (.b true) := rfl
  have b1 := snB1_1
  have b2 := snB1_2
  have b4 := snB1_4
  have b8 := snB1_8
  have z1 := sn_part0 1
  have z7 := sn_part0 7
  have zl := sn_part0 left
  have hm : pureS funs 305 [.i .i64 md, .i .i64 3] = some (.b true) := by rcases h1 with rfl | rfl; exact snM0_3; exact snM1_3
  have hr := sn_part rg 7 (by omega) (by omega)
  have hl := sn_part lc 1 (by omega) (by omega)
  simp (disch := omega) only [A_sound_Instr, wp, Nat.reduceAdd, Nat.reduceMul, Nat.reduceSub, gl, swOf1, r4, s4, p4, hk4, q0, hmx, p6, b1, b2, b4, b8, z1, z7, zl, hm, hr, hl, snM0_1, insC, exV, tkC]
  try rfl
set_option maxHeartbeats 2000000 in
theorem sn_st (md lc left : Int) (ex : List (Int × Int)) (h1 : md = 0 ∨ md = 2) (h3 : lc = 0 ∨ lc = 1) (he : ExOk ex) : pureS funs 282 [.agg [.i .i64 2, .i .i64 md, .i .i64 0, .i .i64 0, .i .i64 lc, exV ex, .i .i64 0], .i .i64 2, .i .i64 left] = some (.b true) := by
  refine pure_of (fn := A_sound_Instr) rfl ?_
  have r4 : ∀ x : AV, List.replicate 4 x = [x, x, x, x] := fun _ => rfl
  have s4 : ∀ a b c d w x y z : AV, splice [a, b, c, d] 0 [w, x, y, z] = [w, x, y, z] := fun _ _ _ _ _ _ _ _ => rfl
  have p4 : ∀ a b c d : AV, Go.Ab.part [a, b, c, d] 0 (some 4) = some (.agg [a, b, c, d]) := fun _ _ _ _ => rfl
  have hk4 : ((2 : Int) == 4) = false := rfl
  have p6 : ∀ a b c d e f x : AV, Go.Ab.part [a, b, c, d, e, f, x] 6 none = some x := fun _ _ _ _ _ _ _ => rfl
  have hmx : IntKind.i64.wrap ((if (2 : Int) < 0 then 0 else 2) - 1) = 1 := by decide +kernel
  have q0 : negb true (aeqa [0, 0, 0, 0] (.agg [.i .i64 6, .i .i64 5, .i .i64 1, .i .i64 1]) (.agg [.i .i64 0, .i .i64 0, .i .i64 0, .i .i64 0])) = some (.b true) := rfl
  have b1 := snB2_1
  have b2 := snB2_2
  have b4 := snB2_4
  have b8 := snB2_8
  have z1 := sn_part0 1
  have z7 := sn_part0 7
  have zl := sn_part0 left
  have hm : pureS funs 305 [.i .i64 md, .i .i64 5] = some (.b true) := by rcases h1 with rfl | rfl; exact snM0_5; exact snM2_5
  have hl := sn_part lc 1 (by omega) (by omega)
  have hx := sn_ex he
  unfold exV at hx ⊢
  generalize tkC ex = tks at hx ⊢
  simp (disch := omega) only [A_sound_Instr, wp, Nat.reduceAdd, Nat.reduceMul, Nat.reduceSub, gl, swOf2, r4, s4, p4, hk4, q0, hmx, p6, b1, b2, b4, b8, z1, z7, zl, hm, hl, hx, snM0_1, insC, exV, tkC]
  try rfl
set_option maxHeartbeats 2000000 in
theorem sn_fe (md left : Int) (h1 : md = 1 ∨ md = 2 ∨ md = 3 ∨ md = 4) : pureS funs 282 [.agg [.i .i64 3, .i .i64 md, .i .i64 0, .i .i64 0, .i .i64 0, .sl [] 0 .non, .i .i64 0], .i .i64 2, .i .i64 left] = some (.b true) := by
  refine pure_of (fn := A_sound_Instr) rfl ?_
  have r4 : ∀ x : AV, List.replicate 4 x = [x, x, x, x] := fun _ => rfl
  have s4 : ∀ a b c d w x y z : AV, splice [a, b, c, d] 0 [w, x, y, z] = [w, x, y, z] := fun _ _ _ _ _ _ _ _ => rfl
  have p4 : ∀ a b c d : AV, Go.Ab.part [a, b, c, d] 0 (some 4) = some (.agg [a, b, c, d]) := fun _ _ _ _ => rfl
  have hk4 : ((3 : Int) == 4) = false := rfl
  have p6 : ∀ a b c d e f x : AV, Go.Ab.part [a, b, c, d, e, f, x] 6 none = some x := fun _ _ _ _ _ _ _ => rfl
  have hmx : IntKind.i64.wrap ((if (2 : Int) < 0 then 0 else 2) - 1) = 1 := by decide +kernel
  have q0 : negb true (aeqa [0, 0, 0, 0] (.agg [.i .i64 0, .i .i64 30, .i .i64 1, .i .i64 1]) (.agg [.i .i64 0, .i .i64 0, .i .i64 0, .i .i64 0])) = some (.b true) := rfl
  have b1 := snB3_1
  have b2 := snB3_2
  have b4 := snB3_4
  have b8 := snB3_8
  have z1 := sn_part0 1
  have z7 := sn_part0 7
  have zl := sn_part0 left
  have hm : pureS funs 305 [.i .i64 md, .i .i64 30] = some (.b true) := by rcases h1 with rfl | rfl | rfl | rfl; exact snM1_30; exact snM2_30; exact snM3_30; exact snM4_30
  simp (disch := omega) only [A_sound_Instr, wp, Nat.reduceAdd, Nat.reduceMul, Nat.reduceSub, gl, swOf3, r4, s4, p4, hk4, q0, hmx, p6, b1, b2, b4, b8, z1, z7, zl, hm, snM0_1, insC, exV, tkC]
  try rfl
set_option maxHeartbeats 2000000 in
theorem sn_fa (md md2 rg lc c left : Int) (h1 : md = 0 ∨ md = 1) (h4 : md2 = 0 ∨ md2 = 2) (h2 : rg = 0 ∨ rg = 1 ∨ rg = 2) (h3 : lc = 0 ∨ lc = 1) (h5 : c = 0 ∨ c = 1) : pureS funs 282 [.agg [.i .i64 4, .i .i64 md, .i .i64 md2, .i .i64 rg, .i .i64 lc, .sl [.i .i64 1, .i .i64 c] 1 .non, .i .i64 0], .i .i64 2, .i .i64 left] = some (.b true) := by
  refine pure_of (fn := A_sound_Instr) rfl ?_
  have r4 : ∀ x : AV, List.replicate 4 x = [x, x, x, x] := fun _ => rfl
  have s4 : ∀ a b c d w x y z : AV, splice [a, b, c, d] 0 [w, x, y, z] = [w, x, y, z] := fun _ _ _ _ _ _ _ _ => rfl
  have p4 : ∀ a b c d : AV, Go.Ab.part [a, b, c, d] 0 (some 4) = some (.agg [a, b, c, d]) := fun _ _ _ _ => rfl
  have hk4 : ((4 : Int) == 4) = true := rfl
  have p6 : ∀ a b c d e f x : AV, Go.Ab.part [a, b, c, d, e, f, x] 6 none = some x := fun _ _ _ _ _ _ _ => rfl
  have hmx : IntKind.i64.wrap ((if (2 : Int) < 0 then 0 else 2) - 1) = 1 := by decide +kernel
  have q0 : negb true (aeqa [0, 0, 0, 0] (.agg [.i .i64 7, .i .i64 3, .i .i64 5, .i .i64 2]) (.agg [.i .i64 0, .i .i64 0, .i .i64 0, .i .i64 0])) = some (.b true) := rfl
  have b1 := snB4_1
  have b2 := snB4_2
  have b4 := snB4_4
  have b8 := snB4_8
  have z1 := sn_part0 1
  have z7 := sn_part0 7
  have zl := sn_part0 left
  have hm : pureS funs 305 [.i .i64 md, .i .i64 3] = some (.b true) := by rcases h1 with rfl | rfl; exact snM0_3; exact snM1_3
  have hm2 : pureS funs 305 [.i .i64 md2, .i .i64 5] = some (.b true) := by rcases h4 with rfl | rfl; exact snM0_5; exact snM2_5
  have hr := sn_part rg 7 (by omega) (by omega)
  have hl := sn_part lc 1 (by omega) (by omega)
  have hg : pureS funs 307 [.sl [.i .i64 1, .i .i64 c] 1 .non] = some (.sl [] 0 .non) := by rcases h5 with rfl | rfl <;> exact pure_evalv (orc0_ok funs) 1000 (fn := A_expr_Regs) rfl (by kernel_rfl)
  have hk : pureS funs 308 [.sl [.i .i64 1, .i .i64 c] 1 .non] = some (.b true) := by rcases h5 with rfl | rfl <;> exact pure_eval (orc0_ok funs) 1000 (fn := A_expr_Check) rfl (by kernel_rfl)
  have hcn : pureS funs 369 [.sl [] 0 .non, .i .i64 rg] = some (.b false) := by rcases h2 with rfl | rfl | rfl <;> exact pure_evalv (orc0_ok funs) 1000 (fn := A_slices_Contains_lint_int) rfl (by kernel_rfl)
  have h17 : ¬ ((((1 : Nat) : Int)) > 7) := by omega
  have h17' : ¬ ((7 : Int) < ((1 : Nat) : Int)) := by omega
  simp (disch := omega) only [A_sound_Instr, wp, Nat.reduceAdd, Nat.reduceMul, Nat.reduceSub, gl, swOf4, r4, s4, p4, hk4, q0, hmx, p6, b1, b2, b4, b8, z1, z7, zl, hm, hm2, hr, hl, hg, hk, hcn, h17, h17', snM0_1, insC, exV, tkC]
  try rfl
set_option maxHeartbeats 2000000 in
theorem sn_se (rg left : Int) (ex : List (Int × Int)) (h2 : rg = 0 ∨ rg = 1 ∨ rg = 2) (he : ExOk ex) : pureS funs 282 [.agg [.i .i64 5, .i .i64 0, .i .i64 0, .i .i64 rg, .i .i64 0, exV ex, .i .i64 0], .i .i64 2, .i .i64 left] = some (.b true) := by
  refine pure_of (fn := A_sound_Instr) rfl ?_
  have r4 : ∀ x : AV, List.replicate 4 x = [x, x, x, x] := fun _ => rfl
  have s4 : ∀ a b c d w x y z : AV, splice [a, b, c, d] 0 [w, x, y, z] = [w, x, y, z] := fun _ _ _ _ _ _ _ _ => rfl
  have p4 : ∀ a b c d : AV, Go.Ab.part [a, b, c, d] 0 (some 4) = some (.agg [a, b, c, d]) := fun _ _ _ _ => rfl
  have hk4 : ((5 : Int) == 4) = false := rfl
  have p6 : ∀ a b c d e f x : AV, Go.Ab.part [a, b, c, d, e, f, x] 6 none = some x := fun _ _ _ _ _ _ _ => rfl
  have hmx : IntKind.i64.wrap ((if (2 : Int) < 0 then 0 else 2) - 1) = 1 := by decide +kernel
  have q0 : negb true (aeqa [0, 0, 0, 0] (.agg [.i .i64 5, .i .i64 1, .i .i64 1, .i .i64 0]) (.agg [.i .i64 0, .i .i64 0, .i .i64 0, .i .i64 0])) = some (.b true) := rfl
  have b1 := snB5_1
  have b2 := snB5_2
  have b4 := snB5_4
  have b8 := snB5_8
  have z1 := sn_part0 1
  have z7 := sn_part0 7
  have zl := sn_part0 left
  have hr := sn_part rg 7 (by omega) (by omega)
  have hx := sn_ex he
  unfold exV at hx ⊢
  generalize tkC ex = tks at hx ⊢
  simp (disch := omega) only [A_sound_Instr, wp, Nat.reduceAdd, Nat.reduceMul, Nat.reduceSub, gl, swOf5, r4, s4, p4, hk4, q0, hmx, p6, b1, b2, b4, b8, z1, z7, zl, hr, hx, snM0_1, insC, exV, tkC]
  try rfl
set_option maxHeartbeats 2000000 in
theorem sn_sk (n left : Int) (ex : List (Int × Int)) (he : ExOk ex) (h0 : 0 ≤ n) (h1 : n ≤ left) : pureS funs 282 [.agg [.i .i64 6, .i .i64 0, .i .i64 0, .i .i64 0, .i .i64 0, exV ex, .i .i64 n], .i .i64 2, .i .i64 left] = some (.b true) := by
  refine pure_of (fn := A_sound_Instr) rfl ?_
  have r4 : ∀ x : AV, List.replicate 4 x = [x, x, x, x] := fun _ => rfl
  have s4 : ∀ a b c d w x y z : AV, splice [a, b, c, d] 0 [w, x, y, z] = [w, x, y, z] := fun _ _ _ _ _ _ _ _ => rfl
  have p4 : ∀ a b c d : AV, Go.Ab.part [a, b, c, d] 0 (some 4) = some (.agg [a, b, c, d]) := fun _ _ _ _ => rfl
  have hk4 : ((6 : Int) == 4) = false := rfl
  have p6 : ∀ a b c d e f x : AV, Go.Ab.part [a, b, c, d, e, f, x] 6 none = some x := fun _ _ _ _ _ _ _ => rfl
  have hmx : IntKind.i64.wrap ((if (2 : Int) < 0 then 0 else 2) - 1) = 1 := by decide +kernel
  have q0 : negb true (aeqa [0, 0, 0, 0] (.agg [.i .i64 12, .i .i64 1, .i .i64 1, .i .i64 0]) (.agg [.i .i64 0, .i .i64 0, .i .i64 0, .i .i64 0])) = some (.b true) := rfl
  have b1 := snB6_1
  have b2 := snB6_2
  have b4 := snB6_4
  have b8 := snB6_8
  have z1 := sn_part0 1
  have z7 := sn_part0 7
  have zl := sn_part0 left
  have hN := sn_part n left h0 h1
  have hx := sn_ex he
  unfold exV at hx ⊢
  generalize tkC ex = tks at hx ⊢
  simp (disch := omega) only [A_sound_Instr, wp, Nat.reduceAdd, Nat.reduceMul, Nat.reduceSub, gl, swOf6, r4, s4, p4, hk4, q0, hmx, p6, b1, b2, b4, b8, z1, z7, zl, hN, hx, snM0_1, insC, exV, tkC]
  try rfl
theorem sn_instr {left : Int} {x : Ins} (h : InsK left x) : pureS funs 282 [.agg (insC x), .i .i64 2, .i .i64 left] = some (.b true) := by
  cases h with
  | ld md rg lc h1 h2 h3 => exact sn_ld md rg lc left h1 h2 h3
  | st md lc ex h1 h3 he => exact sn_st md lc left ex h1 h3 he
  | fe md h1 => exact sn_fe md left h1
  | fa md md2 rg lc c h1 h4 h2 h3 h5 => exact sn_fa md md2 rg lc c left h1 h4 h2 h3 h5
  | se rg ex h2 he => exact sn_se rg left ex h2 he
  | sk ex n he h0 h1 => exact sn_sk n left ex he h0 h1
end Go.Proofs.Ytgkoidglnjdgoaa
end
section
set_option linter.unusedVariables false
set_option linter.unusedSimpArgs false
namespace Go.Ab
theorem insLC_drop : ∀ {l : List Ins} {k : Nat} (h : k < l.length), (insLC l).drop (k * 7) = insC (l.getD k fence0) ++ insLC (l.drop (k + 1))
  | x :: l, 0, _ => by simp [insLC]
  | x :: l, k + 1, h => by
    have := insLC_drop (l := l) (k := k) (by simpa using h)
    simp only [List.getD_cons_succ, List.drop_succ_cons]
    rw [← this]
    simp [insLC, Nat.succ_mul, insC]
theorem ins_at {l : List Ins} {k : Nat} (h : k < l.length) : part ((insLC l).drop (k * 7)) 0 (some 7) = some (.agg (insC (l.getD k fence0))) := by
  rw [insLC_drop h]
  show (if 0 + 7 ≤ (insC (l.getD k fence0) ++ insLC (l.drop (k + 1))).length then _ else none) = _
  rw [if_pos (by rw [List.length_append, insC_len]; omega)]
  rfl
theorem th_at {l : List (List Ins)} {k : Nat} (h : k < l.length) : part ((thsC l).drop (k * 1)) 0 none = some (.sl (insLC (l.getD k [])) (l.getD k []).length .non) := by
  simp only [part, Nat.mul_one, thsC]
  rw [List.getElem?_drop, Nat.add_zero, List.getElem?_map, List.getD_eq_getElem?_getD]
  cases hz : l[k]? with
  | none => rw [List.getElem?_eq_none_iff] at hz; omega
  | some x => rfl
def nEv (x : Ins) : Nat := if x.kd = 4 then 2 else if x.kd = 5 ∨ x.kd = 6 then 0 else 1
def evS (l : List Ins) : Nat := (l.map nEv).sum
theorem nEv_le (x : Ins) : nEv x ≤ 2 := by unfold nEv; split <;> (try split) <;> omega
theorem evS_take {l : List Ins} {k : Nat} (h : k < l.length) : evS (l.take (k + 1)) = evS (l.take k) + nEv (l.getD k fence0) := by
  unfold evS
  rw [List.take_add_one, List.map_append, List.sum_append, List.getD_eq_getElem?_getD]
  cases hz : l[k]? with
  | none => rw [List.getElem?_eq_none_iff] at hz; omega
  | some x => simp
theorem evS_le (l : List Ins) : evS l ≤ 2 * l.length := by
  induction l with
  | nil => simp [evS]
  | cons x l ih =>
    have := nEv_le x
    simp only [evS, List.map_cons, List.sum_cons, List.length_cons] at ih ⊢
    omega
theorem skips_take {l : List Ins} {k : Nat} (h : k < l.length) : skips (l.take (k + 1)) = skips (l.take k) + (if (l.getD k fence0).kd = 6 then 1 else 0) := by
  rw [List.take_add_one, List.getD_eq_getElem?_getD]
  cases hz : l[k]? with
  | none => rw [List.getElem?_eq_none_iff] at hz; omega
  | some x => simpa using skips_snoc (l.take k) x
theorem skips_le (l : List Ins) (k : Nat) : skips (l.take k) ≤ skips l := by
  unfold skips
  exact List.Sublist.countP_le (List.take_sublist k l)
structure ThK (th : List Ins) : Prop where
  len : th.length ≤ 12
  ins : ∀ k, k < th.length → InsK ((th.length - 1 - k : Nat) : Int) (th.getD k fence0)
  sk : skips th ≤ 2
theorem ThrOk.k {l : List Int} {T t most : Nat} {th : List Ins} (h : ThrOk l T t most th) (hm : most ≤ 12) : ThK th :=
  ⟨Nat.le_trans h.most hm, fun k hk => h.pre.k hk, h.sk⟩
end Go.Ab
end
section
set_option linter.unusedVariables false
set_option linter.unusedSimpArgs false
set_option maxRecDepth 100000
namespace Go.Proofs.Ytgkoidglnjdgoaa
open Go.Ab
theorem sn_of {left : Int} {x : Ins} (h : InsK left x) : ∃ a b c : Int, pureS funs 303 [.i .i64 x.kd] = some (.agg [.i .i64 a, .i .i64 b, .i .i64 c, .i .i64 ((nEv x : Nat) : Int)]) := by
  cases h with
  | ld => exact ⟨_, _, _, swOf1⟩
  | st => exact ⟨_, _, _, swOf2⟩
  | fe => exact ⟨_, _, _, swOf3⟩
  | fa => exact ⟨_, _, _, swOf4⟩
  | se => exact ⟨_, _, _, swOf5⟩
  | sk => exact ⟨_, _, _, swOf6⟩
theorem sn_events {th : List Ins} (h : ThK th) : pureS funs 301 [.sl (insLC th) th.length .non] = some (.i .i64 ((evS th : Nat) : Int)) := by
  refine pure_of (fn := A_sound_Events) rfl ?_
  have hlen := h.len
  have s7 : ∀ a b c d e f x1 x2 x3 x4 x5 x6 x7 y : AV, splice [a, b, c, d, e, f, y] 0 [x1, x2, x3, x4, x5, x6, x7] = [x1, x2, x3, x4, x5, x6, x7] := fun _ _ _ _ _ _ _ _ _ _ _ _ _ _ => rfl
  have l5 : ∀ x : AV, List.replicate 5 x = [x, x, x, x, x] := fun _ => rfl
  simp (disch := omega) only [A_sound_Events, wp, Nat.reduceAdd, Nat.reduceMul, Nat.reduceSub, gl]
  refine blk_cut (fun e g => e 3 = .i .i64 ((evS th : Nat) : Int)) ?_ ?_
  · refine W_loop (fun q e g => ∃ k : Nat, q = th.length - k ∧ k ≤ th.length ∧ e 3 = .i .i64 ((evS (th.take k) : Nat) : Int) ∧ e 6 = .sl (insLC th) th.length .non ∧ e 7 = .i .i64 (th.length : Nat) ∧ e 8 = .i .i64 (k : Nat)) th.length ?_ ?_
    · refine ⟨0, rfl, Nat.zero_le _, ?_⟩
      simp (disch := omega) only [wp, Nat.reduceAdd, Nat.reduceMul, Nat.reduceSub]
      exact ⟨rfl, rfl⟩
    · rintro q e g ⟨k, rfl, hk, e3, e6, e7, e8⟩
      by_cases h1 : k < th.length
      · have h1' : (k : Int) < th.length := by omega
        have hp := ins_at h1
        obtain ⟨a, b, c, ho⟩ := sn_of (h.ins k h1)
        have hs := evS_take h1
        have hb := nEv_le (th.getD k fence0)
        have hb2 := evS_le (th.take k)
        have hb3 : (th.take k).length ≤ 12 := by rw [List.length_take]; omega
        have hw1 := succ_wrap (k := k) (by omega)
        have hw2 : IntKind.i64.wrap (((evS (th.take k) : Nat) : Int) + ((nEv (th.getD k fence0) : Nat) : Int)) = ((evS (th.take (k + 1)) : Nat) : Int) := by
          rw [i64_wrap (by omega) (by omega), hs]; omega
        generalize th.getD k fence0 = x at hp ho hw2
        simp (disch := omega) only [wp, Nat.reduceAdd, Nat.reduceMul, Nat.reduceSub, gl, e3, e6, e7, e8, h1', hp, ho, hw1, hw2, insC, exV, l5, s7]
        exact ⟨th.length - (k + 1), by omega, k + 1, rfl, by omega, rfl, rfl⟩
      · have h1' : ¬ (k : Int) < th.length := by omega
        obtain rfl : k = th.length := by omega
        simp (disch := omega) only [wp, Nat.reduceAdd, Nat.reduceMul, Nat.reduceSub, gl, e3, e6, e7, e8, h1']
        rw [List.take_length]
  · rintro e g e3
    simp (disch := omega) only [wp, Nat.reduceAdd, Nat.reduceMul, Nat.reduceSub, e3]
theorem sn_paths {th : List Ins} (h : ThK th) : pureS funs 302 [.sl (insLC th) th.length .non] = some (.i .i64 ((2 ^ skips th : Nat) : Int)) := by
  refine pure_of (fn := A_sound_Paths) rfl ?_
  have hlen := h.len
  have hsk := h.sk
  have s7 : ∀ a b c d e f x1 x2 x3 x4 x5 x6 x7 y : AV, splice [a, b, c, d, e, f, y] 0 [x1, x2, x3, x4, x5, x6, x7] = [x1, x2, x3, x4, x5, x6, x7] := fun _ _ _ _ _ _ _ _ _ _ _ _ _ _ => rfl
  have l5 : ∀ x : AV, List.replicate 5 x = [x, x, x, x, x] := fun _ => rfl
  simp (disch := omega) only [A_sound_Paths, wp, Nat.reduceAdd, Nat.reduceMul, Nat.reduceSub, gl]
  refine blk_cut (fun e g => e 3 = .i .i64 ((2 ^ skips th : Nat) : Int)) ?_ ?_
  · refine W_loop (fun q e g => ∃ k : Nat, q = th.length - k ∧ k ≤ th.length ∧ e 3 = .i .i64 ((2 ^ skips (th.take k) : Nat) : Int) ∧ e 6 = .sl (insLC th) th.length .non ∧ e 7 = .i .i64 (th.length : Nat) ∧ e 8 = .i .i64 (k : Nat)) th.length ?_ ?_
    · refine ⟨0, rfl, Nat.zero_le _, ?_⟩
      simp (disch := omega) only [wp, Nat.reduceAdd, Nat.reduceMul, Nat.reduceSub]
      exact ⟨rfl, rfl⟩
    · rintro q e g ⟨k, rfl, hk, e3, e6, e7, e8⟩
      by_cases h1 : k < th.length
      · have h1' : (k : Int) < th.length := by omega
        have hp := ins_at h1
        have hs := skips_take h1
        have hb := skips_le th k
        have hw1 := succ_wrap (k := k) (by omega)
        have h2s : (2 ^ skips (th.take k) : Nat) ≤ 4 := by
          have : skips (th.take k) ≤ 2 := by omega
          exact Nat.le_trans (Nat.pow_le_pow_right (by omega) this) (by decide)
        generalize th.getD k fence0 = x at hp hs
        cases h6 : (x.kd == 6)
        · have h6' : ¬ x.kd = 6 := by simpa using h6
          simp only [if_neg h6', Nat.add_zero] at hs
          simp (disch := omega) only [wp, Nat.reduceAdd, Nat.reduceMul, Nat.reduceSub, gl, e3, e6, e7, e8, h1', hp, hw1, insC, exV, l5, s7, h6]
          exact ⟨th.length - (k + 1), by omega, k + 1, rfl, by omega, by rw [hs], rfl⟩
        · have h6' : x.kd = 6 := by simpa using h6
          rw [if_pos h6'] at hs
          have hq : (2 ^ skips (th.take (k + 1)) : Nat) = 2 * 2 ^ skips (th.take k) := by rw [hs, Nat.pow_succ, Nat.mul_comm]
          have hw2 : IntKind.i64.wrap (2 * ((2 ^ skips (th.take k) : Nat) : Int)) = ((2 ^ skips (th.take (k + 1)) : Nat) : Int) := by
            rw [hq]
            generalize (2 ^ skips (th.take k) : Nat) = u at h2s
            rw [i64_wrap (by omega) (by omega)]; omega
          have hmn : (if (1000000 : Int) < ((2 ^ skips (th.take (k + 1)) : Nat) : Int) then (1000000 : Int) else ((2 ^ skips (th.take (k + 1)) : Nat) : Int)) = ((2 ^ skips (th.take (k + 1)) : Nat) : Int) := by
            rw [hq]
            generalize (2 ^ skips (th.take k) : Nat) = u at h2s
            rw [if_neg (by omega)]
          simp (disch := omega) only [wp, Nat.reduceAdd, Nat.reduceMul, Nat.reduceSub, gl, e3, e6, e7, e8, h1', hp, hw1, hw2, hmn, insC, exV, l5, s7, h6]
          exact ⟨th.length - (k + 1), by omega, k + 1, rfl, by omega, rfl, rfl⟩
      · have h1' : ¬ (k : Int) < th.length := by omega
        obtain rfl : k = th.length := by omega
        simp (disch := omega) only [wp, Nat.reduceAdd, Nat.reduceMul, Nat.reduceSub, gl, e3, e6, e7, e8, h1']
        rw [List.take_length]
  · rintro e g e3
    simp (disch := omega) only [wp, Nat.reduceAdd, Nat.reduceMul, Nat.reduceSub, e3]
end Go.Proofs.Ytgkoidglnjdgoaa
end
section
set_option linter.unusedVariables false
set_option linter.unusedSimpArgs false
set_option maxRecDepth 100000
namespace Go.Proofs.Ytgkoidglnjdgoaa
open Go.Ab
def evT (l : List (List Ins)) : Nat := (l.map evS).sum
theorem evT_take {l : List (List Ins)} {k : Nat} (h : k < l.length) : evT (l.take (k + 1)) = evT (l.take k) + evS (l.getD k []) := by
  unfold evT
  rw [List.take_add_one, List.map_append, List.sum_append, List.getD_eq_getElem?_getD]
  cases hz : l[k]? with
  | none => rw [List.getElem?_eq_none_iff] at hz; omega
  | some x => simp
theorem evT_le (l : List (List Ins)) (k : Nat) : evT (l.take k) ≤ evT l := by
  have h : l = l.take k ++ l.drop k := (List.take_append_drop k l).symm
  have : evT l = evT (l.take k) + evT (l.drop k) := by
    conv => lhs; rw [h]
    unfold evT
    rw [List.map_append, List.sum_append]
  omega
set_option maxHeartbeats 4000000 in
theorem sn_check {ths : List (List Ins)} (h1 : 1 ≤ ths.length) (h4 : ths.length ≤ 4) (hk : ∀ t, t < ths.length → ThK (ths.getD t [])) (hs : 2 + evT ths ≤ 40) : pureS funs 280 [.agg [.i .i64 2, .sl (thsC ths) ths.length .non]] = some (.i .i64 0) := by
  refine pure_of (fn := A_sound_Check) rfl ?_
  have s7 : ∀ a b c d e f x1 x2 x3 x4 x5 x6 x7 y : AV, splice [a, b, c, d, e, f, y] 0 [x1, x2, x3, x4, x5, x6, x7] = [x1, x2, x3, x4, x5, x6, x7] := fun _ _ _ _ _ _ _ _ _ _ _ _ _ _ => rfl
  have l5 : ∀ x : AV, List.replicate 5 x = [x, x, x, x, x] := fun _ => rfl
  have n1 : ¬ ((2 : Int) < 1) := by omega
  have n2 : ¬ ((4 : Int) < 2) := by omega
  have e0 : (((ths.length : Nat) : Int) == 0) = false := by rw [beq_eq_false_iff_ne]; omega
  have n3 : ¬ ((4 : Int) < ((ths.length : Nat) : Int)) := by omega
  simp (disch := omega) only [A_sound_Check, wp, Nat.reduceAdd, Nat.reduceMul, Nat.reduceSub, gl, n1, n2, n3, e0]
  refine blk_cut (fun e g => e 3 = .b false ∧ e 4 = .i .i64 ((2 + evT ths : Nat) : Int)) ?_ ?_
  · refine W_loop (fun q e g => ∃ t : Nat, q = ths.length - t ∧ t ≤ ths.length ∧ e 1 = .mp 0 0 ∧ e 3 = .b false ∧ e 4 = .i .i64 ((2 + evT (ths.take t) : Nat) : Int) ∧ e 30 = .sl (thsC ths) ths.length .non ∧ e 31 = .i .i64 (ths.length : Nat) ∧ e 32 = .i .i64 (t : Nat) ∧ g.hp 0 = some (.cells [.i .i64 2, .sl (thsC ths) ths.length .non] false) ∧ 0 < g.nx) ths.length ?_ ?_
    · refine ⟨0, rfl, Nat.zero_le _, ?_⟩
      simp (disch := omega) only [wp, Nat.reduceAdd, Nat.reduceMul, Nat.reduceSub]
      exact ⟨rfl, rfl, by first | omega | (dsimp only; omega)⟩
    · rintro q e g ⟨t, rfl, ht, e1, e3, e4, e30, e31, e32, hg, hnx⟩
      by_cases c1 : t < ths.length
      · have c1' : (t : Int) < ths.length := by omega
        have hp := th_at c1
        have hth := hk t c1
        have hes := evT_take c1
        have hel := evT_le ths (t + 1)
        have hev := sn_events hth
        have hpa := sn_paths hth
        have hle := hth.len
        have hwt := succ_wrap (k := t) (by omega)
        have hsk : 2 ^ skips (ths.getD t []) ≤ 4 := Nat.le_trans (Nat.pow_le_pow_right (by omega) hth.sk) (by decide)
        have m1 : ¬ ((64 : Int) < ((2 ^ skips (ths.getD t []) : Nat) : Int)) := by omega
        generalize hT : ths.getD t [] = th at hp hth hes hev hpa hle hsk m1
        have m2 : ¬ ((12 : Int) < ((th.length : Nat) : Int)) := by omega
        have hwe : IntKind.i64.wrap (((2 + evT (ths.take t) : Nat) : Int) + ((evS th : Nat) : Int)) = ((2 + evT (ths.take (t + 1)) : Nat) : Int) := by
          rw [i64_wrap (by omega) (by omega), hes]; omega
        simp (disch := omega) only [wp, Nat.reduceAdd, Nat.reduceMul, Nat.reduceSub, gl, e1, e30, e31, e32, c1', hp]
        refine blk_cut (fun e g => e 1 = .mp 0 0 ∧ e 3 = .b false ∧ e 4 = .i .i64 ((2 + evT (ths.take t) : Nat) : Int) ∧ e 6 = .sl (insLC th) th.length .non ∧ e 30 = .sl (thsC ths) ths.length .non ∧ e 31 = .i .i64 (ths.length : Nat) ∧ e 32 = .i .i64 (t : Nat) ∧ g.hp 0 = some (.cells [.i .i64 2, .sl (thsC ths) ths.length .non] false) ∧ 0 < g.nx) ?_ ?_
        · refine W_loop (fun q e g => ∃ k : Nat, q = th.length - k ∧ k ≤ th.length ∧ e 1 = .mp 0 0 ∧ e 3 = .b false ∧ e 4 = .i .i64 ((2 + evT (ths.take t) : Nat) : Int) ∧ e 6 = .sl (insLC th) th.length .non ∧ e 30 = .sl (thsC ths) ths.length .non ∧ e 31 = .i .i64 (ths.length : Nat) ∧ e 32 = .i .i64 (t : Nat) ∧ g.hp 0 = some (.cells [.i .i64 2, .sl (thsC ths) ths.length .non] false) ∧ 0 < g.nx ∧ e 36 = .sl (insLC th) th.length .non ∧ e 37 = .i .i64 (th.length : Nat) ∧ e 38 = .i .i64 (k : Nat)) th.length ?_ ?_
          · refine ⟨0, rfl, Nat.zero_le _, ?_⟩
            simp (disch := omega) only [wp, Nat.reduceAdd, Nat.reduceMul, Nat.reduceSub, e1, e3, e4, e30, e31, e32, hg]
            exact ⟨by first | omega | (dsimp only; omega), rfl⟩
          · rintro q e g ⟨k, rfl, hkk, e1, e3, e4, e6, e30, e31, e32, hg, hnx, e36, e37, e38⟩
            by_cases d1 : k < th.length
            · have d1' : (k : Int) < th.length := by omega
              have hpi := ins_at d1
              have hI := sn_instr (hth.ins k d1)
              have hw1 : IntKind.i64.wrap (((th.length : Nat) : Int) - 1) = ((th.length - 1 : Nat) : Int) := by rw [i64_wrap (by omega) (by omega)]; omega
              have hw2 : IntKind.i64.wrap (((th.length - 1 : Nat) : Int) - ((k : Nat) : Int)) = ((th.length - 1 - k : Nat) : Int) := by rw [i64_wrap (by omega) (by omega)]; omega
              have hwk := succ_wrap (k := k) (by omega)
              generalize th.getD k fence0 = x at hpi hI
              unfold insC exV at hI
              simp (disch := omega) only [wp, Nat.reduceAdd, Nat.reduceMul, Nat.reduceSub, gl, e1, e6, e36, e37, e38, hg, d1', hpi, hI, hw1, hw2, hwk, insC, exV, l5, s7, part_ag7, frz_ag7]
              refine ⟨th.length - (k + 1), by omega, k + 1, rfl, by omega, ?_⟩
              simp (disch := omega) only [wp, Nat.reduceAdd, Nat.reduceMul, Nat.reduceSub, e1, e3, e4, e6, e30, e31, e32, e36, e37, hg]
              first | omega | (dsimp only; omega)
            · have d1' : ¬ (k : Int) < th.length := by omega
              simp (disch := omega) only [wp, Nat.reduceAdd, Nat.reduceMul, Nat.reduceSub, gl, e37, e38, d1']
              simp (disch := omega) only [wp, Nat.reduceAdd, Nat.reduceMul, Nat.reduceSub, e1, e3, e4, e6, e30, e31, e32, hg]
              first | omega | (dsimp only; omega)
        · rintro e g ⟨e1, e3, e4, e6, e30, e31, e32, hg, hnx⟩
          simp (disch := omega) only [wp, Nat.reduceAdd, Nat.reduceMul, Nat.reduceSub, gl, e1, e3, e4, e6, e32, hev, hpa, hwe, m1, m2, hwt]
          refine ⟨ths.length - (t + 1), by omega, t + 1, rfl, by omega, ?_⟩
          simp (disch := omega) only [wp, Nat.reduceAdd, Nat.reduceMul, Nat.reduceSub, e1, e30, e31, hg]
          first | omega | (dsimp only; omega) | exact ⟨rfl, by first | omega | (dsimp only; omega)⟩
      · have c1' : ¬ (t : Int) < ths.length := by omega
        obtain rfl : t = ths.length := by omega
        simp (disch := omega) only [wp, Nat.reduceAdd, Nat.reduceMul, Nat.reduceSub, gl, e31, e32, c1']
        rw [List.take_length] at e4
        simp (disch := omega) only [wp, Nat.reduceAdd, Nat.reduceMul, Nat.reduceSub, e3, e4]
  · rintro e g ⟨e3, e4⟩
    have m3 : ¬ ((40 : Int) < ((2 + evT ths : Nat) : Int)) := by omega
    simp (disch := omega) only [wp, Nat.reduceAdd, Nat.reduceMul, Nat.reduceSub, gl, e3, e4, m3]
end Go.Proofs.Ytgkoidglnjdgoaa
end
section
set_option linter.unusedVariables false
set_option linter.unusedSimpArgs false
set_option maxRecDepth 100000
namespace Go.Ab
variable {F : Funs}
theorem o_slice {c : CS} {al : Nat → Bool} {lo id : Nat} {e : Env} {g : G} (esz x l h m) : opE c al lo id (.slice esz x l h m) e g = vSlice esz (x.ev e) (evo e l) (evo e h) (evo e m) g := rfl
theorem evo_none (e : Env) : evo e none = none := rfl
theorem evo_some (e : Env) (x : Opd) : evo e (some x) = some (x.ev e) := rfl
theorem vSlice_to {esz n k : Nat} {cs : List AV} {t : Tok} {g : G} (h : k ≤ n) : vSlice esz (.sl cs n t) none (some (.i .i64 ((k : Nat) : Int))) none g = some (.sl (cs.take (k * esz)) k (if t = .rig ∧ ((k : Nat) : Int) = ((n : Nat) : Int) then .rig else .non), g) := by
  simp only [vSlice, bnd]
  rw [if_pos ⟨by omega, by omega, by omega⟩]
  simp only [Int.toNat_natCast, Nat.zero_mul, List.drop_zero, Nat.sub_zero]
theorem vSlice_from {esz n k : Nat} {cs : List AV} {t : Tok} {g : G} (h : k ≤ n) : vSlice esz (.sl cs n t) (some (.i .i64 ((k : Nat) : Int))) none none g = some (.sl ((cs.drop (k * esz)).take ((n - k) * esz)) (n - k) (if t = .rig then .rig else .non), g) := by
  simp only [vSlice, bnd]
  rw [if_pos ⟨by omega, by omega, by omega⟩]
  simp only [Int.toNat_natCast, and_true]
theorem bind_call {d : Bool} {b j : Nat} {dst : Option Nat} {os : List AOper} {e : Env} {K : Env → G → Prop} {f : Nat} {xs : List AV} {g : G} {P : AV → G → Prop} (h : ∃ v g', callS F f xs g = some (v, g') ∧ P v g') (k : ∀ v g', P v g' → WR F d b j os (put e dst v) g' K) : bindO F d b j dst os e K (callS F f xs g) := by
  obtain ⟨v, g', h1, h2⟩ := h
  rw [h1]
  exact k v g' h2
theorem callS_of {f : Nat} {fn : AFun} {xs : List AV} {g : G} {P : AV → G → Prop} (hF : F f = some fn) (h : W F fn.body (argEnv xs) g (fun o e g' => (o = .ret ∨ o = .nrm) ∧ ∃ v, resE fn.res e g' = some v ∧ P v g')) : ∃ v g', callS F f xs g = some (v, g') ∧ P v g' := by
  obtain ⟨o, e, g', h1, h2, v, h3, h4⟩ := h
  refine ⟨v, g', ?_, h4⟩
  rw [callS_eq, hF]
  simp only [h1]
  rcases h2 with rfl | rfl <;> simp only [h3, Option.map_some]
theorem pg_raw (S : ProgF F) (h86 : F 86 = some A_xlaw00_Prog) {l : List Int} {T most : Nat} (hT : 1 ≤ T) (hT8 : T ≤ 8) (hm : most ≤ 16) (hl : (l.length : Int) ≤ 140737488355328) (g : G) : ∃ v g', callS F 86 [.sl (intsC l) l.length .non, .i .i64 (T : Nat), .i .i64 (most : Nat)] g = some (v, g') ∧ ∃ cs, v = .agg [.i .i64 2, .ms (g.nx + 2) 0 T] ∧ g'.hp (g.nx + 2) = some (.cells cs false) ∧ cs.length = T ∧ CsOk l T T most cs ∧ g.nx + 4 < g'.nx := by
  refine callS_of h86 (pg_walk S hT hT8 hm hl fun e g' cs ⟨e6, h0, h2, hnx, hlen, hfr, hok⟩ => ⟨.inl rfl, _, ?_, cs, rfl, h2, hlen, hok, hnx⟩)
  show resE [.cell 6 (some 2)] e g' = _
  rw [res_cell, e6]
  simp only [resC, h0, part_ag2]
theorem InsK.left {a b : Int} {x : Ins} (h : InsK a x) (h6 : x.kd ≠ 6) : InsK b x := by
  cases h with
  | ld md rg lc h1 h2 h3 => exact .ld md rg lc h1 h2 h3
  | st md lc ex h1 h3 he => exact .st md lc ex h1 h3 he
  | fe md h1 => exact .fe md h1
  | fa md md2 rg lc c h1 h4 h2 h3 h5 => exact .fa md md2 rg lc c h1 h4 h2 h3 h5
  | se rg ex h2 he => exact .se rg ex h2 he
  | sk ex n he h0 h1 => exact absurd rfl h6
theorem insLC_take : ∀ (l : List Ins) (k : Nat), (insLC l).take (k * 7) = insLC (l.take k)
  | l, 0 => by simp [insLC]
  | [], k + 1 => by simp [insLC]
  | x :: l, k + 1 => by
    have := insLC_take l k
    simp only [List.take_succ_cons]
    show (insC x ++ insLC l).take ((k + 1) * 7) = insC x ++ insLC (l.take k)
    rw [← this, List.take_append, insC_len, List.take_of_length_le (by rw [insC_len]; omega)]
    congr 2
    omega
theorem insLC_dropL : ∀ (l : List Ins) (k : Nat), (insLC l).drop (k * 7) = insLC (l.drop k)
  | l, 0 => by simp [insLC]
  | [], k + 1 => by simp [insLC]
  | x :: l, k + 1 => by
    have := insLC_dropL l k
    simp only [List.drop_succ_cons]
    show (insC x ++ insLC l).drop ((k + 1) * 7) = insLC (l.drop k)
    rw [← this, List.drop_append, insC_len, List.drop_eq_nil_of_le (by rw [insC_len]; omega), List.nil_append]
    congr 1
    omega
theorem insLC_app (a b : List Ins) : insLC a ++ insLC b = insLC (a ++ b) := by simp [insLC]
def lessT (th : List Ins) (k : Nat) : List Ins := th.take k ++ th.drop (k + 1)
theorem lessT_len {th : List Ins} {k : Nat} (h : k < th.length) : (lessT th k).length = th.length - 1 := by
  unfold lessT
  rw [List.length_append, List.length_take, List.length_drop]; omega
theorem lessT_mem {th : List Ins} {k : Nat} {x : Ins} (h : x ∈ lessT th k) : x ∈ th := by
  unfold lessT at h
  rcases List.mem_append.1 h with h | h
  · exact List.mem_of_mem_take h
  · exact List.mem_of_mem_drop h
theorem lessT_k {th : List Ins} (h : ThK th) (h6 : ∀ j, j < th.length → (th.getD j fence0).kd ≠ 6) {k : Nat} (hk : k < th.length) : ThK (lessT th k) := by
  refine ⟨by rw [lessT_len hk]; have := h.len; omega, fun j hj => ?_, ?_⟩
  · have hm : (lessT th k).getD j fence0 ∈ th := by
      rw [List.getD_eq_getElem?_getD, List.getElem?_eq_getElem hj]
      exact lessT_mem (List.getElem_mem hj)
    obtain ⟨i, hi, he⟩ := List.mem_iff_getElem.1 hm
    have h1 := h.ins i hi
    have h2 := h6 i hi
    rw [List.getD_eq_getElem?_getD, List.getElem?_eq_getElem hi, Option.getD_some, he] at h1 h2
    exact h1.left h2
  · have hz : skips (lessT th k) = 0 := by
      unfold skips
      rw [List.countP_eq_zero]
      intro x hx
      obtain ⟨i, hi, he⟩ := List.mem_iff_getElem.1 (lessT_mem hx)
      have h2 := h6 i hi
      rw [List.getD_eq_getElem?_getD, List.getElem?_eq_getElem hi, Option.getD_some, he] at h2
      simpa using h2
    omega
theorem lessT_ev (th : List Ins) (k : Nat) : evS (lessT th k) ≤ evS th := by
  have h1 : evS th = evS (th.take k) + evS (th.drop k) := by
    conv => lhs; rw [← List.take_append_drop k th]
    unfold evS
    rw [List.map_append, List.sum_append]
  have h2 : evS (th.drop (k + 1)) ≤ evS (th.drop k) := by
    unfold evS
    rw [← List.drop_drop]
    cases th.drop k with
    | nil => simp
    | cons x l => simp
  unfold lessT
  have h3 : evS (th.take k ++ th.drop (k + 1)) = evS (th.take k) + evS (th.drop (k + 1)) := by
    unfold evS
    rw [List.map_append, List.sum_append]
  omega
end Go.Ab
end
section
set_option linter.unusedVariables false
set_option linter.unusedSimpArgs false
set_option maxRecDepth 100000
namespace Go.Ab
def ThsAt (cs : List AV) (ths : List (List Ins)) : Prop := ths.length = cs.length ∧ ∀ j, j < cs.length → ∃ tok, cs[j]? = some (.sl (insLC (ths.getD j [])) (ths.getD j []).length tok)
theorem frz_pg {hp : Nat → Option Blk} {M T : Nat} {cs : List AV} {ro : Bool} {ths : List (List Ins)} (h : hp M = some (.cells cs ro)) (ha : ThsAt cs ths) : frz hp depth (.agg [.i .i64 2, .ms M 0 T]) = some (.agg [.i .i64 2, .sl (thsC ths) T .non]) := by
  refine frz_d_agg ?_
  show frzL _ (7 + 1) _ = _
  simp only [frzL, frz, h, List.drop_zero, frzL_ths (k := 6) ha.1 ha.2]
  rfl
theorem getDL_self {l : List (List Ins)} {k : Nat} {x : List Ins} (h : k < l.length) : (l.set k x).getD k [] = x := by
  rw [List.getD_eq_getElem?_getD, List.getElem?_set_self h]; rfl
theorem getDL_ne {l : List (List Ins)} {k j : Nat} {x : List Ins} (h : k ≠ j) : (l.set k x).getD j [] = l.getD j [] := by
  rw [List.getD_eq_getElem?_getD, List.getElem?_set_ne h, ← List.getD_eq_getElem?_getD]
theorem ThsAt.set {cs : List AV} {ths : List (List Ins)} (h : ThsAt cs ths) {k : Nat} (hk : k < cs.length) {x : List Ins} {n : Nat} (hn : x.length = n) {tok : Tok} : ThsAt (cs.set k (.sl (insLC x) n tok)) (ths.set k x) := by
  refine ⟨by rw [List.length_set, List.length_set]; exact h.1, fun j hj => ?_⟩
  rw [List.length_set] at hj
  by_cases hjk : k = j
  · subst hjk
    exact ⟨tok, by rw [List.getElem?_set_self hk, getDL_self (by rw [h.1]; exact hk), hn]⟩
  · obtain ⟨t, ht⟩ := h.2 j hj
    exact ⟨t, by rw [List.getElem?_set_ne hjk, getDL_ne hjk]; exact ht⟩
structure SnSt (C M T : Nat) (gone : Int) (cs : List AV) (e : Env) (g : G) : Prop where
  e2 : e 2 = .i .i64 gone
  e7 : e 7 = .mp C 0
  hC : g.hp C = some (.cells [.i .i64 2, .ms M 0 T] false)
  hM : g.hp M = some (.cells cs false)
  nC : C < g.nx
  nM : M < g.nx
  ne : C ≠ M
  len : cs.length = T
end Go.Ab
namespace Go.Proofs.Ytgkoidglnjdgoaa
open Go.Ab
theorem sn_awake : pureS funs 281 [] = some (.b true) := pure_eval (orc0_ok funs) 1000 (fn := A_xlaw04_awake) rfl (by kernel_rfl)
theorem evT_set : ∀ (l : List (List Ins)) (k : Nat) (x : List Ins), evS x ≤ evS (l.getD k []) → evT (l.set k x) ≤ evT l
  | [], k, x, _ => by simp [evT]
  | y :: l, 0, x, h => by simp only [evT, List.set_cons_zero, List.map_cons, List.sum_cons, List.getD_cons_zero] at h ⊢; omega
  | y :: l, k + 1, x, h => by
    have := evT_set l k x (by simpa using h)
    simp only [evT, List.set_cons_succ, List.map_cons, List.sum_cons] at this ⊢
    omega
def snR : ACode := sR (sR (sR A_xlaw04_SoundNumbers.body))
def snT : ACode := sR (sR (sR (sR snR)))
def snX : ACode := sL (sR (sR (sR snR)))
theorem sn_tail {C M : Nat} {gone : Int} {cs : List AV} {ths : List (List Ins)} (h1 : 1 ≤ ths.length) (h4 : ths.length ≤ 4) (hth : ThsAt cs ths) (hk : ∀ t, t < ths.length → ThK (ths.getD t [])) (hs : 2 + evT ths ≤ 40) {e : Env} {g : G} (S : SnSt C M ths.length gone cs e g) : W funs snT e g (retQ [.t 6] (.b true)) := by
  have aw := sn_awake
  have hch := sn_check h1 h4 hk hs
  obtain ⟨e2, e7, hC, hM, nC, nM, hne, hlen⟩ := S
  have hfr : ∀ n b p, frz (rd ⟨g.hp, n⟩ (allow false b p)) depth (.agg [.i .i64 2, .ms M 0 ths.length]) = some (.agg [.i .i64 2, .sl (thsC ths) ths.length .non]) := fun n b p => frz_pg (by rw [rd_ok rfl]; exact hM) hth
  simp (disch := omega) only [snT, snR, sR, A_xlaw04_SoundNumbers, wp, Nat.reduceAdd, Nat.reduceMul, Nat.reduceSub, gl, e7, hC, part_ag2, hfr, hch, aw]
set_option maxHeartbeats 8000000 in
theorem sn_rest {C M : Nat} {gone : Int} {cs : List AV} {ths : List (List Ins)} (h1 : 1 ≤ ths.length) (h4 : ths.length ≤ 4) (hth : ThsAt cs ths) (hk : ∀ t, t < ths.length → ThK (ths.getD t [])) (hs : 2 + evT ths ≤ 40) {e : Env} {g : G} (S : SnSt C M ths.length gone cs e g) : W funs snR e g (retQ [.t 6] (.b true)) := by
  have aw := sn_awake
  have hch := sn_check h1 h4 hk hs
  obtain ⟨e2, e7, hC, hM, nC, nM, hne, hlen⟩ := S
  have hfr : ∀ n b p, frz (rd ⟨g.hp, n⟩ (allow false b p)) depth (.agg [.i .i64 2, .ms M 0 ths.length]) = some (.agg [.i .i64 2, .sl (thsC ths) ths.length .non]) := fun n b p => frz_pg (by rw [rd_ok rfl]; exact hM) hth
  have hp2 := sp_place (F := funs) rfl (v := gone) (n := ((ths.length : Nat) : Int)) (by omega) (by omega)
  obtain ⟨r0, r1⟩ := place_lt (v := gone) (n := ((ths.length : Nat) : Int)) (by omega)
  obtain ⟨tn, htn⟩ := Int.eq_ofNat_of_zero_le r0
  rw [htn] at hp2
  have htl : tn < ths.length := by omega
  have hti0 : (0 : Int) ≤ ((tn : Nat) : Int) := by omega
  have hti1 : ((tn : Nat) : Int) < ((ths.length : Nat) : Int) := by omega
  obtain ⟨tok, hct⟩ := hth.2 tn (by omega)
  have hpt : Go.Ab.part cs (tn * 1) none = some (.sl (insLC (ths.getD tn [])) (ths.getD tn []).length tok) := by
    simp only [Go.Ab.part, Nat.mul_one]; exact hct
  have hKt := hk tn htl
  generalize hT : ths.getD tn [] = th at hct hpt hKt
  have hl12 := hKt.len
  simp (disch := omega) only [snR, sR, A_xlaw04_SoundNumbers, wp, Nat.reduceAdd, Nat.reduceMul, Nat.reduceSub, gl, e2, e7, hC, part_ag2, hfr, hch, hp2, show ((0 : Int) != 0) = false from rfl]
  refine blk_cutR (fun e g => SnSt C M ths.length gone cs e g ∧ e 8 = .i .i64 ((tn : Nat) : Int) ∧ ∀ j, j < th.length → (th.getD j fence0).kd ≠ 6) ?_ ?_
  · refine W_loop (fun q e g => ∃ k : Nat, q = th.length - k ∧ k ≤ th.length ∧ SnSt C M ths.length gone cs e g ∧ e 8 = .i .i64 ((tn : Nat) : Int) ∧ e 9 = .i .i64 ((k : Nat) : Int) ∧ ∀ j, j < k → (th.getD j fence0).kd ≠ 6) th.length ?_ ?_
    · refine ⟨0, rfl, Nat.zero_le _, ⟨?_, ?_, hC, hM, by first | omega | (dsimp only; omega), by first | omega | (dsimp only; omega), hne, hlen⟩, ?_, ?_, fun j hj => by omega⟩
      all_goals simp (disch := omega) only [wp, Nat.reduceAdd, Nat.reduceMul, Nat.reduceSub, e2, e7]
      rfl
    · rintro q e g ⟨k, rfl, hkl, ⟨e2, e7, hC, hM, nC, nM, hne, hlen⟩, e8, e9, hno⟩
      by_cases c1 : k < th.length
      · have c1' : ((k : Nat) : Int) < ((th.length : Nat) : Int) := by omega
        have hkd : Go.Ab.part ((insLC th).drop (k * 7)) 0 none = some (.i .i64 (th.getD k fence0).kd) := by rw [insLC_drop c1]; rfl
        have hdl : 0 < ((insLC th).drop (k * 7)).length := by rw [insLC_drop c1]; simp [insC]
        have hwk := succ_wrap (k := k) (by omega)
        cases h6 : ((th.getD k fence0).kd == 6)
        · have h6' : (th.getD k fence0).kd ≠ 6 := by simpa using h6
          simp (disch := omega) only [wp, Nat.reduceAdd, Nat.reduceMul, Nat.reduceSub, gl, e7, e8, e9, hC, hM, hpt, hti0, hti1, c1', hkd, hdl, h6, hwk]
          refine ⟨th.length - (k + 1), by omega, k + 1, rfl, by omega, ⟨?_, ?_, hC, hM, by first | omega | (dsimp only; omega), by first | omega | (dsimp only; omega), hne, hlen⟩, rfl, fun j hj => ?_⟩
          · simp (disch := omega) only [wp, Nat.reduceAdd, Nat.reduceMul, Nat.reduceSub, e2]
          · simp (disch := omega) only [wp, Nat.reduceAdd, Nat.reduceMul, Nat.reduceSub, e7]
          · by_cases hjk : j = k
            · subst hjk; exact h6'
            · exact hno j (by omega)
        · simp (disch := omega) only [wp, Nat.reduceAdd, Nat.reduceMul, Nat.reduceSub, gl, e7, e8, e9, hC, hM, hpt, hti0, hti1, c1', hkd, hdl, h6, aw]
      · have c1' : ¬ ((k : Nat) : Int) < ((th.length : Nat) : Int) := by omega
        simp (disch := omega) only [wp, Nat.reduceAdd, Nat.reduceMul, Nat.reduceSub, gl, e7, e8, e9, hC, hM, hpt, hti0, hti1, c1']
        refine ⟨⟨?_, ?_, hC, hM, by first | omega | (dsimp only; omega), by first | omega | (dsimp only; omega), hne, hlen⟩, fun j hj => hno j (by omega)⟩
        all_goals simp (disch := omega) only [wp, Nat.reduceAdd, Nat.reduceMul, Nat.reduceSub, e2, e7, e8]
  · rintro e g ⟨⟨e2, e7, hC, hM, nC, nM, hne, hlen⟩, e8, hno⟩
    have hil := insLC_len th
    show W funs (.seq snX snT) e g _
    rw [W_seq]
    refine W_cut (fun e g => W funs snT e g (retQ [.t 6] (.b true))) ?_ (fun e g h => h)
    by_cases hz : th.length = 0
    · have hz' : ¬ (0 : Int) < ((th.length : Nat) : Int) := by omega
      simp (disch := omega) only [snX, snR, sL, sR, A_xlaw04_SoundNumbers, wp, Nat.reduceAdd, Nat.reduceMul, Nat.reduceSub, gl, e7, e8, hC, hM, hpt, hti0, hti1, hz']
      refine sn_tail h1 h4 hth hk hs (C := C) (M := M) (gone := gone) ⟨?_, ?_, hC, hM, by first | omega | (dsimp only; omega), by first | omega | (dsimp only; omega), hne, hlen⟩
      all_goals simp (disch := omega) only [wp, Nat.reduceAdd, Nat.reduceMul, Nat.reduceSub, e2, e7]
    · have hz' : (0 : Int) < ((th.length : Nat) : Int) := by omega
      have hp3 := sp_place (F := funs) rfl (v := gone) (n := ((th.length : Nat) : Int)) (by omega) (by omega)
      obtain ⟨p0, p1⟩ := place_lt (v := gone) (n := ((th.length : Nat) : Int)) (by omega)
      obtain ⟨kk, hkk⟩ := Int.eq_ofNat_of_zero_le p0
      rw [hkk] at hp3
      have hkl : kk < th.length := by omega
      have hwk := succ_wrap (k := kk) (by omega)
      have hla : (th.take kk).length = kk := by rw [List.length_take]; omega
      have hlb : (th.drop (kk + 1)).length = th.length - (kk + 1) := by rw [List.length_drop]
      have hs1 : ∀ g, vSlice 7 (.sl (insLC th) th.length tok) none (some (.i .i64 ((kk : Nat) : Int))) none g = some (.sl (insLC (th.take kk)) kk (if tok = .rig ∧ ((kk : Nat) : Int) = ((th.length : Nat) : Int) then .rig else .non), g) := fun g => by rw [vSlice_to (by omega), insLC_take]
      have hs2 : ∀ g, vSlice 7 (.sl (insLC th) th.length tok) (some (.i .i64 ((kk + 1 : Nat) : Int))) none none g = some (.sl (insLC (th.drop (kk + 1))) (th.length - (kk + 1)) (if tok = .rig then .rig else .non), g) := fun g => by
        rw [vSlice_from (by omega), insLC_dropL, List.take_of_length_le (by rw [insLC_len, hlb]; omega)]
      have hia := insLC_len (th.take kk)
      have hib := insLC_len (th.drop (kk + 1))
      rw [hla] at hia
      rw [hlb] at hib
      have fin : ∀ (tk : Tok) (e : Env) (g : G), SnSt C M ths.length gone (cs.set tn (.sl (insLC (lessT th kk)) (th.length - 1) tk)) e g → W funs snT e g (retQ [.t 6] (.b true)) := by
        intro tk e g S
        have hk' : ∀ t, t < (ths.set tn (lessT th kk)).length → ThK ((ths.set tn (lessT th kk)).getD t []) := by
          intro t ht
          rw [List.length_set] at ht
          by_cases htt : tn = t
          · subst htt; rw [getDL_self ht]; exact lessT_k hKt hno hkl
          · rw [getDL_ne htt]; exact hk t ht
        have he := evT_set ths tn (lessT th kk) (by rw [hT]; exact lessT_ev th kk)
        have hL : ths.length = (ths.set tn (lessT th kk)).length := by rw [List.length_set]
        rw [hL] at S
        exact sn_tail (by rw [← hL]; exact h1) (by rw [← hL]; exact h4) (hth.set (by omega) (lessT_len hkl)) hk' (by omega) S
      have hli : lessT th kk = th.take kk ++ th.drop (kk + 1) := rfl
      have hsum : kk + (th.length - (kk + 1)) = th.length - 1 := by omega
      by_cases ha0 : kk = 0
      · subst ha0
        by_cases hb0 : th.length - (0 + 1) = 0
        · rw [hb0] at hs2 hib
          have hnil : insLC (lessT th 0) = [] := by
            rw [hli, List.take_zero, List.nil_append]
            exact List.eq_nil_of_length_eq_zero (by rw [hib])
          simp (disch := omega) only [snX, snR, sL, sR, A_xlaw04_SoundNumbers, wp, Nat.reduceAdd, Nat.reduceMul, Nat.reduceSub, gl, e2, e7, e8, hC, hM, hpt, hti0, hti1, hz', hp3, o_slice, evo_none, evo_some, hs1, hs2, hwk, hia, hib, List.length_set]
          refine fin .rig _ _ ⟨?_, ?_, ?_, ?_, by first | omega | (dsimp only; omega), by first | omega | (dsimp only; omega), hne, by rw [List.length_set]; exact hlen⟩
          · simp (disch := omega) only [wp, Nat.reduceAdd, Nat.reduceMul, Nat.reduceSub, e2]
          · simp (disch := omega) only [wp, Nat.reduceAdd, Nat.reduceMul, Nat.reduceSub, e7]
          · simp (disch := omega) only [wp, Nat.reduceAdd, Nat.reduceMul, Nat.reduceSub, hC]
          · simp (disch := omega) only [wp, Nat.reduceAdd, Nat.reduceMul, Nat.reduceSub]
            rw [hnil, Nat.mul_one, show th.length - 1 = 0 from by omega]
        · simp (disch := omega) only [snX, snR, sL, sR, A_xlaw04_SoundNumbers, wp, Nat.reduceAdd, Nat.reduceMul, Nat.reduceSub, gl, e2, e7, e8, hC, hM, hpt, hti0, hti1, hz', hp3, o_slice, evo_none, evo_some, hs1, hs2, hwk, hia, hib, List.length_set]
          refine fin (.own (g.nx + 7 + 2 + 4 + 19) 7) _ _ ⟨?_, ?_, ?_, ?_, by first | omega | (dsimp only; omega), by first | omega | (dsimp only; omega), hne, by rw [List.length_set]; exact hlen⟩
          · simp (disch := omega) only [wp, Nat.reduceAdd, Nat.reduceMul, Nat.reduceSub, e2]
          · simp (disch := omega) only [wp, Nat.reduceAdd, Nat.reduceMul, Nat.reduceSub, e7]
          · simp (disch := omega) only [wp, Nat.reduceAdd, Nat.reduceMul, Nat.reduceSub, hC]
          · simp (disch := omega) only [wp, Nat.reduceAdd, Nat.reduceMul, Nat.reduceSub]
            rw [hli, List.take_zero, List.nil_append, Nat.mul_one]
      · simp (disch := omega) only [snX, snR, sL, sR, A_xlaw04_SoundNumbers, wp, Nat.reduceAdd, Nat.reduceMul, Nat.reduceSub, gl, e2, e7, e8, hC, hM, hpt, hti0, hti1, hz', hp3, o_slice, evo_none, evo_some, hs1, hs2, hwk, hia, hib, List.length_set]
        refine fin (.own (g.nx + 7 + 2 + 4 + 19) 7) _ _ ⟨?_, ?_, ?_, ?_, by first | omega | (dsimp only; omega), by first | omega | (dsimp only; omega), hne, by rw [List.length_set]; exact hlen⟩
        · simp (disch := omega) only [wp, Nat.reduceAdd, Nat.reduceMul, Nat.reduceSub, e2]
        · simp (disch := omega) only [wp, Nat.reduceAdd, Nat.reduceMul, Nat.reduceSub, e7]
        · simp (disch := omega) only [wp, Nat.reduceAdd, Nat.reduceMul, Nat.reduceSub, hC]
        · simp (disch := omega) only [wp, Nat.reduceAdd, Nat.reduceMul, Nat.reduceSub]
          rw [hli, ← insLC_app, Nat.mul_one, hsum]
end Go.Proofs.Ytgkoidglnjdgoaa
end
section
set_option linter.unusedVariables false
set_option linter.unusedSimpArgs false
set_option maxRecDepth 100000
namespace Go.Proofs.Ytgkoidglnjdgoaa
open Go.Ab
theorem snF : ProgF funs := ⟨rfl, rfl, rfl, rfl, rfl, rfl⟩
theorem ev_bound {l : List Int} {T : Nat} (h1 : 1 ≤ T) (h4 : T ≤ 4) (hl : l.length ≤ 18) {ths : List (List Ins)} (hT : ths.length = T) (hok : ∀ t, t < T → ThrOk l T t 8 (ths.getD t [])) : 2 + evT ths ≤ 40 := by
  have key : ∀ t, t < T → ((ths.getD t []).length = 0 ∨ t + ((ths.getD t []).length - 1) * T < l.length) := by
    intro t ht
    by_cases h : (ths.getD t []).length = 0
    · exact .inl h
    · exact .inr ((hok t ht).at_ _ (by omega))
  have hev : ∀ t, evS (ths.getD t []) ≤ 2 * (ths.getD t []).length := fun t => evS_le _
  have hc : T = 1 ∨ T = 2 ∨ T = 3 ∨ T = 4 := by omega
  rcases hc with rfl | rfl | rfl | rfl
  · match ths, hT with
    | [a], _ =>
      have k0 := key 0 (by omega)
      have e0 := hev 0
      simp only [List.getD_cons_zero, List.getD_cons_succ] at k0 e0
      simp only [evT, List.map_cons, List.map_nil, List.sum_cons, List.sum_nil]
      omega
  · match ths, hT with
    | [a, b], _ =>
      have k0 := key 0 (by omega)
      have k1 := key 1 (by omega)
      have e0 := hev 0
      have e1 := hev 1
      simp only [List.getD_cons_zero, List.getD_cons_succ] at k0 e0 k1 e1
      simp only [evT, List.map_cons, List.map_nil, List.sum_cons, List.sum_nil]
      omega
  · match ths, hT with
    | [a, b, c], _ =>
      have k0 := key 0 (by omega)
      have k1 := key 1 (by omega)
      have k2 := key 2 (by omega)
      have e0 := hev 0
      have e1 := hev 1
      have e2 := hev 2
      simp only [List.getD_cons_zero, List.getD_cons_succ] at k0 e0 k1 e1 k2 e2
      simp only [evT, List.map_cons, List.map_nil, List.sum_cons, List.sum_nil]
      omega
  · match ths, hT with
    | [a, b, c, d], _ =>
      have k0 := key 0 (by omega)
      have k1 := key 1 (by omega)
      have k2 := key 2 (by omega)
      have k3 := key 3 (by omega)
      have e0 := hev 0
      have e1 := hev 1
      have e2 := hev 2
      have e3 := hev 3
      simp only [List.getD_cons_zero, List.getD_cons_succ] at k0 e0 k1 e1 k2 e2 k3 e3
      simp only [evT, List.map_cons, List.map_nil, List.sum_cons, List.sum_nil]
      omega
theorem soundNumbers_law (l : List Int) (threads gone : Int) : pureS funs 462 [.sl (intsC l) l.length .non, .i .i64 threads, .i .i64 gone] = some (.b true) := by
  refine pure_of (fn := A_xlaw04_SoundNumbers) rfl ?_
  have aw := sn_awake
  by_cases c1 : (18 : Int) < ((l.length : Nat) : Int)
  · simp (disch := omega) only [A_xlaw04_SoundNumbers, wp, Nat.reduceAdd, Nat.reduceMul, Nat.reduceSub, gl, c1, aw]
  have hp1 := sp_place (F := funs) rfl (v := threads) (n := 4) (by omega) (by omega)
  obtain ⟨r0, r1⟩ := place_lt (v := threads) (n := 4) (by omega)
  obtain ⟨T0, hT0⟩ := Int.eq_ofNat_of_zero_le r0
  rw [hT0] at hp1
  have hw : IntKind.i64.wrap (1 + ((T0 : Nat) : Int)) = ((1 + T0 : Nat) : Int) := by rw [i64_wrap (by omega) (by omega)]; omega
  show W funs (.seq (sL A_xlaw04_SoundNumbers.body) (.seq (sL (sR A_xlaw04_SoundNumbers.body)) (.seq (sL (sR (sR A_xlaw04_SoundNumbers.body))) snR))) _ _ _
  generalize hr : snR = rest
  simp (disch := omega) only [A_xlaw04_SoundNumbers, sL, sR, wp, Nat.reduceAdd, Nat.reduceMul, Nat.reduceSub, gl, c1, hp1, hw]
  subst hr
  have hcall := fun g => pg_raw snF rfl (l := l) (T := 1 + T0) (most := 8) (by omega) (by omega) (by omega) (by omega) g
  refine bind_call (hcall _) ?_
  rintro v g' ⟨cs, rfl, hM, hcl, hcs, hnx⟩
  simp only [Nat.add_zero, Nat.zero_add] at hM hnx ⊢
  have hM : g'.hp 13 = some (.cells cs false) := hM
  have hnx : 15 < g'.nx := hnx
  obtain ⟨ths, a1, a2⟩ := list_of (P := fun j th => ThrOk l (1 + T0) j 8 th) cs (fun j hj => by
    have := hcs j (by omega)
    rw [if_pos (by omega)] at this
    exact this)
  have hL : ths.length = 1 + T0 := by omega
  have hok : ∀ t, t < 1 + T0 → ThrOk l (1 + T0) t 8 (ths.getD t []) := fun t ht => (a2 t (by omega)).2
  simp (disch := omega) only [wp, Nat.reduceAdd, Nat.reduceMul, Nat.reduceSub, gl]
  refine sn_rest (C := 9) (M := 13) (gone := gone) (cs := cs) (ths := ths) (by omega) (by omega) ⟨a1, fun j hj => (a2 j hj).1⟩ (fun t ht => (hok t (by omega)).k (by omega)) (ev_bound (by omega) (by omega) (by omega) hL hok) ⟨?_, ?_, ?_, ?_, by first | omega | (dsimp only; omega), by first | omega | (dsimp only; omega), by omega, by omega⟩
  · simp (disch := omega) only [wp, Nat.reduceAdd, Nat.reduceMul, Nat.reduceSub]
  · simp (disch := omega) only [wp, Nat.reduceAdd, Nat.reduceMul, Nat.reduceSub]
  · simp (disch := omega) only [wp, Nat.reduceAdd, Nat.reduceMul, Nat.reduceSub, hL]
  · simp (disch := omega) only [wp, Nat.reduceAdd, Nat.reduceMul, Nat.reduceSub, hM]
end Go.Proofs.Ytgkoidglnjdgoaa
end
