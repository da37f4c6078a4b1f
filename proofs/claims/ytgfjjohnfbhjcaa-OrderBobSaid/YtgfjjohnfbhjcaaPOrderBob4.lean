/- What OrderBob rests on, part 4: lemmas, no claim of its own. -/
import Derived.Test.YtgfjjohnfbhjcaaPOrderBob3
section
set_option linter.unusedVariables false
set_option linter.unusedSimpArgs false
namespace Go.Ab
variable {F : Funs}
theorem sp_then1 (h177 : F 177 = some A_sync_then) (pr : Pk_rel F) {n : Nat} (hn : n ≤ 40) (R S : Rw) : pureS F 177 [.ptr (relC n R), .sl [.ptr (relC n S)] 1 .non] = some (.ptr (relC n (thenR n R S))) := sp_thenS h177 pr hn R [S] (by simp) .non
theorem sp_then2 (h177 : F 177 = some A_sync_then) (pr : Pk_rel F) {n : Nat} (hn : n ≤ 40) (R S T : Rw) : pureS F 177 [.ptr (relC n R), .sl [.ptr (relC n S), .ptr (relC n T)] 2 .non] = some (.ptr (relC n (thenR n (thenR n R S) T))) := sp_thenS h177 pr hn R [S, T] (by simp) .non
section
variable (X : Gr)
def locR : Rw := partR locP X (nOf X) (poR X)
def rfR : Rw := relE rfS X
def RsP : Rw := orR (thenR (nOf X) (thenR (nOf X) (setR X (setP 2 [])) (locR X)) (setR X (setP 2 []))) (thenR (nOf X) (setR X (setP 2 [])) (maybeK (nOf X) (plusR (nOf X) (thenR (nOf X) (thenR (nOf X) (maybeK (nOf X) (locR X)) (rfR X)) (newR (nOf X) X.rmw)))))
def ReleaseP : Rw := thenR (nOf X) (orR (setR X (setP 2 [2])) (thenR (nOf X) (setR X (setP 3 [2, 3, 4])) (poR X))) (RsP X)
def SwP : Rw := thenR (nOf X) (thenR (nOf X) (ReleaseP X) (orR (partR inner X (nOf X) (rfR X)) (thenR (nOf X) (maybeK (nOf X) (locR X)) (partR outer X (nOf X) (rfR X))))) (orR (setR X (setP 1 [1])) (thenR (nOf X) (poR X) (setR X (setP 3 [1, 3, 4]))))
def HbP : Rw := plusR (nOf X) (orR (poR X) (SwP X))
end
structure SyncF (F : Funs) : Prop where
  ps : Pk_sync F
  pe : Pk_eco F
  pr : Pk_rel F
  po : F 60 = some A_graph_Po
  gof : F 81 = some A_graph_Of
  set : F 166 = some A_graph_Set
section
variable (S : SyncF F) {X : Gr} (hX : Few X)
include S hX
theorem sp_setX (k : Int) (ms : List Int) (hm : ms.length ≤ 1000) (t : Tok) : pureS F 178 [.agg (grC X), .i .i64 k, .sl (intsC ms) ms.length t] = some (.ptr (relC (nOf X) (setR X (setP k ms)))) :=
  sp_setS S.ps.sync_set S.ps.sync_set_1 S.set S.gof S.pr (by have := hX.1; omega) k ms hm t
theorem sp_set0 (k : Int) : pureS F 178 [.agg (grC X), .i .i64 k, .sl [] 0 .non] = some (.ptr (relC (nOf X) (setR X (setP k [])))) := sp_setX S hX k [] (by simp) .non
theorem sp_setA (k a : Int) : pureS F 178 [.agg (grC X), .i .i64 k, .sl [.i .i64 a] 1 .non] = some (.ptr (relC (nOf X) (setR X (setP k [a])))) := sp_setX S hX k [a] (by simp) .non
theorem sp_setB (k a b c : Int) : pureS F 178 [.agg (grC X), .i .i64 k, .sl [.i .i64 a, .i .i64 b, .i .i64 c] 3 .non] = some (.ptr (relC (nOf X) (setR X (setP k [a, b, c])))) := sp_setX S hX k [a, b, c] (by simp) .non
theorem sp_locX : pureS F 41 [.agg (grC X)] = some (.ptr (relC (nOf X) (locR X))) := sp_Loc S.pe S.po S.gof S.pr (by have := hX.1; omega)
theorem sp_poX : pureS F 60 [.agg (grC X)] = some (.ptr (relC (nOf X) (poR X))) := sp_Po S.po S.gof S.pr (by have := hX.1; omega)
theorem sp_rfX : pureS F 48 [.agg (grC X)] = some (.ptr (relC (nOf X) (rfR X))) := sp_Rf S.pe S.gof S.pr hX
omit hX in
theorem sp_ofX (l : List (Int × Int)) (hl : l.length ≤ 1000) (t : Tok) : pureS F 81 [.agg (grC X), .sl (pairsC l) l.length t] = some (.ptr (relC (nOf X) (newR (nOf X) l))) := sp_of S.gof S.pr X l t (by omega)
set_option maxRecDepth 100000 in
theorem sp_Rs (hr : X.rmw.length ≤ 1000) : pureS F 179 [.agg (grC X)] = some (.ptr (relC (nOf X) (RsP X))) := by
  refine pure_of S.ps.sync_Rs ?_
  have hn := nOf_le X
  simp (disch := omega) only [A_sync_Rs, wp, Nat.reduceAdd, Nat.reduceMul, Nat.reduceSub, gl, sp_set0 S hX, sp_locX S hX, sp_rfX S hX, sp_ofX S, sp_maybe S.pr hn, sp_then2 S.ps.sync_then S.pr hn, sp_then1 S.ps.sync_then S.pr hn, sp_plus S.pr hn, sp_or S.pr hn hn, Nat.max_self]
  rfl
set_option maxRecDepth 100000 in
theorem sp_Release (hr : X.rmw.length ≤ 1000) : pureS F 149 [.agg (grC X)] = some (.ptr (relC (nOf X) (ReleaseP X))) := by
  refine pure_of S.ps.sync_Release ?_
  have hn := nOf_le X
  simp (disch := omega) only [A_sync_Release, wp, Nat.reduceAdd, Nat.reduceMul, Nat.reduceSub, gl, sp_setA S hX, sp_setB S hX, sp_poX S hX, sp_Rs S hX hr, sp_then2 S.ps.sync_then S.pr hn, sp_then1 S.ps.sync_then S.pr hn, sp_or S.pr hn hn, Nat.max_self]
  rfl
set_option maxRecDepth 100000 in
theorem sp_Sw (hr : X.rmw.length ≤ 1000) : pureS F 176 [.agg (grC X)] = some (.ptr (relC (nOf X) (SwP X))) := by
  refine pure_of S.ps.sync_Sw ?_
  have hn := nOf_le X
  simp (disch := omega) only [A_sync_Sw, wp, Nat.reduceAdd, Nat.reduceMul, Nat.reduceSub, gl, sp_setA S hX, sp_setB S hX, sp_poX S hX, sp_locX S hX, sp_rfX S hX, sp_Inner S.pe S.gof S.pr hn, sp_Outer S.pe S.gof S.pr hn, sp_Release S hX hr, sp_maybe S.pr hn, sp_then2 S.ps.sync_then S.pr hn, sp_then1 S.ps.sync_then S.pr hn, sp_or S.pr hn hn, Nat.max_self]
  rfl
set_option maxRecDepth 100000 in
theorem sp_Hb (hr : X.rmw.length ≤ 1000) : pureS F 148 [.agg (grC X)] = some (.ptr (relC (nOf X) (HbP X))) := by
  refine pure_of S.ps.sync_Hb ?_
  have hn := nOf_le X
  simp (disch := omega) only [A_sync_Hb, wp, Nat.reduceAdd, Nat.reduceMul, Nat.reduceSub, gl, sp_poX S hX, sp_Sw S hX hr, sp_or S.pr hn hn, sp_plus S.pr hn, Nat.max_self]
  rfl
end
end Go.Ab
end
section
set_option linter.unusedVariables false
set_option linter.unusedSimpArgs false
namespace Go.Ab
variable {F : Funs}
def resC (agg : Option Nat) (g : G) : AV → Option AV
  | .mp b off => match g.hp b with
    | some (.cells cs _) => part cs off agg
    | _ => none
  | _ => none
theorem res_cell (n agg e g) : resE [.cell n agg] e g = resC agg g (e n) := by
  simp only [resE, resAll, resOne, resC]
  cases e n <;> try rfl
  rename_i b off
  simp only
  cases g.hp b with
  | none => rfl
  | some bl =>
    cases bl with
    | cells cs ro => simp only; cases part cs off agg <;> rfl
    | map _ => rfl
    | tok _ => rfl
end Go.Ab
end
section
set_option linter.unusedVariables false
set_option linter.unusedSimpArgs false
namespace Go.Ab
structure Q4 where
  ii : Rw
  ic : Rw
  ci : Rw
  cc : Rw
inductive Pp (q : Q4) : Nat → Nat → Nat → Prop
  | b0 {a b} : hb q.ii a b = true → Pp q 0 a b
  | b1 {a b} : hb q.ic a b = true → Pp q 1 a b
  | b2 {a b} : hb q.ci a b = true → Pp q 2 a b
  | b3 {a b} : hb q.cc a b = true → Pp q 3 a b
  | r1 {a b} : Pp q 2 a b → Pp q 0 a b
  | r2 {a c b} : Pp q 1 a c → Pp q 2 c b → Pp q 0 a b
  | r3 {a c b} : Pp q 0 a c → Pp q 0 c b → Pp q 0 a b
  | r4 {a b} : Pp q 0 a b → Pp q 1 a b
  | r5 {a b} : Pp q 3 a b → Pp q 1 a b
  | r6 {a c b} : Pp q 1 a c → Pp q 3 c b → Pp q 1 a b
  | r7 {a c b} : Pp q 0 a c → Pp q 1 c b → Pp q 1 a b
  | r8 {a c b} : Pp q 2 a c → Pp q 0 c b → Pp q 2 a b
  | r9 {a c b} : Pp q 3 a c → Pp q 2 c b → Pp q 2 a b
  | r10 {a b} : Pp q 2 a b → Pp q 3 a b
  | r11 {a c b} : Pp q 2 a c → Pp q 1 c b → Pp q 3 a b
  | r12 {a c b} : Pp q 3 a c → Pp q 3 c b → Pp q 3 a b
structure WfQ (n : Nat) (q : Q4) : Prop where
  ii : Wf n q.ii
  ic : Wf n q.ic
  ci : Wf n q.ci
  cc : Wf n q.cc
structure LeQ (q p : Q4) : Prop where
  ii : ∀ a b, hb q.ii a b = true → hb p.ii a b = true
  ic : ∀ a b, hb q.ic a b = true → hb p.ic a b = true
  ci : ∀ a b, hb q.ci a b = true → hb p.ci a b = true
  cc : ∀ a b, hb q.cc a b = true → hb p.cc a b = true
theorem LeQ.refl (q : Q4) : LeQ q q := ⟨fun _ _ h => h, fun _ _ h => h, fun _ _ h => h, fun _ _ h => h⟩
theorem LeQ.trans {p q r : Q4} (h : LeQ p q) (k : LeQ q r) : LeQ p r := ⟨fun a b x => k.ii a b (h.ii a b x), fun a b x => k.ic a b (h.ic a b x), fun a b x => k.ci a b (h.ci a b x), fun a b x => k.cc a b (h.cc a b x)⟩
structure InP (q0 q : Q4) : Prop where
  ii : ∀ a b, hb q.ii a b = true → Pp q0 0 a b
  ic : ∀ a b, hb q.ic a b = true → Pp q0 1 a b
  ci : ∀ a b, hb q.ci a b = true → Pp q0 2 a b
  cc : ∀ a b, hb q.cc a b = true → Pp q0 3 a b
theorem InP.base (q : Q4) : InP q q := ⟨fun _ _ h => .b0 h, fun _ _ h => .b1 h, fun _ _ h => .b2 h, fun _ _ h => .b3 h⟩
section
variable {n : Nat} {q : Q4} (w : WfQ n q)
include w
end
end Go.Ab
end
section
namespace Go.Ab
def A_ppo_Ppo : AFun := { res := [.t 2], body := (.seq (.reg false [{ dst := some 1, op := .box (.t 0) },
  { dst := some 2, op := .mv (.c (.nilp)) }])
 (.seq (.reg false [{ dst := some 10, op := .ld (some 8) (.t 1) },
  { dst := some 11, op := .call .pure (.c (.fn 165 [] [])) [.t 10] },
  { dst := some 9, op := .mv (.t 11) },
  { dst := some 12, op := .ext 0 (.t 9) },
  { dst := some 13, op := .ext 1 (.t 9) },
  { dst := some 14, op := .ext 2 (.t 9) },
  { dst := some 15, op := .ext 3 (.t 9) },
  { dst := some 3, op := .mv (.t 12) },
  { dst := some 4, op := .mv (.t 13) },
  { dst := some 5, op := .mv (.t 14) },
  { dst := some 6, op := .mv (.t 15) }])
 (.seq (.reg true [{ dst := some 16, op := .ld (some 8) (.t 1), pre := [] },
  { dst := some 17, op := .call .pure (.c (.fn 166 [] [])) [.t 16, .c (.fn 167 [] [])], pre := [] },
  { dst := some 18, op := .ld (some 8) (.t 1), pre := [] },
  { dst := some 19, op := .call .pure (.c (.fn 166 [] [])) [.t 18, .c (.fn 168 [] [])], pre := [] },
  { dst := some 7, op := .mv (.t 17) },
  { dst := some 8, op := .mv (.t 19) }])
 (.seq (.reg false [{ dst := some 20, op := .mv (.t 7) },
  { dst := some 21, op := .mv (.t 3) },
  { dst := some 22, op := .call .pure (.c (.fn 23 [] [])) [.t 20, .t 21] },
  { dst := some 23, op := .mv (.t 7) },
  { dst := some 24, op := .call .pure (.c (.fn 23 [] [])) [.t 22, .t 23] },
  { dst := some 25, op := .mv (.t 7) },
  { dst := some 26, op := .mv (.t 4) },
  { dst := some 27, op := .call .pure (.c (.fn 23 [] [])) [.t 25, .t 26] },
  { dst := some 28, op := .mv (.t 8) },
  { dst := some 29, op := .call .pure (.c (.fn 23 [] [])) [.t 27, .t 28] },
  { dst := some 30, op := .call .pure (.c (.fn 24 [] [])) [.t 24, .t 29] },
  { dst := some 2, op := .mv (.t 30) }])
 .ret)))) }
def A_ppo_Rdw : AFun := { res := [.t 2], body := (.seq (.reg false [{ dst := some 1, op := .box (.t 0) },
  { dst := some 2, op := .mv (.c (.nilp)) }])
 (.seq (.reg true [{ dst := some 3, op := .ld (some 8) (.t 1), pre := [] },
  { dst := some 4, op := .ld (some 8) (.t 1), pre := [] },
  { dst := some 5, op := .call .pure (.c (.fn 50 [] [])) [.t 4], pre := [] },
  { dst := some 6, op := .call .pure (.c (.fn 170 [] [])) [.t 3, .t 5], pre := [] },
  { dst := some 2, op := .mv (.t 6) }])
 .ret)) }
def A_ppo_Detour : AFun := { res := [.t 2], body := (.seq (.reg false [{ dst := some 1, op := .box (.t 0) },
  { dst := some 2, op := .mv (.c (.nilp)) }])
 (.seq (.reg true [{ dst := some 3, op := .ld (some 8) (.t 1), pre := [] },
  { dst := some 4, op := .ld (some 8) (.t 1), pre := [] },
  { dst := some 5, op := .call .pure (.c (.fn 49 [] [])) [.t 4], pre := [] },
  { dst := some 6, op := .call .pure (.c (.fn 170 [] [])) [.t 3, .t 5], pre := [] },
  { dst := some 2, op := .mv (.t 6) }])
 .ret)) }
def A_ppo_Parts : AFun := { res := [.t 2, .t 3, .t 4, .t 5], body := (.seq (.reg false [{ dst := some 1, op := .box (.t 0) },
  { dst := some 2, op := .mv (.c (.nilp)) },
  { dst := some 3, op := .mv (.c (.nilp)) },
  { dst := some 4, op := .mv (.c (.nilp)) },
  { dst := some 5, op := .mv (.c (.nilp)) }])
 (.scp (.seq (.reg false [{ dst := some 14, op := .ld (some 8) (.t 1) },
  { dst := some 15, op := .call .pure (.c (.fn 166 [] [])) [.t 14, .c (.fn 219 [] [])] },
  { dst := some 6, op := .mv (.t 15) }])
 (.seq (.reg true [{ dst := some 16, op := .ld (some 8) (.t 1), pre := [] },
  { dst := some 17, op := .fa 5 (.t 1) },
  { dst := some 18, op := .ld none (.t 17), pre := [] },
  { dst := some 19, op := .call .pure (.c (.fn 81 [] [])) [.t 16, .t 18], pre := [] },
  { dst := some 20, op := .ld (some 8) (.t 1), pre := [] },
  { dst := some 21, op := .fa 6 (.t 1) },
  { dst := some 22, op := .ld none (.t 21), pre := [] },
  { dst := some 23, op := .call .pure (.c (.fn 81 [] [])) [.t 20, .t 22], pre := [] },
  { dst := some 24, op := .mv (.t 6) },
  { dst := some 25, op := .call .pure (.c (.fn 23 [] [])) [.t 23, .t 24], pre := [] },
  { dst := some 26, op := .ld (some 8) (.t 1), pre := [] },
  { dst := some 27, op := .fa 7 (.t 1) },
  { dst := some 28, op := .ld none (.t 27), pre := [] },
  { dst := some 29, op := .call .pure (.c (.fn 81 [] [])) [.t 26, .t 28], pre := [] },
  { dst := some 30, op := .mv (.t 6) },
  { dst := some 31, op := .call .pure (.c (.fn 23 [] [])) [.t 29, .t 30], pre := [] },
  { dst := some 7, op := .mv (.t 19) },
  { dst := some 8, op := .mv (.t 25) },
  { dst := some 9, op := .mv (.t 31) }])
 (.seq (.reg true [{ dst := some 32, op := .mv (.t 7) },
  { dst := some 33, op := .ld (some 8) (.t 1), pre := [] },
  { dst := some 34, op := .call .pure (.c (.fn 145 [] [])) [.t 33], pre := [] },
  { dst := some 35, op := .ld (some 8) (.t 1), pre := [] },
  { dst := some 36, op := .ld (some 8) (.t 1), pre := [] },
  { dst := some 37, op := .call .pure (.c (.fn 48 [] [])) [.t 36], pre := [] },
  { dst := some 38, op := .call .pure (.c (.fn 39 [] [])) [.t 35, .t 37], pre := [] },
  { dst := some 39, op := .bsl true 2 ([.nilp, .nilp]) [(0, 1, .t 34), (1, 1, .t 38)], pre := [] },
  { dst := some 40, op := .call .pure (.c (.fn 220 [] [])) [.t 32, .t 39], pre := [] },
  { dst := some 2, op := .mv (.t 40) }])
 (.seq (.reg false [{ dst := some 41, op := .fa 1 (.t 1) },
  { dst := some 42, op := .ld none (.t 41) },
  { dst := some 43, op := .len (.t 42) },
  { dst := some 44, op := .call .pure (.c (.fn 11 [] [])) [.t 43, .c (.sl [] 0 .rig)] },
  { dst := some 3, op := .mv (.t 44) }])
 (.seq (.reg false [{ dst := some 45, op := .mv (.t 9) },
  { dst := some 46, op := .ld (some 8) (.t 1) },
  { dst := some 47, op := .call .pure (.c (.fn 146 [] [])) [.t 46] },
  { dst := some 48, op := .bsl true 1 ([.nilp]) [(0, 1, .t 47)] },
  { dst := some 49, op := .call .pure (.c (.fn 220 [] [])) [.t 45, .t 48] },
  { dst := some 4, op := .mv (.t 49) }])
 (.seq (.reg false [{ dst := some 50, op := .mv (.t 7) },
  { dst := some 51, op := .ld (some 8) (.t 1) },
  { dst := some 52, op := .call .pure (.c (.fn 221 [] [])) [.t 51] },
  { dst := some 53, op := .mv (.t 8) },
  { dst := some 54, op := .bsl true 2 ([.nilp, .nilp]) [(0, 1, .t 52), (1, 1, .t 53)] },
  { dst := some 55, op := .call .pure (.c (.fn 220 [] [])) [.t 50, .t 54] },
  { dst := some 5, op := .mv (.t 55) }])
 (.seq .lab
 (.seq (.blk 0 (.loop (.blk 1 (.seq (.reg false [{ dst := some 56, op := .mv (.t 2) },
  { dst := some 57, op := .mv (.t 4) },
  { dst := some 58, op := .mv (.t 3) },
  { dst := some 59, op := .mv (.t 4) },
  { dst := some 60, op := .call .pure (.c (.fn 23 [] [])) [.t 58, .t 59] },
  { dst := some 61, op := .mv (.t 2) },
  { dst := some 62, op := .mv (.t 2) },
  { dst := some 63, op := .call .pure (.c (.fn 23 [] [])) [.t 61, .t 62] },
  { dst := some 64, op := .bsl true 3 ([.nilp, .nilp, .nilp]) [(0, 1, .t 57), (1, 1, .t 60), (2, 1, .t 63)] },
  { dst := some 65, op := .call .pure (.c (.fn 220 [] [])) [.t 56, .t 64] },
  { dst := some 10, op := .mv (.t 65) }])
 (.seq (.reg false [{ dst := some 66, op := .mv (.t 3) },
  { dst := some 67, op := .mv (.t 2) },
  { dst := some 68, op := .mv (.t 5) },
  { dst := some 69, op := .mv (.t 3) },
  { dst := some 70, op := .mv (.t 5) },
  { dst := some 71, op := .call .pure (.c (.fn 23 [] [])) [.t 69, .t 70] },
  { dst := some 72, op := .mv (.t 2) },
  { dst := some 73, op := .mv (.t 3) },
  { dst := some 74, op := .call .pure (.c (.fn 23 [] [])) [.t 72, .t 73] },
  { dst := some 75, op := .bsl true 4 (List.replicate 4 (.nilp)) [(0, 1, .t 67), (1, 1, .t 68), (2, 1, .t 71), (3, 1, .t 74)] },
  { dst := some 76, op := .call .pure (.c (.fn 220 [] [])) [.t 66, .t 75] },
  { dst := some 11, op := .mv (.t 76) }])
 (.seq (.reg false [{ dst := some 77, op := .mv (.t 4) },
  { dst := some 78, op := .mv (.t 4) },
  { dst := some 79, op := .mv (.t 2) },
  { dst := some 80, op := .call .pure (.c (.fn 23 [] [])) [.t 78, .t 79] },
  { dst := some 81, op := .mv (.t 5) },
  { dst := some 82, op := .mv (.t 4) },
  { dst := some 83, op := .call .pure (.c (.fn 23 [] [])) [.t 81, .t 82] },
  { dst := some 84, op := .bsl true 2 ([.nilp, .nilp]) [(0, 1, .t 80), (1, 1, .t 83)] },
  { dst := some 85, op := .call .pure (.c (.fn 220 [] [])) [.t 77, .t 84] },
  { dst := some 12, op := .mv (.t 85) }])
 (.seq (.reg false [{ dst := some 86, op := .mv (.t 5) },
  { dst := some 87, op := .mv (.t 4) },
  { dst := some 88, op := .mv (.t 4) },
  { dst := some 89, op := .mv (.t 3) },
  { dst := some 90, op := .call .pure (.c (.fn 23 [] [])) [.t 88, .t 89] },
  { dst := some 91, op := .mv (.t 5) },
  { dst := some 92, op := .mv (.t 5) },
  { dst := some 93, op := .call .pure (.c (.fn 23 [] [])) [.t 91, .t 92] },
  { dst := some 94, op := .bsl true 3 ([.nilp, .nilp, .nilp]) [(0, 1, .t 87), (1, 1, .t 90), (2, 1, .t 93)] },
  { dst := some 95, op := .call .pure (.c (.fn 220 [] [])) [.t 86, .t 94] },
  { dst := some 13, op := .mv (.t 95) }])
 (.seq (.seq (.reg false [{ dst := some 96, op := .mv (.t 10) },
  { dst := some 97, op := .mv (.t 2) },
  { dst := some 98, op := .call .pure (.c (.fn 22 [] [])) [.t 96, .t 97] },
  { dst := some 99, op := .mv (.t 98) },
  { dst := some 100, op := .mv (.t 11), grd := some (99, true) },
  { dst := some 101, op := .mv (.t 3), grd := some (99, true) },
  { dst := some 102, op := .call .pure (.c (.fn 22 [] [])) [.t 100, .t 101], grd := some (99, true) },
  { dst := some 103, op := .pick (.t 99) (.t 102) (.c (.b false)) },
  { dst := some 104, op := .mv (.t 103) },
  { dst := some 105, op := .mv (.t 12), grd := some (104, true) },
  { dst := some 106, op := .mv (.t 4), grd := some (104, true) },
  { dst := some 107, op := .call .pure (.c (.fn 22 [] [])) [.t 105, .t 106], grd := some (104, true) },
  { dst := some 108, op := .pick (.t 104) (.t 107) (.c (.b false)) },
  { dst := some 109, op := .mv (.t 108) },
  { dst := some 110, op := .mv (.t 13), grd := some (109, true) },
  { dst := some 111, op := .mv (.t 5), grd := some (109, true) },
  { dst := some 112, op := .call .pure (.c (.fn 22 [] [])) [.t 110, .t 111], grd := some (109, true) },
  { dst := some 113, op := .pick (.t 109) (.t 112) (.c (.b false)) }])
 (.cond (.t 113) (.ext 0)
 .skip))
 (.reg false [{ dst := some 114, op := .mv (.t 10) },
  { dst := some 115, op := .mv (.t 11) },
  { dst := some 116, op := .mv (.t 12) },
  { dst := some 117, op := .mv (.t 13) },
  { dst := some 2, op := .mv (.t 114) },
  { dst := some 3, op := .mv (.t 115) },
  { dst := some 4, op := .mv (.t 116) },
  { dst := some 5, op := .mv (.t 117) }])))))))))
 (.seq (.reg false [{ dst := some 118, op := .mv (.t 2) },
  { dst := some 119, op := .mv (.t 3) },
  { dst := some 120, op := .mv (.t 4) },
  { dst := some 121, op := .mv (.t 5) },
  { dst := some 2, op := .mv (.t 118) },
  { dst := some 3, op := .mv (.t 119) },
  { dst := some 4, op := .mv (.t 120) },
  { dst := some 5, op := .mv (.t 121) }])
 .ret))))))))))) }
def A_ppo_isR : AFun := { res := [.t 2], body := (.seq (.reg false [{ dst := some 1, op := .box (.t 0) },
  { dst := some 2, op := .mv (.c (.b false)) }])
 (.seq (.reg false [{ dst := some 3, op := .fa 1 (.t 1) },
  { dst := some 4, op := .ld none (.t 3) },
  { dst := some 5, op := .bin .eql (.t 4) (.c (.i .i64 1)) },
  { dst := some 2, op := .mv (.t 5) }])
 .ret)) }
def A_ppo_isW : AFun := { res := [.t 2], body := (.seq (.reg false [{ dst := some 1, op := .box (.t 0) },
  { dst := some 2, op := .mv (.c (.b false)) }])
 (.seq (.reg false [{ dst := some 3, op := .fa 1 (.t 1) },
  { dst := some 4, op := .ld none (.t 3) },
  { dst := some 5, op := .bin .eql (.t 4) (.c (.i .i64 2)) },
  { dst := some 2, op := .mv (.t 5) }])
 .ret)) }
def A_ppo_by : AFun := { res := [.t 4], body := (.seq (.reg false [{ dst := some 2, op := .box (.t 0) },
  { dst := some 4, op := .mv (.c (.nilp)) }])
 (.seq (.reg true [{ dst := some 5, op := .ld (some 8) (.t 2), pre := [] },
  { dst := some 6, op := .call .pure (.c (.fn 221 [] [])) [.t 5], pre := [] },
  { dst := some 7, op := .ld (some 8) (.t 2), pre := [] },
  { dst := some 8, op := .mv (.t 1) },
  { dst := some 9, op := .call .pure (.c (.fn 40 [] [])) [.t 7, .t 8], pre := [] },
  { dst := some 10, op := .ld (some 8) (.t 2), pre := [] },
  { dst := some 11, op := .ld (some 8) (.t 2), pre := [] },
  { dst := some 12, op := .call .pure (.c (.fn 48 [] [])) [.t 11], pre := [] },
  { dst := some 13, op := .call .pure (.c (.fn 40 [] [])) [.t 10, .t 12], pre := [] },
  { dst := some 14, op := .call .pure (.c (.fn 23 [] [])) [.t 9, .t 13], pre := [] },
  { dst := some 15, op := .call .pure (.c (.fn 18 [] [])) [.t 6, .t 14], pre := [] },
  { dst := some 4, op := .mv (.t 15) }])
 .ret)) }
def A_ppo_isM : AFun := { res := [.t 2], body := (.seq (.reg false [{ dst := some 1, op := .box (.t 0) },
  { dst := some 2, op := .mv (.c (.b false)) }])
 (.seq (.reg false [{ dst := some 3, op := .fa 1 (.t 1) },
  { dst := some 4, op := .ld none (.t 3) },
  { dst := some 5, op := .bin .eql (.t 4) (.c (.i .i64 1)) },
  { dst := some 6, op := .mv (.t 5) },
  { dst := some 7, op := .fa 1 (.t 1), grd := some (6, false) },
  { dst := some 8, op := .ld none (.t 7), grd := some (6, false) },
  { dst := some 9, op := .bin .eql (.t 8) (.c (.i .i64 2)), grd := some (6, false) },
  { dst := some 10, op := .pick (.t 6) (.c (.b true)) (.t 9) },
  { dst := some 2, op := .mv (.t 10) }])
 .ret)) }
def A_ppo_or : AFun := { res := [.t 4], body := (.seq (.reg false [{ dst := some 4, op := .mv (.c (.nilp)) }])
 (.seq (.seq (.reg false [{ dst := some 7, op := .mv (.t 1) },
  { dst := some 8, op := .len (.t 7) },
  { dst := some 9, op := .mv (.c (.i .i64 0)) }])
 (.blk 0 (.loop (.seq (.reg false [{ dst := some 10, op := .bin .lss (.t 9) (.t 8) }])
 (.seq (.cond (.t 10) .skip
 (.ext 0))
 (.seq (.blk 1 (.seq (.reg false [{ dst := some 11, op := .ia 1 (.t 7) (.t 9) },
  { dst := some 12, op := .ld none (.t 11) },
  { dst := some 6, op := .mv (.t 12) }])
 (.reg false [{ dst := some 13, op := .mv (.t 0) },
  { dst := some 14, op := .mv (.t 6) },
  { dst := some 15, op := .call .pure (.c (.fn 24 [] [])) [.t 13, .t 14] },
  { dst := some 0, op := .mv (.t 15) }])))
 (.reg false [{ dst := some 16, op := .bin .add (.t 9) (.c (.i .i64 1)) },
  { dst := some 9, op := .mv (.t 16) }])))))))
 (.seq (.reg false [{ dst := some 17, op := .mv (.t 0) },
  { dst := some 4, op := .mv (.t 17) }])
 .ret))) }
def A_ppo_ploc : AFun := { res := [.t 2], body := (.seq (.reg false [{ dst := some 1, op := .box (.t 0) },
  { dst := some 2, op := .mv (.c (.nilp)) }])
 (.seq (.reg false [{ dst := some 4, op := .ld (some 8) (.t 1) },
  { dst := some 5, op := .call .pure (.c (.fn 166 [] [])) [.t 4, .c (.fn 246 [] [])] },
  { dst := some 3, op := .mv (.t 5) }])
 (.seq (.reg true [{ dst := some 6, op := .mv (.t 3) },
  { dst := some 7, op := .ld (some 8) (.t 1), pre := [] },
  { dst := some 8, op := .ld (some 8) (.t 1), pre := [] },
  { dst := some 9, op := .call .pure (.c (.fn 41 [] [])) [.t 8], pre := [] },
  { dst := some 10, op := .call .pure (.c (.fn 39 [] [])) [.t 7, .t 9], pre := [] },
  { dst := some 11, op := .call .pure (.c (.fn 23 [] [])) [.t 6, .t 10], pre := [] },
  { dst := some 2, op := .mv (.t 11) }])
 .ret))) }
def A_ppo_ploc_1 : AFun := { res := [.t 2], body := (.seq (.reg false [{ dst := some 1, op := .box (.t 0) },
  { dst := some 2, op := .mv (.c (.b false)) }])
 (.seq (.reg false [{ dst := some 3, op := .fa 0 (.t 1) },
  { dst := some 4, op := .ld none (.t 3) },
  { dst := some 5, op := .bin .neq (.t 4) (.c (.i .i64 0)) },
  { dst := some 2, op := .mv (.t 5) }])
 .ret)) }
structure Pk_ppo (F : Funs) : Prop where
  ppo_Ppo : F 143 = some A_ppo_Ppo
  ppo_Rdw : F 145 = some A_ppo_Rdw
  ppo_Detour : F 146 = some A_ppo_Detour
  ppo_Parts : F 165 = some A_ppo_Parts
  ppo_isR : F 167 = some A_ppo_isR
  ppo_isW : F 168 = some A_ppo_isW
  ppo_by : F 170 = some A_ppo_by
  ppo_isM : F 219 = some A_ppo_isM
  ppo_or : F 220 = some A_ppo_or
  ppo_ploc : F 221 = some A_ppo_ploc
  ppo_ploc_1 : F 246 = some A_ppo_ploc_1
end Go.Ab
end
section
set_option linter.unusedVariables false
set_option linter.unusedSimpArgs false
namespace Go.Ab
variable {F : Funs}
structure PpoF (F : Funs) : Prop where
  pp : Pk_ppo F
  pe : Pk_eco F
  pr : Pk_rel F
  po : F 60 = some A_graph_Po
  gof : F 81 = some A_graph_Of
  set : F 166 = some A_graph_Set
  ls : RelLs F
section
variable (X : Gr)
end
def orL (R : Rw) (l : List Rw) : Rw := l.foldl orR R
section
variable (S : PpoF F)
include S
variable {X : Gr} (hX : Few X)
include hX
end
end Go.Ab
end
section
set_option linter.unusedVariables false
set_option linter.unusedSimpArgs false
namespace Go.Ab
variable {F : Funs}
structure OrdF (F : Funs) : Prop where
  po : Pk_order F
  sy : SyncF F
def oR (e : Ev) : Bool := e.kd == 1
def oW (e : Ev) : Bool := e.kd == 2
def oF (e : Ev) : Bool := e.kd == 3
def oRel (e : Ev) : Bool := e.kd == 2 && e.md == 2
def oAcq (e : Ev) : Bool := e.kd == 1 && e.md == 1
def oSc (e : Ev) : Bool := e.kd == 3 && e.md == 4
def oEx (e : Ev) : Bool := e.kd == 1 && e.ex
section
variable (S : OrdF F)
include S
set_option maxRecDepth 100000 in
theorem so_R (e : Ev) : pureS F 240 [.agg (evC e)] = some (.b (oR e)) := by
  refine pure_of S.po.order_isR ?_
  simp (disch := omega) only [A_order_isR, wp, Nat.reduceAdd, Nat.reduceMul, Nat.reduceSub, gl]
  rfl
set_option maxRecDepth 100000 in
theorem so_W (e : Ev) : pureS F 203 [.agg (evC e)] = some (.b (oW e)) := by
  refine pure_of S.po.order_isW ?_
  simp (disch := omega) only [A_order_isW, wp, Nat.reduceAdd, Nat.reduceMul, Nat.reduceSub, gl]
  rfl
set_option maxRecDepth 100000 in
theorem so_F (e : Ev) : pureS F 200 [.agg (evC e)] = some (.b (oF e)) := by
  refine pure_of S.po.order_isF ?_
  simp (disch := omega) only [A_order_isF, wp, Nat.reduceAdd, Nat.reduceMul, Nat.reduceSub, gl]
  rfl
set_option maxRecDepth 100000 in
theorem so_Rel (e : Ev) : pureS F 196 [.agg (evC e)] = some (.b (oRel e)) := by
  refine pure_of S.po.order_isRel ?_
  have h := so_W S e
  unfold oRel
  unfold oW at h
  cases c : (e.kd == 2) with
  | true => rw [c] at h; simp (disch := omega) only [A_order_isRel, wp, Nat.reduceAdd, Nat.reduceMul, Nat.reduceSub, gl, h]
  | false => rw [c] at h; simp (disch := omega) only [A_order_isRel, wp, Nat.reduceAdd, Nat.reduceMul, Nat.reduceSub, gl, h]
set_option maxRecDepth 100000 in
theorem so_Acq (e : Ev) : pureS F 198 [.agg (evC e)] = some (.b (oAcq e)) := by
  refine pure_of S.po.order_isAcq ?_
  have h := so_R S e
  unfold oAcq
  unfold oR at h
  cases c : (e.kd == 1) with
  | true => rw [c] at h; simp (disch := omega) only [A_order_isAcq, wp, Nat.reduceAdd, Nat.reduceMul, Nat.reduceSub, gl, h]
  | false => rw [c] at h; simp (disch := omega) only [A_order_isAcq, wp, Nat.reduceAdd, Nat.reduceMul, Nat.reduceSub, gl, h]
set_option maxRecDepth 100000 in
theorem so_Sc (e : Ev) : pureS F 241 [.agg (evC e)] = some (.b (oSc e)) := by
  refine pure_of S.po.order_isSc ?_
  have h := so_F S e
  unfold oSc
  unfold oF at h
  cases c : (e.kd == 3) with
  | true => rw [c] at h; simp (disch := omega) only [A_order_isSc, wp, Nat.reduceAdd, Nat.reduceMul, Nat.reduceSub, gl, h]
  | false => rw [c] at h; simp (disch := omega) only [A_order_isSc, wp, Nat.reduceAdd, Nat.reduceMul, Nat.reduceSub, gl, h]
set_option maxRecDepth 100000 in
theorem so_Ex (e : Ev) : pureS F 245 [.agg (evC e)] = some (.b (oEx e)) := by
  refine pure_of S.po.order_isEx ?_
  have h := so_R S e
  unfold oEx
  unfold oR at h
  cases c : (e.kd == 1) with
  | true => rw [c] at h; simp (disch := omega) only [A_order_isEx, wp, Nat.reduceAdd, Nat.reduceMul, Nat.reduceSub, gl, h]
  | false => rw [c] at h; simp (disch := omega) only [A_order_isEx, wp, Nat.reduceAdd, Nat.reduceMul, Nat.reduceSub, gl, h]
end
section
variable (X : Gr)
def bobL : List Rw := [thenR (nOf X) (poR X) (setR X oRel), thenR (nOf X) (setR X oAcq) (poR X), thenR (nOf X) (poR X) (setR X oF), thenR (nOf X) (setR X oF) (poR X), thenR (nOf X) (thenR (nOf X) (setR X oRel) (locR X)) (setR X oW)]
def bobR : Rw := orL (newR (nOf X) []) (bobL X)
def depsR : Rw := orL (newR (nOf X) []) [newR (nOf X) X.data, newR (nOf X) X.ctrl, thenR (nOf X) (setR X oEx) (poR X)]
def oppoR : Rw := thenR (nOf X) (thenR (nOf X) (setR X oR) (plusR (nOf X) (orR (depsR X) (partR inner X (nOf X) (rfR X))))) (setR X oW)
def odetR : Rw := andR (thenR (nOf X) (partR outer X (nOf X) (relE (coS X.co) X)) (partR outer X (nOf X) (rfR X))) (poR X)
def pscR : Rw := thenR (nOf X) (thenR (nOf X) (thenR (nOf X) (thenR (nOf X) (setR X oSc) (HbP X)) (ecoR X)) (HbP X)) (setR X oSc)
def arR : Rw := orL (newR (nOf X) []) [partR outer X (nOf X) (rfR X), bobR X, oppoR X, odetR X, pscR X]
end
def ClosR (F : Funs) (n : Nat) (f : AV) (R : Rw) : Prop := ∃ fid caps, f = .fn fid [] caps ∧ pureS F fid caps = some (.ptr (relC n R)) ∧ (∀ hp, frzL hp depth caps = some caps) ∧ ∀ hp, caps.flatMap (vis hp depth) = []
def ClosL (F : Funs) (n : Nat) : List AV → List Rw → Prop
  | [], [] => True
  | f :: fs, R :: Rs => ClosR F n f R ∧ ClosL F n fs Rs
  | _, _ => False
theorem closL_len {n : Nat} : ∀ {fs : List AV} {Rs : List Rw}, ClosL F n fs Rs → fs.length = Rs.length
  | [], [], _ => rfl
  | f :: fs, R :: Rs, h => by simp [closL_len h.2]
theorem closL_at {n : Nat} : ∀ {fs : List AV} {Rs : List Rw} {k : Nat}, ClosL F n fs Rs → (h : k < Rs.length) → ∃ f, fs[k]? = some f ∧ ClosR F n f (Rs.getD k fun _ => 0)
  | [], [], _, _, hk => absurd hk (Nat.not_lt_zero _)
  | [], _ :: _, _, h, _ => h.elim
  | _ :: _, [], _, h, _ => h.elim
  | f :: fs, R :: Rs, 0, h, _ => ⟨f, rfl, h.1⟩
  | f :: fs, R :: Rs, k + 1, h, hk => closL_at (k := k) h.2 (by simpa using hk)
section
variable (S : OrdF F) {X : Gr} (hX : Few X)
include S hX
set_option maxRecDepth 100000 in
set_option maxHeartbeats 4000000 in
omit hX in
theorem so_all {fs : List AV} {Rs : List Rw} (h : ClosL F (nOf X) fs Rs) (hl : Rs.length ≤ 1000) (t : Tok) : pureS F 193 [.agg (grC X), .sl fs Rs.length t] = some (.ptr (relC (nOf X) (orL (newR (nOf X) []) Rs))) := by
  refine pure_of S.po.order_all ?_
  have hn := nOf_le X
  have dn : pureS F 11 [.i .i64 X.evs.length, .sl [] 0 .non] = some (.ptr (relC (nOf X) (newR (nOf X) []))) := sp_new S.sy.pr X.evs.length [] .non (by simp)
  have hfl := closL_len h
  simp (disch := omega) only [A_order_all, wp, Nat.reduceAdd, Nat.reduceMul, Nat.reduceSub, gl, dn]
  refine W_loop (fun q e g => ∃ k, q = Rs.length - k ∧ k ≤ Rs.length ∧ e 5 = .ptr (relC (nOf X) (orL (newR (nOf X) []) (Rs.take k))) ∧ e 12 = .sl fs Rs.length t ∧ e 13 = .i .i64 Rs.length ∧ e 14 = .i .i64 k) Rs.length ?_ ?_
  · refine ⟨0, rfl, Nat.zero_le _, ?_⟩
    simp (disch := omega) only [wp, Nat.reduceAdd, Nat.reduceMul, Nat.reduceSub]
    exact ⟨by rfl, rfl⟩
  · rintro q e g ⟨k, rfl, hk, e5, e12, e13, e14⟩
    by_cases hk' : k < Rs.length
    · have hk1 : (k : Int) < Rs.length := by omega
      have hwk := succ_wrap (k := k) (by omega)
      obtain ⟨f, hf, fid, caps, rfl, hcall, hc, hv⟩ := closL_at h hk'
      have hp : part (fs.drop (k * 1)) 0 none = some (.fn fid [] caps) := by
        simp only [part, List.getElem?_drop, Nat.mul_one, Nat.add_zero, hf]
      have hs : orL (newR (nOf X) []) (Rs.take (k + 1)) = orR (orL (newR (nOf X) []) (Rs.take k)) (Rs.getD k fun _ => 0) := by
        unfold orL
        rw [List.take_add_one, List.foldl_append, List.getElem?_eq_getElem hk', List.getD_eq_getElem?_getD, List.getElem?_eq_getElem hk']
        rfl
      generalize orL (newR (nOf X) []) (Rs.take k) = A at e5 hs
      generalize (Rs.getD k fun _ => 0) = B at hcall hs
      simp (disch := omega) only [wp, Nat.reduceAdd, Nat.reduceMul, Nat.reduceSub, gl, e5, e12, e13, e14, hk1, hp, hc, hv, hcall, sp_or S.sy.pr hn hn, Nat.max_self, hwk]
      exact ⟨Rs.length - (k + 1), by omega, k + 1, rfl, by omega, by rw [hs], rfl⟩
    · obtain rfl : k = Rs.length := by omega
      have hk1 : ¬ ((Rs.length : Int) < Rs.length) := by omega
      rw [List.take_length] at e5
      simp (disch := omega) only [wp, Nat.reduceAdd, Nat.reduceMul, Nat.reduceSub, gl, e5, e12, e13, e14, hk1]
set_option maxRecDepth 100000 in
theorem so_set {fid : Nat} {p : Ev → Bool} (hp : ∀ e, pureS F fid [.agg (evC e)] = some (.b (p e))) : pureS F 195 [.agg (grC X), .fn fid [] []] = some (.ptr (relC (nOf X) (setR X p))) := by
  refine pure_of S.po.order_set ?_
  have hs := sp_setE S.sy.set S.sy.gof S.sy.pr (X := X) (by have := hX.1; omega) hp (fun hp => frzL_nil hp _) (fun hp => rfl)
  simp (disch := omega) only [A_order_set, wp, Nat.reduceAdd, Nat.reduceMul, Nat.reduceSub, gl, hs]
end
end Go.Ab
end
section
set_option linter.unusedVariables false
set_option linter.unusedSimpArgs false
namespace Go.Ab
variable {F : Funs}
theorem fz_p1 (a : List AV) (hp) : frzL hp depth [.ptr a] = some [.ptr a] := by simp only [frzL_cons, frzL_nil, frz_d_ptr, consO_ok]
theorem fz_p2 (a b : List AV) (hp) : frzL hp depth [.ptr a, .ptr b] = some [.ptr a, .ptr b] := by simp only [frzL_cons, frzL_nil, frz_d_ptr, consO_ok]
theorem vs_p1 (a : List AV) (hp) : [AV.ptr a].flatMap (vis hp depth) = [] := by simp only [List.flatMap_cons, List.flatMap_nil, vis_ptr, List.append_nil]
theorem vs_p2 (a b : List AV) (hp) : [AV.ptr a, .ptr b].flatMap (vis hp depth) = [] := by simp only [List.flatMap_cons, List.flatMap_nil, vis_ptr, List.append_nil]
theorem fzf_1 (f : Nat) (a : List AV) (hp) : frz hp depth (.fn f [] [.ptr a]) = some (.fn f [] [.ptr a]) := by
  show frz hp (8 + 1) _ = _
  simp only [frz, frzL]
theorem fzf_2 (f : Nat) (a b : List AV) (hp) : frz hp depth (.fn f [] [.ptr a, .ptr b]) = some (.fn f [] [.ptr a, .ptr b]) := by
  show frz hp (8 + 1) _ = _
  simp only [frz, frzL]
theorem vsf_1 (f : Nat) (a : List AV) (hp) : vis hp depth (.fn f [] [.ptr a]) = [] := by
  show vis hp (8 + 1) _ = _
  simp only [vis, List.flatMap_cons, List.flatMap_nil, List.append_nil]
theorem vsf_2 (f : Nat) (a b : List AV) (hp) : vis hp depth (.fn f [] [.ptr a, .ptr b]) = [] := by
  show vis hp (8 + 1) _ = _
  simp only [vis, List.flatMap_cons, List.flatMap_nil, List.append_nil]
theorem closR_1 {n : Nat} {f : Nat} {a : List AV} {R : Rw} (h : pureS F f [.ptr a] = some (.ptr (relC n R))) : ClosR F n (.fn f [] [.ptr a]) R := ⟨f, _, rfl, h, fz_p1 a, vs_p1 a⟩
theorem closR_2 {n : Nat} {f : Nat} {a b : List AV} {R : Rw} (h : pureS F f [.ptr a, .ptr b] = some (.ptr (relC n R))) : ClosR F n (.fn f [] [.ptr a, .ptr b]) R := ⟨f, _, rfl, h, fz_p2 a b, vs_p2 a b⟩
section
variable (S : OrdF F) {X : Gr} (hX : Few X)
include S hX
set_option maxRecDepth 100000 in
omit hX in
theorem so_deps1 (hd : X.data.length ≤ 1000) : pureS F 242 [.ptr (grC X)] = some (.ptr (relC (nOf X) (newR (nOf X) X.data))) := by
  refine pure_of S.po.order_Deps_1 ?_
  have h5 : part (List.drop 5 (grC X)) 0 none = some (.sl (pairsC X.data) X.data.length .non) := rfl
  simp (disch := omega) only [A_order_Deps_1, wp, Nat.reduceAdd, Nat.reduceMul, Nat.reduceSub, gl, h5, sp_ofX S.sy]
set_option maxRecDepth 100000 in
omit hX in
theorem so_deps2 (hd : X.ctrl.length ≤ 1000) : pureS F 243 [.ptr (grC X)] = some (.ptr (relC (nOf X) (newR (nOf X) X.ctrl))) := by
  refine pure_of S.po.order_Deps_2 ?_
  have h5 : part (List.drop 6 (grC X)) 0 none = some (.sl (pairsC X.ctrl) X.ctrl.length .non) := rfl
  simp (disch := omega) only [A_order_Deps_2, wp, Nat.reduceAdd, Nat.reduceMul, Nat.reduceSub, gl, h5, sp_ofX S.sy]
set_option maxRecDepth 100000 in
theorem so_deps3 : pureS F 244 [.ptr (grC X)] = some (.ptr (relC (nOf X) (thenR (nOf X) (setR X oEx) (poR X)))) := by
  refine pure_of S.po.order_Deps_3 ?_
  have hn := nOf_le X
  simp (disch := omega) only [A_order_Deps_3, wp, Nat.reduceAdd, Nat.reduceMul, Nat.reduceSub, gl, so_set S hX (so_Ex S), sp_poX S.sy hX, sp_then S.sy.pr hn hn, Nat.max_self]
set_option maxRecDepth 100000 in
theorem so_deps (hd : X.data.length ≤ 1000) (hc : X.ctrl.length ≤ 1000) : pureS F 213 [.agg (grC X)] = some (.ptr (relC (nOf X) (depsR X))) := by
  refine pure_of S.po.order_Deps ?_
  have d := so_all S (X := X) (fs := [.fn 242 [] [.ptr (grC X)], .fn 243 [] [.ptr (grC X)], .fn 244 [] [.ptr (grC X)]]) (Rs := [newR (nOf X) X.data, newR (nOf X) X.ctrl, thenR (nOf X) (setR X oEx) (poR X)]) ⟨closR_1 (so_deps1 S hd), closR_1 (so_deps2 S hc), closR_1 (so_deps3 S hX), trivial⟩ (by simp) .non
  simp only [List.length_cons, List.length_nil, Nat.reduceAdd] at d
  simp (disch := omega) only [A_order_Deps, wp, Nat.reduceAdd, Nat.reduceMul, Nat.reduceSub, gl, o_boxI, vBoxI_S, bxiD_ok, frzL_gr, vMapL_some, fzf_1, vsf_1, d]
  rfl
set_option maxRecDepth 100000 in
theorem so_bob1 : pureS F 194 [.ptr [.ptr (relC (nOf X) (poR X))], .ptr (grC X)] = some (.ptr (relC (nOf X) (thenR (nOf X) (poR X) (setR X oRel)))) := by
  refine pure_of S.po.order_Bob_1 ?_
  have hn := nOf_le X
  simp (disch := omega) only [A_order_Bob_1, wp, Nat.reduceAdd, Nat.reduceMul, Nat.reduceSub, gl, so_set S hX (so_Rel S), sp_then S.sy.pr hn hn, Nat.max_self]
set_option maxRecDepth 100000 in
theorem so_bob2 : pureS F 197 [.ptr (grC X), .ptr [.ptr (relC (nOf X) (poR X))]] = some (.ptr (relC (nOf X) (thenR (nOf X) (setR X oAcq) (poR X)))) := by
  refine pure_of S.po.order_Bob_2 ?_
  have hn := nOf_le X
  simp (disch := omega) only [A_order_Bob_2, wp, Nat.reduceAdd, Nat.reduceMul, Nat.reduceSub, gl, so_set S hX (so_Acq S), sp_then S.sy.pr hn hn, Nat.max_self]
set_option maxRecDepth 100000 in
theorem so_bob3 : pureS F 199 [.ptr [.ptr (relC (nOf X) (poR X))], .ptr (grC X)] = some (.ptr (relC (nOf X) (thenR (nOf X) (poR X) (setR X oF)))) := by
  refine pure_of S.po.order_Bob_3 ?_
  have hn := nOf_le X
  simp (disch := omega) only [A_order_Bob_3, wp, Nat.reduceAdd, Nat.reduceMul, Nat.reduceSub, gl, so_set S hX (so_F S), sp_then S.sy.pr hn hn, Nat.max_self]
set_option maxRecDepth 100000 in
theorem so_bob4 : pureS F 201 [.ptr (grC X), .ptr [.ptr (relC (nOf X) (poR X))]] = some (.ptr (relC (nOf X) (thenR (nOf X) (setR X oF) (poR X)))) := by
  refine pure_of S.po.order_Bob_4 ?_
  have hn := nOf_le X
  simp (disch := omega) only [A_order_Bob_4, wp, Nat.reduceAdd, Nat.reduceMul, Nat.reduceSub, gl, so_set S hX (so_F S), sp_then S.sy.pr hn hn, Nat.max_self]
set_option maxRecDepth 100000 in
theorem so_bob5 : pureS F 202 [.ptr (grC X)] = some (.ptr (relC (nOf X) (thenR (nOf X) (thenR (nOf X) (setR X oRel) (locR X)) (setR X oW)))) := by
  refine pure_of S.po.order_Bob_5 ?_
  have hn := nOf_le X
  simp (disch := omega) only [A_order_Bob_5, wp, Nat.reduceAdd, Nat.reduceMul, Nat.reduceSub, gl, so_set S hX (so_Rel S), so_set S hX (so_W S), sp_locX S.sy hX, sp_then S.sy.pr hn hn, Nat.max_self]
set_option maxRecDepth 100000 in
theorem so_bob : pureS F 155 [.agg (grC X)] = some (.ptr (relC (nOf X) (bobR X))) := by
  refine pure_of S.po.order_Bob ?_
  have d := so_all S (X := X) (fs := [.fn 194 [] [.ptr [.ptr (relC (nOf X) (poR X))], .ptr (grC X)], .fn 197 [] [.ptr (grC X), .ptr [.ptr (relC (nOf X) (poR X))]], .fn 199 [] [.ptr [.ptr (relC (nOf X) (poR X))], .ptr (grC X)], .fn 201 [] [.ptr (grC X), .ptr [.ptr (relC (nOf X) (poR X))]], .fn 202 [] [.ptr (grC X)]]) (Rs := bobL X) ⟨closR_2 (so_bob1 S hX), closR_2 (so_bob2 S hX), closR_2 (so_bob3 S hX), closR_2 (so_bob4 S hX), closR_1 (so_bob5 S hX), trivial⟩ (by simp [bobL]) .non
  simp only [bobL, List.length_cons, List.length_nil, Nat.reduceAdd] at d
  simp (disch := omega) only [A_order_Bob, wp, Nat.reduceAdd, Nat.reduceMul, Nat.reduceSub, gl, o_boxI, vBoxI_S, bxiD_ok, frzL_gr, vMapL_some, sp_poX S.sy hX]
  refine W_immM (fun e g => e 1 = .ptr (grC X) ∧ e 3 = .mp 4 0 ∧ g.hp 4 = some (.cells [.ptr (relC (nOf X) (poR X))] false) ∧ 4 < g.nx) ?_ ?_
  · simp (disch := omega) only [wp, Nat.reduceAdd, Nat.reduceMul, Nat.reduceSub, gl]
    trivial
  · have r5 : ∀ x : AV, List.replicate 5 x = [x, x, x, x, x] := fun _ => rfl
    rintro e g ⟨e1, e3, hg, hnx⟩
    have hfz : frz g.hp depth (e 3) = some (.ptr [.ptr (relC (nOf X) (poR X))]) := by
      rw [e3]
      refine frz_d_mp hg ?_
      show frzL g.hp (7 + 1) [AV.ptr (relC (nOf X) (poR X))] = _
      simp only [frzL, frz]
    rw [W_imm hfz]
    simp (disch := omega) only [wp, Nat.reduceAdd, Nat.reduceMul, Nat.reduceSub, gl, e1, r5, fzf_1, vsf_1, fzf_2, vsf_2, d]
    rfl
set_option maxRecDepth 100000 in
theorem so_ppo (hd : X.data.length ≤ 1000) (hc : X.ctrl.length ≤ 1000) : pureS F 207 [.agg (grC X)] = some (.ptr (relC (nOf X) (oppoR X))) := by
  refine pure_of S.po.order_Ppo ?_
  have hn := nOf_le X
  simp (disch := omega) only [A_order_Ppo, wp, Nat.reduceAdd, Nat.reduceMul, Nat.reduceSub, gl, so_deps S hX hd hc, so_set S hX (so_R S), so_set S hX (so_W S), sp_rfX S.sy hX, sp_Inner S.sy.pe S.sy.gof S.sy.pr hn, sp_or S.sy.pr hn hn, sp_plus S.sy.pr hn, sp_then S.sy.pr hn hn, Nat.max_self]
  rfl
set_option maxRecDepth 100000 in
theorem so_detour : pureS F 209 [.agg (grC X)] = some (.ptr (relC (nOf X) (odetR X))) := by
  refine pure_of S.po.order_Detour ?_
  have hn := nOf_le X
  simp (disch := omega) only [A_order_Detour, wp, Nat.reduceAdd, Nat.reduceMul, Nat.reduceSub, gl, sp_rfX S.sy hX, sp_poX S.sy hX, sp_Co S.sy.pe S.sy.gof S.sy.pr hX, sp_Outer S.sy.pe S.sy.gof S.sy.pr hn, sp_and S.sy.pr hn hn, sp_then S.sy.pr hn hn, Nat.max_self]
  rfl
set_option maxRecDepth 100000 in
theorem so_psc (hr : X.rmw.length ≤ 1000) : pureS F 211 [.agg (grC X)] = some (.ptr (relC (nOf X) (pscR X))) := by
  refine pure_of S.po.order_Psc ?_
  have hn := nOf_le X
  simp (disch := omega) only [A_order_Psc, wp, Nat.reduceAdd, Nat.reduceMul, Nat.reduceSub, gl, so_set S hX (so_Sc S), sp_Hb S.sy hX hr, sp_Eco S.sy.pe S.sy.gof S.sy.pr hX, sp_then S.sy.pr hn hn, Nat.max_self]
  rfl
set_option maxRecDepth 100000 in
theorem so_ar1 : pureS F 204 [.ptr (grC X)] = some (.ptr (relC (nOf X) (partR outer X (nOf X) (rfR X)))) := by
  refine pure_of S.po.order_Ar_1 ?_
  have hn := nOf_le X
  simp (disch := omega) only [A_order_Ar_1, wp, Nat.reduceAdd, Nat.reduceMul, Nat.reduceSub, gl, sp_rfX S.sy hX, sp_Outer S.sy.pe S.sy.gof S.sy.pr hn]
set_option maxRecDepth 100000 in
theorem so_ar2 : pureS F 205 [.ptr (grC X)] = some (.ptr (relC (nOf X) (bobR X))) := by
  refine pure_of S.po.order_Ar_2 ?_
  simp (disch := omega) only [A_order_Ar_2, wp, Nat.reduceAdd, Nat.reduceMul, Nat.reduceSub, gl, so_bob S hX]
set_option maxRecDepth 100000 in
theorem so_ar3 (hd : X.data.length ≤ 1000) (hc : X.ctrl.length ≤ 1000) : pureS F 206 [.ptr (grC X)] = some (.ptr (relC (nOf X) (oppoR X))) := by
  refine pure_of S.po.order_Ar_3 ?_
  simp (disch := omega) only [A_order_Ar_3, wp, Nat.reduceAdd, Nat.reduceMul, Nat.reduceSub, gl, so_ppo S hX hd hc]
set_option maxRecDepth 100000 in
theorem so_ar4 : pureS F 208 [.ptr (grC X)] = some (.ptr (relC (nOf X) (odetR X))) := by
  refine pure_of S.po.order_Ar_4 ?_
  simp (disch := omega) only [A_order_Ar_4, wp, Nat.reduceAdd, Nat.reduceMul, Nat.reduceSub, gl, so_detour S hX]
set_option maxRecDepth 100000 in
theorem so_ar5 (hr : X.rmw.length ≤ 1000) : pureS F 210 [.ptr (grC X)] = some (.ptr (relC (nOf X) (pscR X))) := by
  refine pure_of S.po.order_Ar_5 ?_
  simp (disch := omega) only [A_order_Ar_5, wp, Nat.reduceAdd, Nat.reduceMul, Nat.reduceSub, gl, so_psc S hX hr]
set_option maxRecDepth 100000 in
theorem so_ar (hd : X.data.length ≤ 1000) (hc : X.ctrl.length ≤ 1000) (hr : X.rmw.length ≤ 1000) : pureS F 156 [.agg (grC X)] = some (.ptr (relC (nOf X) (arR X))) := by
  refine pure_of S.po.order_Ar ?_
  have d := so_all S (X := X) (fs := [.fn 204 [] [.ptr (grC X)], .fn 205 [] [.ptr (grC X)], .fn 206 [] [.ptr (grC X)], .fn 208 [] [.ptr (grC X)], .fn 210 [] [.ptr (grC X)]]) (Rs := [partR outer X (nOf X) (rfR X), bobR X, oppoR X, odetR X, pscR X]) ⟨closR_1 (so_ar1 S hX), closR_1 (so_ar2 S hX), closR_1 (so_ar3 S hX hd hc), closR_1 (so_ar4 S hX), closR_1 (so_ar5 S hX hr), trivial⟩ (by simp) .non
  simp only [List.length_cons, List.length_nil, Nat.reduceAdd] at d
  have r5 : ∀ x : AV, List.replicate 5 x = [x, x, x, x, x] := fun _ => rfl
  simp (disch := omega) only [A_order_Ar, wp, Nat.reduceAdd, Nat.reduceMul, Nat.reduceSub, gl, r5, o_boxI, vBoxI_S, bxiD_ok, frzL_gr, vMapL_some, fzf_1, vsf_1, d]
  rfl
end
end Go.Ab
end
section
namespace Go.Ab
def A_xref10_Rs : AFun := { res := [.t 2], body := (.seq (.reg false [{ dst := some 1, op := .box (.t 0) },
  { dst := some 2, op := .mv (.c (.nilp)) }])
 (.seq (.reg true [{ dst := some 6, op := .ld (some 8) (.t 1), pre := [] },
  { dst := some 7, op := .call .pure (.c (.fn 230 [] [])) [.t 6], pre := [] },
  { dst := some 8, op := .ld (some 8) (.t 1), pre := [] },
  { dst := some 9, op := .call .pure (.c (.fn 73 [] [])) [.t 8], pre := [] },
  { dst := some 3, op := .mv (.t 7) },
  { dst := some 4, op := .mv (.t 9) }])
 (.seq (.reg true [{ dst := some 10, op := .mv (.t 4) },
  { dst := some 11, op := .call .pure (.c (.fn 35 [] [])) [.t 10], pre := [] },
  { dst := some 12, op := .ld (some 8) (.t 1), pre := [] },
  { dst := some 13, op := .call .pure (.c (.fn 69 [] [])) [.t 12], pre := [] },
  { dst := some 14, op := .call .pure (.c (.fn 32 [] [])) [.t 11, .t 13], pre := [] },
  { dst := some 15, op := .ld (some 8) (.t 1), pre := [] },
  { dst := some 16, op := .fa 4 (.t 1) },
  { dst := some 17, op := .ld none (.t 16), pre := [] },
  { dst := some 18, op := .call .pure (.c (.fn 223 [] [])) [.t 15, .t 17], pre := [] },
  { dst := some 19, op := .call .pure (.c (.fn 32 [] [])) [.t 14, .t 18], pre := [] },
  { dst := some 5, op := .mv (.t 19) }])
 (.seq (.reg false [{ dst := some 20, op := .mv (.t 3) },
  { dst := some 21, op := .mv (.t 4) },
  { dst := some 22, op := .call .pure (.c (.fn 32 [] [])) [.t 20, .t 21] },
  { dst := some 23, op := .mv (.t 3) },
  { dst := some 24, op := .call .pure (.c (.fn 32 [] [])) [.t 22, .t 23] },
  { dst := some 25, op := .mv (.t 3) },
  { dst := some 26, op := .mv (.t 5) },
  { dst := some 27, op := .call .pure (.c (.fn 231 [] [])) [.t 26] },
  { dst := some 28, op := .call .pure (.c (.fn 32 [] [])) [.t 25, .t 27] },
  { dst := some 29, op := .call .pure (.c (.fn 29 [] [])) [.t 24, .t 28] },
  { dst := some 2, op := .mv (.t 29) }])
 .ret)))) }
def A_xref10_Release : AFun := { res := [.t 2], body := (.seq (.reg false [{ dst := some 1, op := .box (.t 0) },
  { dst := some 2, op := .mv (.c (.nilp)) }])
 (.seq (.reg true [{ dst := some 3, op := .ld (some 8) (.t 1), pre := [] },
  { dst := some 4, op := .call .pure (.c (.fn 232 [] [])) [.t 3], pre := [] },
  { dst := some 5, op := .ld (some 8) (.t 1), pre := [] },
  { dst := some 6, op := .call .pure (.c (.fn 233 [] [])) [.t 5], pre := [] },
  { dst := some 7, op := .ld (some 8) (.t 1), pre := [] },
  { dst := some 8, op := .call .pure (.c (.fn 84 [] [])) [.t 7], pre := [] },
  { dst := some 9, op := .call .pure (.c (.fn 32 [] [])) [.t 6, .t 8], pre := [] },
  { dst := some 10, op := .call .pure (.c (.fn 29 [] [])) [.t 4, .t 9], pre := [] },
  { dst := some 11, op := .ld (some 8) (.t 1), pre := [] },
  { dst := some 12, op := .call .pure (.c (.fn 182 [] [])) [.t 11], pre := [] },
  { dst := some 13, op := .call .pure (.c (.fn 32 [] [])) [.t 10, .t 12], pre := [] },
  { dst := some 2, op := .mv (.t 13) }])
 .ret)) }
def A_xref10_Sw : AFun := { res := [.t 2], body := (.seq (.reg false [{ dst := some 1, op := .box (.t 0) },
  { dst := some 2, op := .mv (.c (.nilp)) }])
 (.seq (.reg false [{ dst := some 5, op := .ld (some 8) (.t 1) },
  { dst := some 6, op := .call .pure (.c (.fn 69 [] [])) [.t 5] },
  { dst := some 3, op := .mv (.t 6) }])
 (.seq (.reg true [{ dst := some 7, op := .ld (some 8) (.t 1), pre := [] },
  { dst := some 8, op := .mv (.t 3) },
  { dst := some 9, op := .call .pure (.c (.fn 74 [] [])) [.t 7, .t 8], pre := [] },
  { dst := some 10, op := .ld (some 8) (.t 1), pre := [] },
  { dst := some 11, op := .call .pure (.c (.fn 73 [] [])) [.t 10], pre := [] },
  { dst := some 12, op := .call .pure (.c (.fn 35 [] [])) [.t 11], pre := [] },
  { dst := some 13, op := .ld (some 8) (.t 1), pre := [] },
  { dst := some 14, op := .mv (.t 3) },
  { dst := some 15, op := .call .pure (.c (.fn 75 [] [])) [.t 13, .t 14], pre := [] },
  { dst := some 16, op := .call .pure (.c (.fn 32 [] [])) [.t 12, .t 15], pre := [] },
  { dst := some 17, op := .call .pure (.c (.fn 29 [] [])) [.t 9, .t 16], pre := [] },
  { dst := some 4, op := .mv (.t 17) }])
 (.seq (.reg true [{ dst := some 18, op := .ld (some 8) (.t 1), pre := [] },
  { dst := some 19, op := .call .pure (.c (.fn 183 [] [])) [.t 18], pre := [] },
  { dst := some 20, op := .mv (.t 4) },
  { dst := some 21, op := .call .pure (.c (.fn 32 [] [])) [.t 19, .t 20], pre := [] },
  { dst := some 22, op := .ld (some 8) (.t 1), pre := [] },
  { dst := some 23, op := .call .pure (.c (.fn 234 [] [])) [.t 22], pre := [] },
  { dst := some 24, op := .ld (some 8) (.t 1), pre := [] },
  { dst := some 25, op := .call .pure (.c (.fn 84 [] [])) [.t 24], pre := [] },
  { dst := some 26, op := .ld (some 8) (.t 1), pre := [] },
  { dst := some 27, op := .call .pure (.c (.fn 235 [] [])) [.t 26], pre := [] },
  { dst := some 28, op := .call .pure (.c (.fn 32 [] [])) [.t 25, .t 27], pre := [] },
  { dst := some 29, op := .call .pure (.c (.fn 29 [] [])) [.t 23, .t 28], pre := [] },
  { dst := some 30, op := .call .pure (.c (.fn 32 [] [])) [.t 21, .t 29], pre := [] },
  { dst := some 2, op := .mv (.t 30) }])
 .ret)))) }
def A_xref10_Hb : AFun := { res := [.t 2], body := (.seq (.reg false [{ dst := some 1, op := .box (.t 0) },
  { dst := some 2, op := .mv (.c (.nilp)) }])
 (.seq (.reg true [{ dst := some 3, op := .ld (some 8) (.t 1), pre := [] },
  { dst := some 4, op := .call .pure (.c (.fn 84 [] [])) [.t 3], pre := [] },
  { dst := some 5, op := .ld (some 8) (.t 1), pre := [] },
  { dst := some 6, op := .call .pure (.c (.fn 184 [] [])) [.t 5], pre := [] },
  { dst := some 7, op := .call .pure (.c (.fn 29 [] [])) [.t 4, .t 6], pre := [] },
  { dst := some 8, op := .call .pure (.c (.fn 34 [] [])) [.t 7], pre := [] },
  { dst := some 2, op := .mv (.t 8) }])
 .ret)) }
def A_xref10_W : AFun := { res := [.t 2], body := (.seq (.reg false [{ dst := some 1, op := .box (.t 0) },
  { dst := some 2, op := .mv (.c (.nilp)) }])
 (.seq (.reg false [{ dst := some 3, op := .ld (some 8) (.t 1) },
  { dst := some 4, op := .call .pure (.c (.fn 225 [] [])) [.t 3, .c (.i .i64 2), .c (.i .i64 0), .c (.i .i64 2)] },
  { dst := some 2, op := .mv (.t 4) }])
 .ret)) }
def A_xref10_Wrel : AFun := { res := [.t 2], body := (.seq (.reg false [{ dst := some 1, op := .box (.t 0) },
  { dst := some 2, op := .mv (.c (.nilp)) }])
 (.seq (.reg false [{ dst := some 3, op := .ld (some 8) (.t 1) },
  { dst := some 4, op := .call .pure (.c (.fn 225 [] [])) [.t 3, .c (.i .i64 2), .c (.i .i64 2), .c (.i .i64 2)] },
  { dst := some 2, op := .mv (.t 4) }])
 .ret)) }
def A_xref10_Frel : AFun := { res := [.t 2], body := (.seq (.reg false [{ dst := some 1, op := .box (.t 0) },
  { dst := some 2, op := .mv (.c (.nilp)) }])
 (.seq (.reg false [{ dst := some 3, op := .ld (some 8) (.t 1) },
  { dst := some 4, op := .call .pure (.c (.fn 225 [] [])) [.t 3, .c (.i .i64 3), .c (.i .i64 2), .c (.i .i64 4)] },
  { dst := some 2, op := .mv (.t 4) }])
 .ret)) }
def A_xref10_Racq : AFun := { res := [.t 2], body := (.seq (.reg false [{ dst := some 1, op := .box (.t 0) },
  { dst := some 2, op := .mv (.c (.nilp)) }])
 (.seq (.reg false [{ dst := some 3, op := .ld (some 8) (.t 1) },
  { dst := some 4, op := .call .pure (.c (.fn 225 [] [])) [.t 3, .c (.i .i64 1), .c (.i .i64 1), .c (.i .i64 1)] },
  { dst := some 2, op := .mv (.t 4) }])
 .ret)) }
def A_xref10_Facq : AFun := { res := [.t 2], body := (.seq (.reg false [{ dst := some 1, op := .box (.t 0) },
  { dst := some 2, op := .mv (.c (.nilp)) }])
 (.seq (.reg true [{ dst := some 3, op := .ld (some 8) (.t 1), pre := [] },
  { dst := some 4, op := .call .pure (.c (.fn 225 [] [])) [.t 3, .c (.i .i64 3), .c (.i .i64 1), .c (.i .i64 1)], pre := [] },
  { dst := some 5, op := .ld (some 8) (.t 1), pre := [] },
  { dst := some 6, op := .call .pure (.c (.fn 225 [] [])) [.t 5, .c (.i .i64 3), .c (.i .i64 3), .c (.i .i64 4)], pre := [] },
  { dst := some 7, op := .call .pure (.c (.fn 29 [] [])) [.t 4, .t 6], pre := [] },
  { dst := some 2, op := .mv (.t 7) }])
 .ret)) }
structure Pk_xref10 (F : Funs) : Prop where
  xref10_Rs : F 182 = some A_xref10_Rs
  xref10_Release : F 183 = some A_xref10_Release
  xref10_Sw : F 184 = some A_xref10_Sw
  xref10_Hb : F 185 = some A_xref10_Hb
  xref10_W : F 230 = some A_xref10_W
  xref10_Wrel : F 232 = some A_xref10_Wrel
  xref10_Frel : F 233 = some A_xref10_Frel
  xref10_Racq : F 234 = some A_xref10_Racq
  xref10_Facq : F 235 = some A_xref10_Facq
end Go.Ab
end
section
set_option linter.unusedVariables false
set_option linter.unusedSimpArgs false
namespace Go.Ab
variable {F : Funs}
def kindQ (k f t : Int) (e : Ev) : Bool := e.kd == k && (decide (f ≤ e.md) && decide (e.md ≤ t))
set_option maxRecDepth 100000 in
set_option maxHeartbeats 4000000 in
theorem sp_kind (h225 : F 225 = some A_xref06_Kind) (h27 : F 27 = some A_xref01_New) {X : Gr} (hn : X.evs.length ≤ 40) (k f t : Int) : pureS F 225 [.agg (grC X), .i .i64 k, .i .i64 f, .i .i64 t] = some (.ptr (matC X.evs.length (kindK X (kindQ k f t) X.evs.length))) := by
  refine pure_of_thaw h225 (matC_flat _ _) ?_
  have s6 : ∀ b1 b2 b3 b4 b5 b6 c1 c2 c3 c4 c5 c6 : AV, splice [b1, b2, b3, b4, b5, b6] 0 [c1, c2, c3, c4, c5, c6] = [c1, c2, c3, c4, c5, c6] := fun _ _ _ _ _ _ _ _ _ _ _ _ => rfl
  simp (disch := omega) only [A_xref06_Kind, wp, Nat.reduceAdd, Nat.reduceMul, Nat.reduceSub, gl, ml, thaw27 h27]
  refine W_loop (fun q e g => ∃ a : Nat, q = X.evs.length - a ∧ a ≤ X.evs.length ∧ e 1 = .i .i64 k ∧ e 2 = .i .i64 f ∧ e 3 = .i .i64 t ∧ e 4 = .mp 0 0 ∧ e 9 = .mp 5 0 ∧ e 10 = .i .i64 a ∧ g.hp 0 = some (.cells (grC X) false) ∧ g.hp 5 = some (.cells (matC X.evs.length (kindK X (kindQ k f t) a)) false) ∧ 5 < g.nx) X.evs.length ?_ ?_
  · refine ⟨0, rfl, Nat.zero_le _, ?_⟩
    simp (disch := omega) only [wp, Nat.reduceAdd, Nat.reduceMul, Nat.reduceSub]
    exact ⟨rfl, by rw [kindK_0], by first | omega | (dsimp only; omega)⟩
  · rintro q e g ⟨a, rfl, ha, e1, e2, e3, e4, e9, e10, hg, hm, hnx⟩
    by_cases ha' : a < X.evs.length
    · have ha1 : (a : Int) < X.evs.length := by omega
      have hwa := succ_wrap (k := a) (by omega)
      have hp := ev_part ha'
      have hs := kindK_succ X (kindQ k f t) a
      have hset := fun x => matC_set (n := X.evs.length) (M := kindK X (kindQ k f t) a) (a := a) (b := a) (x := x) (by omega)
      generalize X.evs.getD a ev0 = ev at hp hs
      obtain ⟨th, kd, md, lc, vl, ex⟩ := ev
      have hq : kindQ k f t ⟨th, kd, md, lc, vl, ex⟩ = (kd == k && (decide (f ≤ md) && decide (md ≤ t))) := rfl
      have fin : ∀ x, x = kindQ k f t ⟨th, kd, md, lc, vl, ex⟩ → X.evs.length - (a + 1) < X.evs.length - a ∧ upd2 (kindK X (kindQ k f t) a) a a x = kindK X (kindQ k f t) (a + 1) := fun x hx => ⟨by omega, by rw [hx, hs]⟩
      cases c1 : (kd == k)
      case false =>
        simp (disch := omega) only [wp, Nat.reduceAdd, Nat.reduceMul, Nat.reduceSub, gl, ml, e1, e2, e3, e4, e9, e10, hg, hm, ha1, hp, s6, c1, hset, hwa]
        obtain ⟨f1, f2⟩ := fin false (by rw [hq, c1]; rfl)
        exact ⟨_, f1, a + 1, rfl, by omega, rfl, by rw [f2], by first | omega | (dsimp only; omega)⟩
      by_cases c2 : f ≤ md
      case neg =>
        simp (disch := omega) only [wp, Nat.reduceAdd, Nat.reduceMul, Nat.reduceSub, gl, ml, e1, e2, e3, e4, e9, e10, hg, hm, ha1, hp, s6, c1, c2, hset, hwa]
        obtain ⟨f1, f2⟩ := fin false (by rw [hq, c1, decide_eq_false c2]; rfl)
        exact ⟨_, f1, a + 1, rfl, by omega, rfl, by rw [f2], by first | omega | (dsimp only; omega)⟩
      simp (disch := omega) only [wp, Nat.reduceAdd, Nat.reduceMul, Nat.reduceSub, gl, ml, e1, e2, e3, e4, e9, e10, hg, hm, ha1, hp, s6, c1, c2, hset, hwa]
      obtain ⟨f1, f2⟩ := fin (decide (md ≤ t)) (by rw [hq, c1, decide_eq_true c2]; simp)
      exact ⟨_, f1, a + 1, rfl, by omega, rfl, by rw [f2], by first | omega | (dsimp only; omega)⟩
    · obtain rfl : a = X.evs.length := by omega
      have ha1 : ¬ ((X.evs.length : Int) < X.evs.length) := by omega
      simp (disch := omega) only [wp, Nat.reduceAdd, Nat.reduceMul, Nat.reduceSub, gl, ml, e1, e2, e3, e4, e9, e10, hg, hm, ha1]
      exact ⟨_, rfl, hm⟩
structure RefF (F : Funs) : Prop where
  px : Pk_xref01 F
  star : F 231 = some A_xref01_R_Star
  p9 : Pk_xref09 F
  p6 : Pk_xref06 F
  kind : F 225 = some A_xref06_Kind
  of : F 223 = some A_xref06_Of
section
variable (S : RefF F) {X : Gr} (h : GraphOk X)
include S h
theorem RefF.k (k f t : Int) : pureS F 225 [.agg (grC X), .i .i64 k, .i .i64 f, .i .i64 t] = some (.ptr (matC X.evs.length (kindK X (kindQ k f t) X.evs.length))) := sp_kind S.kind S.px.xref01_New h.n40 k f t
set_option maxRecDepth 100000 in
theorem RefF.st (A : Mx) : pureS F 231 [.ptr (matC X.evs.length A)] = some (.ptr (matC X.evs.length (mbM (plM X.evs.length A X.evs.length) X.evs.length))) := by
  refine pure_of S.star ?_
  simp (disch := omega) only [A_xref01_R_Star, wp, Nat.reduceAdd, Nat.reduceMul, Nat.reduceSub, gl, sp_mplus S.px.xref01_R_Plus S.px.xref01_New h.n40, sp_mmaybe S.px.xref01_R_Maybe S.px.xref01_New h.n40]
theorem RefF.rf : pureS F 69 [.agg (grC X)] = some (.ptr (matC X.evs.length (anyM (rfL X X.rf.length)))) := by
  have n40 := h.n40
  have hrl := h.rfl
  exact sp_mRf S.p9.xref09_Rf S.px.xref01_New (X := X) n40 (by omega) (fun i hi => by have := (h.rfr i (by omega)).2; omega)
theorem RefF.po : pureS F 84 [.agg (grC X)] = some (.ptr (matC X.evs.length (mpoM X))) := sp_mPo S.p6.xref06_Po S.px.xref01_New h.n40
theorem RefF.loc : pureS F 73 [.agg (grC X)] = some (.ptr (matC X.evs.length (locM X))) := sp_mLoc S.p9.xref09_Loc S.p6.xref06_Po S.px.xref01_New h.n40
theorem RefF.inner (A : Mx) : pureS F 74 [.agg (grC X), .ptr (matC X.evs.length A)] = some (.ptr (matC X.evs.length (prtM X true A))) := sp_mInner S.p9.xref09_Inner S.p9.xref09_part S.px.xref01_New h.n40 A
theorem RefF.outer (A : Mx) : pureS F 75 [.agg (grC X), .ptr (matC X.evs.length A)] = some (.ptr (matC X.evs.length (prtM X false A))) := sp_mOuter S.p9.xref09_Outer S.p9.xref09_part S.px.xref01_New h.n40 A
theorem RefF.then (A B : Mx) : pureS F 32 [.ptr (matC X.evs.length A), .ptr (matC X.evs.length B)] = some (.ptr (matC X.evs.length (thM A B X.evs.length X.evs.length))) := by
  have := sp_mthen S.px.xref01_R_Then S.px.xref01_New h.n40 h.n40 A B
  rwa [Nat.max_self] at this
theorem RefF.or (A B : Mx) : pureS F 29 [.ptr (matC X.evs.length A), .ptr (matC X.evs.length B)] = some (.ptr (matC X.evs.length (opM (fun x y => x || y) A B X.evs.length))) := by
  have := sp_mor S.px.xref01_R_Or S.px.xref01_New h.n40 h.n40 A B
  rwa [Nat.max_self] at this
theorem RefF.and (A B : Mx) : pureS F 30 [.ptr (matC X.evs.length A), .ptr (matC X.evs.length B)] = some (.ptr (matC X.evs.length (opM (fun x y => x && y) A B X.evs.length))) := by
  have := sp_mand S.px.xref01_R_And S.px.xref01_New h.n40 h.n40 A B
  rwa [Nat.max_self] at this
end
section
variable {X : Gr} (h : GraphOk X)
include h
end
set_option maxRecDepth 100000 in
section
variable (S : RefF F) (p10 : Pk_xref10 F) {X : Gr} (h : GraphOk X)
include S p10 h
end
end Go.Ab
end
section
namespace Go.Ab
def A_xref19_Parts : AFun := { res := [.cell 2 (some 4)], body := (.seq (.reg false [{ dst := some 1, op := .box (.t 0) },
  { dst := some 2, op := .new (List.replicate 4 (.nilp)) }])
 (.seq (.reg false [{ dst := some 12, op := .ld (some 8) (.t 1) },
  { dst := some 13, op := .call .pure (.c (.fn 222 [] [])) [.t 12] },
  { dst := some 3, op := .mv (.t 13) }])
 (.seq (.reg false [{ dst := some 14, op := .ld (some 8) (.t 1) },
  { dst := some 15, op := .fa 5 (.t 1) },
  { dst := some 16, op := .ld none (.t 15) },
  { dst := some 17, op := .call .pure (.c (.fn 223 [] [])) [.t 14, .t 16] },
  { dst := some 4, op := .mv (.t 17) }])
 (.seq (.reg true [{ dst := some 18, op := .ld (some 8) (.t 1), pre := [] },
  { dst := some 19, op := .fa 6 (.t 1) },
  { dst := some 20, op := .ld none (.t 19), pre := [] },
  { dst := some 21, op := .call .pure (.c (.fn 223 [] [])) [.t 18, .t 20], pre := [] },
  { dst := some 22, op := .mv (.t 3) },
  { dst := some 23, op := .call .pure (.c (.fn 32 [] [])) [.t 21, .t 22], pre := [] },
  { dst := some 24, op := .ld (some 8) (.t 1), pre := [] },
  { dst := some 25, op := .fa 7 (.t 1) },
  { dst := some 26, op := .ld none (.t 25), pre := [] },
  { dst := some 27, op := .call .pure (.c (.fn 223 [] [])) [.t 24, .t 26], pre := [] },
  { dst := some 28, op := .mv (.t 3) },
  { dst := some 29, op := .call .pure (.c (.fn 32 [] [])) [.t 27, .t 28], pre := [] },
  { dst := some 5, op := .mv (.t 23) },
  { dst := some 6, op := .mv (.t 29) }])
 (.seq (.reg true [{ dst := some 30, op := .ld (some 8) (.t 1), pre := [] },
  { dst := some 31, op := .ld (some 8) (.t 1), pre := [] },
  { dst := some 32, op := .call .pure (.c (.fn 69 [] [])) [.t 31], pre := [] },
  { dst := some 33, op := .call .pure (.c (.fn 74 [] [])) [.t 30, .t 32], pre := [] },
  { dst := some 7, op := .mv (.t 33) }])
 (.seq (.reg false [{ dst := some 34, op := .fa 1 (.t 1) },
  { dst := some 35, op := .ld none (.t 34) },
  { dst := some 36, op := .len (.t 35) },
  { dst := some 37, op := .call .pure (.c (.fn 27 [] [])) [.t 36, .c (.sl [] 0 .rig)] },
  { dst := some 8, op := .mv (.t 37) }])
 (.seq (.reg true [{ dst := some 38, op := .mv (.t 4) },
  { dst := some 39, op := .ld (some 8) (.t 1), pre := [] },
  { dst := some 40, op := .call .pure (.c (.fn 174 [] [])) [.t 39], pre := [] },
  { dst := some 41, op := .call .pure (.c (.fn 29 [] [])) [.t 38, .t 40], pre := [] },
  { dst := some 42, op := .mv (.t 7) },
  { dst := some 43, op := .call .pure (.c (.fn 29 [] [])) [.t 41, .t 42], pre := [] },
  { dst := some 44, op := .mv (.t 8) },
  { dst := some 45, op := .mv (.t 6) },
  { dst := some 46, op := .ld (some 8) (.t 1), pre := [] },
  { dst := some 47, op := .call .pure (.c (.fn 175 [] [])) [.t 46], pre := [] },
  { dst := some 48, op := .call .pure (.c (.fn 29 [] [])) [.t 45, .t 47], pre := [] },
  { dst := some 49, op := .mv (.t 4) },
  { dst := some 50, op := .ld (some 8) (.t 1), pre := [] },
  { dst := some 51, op := .call .pure (.c (.fn 224 [] [])) [.t 50], pre := [] },
  { dst := some 52, op := .call .pure (.c (.fn 29 [] [])) [.t 49, .t 51], pre := [] },
  { dst := some 53, op := .mv (.t 5) },
  { dst := some 54, op := .call .pure (.c (.fn 29 [] [])) [.t 52, .t 53], pre := [] },
  { dst := some 55, op := .build (List.replicate 4 (.nilp)) [(0, 1, .t 43), (1, 1, .t 44), (2, 1, .t 48), (3, 1, .t 54)] },
  { dst := some 9, op := .new (List.replicate 4 (.nilp)) },
  { dst := none, op := .stL 4 (.t 9) (.t 55), pre := [18] }])
 (.seq (.reg false [{ dst := some 56, op := .ld (some 4) (.t 9) },
  { dst := some 10, op := .new (List.replicate 4 (.nilp)) },
  { dst := none, op := .st 4 (.t 10) (.t 56) }])
 (.blk 0 (.loop (.blk 1 (.seq (.reg true [{ dst := some 57, op := .fa 0 (.t 9) },
  { dst := some 58, op := .ld none (.t 57), pre := [] },
  { dst := some 59, op := .fa 2 (.t 10) },
  { dst := some 60, op := .ld none (.t 59), pre := [] },
  { dst := some 61, op := .call .pure (.c (.fn 29 [] [])) [.t 58, .t 60], pre := [] },
  { dst := some 62, op := .fa 1 (.t 10) },
  { dst := some 63, op := .ld none (.t 62), pre := [] },
  { dst := some 64, op := .fa 2 (.t 10) },
  { dst := some 65, op := .ld none (.t 64), pre := [] },
  { dst := some 66, op := .call .pure (.c (.fn 32 [] [])) [.t 63, .t 65], pre := [] },
  { dst := some 67, op := .call .pure (.c (.fn 29 [] [])) [.t 61, .t 66], pre := [] },
  { dst := some 68, op := .fa 0 (.t 10) },
  { dst := some 69, op := .ld none (.t 68), pre := [] },
  { dst := some 70, op := .fa 0 (.t 10) },
  { dst := some 71, op := .ld none (.t 70), pre := [] },
  { dst := some 72, op := .call .pure (.c (.fn 32 [] [])) [.t 69, .t 71], pre := [] },
  { dst := some 73, op := .call .pure (.c (.fn 29 [] [])) [.t 67, .t 72], pre := [] },
  { dst := some 74, op := .fa 0 (.t 10) },
  { dst := some 75, op := .ld none (.t 74), pre := [] },
  { dst := some 76, op := .fa 3 (.t 10) },
  { dst := some 77, op := .ld none (.t 76), pre := [] },
  { dst := some 78, op := .call .pure (.c (.fn 29 [] [])) [.t 75, .t 77], pre := [] },
  { dst := some 79, op := .fa 1 (.t 10) },
  { dst := some 80, op := .ld none (.t 79), pre := [] },
  { dst := some 81, op := .fa 3 (.t 10) },
  { dst := some 82, op := .ld none (.t 81), pre := [] },
  { dst := some 83, op := .call .pure (.c (.fn 32 [] [])) [.t 80, .t 82], pre := [] },
  { dst := some 84, op := .call .pure (.c (.fn 29 [] [])) [.t 78, .t 83], pre := [] },
  { dst := some 85, op := .fa 0 (.t 10) },
  { dst := some 86, op := .ld none (.t 85), pre := [] },
  { dst := some 87, op := .fa 1 (.t 10) },
  { dst := some 88, op := .ld none (.t 87), pre := [] },
  { dst := some 89, op := .call .pure (.c (.fn 32 [] [])) [.t 86, .t 88], pre := [] },
  { dst := some 90, op := .call .pure (.c (.fn 29 [] [])) [.t 84, .t 89], pre := [] },
  { dst := some 91, op := .fa 2 (.t 9) },
  { dst := some 92, op := .ld none (.t 91), pre := [] },
  { dst := some 93, op := .fa 2 (.t 10) },
  { dst := some 94, op := .ld none (.t 93), pre := [] },
  { dst := some 95, op := .fa 0 (.t 10) },
  { dst := some 96, op := .ld none (.t 95), pre := [] },
  { dst := some 97, op := .call .pure (.c (.fn 32 [] [])) [.t 94, .t 96], pre := [] },
  { dst := some 98, op := .call .pure (.c (.fn 29 [] [])) [.t 92, .t 97], pre := [] },
  { dst := some 99, op := .fa 3 (.t 10) },
  { dst := some 100, op := .ld none (.t 99), pre := [] },
  { dst := some 101, op := .fa 2 (.t 10) },
  { dst := some 102, op := .ld none (.t 101), pre := [] },
  { dst := some 103, op := .call .pure (.c (.fn 32 [] [])) [.t 100, .t 102], pre := [] },
  { dst := some 104, op := .call .pure (.c (.fn 29 [] [])) [.t 98, .t 103], pre := [] },
  { dst := some 105, op := .fa 3 (.t 9) },
  { dst := some 106, op := .ld none (.t 105), pre := [] },
  { dst := some 107, op := .fa 2 (.t 10) },
  { dst := some 108, op := .ld none (.t 107), pre := [] },
  { dst := some 109, op := .call .pure (.c (.fn 29 [] [])) [.t 106, .t 108], pre := [] },
  { dst := some 110, op := .fa 2 (.t 10) },
  { dst := some 111, op := .ld none (.t 110), pre := [] },
  { dst := some 112, op := .fa 1 (.t 10) },
  { dst := some 113, op := .ld none (.t 112), pre := [] },
  { dst := some 114, op := .call .pure (.c (.fn 32 [] [])) [.t 111, .t 113], pre := [] },
  { dst := some 115, op := .call .pure (.c (.fn 29 [] [])) [.t 109, .t 114], pre := [] },
  { dst := some 116, op := .fa 3 (.t 10) },
  { dst := some 117, op := .ld none (.t 116), pre := [] },
  { dst := some 118, op := .fa 3 (.t 10) },
  { dst := some 119, op := .ld none (.t 118), pre := [] },
  { dst := some 120, op := .call .pure (.c (.fn 32 [] [])) [.t 117, .t 119], pre := [] },
  { dst := some 121, op := .call .pure (.c (.fn 29 [] [])) [.t 115, .t 120], pre := [] },
  { dst := some 122, op := .build (List.replicate 4 (.nilp)) [(0, 1, .t 73), (1, 1, .t 90), (2, 1, .t 104), (3, 1, .t 121)] },
  { dst := some 11, op := .new (List.replicate 4 (.nilp)) },
  { dst := none, op := .stL 4 (.t 11) (.t 122), pre := [66] }])
 (.seq (.reg true [{ dst := some 123, op := .fa 0 (.t 11) },
  { dst := some 124, op := .ld none (.t 123), pre := [] },
  { dst := some 125, op := .fa 0 (.t 10) },
  { dst := some 126, op := .ld none (.t 125), pre := [] },
  { dst := some 127, op := .call .pure (.c (.fn 29 [] [])) [.t 124, .t 126], pre := [] },
  { dst := some 128, op := .fa 1 (.t 11) },
  { dst := some 129, op := .ld none (.t 128), pre := [] },
  { dst := some 130, op := .fa 1 (.t 10) },
  { dst := some 131, op := .ld none (.t 130), pre := [] },
  { dst := some 132, op := .call .pure (.c (.fn 29 [] [])) [.t 129, .t 131], pre := [] },
  { dst := some 133, op := .fa 2 (.t 11) },
  { dst := some 134, op := .ld none (.t 133), pre := [] },
  { dst := some 135, op := .fa 2 (.t 10) },
  { dst := some 136, op := .ld none (.t 135), pre := [] },
  { dst := some 137, op := .call .pure (.c (.fn 29 [] [])) [.t 134, .t 136], pre := [] },
  { dst := some 138, op := .fa 3 (.t 11) },
  { dst := some 139, op := .ld none (.t 138), pre := [] },
  { dst := some 140, op := .fa 3 (.t 10) },
  { dst := some 141, op := .ld none (.t 140), pre := [] },
  { dst := some 142, op := .call .pure (.c (.fn 29 [] [])) [.t 139, .t 141], pre := [] },
  { dst := some 143, op := .build (List.replicate 4 (.nilp)) [(0, 1, .t 127), (1, 1, .t 132), (2, 1, .t 137), (3, 1, .t 142)] },
  { dst := none, op := .st 4 (.t 11) (.t 143), pre := [] }])
 (.seq (.seq (.reg false [{ dst := some 144, op := .fa 0 (.t 11) },
  { dst := some 145, op := .ld none (.t 144) },
  { dst := some 146, op := .fa 0 (.t 10) },
  { dst := some 147, op := .ld none (.t 146) },
  { dst := some 148, op := .call .pure (.c (.fn 36 [] [])) [.t 145, .t 147] },
  { dst := some 149, op := .mv (.t 148) },
  { dst := some 150, op := .fa 1 (.t 11), grd := some (149, true) },
  { dst := some 151, op := .ld none (.t 150), grd := some (149, true) },
  { dst := some 152, op := .fa 1 (.t 10), grd := some (149, true) },
  { dst := some 153, op := .ld none (.t 152), grd := some (149, true) },
  { dst := some 154, op := .call .pure (.c (.fn 36 [] [])) [.t 151, .t 153], grd := some (149, true) },
  { dst := some 155, op := .pick (.t 149) (.t 154) (.c (.b false)) },
  { dst := some 156, op := .mv (.t 155) },
  { dst := some 157, op := .fa 2 (.t 11), grd := some (156, true) },
  { dst := some 158, op := .ld none (.t 157), grd := some (156, true) },
  { dst := some 159, op := .fa 2 (.t 10), grd := some (156, true) },
  { dst := some 160, op := .ld none (.t 159), grd := some (156, true) },
  { dst := some 161, op := .call .pure (.c (.fn 36 [] [])) [.t 158, .t 160], grd := some (156, true) },
  { dst := some 162, op := .pick (.t 156) (.t 161) (.c (.b false)) },
  { dst := some 163, op := .mv (.t 162) },
  { dst := some 164, op := .fa 3 (.t 11), grd := some (163, true) },
  { dst := some 165, op := .ld none (.t 164), grd := some (163, true) },
  { dst := some 166, op := .fa 3 (.t 10), grd := some (163, true) },
  { dst := some 167, op := .ld none (.t 166), grd := some (163, true) },
  { dst := some 168, op := .call .pure (.c (.fn 36 [] [])) [.t 165, .t 167], grd := some (163, true) },
  { dst := some 169, op := .pick (.t 163) (.t 168) (.c (.b false)) }])
 (.cond (.t 169) (.seq (.reg false [{ dst := some 170, op := .ld (some 4) (.t 11) },
  { dst := none, op := .st 4 (.t 2) (.t 170) }])
 .ret)
 .skip))
 (.reg false [{ dst := some 171, op := .ld (some 4) (.t 11) },
  { dst := none, op := .st 4 (.t 10) (.t 171) }]))))))))))))))) }
def A_xref19_Ppo : AFun := { res := [.t 2], body := (.seq (.reg false [{ dst := some 1, op := .box (.t 0) },
  { dst := some 2, op := .mv (.c (.nilp)) }])
 (.seq (.reg false [{ dst := some 6, op := .ld (some 8) (.t 1) },
  { dst := some 7, op := .call .pure (.c (.fn 171 [] [])) [.t 6] },
  { dst := some 3, op := .new (List.replicate 4 (.nilp)) },
  { dst := none, op := .st 4 (.t 3) (.t 7) }])
 (.seq (.reg true [{ dst := some 8, op := .ld (some 8) (.t 1), pre := [] },
  { dst := some 9, op := .call .pure (.c (.fn 225 [] [])) [.t 8, .c (.i .i64 1), .c (.i .i64 0), .c (.i .i64 4)], pre := [] },
  { dst := some 10, op := .ld (some 8) (.t 1), pre := [] },
  { dst := some 11, op := .call .pure (.c (.fn 225 [] [])) [.t 10, .c (.i .i64 2), .c (.i .i64 0), .c (.i .i64 4)], pre := [] },
  { dst := some 4, op := .mv (.t 9) },
  { dst := some 5, op := .mv (.t 11) }])
 (.seq (.reg true [{ dst := some 12, op := .mv (.t 4) },
  { dst := some 13, op := .fa 0 (.t 3) },
  { dst := some 14, op := .ld none (.t 13), pre := [] },
  { dst := some 15, op := .call .pure (.c (.fn 32 [] [])) [.t 12, .t 14], pre := [] },
  { dst := some 16, op := .mv (.t 4) },
  { dst := some 17, op := .call .pure (.c (.fn 32 [] [])) [.t 15, .t 16], pre := [] },
  { dst := some 18, op := .mv (.t 4) },
  { dst := some 19, op := .fa 1 (.t 3) },
  { dst := some 20, op := .ld none (.t 19), pre := [] },
  { dst := some 21, op := .call .pure (.c (.fn 32 [] [])) [.t 18, .t 20], pre := [] },
  { dst := some 22, op := .mv (.t 5) },
  { dst := some 23, op := .call .pure (.c (.fn 32 [] [])) [.t 21, .t 22], pre := [] },
  { dst := some 24, op := .call .pure (.c (.fn 29 [] [])) [.t 17, .t 23], pre := [] },
  { dst := some 2, op := .mv (.t 24) }])
 .ret)))) }
def A_xref19_Rdw : AFun := { res := [.t 2], body := (.seq (.reg false [{ dst := some 1, op := .box (.t 0) },
  { dst := some 2, op := .mv (.c (.nilp)) }])
 (.seq (.reg true [{ dst := some 3, op := .ld (some 8) (.t 1), pre := [] },
  { dst := some 4, op := .call .pure (.c (.fn 224 [] [])) [.t 3], pre := [] },
  { dst := some 5, op := .ld (some 8) (.t 1), pre := [] },
  { dst := some 6, op := .call .pure (.c (.fn 226 [] [])) [.t 5], pre := [] },
  { dst := some 7, op := .ld (some 8) (.t 1), pre := [] },
  { dst := some 8, op := .call .pure (.c (.fn 227 [] [])) [.t 7], pre := [] },
  { dst := some 9, op := .call .pure (.c (.fn 32 [] [])) [.t 6, .t 8], pre := [] },
  { dst := some 10, op := .call .pure (.c (.fn 30 [] [])) [.t 4, .t 9], pre := [] },
  { dst := some 2, op := .mv (.t 10) }])
 .ret)) }
def A_xref19_Detour : AFun := { res := [.t 2], body := (.seq (.reg false [{ dst := some 1, op := .box (.t 0) },
  { dst := some 2, op := .mv (.c (.nilp)) }])
 (.seq (.reg true [{ dst := some 3, op := .ld (some 8) (.t 1), pre := [] },
  { dst := some 4, op := .call .pure (.c (.fn 224 [] [])) [.t 3], pre := [] },
  { dst := some 5, op := .ld (some 8) (.t 1), pre := [] },
  { dst := some 6, op := .call .pure (.c (.fn 228 [] [])) [.t 5], pre := [] },
  { dst := some 7, op := .ld (some 8) (.t 1), pre := [] },
  { dst := some 8, op := .call .pure (.c (.fn 227 [] [])) [.t 7], pre := [] },
  { dst := some 9, op := .call .pure (.c (.fn 32 [] [])) [.t 6, .t 8], pre := [] },
  { dst := some 10, op := .call .pure (.c (.fn 30 [] [])) [.t 4, .t 9], pre := [] },
  { dst := some 2, op := .mv (.t 10) }])
 .ret)) }
def A_xref19_M : AFun := { res := [.t 2], body := (.seq (.reg false [{ dst := some 1, op := .box (.t 0) },
  { dst := some 2, op := .mv (.c (.nilp)) }])
 (.seq (.reg true [{ dst := some 3, op := .ld (some 8) (.t 1), pre := [] },
  { dst := some 4, op := .call .pure (.c (.fn 225 [] [])) [.t 3, .c (.i .i64 1), .c (.i .i64 0), .c (.i .i64 4)], pre := [] },
  { dst := some 5, op := .ld (some 8) (.t 1), pre := [] },
  { dst := some 6, op := .call .pure (.c (.fn 225 [] [])) [.t 5, .c (.i .i64 2), .c (.i .i64 0), .c (.i .i64 4)], pre := [] },
  { dst := some 7, op := .call .pure (.c (.fn 29 [] [])) [.t 4, .t 6], pre := [] },
  { dst := some 2, op := .mv (.t 7) }])
 .ret)) }
def A_xref19_Ploc : AFun := { res := [.t 2], body := (.seq (.reg false [{ dst := some 1, op := .box (.t 0) },
  { dst := some 2, op := .mv (.c (.nilp)) }])
 (.seq (.reg true [{ dst := some 3, op := .ld (some 8) (.t 1), pre := [] },
  { dst := some 4, op := .ld (some 8) (.t 1), pre := [] },
  { dst := some 5, op := .call .pure (.c (.fn 73 [] [])) [.t 4], pre := [] },
  { dst := some 6, op := .call .pure (.c (.fn 247 [] [])) [.t 3, .t 5], pre := [] },
  { dst := some 2, op := .mv (.t 6) }])
 .ret)) }
def A_xref19_fre : AFun := { res := [.t 2], body := (.seq (.reg false [{ dst := some 1, op := .box (.t 0) },
  { dst := some 2, op := .mv (.c (.nilp)) }])
 (.seq (.reg true [{ dst := some 3, op := .ld (some 8) (.t 1), pre := [] },
  { dst := some 4, op := .ld (some 8) (.t 1), pre := [] },
  { dst := some 5, op := .call .pure (.c (.fn 71 [] [])) [.t 4], pre := [] },
  { dst := some 6, op := .call .pure (.c (.fn 75 [] [])) [.t 3, .t 5], pre := [] },
  { dst := some 2, op := .mv (.t 6) }])
 .ret)) }
def A_xref19_rfe : AFun := { res := [.t 2], body := (.seq (.reg false [{ dst := some 1, op := .box (.t 0) },
  { dst := some 2, op := .mv (.c (.nilp)) }])
 (.seq (.reg true [{ dst := some 3, op := .ld (some 8) (.t 1), pre := [] },
  { dst := some 4, op := .ld (some 8) (.t 1), pre := [] },
  { dst := some 5, op := .call .pure (.c (.fn 69 [] [])) [.t 4], pre := [] },
  { dst := some 6, op := .call .pure (.c (.fn 75 [] [])) [.t 3, .t 5], pre := [] },
  { dst := some 2, op := .mv (.t 6) }])
 .ret)) }
def A_xref19_coe : AFun := { res := [.t 2], body := (.seq (.reg false [{ dst := some 1, op := .box (.t 0) },
  { dst := some 2, op := .mv (.c (.nilp)) }])
 (.seq (.reg true [{ dst := some 3, op := .ld (some 8) (.t 1), pre := [] },
  { dst := some 4, op := .ld (some 8) (.t 1), pre := [] },
  { dst := some 5, op := .call .pure (.c (.fn 70 [] [])) [.t 4], pre := [] },
  { dst := some 6, op := .call .pure (.c (.fn 75 [] [])) [.t 3, .t 5], pre := [] },
  { dst := some 2, op := .mv (.t 6) }])
 .ret)) }
def A_xref19_Mine : AFun := { res := [.t 4], body := (.seq (.reg false [{ dst := some 2, op := .box (.t 0) },
  { dst := some 4, op := .mv (.c (.nilp)) }])
 (.seq (.reg false [{ dst := some 8, op := .mv (.t 1) },
  { dst := some 9, op := .nilck (.t 8) },
  { dst := some 10, op := .fa 0 (.t 9) },
  { dst := some 11, op := .ld none (.t 10) },
  { dst := some 12, op := .call .thaw (.c (.fn 27 [] [])) [.t 11, .c (.sl [] 0 .rig)] },
  { dst := some 5, op := .mv (.t 12) }])
 (.seq (.seq (.reg false [{ dst := some 6, op := .mv (.c (.i .i64 0)) }])
 (.blk 0 (.loop (.seq (.seq (.reg false [{ dst := some 13, op := .mv (.t 6) },
  { dst := some 14, op := .mv (.t 1) },
  { dst := some 15, op := .nilck (.t 14) },
  { dst := some 16, op := .fa 0 (.t 15) },
  { dst := some 17, op := .ld none (.t 16) },
  { dst := some 18, op := .bin .lss (.t 13) (.t 17) }])
 (.cond (.t 18) .skip
 (.ext 0)))
 (.seq (.blk 1 (.seq (.reg false [{ dst := some 7, op := .mv (.c (.i .i64 0)) }])
 (.blk 2 (.loop (.seq (.seq (.reg false [{ dst := some 21, op := .mv (.t 7) },
  { dst := some 22, op := .mv (.t 1) },
  { dst := some 23, op := .nilck (.t 22) },
  { dst := some 24, op := .fa 0 (.t 23) },
  { dst := some 25, op := .ld none (.t 24) },
  { dst := some 26, op := .bin .lss (.t 21) (.t 25) }])
 (.cond (.t 26) .skip
 (.ext 2)))
 (.seq (.blk 3 (.reg true [{ dst := some 29, op := .mv (.t 5) },
  { dst := some 30, op := .mv (.t 6) },
  { dst := some 31, op := .mv (.t 7) },
  { dst := some 32, op := .mv (.t 1) },
  { dst := some 33, op := .mv (.t 6) },
  { dst := some 34, op := .mv (.t 7) },
  { dst := some 35, op := .nilck (.t 32) },
  { dst := some 36, op := .fa 1 (.t 35) },
  { dst := some 37, op := .iaa 40 40 (.t 36) (.t 33) },
  { dst := some 38, op := .iaa 40 1 (.t 37) (.t 34) },
  { dst := some 39, op := .ld none (.t 38), pre := [] },
  { dst := some 40, op := .mv (.t 39) },
  { dst := some 41, op := .fa 1 (.t 2), grd := some (40, true) },
  { dst := some 42, op := .ld none (.t 41), grd := some (40, true), pre := [] },
  { dst := some 43, op := .mv (.t 6), grd := some (40, true) },
  { dst := some 44, op := .ia 6 (.t 42) (.t 43), grd := some (40, true) },
  { dst := some 45, op := .fa 0 (.t 44), grd := some (40, true) },
  { dst := some 46, op := .ld none (.t 45), grd := some (40, true), pre := [] },
  { dst := some 47, op := .bin .gtr (.t 46) (.c (.i .i64 0)), grd := some (40, true) },
  { dst := some 48, op := .pick (.t 40) (.t 47) (.c (.b false)) },
  { dst := some 49, op := .mv (.t 48) },
  { dst := some 50, op := .fa 1 (.t 2), grd := some (49, true) },
  { dst := some 51, op := .ld none (.t 50), grd := some (49, true), pre := [] },
  { dst := some 52, op := .mv (.t 6), grd := some (49, true) },
  { dst := some 53, op := .ia 6 (.t 51) (.t 52), grd := some (49, true) },
  { dst := some 54, op := .fa 0 (.t 53), grd := some (49, true) },
  { dst := some 55, op := .ld none (.t 54), grd := some (49, true), pre := [] },
  { dst := some 56, op := .fa 1 (.t 2), grd := some (49, true) },
  { dst := some 57, op := .ld none (.t 56), grd := some (49, true), pre := [] },
  { dst := some 58, op := .mv (.t 7), grd := some (49, true) },
  { dst := some 59, op := .ia 6 (.t 57) (.t 58), grd := some (49, true) },
  { dst := some 60, op := .fa 0 (.t 59), grd := some (49, true) },
  { dst := some 61, op := .ld none (.t 60), grd := some (49, true), pre := [] },
  { dst := some 62, op := .bin .eql (.t 55) (.t 61), grd := some (49, true) },
  { dst := some 63, op := .pick (.t 49) (.t 62) (.c (.b false)) },
  { dst := some 64, op := .nilck (.t 29) },
  { dst := some 65, op := .fa 1 (.t 64) },
  { dst := some 66, op := .iaa 40 40 (.t 65) (.t 30) },
  { dst := some 67, op := .iaa 40 1 (.t 66) (.t 31) },
  { dst := none, op := .st 1 (.t 67) (.t 63), pre := [] }]))
 (.reg false [{ dst := some 27, op := .mv (.t 7) },
  { dst := some 28, op := .bin .add (.t 27) (.c (.i .i64 1)) },
  { dst := some 7, op := .mv (.t 28) }])))))))
 (.reg false [{ dst := some 19, op := .mv (.t 6) },
  { dst := some 20, op := .bin .add (.t 19) (.c (.i .i64 1)) },
  { dst := some 6, op := .mv (.t 20) }]))))))
 (.seq (.reg false [{ dst := some 68, op := .mv (.t 5) },
  { dst := some 4, op := .mv (.t 68) }])
 .ret)))) }
structure Pk_xref19 (F : Funs) : Prop where
  xref19_Parts : F 171 = some A_xref19_Parts
  xref19_Ppo : F 173 = some A_xref19_Ppo
  xref19_Rdw : F 174 = some A_xref19_Rdw
  xref19_Detour : F 175 = some A_xref19_Detour
  xref19_M : F 222 = some A_xref19_M
  xref19_Ploc : F 224 = some A_xref19_Ploc
  xref19_fre : F 226 = some A_xref19_fre
  xref19_rfe : F 227 = some A_xref19_rfe
  xref19_coe : F 228 = some A_xref19_coe
  xref19_Mine : F 247 = some A_xref19_Mine
end Go.Ab
end
section
set_option linter.unusedVariables false
set_option linter.unusedSimpArgs false
namespace Go.Ab
variable {F : Funs}
theorem RefF.co (S : RefF F) {X : Gr} (hX : FewG X) (h : GraphOk X) : pureS F 70 [.agg (grC X)] = some (.ptr (matC X.evs.length (anyM (coX X X.co.length)))) :=
  sp_mCo S.p9.xref09_Co S.px.xref01_New (X := X) h.n40 (by have := hX.co; omega) (fun j hj => by
    have hm : X.co.getD j [] ∈ X.co := by
      rw [List.getD_eq_getElem?_getD, List.getElem?_eq_getElem hj]; exact List.getElem_mem hj
    have := hX.cos _ hm
    have n40 := h.n40
    exact ⟨by omega, fun i hi => by have := h.cor j hj i hi; omega⟩)
section
variable {X : Gr} (h : GraphOk X)
include h
end
section
variable {X : Gr} (h : GraphOk X)
include h
end
set_option maxRecDepth 100000 in
section
variable (S : RefF F) (p : Pk_xref19 F) {X : Gr} (hX : FewG X) (h : GraphOk X)
include S p hX h
end
end Go.Ab
end
section
namespace Go.Ab
def A_xref11_Bob : AFun := { res := [.t 2], body := (.seq (.reg false [{ dst := some 1, op := .box (.t 0) },
  { dst := some 2, op := .mv (.c (.nilp)) }])
 (.seq (.reg true [{ dst := some 6, op := .ld (some 8) (.t 1), pre := [] },
  { dst := some 7, op := .call .pure (.c (.fn 84 [] [])) [.t 6], pre := [] },
  { dst := some 8, op := .ld (some 8) (.t 1), pre := [] },
  { dst := some 9, op := .call .pure (.c (.fn 225 [] [])) [.t 8, .c (.i .i64 3), .c (.i .i64 1), .c (.i .i64 4)], pre := [] },
  { dst := some 3, op := .mv (.t 7) },
  { dst := some 4, op := .mv (.t 9) }])
 (.seq (.reg true [{ dst := some 10, op := .mv (.t 3) },
  { dst := some 11, op := .ld (some 8) (.t 1), pre := [] },
  { dst := some 12, op := .call .pure (.c (.fn 232 [] [])) [.t 11], pre := [] },
  { dst := some 13, op := .call .pure (.c (.fn 32 [] [])) [.t 10, .t 12], pre := [] },
  { dst := some 14, op := .ld (some 8) (.t 1), pre := [] },
  { dst := some 15, op := .call .pure (.c (.fn 234 [] [])) [.t 14], pre := [] },
  { dst := some 16, op := .mv (.t 3) },
  { dst := some 17, op := .call .pure (.c (.fn 32 [] [])) [.t 15, .t 16], pre := [] },
  { dst := some 18, op := .call .pure (.c (.fn 29 [] [])) [.t 13, .t 17], pre := [] },
  { dst := some 19, op := .mv (.t 3) },
  { dst := some 20, op := .mv (.t 4) },
  { dst := some 21, op := .call .pure (.c (.fn 32 [] [])) [.t 19, .t 20], pre := [] },
  { dst := some 22, op := .call .pure (.c (.fn 29 [] [])) [.t 18, .t 21], pre := [] },
  { dst := some 23, op := .mv (.t 4) },
  { dst := some 24, op := .mv (.t 3) },
  { dst := some 25, op := .call .pure (.c (.fn 32 [] [])) [.t 23, .t 24], pre := [] },
  { dst := some 26, op := .call .pure (.c (.fn 29 [] [])) [.t 22, .t 25], pre := [] },
  { dst := some 5, op := .mv (.t 26) }])
 (.seq (.reg true [{ dst := some 27, op := .mv (.t 5) },
  { dst := some 28, op := .ld (some 8) (.t 1), pre := [] },
  { dst := some 29, op := .call .pure (.c (.fn 232 [] [])) [.t 28], pre := [] },
  { dst := some 30, op := .ld (some 8) (.t 1), pre := [] },
  { dst := some 31, op := .call .pure (.c (.fn 73 [] [])) [.t 30], pre := [] },
  { dst := some 32, op := .call .pure (.c (.fn 32 [] [])) [.t 29, .t 31], pre := [] },
  { dst := some 33, op := .ld (some 8) (.t 1), pre := [] },
  { dst := some 34, op := .call .pure (.c (.fn 230 [] [])) [.t 33], pre := [] },
  { dst := some 35, op := .call .pure (.c (.fn 32 [] [])) [.t 32, .t 34], pre := [] },
  { dst := some 36, op := .call .pure (.c (.fn 29 [] [])) [.t 27, .t 35], pre := [] },
  { dst := some 2, op := .mv (.t 36) }])
 .ret)))) }
def A_xref11_Deps : AFun := { res := [.t 2], body := (.seq (.reg false [{ dst := some 1, op := .box (.t 0) },
  { dst := some 2, op := .mv (.c (.nilp)) }])
 (.seq (.reg true [{ dst := some 6, op := .ld (some 8) (.t 1), pre := [] },
  { dst := some 7, op := .fa 5 (.t 1) },
  { dst := some 8, op := .ld none (.t 7), pre := [] },
  { dst := some 9, op := .call .pure (.c (.fn 223 [] [])) [.t 6, .t 8], pre := [] },
  { dst := some 10, op := .ld (some 8) (.t 1), pre := [] },
  { dst := some 11, op := .fa 6 (.t 1) },
  { dst := some 12, op := .ld none (.t 11), pre := [] },
  { dst := some 13, op := .call .pure (.c (.fn 223 [] [])) [.t 10, .t 12], pre := [] },
  { dst := some 14, op := .call .pure (.c (.fn 29 [] [])) [.t 9, .t 13], pre := [] },
  { dst := some 3, op := .mv (.t 14) }])
 (.seq (.reg false [{ dst := some 15, op := .fa 1 (.t 1) },
  { dst := some 16, op := .ld none (.t 15) },
  { dst := some 17, op := .len (.t 16) },
  { dst := some 18, op := .call .thaw (.c (.fn 27 [] [])) [.t 17, .c (.sl [] 0 .rig)] },
  { dst := some 4, op := .mv (.t 18) }])
 (.seq (.seq (.reg false [{ dst := some 5, op := .mv (.c (.i .i64 0)) }])
 (.blk 0 (.loop (.seq (.seq (.reg false [{ dst := some 19, op := .mv (.t 5) },
  { dst := some 20, op := .fa 1 (.t 1) },
  { dst := some 21, op := .ld none (.t 20) },
  { dst := some 22, op := .len (.t 21) },
  { dst := some 23, op := .bin .lss (.t 19) (.t 22) }])
 (.cond (.t 23) .skip
 (.ext 0)))
 (.seq (.blk 1 (.reg true [{ dst := some 26, op := .mv (.t 4) },
  { dst := some 27, op := .mv (.t 5) },
  { dst := some 28, op := .mv (.t 5) },
  { dst := some 29, op := .fa 1 (.t 1) },
  { dst := some 30, op := .ld none (.t 29), pre := [] },
  { dst := some 31, op := .mv (.t 5) },
  { dst := some 32, op := .ia 6 (.t 30) (.t 31) },
  { dst := some 33, op := .fa 1 (.t 32) },
  { dst := some 34, op := .ld none (.t 33), pre := [] },
  { dst := some 35, op := .bin .eql (.t 34) (.c (.i .i64 1)) },
  { dst := some 36, op := .mv (.t 35) },
  { dst := some 37, op := .fa 1 (.t 1), grd := some (36, true) },
  { dst := some 38, op := .ld none (.t 37), grd := some (36, true), pre := [] },
  { dst := some 39, op := .mv (.t 5), grd := some (36, true) },
  { dst := some 40, op := .ia 6 (.t 38) (.t 39), grd := some (36, true) },
  { dst := some 41, op := .fa 5 (.t 40), grd := some (36, true) },
  { dst := some 42, op := .ld none (.t 41), grd := some (36, true), pre := [] },
  { dst := some 43, op := .pick (.t 36) (.t 42) (.c (.b false)) },
  { dst := some 44, op := .nilck (.t 26) },
  { dst := some 45, op := .fa 1 (.t 44) },
  { dst := some 46, op := .iaa 40 40 (.t 45) (.t 27) },
  { dst := some 47, op := .iaa 40 1 (.t 46) (.t 28) },
  { dst := none, op := .st 1 (.t 47) (.t 43), pre := [] }]))
 (.reg false [{ dst := some 24, op := .mv (.t 5) },
  { dst := some 25, op := .bin .add (.t 24) (.c (.i .i64 1)) },
  { dst := some 5, op := .mv (.t 25) }]))))))
 (.seq (.imm 4 (.reg false [{ dst := some 48, op := .mv (.t 3) },
  { dst := some 49, op := .mv (.t 4) },
  { dst := some 50, op := .ld (some 8) (.t 1) },
  { dst := some 51, op := .call .pure (.c (.fn 84 [] [])) [.t 50] },
  { dst := some 52, op := .call .pure (.c (.fn 32 [] [])) [.t 49, .t 51] },
  { dst := some 53, op := .call .pure (.c (.fn 29 [] [])) [.t 48, .t 52] },
  { dst := some 2, op := .mv (.t 53) }]))
 .ret))))) }
def A_xref11_Ppo : AFun := { res := [.t 2], body := (.seq (.reg false [{ dst := some 1, op := .box (.t 0) },
  { dst := some 2, op := .mv (.c (.nilp)) }])
 (.seq (.reg false [{ dst := some 5, op := .ld (some 8) (.t 1) },
  { dst := some 6, op := .call .pure (.c (.fn 225 [] [])) [.t 5, .c (.i .i64 1), .c (.i .i64 0), .c (.i .i64 1)] },
  { dst := some 3, op := .mv (.t 6) }])
 (.seq (.reg true [{ dst := some 7, op := .ld (some 8) (.t 1), pre := [] },
  { dst := some 8, op := .ld (some 8) (.t 1), pre := [] },
  { dst := some 9, op := .call .pure (.c (.fn 69 [] [])) [.t 8], pre := [] },
  { dst := some 10, op := .call .pure (.c (.fn 74 [] [])) [.t 7, .t 9], pre := [] },
  { dst := some 4, op := .mv (.t 10) }])
 (.seq (.reg true [{ dst := some 11, op := .mv (.t 3) },
  { dst := some 12, op := .ld (some 8) (.t 1), pre := [] },
  { dst := some 13, op := .call .pure (.c (.fn 256 [] [])) [.t 12], pre := [] },
  { dst := some 14, op := .mv (.t 4) },
  { dst := some 15, op := .call .pure (.c (.fn 29 [] [])) [.t 13, .t 14], pre := [] },
  { dst := some 16, op := .call .pure (.c (.fn 34 [] [])) [.t 15], pre := [] },
  { dst := some 17, op := .call .pure (.c (.fn 32 [] [])) [.t 11, .t 16], pre := [] },
  { dst := some 18, op := .ld (some 8) (.t 1), pre := [] },
  { dst := some 19, op := .call .pure (.c (.fn 230 [] [])) [.t 18], pre := [] },
  { dst := some 20, op := .call .pure (.c (.fn 32 [] [])) [.t 17, .t 19], pre := [] },
  { dst := some 2, op := .mv (.t 20) }])
 .ret)))) }
def A_xref11_Detour : AFun := { res := [.t 2], body := (.seq (.reg false [{ dst := some 1, op := .box (.t 0) },
  { dst := some 2, op := .mv (.c (.nilp)) }])
 (.seq (.reg true [{ dst := some 5, op := .ld (some 8) (.t 1), pre := [] },
  { dst := some 6, op := .ld (some 8) (.t 1), pre := [] },
  { dst := some 7, op := .call .pure (.c (.fn 70 [] [])) [.t 6], pre := [] },
  { dst := some 8, op := .call .pure (.c (.fn 75 [] [])) [.t 5, .t 7], pre := [] },
  { dst := some 9, op := .ld (some 8) (.t 1), pre := [] },
  { dst := some 10, op := .ld (some 8) (.t 1), pre := [] },
  { dst := some 11, op := .call .pure (.c (.fn 69 [] [])) [.t 10], pre := [] },
  { dst := some 12, op := .call .pure (.c (.fn 75 [] [])) [.t 9, .t 11], pre := [] },
  { dst := some 3, op := .mv (.t 8) },
  { dst := some 4, op := .mv (.t 12) }])
 (.seq (.reg true [{ dst := some 13, op := .mv (.t 3) },
  { dst := some 14, op := .mv (.t 4) },
  { dst := some 15, op := .call .pure (.c (.fn 32 [] [])) [.t 13, .t 14], pre := [] },
  { dst := some 16, op := .ld (some 8) (.t 1), pre := [] },
  { dst := some 17, op := .call .pure (.c (.fn 84 [] [])) [.t 16], pre := [] },
  { dst := some 18, op := .call .pure (.c (.fn 30 [] [])) [.t 15, .t 17], pre := [] },
  { dst := some 2, op := .mv (.t 18) }])
 .ret))) }
def A_xref11_Psc : AFun := { res := [.t 2], body := (.seq (.reg false [{ dst := some 1, op := .box (.t 0) },
  { dst := some 2, op := .mv (.c (.nilp)) }])
 (.seq (.reg true [{ dst := some 5, op := .ld (some 8) (.t 1), pre := [] },
  { dst := some 6, op := .call .pure (.c (.fn 225 [] [])) [.t 5, .c (.i .i64 3), .c (.i .i64 4), .c (.i .i64 4)], pre := [] },
  { dst := some 7, op := .ld (some 8) (.t 1), pre := [] },
  { dst := some 8, op := .call .pure (.c (.fn 185 [] [])) [.t 7], pre := [] },
  { dst := some 3, op := .mv (.t 6) },
  { dst := some 4, op := .mv (.t 8) }])
 (.seq (.reg true [{ dst := some 9, op := .mv (.t 3) },
  { dst := some 10, op := .mv (.t 4) },
  { dst := some 11, op := .call .pure (.c (.fn 32 [] [])) [.t 9, .t 10], pre := [] },
  { dst := some 12, op := .ld (some 8) (.t 1), pre := [] },
  { dst := some 13, op := .call .pure (.c (.fn 72 [] [])) [.t 12], pre := [] },
  { dst := some 14, op := .call .pure (.c (.fn 32 [] [])) [.t 11, .t 13], pre := [] },
  { dst := some 15, op := .mv (.t 4) },
  { dst := some 16, op := .call .pure (.c (.fn 32 [] [])) [.t 14, .t 15], pre := [] },
  { dst := some 17, op := .mv (.t 3) },
  { dst := some 18, op := .call .pure (.c (.fn 32 [] [])) [.t 16, .t 17], pre := [] },
  { dst := some 2, op := .mv (.t 18) }])
 .ret))) }
def A_xref11_Ar : AFun := { res := [.t 2], body := (.seq (.reg false [{ dst := some 1, op := .box (.t 0) },
  { dst := some 2, op := .mv (.c (.nilp)) }])
 (.seq (.reg true [{ dst := some 4, op := .ld (some 8) (.t 1), pre := [] },
  { dst := some 5, op := .ld (some 8) (.t 1), pre := [] },
  { dst := some 6, op := .call .pure (.c (.fn 69 [] [])) [.t 5], pre := [] },
  { dst := some 7, op := .call .pure (.c (.fn 75 [] [])) [.t 4, .t 6], pre := [] },
  { dst := some 3, op := .mv (.t 7) }])
 (.seq (.reg true [{ dst := some 8, op := .mv (.t 3) },
  { dst := some 9, op := .ld (some 8) (.t 1), pre := [] },
  { dst := some 10, op := .call .pure (.c (.fn 255 [] [])) [.t 9], pre := [] },
  { dst := some 11, op := .call .pure (.c (.fn 29 [] [])) [.t 8, .t 10], pre := [] },
  { dst := some 12, op := .ld (some 8) (.t 1), pre := [] },
  { dst := some 13, op := .call .pure (.c (.fn 257 [] [])) [.t 12], pre := [] },
  { dst := some 14, op := .call .pure (.c (.fn 29 [] [])) [.t 11, .t 13], pre := [] },
  { dst := some 15, op := .ld (some 8) (.t 1), pre := [] },
  { dst := some 16, op := .call .pure (.c (.fn 258 [] [])) [.t 15], pre := [] },
  { dst := some 17, op := .call .pure (.c (.fn 29 [] [])) [.t 14, .t 16], pre := [] },
  { dst := some 18, op := .ld (some 8) (.t 1), pre := [] },
  { dst := some 19, op := .call .pure (.c (.fn 259 [] [])) [.t 18], pre := [] },
  { dst := some 20, op := .call .pure (.c (.fn 29 [] [])) [.t 17, .t 19], pre := [] },
  { dst := some 2, op := .mv (.t 20) }])
 .ret))) }
structure Pk_xref11 (F : Funs) : Prop where
  xref11_Bob : F 255 = some A_xref11_Bob
  xref11_Deps : F 256 = some A_xref11_Deps
  xref11_Ppo : F 257 = some A_xref11_Ppo
  xref11_Detour : F 258 = some A_xref11_Detour
  xref11_Psc : F 259 = some A_xref11_Psc
  xref11_Ar : F 260 = some A_xref11_Ar
end Go.Ab
end
section
set_option linter.unusedVariables false
set_option linter.unusedSimpArgs false
namespace Go.Ab
variable {F : Funs}
def r11 (X : Gr) : Mx := opM (fun x y => x || y) (newM X.evs.length X.data) (newM X.evs.length X.ctrl) X.evs.length
theorem EqN.z {n : Nat} (hn : n ≤ 40) {A : Mx} {R : Rw} (h : EqN n A R) : EqN n A (orR (newR n []) R) :=
  ⟨wf_or (wf_new hn _) h.1, fun a b ha hb' => by
    have hz := (EqN.new hn []).2 a b ha hb'
    rw [h.2 a b ha hb', hb_or, ← hz]
    simp [newM]⟩
section
variable {X : Gr} (h : GraphOk X)
include h
end
set_option maxRecDepth 100000 in
section
variable (S : RefF F) (p : Pk_xref11 F) (p10 : Pk_xref10 F) {X : Gr} (hX : FewG X) (h : GraphOk X)
include S p p10 hX h
omit S p p10 h in
theorem FewG.l1 : X.data.length ≤ 1000 ∧ X.ctrl.length ≤ 1000 ∧ X.rmw.length ≤ 1000 := by
  have h1 := hX.data
  have h2 := hX.ctrl
  have h3 := hX.rmw
  omega
end
end Go.Ab
end
section
set_option linter.unusedVariables false
set_option linter.unusedSimpArgs false
namespace Go.Ab
variable {F : Funs}
theorem splice_s (a : AV) (cs : List AV) (k : Nat) (v w : AV) (vs : List AV) : splice (a :: cs) (k + 1) (v :: w :: vs) = a :: splice cs k (v :: w :: vs) := by
  simp only [splice, List.take_succ_cons, List.cons_append, List.length_cons]
  rw [show k + 1 + (vs.length + 1 + 1) = (k + (vs.length + 1 + 1)) + 1 by omega, List.drop_succ_cons]
theorem splice_6 (b1 b2 b3 b4 b5 b6 c1 c2 c3 c4 c5 c6 : AV) (cs : List AV) : splice (b1 :: b2 :: b3 :: b4 :: b5 :: b6 :: cs) 0 [c1, c2, c3, c4, c5, c6] = c1 :: c2 :: c3 :: c4 :: c5 :: c6 :: cs := rfl
end Go.Ab
end
section
set_option linter.unusedVariables false
set_option linter.unusedSimpArgs false
namespace Go.Ab
variable {F : Funs}
def aftG (data ctrl : List (Int × Int)) : Gr := ⟨2, [⟨0, 2, 0, 0, 0, false⟩, ⟨0, 2, 0, 1, 0, false⟩, ⟨1, 1, 0, 0, 0, false⟩, ⟨1, 2, 0, 1, 0, false⟩], [-1, -1, 0, -1], [[0], [1, 3]], [], data, ctrl, []⟩
def aftH (h : Int) : Gr := if h = 0 then aftG [(2, 3)] [] else if h = 1 then aftG [] [(2, 3)] else aftG [] []
theorem aft_few (h : Int) : Few (aftH h) := by
  unfold aftH
  have key : ∀ d c, Few (aftG d c) := by
    intro d c
    refine ⟨by simp [aftG], by simp [aftG], ?_⟩
    intro x hx
    simp only [aftG, List.mem_cons, List.not_mem_nil, or_false] at hx
    rcases hx with rfl | rfl <;> decide
  split
  · exact key _ _
  · split <;> exact key _ _
end Go.Ab
end
section
set_option linter.unusedVariables false
set_option linter.unusedSimpArgs false
namespace Go.Ab
variable {F : Funs}
def aftB (b : Bool) : Gr := if b then aftH 0 else aftH 2
set_option maxRecDepth 100000 in
set_option maxHeartbeats 4000000 in
theorem so_after (h212 : F 212 = some A_xlaw11_after) (b : Bool) : pureS F 212 [.b b] = some (.agg (grC (aftB b))) := by
  refine pure_of h212 ?_
  have r5 : ∀ x : AV, List.replicate 5 x = [x, x, x, x, x] := fun _ => rfl
  have r4 : ∀ x : AV, List.replicate 4 x = [x, x, x, x] := fun _ => rfl
  have r7 : ∀ x : AV, List.replicate 7 x = [x, x, x, x, x, x, x] := fun _ => rfl
  have s8 : ∀ a1 a2 a3 a4 a5 a6 a7 a8 c1 c2 c3 c4 c5 c6 c7 c8 : AV, splice [a1, a2, a3, a4, a5, a6, a7, a8] 0 [c1, c2, c3, c4, c5, c6, c7, c8] = [c1, c2, c3, c4, c5, c6, c7, c8] := fun _ _ _ _ _ _ _ _ _ _ _ _ _ _ _ _ => rfl
  have p8 : ∀ a1 a2 a3 a4 a5 a6 a7 a8 : AV, part [a1, a2, a3, a4, a5, a6, a7, a8] 0 (some 8) = some (.agg [a1, a2, a3, a4, a5, a6, a7, a8]) := fun _ _ _ _ _ _ _ _ => rfl
  cases b
  · simp (disch := omega) only [A_xlaw11_after, wp, Nat.reduceAdd, Nat.reduceMul, Nat.reduceSub, gl, res_cell, resC, r5, r4, r7, s8, p8, splice_s, splice_6, List.length_set]
    refine frz_d_agg ?_
    show frzL _ (7 + 1) _ = _
    simp only [frzL, frz]
    rfl
  · simp (disch := omega) only [A_xlaw11_after, wp, Nat.reduceAdd, Nat.reduceMul, Nat.reduceSub, gl, res_cell, resC, r5, r4, r7, s8, p8, splice_s, splice_6, List.length_set]
    refine frz_d_agg ?_
    show frzL _ (7 + 1) _ = _
    simp only [frzL, frz]
    rfl
theorem afb_few (b : Bool) : Few (aftB b) := by cases b; exact aft_few 2; exact aft_few 0
theorem afb_1 : has (nOf (aftB true)) (oppoR (aftB true)) 2 3 = true := by decide +kernel
theorem afb_2 : has (nOf (aftB true)) (arR (aftB true)) 2 3 = true := by decide +kernel
theorem afb_3 : has (nOf (aftB false)) (arR (aftB false)) 2 3 = false := by decide +kernel
theorem afb_4 : has (nOf (aftB true)) (depsR (aftB true)) 2 3 = true := by decide +kernel
set_option maxRecDepth 100000 in
set_option maxHeartbeats 4000000 in
theorem so_awake (h157 : F 157 = some A_xlaw11_awake) (h212 : F 212 = some A_xlaw11_after) (S : OrdF F) : pureS F 157 [] = some (.b true) := by
  refine pure_of h157 ?_
  have a0 := so_after h212 true
  have a1 := so_after h212 false
  have n0 := nOf_le (aftB true)
  have n1 := nOf_le (aftB false)
  have p0 := so_ppo S (afb_few true) (by decide) (by decide)
  have p1 := so_ar S (afb_few true) (by decide) (by decide) (by decide)
  have p2 := so_ar S (afb_few false) (by decide) (by decide) (by decide)
  have p3 := so_deps S (afb_few true) (by decide) (by decide)
  simp (disch := omega) only [A_xlaw11_awake, wp, Nat.reduceAdd, Nat.reduceMul, Nat.reduceSub, gl, a0, a1, p0, p1, p2, p3, sp_has S.sy.pr n0, sp_has S.sy.pr n1, afb_1, afb_2, afb_3, afb_4]
end Go.Ab
end
section
set_option linter.unusedVariables false
set_option linter.unusedSimpArgs false
namespace Go.Ab
inductive ET where
  | leaf
  | node (v : Option AV) (l r : ET)
noncomputable def ET.get (t : ET) : Nat → Option AV :=
  ET.rec (motive := fun _ => Nat → Option AV) (fun _ => none) (fun v _ _ gl gr n => Nat.rec (motive := fun _ => Option AV) v (fun m _ => Bool.rec (motive := fun _ => Option AV) (gr (Nat.div m 2)) (gl (Nat.div m 2)) (Nat.beq (Nat.mod m 2) 0)) n) t
theorem ET.get_succ (v l r) (m : Nat) : (ET.node v l r).get (m + 1) = if m % 2 = 0 then l.get (m / 2) else r.get (m / 2) := by
  show Bool.rec (motive := fun _ => Option AV) (r.get (m / 2)) (l.get (m / 2)) (Nat.beq (m % 2) 0) = _
  cases h : Nat.beq (m % 2) 0 with
  | true => rw [if_pos (Nat.eq_of_beq_eq_true h)]
  | false => rw [if_neg (Nat.ne_of_beq_eq_false h)]
section
variable {α : Type}
noncomputable def ET.putK (v : AV) (fuel : Nat) : ET → Nat → (ET → α) → α :=
  Nat.rec (motive := fun _ => ET → Nat → (ET → α) → α) (fun t _ k => k t)
    (fun _ ih t n k => ET.rec (motive := fun _ => α)
      (Nat.rec (motive := fun _ => α) (k (.node (some v) .leaf .leaf)) (fun m _ => Bool.rec (motive := fun _ => α) (ih .leaf (Nat.div m 2) fun r' => k (.node none .leaf r')) (ih .leaf (Nat.div m 2) fun l' => k (.node none l' .leaf)) (Nat.beq (Nat.mod m 2) 0)) n)
      (fun w l r _ _ => Nat.rec (motive := fun _ => α) (k (.node (some v) l r)) (fun m _ => Bool.rec (motive := fun _ => α) (ih r (Nat.div m 2) fun r' => k (.node w l r')) (ih l (Nat.div m 2) fun l' => k (.node w l' r)) (Nat.beq (Nat.mod m 2) 0)) n) t) fuel
theorem ET.putK_ok (v : AV) : ∀ (fuel : Nat) (t : ET) (n : Nat) (k : ET → α), n < fuel → ∃ t', ET.putK v fuel t n k = k t' ∧ ∀ j, t'.get j = if j = n then some v else t.get j
  | 0, _, _, _, h => absurd h (Nat.not_lt_zero _)
  | f + 1, t, 0, k, _ => by
    cases t with
    | leaf =>
      refine ⟨.node (some v) .leaf .leaf, rfl, fun j => ?_⟩
      cases j with
      | zero => rfl
      | succ j => rw [ET.get_succ, if_neg (Nat.succ_ne_zero j)]; split <;> rfl
    | node w l r =>
      refine ⟨.node (some v) l r, rfl, fun j => ?_⟩
      cases j with
      | zero => rfl
      | succ j => rw [ET.get_succ, if_neg (Nat.succ_ne_zero j), ET.get_succ]
  | f + 1, t, m + 1, k, h => by
    have hd : m / 2 < f := by omega
    cases t with
    | leaf =>
      cases hb : Nat.beq (m % 2) 0 with
      | true =>
        have hm := Nat.eq_of_beq_eq_true hb
        obtain ⟨t', h1, h2⟩ := ET.putK_ok v f .leaf (m / 2) (fun l' => k (.node none l' .leaf)) hd
        refine ⟨.node none t' .leaf, ?_, fun j => ?_⟩
        · show Bool.rec (motive := fun _ => α) _ (ET.putK v f .leaf (m / 2) fun l' => k (.node none l' .leaf)) (Nat.beq (m % 2) 0) = _
          rw [hb]; exact h1
        · cases j with
          | zero => rw [if_neg (by omega)]; rfl
          | succ j =>
            rw [ET.get_succ]
            by_cases hj : j % 2 = 0
            · rw [if_pos hj, h2]
              by_cases e : j / 2 = m / 2
              · rw [if_pos e, if_pos (by omega)]
              · rw [if_neg e, if_neg (by omega)]; rfl
            · rw [if_neg hj, if_neg (by omega)]; rfl
      | false =>
        have hm := Nat.ne_of_beq_eq_false hb
        obtain ⟨t', h1, h2⟩ := ET.putK_ok v f .leaf (m / 2) (fun r' => k (.node none .leaf r')) hd
        refine ⟨.node none .leaf t', ?_, fun j => ?_⟩
        · show Bool.rec (motive := fun _ => α) (ET.putK v f .leaf (m / 2) fun r' => k (.node none .leaf r')) _ (Nat.beq (m % 2) 0) = _
          rw [hb]; exact h1
        · cases j with
          | zero => rw [if_neg (by omega)]; rfl
          | succ j =>
            rw [ET.get_succ]
            by_cases hj : j % 2 = 0
            · rw [if_pos hj, if_neg (by omega)]; rfl
            · rw [if_neg hj, h2]
              by_cases e : j / 2 = m / 2
              · rw [if_pos e, if_pos (by omega)]
              · rw [if_neg e, if_neg (by omega)]; rfl
    | node w l r =>
      cases hb : Nat.beq (m % 2) 0 with
      | true =>
        have hm := Nat.eq_of_beq_eq_true hb
        obtain ⟨t', h1, h2⟩ := ET.putK_ok v f l (m / 2) (fun l' => k (.node w l' r)) hd
        refine ⟨.node w t' r, ?_, fun j => ?_⟩
        · show Bool.rec (motive := fun _ => α) _ (ET.putK v f l (m / 2) fun l' => k (.node w l' r)) (Nat.beq (m % 2) 0) = _
          rw [hb]; exact h1
        · cases j with
          | zero => rw [if_neg (by omega)]; rfl
          | succ j =>
            rw [ET.get_succ, ET.get_succ]
            by_cases hj : j % 2 = 0
            · rw [if_pos hj, if_pos hj, h2]
              by_cases e : j / 2 = m / 2
              · rw [if_pos e, if_pos (by omega)]
              · rw [if_neg e, if_neg (by omega)]
            · rw [if_neg hj, if_neg hj, if_neg (by omega)]
      | false =>
        have hm := Nat.ne_of_beq_eq_false hb
        obtain ⟨t', h1, h2⟩ := ET.putK_ok v f r (m / 2) (fun r' => k (.node w l r')) hd
        refine ⟨.node w l t', ?_, fun j => ?_⟩
        · show Bool.rec (motive := fun _ => α) (ET.putK v f r (m / 2) fun r' => k (.node w l r')) _ (Nat.beq (m % 2) 0) = _
          rw [hb]; exact h1
        · cases j with
          | zero => rw [if_neg (by omega)]; rfl
          | succ j =>
            rw [ET.get_succ, ET.get_succ]
            by_cases hj : j % 2 = 0
            · rw [if_pos hj, if_pos hj, if_neg (by omega)]
            · rw [if_neg hj, if_neg hj, h2]
              by_cases e : j / 2 = m / 2
              · rw [if_pos e, if_pos (by omega)]
              · rw [if_neg e, if_neg (by omega)]
noncomputable def frcN (n : Nat) (k : Nat → α) : α := Nat.rec (motive := fun _ => α) (k 0) (fun m _ => k (Nat.add m 1)) n
theorem frcN_ok (n : Nat) (k : Nat → α) : frcN n k = k n := by cases n <;> rfl
noncomputable def frcI (n : Int) (k : Int → α) : α := Int.rec (motive := fun _ => α) (fun m => frcN m fun m => k (.ofNat m)) (fun m => frcN m fun m => k (.negSucc m)) n
theorem frcI_ok (n : Int) (k : Int → α) : frcI n k = k n := by
  cases n with
  | ofNat m => exact frcN_ok m fun m => k (.ofNat m)
  | negSucc m => exact frcN_ok m fun m => k (.negSucc m)
noncomputable def frcB (x : Bool) (k : Bool → α) : α := Bool.rec (motive := fun _ => α) (k false) (k true) x
theorem frcB_ok (x : Bool) (k : Bool → α) : frcB x k = k x := by cases x <;> rfl
noncomputable def frc1 (v : AV) (k : AV → α) : α := match v with
  | .i s n => frcI n fun n => k (.i s n)
  | .b x => frcB x fun x => k (.b x)
  | v => k v
theorem frc1_ok (v : AV) (k : AV → α) : frc1 v k = k v := by
  cases v with
  | i s n => exact frcI_ok n fun n => k (.i s n)
  | b x => exact frcB_ok x fun x => k (.b x)
  | _ => rfl
noncomputable def frcL (cs : List AV) : (List AV → α) → α := List.rec (motive := fun _ => (List AV → α) → α) (fun k => k []) (fun c _ ih k => frc1 c fun c => ih fun cs => k (c :: cs)) cs
theorem frcL_ok : ∀ (cs : List AV) (k : List AV → α), frcL cs k = k cs
  | [], _ => rfl
  | c :: cs, k => by
    show frc1 c (fun c => frcL cs fun cs => k (c :: cs)) = _
    rw [frc1_ok, frcL_ok cs]
noncomputable def frcV (v : AV) (k : AV → α) : α := match v with
  | .i s n => frcI n fun n => k (.i s n)
  | .b x => frcB x fun x => k (.b x)
  | .sl cs n t => frcL cs fun cs => frcN n fun n => k (.sl cs n t)
  | .agg cs => frcL cs fun cs => k (.agg cs)
  | .ptr cs => frcL cs fun cs => k (.ptr cs)
  | .mp a o => frcN a fun a => frcN o fun o => k (.mp a o)
  | .ms a o n => frcN a fun a => frcN o fun o => frcN n fun n => k (.ms a o n)
  | v => k v
theorem frcV_ok (v : AV) (k : AV → α) : frcV v k = k v := by
  cases v with
  | i s n => exact frcI_ok n fun n => k (.i s n)
  | b x => exact frcB_ok x fun x => k (.b x)
  | sl cs n t =>
    show frcL cs (fun cs => frcN n fun n => k (.sl cs n t)) = _
    rw [frcL_ok, frcN_ok]
  | agg cs => exact frcL_ok cs fun cs => k (.agg cs)
  | ptr cs => exact frcL_ok cs fun cs => k (.ptr cs)
  | mp a o =>
    show frcN a (fun a => frcN o fun o => k (.mp a o)) = _
    rw [frcN_ok, frcN_ok]
  | ms a o n =>
    show frcN a (fun a => frcN o fun o => frcN n fun n => k (.ms a o n)) = _
    rw [frcN_ok, frcN_ok, frcN_ok]
  | _ => rfl
end
noncomputable def mapO (f : AV → Option AV) (cs : List AV) : Option (List AV) := List.rec (motive := fun _ => Option (List AV)) (some []) (fun c _ ih => match f c with
  | some c => (match ih with | some cs => some (c :: cs) | none => none)
  | none => none) cs
noncomputable def frzK (hp : Nat → Option Blk) (k : Nat) : AV → Option AV := Nat.rec (motive := fun _ => AV → Option AV) (fun _ => none) (fun _ ih v => match v with
  | .agg cs => (match mapO ih cs with | some cs => some (.agg cs) | none => none)
  | .tup cs => (match mapO ih cs with | some cs => some (.tup cs) | none => none)
  | .sl cs n _ => some (.sl cs n .non)
  | .mp id off => (match hp id with
    | some (.cells cs _) => (match mapO ih (cs.drop off) with | some cs => some (.ptr cs) | none => none)
    | _ => none)
  | .ms id off n => (match hp id with
    | some (.cells cs _) => (match mapO ih (cs.drop off) with | some cs => some (.sl cs n .non) | none => none)
    | _ => none)
  | .fn f a b => (match mapO ih a with
    | some a => (match mapO ih b with | some b => some (.fn f a b) | none => none)
    | none => none)
  | .ifc t v => (match ih v with | some v => some (.ifc t v) | none => none)
  | .mm _ => none
  | v => some v) k
noncomputable def frzLK (hp : Nat → Option Blk) (k : Nat) (cs : List AV) : Option (List AV) := mapO (frzK hp k) cs
theorem mapO_cons (f c cs) : mapO f (c :: cs) = (match f c with
  | some c => (match mapO f cs with | some cs => some (c :: cs) | none => none)
  | none => none) := rfl
theorem mapO_frz (hp : Nat → Option Blk) (k : Nat) (h : ∀ v, frzK hp k v = frz hp k v) : ∀ cs, mapO (frzK hp k) cs = frzL hp k cs
  | [] => by simp only [frzL]; rfl
  | c :: cs => by
    rw [mapO_cons, mapO_frz hp k h cs, h c]
    simp only [frzL]
    cases frz hp k c <;> cases frzL hp k cs <;> rfl
theorem frzK_ok (hp : Nat → Option Blk) : ∀ (k : Nat) (v : AV), frzK hp k v = frz hp k v
  | 0, v => by simp only [frz]; rfl
  | k + 1, v => by
    have hl := mapO_frz hp k (frzK_ok hp k)
    have e : frzK hp (k + 1) v = (match v with
      | .agg cs => (match mapO (frzK hp k) cs with | some cs => some (.agg cs) | none => none)
      | .tup cs => (match mapO (frzK hp k) cs with | some cs => some (.tup cs) | none => none)
      | .sl cs n _ => some (.sl cs n .non)
      | .mp id off => (match hp id with
        | some (.cells cs _) => (match mapO (frzK hp k) (cs.drop off) with | some cs => some (.ptr cs) | none => none)
        | _ => none)
      | .ms id off n => (match hp id with
        | some (.cells cs _) => (match mapO (frzK hp k) (cs.drop off) with | some cs => some (.sl cs n .non) | none => none)
        | _ => none)
      | .fn f a b => (match mapO (frzK hp k) a with
        | some a => (match mapO (frzK hp k) b with | some b => some (.fn f a b) | none => none)
        | none => none)
      | .ifc t v => (match frzK hp k v with | some v => some (.ifc t v) | none => none)
      | .mm _ => none
      | v => some v) := rfl
    rw [e]
    simp only [hl, frzK_ok hp k]
    cases v with
    | agg cs => simp only [frz]; cases frzL hp k cs <;> rfl
    | tup cs => simp only [frz]; cases frzL hp k cs <;> rfl
    | mp id off =>
      simp only [frz]
      cases hp id with
      | none => rfl
      | some b =>
        cases b with
        | cells cs ro => simp only; cases frzL hp k (cs.drop off) <;> rfl
        | _ => rfl
    | ms id off n =>
      simp only [frz]
      cases hp id with
      | none => rfl
      | some b =>
        cases b with
        | cells cs ro => simp only; cases frzL hp k (cs.drop off) <;> rfl
        | _ => rfl
    | fn f a b =>
      simp only [frz]
      cases frzL hp k a <;> cases frzL hp k b <;> rfl
    | ifc t v => simp only [frz]; cases frz hp k v <;> rfl
    | _ => simp only [frz]
theorem frzLK_ok (hp : Nat → Option Blk) (k : Nat) (cs : List AV) : frzLK hp k cs = frzL hp k cs := mapO_frz hp k (frzK_ok hp k) cs
noncomputable def kBoxI (v : AV) (g : G) : Option (AV × G) :=
  if (cellsOf v).all one then vMapL .ptr g (frzLK (fun _ => none) depth (cellsOf v)) else none
noncomputable def kBsl (id : Nat) (imm : Bool) (n : Nat) (cs : Option (List AV)) (g : G) : Option (AV × G) := match cs with
  | none => none
  | some cs =>
    if imm then vMapL (fun cs => .sl cs n .rig) g (frzLK (fun _ => none) depth cs)
    else some (.ms id 0 n, ⟨upd g.hp id (some (.cells cs false)), g.nx⟩)
noncomputable def kSrc (al : Nat → Bool) (esz : Nat) (y : AV) (g : G) : Option (List AV × Nat) := match y with
  | .sl ds m _ => some (ds, m)
  | .ms b off m => match rd g al b with
    | some (.cells ds _) => match frzLK (fun _ => none) depth ((ds.drop off).take (m * esz)) with
      | some ds => some (ds, m)
      | none => none
    | _ => none
  | _ => none
noncomputable def kApp (al : Nat → Bool) (id esz bytes : Nat) (x y : AV) (g : G) : Option (AV × G) := match x with
  | .sl cs n t => match kSrc al esz y g with
    | none => none
    | some (ds, m) =>
      if (n + m) * bytes ≤ 2 ^ 46 ∧ n + m ≤ 2 ^ 62 ∧ cs.length = n * esz ∧ ds.length = m * esz then
        match t with
        | .non => none
        | .rig => if m = 0 then some (.sl cs n .rig, g) else some (.sl (cs ++ ds) (n + m) (.own id esz), ⟨upd g.hp id (some (.tok true)), g.nx⟩)
        | .own tk e => match rd g al tk with
          | some (.tok true) => if e = esz then some (.sl (cs ++ ds) (n + m) (.own id esz), ⟨upd (upd g.hp tk (some (.tok false))) id (some (.tok true)), g.nx⟩) else none
          | _ => none
      else none
  | _ => none
theorem kSrc_ok (al esz y g) : kSrc al esz y g = vSrc al esz y g := by unfold kSrc vSrc; simp only [frzLK_ok]; rfl
theorem kApp_ok (al id esz bytes x y g) : kApp al id esz bytes x y g = vApp al id esz bytes x y g := by
  unfold kApp vApp
  simp only [kSrc_ok]
  rfl
theorem kBsl_ok (id imm n cs g) : kBsl id imm n cs g = vBsl id imm n cs g := by unfold kBsl vBsl; simp only [frzLK_ok]; first | done | rfl
theorem kBoxI_ok (v g) : kBoxI v g = vBoxI v g := by unfold kBoxI vBoxI; simp only [frzLK_ok]; first | done | rfl
noncomputable def kCall (call : CS) (al : Nat → Bool) (id : Nat) (m : Mode) (f : AV) (args : List AV) (g : G) : Option (AV × G) := match f with
  | .fn fid fst caps => match m with
    | .raw => call fid (fst ++ args ++ caps) g
    | .pure => match frzLK (rd g al) depth (fst ++ args ++ caps) with
      | none => none
      | some bs => match call fid bs ⟨fun _ => none, 0⟩ with
        | none => none
        | some (v, g') => match frzK g'.hp depth v with
          | none => none
          | some v => if flat v || ((fst ++ args ++ caps).flatMap (vis (rd g al) depth)).isEmpty then some (v, g) else none
    | .lock => match frzLK (rd g al) depth (fst ++ args ++ caps) with
      | none => none
      | some bs => match call fid bs ⟨fun _ => none, 0⟩ with
        | none => none
        | some (v, g') => match frzK g'.hp depth v with
          | none => none
          | some v => some (v, ⟨lock g.hp ((fst ++ args ++ caps).flatMap (vis (rd g al) depth)), g.nx⟩)
    | .thaw => match frzLK (rd g al) depth (fst ++ args ++ caps) with
      | none => none
      | some bs => match call fid bs ⟨fun _ => none, 0⟩ with
        | some (.mp b 0, g') => match g'.hp b with
          | some (.cells cs false) => match frzLK g'.hp depth cs with
            | some cs' =>
              if ((fst ++ args ++ caps).flatMap (vis (rd g al) depth)).isEmpty && !(cs.flatMap (vis g'.hp depth)).contains b then some (.mp id 0, ⟨upd g.hp id (some (.cells cs' false)), g.nx⟩) else none
            | none => none
          | _ => none
        | _ => none
  | _ => none
theorem kCall_ok (call al id m f args g) : kCall call al id m f args g = vCall call al id m f args g := by
  unfold kCall vCall
  simp only [frzLK_ok, frzK_ok]
  rfl
abbrev Orc := Nat → List AV → Option AV
noncomputable def kev (b : Env) (t : ET) : Env := fun n => match t.get n with | some v => v | none => b n
noncomputable def putO {α : Type} (d : Option Nat) (v : AV) (t : ET) (k : ET → α) : α := match d with
  | some d => ET.putK v (d + 1) t d k
  | none => k t
theorem putO_ok {α : Type} (b : Env) (d : Option Nat) (v : AV) (t : ET) (k : ET → α) : ∃ t', putO d v t k = k t' ∧ kev b t' = put (kev b t) d v := by
  cases d with
  | none => exact ⟨t, rfl, rfl⟩
  | some d =>
    obtain ⟨t', h1, h2⟩ := ET.putK_ok v (d + 1) t d k (by omega)
    refine ⟨t', h1, ?_⟩
    funext j
    simp only [kev, put, upd, h2]
    by_cases e : j = d
    · simp only [if_pos e]
    · simp only [if_neg e]
noncomputable def ltI (a b : Int) : Bool := Int.rec (motive := fun _ => Bool) (fun m => Int.rec (motive := fun _ => Bool) (fun n => Nat.ble (Nat.add m 1) n) (fun _ => false) b) (fun m => Int.rec (motive := fun _ => Bool) (fun _ => true) (fun n => Nat.ble (Nat.add n 1) m) b) a
theorem ble_dec (m n : Nat) : Nat.ble m n = decide (m ≤ n) := by
  cases h : Nat.ble m n with
  | true => exact (decide_eq_true (Nat.le_of_ble_eq_true h)).symm
  | false => exact (decide_eq_false (fun hh => by rw [Nat.ble_eq_true_of_le hh] at h; cases h)).symm
theorem ltI_ok (a b : Int) : ltI a b = decide (a < b) := by
  cases a with
  | ofNat m =>
    cases b with
    | ofNat n =>
      show Nat.ble (m + 1) n = _
      rw [ble_dec, decide_eq_decide]
      show m + 1 ≤ n ↔ (m : Int) < (n : Int)
      omega
    | negSucc n =>
      show false = _
      refine (decide_eq_false ?_).symm
      show ¬ (m : Int) < Int.negSucc n
      omega
  | negSucc m =>
    cases b with
    | ofNat n =>
      show true = _
      refine (decide_eq_true ?_).symm
      show Int.negSucc m < (n : Int)
      omega
    | negSucc n =>
      show Nat.ble (n + 1) m = _
      rw [ble_dec, decide_eq_decide]
      omega
noncomputable def eqI (a b : Int) : Bool := Int.rec (motive := fun _ => Bool) (fun m => Int.rec (motive := fun _ => Bool) (fun n => Nat.beq m n) (fun _ => false) b) (fun m => Int.rec (motive := fun _ => Bool) (fun _ => false) (fun n => Nat.beq m n) b) a
theorem beq_dec (m n : Nat) : Nat.beq m n = decide (m = n) := by
  cases h : Nat.beq m n with
  | true => exact (decide_eq_true (Nat.eq_of_beq_eq_true h)).symm
  | false => exact (decide_eq_false (Nat.ne_of_beq_eq_false h)).symm
theorem eqI_ok (a b : Int) : eqI a b = (a == b) := by
  have e : (a == b) = decide (a = b) := by rw [Bool.eq_iff_iff]; simp
  rw [e]
  cases a with
  | ofNat m =>
    cases b with
    | ofNat n =>
      show Nat.beq m n = _
      rw [beq_dec, decide_eq_decide]
      show m = n ↔ (m : Int) = (n : Int)
      omega
    | negSucc n => exact (decide_eq_false (fun h => by cases h)).symm
  | negSucc m =>
    cases b with
    | ofNat n => exact (decide_eq_false (fun h => by cases h)).symm
    | negSucc n =>
      show Nat.beq m n = _
      rw [beq_dec, decide_eq_decide]
      omega
noncomputable def wrI (n : Int) : Int := Int.rec (motive := fun _ => Int) (fun m => Bool.rec (motive := fun _ => Int) (IntKind.i64.wrap (.ofNat m)) (.ofNat m) (Nat.ble m 9223372036854775807)) (fun m => Bool.rec (motive := fun _ => Int) (IntKind.i64.wrap (.negSucc m)) (.negSucc m) (Nat.ble m 9223372036854775807)) n
theorem wrI_in {x : Int} (h : -9223372036854775808 ≤ x) (h2 : x ≤ 9223372036854775807) : IntKind.i64.wrap x = x := by
  simp [IntKind.wrap, IntKind.bits, IntKind.signed]
  omega
theorem wrI_ok (n : Int) : wrI n = IntKind.i64.wrap n := by
  cases n with
  | ofNat m =>
    show Bool.rec (motive := fun _ => Int) (IntKind.i64.wrap (.ofNat m)) (.ofNat m) (Nat.ble m 9223372036854775807) = _
    rw [ble_dec]
    by_cases h : m ≤ 9223372036854775807
    · rw [decide_eq_true h]
      exact (wrI_in (x := (m : Int)) (by omega) (by omega)).symm
    · rw [decide_eq_false h]
  | negSucc m =>
    show Bool.rec (motive := fun _ => Int) (IntKind.i64.wrap (.negSucc m)) (.negSucc m) (Nat.ble m 9223372036854775807) = _
    rw [ble_dec]
    by_cases h : m ≤ 9223372036854775807
    · rw [decide_eq_true h]
      exact (wrI_in (x := Int.negSucc m) (by omega) (by omega)).symm
    · rw [decide_eq_false h]
noncomputable def addI (a b : Int) : Int := Int.rec (motive := fun _ => Int) (fun m => Int.rec (motive := fun _ => Int) (fun n => .ofNat (Nat.add m n)) (fun n => Int.add (.ofNat m) (.negSucc n)) b) (fun m => Int.add (.negSucc m) b) a
theorem addI_ok (a b : Int) : addI a b = a + b := by cases a <;> cases b <;> rfl
noncomputable def kII (op : BinOp) : Int → Int → Option AV := BinOp.casesOn (motive := fun _ => Int → Int → Option AV) op
  (fun a b => some (.i .i64 (wrI (addI a b)))) (fun a b => some (.i .i64 (wrI (Int.sub a b)))) (ibin .mul .i64) (ibin .quo .i64) (ibin .rem .i64) (ibin .and .i64) (ibin .or .i64) (ibin .xor .i64)
  (ishift .shl .i64) (ishift .shr .i64) (ibin .andNot .i64) (fun a b => some (.b (eqI a b))) (fun a b => some (.b (!eqI a b))) (fun a b => some (.b (ltI a b))) (fun a b => some (.b (!ltI b a))) (fun a b => some (.b (ltI b a))) (fun a b => some (.b (!ltI a b)))
theorem kII_ok (op : BinOp) (a b : Int) : kII op a b = abin op (.i .i64 a) (.i .i64 b) := by
  cases op
  · show some (AV.i .i64 (wrI (addI a b))) = _
    rw [wrI_ok, addI_ok]; simp [abin, ibin]
  · show some (AV.i .i64 (wrI (a - b))) = _
    rw [wrI_ok]; simp [abin, ibin]
  · show ibin .mul .i64 a b = _; simp [abin]
  · show ibin .quo .i64 a b = _; simp [abin]
  · show ibin .rem .i64 a b = _; simp [abin]
  · show ibin .and .i64 a b = _; simp [abin]
  · show ibin .or .i64 a b = _; simp [abin]
  · show ibin .xor .i64 a b = _; simp [abin]
  · show ishift .shl .i64 a b = _; simp [abin]
  · show ishift .shr .i64 a b = _; simp [abin]
  · show ibin .andNot .i64 a b = _; simp [abin]
  · show some (AV.b (eqI a b)) = _
    rw [eqI_ok]; simp [abin, ibin]
  · show some (AV.b (!eqI a b)) = _
    rw [eqI_ok]; simp only [abin, ibin, if_true]; rfl
  · show some (AV.b (ltI a b)) = _
    rw [ltI_ok]; simp [abin, ibin]
  · show some (AV.b (!ltI b a)) = _
    rw [ltI_ok]; simp [abin, ibin]
    rw [← decide_not, decide_eq_decide]; omega
  · show some (AV.b (ltI b a)) = _
    rw [ltI_ok]; simp [abin, ibin]
  · show some (AV.b (!ltI a b)) = _
    rw [ltI_ok]; simp [abin, ibin]
    rw [← decide_not, decide_eq_decide]; omega
noncomputable def kBin (op : BinOp) (x y : AV) : Option AV := match x with
  | .i k a => (match k with
    | .i64 => (match y with
      | .i k' b => (match k' with
        | .i64 => kII op a b
        | k' => abin op (.i .i64 a) (.i k' b))
      | y => abin op (.i .i64 a) y)
    | k => abin op (.i k a) y)
  | x => abin op x y
theorem kBin_ok (op : BinOp) (x y : AV) : kBin op x y = abin op x y := by
  cases x with
  | i k a =>
    cases k <;> first
      | rfl
      | (cases y with
        | i k' b => cases k' <;> first | rfl | exact kII_ok op a b
        | _ => rfl)
  | _ => rfl
noncomputable def frcR (r : Option (AV × G)) : Option (AV × G) := match r with
  | some (v, g) => frcV v fun v => some (v, g)
  | none => none
theorem frcR_ok (r : Option (AV × G)) : frcR r = r := by
  cases r with
  | none => rfl
  | some p =>
    obtain ⟨v, g⟩ := p
    show frcV v (fun v => some (v, g)) = _
    rw [frcV_ok]
abbrev KO := Orc → CS → (Nat → Bool) → Nat → Nat → Env → G → Option (AV × G)
noncomputable def ko_mv (x : Opd) : KO := fun _ _ _ _ _ e g => some (x.ev e, g)
noncomputable def ko_pick (c a b : Opd) : KO := fun _ _ _ _ _ e g => vPick (c.ev e) (a.ev e) (b.ev e) g
noncomputable def ko_new (zero : List AV) : KO := fun _ _ _ _ id _ g => some (.mp id 0, ⟨upd g.hp id (some (.cells zero false)), g.nx⟩)
noncomputable def ko_box (x : Opd) : KO := fun _ _ _ _ id e g => vBox id (x.ev e) g
noncomputable def ko_boxI (x : Opd) : KO := fun _ _ _ _ _ e g => kBoxI (x.ev e) g
noncomputable def ko_build (zero : List AV) (parts : List (Nat × Nat × Opd)) : KO := fun _ _ _ _ _ e g => frcR (vMapL .agg g (fill e zero parts))
noncomputable def ko_bsl (imm : Bool) (n : Nat) (zero : List AV) (parts : List (Nat × Nat × Opd)) : KO := fun _ _ _ _ id e g => frcR (kBsl id imm n (fill e zero parts) g)
noncomputable def ko_ld (agg : Option Nat) (x : Opd) : KO := fun _ _ al _ _ e g => vLd al agg (x.ev e) g
noncomputable def ko_st (n : Nat) (a x : Opd) : KO := fun _ _ al _ _ e g => vSt al n (a.ev e) (x.ev e) g
noncomputable def ko_stL (n : Nat) (a x : Opd) : KO := fun _ _ al lo _ e g => vSt (fun i => decide (lo ≤ i) && al i) n (a.ev e) (x.ev e) g
noncomputable def ko_ldF (agg : Option Nat) (x : Opd) : KO := fun _ _ al _ _ e g => vLdF al agg (x.ev e) g
noncomputable def ko_stW (n : Nat) (a x : Opd) : KO := fun _ _ al _ _ e g => vSt al n (a.ev e) (x.ev e) g
noncomputable def ko_ldQ (agg : Option Nat) (x : Opd) (t : Nat) : KO := fun _ _ al _ _ e g => vLdQ al agg (x.ev e) (e t) g
noncomputable def ko_stN (n : Nat) (a x : Opd) (ts : List Nat) : KO := fun _ _ al _ _ e g => vStN al n (a.ev e) (x.ev e) (ts.map e) g
noncomputable def ko_nilck (x : Opd) : KO := fun _ _ _ _ _ e g => vNil (x.ev e) g
noncomputable def ko_bin (op : BinOp) (x y : Opd) : KO := fun _ _ _ _ _ e g => frcR (vMap g (kBin op (x.ev e) (y.ev e)))
noncomputable def ko_eqb (neg : Bool) (x y : Opd) : KO := fun _ _ _ _ _ e g => frcR (vMap g (negb neg (aeqb (x.ev e) (y.ev e))))
noncomputable def ko_eqn (neg : Bool) (x y : Opd) : KO := fun _ _ _ _ _ e g => frcR (vMap g (negb neg (aeqn (x.ev e) (y.ev e))))
noncomputable def ko_eqa (neg : Bool) (ks : List Nat) (x y : Opd) : KO := fun _ _ _ _ _ e g => frcR (vMap g (negb neg (aeqa ks (x.ev e) (y.ev e))))
noncomputable def ko_un (op : UnOp) (x : Opd) : KO := fun _ _ _ _ _ e g => frcR (vMap g (aun op (x.ev e)))
noncomputable def ko_conv (k : IntKind) (x : Opd) : KO := fun _ _ _ _ _ e g => frcR (vConv k (x.ev e) g)
noncomputable def ko_mkfn (f : Nat) (fst caps : List Opd) : KO := fun _ _ _ _ _ e g => some (.fn f (fst.map (·.ev e)) (caps.map (·.ev e)), g)
noncomputable def ko_mkmap : KO := fun _ _ _ _ id _ g => some (.mm id, ⟨upd g.hp id (some (.map [])), g.nx⟩)
noncomputable def ko_mput (m k v : Opd) : KO := fun _ _ al _ _ e g => vMput al (m.ev e) (k.ev e) (v.ev e) g
noncomputable def ko_mget (m k : Opd) : KO := fun _ _ al _ _ e g => vMget al (m.ev e) (k.ev e) g
noncomputable def ko_mksl (zero : List AV) (esz bytes : Nat) (len cap : Opd) : KO := fun _ _ _ _ id e g => frcR (vMksl id zero esz bytes (len.ev e) (cap.ev e) g)
noncomputable def ko_slice (esz : Nat) (x : Opd) (lo hi mx : Option Opd) : KO := fun _ _ _ _ _ e g => frcR (vSlice esz (x.ev e) (evo e lo) (evo e hi) (evo e mx) g)
noncomputable def ko_fa (off : Nat) (x : Opd) : KO := fun _ _ _ _ _ e g => vFa off (x.ev e) g
noncomputable def ko_fld (off : Nat) (agg : Option Nat) (x : Opd) : KO := fun _ _ _ _ _ e g => vFld off agg (x.ev e) g
noncomputable def ko_ia (esz : Nat) (x i : Opd) : KO := fun _ _ _ _ _ e g => vIa esz (x.ev e) (i.ev e) g
noncomputable def ko_iaa (len esz : Nat) (x i : Opd) : KO := fun _ _ _ _ _ e g => vIaa len esz (x.ev e) (i.ev e) g
noncomputable def ko_idx (len esz : Nat) (agg : Option Nat) (x i : Opd) : KO := fun _ _ _ _ _ e g => vIdx len esz agg (x.ev e) (i.ev e) g
noncomputable def ko_sidx (x i : Opd) : KO := fun _ _ _ _ _ e g => frcR (vSidx (x.ev e) (i.ev e) g)
noncomputable def ko_ext (i : Nat) (x : Opd) : KO := fun _ _ _ _ _ e g => vExt i (x.ev e) g
noncomputable def ko_len (x : Opd) : KO := fun _ _ _ _ _ e g => vLen (x.ev e) g
noncomputable def ko_slen (x : Opd) : KO := fun _ _ _ _ _ e g => frcR (vSlen (x.ev e) g)
noncomputable def ko_sslice (x : Opd) (lo hi : Option Opd) : KO := fun _ _ _ _ _ e g => frcR (vSslice (x.ev e) (evo e lo) (evo e hi) g)
noncomputable def ko_mx (x y : Opd) : KO := fun _ _ _ _ _ e g => frcR (vMx (x.ev e) (y.ev e) g)
noncomputable def ko_mn (x y : Opd) : KO := fun _ _ _ _ _ e g => frcR (vMn (x.ev e) (y.ev e) g)
noncomputable def ko_app (esz bytes : Nat) (x y : Opd) : KO := fun _ _ al _ id e g => frcR (kApp al id esz bytes (x.ev e) (y.ev e) g)
noncomputable def ko_appM (esz bytes : Nat) (x y : Opd) : KO := fun _ _ al _ id e g => frcR (vAppM al id esz bytes (x.ev e) (y.ev e) g)
noncomputable def ko_cutM (esz : Nat) (x hi : Opd) : KO := fun _ _ al _ id e g => frcR (vCutM al id esz (x.ev e) (hi.ev e) g)
noncomputable def ko_bad : KO := fun _ _ _ _ _ _ _ => none
noncomputable def ko_pure (f : Opd) (args : List Opd) : KO := fun orc call al _ id e g => match f.ev e with
  | .fn fid fst caps => (match frzLK (rd g al) depth (fst ++ args.map (·.ev e) ++ caps) with
    | some bs => (match orc fid bs with
      | some v => frcV v fun v => if flat v || ((fst ++ args.map (·.ev e) ++ caps).flatMap (vis (rd g al) depth)).isEmpty then some (v, g) else none
      | none => frcR (kCall call al id .pure (f.ev e) (args.map (·.ev e)) g))
    | none => none)
  | _ => none
noncomputable def ko_call (m : Mode) (f : Opd) (args : List Opd) : KO := Mode.casesOn (motive := fun _ => KO) m (ko_pure f args)
  (fun _ call al _ id e g => frcR (kCall call al id .lock (f.ev e) (args.map (·.ev e)) g))
  (fun _ call al _ id e g => frcR (kCall call al id .thaw (f.ev e) (args.map (·.ev e)) g))
  (fun _ call al _ id e g => frcR (kCall call al id .raw (f.ev e) (args.map (·.ev e)) g))
section
variable (orc : Orc)
noncomputable def opK (call : CS) (al : Nat → Bool) (lo id : Nat) (op : AOp) (e : Env) (g : G) : Option (AV × G) :=
  AOp.casesOn (motive := fun _ => KO) op ko_mv ko_pick ko_new ko_box ko_boxI ko_build ko_bsl ko_ld ko_ldF ko_ldQ ko_st ko_stL ko_stW ko_stN ko_nilck ko_bin ko_eqb ko_eqn ko_eqa ko_un ko_conv ko_mkfn ko_mkmap ko_mput ko_mget ko_mksl ko_slice ko_fa ko_fld ko_ia ko_iaa ko_idx ko_sidx ko_ext ko_len ko_slen ko_sslice ko_mx ko_mn ko_app ko_appM ko_cutM ko_bad ko_call orc call al lo id e g
noncomputable def regK (call : CS) (b : Env) (draw : Bool) (base : Nat) (ops : List AOper) : Nat → ET → G → Option (ET × G) :=
  List.rec (motive := fun _ => Nat → ET → G → Option (ET × G)) (fun _ t g => some (t, g)) (fun o _ ih j t g =>
    match wanted (kev b t) o.grd with
    | true => match opK orc call (allow draw base o.pre) base (base + j) o.op (kev b t) g with
      | some (v, g) => putO o.dst v t fun t => ih (j + 1) t g
      | none => none
    | false => putO o.dst .undef t fun t => ih (j + 1) t g) ops
noncomputable def iterK (f : ET → G → Option (Out × ET × G)) (k : Nat) : ET → G → Option (Out × ET × G) :=
  Nat.rec (motive := fun _ => ET → G → Option (Out × ET × G)) (fun _ _ => none) (fun _ ih t g => match f t g with
    | some (.nrm, t, g) => ih t g
    | r => r) k
noncomputable def codeK (call : CS) (b : Env) (k : Nat) (c : ACode) : ET → G → Option (Out × ET × G) :=
  ACode.rec (motive := fun _ => ET → G → Option (Out × ET × G))
    (fun t g => some (.nrm, t, g))
    (fun draw ops t g => frcN g.nx fun base => frcN (base + ops.length) fun nx => match regK orc call b draw base ops 0 t ⟨g.hp, nx⟩ with
      | some (t, g) => some (.nrm, t, g)
      | none => none)
    (fun _ _ fa fb t g => match fa t g with
      | some (.nrm, t, g) => fb t g
      | r => r)
    (fun c _ _ ft ff t g => match c.ev (kev b t) with
      | .b x => Bool.rec (motive := fun _ => Option (Out × ET × G)) (ff t g) (ft t g) x
      | _ => none)
    (fun id _ fc t g => match fc t g with
      | some (.ext n, t, g) => some (Bool.rec (motive := fun _ => Out) (.ext n) .nrm (Nat.beq n id), t, g)
      | r => r)
    (fun n _ fc t g => fc t ⟨lock g.hp (vis g.hp depth (kev b t n)), g.nx⟩)
    (fun n _ fc t g => fc t ⟨lock g.hp (ids1 (kev b t n)), g.nx⟩)
    (fun n _ fc t g => match frzK g.hp depth (kev b t n) with
      | some v => ET.putK v (n + 1) t n fun t' => fc t' ⟨lock g.hp (vis g.hp depth (kev b t n)), g.nx⟩
      | none => none)
    (fun _ fc t g => fc t g)
    (fun t g => some (.nrm, t, g))
    (fun _ fc t g => iterK fc k t g)
    (fun id t g => some (.ext id, t, g))
    (fun t g => some (.ret, t, g)) c
variable (F : Funs)
noncomputable def callK (k : Nat) : CS :=
  Nat.rec (motive := fun _ => CS) (fun _ _ _ => none) (fun k ih f args g => match F f with
    | none => none
    | some fn => match codeK orc ih (argEnv args) k fn.body .leaf g with
      | some (.nrm, t, g) => (resE fn.res (kev (argEnv args) t) g).map (·, g)
      | some (.ret, t, g) => (resE fn.res (kev (argEnv args) t) g).map (·, g)
      | _ => none) k
end
def OrcOk (F : Funs) (orc : Orc) : Prop := ∀ f bs v, orc f bs = some v → pureS F f bs = some v
section
variable {F : Funs} {orc : Orc} (ho : OrcOk F orc)
include ho
theorem opK_ok {call : CS} (hc : CLe call (callS F)) {al lo id op e g r} (h : opK orc call al lo id op e g = some r) : opE (callS F) al lo id op e g = some r := by
  cases op with
  | boxI x =>
    have h : kBoxI (x.ev e) g = some r := h
    rw [kBoxI_ok] at h; exact h
  | build z ps =>
    have h : frcR (vMapL .agg g (fill e z ps)) = some r := h
    rw [frcR_ok] at h; exact h
  | bsl imm n z ps =>
    have h : frcR (kBsl id imm n (fill e z ps) g) = some r := h
    rw [frcR_ok, kBsl_ok] at h; exact h
  | bin o x y =>
    have h : frcR (vMap g (kBin o (x.ev e) (y.ev e))) = some r := h
    rw [frcR_ok, kBin_ok] at h; exact h
  | eqb neg x y =>
    have h : frcR (vMap g (negb neg (aeqb (x.ev e) (y.ev e)))) = some r := h
    rw [frcR_ok] at h; exact h
  | eqn neg x y =>
    have h : frcR (vMap g (negb neg (aeqn (x.ev e) (y.ev e)))) = some r := h
    rw [frcR_ok] at h; exact h
  | eqa neg ks x y =>
    have h : frcR (vMap g (negb neg (aeqa ks (x.ev e) (y.ev e)))) = some r := h
    rw [frcR_ok] at h; exact h
  | un o x =>
    have h : frcR (vMap g (aun o (x.ev e))) = some r := h
    rw [frcR_ok] at h; exact h
  | conv k x =>
    have h : frcR (vConv k (x.ev e) g) = some r := h
    rw [frcR_ok] at h; exact h
  | mksl z esz bytes len cap =>
    have h : frcR (vMksl id z esz bytes (len.ev e) (cap.ev e) g) = some r := h
    rw [frcR_ok] at h; exact h
  | slice esz x lo' hi mx =>
    have h : frcR (vSlice esz (x.ev e) (evo e lo') (evo e hi) (evo e mx) g) = some r := h
    rw [frcR_ok] at h; exact h
  | sidx x i =>
    have h : frcR (vSidx (x.ev e) (i.ev e) g) = some r := h
    rw [frcR_ok] at h; exact h
  | slen x =>
    have h : frcR (vSlen (x.ev e) g) = some r := h
    rw [frcR_ok] at h; exact h
  | sslice x lo' hi =>
    have h : frcR (vSslice (x.ev e) (evo e lo') (evo e hi) g) = some r := h
    rw [frcR_ok] at h; exact h
  | mx x y =>
    have h : frcR (vMx (x.ev e) (y.ev e) g) = some r := h
    rw [frcR_ok] at h; exact h
  | mn x y =>
    have h : frcR (vMn (x.ev e) (y.ev e) g) = some r := h
    rw [frcR_ok] at h; exact h
  | app esz bytes x y =>
    have h : frcR (kApp al id esz bytes (x.ev e) (y.ev e) g) = some r := h
    rw [frcR_ok, kApp_ok] at h; exact h
  | appM esz bytes x y =>
    have h : frcR (vAppM al id esz bytes (x.ev e) (y.ev e) g) = some r := h
    rw [frcR_ok] at h; exact h
  | cutM esz x hi =>
    have h : frcR (vCutM al id esz (x.ev e) (hi.ev e) g) = some r := h
    rw [frcR_ok] at h; exact h
  | bad => cases h
  | call m f args =>
    cases m with
    | raw =>
      have h : frcR (kCall call al id .raw (f.ev e) (args.map (·.ev e)) g) = some r := h
      rw [frcR_ok, kCall_ok] at h
      exact opE_mono (op := .call .raw f args) hc h
    | lock =>
      have h : frcR (kCall call al id .lock (f.ev e) (args.map (·.ev e)) g) = some r := h
      rw [frcR_ok, kCall_ok] at h
      exact opE_mono (op := .call .lock f args) hc h
    | thaw =>
      have h : frcR (kCall call al id .thaw (f.ev e) (args.map (·.ev e)) g) = some r := h
      rw [frcR_ok, kCall_ok] at h
      exact opE_mono (op := .call .thaw f args) hc h
    | pure =>
      have h : ko_pure f args orc call al lo id e g = some r := h
      unfold ko_pure at h
      split at h
      · rename_i fid fst caps hf
        split at h
        · rename_i bs hb
          split at h
          · rename_i v hv
            rw [frcV_ok] at h
            split at h
            · rename_i hfl
              cases h
              show vPure F al (f.ev e) (args.map (·.ev e)) g = _
              rw [hf]
              rw [frzLK_ok] at hb
              exact vPure_ok hb (ho _ _ _ hv) hfl
            · cases h
          · rw [frcR_ok, kCall_ok] at h
            exact opE_mono (op := .call .pure f args) hc h
        · cases h
      · cases h
  | _ => exact h
theorem regK_ok {call : CS} (hc : CLe call (callS F)) {b : Env} {draw : Bool} {base : Nat} : ∀ {ops : List AOper} {j : Nat} {t : ET} {g : G} {t' g'}, regK orc call b draw base ops j t g = some (t', g') → regE (callS F) draw base j ops (kev b t) g = some (kev b t', g')
  | [], j, t, g, t', g', h => by cases h; rfl
  | o :: os, j, t, g, t', g', h => by
    have h : (match wanted (kev b t) o.grd with
      | true => match opK orc call (allow draw base o.pre) base (base + j) o.op (kev b t) g with
        | some (v, g) => putO o.dst v t fun t => regK orc call b draw base os (j + 1) t g
        | none => none
      | false => putO o.dst .undef t fun t => regK orc call b draw base os (j + 1) t g) = some (t', g') := h
    simp only [regE]
    cases hw : wanted (kev b t) o.grd with
    | true =>
      rw [hw] at h
      simp only [if_true]
      cases hop : opK orc call (allow draw base o.pre) base (base + j) o.op (kev b t) g with
      | none => rw [hop] at h; cases h
      | some r =>
        obtain ⟨v, g1⟩ := r
        rw [hop] at h
        simp only at h
        rw [opK_ok ho hc hop]
        obtain ⟨t1, e1, e2⟩ := putO_ok b o.dst v t fun t => regK orc call b draw base os (j + 1) t g1
        rw [e1] at h
        simp only
        rw [← e2]
        exact regK_ok hc h
    | false =>
      rw [hw] at h
      simp only [Bool.false_eq_true, if_false]
      obtain ⟨t1, e1, e2⟩ := putO_ok b o.dst .undef t fun t => regK orc call b draw base os (j + 1) t g
      simp only [e1] at h
      rw [← e2]
      exact regK_ok hc h
theorem codeK_ok {call : CS} (hc : CLe call (callS F)) {b : Env} {k : Nat} : ∀ {c : ACode} {t : ET} {g : G} {o t' g'}, codeK orc call b k c t g = some (o, t', g') → codeS F c (kev b t) g = some (o, kev b t', g') := by
  intro c
  induction c with
  | skip => intro t g o t' g' h; cases h; exact codeS_skip F _ _
  | lab => intro t g o t' g' h; cases h; exact codeS_lab F _ _
  | ext id => intro t g o t' g' h; cases h; exact codeS_ext F _ _ _
  | ret => intro t g o t' g' h; cases h; exact codeS_ret F _ _
  | scp c ih => intro t g o t' g' h; rw [codeS_scp]; exact ih h
  | lck n c ih => intro t g o t' g' h; rw [codeS_lck]; exact ih h
  | lckS n c ih => intro t g o t' g' h; rw [codeS_lckS]; exact ih h
  | imm n c ih =>
    intro t g o t' g' h
    have h : (match frzK g.hp depth (kev b t n) with
      | some v => ET.putK v (n + 1) t n fun t' => codeK orc call b k c t' ⟨lock g.hp (vis g.hp depth (kev b t n)), g.nx⟩
      | none => none) = some (o, t', g') := h
    rw [frzK_ok] at h
    rw [codeS_imm]
    cases hf : frz g.hp depth (kev b t n) with
    | none => rw [hf] at h; cases h
    | some v =>
      rw [hf] at h
      obtain ⟨t1, e1, e2⟩ := putO_ok b (some n) v t fun t' => codeK orc call b k c t' ⟨lock g.hp (vis g.hp depth (kev b t n)), g.nx⟩
      have e1' : ET.putK v (n + 1) t n (fun t' => codeK orc call b k c t' ⟨lock g.hp (vis g.hp depth (kev b t n)), g.nx⟩) = _ := e1
      simp only [e1'] at h
      have e3 : upd (kev b t) n v = kev b t1 := e2.symm
      simp only [e3]
      exact ih h
  | reg draw ops =>
    intro t g o t' g' h
    have h : (frcN g.nx fun base => frcN (base + ops.length) fun nx => match regK orc call b draw base ops 0 t ⟨g.hp, nx⟩ with
      | some (t, g) => some (Out.nrm, t, g)
      | none => none) = some (o, t', g') := h
    simp only [frcN_ok] at h
    rw [codeS_reg]
    cases hr : regK orc call b draw g.nx ops 0 t ⟨g.hp, g.nx + ops.length⟩ with
    | none => rw [hr] at h; cases h
    | some r =>
      obtain ⟨t1, g1⟩ := r
      rw [hr] at h
      cases h
      rw [regK_ok ho hc hr]
  | seq x y ihx ihy =>
    intro t g o t' g' h
    have h : (match codeK orc call b k x t g with
      | some (.nrm, t, g) => codeK orc call b k y t g
      | r => r) = some (o, t', g') := h
    rw [codeS_seq]
    cases hx : codeK orc call b k x t g with
    | none => rw [hx] at h; cases h
    | some r =>
      obtain ⟨o1, t1, g1⟩ := r
      rw [hx] at h
      rw [ihx hx]
      cases o1 with
      | nrm => exact ihy h
      | ext n => cases h; rfl
      | ret => cases h; rfl
  | cond x y z ihy ihz =>
    intro t g o t' g' h
    have h : (match x.ev (kev b t) with
      | .b w => Bool.rec (motive := fun _ => Option (Out × ET × G)) (codeK orc call b k z t g) (codeK orc call b k y t g) w
      | _ => none) = some (o, t', g') := h
    rw [codeS_cond]
    generalize x.ev (kev b t) = v at h ⊢
    cases v with
    | b w =>
      cases w with
      | true => exact ihy h
      | false => exact ihz h
    | _ => cases h
  | blk id c ih =>
    intro t g o t' g' h
    have h : (match codeK orc call b k c t g with
      | some (.ext n, t, g) => some (Bool.rec (motive := fun _ => Out) (.ext n) .nrm (Nat.beq n id), t, g)
      | r => r) = some (o, t', g') := h
    rw [codeS_blk]
    cases hx : codeK orc call b k c t g with
    | none => rw [hx] at h; cases h
    | some r =>
      obtain ⟨o1, t1, g1⟩ := r
      rw [hx] at h
      rw [ih hx]
      cases o1 with
      | nrm => cases h; rfl
      | ret => cases h; rfl
      | ext n =>
        simp only at h ⊢
        cases hb : Nat.beq n id with
        | true => rw [hb] at h; cases h; rw [if_pos (Nat.eq_of_beq_eq_true hb)]
        | false => rw [hb] at h; cases h; rw [if_neg (Nat.ne_of_beq_eq_false hb)]
  | loop c ih =>
    intro t g o t' g' h
    have key : ∀ (j : Nat) (t : ET) (g : G), iterK (codeK orc call b k c) j t g = some (o, t', g') → codeS F (.loop c) (kev b t) g = some (o, kev b t', g') := by
      intro j
      induction j with
      | zero => intro t g h; cases h
      | succ j ihj =>
        intro t g h
        have h : (match codeK orc call b k c t g with
          | some (.nrm, t, g) => iterK (codeK orc call b k c) j t g
          | r => r) = some (o, t', g') := h
        rw [codeS_loop]
        cases hx : codeK orc call b k c t g with
        | none => rw [hx] at h; cases h
        | some r =>
          obtain ⟨o1, t1, g1⟩ := r
          rw [hx] at h
          rw [ih hx]
          cases o1 with
          | nrm => exact ihj _ _ h
          | ext n => cases h; rfl
          | ret => cases h; rfl
    exact key k t g h
theorem callK_ok : ∀ (k : Nat), CLe (callK orc F k) (callS F)
  | 0 => fun _ _ _ _ h => by cases h
  | k + 1 => fun f asx g r h => by
    have h : (match F f with
      | none => none
      | some fn => match codeK orc (callK orc F k) (argEnv asx) k fn.body .leaf g with
        | some (.nrm, t, g) => (resE fn.res (kev (argEnv asx) t) g).map (·, g)
        | some (.ret, t, g) => (resE fn.res (kev (argEnv asx) t) g).map (·, g)
        | _ => none) = some r := h
    rw [callS_eq]
    cases hF : F f with
    | none => rw [hF] at h; cases h
    | some fn =>
      rw [hF] at h
      simp only at h ⊢
      have e0 : kev (argEnv asx) .leaf = argEnv asx := rfl
      cases hx : codeK orc (callK orc F k) (argEnv asx) k fn.body .leaf g with
      | none => rw [hx] at h; cases h
      | some q =>
        obtain ⟨o1, t1, g1⟩ := q
        rw [hx] at h
        have := codeK_ok ho (callK_ok k) hx
        rw [e0] at this
        rw [this]
        cases o1 with
        | nrm => exact h
        | ext n => cases h
        | ret => exact h
noncomputable def evK (orc : Orc) (F : Funs) (k : Nat) (rs : List ARes) (c : ACode) (e : Env) (g : G) : Bool :=
  match codeK orc (callK orc F k) e k c .leaf g with
  | some (.nrm, t, g) => (match resE rs (kev e t) g with | some v => (match frzK g.hp depth v with | some (.b x) => x | _ => false) | none => false)
  | some (.ret, t, g) => (match resE rs (kev e t) g with | some v => (match frzK g.hp depth v with | some (.b x) => x | _ => false) | none => false)
  | _ => false
theorem W_eval (k : Nat) {rs : List ARes} {c : ACode} {e : Env} {g : G} (h : evK orc F k rs c e g = true) : W F c e g (retQ rs (.b true)) := by
  unfold evK at h
  have fin : ∀ (t : ET) (g : G), (match resE rs (kev e t) g with | some v => (match frzK g.hp depth v with | some (.b x) => x | _ => false) | none => false) = true → (match resE rs (kev e t) g with | some v0 => frz g.hp depth v0 | none => none) = some (.b true) := by
    intro t g h
    cases hr : resE rs (kev e t) g with
    | none => rw [hr] at h; cases h
    | some v =>
      rw [hr] at h
      simp only [frzK_ok] at h ⊢
      cases hf : frz g.hp depth v with
      | none => rw [hf] at h; cases h
      | some w =>
        rw [hf] at h
        cases w <;> first | (cases h; done) | (simp only at h; subst h; rfl)
  split at h
  · rename_i t g1 hx
    exact ⟨_, _, _, codeK_ok ho (callK_ok ho k) hx, fin t g1 h⟩
  · rename_i t g1 hx
    exact ⟨_, _, _, codeK_ok ho (callK_ok ho k) hx, fin t g1 h⟩
  · cases h
end
end Go.Ab
end
section
set_option linter.unusedVariables false
set_option linter.unusedSimpArgs false
namespace Go.Ab
variable {F : Funs}
def u64s : List AV → Option (List Nat)
  | [] => some []
  | .i .u64 (.ofNat x) :: l => if x < 2 ^ 64 then (u64s l).map (x :: ·) else none
  | _ => none
def rwOf (xs : List Nat) : Rw := fun a => BitVec.ofNat 64 (xs.getD a 0)
theorem u64s_ok : ∀ {l : List AV} {xs : List Nat}, u64s l = some xs → l = xs.map (fun (x : Nat) => AV.i .u64 (x : Int)) ∧ ∀ x ∈ xs, x < 2 ^ 64
  | [], xs, h => by cases h; exact ⟨rfl, fun x hx => by cases hx⟩
  | v :: l, xs, h => by
    unfold u64s at h
    split at h
    · rename_i h0; cases h0
    · rename_i x l' h0
      cases h0
      split at h
      · rename_i hx
        cases hu : u64s l with
        | none => rw [hu] at h; cases h
        | some ys =>
          rw [hu] at h
          cases h
          obtain ⟨h1, h2⟩ := u64s_ok hu
          refine ⟨by rw [List.map_cons, ← h1]; rfl, fun y hy => ?_⟩
          rcases List.mem_cons.1 hy with rfl | hy
          · exact hx
          · exact h2 y hy
      · cases h
    · cases h
def relOf : List AV → Option (Nat × List Nat)
  | .i .i64 (.ofNat n) :: l => if n ≤ 40 then (match u64s l with | some xs => if xs.length = 40 then some (n, xs) else none | none => none) else none
  | _ => none
theorem relOf_ok {cs : List AV} {n : Nat} {xs : List Nat} (h : relOf cs = some (n, xs)) : n ≤ 40 ∧ cs = relC n (rwOf xs) := by
  unfold relOf at h
  split at h
  · rename_i m l
    split at h
    · rename_i hm
      split at h
      · rename_i ys hu
        split at h
        · rename_i hl
          cases h
          refine ⟨hm, ?_⟩
          obtain ⟨h1, h2⟩ := u64s_ok hu
          subst h1
          show AV.i .i64 (n : Int) :: _ = AV.i .i64 (n : Int) :: rowsC (rwOf xs)
          congr 1
          refine List.ext_getElem? fun i => ?_
          by_cases hi : i < 40
          · rw [rowsC_get hi, List.getElem?_map, List.getElem?_eq_getElem (by omega)]
            simp only [Option.map_some, U, rwOf]
            have hx := h2 (xs[i]'(by omega)) (List.getElem_mem _)
            rw [List.getD_eq_getElem?_getD, List.getElem?_eq_getElem (by omega), Option.getD_some, BitVec.toNat_ofNat, Nat.mod_eq_of_lt hx]
          · rw [List.getElem?_eq_none (by rw [List.length_map]; omega), List.getElem?_eq_none (by rw [rowsC_len]; omega)]
        · cases h
      · cases h
    · cases h
  · cases h
def intsOf : List AV → Option (List Int)
  | [] => some []
  | .i .i64 x :: l => (match intsOf l with | some xs => some (x :: xs) | none => none)
  | _ => none
theorem intsOf_ok : ∀ {l : List AV} {xs : List Int}, intsOf l = some xs → l = intsC xs
  | [], xs, h => by cases h; rfl
  | v :: l, xs, h => by
    unfold intsOf at h
    split at h
    · rename_i h0; cases h0
    · rename_i x l' h0
      cases h0
      split at h
      · rename_i ys hu
        cases h
        rw [intsOf_ok hu]; rfl
      · cases h
    · cases h
def pairsOf : List AV → Option (List (Int × Int))
  | [] => some []
  | .i .i64 x :: .i .i64 y :: l => (match pairsOf l with | some xs => some ((x, y) :: xs) | none => none)
  | _ => none
theorem pairsOf_ok : ∀ {l : List AV} {xs : List (Int × Int)}, pairsOf l = some xs → l = pairsC xs
  | [], xs, h => by cases h; rfl
  | [v], xs, h => by
    unfold pairsOf at h
    split at h
    · rename_i h0; cases h0
    · rename_i h0; cases h0
    · cases h
  | v :: w :: l, xs, h => by
    unfold pairsOf at h
    split at h
    · rename_i h0; cases h0
    · rename_i x y l' h0
      cases h0
      split at h
      · rename_i ys hu
        cases h
        rw [pairsOf_ok hu]; rfl
      · cases h
    · cases h
def evsOf : List AV → Option (List Ev)
  | [] => some []
  | .i .i64 a :: .i .i64 b :: .i .i64 c :: .i .i64 d :: .i .i64 e :: .b x :: l => (match evsOf l with | some xs => some (⟨a, b, c, d, e, x⟩ :: xs) | none => none)
  | _ => none
theorem evsOf_len : ∀ (n : Nat) {l : List AV} {xs : List Ev}, l.length ≤ n → evsOf l = some xs → l = evsC xs
  | n, [], xs, _, h => by cases h; rfl
  | 0, v :: l, xs, hn, h => by simp at hn
  | n + 1, v :: l, xs, hn, h => by
    unfold evsOf at h
    split at h
    · rename_i h0; cases h0
    · rename_i a b c d e x l' h0
      cases h0
      split at h
      · rename_i ys hu
        cases h
        have hl : l'.length ≤ n := by simp only [List.length_cons] at hn; omega
        rw [evsOf_len n hl hu]; rfl
      · cases h
    · cases h
theorem evsOf_ok {l : List AV} {xs : List Ev} (h : evsOf l = some xs) : l = evsC xs := evsOf_len l.length (Nat.le_refl _) h
def slI : AV → Option (List Int)
  | .sl cs n .non => (match intsOf cs with | some xs => if xs.length = n then some xs else none | none => none)
  | _ => none
theorem slI_ok {v : AV} {xs : List Int} (h : slI v = some xs) : v = .sl (intsC xs) xs.length .non := by
  unfold slI at h
  split at h
  · split at h
    · rename_i ys hu
      split at h
      · rename_i hn
        cases h
        rw [intsOf_ok hu, hn]
      · cases h
    · cases h
  · cases h
def slP : AV → Option (List (Int × Int))
  | .sl cs n .non => (match pairsOf cs with | some xs => if xs.length = n then some xs else none | none => none)
  | _ => none
theorem slP_ok {v : AV} {xs : List (Int × Int)} (h : slP v = some xs) : v = .sl (pairsC xs) xs.length .non := by
  unfold slP at h
  split at h
  · split at h
    · rename_i ys hu
      split at h
      · rename_i hn
        cases h
        rw [pairsOf_ok hu, hn]
      · cases h
    · cases h
  · cases h
def coOf : List AV → Option (List (List Int))
  | [] => some []
  | v :: l => (match slI v with | some x => (match coOf l with | some xs => some (x :: xs) | none => none) | none => none)
theorem coOf_ok : ∀ {l : List AV} {xs : List (List Int)}, coOf l = some xs → l = coC xs
  | [], xs, h => by cases h; rfl
  | v :: l, xs, h => by
    unfold coOf at h
    split at h
    · rename_i x hx
      split at h
      · rename_i ys hu
        cases h
        rw [coOf_ok hu, slI_ok hx]; rfl
      · cases h
    · cases h
def grOf : List AV → Option Gr
  | [.i .i64 locs, .sl es ne .non, rf, .sl cc nc .non, rmw, data, ctrl, ctrli] =>
    (match evsOf es with
    | none => none
    | some es => (match slI rf with
      | none => none
      | some rf => (match coOf cc with
        | none => none
        | some cc => (match slP rmw with
          | none => none
          | some rmw => (match slP data with
            | none => none
            | some data => (match slP ctrl with
              | none => none
              | some ctrl => (match slP ctrli with
                | none => none
                | some ctrli => if es.length = ne ∧ cc.length = nc then some ⟨locs, es, rf, cc, rmw, data, ctrl, ctrli⟩ else none)))))))
  | _ => none
theorem grOf_ok {cs : List AV} {X : Gr} (h : grOf cs = some X) : cs = grC X := by
  unfold grOf at h
  split at h
  · split at h
    · cases h
    · rename_i es he
      split at h
      · cases h
      · rename_i rf hrf
        split at h
        · cases h
        · rename_i cc hcc
          split at h
          · cases h
          · rename_i r1 h1
            split at h
            · cases h
            · rename_i r2 h2
              split at h
              · cases h
              · rename_i r3 h3
                split at h
                · cases h
                · rename_i r4 h4
                  split at h
                  · rename_i hn
                    cases h
                    rw [evsOf_ok he, slI_ok hrf, coOf_ok hcc, slP_ok h1, slP_ok h2, slP_ok h3, slP_ok h4, ← hn.1, ← hn.2]; rfl
                  · cases h
  · cases h
def is2 (r : Nat → List Nat → Nat → List Nat → AV) : List AV → Option AV
  | [.ptr a, .ptr b] => (match relOf a with | some (n, xs) => (match relOf b with | some (m, ys) => some (r n xs m ys) | none => none) | none => none)
  | _ => none
def is1 (r : Nat → List Nat → AV) : List AV → Option AV
  | [.ptr a] => (match relOf a with | some (n, xs) => some (r n xs) | none => none)
  | _ => none
theorem is2_ok {r : Nat → List Nat → Nat → List Nat → AV} {f : Nat} (h : ∀ n m xs ys, n ≤ 40 → m ≤ 40 → pureS F f [.ptr (relC n (rwOf xs)), .ptr (relC m (rwOf ys))] = some (r n xs m ys)) {bs : List AV} {v : AV} (hv : is2 r bs = some v) : pureS F f bs = some v := by
  unfold is2 at hv
  split at hv
  · split at hv
    · rename_i h1
      split at hv
      · rename_i h2
        cases hv
        obtain ⟨a1, rfl⟩ := relOf_ok h1
        obtain ⟨a2, rfl⟩ := relOf_ok h2
        exact h _ _ _ _ a1 a2
      · cases hv
    · cases hv
  · cases hv
theorem is1_ok {r : Nat → List Nat → AV} {f : Nat} (h : ∀ n xs, n ≤ 40 → pureS F f [.ptr (relC n (rwOf xs))] = some (r n xs)) {bs : List AV} {v : AV} (hv : is1 r bs = some v) : pureS F f bs = some v := by
  unfold is1 at hv
  split at hv
  · split at hv
    · rename_i h1
      cases hv
      obtain ⟨a1, rfl⟩ := relOf_ok h1
      exact h _ _ a1
    · cases hv
  · cases hv
def isHas : List AV → Option AV
  | [.ptr a, .i .i64 x, .i .i64 y] => (match relOf a with | some (n, xs) => some (.b (has n (rwOf xs) x y)) | none => none)
  | _ => none
def isNew : List AV → Option AV
  | [.i .i64 n, .sl cs k _] => (match pairsOf cs with | some l => if l.length = k ∧ k ≤ 100000 then some (.ptr (relC (clamp n) (newR (clamp n) l))) else none | none => none)
  | _ => none
def relOrc : Orc := fun f bs =>
  if f = 13 then isHas bs
  else if f = 24 then is2 (fun n xs m ys => .ptr (relC (max n m) (orR (rwOf xs) (rwOf ys)))) bs
  else if f = 23 then is2 (fun n xs m ys => .ptr (relC (max n m) (thenR n (rwOf xs) (rwOf ys)))) bs
  else if f = 18 then is2 (fun n xs m ys => .ptr (relC (max n m) (andR (rwOf xs) (rwOf ys)))) bs
  else if f = 12 then is1 (fun n xs => .ptr (relC n (plusR n (rwOf xs)))) bs
  else if f = 16 then is1 (fun n xs => .ptr (relC n (maybeK n (rwOf xs)))) bs
  else if f = 14 then is1 (fun n xs => .b (loopsR n (rwOf xs))) bs
  else if f = 15 then is1 (fun n xs => .sl (pairsC (pairsR n (rwOf xs))) (pairsR n (rwOf xs)).length .non) bs
  else if f = 17 then is1 (fun n xs => .i .i64 n) bs
  else if f = 11 then isNew bs
  else none
theorem relOrc_ok (pk : Pk_rel F) : OrcOk F relOrc := by
  intro f bs v h
  unfold relOrc at h
  split at h
  · rename_i hf; subst hf
    unfold isHas at h
    split at h
    · split at h
      · rename_i h1
        cases h
        obtain ⟨a1, rfl⟩ := relOf_ok h1
        exact sp_has pk a1 _ _ _
      · cases h
    · cases h
  split at h
  · rename_i hf; subst hf; exact is2_ok (fun n m xs ys hn hm => sp_or pk hn hm _ _) h
  split at h
  · rename_i hf; subst hf; exact is2_ok (fun n m xs ys hn hm => sp_then pk hn hm _ _) h
  split at h
  · rename_i hf; subst hf; exact is2_ok (fun n m xs ys hn hm => sp_and pk hn hm _ _) h
  split at h
  · rename_i hf; subst hf; exact is1_ok (fun n xs hn => sp_plus pk hn _) h
  split at h
  · rename_i hf; subst hf; exact is1_ok (fun n xs hn => sp_maybe pk hn _) h
  split at h
  · rename_i hf; subst hf; exact is1_ok (fun n xs hn => sp_loops pk hn _) h
  split at h
  · rename_i hf; subst hf; exact is1_ok (fun n xs hn => sp_pairs pk hn _) h
  split at h
  · rename_i hf; subst hf; exact is1_ok (fun n xs hn => sp_len pk _) h
  split at h
  · rename_i hf; subst hf
    unfold isNew at h
    split at h
    · split at h
      · rename_i l h1
        split at h
        · rename_i hk
          cases h
          rw [pairsOf_ok h1, ← hk.1]
          exact sp_new pk _ _ _ (by omega)
        · cases h
      · cases h
    · cases h
  · cases h
def grOrc (f0 : Nat) (ok : Gr → Bool) (r : Gr → AV) : Orc := fun f bs => if f = f0 then (match bs with
  | [.agg cs] => (match grOf cs with | some X => if ok X then some (r X) else none | none => none)
  | _ => none) else none
theorem grOrc_ok {f0 : Nat} {ok : Gr → Bool} {r : Gr → AV} (h : ∀ X, ok X = true → pureS F f0 [.agg (grC X)] = some (r X)) : OrcOk F (grOrc f0 ok r) := by
  intro f bs v hv
  unfold grOrc at hv
  split at hv
  · rename_i hf
    subst hf
    split at hv
    · split at hv
      · rename_i X hX
        split at hv
        · rename_i hk
          cases hv
          rw [grOf_ok hX]
          exact h X hk
        · cases hv
      · cases hv
    · cases hv
  · cases hv
def orcOr (a b : Orc) : Orc := fun f bs => match a f bs with
  | some v => some v
  | none => b f bs
theorem orcOr_ok {a b : Orc} (ha : OrcOk F a) (hb : OrcOk F b) : OrcOk F (orcOr a b) := by
  intro f bs v h
  unfold orcOr at h
  split at h
  · rename_i h1; cases h; exact ha _ _ _ h1
  · exact hb _ _ _ h
def yesOrc (f0 : Nat) : Orc := fun f bs => if f = f0 then (match bs with | [] => some (.b true) | _ => none) else none
theorem yesOrc_ok {f0 : Nat} (h : pureS F f0 [] = some (.b true)) : OrcOk F (yesOrc f0) := by
  intro f bs v hv
  unfold yesOrc at hv
  split at hv
  · rename_i hf
    subst hf
    split at hv
    · cases hv; exact h
    · cases hv
  · cases hv
def fewB (X : Gr) : Bool := decide (X.evs.length ≤ 40) && decide (X.co.length ≤ 6) && X.co.all (fun c => decide (c.length ≤ 50)) && decide (X.rmw.length ≤ 50) && decide (X.data.length ≤ 300) && decide (X.ctrl.length ≤ 300) && decide (X.ctrli.length ≤ 300)
end Go.Ab
end
section
set_option linter.unusedVariables false
set_option linter.unusedSimpArgs false
namespace Go.Ab
variable {F : Funs}
def Lst (R : Rw) (zs : List Nat) : Prop := zs.length = 40 ∧ ∀ a, a < 40 → (R a).toNat = zs.getD a 0
theorem getD_lt {zs : List Nat} (h : ∀ x ∈ zs, x < 2 ^ 64) (a : Nat) : zs.getD a 0 < 2 ^ 64 := by
  rw [List.getD_eq_getElem?_getD]
  cases hz : zs[a]? with
  | none => simp
  | some x => simpa using h x (List.mem_of_getElem? hz)
theorem hb_rw (xs : List Nat) (a b : Nat) : hb (rwOf xs) a b = (decide (b < 64) && (xs.getD a 0).testBit b) := by
  unfold hb rwOf
  rw [BitVec.getLsbD_ofNat]
theorem toNat_bits {v : BitVec 64} {x : Nat} (hx : x < 2 ^ 64) (h : ∀ b, b < 64 → v.getLsbD b = x.testBit b) : v.toNat = x := by
  refine Nat.eq_of_testBit_eq fun i => ?_
  rw [BitVec.testBit_toNat]
  by_cases hi : i < 64
  · exact h i hi
  · rw [BitVec.getLsbD_of_ge _ _ (by omega), Nat.testBit_lt_two_pow (Nat.lt_of_lt_of_le hx (Nat.pow_le_pow_right (by omega) (by omega)))]
theorem Lst.cells {n : Nat} {R : Rw} {zs : List Nat} (h : Lst R zs) : relC n R = .i .i64 n :: zs.map fun (x : Nat) => .i .u64 (x : Int) := by
  show AV.i .i64 (n : Int) :: rowsC R = _
  congr 1
  refine List.ext_getElem? fun i => ?_
  by_cases hi : i < 40
  · rw [rowsC_get hi, List.getElem?_map, List.getElem?_eq_getElem (by rw [h.1]; exact hi)]
    simp only [Option.map_some, U]
    rw [h.2 i hi, List.getD_eq_getElem?_getD, List.getElem?_eq_getElem (by rw [h.1]; exact hi), Option.getD_some]
  · rw [List.getElem?_eq_none (by rw [rowsC_len]; omega), List.getElem?_eq_none (by rw [List.length_map, h.1]; omega)]
def okN (xs : List Nat) : Prop := xs.length = 40 ∧ ∀ x ∈ xs, x < 2 ^ 64
theorem lst_bits {R : Rw} {zs : List Nat} (hl : zs.length = 40) (hx : ∀ x ∈ zs, x < 2 ^ 64) (h : ∀ a, a < 40 → ∀ b, b < 64 → hb R a b = (zs.getD a 0).testBit b) : Lst R zs :=
  ⟨hl, fun a ha => toNat_bits (getD_lt hx a) (h a ha)⟩
theorem u64s_lt {l : List AV} {xs : List Nat} (h : u64s l = some xs) : ∀ x ∈ xs, x < 2 ^ 64 := (u64s_ok h).2
theorem relOf_okN {cs : List AV} {n : Nat} {xs : List Nat} (h : relOf cs = some (n, xs)) : n ≤ 40 ∧ cs = relC n (rwOf xs) ∧ okN xs := by
  obtain ⟨h1, h2⟩ := relOf_ok h
  refine ⟨h1, h2, ?_⟩
  unfold relOf at h
  split at h
  · split at h
    · split at h
      · rename_i hu
        split at h
        · rename_i hl
          cases h
          exact ⟨hl, u64s_lt hu⟩
        · cases h
      · cases h
    · cases h
  · cases h
noncomputable def zipN (f : Nat → Nat → Nat) (xs : List Nat) : List Nat → List Nat := List.rec (motive := fun _ => List Nat → List Nat) (fun _ => []) (fun x _ ih ys => List.rec (motive := fun _ => List Nat) [] (fun y ys _ => f x y :: ih ys) ys) xs
theorem zipN_eq (f : Nat → Nat → Nat) : ∀ xs ys, zipN f xs ys = List.zipWith f xs ys
  | [], _ => rfl
  | x :: xs, [] => rfl
  | x :: xs, y :: ys => by
    show f x y :: zipN f xs ys = _
    rw [zipN_eq f xs ys]; rfl
theorem zip_get {f : Nat → Nat → Nat} {xs ys : List Nat} {a : Nat} (h : xs.length = 40) (k : ys.length = 40) (ha : a < 40) : (zipN f xs ys).getD a 0 = f (xs.getD a 0) (ys.getD a 0) := by
  rw [zipN_eq]
  simp only [List.getD_eq_getElem?_getD]
  rw [List.getElem?_eq_getElem (by rw [List.length_zipWith]; omega), List.getElem?_eq_getElem (by omega), List.getElem?_eq_getElem (by omega)]
  simp
theorem zip_lt {f : Nat → Nat → Nat} (hf : ∀ x y, x < 2 ^ 64 → y < 2 ^ 64 → f x y < 2 ^ 64) : ∀ {xs ys : List Nat}, (∀ x ∈ xs, x < 2 ^ 64) → (∀ x ∈ ys, x < 2 ^ 64) → ∀ z ∈ zipN f xs ys, z < 2 ^ 64
  | [], _, _, _, z, hz => by cases hz
  | x :: xs, [], _, _, z, hz => by cases hz
  | x :: xs, y :: ys, hx, hy, z, hz => by
    have hz : z ∈ f x y :: zipN f xs ys := hz
    rcases List.mem_cons.1 hz with rfl | hz
    · exact hf x y (hx x (List.mem_cons_self ..)) (hy y (List.mem_cons_self ..))
    · exact zip_lt hf (fun w hw => hx w (List.mem_cons_of_mem _ hw)) (fun w hw => hy w (List.mem_cons_of_mem _ hw)) z hz
theorem lst_or {xs ys : List Nat} (hx : okN xs) (hy : okN ys) : Lst (orR (rwOf xs) (rwOf ys)) (zipN Nat.lor xs ys) := by
  refine lst_bits (by rw [zipN_eq, List.length_zipWith, hx.1, hy.1]; rfl) (zip_lt (fun x y h1 h2 => Nat.or_lt_two_pow h1 h2) hx.2 hy.2) fun a ha b hb' => ?_
  rw [hb_or, hb_rw, hb_rw, zip_get hx.1 hy.1 ha, decide_eq_true hb']
  exact (Nat.testBit_or ..).symm
theorem lst_and {xs ys : List Nat} (hx : okN xs) (hy : okN ys) : Lst (andR (rwOf xs) (rwOf ys)) (zipN Nat.land xs ys) := by
  refine lst_bits (by rw [zipN_eq, List.length_zipWith, hx.1, hy.1]; rfl) (zip_lt (fun x y h1 h2 => Nat.and_lt_two_pow x h2) hx.2 hy.2) fun a ha b hb' => ?_
  rw [hb_and, hb_rw, hb_rw, zip_get hx.1 hy.1 ha, decide_eq_true hb']
  exact (Nat.testBit_and ..).symm
noncomputable def rowN (ys : List Nat) : Nat → Nat := List.rec (motive := fun _ => Nat → Nat) (fun _ => 0) (fun y _ ih x => Bool.rec (motive := fun _ => Nat) (ih (Nat.div x 2)) (Nat.lor y (ih (Nat.div x 2))) (Nat.beq (Nat.mod x 2) 1)) ys
theorem rowN_nil (x : Nat) : rowN [] x = 0 := rfl
theorem rowN_cons (y : Nat) (ys : List Nat) (x : Nat) : rowN (y :: ys) x = if x.testBit 0 then y ||| rowN ys (x / 2) else rowN ys (x / 2) := by
  show Bool.rec (motive := fun _ => Nat) (rowN ys (x / 2)) (y ||| rowN ys (x / 2)) (Nat.beq (x % 2) 1) = _
  rw [Nat.testBit_zero]
  cases h : Nat.beq (x % 2) 1 with
  | true => rw [if_pos (by simpa using Nat.eq_of_beq_eq_true h)]
  | false => rw [if_neg (by simpa using Nat.ne_of_beq_eq_false h)]
theorem rowN_bit : ∀ (ys : List Nat) (x y : Nat), (rowN ys x).testBit y = (List.range ys.length).any fun b => x.testBit b && (ys.getD b 0).testBit y
  | [], x, y => by rw [rowN_nil]; simp
  | z :: ys, x, y => by
    rw [rowN_cons, List.length_cons, List.range_succ_eq_map, List.any_cons, List.any_map]
    have ih := rowN_bit ys (x / 2) y
    have e : ((List.range ys.length).any ((fun b => x.testBit b && ((z :: ys).getD b 0).testBit y) ∘ Nat.succ)) = (List.range ys.length).any fun b => (x / 2).testBit b && (ys.getD b 0).testBit y := by
      congr 1
      funext b
      simp only [Function.comp, Nat.succ_eq_add_one, Nat.testBit_succ, List.getD_cons_succ]
    rw [e, ← ih]
    cases x.testBit 0 with
    | true => simp [Nat.testBit_or]
    | false => simp
theorem rowN_lt : ∀ (ys : List Nat) (x : Nat), (∀ y ∈ ys, y < 2 ^ 64) → rowN ys x < 2 ^ 64
  | [], x, _ => by rw [rowN_nil]; omega
  | z :: ys, x, h => by
    have ih := rowN_lt ys (x / 2) fun y hy => h y (List.mem_cons_of_mem _ hy)
    rw [rowN_cons]
    split
    · exact Nat.or_lt_two_pow (h z (List.mem_cons_self ..)) ih
    · exact ih
noncomputable def takeN (n : Nat) : List Nat → List Nat := Nat.rec (motive := fun _ => List Nat → List Nat) (fun _ => []) (fun _ ih xs => List.rec (motive := fun _ => List Nat) [] (fun x xs _ => x :: ih xs) xs) n
theorem takeN_eq : ∀ n xs, takeN n xs = xs.take n
  | 0, _ => rfl
  | n + 1, [] => rfl
  | n + 1, x :: xs => by
    show x :: takeN n xs = _
    rw [takeN_eq n xs]; rfl
noncomputable def mapN (f : Nat → Nat) (xs : List Nat) : List Nat := List.rec (motive := fun _ => List Nat) [] (fun x _ ih => f x :: ih) xs
theorem mapN_eq (f : Nat → Nat) : ∀ xs, mapN f xs = xs.map f
  | [] => rfl
  | x :: xs => by
    show f x :: mapN f xs = _
    rw [mapN_eq f xs]; rfl
noncomputable def padN (xs : List Nat) (k : Nat) : List Nat := xs ++ List.replicate k 0
noncomputable def thenN (n : Nat) (xs ys : List Nat) : List Nat := padN (mapN (rowN (takeN n ys)) (takeN n xs)) (Nat.sub 40 n)
theorem getD_pad {xs : List Nat} {k a : Nat} : (padN xs k).getD a 0 = xs.getD a 0 := by
  unfold padN
  simp only [List.getD_eq_getElem?_getD, List.getElem?_append]
  split
  · rfl
  · rename_i h
    rw [List.getElem?_replicate, List.getElem?_eq_none (by omega)]
    split <;> rfl
theorem lst_then {n : Nat} (hn : n ≤ 40) {xs ys : List Nat} (hx : okN xs) (hy : okN ys) : Lst (thenR n (rwOf xs) (rwOf ys)) (thenN n xs ys) := by
  have e : thenN n xs ys = padN ((xs.take n).map (rowN (ys.take n))) (40 - n) := by
    unfold thenN; rw [mapN_eq, takeN_eq, takeN_eq]; rfl
  have hyt : ∀ y ∈ ys.take n, y < 2 ^ 64 := fun y h => hy.2 y (List.mem_of_mem_take h)
  have hlx : (xs.take n).length = n := by rw [List.length_take, hx.1]; omega
  have hly : (ys.take n).length = n := by rw [List.length_take, hy.1]; omega
  rw [e]
  refine lst_bits ?_ ?_ ?_
  · unfold padN; rw [List.length_append, List.length_map, hlx, List.length_replicate]; omega
  · intro z hz
    unfold padN at hz
    rcases List.mem_append.1 hz with hz | hz
    · obtain ⟨w, _, rfl⟩ := List.mem_map.1 hz
      exact rowN_lt _ _ hyt
    · obtain ⟨_, rfl⟩ := List.mem_replicate.1 hz; omega
  · intro a ha b hb'
    unfold thenR
    rw [hb_thenK, getD_pad]
    by_cases hn' : a < n
    · rw [decide_eq_true hn', Bool.true_and]
      have : ((xs.take n).map (rowN (ys.take n))).getD a 0 = rowN (ys.take n) (xs.getD a 0) := by
        simp only [List.getD_eq_getElem?_getD, List.getElem?_map]
        rw [List.getElem?_eq_getElem (by omega), List.getElem?_eq_getElem (by rw [hx.1]; omega), List.getElem_take]
        rfl
      rw [this, rowN_bit, hly, Bool.eq_iff_iff]
      simp only [List.any_eq_true, List.mem_range, Bool.and_eq_true]
      constructor
      · rintro ⟨c, hc, h1, h2⟩
        unfold hN at h1
        rw [hb_rw] at h1 h2
        simp only [Bool.and_eq_true, decide_eq_true_eq] at h1 h2
        refine ⟨c, hc, h1.2.2, ?_⟩
        have : (ys.take n).getD c 0 = ys.getD c 0 := by
          simp only [List.getD_eq_getElem?_getD]
          rw [List.getElem?_take_of_lt hc]
        rw [this]
        exact h2.2
      · rintro ⟨c, hc, h1, h2⟩
        have : (ys.take n).getD c 0 = ys.getD c 0 := by
          simp only [List.getD_eq_getElem?_getD]
          rw [List.getElem?_take_of_lt hc]
        rw [this] at h2
        refine ⟨c, hc, ?_, ?_⟩
        · unfold hN
          rw [hb_rw]
          simp only [Bool.and_eq_true, decide_eq_true_eq]
          exact ⟨⟨hn', hc⟩, by omega, h1⟩
        · rw [hb_rw]
          simp only [Bool.and_eq_true, decide_eq_true_eq]
          exact ⟨hb', h2⟩
    · rw [decide_eq_false hn', Bool.false_and]
      have : ((xs.take n).map (rowN (ys.take n))).getD a 0 = 0 := by
        rw [List.getD_eq_getElem?_getD, List.getElem?_eq_none (by rw [List.length_map]; omega)]; rfl
      rw [this]; simp
noncomputable def tbN (x b : Nat) : Bool := Nat.beq (Nat.land (Nat.shiftRight x b) 1) 1
theorem tbN_eq (x b : Nat) : tbN x b = x.testBit b := by
  show Nat.beq ((x >>> b) &&& 1) 1 = _
  rw [Nat.and_one_is_mod]
  have : x.testBit b = decide ((x >>> b) % 2 = 1) := by
    rw [← Nat.add_zero b, ← Nat.testBit_shiftRight, Nat.testBit_zero, Nat.add_zero]
  rw [this, Bool.eq_iff_iff]
  constructor
  · intro h; exact decide_eq_true (Nat.eq_of_beq_eq_true h)
  · intro h; rw [of_decide_eq_true h]; rfl
noncomputable def stepN (b r : Nat) (xs : List Nat) : List Nat := mapN (fun x => Bool.rec (motive := fun _ => Nat) x (Nat.lor x r) (tbN x b)) xs
noncomputable def frcNs {α : Type} (xs : List Nat) : (List Nat → α) → α := List.rec (motive := fun _ => (List Nat → α) → α) (fun k => k []) (fun x _ ih k => frcN x fun x => ih fun xs => k (x :: xs)) xs
theorem frcNs_ok {α : Type} : ∀ (xs : List Nat) (k : List Nat → α), frcNs xs k = k xs
  | [], _ => rfl
  | x :: xs, k => by
    show frcN x (fun x => frcNs xs fun xs => k (x :: xs)) = _
    rw [frcN_ok, frcNs_ok xs]
noncomputable def plusN (k : Nat) : Nat → List Nat → List Nat := Nat.rec (motive := fun _ => Nat → List Nat → List Nat) (fun _ xs => xs) (fun _ ih b xs => frcNs (stepN b (xs.getD b 0) xs) fun xs => ih (Nat.add b 1) xs) k
theorem plusN_succ (k b : Nat) (xs : List Nat) : plusN (k + 1) b xs = plusN k (b + 1) (stepN b (xs.getD b 0) xs) := by
  show frcNs (stepN b (xs.getD b 0) xs) (fun xs => plusN k (b + 1) xs) = _
  rw [frcNs_ok]
def wfN (n : Nat) (xs : List Nat) : Bool := (xs.take n).all (fun x => decide (x < 2 ^ n)) && (xs.drop n).all (fun x => x == 0)
theorem wfN_ok {n : Nat} {xs : List Nat} (h : wfN n xs = true) : Wf n (rwOf xs) := by
  intro a b hh
  rw [hb_rw] at hh
  simp only [Bool.and_eq_true, decide_eq_true_eq] at hh
  unfold wfN at h
  rw [Bool.and_eq_true, List.all_eq_true, List.all_eq_true] at h
  by_cases ha : a < n
  · refine ⟨ha, ?_⟩
    cases hz : xs[a]? with
    | none => rw [List.getD_eq_getElem?_getD, hz] at hh; simp at hh
    | some x =>
      have hx := h.1 x (List.mem_of_getElem? (by rw [List.getElem?_take_of_lt ha]; exact hz))
      rw [List.getD_eq_getElem?_getD, hz] at hh
      have hx : x < 2 ^ n := of_decide_eq_true hx
      by_cases hb' : b < n
      · exact hb'
      · rw [Option.getD_some, Nat.testBit_lt_two_pow (Nat.lt_of_lt_of_le hx (Nat.pow_le_pow_right (by omega) (by omega)))] at hh
        exact absurd hh.2 (by simp)
  · exfalso
    cases hz : xs[a]? with
    | none => rw [List.getD_eq_getElem?_getD, hz] at hh; simp at hh
    | some x =>
      have hx := h.2 x (List.mem_of_getElem? (i := a - n) (by rw [List.getElem?_drop, show n + (a - n) = a by omega]; exact hz))
      rw [List.getD_eq_getElem?_getD, hz] at hh
      have hx : x = 0 := by simpa using hx
      subst hx
      simp at hh
theorem stepN_get (b r : Nat) (xs : List Nat) (a : Nat) : (stepN b r xs).getD a 0 = if (xs.getD a 0).testBit b then xs.getD a 0 ||| r else xs.getD a 0 := by
  unfold stepN
  rw [mapN_eq]
  simp only [List.getD_eq_getElem?_getD, List.getElem?_map]
  cases xs[a]? with
  | none => simp
  | some x =>
    simp only [Option.map_some, Option.getD_some, tbN_eq]
    cases x.testBit b <;> rfl
theorem stepN_ok {b r : Nat} {xs : List Nat} (h : okN xs) (hr : r < 2 ^ 64) : okN (stepN b r xs) := by
  unfold stepN
  rw [mapN_eq]
  refine ⟨by rw [List.length_map]; exact h.1, fun z hz => ?_⟩
  obtain ⟨x, hx, rfl⟩ := List.mem_map.1 hz
  cases tbN x b with
  | true => exact Nat.or_lt_two_pow (h.2 x hx) hr
  | false => exact h.2 x hx
theorem rw_step {n b : Nat} (hn : n ≤ 40) (hb' : b < n) {xs : List Nat} (hw : Wf n (rwOf xs)) : rowP n b n (rwOf xs) = rwOf (stepN b (xs.getD b 0) xs) := by
  refine rw_ext fun x y hy => ?_
  rw [hb_rowP hb' _ hw n (Nat.le_refl _), hb_rw, hb_rw, hb_rw, hb_rw, stepN_get, decide_eq_true hy, decide_eq_true (show b < 64 by omega)]
  simp only [Bool.true_and]
  by_cases hx : x < n
  · rw [decide_eq_true hx, Bool.true_and]
    cases h : (xs.getD x 0).testBit b with
    | true => simp [Nat.testBit_or]
    | false => simp
  · rw [decide_eq_false hx]
    have : (xs.getD x 0).testBit b = false := by
      cases h : (xs.getD x 0).testBit b with
      | false => rfl
      | true =>
        exfalso
        have := hw x b (by rw [hb_rw, h, decide_eq_true (show b < 64 by omega)]; rfl)
        omega
    rw [this]; simp
theorem plusN_ok {n : Nat} (hn : n ≤ 40) : ∀ (k b : Nat) (xs : List Nat), b + k = n → okN xs → Wf n (rwOf xs) → okN (plusN k b xs) ∧ (List.range' b k).foldl (fun R b => rowP n b n R) (rwOf xs) = rwOf (plusN k b xs)
  | 0, b, xs, _, hx, _ => ⟨hx, rfl⟩
  | k + 1, b, xs, hk, hx, hw => by
    rw [plusN_succ, List.range'_succ, List.foldl_cons, rw_step hn (by omega) hw]
    have ok := stepN_ok (b := b) hx (getD_lt hx.2 b)
    refine plusN_ok hn k (b + 1) _ (by omega) ok ?_
    rw [← rw_step hn (by omega) hw]
    intro x y hh
    rw [hb_rowP (by omega) _ hw n (Nat.le_refl _)] at hh
    simp at hh
    rcases hh with hh | ⟨⟨h0, h1⟩, h2⟩
    · exact hw x y hh
    · exact ⟨h0, (hw b y h2).2⟩
theorem plus_eq {n : Nat} (hn : n ≤ 40) {xs : List Nat} (hx : okN xs) (hw : Wf n (rwOf xs)) : plusR n (rwOf xs) = rwOf (plusN n 0 xs) ∧ okN (plusN n 0 xs) := by
  obtain ⟨h1, h2⟩ := plusN_ok hn n 0 xs (by omega) hx hw
  refine ⟨?_, h1⟩
  rw [← h2]
  unfold plusR plusK
  rw [List.range_eq_range']
theorem lst_ok {xs : List Nat} (hx : okN xs) : Lst (rwOf xs) xs := by
  refine ⟨hx.1, fun a ha => ?_⟩
  unfold rwOf
  rw [BitVec.toNat_ofNat, Nat.mod_eq_of_lt (getD_lt hx.2 a)]
noncomputable def anyN (n : Nat) (f : Nat → Bool) : Bool := Nat.rec (motive := fun _ => Bool) false (fun k ih => Bool.rec (motive := fun _ => Bool) ih true (f k)) n
theorem anyN_eq (f : Nat → Bool) : ∀ n, anyN n f = (List.range n).any f
  | 0 => rfl
  | n + 1 => by
    show Bool.rec (motive := fun _ => Bool) (anyN n f) true (f n) = _
    rw [anyN_eq f n, List.range_succ, List.any_append]
    cases h : f n <;> simp [h]
theorem loops_eq {n : Nat} (hn : n ≤ 40) {xs : List Nat} (hx : okN xs) (hw : Wf n (rwOf xs)) : loopsR n (rwOf xs) = anyN n fun a => tbN ((plusN n 0 xs).getD a 0) a := by
  rw [anyN_eq, Bool.eq_iff_iff]
  unfold loopsR
  rw [(plus_eq hn hx hw).1]
  simp only [List.any_eq_true, List.mem_range, has_N]
  constructor
  · rintro ⟨a, ha, h⟩
    refine ⟨a, ha, ?_⟩
    unfold hN at h
    rw [hb_rw] at h
    simp only [Bool.and_eq_true, decide_eq_true_eq] at h
    rw [tbN_eq]; exact h.2.2
  · rintro ⟨a, ha, h⟩
    refine ⟨a, ha, ?_⟩
    unfold hN
    rw [hb_rw]
    simp only [Bool.and_eq_true, decide_eq_true_eq]
    rw [tbN_eq] at h
    exact ⟨⟨ha, ha⟩, by omega, h⟩
noncomputable def mayN (k : Nat) : Nat → List Nat → List Nat := Nat.rec (motive := fun _ => Nat → List Nat → List Nat) (fun _ xs => xs) (fun _ ih b xs => List.rec (motive := fun _ => List Nat) [] (fun x xs _ => Nat.lor x (Nat.shiftLeft 1 b) :: ih (Nat.add b 1) xs) xs) k
theorem mayN_get : ∀ (k b : Nat) (xs : List Nat) (a : Nat), a < xs.length → (mayN k b xs).getD a 0 = if a < k then xs.getD a 0 ||| (1 <<< (b + a)) else xs.getD a 0
  | 0, b, xs, a, _ => rfl
  | k + 1, b, [], a, h => by simp at h
  | k + 1, b, x :: xs, 0, h => by
    rw [if_pos (by omega)]; rfl
  | k + 1, b, x :: xs, a + 1, h => by
    show (Nat.lor x (Nat.shiftLeft 1 b) :: mayN k (b + 1) xs).getD (a + 1) 0 = _
    rw [List.getD_cons_succ, mayN_get k (b + 1) xs a (by simpa using h), List.getD_cons_succ, show b + 1 + a = b + (a + 1) by omega]
    by_cases hk : a < k
    · rw [if_pos hk, if_pos (by omega)]
    · rw [if_neg hk, if_neg (by omega)]
theorem mayN_len : ∀ (k b : Nat) (xs : List Nat), (mayN k b xs).length = xs.length
  | 0, _, _ => rfl
  | k + 1, b, [] => rfl
  | k + 1, b, x :: xs => by
    show (_ :: mayN k (b + 1) xs).length = _
    rw [List.length_cons, mayN_len k (b + 1) xs, List.length_cons]
theorem one_bit (a b : Nat) : ((1 : Nat) <<< a).testBit b = decide (b = a) := by
  rw [Nat.one_shiftLeft, Nat.testBit_two_pow, decide_eq_decide]
  exact eq_comm
theorem lst_may {n : Nat} (hn : n ≤ 40) {xs : List Nat} (hx : okN xs) : Lst (maybeK n (rwOf xs)) (mayN n 0 xs) := by
  refine lst_bits (by rw [mayN_len, hx.1]) ?_ ?_
  · intro z hz
    obtain ⟨a, ha, rfl⟩ := List.getElem_of_mem hz
    have hl := mayN_len n 0 xs
    have h1 := mayN_get n 0 xs a (by omega)
    rw [List.getD_eq_getElem?_getD, List.getElem?_eq_getElem ha, Option.getD_some] at h1
    rw [h1]
    have hxa := getD_lt hx.2 a
    split
    · refine Nat.or_lt_two_pow hxa ?_
      rw [Nat.zero_add, Nat.one_shiftLeft]
      exact Nat.pow_lt_pow_right (by omega) (by omega)
    · exact hxa
  · intro a ha b hb'
    rw [hb_maybeK _ _ _ _ (by omega), hb_rw, decide_eq_true hb', Bool.true_and, mayN_get n 0 xs a (by rw [hx.1]; exact ha)]
    by_cases h : a < n
    · rw [if_pos h, decide_eq_true h, Nat.testBit_or, Nat.zero_add, one_bit]; simp
    · rw [if_neg h, decide_eq_false h]; simp
noncomputable def newRow (n a : Nat) (l : List (Int × Int)) : Nat := List.rec (motive := fun _ => Nat) 0 (fun p _ ih => match p with
  | (.ofNat x, .ofNat y) => Bool.rec (motive := fun _ => Nat) ih (Bool.rec (motive := fun _ => Nat) ih (Nat.lor (Nat.shiftLeft 1 y) ih) (Nat.ble (Nat.add y 1) n)) (Nat.beq x a)
  | _ => ih) l
theorem newRow_bit {n a : Nat} (ha : a < n) : ∀ (l : List (Int × Int)) (b : Nat), (newRow n a l).testBit b = (decide (b < n) && l.any fun p => decide (p = ((a : Int), (b : Int))))
  | [], b => by show Nat.testBit 0 b = _; simp
  | p :: l, b => by
    have ih := newRow_bit ha l b
    rw [List.any_cons]
    have e : newRow n a (p :: l) = (match p with
      | (.ofNat x, .ofNat y) => Bool.rec (motive := fun _ => Nat) (newRow n a l) (Bool.rec (motive := fun _ => Nat) (newRow n a l) (Nat.lor (Nat.shiftLeft 1 y) (newRow n a l)) (Nat.ble (Nat.add y 1) n)) (Nat.beq x a)
      | _ => newRow n a l) := rfl
    rw [e]
    obtain ⟨p1, p2⟩ := p
    cases p1 with
    | negSucc m =>
      have : decide (((Int.negSucc m), p2) = ((a : Int), (b : Int))) = false := decide_eq_false fun h => by cases h
      rw [this, Bool.false_or]; cases p2 <;> exact ih
    | ofNat x =>
      cases p2 with
      | negSucc m =>
        have : decide (((Int.ofNat x), Int.negSucc m) = ((a : Int), (b : Int))) = false := decide_eq_false fun h => by cases h
        rw [this, Bool.false_or]; exact ih
      | ofNat y =>
        have hd : decide (((Int.ofNat x), Int.ofNat y) = ((a : Int), (b : Int))) = (decide (x = a) && decide (y = b)) := by
          rw [Bool.eq_iff_iff]; simp; omega
        rw [hd]
        show Nat.testBit (Bool.rec (motive := fun _ => Nat) (newRow n a l) (Bool.rec (motive := fun _ => Nat) (newRow n a l) ((1 <<< y) ||| (newRow n a l)) (Nat.ble (y + 1) n)) (Nat.beq x a)) b = _
        cases hxa : Nat.beq x a with
        | false =>
          have := Nat.ne_of_beq_eq_false hxa
          rw [decide_eq_false this]; simpa using ih
        | true =>
          have := Nat.eq_of_beq_eq_true hxa
          rw [decide_eq_true this]
          cases hy : Nat.ble (y + 1) n with
          | true =>
            have hy := Nat.le_of_ble_eq_true hy
            show Nat.testBit ((1 <<< y) ||| newRow n a l) b = _
            rw [Nat.testBit_or, one_bit, ih]
            by_cases hbn : b = y
            · subst hbn; simp; omega
            · have : ¬ y = b := fun h => hbn h.symm
              simp [hbn, this]
          | false =>
            have hy : ¬ y + 1 ≤ n := fun h => by rw [Nat.ble_eq_true_of_le h] at hy; cases hy
            show Nat.testBit (newRow n a l) b = _
            rw [ih]
            by_cases hbn : y = b
            · subst hbn; simp; omega
            · simp [hbn]
noncomputable def newN (n : Nat) (l : List (Int × Int)) : Nat → Nat → List Nat := fun k => Nat.rec (motive := fun _ => Nat → List Nat) (fun _ => []) (fun _ ih a => newRow n a l :: ih (Nat.add a 1)) k
theorem newN_get (n : Nat) (l : List (Int × Int)) : ∀ (k a i : Nat), (newN n l k a).getD i 0 = if i < k then newRow n (a + i) l else 0
  | 0, a, i => by rw [if_neg (by omega)]; rfl
  | k + 1, a, 0 => by rw [if_pos (by omega)]; rfl
  | k + 1, a, i + 1 => by
    show (newRow n a l :: newN n l k (a + 1)).getD (i + 1) 0 = _
    rw [List.getD_cons_succ, newN_get n l k (a + 1) i, show a + 1 + i = a + (i + 1) by omega]
    by_cases h : i < k
    · rw [if_pos h, if_pos (by omega)]
    · rw [if_neg h, if_neg (by omega)]
theorem newN_len (n : Nat) (l : List (Int × Int)) : ∀ (k a : Nat), (newN n l k a).length = k
  | 0, _ => rfl
  | k + 1, a => by
    show (_ :: newN n l k (a + 1)).length = _
    rw [List.length_cons, newN_len n l k (a + 1)]
theorem lst_new {n : Nat} (hn : n ≤ 40) (l : List (Int × Int)) : Lst (newR n l) (padN (newN n l n 0) (40 - n)) := by
  refine lst_bits (by unfold padN; rw [List.length_append, newN_len, List.length_replicate]; omega) ?_ ?_
  · intro z hz
    unfold padN at hz
    rcases List.mem_append.1 hz with hz | hz
    · obtain ⟨a, ha, rfl⟩ := List.getElem_of_mem hz
      have hl := newN_len n l n 0
      have h1 := newN_get n l n 0 a
      rw [List.getD_eq_getElem?_getD, List.getElem?_eq_getElem ha, Option.getD_some, if_pos (by omega), Nat.zero_add] at h1
      rw [h1]
      refine Nat.lt_pow_two_of_testBit _ fun i hi => ?_
      rw [newRow_bit (by omega), decide_eq_false (by omega)]; rfl
    · obtain ⟨_, rfl⟩ := List.mem_replicate.1 hz; omega
  · intro a ha b hb'
    rw [hb_new hn, getD_pad, newN_get, Nat.zero_add]
    by_cases h : a < n
    · rw [if_pos h, newRow_bit h, decide_eq_true h, Bool.true_and]
    · rw [if_neg h, decide_eq_false h]; simp
noncomputable def cellsN (n : Nat) (zs : List Nat) : AV := .ptr (.i .i64 n :: zs.map fun (x : Nat) => .i .u64 (x : Int))
theorem cellsN_ok {n : Nat} {R : Rw} {zs : List Nat} (h : Lst R zs) : cellsN n zs = .ptr (relC n R) := by rw [h.cells]; rfl
noncomputable def in2 (r : Nat → List Nat → Nat → List Nat → AV) : List AV → Option AV
  | [.ptr a, .ptr b] => (match relOf a with | some (n, xs) => (match relOf b with | some (m, ys) => some (r n xs m ys) | none => none) | none => none)
  | _ => none
noncomputable def in1 (r : Nat → List Nat → Option AV) : List AV → Option AV
  | [.ptr a] => (match relOf a with | some (n, xs) => r n xs | none => none)
  | _ => none
theorem in2_ok {r : Nat → List Nat → Nat → List Nat → AV} {f : Nat} (h : ∀ n m xs ys, n ≤ 40 → m ≤ 40 → okN xs → okN ys → pureS F f [.ptr (relC n (rwOf xs)), .ptr (relC m (rwOf ys))] = some (r n xs m ys)) {bs : List AV} {v : AV} (hv : in2 r bs = some v) : pureS F f bs = some v := by
  unfold in2 at hv
  split at hv
  · split at hv
    · rename_i h1
      split at hv
      · rename_i h2
        cases hv
        obtain ⟨a1, rfl, b1⟩ := relOf_okN h1
        obtain ⟨a2, rfl, b2⟩ := relOf_okN h2
        exact h _ _ _ _ a1 a2 b1 b2
      · cases hv
    · cases hv
  · cases hv
theorem in1_ok {r : Nat → List Nat → Option AV} {f : Nat} (h : ∀ n xs v, n ≤ 40 → okN xs → r n xs = some v → pureS F f [.ptr (relC n (rwOf xs))] = some v) {bs : List AV} {v : AV} (hv : in1 r bs = some v) : pureS F f bs = some v := by
  unfold in1 at hv
  split at hv
  · split at hv
    · rename_i h1
      obtain ⟨a1, rfl, b1⟩ := relOf_okN h1
      exact h _ _ _ a1 b1 hv
    · cases hv
  · cases hv
noncomputable def inNew : List AV → Option AV
  | [.i .i64 n, .sl cs k _] => (match pairsOf cs with | some l => if l.length = k ∧ k ≤ 100000 then frcN (clamp n) fun n => some (cellsN n (padN (newN n l n 0) (40 - n))) else none | none => none)
  | _ => none
noncomputable def relOrcN : Orc := fun f bs =>
  if f = 13 then isHas bs
  else if f = 24 then in2 (fun n xs m ys => cellsN (max n m) (zipN Nat.lor xs ys)) bs
  else if f = 23 then in2 (fun n xs m ys => cellsN (max n m) (thenN n xs ys)) bs
  else if f = 18 then in2 (fun n xs m ys => cellsN (max n m) (zipN Nat.land xs ys)) bs
  else if f = 12 then in1 (fun n xs => if wfN n xs then some (cellsN n (plusN n 0 xs)) else none) bs
  else if f = 16 then in1 (fun n xs => some (cellsN n (mayN n 0 xs))) bs
  else if f = 14 then in1 (fun n xs => if wfN n xs then some (.b (anyN n fun a => tbN ((plusN n 0 xs).getD a 0) a)) else none) bs
  else if f = 15 then is1 (fun n xs => .sl (pairsC (pairsR n (rwOf xs))) (pairsR n (rwOf xs)).length .non) bs
  else if f = 17 then is1 (fun n xs => .i .i64 n) bs
  else if f = 11 then inNew bs
  else none
theorem relOrcN_ok (pk : Pk_rel F) : OrcOk F relOrcN := by
  intro f bs v h
  have old := relOrc_ok pk f bs v
  unfold relOrcN at h
  split at h
  · rename_i hf; subst hf; exact old (by unfold relOrc; exact h)
  split at h
  · rename_i hf; subst hf; exact in2_ok (fun n m xs ys hn hm hx hy => by rw [sp_or pk hn hm, cellsN_ok (lst_or hx hy)]) h
  split at h
  · rename_i hf; subst hf; exact in2_ok (fun n m xs ys hn hm hx hy => by rw [sp_then pk hn hm, cellsN_ok (lst_then hn hx hy)]) h
  split at h
  · rename_i hf; subst hf; exact in2_ok (fun n m xs ys hn hm hx hy => by rw [sp_and pk hn hm, cellsN_ok (lst_and hx hy)]) h
  split at h
  · rename_i hf; subst hf
    refine in1_ok (fun n xs v hn hx hv => ?_) h
    split at hv
    · rename_i hw
      cases hv
      obtain ⟨e1, e2⟩ := plus_eq hn hx (wfN_ok hw)
      rw [sp_plus pk hn, e1, cellsN_ok (lst_ok e2)]
    · cases hv
  split at h
  · rename_i hf; subst hf
    refine in1_ok (fun n xs v hn hx hv => ?_) h
    cases hv
    rw [sp_maybe pk hn, cellsN_ok (lst_may hn hx)]
  split at h
  · rename_i hf; subst hf
    refine in1_ok (fun n xs v hn hx hv => ?_) h
    split at hv
    · rename_i hw
      cases hv
      rw [sp_loops pk hn, loops_eq hn hx (wfN_ok hw)]
    · cases hv
  split at h
  · rename_i hf; subst hf; exact is1_ok (fun n xs hn => sp_pairs pk hn _) h
  split at h
  · rename_i hf; subst hf; exact is1_ok (fun n xs hn => sp_len pk _) h
  split at h
  · rename_i hf; subst hf
    unfold inNew at h
    split at h
    · split at h
      · rename_i l h1
        split at h
        · rename_i hk
          rw [frcN_ok] at h
          cases h
          rw [pairsOf_ok h1, ← hk.1, cellsN_ok (lst_new (clamp_le _) l)]
          exact sp_new pk _ _ _ (by omega)
        · cases h
      · cases h
    · cases h
  · cases h
end Go.Ab
end
section
namespace Go.Ab
def A_cmp_Compare_int : AFun := { res := [.t 4], body := (.seq (.reg false [{ dst := some 4, op := .mv (.c (.i .i64 0)) }])
 (.seq (.reg false [{ dst := some 7, op := .mv (.t 0) },
  { dst := some 8, op := .call .pure (.c (.fn 266 [] [])) [.t 7] },
  { dst := some 5, op := .mv (.t 8) }])
 (.seq (.reg false [{ dst := some 9, op := .mv (.t 1) },
  { dst := some 10, op := .call .pure (.c (.fn 266 [] [])) [.t 9] },
  { dst := some 6, op := .mv (.t 10) }])
 (.seq (.seq (.reg false [{ dst := some 11, op := .mv (.t 5) }])
 (.cond (.t 11) (.seq (.seq (.reg false [{ dst := some 12, op := .mv (.t 6) }])
 (.cond (.t 12) (.seq (.reg false [{ dst := some 4, op := .mv (.c (.i .i64 0)) }])
 .ret)
 .skip))
 (.seq (.reg false [{ dst := some 4, op := .mv (.c (.i .i64 (-1))) }])
 .ret))
 .skip))
 (.seq (.seq (.reg false [{ dst := some 13, op := .mv (.t 6) }])
 (.cond (.t 13) (.seq (.reg false [{ dst := some 4, op := .mv (.c (.i .i64 1)) }])
 .ret)
 .skip))
 (.seq (.seq (.reg false [{ dst := some 14, op := .mv (.t 0) },
  { dst := some 15, op := .mv (.t 1) },
  { dst := some 16, op := .bin .lss (.t 14) (.t 15) }])
 (.cond (.t 16) (.seq (.reg false [{ dst := some 4, op := .mv (.c (.i .i64 (-1))) }])
 .ret)
 .skip))
 (.seq (.seq (.reg false [{ dst := some 17, op := .mv (.t 0) },
  { dst := some 18, op := .mv (.t 1) },
  { dst := some 19, op := .bin .gtr (.t 17) (.t 18) }])
 (.cond (.t 19) (.seq (.reg false [{ dst := some 4, op := .mv (.c (.i .i64 1)) }])
 .ret)
 .skip))
 (.seq (.reg false [{ dst := some 4, op := .mv (.c (.i .i64 0)) }])
 .ret)))))))) }
def A_cmp_Or_int : AFun := { res := [.t 2], body := (.seq (.reg false [{ dst := some 2, op := .mv (.c (.i .i64 0)) }])
 (.seq (.reg false [{ dst := some 3, op := .mv (.c (.i .i64 0)) }])
 (.seq (.seq (.reg false [{ dst := some 6, op := .mv (.t 0) },
  { dst := some 7, op := .len (.t 6) },
  { dst := some 8, op := .mv (.c (.i .i64 0)) }])
 (.blk 0 (.loop (.seq (.reg false [{ dst := some 9, op := .bin .lss (.t 8) (.t 7) }])
 (.seq (.cond (.t 9) .skip
 (.ext 0))
 (.seq (.blk 1 (.seq (.reg false [{ dst := some 10, op := .ia 1 (.t 6) (.t 8) },
  { dst := some 11, op := .ld none (.t 10) },
  { dst := some 5, op := .mv (.t 11) }])
 (.seq (.reg false [{ dst := some 12, op := .mv (.t 5) },
  { dst := some 13, op := .mv (.t 3) },
  { dst := some 14, op := .bin .neq (.t 12) (.t 13) }])
 (.cond (.t 14) (.seq (.reg false [{ dst := some 15, op := .mv (.t 5) },
  { dst := some 2, op := .mv (.t 15) }])
 .ret)
 .skip))))
 (.reg false [{ dst := some 16, op := .bin .add (.t 8) (.c (.i .i64 1)) },
  { dst := some 8, op := .mv (.t 16) }])))))))
 (.seq (.reg false [{ dst := some 17, op := .mv (.t 3) },
  { dst := some 2, op := .mv (.t 17) }])
 .ret)))) }
def A_cmp_isNaN_int : AFun := { res := [.t 2], body := (.seq (.reg false [{ dst := some 2, op := .mv (.c (.b false)) }])
 (.seq (.reg false [{ dst := some 3, op := .mv (.t 0) },
  { dst := some 4, op := .mv (.t 0) },
  { dst := some 5, op := .bin .neq (.t 3) (.t 4) },
  { dst := some 2, op := .mv (.t 5) }])
 .ret)) }
structure Pk_cmp (F : Funs) : Prop where
  cmp_Compare_int : F 248 = some A_cmp_Compare_int
  cmp_Or_int : F 249 = some A_cmp_Or_int
  cmp_isNaN_int : F 266 = some A_cmp_isNaN_int
end Go.Ab
end
section
set_option linter.unusedVariables false
set_option linter.unusedSimpArgs false
namespace Go.Ab
variable {F : Funs}
structure LenG (X : Gr) : Prop where
  fl : X.co.flatten.length ≤ 1000
  col : X.co.length ≤ 1000
  cos : ∀ k, (X.co.getD k []).length ≤ 1000
  rmw : X.rmw.length ≤ 1000
  data : X.data.length ≤ 1000
  ctrl : X.ctrl.length ≤ 1000
  ctrli : X.ctrli.length ≤ 1000
theorem flat_le : ∀ {l : List (List Int)} {m : Nat}, (∀ c ∈ l, c.length ≤ m) → l.flatten.length ≤ l.length * m
  | [], _, _ => by simp
  | c :: l, m, h => by
    have h1 := flat_le (l := l) (m := m) fun c hc => h c (List.mem_cons_of_mem _ hc)
    have h2 := h c (List.mem_cons_self ..)
    rw [List.flatten_cons, List.length_append, List.length_cons, Nat.succ_mul]
    omega
theorem FewG.len {X : Gr} (h : FewG X) : LenG X := by
  have h1 := flat_le h.cos
  have h2 := h.co
  have h3 : X.co.length * 50 ≤ 6 * 50 := Nat.mul_le_mul_right _ h2
  refine ⟨by omega, by omega, fun k => ?_, by have := h.rmw; omega, by have := h.data; omega, by have := h.ctrl; omega, by have := h.ctrli; omega⟩
  by_cases hk : k < X.co.length
  · have hm : X.co.getD k [] ∈ X.co := by
      rw [List.getD_eq_getElem?_getD, List.getElem?_eq_getElem hk]; exact List.getElem_mem hk
    have := h.cos _ hm; omega
  · rw [List.getD_eq_getElem?_getD, List.getElem?_eq_none (by omega)]; simp
end Go.Ab
end
section
set_option linter.unusedVariables false
set_option linter.unusedSimpArgs false
namespace Go.Ab
theorem fewB_ok {X : Gr} (h : fewB X = true) : Few X ∧ LenG X := by
  unfold fewB at h
  simp only [Bool.and_eq_true, decide_eq_true_eq, List.all_eq_true] at h
  obtain ⟨⟨⟨⟨⟨⟨h1, h2⟩, h3⟩, h4⟩, h5⟩, h6⟩, h7⟩ := h
  refine ⟨⟨by omega, by omega, fun c hc => by have := h3 c hc; omega⟩, ⟨?_, by omega, fun k => ?_, by omega, by omega, by omega, by omega⟩⟩
  · have := flat_le (l := X.co) (m := 50) h3
    have : X.co.length * 50 ≤ 6 * 50 := Nat.mul_le_mul_right _ h2
    omega
  · rw [List.getD_eq_getElem?_getD]
    cases hz : X.co[k]? with
    | none => simp
    | some c => have := h3 c (List.mem_of_getElem? hz); simp only [Option.getD_some]; omega
def sL : ACode → ACode
  | .seq a _ => a
  | c => c
def sR : ACode → ACode
  | .seq _ b => b
  | c => c
end Go.Ab
end
section
set_option linter.unusedVariables false
set_option linter.unusedSimpArgs false
namespace Go.Ab
variable {F : Funs}
noncomputable def ordOrc : Orc := orcOr (grOrc 155 fewB fun X => .ptr (relC (nOf X) (bobR X))) (orcOr (grOrc 156 fewB fun X => .ptr (relC (nOf X) (arR X))) (orcOr (yesOrc 157) relOrcN))
theorem ordOrc_ok (S : OrdF F) (pr : Pk_rel F) (aw : pureS F 157 [] = some (.b true)) : OrcOk F ordOrc :=
  orcOr_ok (grOrc_ok fun X h => so_bob S (fewB_ok h).1) (orcOr_ok (grOrc_ok fun X h => so_ar S (fewB_ok h).1 (by have := (fewB_ok h).2.data; omega) (by have := (fewB_ok h).2.ctrl; omega) (by have := (fewB_ok h).2.rmw; omega)) (orcOr_ok (yesOrc_ok aw) (relOrcN_ok pr)))
end Go.Ab
end
section
set_option linter.unusedVariables false
set_option linter.unusedSimpArgs false
set_option maxRecDepth 100000
namespace Go.Proofs.Ytgfjjohnfbhjcaa
open Go.Ab
theorem ordS : OrdF funs := ⟨pk_order, ⟨pk_sync, pk_eco, pk_rel, rfl, rfl, rfl⟩⟩
theorem ordK : OrcOk funs ordOrc := ordOrc_ok ordS pk_rel (so_awake rfl rfl ordS)
end Go.Proofs.Ytgfjjohnfbhjcaa
end
section
set_option linter.unusedVariables false
set_option linter.unusedSimpArgs false
set_option maxRecDepth 100000
namespace Go.Proofs.Ytgfjjohnfbhjcaa
open Go.Ab
theorem orderBob_00 (a b c : Int) (hx : place a 4 = 0) (hy : place b 4 = 0) : pureS funs 140 [.i .i64 a, .i .i64 b, .i .i64 c] = some (.b true) := by
  refine pure_of (fn := A_xlaw11_OrderBob) rfl ?_
  have hp1 := sp_place (F := funs) rfl (v := a) (n := 4) (by omega) (by omega)
  have hp2 := sp_place (F := funs) rfl (v := b) (n := 4) (by omega) (by omega)
  have hp3 := sp_place (F := funs) rfl (v := c) (n := 5) (by omega) (by omega)
  obtain ⟨s0, s1⟩ := place_lt (v := c) (n := 5) (by omega)
  rw [hx] at hp1
  rw [hy] at hp2
  generalize place c 5 = z at hp3 s0 s1
  rw [show A_xlaw11_OrderBob.body = .seq (sL A_xlaw11_OrderBob.body) (.seq (sL (sR A_xlaw11_OrderBob.body)) (sR (sR A_xlaw11_OrderBob.body))) from rfl]
  generalize hr : sR (sR A_xlaw11_OrderBob.body) = rest
  simp (disch := omega) only [A_xlaw11_OrderBob, sL, sR, wp, Nat.reduceAdd, Nat.reduceMul, Nat.reduceSub, hp1, hp2, hp3]
  subst hr
  have hz : z = 0 ∨ z = 1 ∨ z = 2 ∨ z = 3 ∨ z = 4 := by omega
  rcases hz with rfl | rfl | rfl | rfl | rfl <;> exact W_eval ordK 1000 (by kernel_rfl)
theorem orderBob_01 (a b c : Int) (hx : place a 4 = 0) (hy : place b 4 = 1) : pureS funs 140 [.i .i64 a, .i .i64 b, .i .i64 c] = some (.b true) := by
  refine pure_of (fn := A_xlaw11_OrderBob) rfl ?_
  have hp1 := sp_place (F := funs) rfl (v := a) (n := 4) (by omega) (by omega)
  have hp2 := sp_place (F := funs) rfl (v := b) (n := 4) (by omega) (by omega)
  have hp3 := sp_place (F := funs) rfl (v := c) (n := 5) (by omega) (by omega)
  obtain ⟨s0, s1⟩ := place_lt (v := c) (n := 5) (by omega)
  rw [hx] at hp1
  rw [hy] at hp2
  generalize place c 5 = z at hp3 s0 s1
  rw [show A_xlaw11_OrderBob.body = .seq (sL A_xlaw11_OrderBob.body) (.seq (sL (sR A_xlaw11_OrderBob.body)) (sR (sR A_xlaw11_OrderBob.body))) from rfl]
  generalize hr : sR (sR A_xlaw11_OrderBob.body) = rest
  simp (disch := omega) only [A_xlaw11_OrderBob, sL, sR, wp, Nat.reduceAdd, Nat.reduceMul, Nat.reduceSub, hp1, hp2, hp3]
  subst hr
  have hz : z = 0 ∨ z = 1 ∨ z = 2 ∨ z = 3 ∨ z = 4 := by omega
  rcases hz with rfl | rfl | rfl | rfl | rfl <;> exact W_eval ordK 1000 (by kernel_rfl)
theorem orderBob_02 (a b c : Int) (hx : place a 4 = 0) (hy : place b 4 = 2) : pureS funs 140 [.i .i64 a, .i .i64 b, .i .i64 c] = some (.b true) := by
  refine pure_of (fn := A_xlaw11_OrderBob) rfl ?_
  have hp1 := sp_place (F := funs) rfl (v := a) (n := 4) (by omega) (by omega)
  have hp2 := sp_place (F := funs) rfl (v := b) (n := 4) (by omega) (by omega)
  have hp3 := sp_place (F := funs) rfl (v := c) (n := 5) (by omega) (by omega)
  obtain ⟨s0, s1⟩ := place_lt (v := c) (n := 5) (by omega)
  rw [hx] at hp1
  rw [hy] at hp2
  generalize place c 5 = z at hp3 s0 s1
  rw [show A_xlaw11_OrderBob.body = .seq (sL A_xlaw11_OrderBob.body) (.seq (sL (sR A_xlaw11_OrderBob.body)) (sR (sR A_xlaw11_OrderBob.body))) from rfl]
  generalize hr : sR (sR A_xlaw11_OrderBob.body) = rest
  simp (disch := omega) only [A_xlaw11_OrderBob, sL, sR, wp, Nat.reduceAdd, Nat.reduceMul, Nat.reduceSub, hp1, hp2, hp3]
  subst hr
  have hz : z = 0 ∨ z = 1 ∨ z = 2 ∨ z = 3 ∨ z = 4 := by omega
  rcases hz with rfl | rfl | rfl | rfl | rfl <;> exact W_eval ordK 1000 (by kernel_rfl)
theorem orderBob_03 (a b c : Int) (hx : place a 4 = 0) (hy : place b 4 = 3) : pureS funs 140 [.i .i64 a, .i .i64 b, .i .i64 c] = some (.b true) := by
  refine pure_of (fn := A_xlaw11_OrderBob) rfl ?_
  have hp1 := sp_place (F := funs) rfl (v := a) (n := 4) (by omega) (by omega)
  have hp2 := sp_place (F := funs) rfl (v := b) (n := 4) (by omega) (by omega)
  have hp3 := sp_place (F := funs) rfl (v := c) (n := 5) (by omega) (by omega)
  obtain ⟨s0, s1⟩ := place_lt (v := c) (n := 5) (by omega)
  rw [hx] at hp1
  rw [hy] at hp2
  generalize place c 5 = z at hp3 s0 s1
  rw [show A_xlaw11_OrderBob.body = .seq (sL A_xlaw11_OrderBob.body) (.seq (sL (sR A_xlaw11_OrderBob.body)) (sR (sR A_xlaw11_OrderBob.body))) from rfl]
  generalize hr : sR (sR A_xlaw11_OrderBob.body) = rest
  simp (disch := omega) only [A_xlaw11_OrderBob, sL, sR, wp, Nat.reduceAdd, Nat.reduceMul, Nat.reduceSub, hp1, hp2, hp3]
  subst hr
  have hz : z = 0 ∨ z = 1 ∨ z = 2 ∨ z = 3 ∨ z = 4 := by omega
  rcases hz with rfl | rfl | rfl | rfl | rfl <;> exact W_eval ordK 1000 (by kernel_rfl)
end Go.Proofs.Ytgfjjohnfbhjcaa
end
section
set_option linter.unusedVariables false
set_option linter.unusedSimpArgs false
set_option maxRecDepth 100000
namespace Go.Proofs.Ytgfjjohnfbhjcaa
open Go.Ab
theorem orderBob_10 (a b c : Int) (hx : place a 4 = 1) (hy : place b 4 = 0) : pureS funs 140 [.i .i64 a, .i .i64 b, .i .i64 c] = some (.b true) := by
  refine pure_of (fn := A_xlaw11_OrderBob) rfl ?_
  have hp1 := sp_place (F := funs) rfl (v := a) (n := 4) (by omega) (by omega)
  have hp2 := sp_place (F := funs) rfl (v := b) (n := 4) (by omega) (by omega)
  have hp3 := sp_place (F := funs) rfl (v := c) (n := 5) (by omega) (by omega)
  obtain ⟨s0, s1⟩ := place_lt (v := c) (n := 5) (by omega)
  rw [hx] at hp1
  rw [hy] at hp2
  generalize place c 5 = z at hp3 s0 s1
  rw [show A_xlaw11_OrderBob.body = .seq (sL A_xlaw11_OrderBob.body) (.seq (sL (sR A_xlaw11_OrderBob.body)) (sR (sR A_xlaw11_OrderBob.body))) from rfl]
  generalize hr : sR (sR A_xlaw11_OrderBob.body) = rest
  simp (disch := omega) only [A_xlaw11_OrderBob, sL, sR, wp, Nat.reduceAdd, Nat.reduceMul, Nat.reduceSub, hp1, hp2, hp3]
  subst hr
  have hz : z = 0 ∨ z = 1 ∨ z = 2 ∨ z = 3 ∨ z = 4 := by omega
  rcases hz with rfl | rfl | rfl | rfl | rfl <;> exact W_eval ordK 1000 (by kernel_rfl)
theorem orderBob_11 (a b c : Int) (hx : place a 4 = 1) (hy : place b 4 = 1) : pureS funs 140 [.i .i64 a, .i .i64 b, .i .i64 c] = some (.b true) := by
  refine pure_of (fn := A_xlaw11_OrderBob) rfl ?_
  have hp1 := sp_place (F := funs) rfl (v := a) (n := 4) (by omega) (by omega)
  have hp2 := sp_place (F := funs) rfl (v := b) (n := 4) (by omega) (by omega)
  have hp3 := sp_place (F := funs) rfl (v := c) (n := 5) (by omega) (by omega)
  obtain ⟨s0, s1⟩ := place_lt (v := c) (n := 5) (by omega)
  rw [hx] at hp1
  rw [hy] at hp2
  generalize place c 5 = z at hp3 s0 s1
  rw [show A_xlaw11_OrderBob.body = .seq (sL A_xlaw11_OrderBob.body) (.seq (sL (sR A_xlaw11_OrderBob.body)) (sR (sR A_xlaw11_OrderBob.body))) from rfl]
  generalize hr : sR (sR A_xlaw11_OrderBob.body) = rest
  simp (disch := omega) only [A_xlaw11_OrderBob, sL, sR, wp, Nat.reduceAdd, Nat.reduceMul, Nat.reduceSub, hp1, hp2, hp3]
  subst hr
  have hz : z = 0 ∨ z = 1 ∨ z = 2 ∨ z = 3 ∨ z = 4 := by omega
  rcases hz with rfl | rfl | rfl | rfl | rfl <;> exact W_eval ordK 1000 (by kernel_rfl)
theorem orderBob_12 (a b c : Int) (hx : place a 4 = 1) (hy : place b 4 = 2) : pureS funs 140 [.i .i64 a, .i .i64 b, .i .i64 c] = some (.b true) := by
  refine pure_of (fn := A_xlaw11_OrderBob) rfl ?_
  have hp1 := sp_place (F := funs) rfl (v := a) (n := 4) (by omega) (by omega)
  have hp2 := sp_place (F := funs) rfl (v := b) (n := 4) (by omega) (by omega)
  have hp3 := sp_place (F := funs) rfl (v := c) (n := 5) (by omega) (by omega)
  obtain ⟨s0, s1⟩ := place_lt (v := c) (n := 5) (by omega)
  rw [hx] at hp1
  rw [hy] at hp2
  generalize place c 5 = z at hp3 s0 s1
  rw [show A_xlaw11_OrderBob.body = .seq (sL A_xlaw11_OrderBob.body) (.seq (sL (sR A_xlaw11_OrderBob.body)) (sR (sR A_xlaw11_OrderBob.body))) from rfl]
  generalize hr : sR (sR A_xlaw11_OrderBob.body) = rest
  simp (disch := omega) only [A_xlaw11_OrderBob, sL, sR, wp, Nat.reduceAdd, Nat.reduceMul, Nat.reduceSub, hp1, hp2, hp3]
  subst hr
  have hz : z = 0 ∨ z = 1 ∨ z = 2 ∨ z = 3 ∨ z = 4 := by omega
  rcases hz with rfl | rfl | rfl | rfl | rfl <;> exact W_eval ordK 1000 (by kernel_rfl)
theorem orderBob_13 (a b c : Int) (hx : place a 4 = 1) (hy : place b 4 = 3) : pureS funs 140 [.i .i64 a, .i .i64 b, .i .i64 c] = some (.b true) := by
  refine pure_of (fn := A_xlaw11_OrderBob) rfl ?_
  have hp1 := sp_place (F := funs) rfl (v := a) (n := 4) (by omega) (by omega)
  have hp2 := sp_place (F := funs) rfl (v := b) (n := 4) (by omega) (by omega)
  have hp3 := sp_place (F := funs) rfl (v := c) (n := 5) (by omega) (by omega)
  obtain ⟨s0, s1⟩ := place_lt (v := c) (n := 5) (by omega)
  rw [hx] at hp1
  rw [hy] at hp2
  generalize place c 5 = z at hp3 s0 s1
  rw [show A_xlaw11_OrderBob.body = .seq (sL A_xlaw11_OrderBob.body) (.seq (sL (sR A_xlaw11_OrderBob.body)) (sR (sR A_xlaw11_OrderBob.body))) from rfl]
  generalize hr : sR (sR A_xlaw11_OrderBob.body) = rest
  simp (disch := omega) only [A_xlaw11_OrderBob, sL, sR, wp, Nat.reduceAdd, Nat.reduceMul, Nat.reduceSub, hp1, hp2, hp3]
  subst hr
  have hz : z = 0 ∨ z = 1 ∨ z = 2 ∨ z = 3 ∨ z = 4 := by omega
  rcases hz with rfl | rfl | rfl | rfl | rfl <;> exact W_eval ordK 1000 (by kernel_rfl)
end Go.Proofs.Ytgfjjohnfbhjcaa
end
section
set_option linter.unusedVariables false
set_option linter.unusedSimpArgs false
set_option maxRecDepth 100000
namespace Go.Proofs.Ytgfjjohnfbhjcaa
open Go.Ab
theorem orderBob_20 (a b c : Int) (hx : place a 4 = 2) (hy : place b 4 = 0) : pureS funs 140 [.i .i64 a, .i .i64 b, .i .i64 c] = some (.b true) := by
  refine pure_of (fn := A_xlaw11_OrderBob) rfl ?_
  have hp1 := sp_place (F := funs) rfl (v := a) (n := 4) (by omega) (by omega)
  have hp2 := sp_place (F := funs) rfl (v := b) (n := 4) (by omega) (by omega)
  have hp3 := sp_place (F := funs) rfl (v := c) (n := 5) (by omega) (by omega)
  obtain ⟨s0, s1⟩ := place_lt (v := c) (n := 5) (by omega)
  rw [hx] at hp1
  rw [hy] at hp2
  generalize place c 5 = z at hp3 s0 s1
  rw [show A_xlaw11_OrderBob.body = .seq (sL A_xlaw11_OrderBob.body) (.seq (sL (sR A_xlaw11_OrderBob.body)) (sR (sR A_xlaw11_OrderBob.body))) from rfl]
  generalize hr : sR (sR A_xlaw11_OrderBob.body) = rest
  simp (disch := omega) only [A_xlaw11_OrderBob, sL, sR, wp, Nat.reduceAdd, Nat.reduceMul, Nat.reduceSub, hp1, hp2, hp3]
  subst hr
  have hz : z = 0 ∨ z = 1 ∨ z = 2 ∨ z = 3 ∨ z = 4 := by omega
  rcases hz with rfl | rfl | rfl | rfl | rfl <;> exact W_eval ordK 1000 (by kernel_rfl)
theorem orderBob_21 (a b c : Int) (hx : place a 4 = 2) (hy : place b 4 = 1) : pureS funs 140 [.i .i64 a, .i .i64 b, .i .i64 c] = some (.b true) := by
  refine pure_of (fn := A_xlaw11_OrderBob) rfl ?_
  have hp1 := sp_place (F := funs) rfl (v := a) (n := 4) (by omega) (by omega)
  have hp2 := sp_place (F := funs) rfl (v := b) (n := 4) (by omega) (by omega)
  have hp3 := sp_place (F := funs) rfl (v := c) (n := 5) (by omega) (by omega)
  obtain ⟨s0, s1⟩ := place_lt (v := c) (n := 5) (by omega)
  rw [hx] at hp1
  rw [hy] at hp2
  generalize place c 5 = z at hp3 s0 s1
  rw [show A_xlaw11_OrderBob.body = .seq (sL A_xlaw11_OrderBob.body) (.seq (sL (sR A_xlaw11_OrderBob.body)) (sR (sR A_xlaw11_OrderBob.body))) from rfl]
  generalize hr : sR (sR A_xlaw11_OrderBob.body) = rest
  simp (disch := omega) only [A_xlaw11_OrderBob, sL, sR, wp, Nat.reduceAdd, Nat.reduceMul, Nat.reduceSub, hp1, hp2, hp3]
  subst hr
  have hz : z = 0 ∨ z = 1 ∨ z = 2 ∨ z = 3 ∨ z = 4 := by omega
  rcases hz with rfl | rfl | rfl | rfl | rfl <;> exact W_eval ordK 1000 (by kernel_rfl)
theorem orderBob_22 (a b c : Int) (hx : place a 4 = 2) (hy : place b 4 = 2) : pureS funs 140 [.i .i64 a, .i .i64 b, .i .i64 c] = some (.b true) := by
  refine pure_of (fn := A_xlaw11_OrderBob) rfl ?_
  have hp1 := sp_place (F := funs) rfl (v := a) (n := 4) (by omega) (by omega)
  have hp2 := sp_place (F := funs) rfl (v := b) (n := 4) (by omega) (by omega)
  have hp3 := sp_place (F := funs) rfl (v := c) (n := 5) (by omega) (by omega)
  obtain ⟨s0, s1⟩ := place_lt (v := c) (n := 5) (by omega)
  rw [hx] at hp1
  rw [hy] at hp2
  generalize place c 5 = z at hp3 s0 s1
  rw [show A_xlaw11_OrderBob.body = .seq (sL A_xlaw11_OrderBob.body) (.seq (sL (sR A_xlaw11_OrderBob.body)) (sR (sR A_xlaw11_OrderBob.body))) from rfl]
  generalize hr : sR (sR A_xlaw11_OrderBob.body) = rest
  simp (disch := omega) only [A_xlaw11_OrderBob, sL, sR, wp, Nat.reduceAdd, Nat.reduceMul, Nat.reduceSub, hp1, hp2, hp3]
  subst hr
  have hz : z = 0 ∨ z = 1 ∨ z = 2 ∨ z = 3 ∨ z = 4 := by omega
  rcases hz with rfl | rfl | rfl | rfl | rfl <;> exact W_eval ordK 1000 (by kernel_rfl)
theorem orderBob_23 (a b c : Int) (hx : place a 4 = 2) (hy : place b 4 = 3) : pureS funs 140 [.i .i64 a, .i .i64 b, .i .i64 c] = some (.b true) := by
  refine pure_of (fn := A_xlaw11_OrderBob) rfl ?_
  have hp1 := sp_place (F := funs) rfl (v := a) (n := 4) (by omega) (by omega)
  have hp2 := sp_place (F := funs) rfl (v := b) (n := 4) (by omega) (by omega)
  have hp3 := sp_place (F := funs) rfl (v := c) (n := 5) (by omega) (by omega)
  obtain ⟨s0, s1⟩ := place_lt (v := c) (n := 5) (by omega)
  rw [hx] at hp1
  rw [hy] at hp2
  generalize place c 5 = z at hp3 s0 s1
  rw [show A_xlaw11_OrderBob.body = .seq (sL A_xlaw11_OrderBob.body) (.seq (sL (sR A_xlaw11_OrderBob.body)) (sR (sR A_xlaw11_OrderBob.body))) from rfl]
  generalize hr : sR (sR A_xlaw11_OrderBob.body) = rest
  simp (disch := omega) only [A_xlaw11_OrderBob, sL, sR, wp, Nat.reduceAdd, Nat.reduceMul, Nat.reduceSub, hp1, hp2, hp3]
  subst hr
  have hz : z = 0 ∨ z = 1 ∨ z = 2 ∨ z = 3 ∨ z = 4 := by omega
  rcases hz with rfl | rfl | rfl | rfl | rfl <;> exact W_eval ordK 1000 (by kernel_rfl)
end Go.Proofs.Ytgfjjohnfbhjcaa
end
section
set_option linter.unusedVariables false
set_option linter.unusedSimpArgs false
set_option maxRecDepth 100000
namespace Go.Proofs.Ytgfjjohnfbhjcaa
open Go.Ab
theorem orderBob_30 (a b c : Int) (hx : place a 4 = 3) (hy : place b 4 = 0) : pureS funs 140 [.i .i64 a, .i .i64 b, .i .i64 c] = some (.b true) := by
  refine pure_of (fn := A_xlaw11_OrderBob) rfl ?_
  have hp1 := sp_place (F := funs) rfl (v := a) (n := 4) (by omega) (by omega)
  have hp2 := sp_place (F := funs) rfl (v := b) (n := 4) (by omega) (by omega)
  have hp3 := sp_place (F := funs) rfl (v := c) (n := 5) (by omega) (by omega)
  obtain ⟨s0, s1⟩ := place_lt (v := c) (n := 5) (by omega)
  rw [hx] at hp1
  rw [hy] at hp2
  generalize place c 5 = z at hp3 s0 s1
  rw [show A_xlaw11_OrderBob.body = .seq (sL A_xlaw11_OrderBob.body) (.seq (sL (sR A_xlaw11_OrderBob.body)) (sR (sR A_xlaw11_OrderBob.body))) from rfl]
  generalize hr : sR (sR A_xlaw11_OrderBob.body) = rest
  simp (disch := omega) only [A_xlaw11_OrderBob, sL, sR, wp, Nat.reduceAdd, Nat.reduceMul, Nat.reduceSub, hp1, hp2, hp3]
  subst hr
  have hz : z = 0 ∨ z = 1 ∨ z = 2 ∨ z = 3 ∨ z = 4 := by omega
  rcases hz with rfl | rfl | rfl | rfl | rfl <;> exact W_eval ordK 1000 (by kernel_rfl)
theorem orderBob_31 (a b c : Int) (hx : place a 4 = 3) (hy : place b 4 = 1) : pureS funs 140 [.i .i64 a, .i .i64 b, .i .i64 c] = some (.b true) := by
  refine pure_of (fn := A_xlaw11_OrderBob) rfl ?_
  have hp1 := sp_place (F := funs) rfl (v := a) (n := 4) (by omega) (by omega)
  have hp2 := sp_place (F := funs) rfl (v := b) (n := 4) (by omega) (by omega)
  have hp3 := sp_place (F := funs) rfl (v := c) (n := 5) (by omega) (by omega)
  obtain ⟨s0, s1⟩ := place_lt (v := c) (n := 5) (by omega)
  rw [hx] at hp1
  rw [hy] at hp2
  generalize place c 5 = z at hp3 s0 s1
  rw [show A_xlaw11_OrderBob.body = .seq (sL A_xlaw11_OrderBob.body) (.seq (sL (sR A_xlaw11_OrderBob.body)) (sR (sR A_xlaw11_OrderBob.body))) from rfl]
  generalize hr : sR (sR A_xlaw11_OrderBob.body) = rest
  simp (disch := omega) only [A_xlaw11_OrderBob, sL, sR, wp, Nat.reduceAdd, Nat.reduceMul, Nat.reduceSub, hp1, hp2, hp3]
  subst hr
  have hz : z = 0 ∨ z = 1 ∨ z = 2 ∨ z = 3 ∨ z = 4 := by omega
  rcases hz with rfl | rfl | rfl | rfl | rfl <;> exact W_eval ordK 1000 (by kernel_rfl)
theorem orderBob_32 (a b c : Int) (hx : place a 4 = 3) (hy : place b 4 = 2) : pureS funs 140 [.i .i64 a, .i .i64 b, .i .i64 c] = some (.b true) := by
  refine pure_of (fn := A_xlaw11_OrderBob) rfl ?_
  have hp1 := sp_place (F := funs) rfl (v := a) (n := 4) (by omega) (by omega)
  have hp2 := sp_place (F := funs) rfl (v := b) (n := 4) (by omega) (by omega)
  have hp3 := sp_place (F := funs) rfl (v := c) (n := 5) (by omega) (by omega)
  obtain ⟨s0, s1⟩ := place_lt (v := c) (n := 5) (by omega)
  rw [hx] at hp1
  rw [hy] at hp2
  generalize place c 5 = z at hp3 s0 s1
  rw [show A_xlaw11_OrderBob.body = .seq (sL A_xlaw11_OrderBob.body) (.seq (sL (sR A_xlaw11_OrderBob.body)) (sR (sR A_xlaw11_OrderBob.body))) from rfl]
  generalize hr : sR (sR A_xlaw11_OrderBob.body) = rest
  simp (disch := omega) only [A_xlaw11_OrderBob, sL, sR, wp, Nat.reduceAdd, Nat.reduceMul, Nat.reduceSub, hp1, hp2, hp3]
  subst hr
  have hz : z = 0 ∨ z = 1 ∨ z = 2 ∨ z = 3 ∨ z = 4 := by omega
  rcases hz with rfl | rfl | rfl | rfl | rfl <;> exact W_eval ordK 1000 (by kernel_rfl)
theorem orderBob_33 (a b c : Int) (hx : place a 4 = 3) (hy : place b 4 = 3) : pureS funs 140 [.i .i64 a, .i .i64 b, .i .i64 c] = some (.b true) := by
  refine pure_of (fn := A_xlaw11_OrderBob) rfl ?_
  have hp1 := sp_place (F := funs) rfl (v := a) (n := 4) (by omega) (by omega)
  have hp2 := sp_place (F := funs) rfl (v := b) (n := 4) (by omega) (by omega)
  have hp3 := sp_place (F := funs) rfl (v := c) (n := 5) (by omega) (by omega)
  obtain ⟨s0, s1⟩ := place_lt (v := c) (n := 5) (by omega)
  rw [hx] at hp1
  rw [hy] at hp2
  generalize place c 5 = z at hp3 s0 s1
  rw [show A_xlaw11_OrderBob.body = .seq (sL A_xlaw11_OrderBob.body) (.seq (sL (sR A_xlaw11_OrderBob.body)) (sR (sR A_xlaw11_OrderBob.body))) from rfl]
  generalize hr : sR (sR A_xlaw11_OrderBob.body) = rest
  simp (disch := omega) only [A_xlaw11_OrderBob, sL, sR, wp, Nat.reduceAdd, Nat.reduceMul, Nat.reduceSub, hp1, hp2, hp3]
  subst hr
  have hz : z = 0 ∨ z = 1 ∨ z = 2 ∨ z = 3 ∨ z = 4 := by omega
  rcases hz with rfl | rfl | rfl | rfl | rfl <;> exact W_eval ordK 1000 (by kernel_rfl)
end Go.Proofs.Ytgfjjohnfbhjcaa
end
section
namespace Go.Proofs.Ytgfjjohnfbhjcaa
open Go.Ab
theorem orderBob_law (a b c : Int) : pureS funs 140 [.i .i64 a, .i .i64 b, .i .i64 c] = some (.b true) := by
  obtain ⟨q0, q1⟩ := place_lt (v := a) (n := 4) (by omega)
  obtain ⟨r0, r1⟩ := place_lt (v := b) (n := 4) (by omega)
  have hx : place a 4 = 0 ∨ place a 4 = 1 ∨ place a 4 = 2 ∨ place a 4 = 3 := by omega
  have hy : place b 4 = 0 ∨ place b 4 = 1 ∨ place b 4 = 2 ∨ place b 4 = 3 := by omega
  rcases hx with hx | hx | hx | hx <;> rcases hy with hy | hy | hy | hy
  · exact orderBob_00 a b c hx hy
  · exact orderBob_01 a b c hx hy
  · exact orderBob_02 a b c hx hy
  · exact orderBob_03 a b c hx hy
  · exact orderBob_10 a b c hx hy
  · exact orderBob_11 a b c hx hy
  · exact orderBob_12 a b c hx hy
  · exact orderBob_13 a b c hx hy
  · exact orderBob_20 a b c hx hy
  · exact orderBob_21 a b c hx hy
  · exact orderBob_22 a b c hx hy
  · exact orderBob_23 a b c hx hy
  · exact orderBob_30 a b c hx hy
  · exact orderBob_31 a b c hx hy
  · exact orderBob_32 a b c hx hy
  · exact orderBob_33 a b c hx hy
end Go.Proofs.Ytgfjjohnfbhjcaa
end
