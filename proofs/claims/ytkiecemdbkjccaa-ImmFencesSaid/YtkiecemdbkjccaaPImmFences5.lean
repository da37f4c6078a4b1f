/- What ImmFences rests on, part 5: lemmas, no claim of its own. -/
import Derived.Test.YtkiecemdbkjccaaPImmFences4
section
set_option linter.unusedVariables false
set_option linter.unusedSimpArgs false
namespace Go.Ab
variable {F : Funs}
def intsOf : List AV → Option (List Int)
  | [] => some []
  | .i .i64 x :: l => (match intsOf l with | some xs => some (x :: xs) | none => none)
  | _ => none
theorem intsOf_ok : ∀ {l : List AV} {xs : List Int}, intsOf l = some xs → l = intsC xs
  | [], xs, h => by cases h; rfl
  | v :: l, xs, h => by
    unfold intsOf at h
    split at h
    · rename_i h0; cases h0
    · rename_i x l' h0
      cases h0
      split at h
      · rename_i ys hu
        cases h
        rw [intsOf_ok hu]; rfl
      · cases h
    · cases h
def pairsOf : List AV → Option (List (Int × Int))
  | [] => some []
  | .i .i64 x :: .i .i64 y :: l => (match pairsOf l with | some xs => some ((x, y) :: xs) | none => none)
  | _ => none
theorem pairsOf_ok : ∀ {l : List AV} {xs : List (Int × Int)}, pairsOf l = some xs → l = pairsC xs
  | [], xs, h => by cases h; rfl
  | [v], xs, h => by
    unfold pairsOf at h
    split at h
    · rename_i h0; cases h0
    · rename_i h0; cases h0
    · cases h
  | v :: w :: l, xs, h => by
    unfold pairsOf at h
    split at h
    · rename_i h0; cases h0
    · rename_i x y l' h0
      cases h0
      split at h
      · rename_i ys hu
        cases h
        rw [pairsOf_ok hu]; rfl
      · cases h
    · cases h
def evsOf : List AV → Option (List Ev)
  | [] => some []
  | .i .i64 a :: .i .i64 b :: .i .i64 c :: .i .i64 d :: .i .i64 e :: .b x :: l => (match evsOf l with | some xs => some (⟨a, b, c, d, e, x⟩ :: xs) | none => none)
  | _ => none
theorem evsOf_len : ∀ (n : Nat) {l : List AV} {xs : List Ev}, l.length ≤ n → evsOf l = some xs → l = evsC xs
  | n, [], xs, _, h => by cases h; rfl
  | 0, v :: l, xs, hn, h => by simp at hn
  | n + 1, v :: l, xs, hn, h => by
    unfold evsOf at h
    split at h
    · rename_i h0; cases h0
    · rename_i a b c d e x l' h0
      cases h0
      split at h
      · rename_i ys hu
        cases h
        have hl : l'.length ≤ n := by simp only [List.length_cons] at hn; omega
        rw [evsOf_len n hl hu]; rfl
      · cases h
    · cases h
theorem evsOf_ok {l : List AV} {xs : List Ev} (h : evsOf l = some xs) : l = evsC xs := evsOf_len l.length (Nat.le_refl _) h
def slI : AV → Option (List Int)
  | .sl cs n .non => (match intsOf cs with | some xs => if xs.length = n then some xs else none | none => none)
  | _ => none
theorem slI_ok {v : AV} {xs : List Int} (h : slI v = some xs) : v = .sl (intsC xs) xs.length .non := by
  unfold slI at h
  split at h
  · split at h
    · rename_i ys hu
      split at h
      · rename_i hn
        cases h
        rw [intsOf_ok hu, hn]
      · cases h
    · cases h
  · cases h
def slP : AV → Option (List (Int × Int))
  | .sl cs n .non => (match pairsOf cs with | some xs => if xs.length = n then some xs else none | none => none)
  | _ => none
theorem slP_ok {v : AV} {xs : List (Int × Int)} (h : slP v = some xs) : v = .sl (pairsC xs) xs.length .non := by
  unfold slP at h
  split at h
  · split at h
    · rename_i ys hu
      split at h
      · rename_i hn
        cases h
        rw [pairsOf_ok hu, hn]
      · cases h
    · cases h
  · cases h
def coOf : List AV → Option (List (List Int))
  | [] => some []
  | v :: l => (match slI v with | some x => (match coOf l with | some xs => some (x :: xs) | none => none) | none => none)
theorem coOf_ok : ∀ {l : List AV} {xs : List (List Int)}, coOf l = some xs → l = coC xs
  | [], xs, h => by cases h; rfl
  | v :: l, xs, h => by
    unfold coOf at h
    split at h
    · rename_i x hx
      split at h
      · rename_i ys hu
        cases h
        rw [coOf_ok hu, slI_ok hx]; rfl
      · cases h
    · cases h
def grOf : List AV → Option Gr
  | [.i .i64 locs, .sl es ne .non, rf, .sl cc nc .non, rmw, data, ctrl, ctrli] =>
    (match evsOf es with
    | none => none
    | some es => (match slI rf with
      | none => none
      | some rf => (match coOf cc with
        | none => none
        | some cc => (match slP rmw with
          | none => none
          | some rmw => (match slP data with
            | none => none
            | some data => (match slP ctrl with
              | none => none
              | some ctrl => (match slP ctrli with
                | none => none
                | some ctrli => if es.length = ne ∧ cc.length = nc then some ⟨locs, es, rf, cc, rmw, data, ctrl, ctrli⟩ else none)))))))
  | _ => none
theorem grOf_ok {cs : List AV} {X : Gr} (h : grOf cs = some X) : cs = grC X := by
  unfold grOf at h
  split at h
  · split at h
    · cases h
    · rename_i es he
      split at h
      · cases h
      · rename_i rf hrf
        split at h
        · cases h
        · rename_i cc hcc
          split at h
          · cases h
          · rename_i r1 h1
            split at h
            · cases h
            · rename_i r2 h2
              split at h
              · cases h
              · rename_i r3 h3
                split at h
                · cases h
                · rename_i r4 h4
                  split at h
                  · rename_i hn
                    cases h
                    rw [evsOf_ok he, slI_ok hrf, coOf_ok hcc, slP_ok h1, slP_ok h2, slP_ok h3, slP_ok h4, ← hn.1, ← hn.2]; rfl
                  · cases h
  · cases h
def grOrc (f0 : Nat) (ok : Gr → Bool) (r : Gr → AV) : Orc := fun f bs => if f = f0 then (match bs with
  | [.agg cs] => (match grOf cs with | some X => if ok X then some (r X) else none | none => none)
  | _ => none) else none
theorem grOrc_ok {f0 : Nat} {ok : Gr → Bool} {r : Gr → AV} (h : ∀ X, ok X = true → pureS F f0 [.agg (grC X)] = some (r X)) : OrcOk F (grOrc f0 ok r) := by
  intro f bs v hv
  unfold grOrc at hv
  split at hv
  · rename_i hf
    subst hf
    split at hv
    · split at hv
      · rename_i X hX
        split at hv
        · rename_i hk
          cases hv
          rw [grOf_ok hX]
          exact h X hk
        · cases hv
      · cases hv
    · cases hv
  · cases hv
def orcOr (a b : Orc) : Orc := fun f bs => match a f bs with
  | some v => some v
  | none => b f bs
theorem orcOr_ok {a b : Orc} (ha : OrcOk F a) (hb : OrcOk F b) : OrcOk F (orcOr a b) := by
  intro f bs v h
  unfold orcOr at h
  split at h
  · rename_i h1; cases h; exact ha _ _ _ h1
  · exact hb _ _ _ h
def yesOrc (f0 : Nat) : Orc := fun f bs => if f = f0 then (match bs with | [] => some (.b true) | _ => none) else none
theorem yesOrc_ok {f0 : Nat} (h : pureS F f0 [] = some (.b true)) : OrcOk F (yesOrc f0) := by
  intro f bs v hv
  unfold yesOrc at hv
  split at hv
  · rename_i hf
    subst hf
    split at hv
    · cases hv; exact h
    · cases hv
  · cases hv
def fewB (X : Gr) : Bool := decide (X.evs.length ≤ 40) && decide (X.co.length ≤ 6) && X.co.all (fun c => decide (c.length ≤ 50)) && decide (X.rmw.length ≤ 50) && decide (X.data.length ≤ 300) && decide (X.ctrl.length ≤ 300) && decide (X.ctrli.length ≤ 300)
end Go.Ab
end
section
set_option linter.unusedVariables false
set_option linter.unusedSimpArgs false
namespace Go.Ab
variable {F : Funs}
def Lst (R : Rw) (zs : List Nat) : Prop := zs.length = 40 ∧ ∀ a, a < 40 → (R a).toNat = zs.getD a 0
theorem Lst.cells {n : Nat} {R : Rw} {zs : List Nat} (h : Lst R zs) : relC n R = .i .i64 n :: zs.map fun (x : Nat) => .i .u64 (x : Int) := by
  show AV.i .i64 (n : Int) :: rowsC R = _
  congr 1
  refine List.ext_getElem? fun i => ?_
  by_cases hi : i < 40
  · rw [rowsC_get hi, List.getElem?_map, List.getElem?_eq_getElem (by rw [h.1]; exact hi)]
    simp only [Option.map_some, U]
    rw [h.2 i hi, List.getD_eq_getElem?_getD, List.getElem?_eq_getElem (by rw [h.1]; exact hi), Option.getD_some]
  · rw [List.getElem?_eq_none (by rw [rowsC_len]; omega), List.getElem?_eq_none (by rw [List.length_map, h.1]; omega)]
noncomputable def newRow (n a : Nat) (l : List (Int × Int)) : Nat := List.rec (motive := fun _ => Nat) 0 (fun p _ ih => match p with
  | (.ofNat x, .ofNat y) => Bool.rec (motive := fun _ => Nat) ih (Bool.rec (motive := fun _ => Nat) ih (Nat.lor (Nat.shiftLeft 1 y) ih) (Nat.ble (Nat.add y 1) n)) (Nat.beq x a)
  | _ => ih) l
end Go.Ab
end
section
set_option linter.unusedVariables false
set_option linter.unusedSimpArgs false
namespace Go.Ab
variable {F : Funs}
theorem fewB_ok {X : Gr} (h : fewB X = true) : Few X ∧ LenG X := by
  unfold fewB at h
  simp only [Bool.and_eq_true, decide_eq_true_eq, List.all_eq_true] at h
  obtain ⟨⟨⟨⟨⟨⟨h1, h2⟩, h3⟩, h4⟩, h5⟩, h6⟩, h7⟩ := h
  refine ⟨⟨by omega, by omega, fun c hc => by have := h3 c hc; omega⟩, ⟨?_, by omega, fun k => ?_, by omega, by omega, by omega, by omega⟩⟩
  · have := flat_le (l := X.co) (m := 50) h3
    have : X.co.length * 50 ≤ 6 * 50 := Nat.mul_le_mul_right _ h2
    omega
  · rw [List.getD_eq_getElem?_getD]
    cases hz : X.co[k]? with
    | none => simp
    | some c => have := h3 c (List.mem_of_getElem? hz); simp only [Option.getD_some]; omega
def immOrc : Orc := orcOr (grOrc 161 fewB fun X => .b (conB X)) (orcOr (grOrc 164 fewB fun X => .b (cohB X)) (orcOr (grOrc 162 fewB fun X => .b (atB X)) (yesOrc 163)))
theorem immOrc_ok (S : ImmF F) (aw : pureS F 163 [] = some (.b true)) : OrcOk F immOrc :=
  orcOr_ok (grOrc_ok fun X h => si_con S (fewB_ok h).1 (fewB_ok h).2) (orcOr_ok (grOrc_ok fun X h => si_Coh S (fewB_ok h).1 (fewB_ok h).2) (orcOr_ok (grOrc_ok fun X h => si_At S (fewB_ok h).1 (fewB_ok h).2) (yesOrc_ok aw)))
def sL : ACode → ACode
  | .seq a _ => a
  | c => c
def sR : ACode → ACode
  | .seq _ b => b
  | c => c
end Go.Ab
end
section
set_option linter.unusedVariables false
set_option linter.unusedSimpArgs false
set_option maxRecDepth 100000
namespace Go.Proofs.Ytkiecemdbkjccaa
open Go.Ab
theorem immS : ImmF funs := ⟨⟨pk_order, ⟨pk_sync, pk_eco, pk_rel, rfl, rfl, rfl⟩⟩, pk_imm, ⟨rfl, rfl, rfl, rfl, rfl, rfl, rfl, rfl, rfl, rfl, rfl, rfl, ⟨rfl, rfl, rfl⟩⟩⟩
theorem orcI : OrcOk funs immOrc := immOrc_ok immS (si_awake rfl rfl immS)
theorem immFences_law (a b : Int) : pureS funs 142 [.i .i64 a, .i .i64 b] = some (.b true) := by
  refine pure_of (fn := A_xlaw12_ImmFences) rfl ?_
  have hp1 := sp_place (F := funs) rfl (v := a) (n := 5) (by omega) (by omega)
  have hp2 := sp_place (F := funs) rfl (v := b) (n := 5) (by omega) (by omega)
  obtain ⟨q0, q1⟩ := place_lt (v := a) (n := 5) (by omega)
  obtain ⟨r0, r1⟩ := place_lt (v := b) (n := 5) (by omega)
  generalize place a 5 = x at hp1 q0 q1
  generalize place b 5 = y at hp2 r0 r1
  rw [show A_xlaw12_ImmFences.body = .seq (sL A_xlaw12_ImmFences.body) (.seq (sL (sR A_xlaw12_ImmFences.body)) (sR (sR A_xlaw12_ImmFences.body))) from rfl]
  generalize hr : sR (sR A_xlaw12_ImmFences.body) = rest
  simp (disch := omega) only [A_xlaw12_ImmFences, sL, sR, wp, Nat.reduceAdd, Nat.reduceMul, Nat.reduceSub, hp1, hp2]
  subst hr
  have hx : x = 0 ∨ x = 1 ∨ x = 2 ∨ x = 3 ∨ x = 4 := by omega
  have hy : y = 0 ∨ y = 1 ∨ y = 2 ∨ y = 3 ∨ y = 4 := by omega
  rcases hx with rfl | rfl | rfl | rfl | rfl <;> rcases hy with rfl | rfl | rfl | rfl | rfl <;> exact W_eval orcI 1000 (by kernel_rfl)
end Go.Proofs.Ytkiecemdbkjccaa
end
