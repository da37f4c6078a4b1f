/- What PowerAny rests on, part 6: lemmas, no claim of its own. -/
import Derived.Test.YtgfjjohnfbhjcaaGreatPPowerAny5
section
set_option linter.unusedVariables false
set_option linter.unusedSimpArgs false
namespace Go.Ab
variable {F : Funs}
def u64s : List AV → Option (List Nat)
  | [] => some []
  | .i .u64 (.ofNat x) :: l => if x < 2 ^ 64 then (u64s l).map (x :: ·) else none
  | _ => none
def rwOf (xs : List Nat) : Rw := fun a => BitVec.ofNat 64 (xs.getD a 0)
theorem u64s_ok : ∀ {l : List AV} {xs : List Nat}, u64s l = some xs → l = xs.map (fun (x : Nat) => AV.i .u64 (x : Int)) ∧ ∀ x ∈ xs, x < 2 ^ 64
  | [], xs, h => by cases h; exact ⟨rfl, fun x hx => by cases hx⟩
  | v :: l, xs, h => by
    unfold u64s at h
    split at h
    · rename_i h0; cases h0
    · rename_i x l' h0
      cases h0
      split at h
      · rename_i hx
        cases hu : u64s l with
        | none => rw [hu] at h; cases h
        | some ys =>
          rw [hu] at h
          cases h
          obtain ⟨h1, h2⟩ := u64s_ok hu
          refine ⟨by rw [List.map_cons, ← h1]; rfl, fun y hy => ?_⟩
          rcases List.mem_cons.1 hy with rfl | hy
          · exact hx
          · exact h2 y hy
      · cases h
    · cases h
def relOf : List AV → Option (Nat × List Nat)
  | .i .i64 (.ofNat n) :: l => if n ≤ 40 then (match u64s l with | some xs => if xs.length = 40 then some (n, xs) else none | none => none) else none
  | _ => none
theorem relOf_ok {cs : List AV} {n : Nat} {xs : List Nat} (h : relOf cs = some (n, xs)) : n ≤ 40 ∧ cs = relC n (rwOf xs) := by
  unfold relOf at h
  split at h
  · rename_i m l
    split at h
    · rename_i hm
      split at h
      · rename_i ys hu
        split at h
        · rename_i hl
          cases h
          refine ⟨hm, ?_⟩
          obtain ⟨h1, h2⟩ := u64s_ok hu
          subst h1
          show AV.i .i64 (n : Int) :: _ = AV.i .i64 (n : Int) :: rowsC (rwOf xs)
          congr 1
          refine List.ext_getElem? fun i => ?_
          by_cases hi : i < 40
          · rw [rowsC_get hi, List.getElem?_map, List.getElem?_eq_getElem (by omega)]
            simp only [Option.map_some, U, rwOf]
            have hx := h2 (xs[i]'(by omega)) (List.getElem_mem _)
            rw [List.getD_eq_getElem?_getD, List.getElem?_eq_getElem (by omega), Option.getD_some, BitVec.toNat_ofNat, Nat.mod_eq_of_lt hx]
          · rw [List.getElem?_eq_none (by rw [List.length_map]; omega), List.getElem?_eq_none (by rw [rowsC_len]; omega)]
        · cases h
      · cases h
    · cases h
  · cases h
def intsOf : List AV → Option (List Int)
  | [] => some []
  | .i .i64 x :: l => (match intsOf l with | some xs => some (x :: xs) | none => none)
  | _ => none
theorem intsOf_ok : ∀ {l : List AV} {xs : List Int}, intsOf l = some xs → l = intsC xs
  | [], xs, h => by cases h; rfl
  | v :: l, xs, h => by
    unfold intsOf at h
    split at h
    · rename_i h0; cases h0
    · rename_i x l' h0
      cases h0
      split at h
      · rename_i ys hu
        cases h
        rw [intsOf_ok hu]; rfl
      · cases h
    · cases h
def pairsOf : List AV → Option (List (Int × Int))
  | [] => some []
  | .i .i64 x :: .i .i64 y :: l => (match pairsOf l with | some xs => some ((x, y) :: xs) | none => none)
  | _ => none
theorem pairsOf_ok : ∀ {l : List AV} {xs : List (Int × Int)}, pairsOf l = some xs → l = pairsC xs
  | [], xs, h => by cases h; rfl
  | [v], xs, h => by
    unfold pairsOf at h
    split at h
    · rename_i h0; cases h0
    · rename_i h0; cases h0
    · cases h
  | v :: w :: l, xs, h => by
    unfold pairsOf at h
    split at h
    · rename_i h0; cases h0
    · rename_i x y l' h0
      cases h0
      split at h
      · rename_i ys hu
        cases h
        rw [pairsOf_ok hu]; rfl
      · cases h
    · cases h
def evsOf : List AV → Option (List Ev)
  | [] => some []
  | .i .i64 a :: .i .i64 b :: .i .i64 c :: .i .i64 d :: .i .i64 e :: .b x :: l => (match evsOf l with | some xs => some (⟨a, b, c, d, e, x⟩ :: xs) | none => none)
  | _ => none
theorem evsOf_len : ∀ (n : Nat) {l : List AV} {xs : List Ev}, l.length ≤ n → evsOf l = some xs → l = evsC xs
  | n, [], xs, _, h => by cases h; rfl
  | 0, v :: l, xs, hn, h => by simp at hn
  | n + 1, v :: l, xs, hn, h => by
    unfold evsOf at h
    split at h
    · rename_i h0; cases h0
    · rename_i a b c d e x l' h0
      cases h0
      split at h
      · rename_i ys hu
        cases h
        have hl : l'.length ≤ n := by simp only [List.length_cons] at hn; omega
        rw [evsOf_len n hl hu]; rfl
      · cases h
    · cases h
theorem evsOf_ok {l : List AV} {xs : List Ev} (h : evsOf l = some xs) : l = evsC xs := evsOf_len l.length (Nat.le_refl _) h
def slI : AV → Option (List Int)
  | .sl cs n .non => (match intsOf cs with | some xs => if xs.length = n then some xs else none | none => none)
  | _ => none
theorem slI_ok {v : AV} {xs : List Int} (h : slI v = some xs) : v = .sl (intsC xs) xs.length .non := by
  unfold slI at h
  split at h
  · split at h
    · rename_i ys hu
      split at h
      · rename_i hn
        cases h
        rw [intsOf_ok hu, hn]
      · cases h
    · cases h
  · cases h
def slP : AV → Option (List (Int × Int))
  | .sl cs n .non => (match pairsOf cs with | some xs => if xs.length = n then some xs else none | none => none)
  | _ => none
theorem slP_ok {v : AV} {xs : List (Int × Int)} (h : slP v = some xs) : v = .sl (pairsC xs) xs.length .non := by
  unfold slP at h
  split at h
  · split at h
    · rename_i ys hu
      split at h
      · rename_i hn
        cases h
        rw [pairsOf_ok hu, hn]
      · cases h
    · cases h
  · cases h
def coOf : List AV → Option (List (List Int))
  | [] => some []
  | v :: l => (match slI v with | some x => (match coOf l with | some xs => some (x :: xs) | none => none) | none => none)
theorem coOf_ok : ∀ {l : List AV} {xs : List (List Int)}, coOf l = some xs → l = coC xs
  | [], xs, h => by cases h; rfl
  | v :: l, xs, h => by
    unfold coOf at h
    split at h
    · rename_i x hx
      split at h
      · rename_i ys hu
        cases h
        rw [coOf_ok hu, slI_ok hx]; rfl
      · cases h
    · cases h
def grOf : List AV → Option Gr
  | [.i .i64 locs, .sl es ne .non, rf, .sl cc nc .non, rmw, data, ctrl, ctrli] =>
    (match evsOf es with
    | none => none
    | some es => (match slI rf with
      | none => none
      | some rf => (match coOf cc with
        | none => none
        | some cc => (match slP rmw with
          | none => none
          | some rmw => (match slP data with
            | none => none
            | some data => (match slP ctrl with
              | none => none
              | some ctrl => (match slP ctrli with
                | none => none
                | some ctrli => if es.length = ne ∧ cc.length = nc then some ⟨locs, es, rf, cc, rmw, data, ctrl, ctrli⟩ else none)))))))
  | _ => none
theorem grOf_ok {cs : List AV} {X : Gr} (h : grOf cs = some X) : cs = grC X := by
  unfold grOf at h
  split at h
  · split at h
    · cases h
    · rename_i es he
      split at h
      · cases h
      · rename_i rf hrf
        split at h
        · cases h
        · rename_i cc hcc
          split at h
          · cases h
          · rename_i r1 h1
            split at h
            · cases h
            · rename_i r2 h2
              split at h
              · cases h
              · rename_i r3 h3
                split at h
                · cases h
                · rename_i r4 h4
                  split at h
                  · rename_i hn
                    cases h
                    rw [evsOf_ok he, slI_ok hrf, coOf_ok hcc, slP_ok h1, slP_ok h2, slP_ok h3, slP_ok h4, ← hn.1, ← hn.2]; rfl
                  · cases h
  · cases h
def is2 (r : Nat → List Nat → Nat → List Nat → AV) : List AV → Option AV
  | [.ptr a, .ptr b] => (match relOf a with | some (n, xs) => (match relOf b with | some (m, ys) => some (r n xs m ys) | none => none) | none => none)
  | _ => none
def is1 (r : Nat → List Nat → AV) : List AV → Option AV
  | [.ptr a] => (match relOf a with | some (n, xs) => some (r n xs) | none => none)
  | _ => none
theorem is2_ok {r : Nat → List Nat → Nat → List Nat → AV} {f : Nat} (h : ∀ n m xs ys, n ≤ 40 → m ≤ 40 → pureS F f [.ptr (relC n (rwOf xs)), .ptr (relC m (rwOf ys))] = some (r n xs m ys)) {bs : List AV} {v : AV} (hv : is2 r bs = some v) : pureS F f bs = some v := by
  unfold is2 at hv
  split at hv
  · split at hv
    · rename_i h1
      split at hv
      · rename_i h2
        cases hv
        obtain ⟨a1, rfl⟩ := relOf_ok h1
        obtain ⟨a2, rfl⟩ := relOf_ok h2
        exact h _ _ _ _ a1 a2
      · cases hv
    · cases hv
  · cases hv
theorem is1_ok {r : Nat → List Nat → AV} {f : Nat} (h : ∀ n xs, n ≤ 40 → pureS F f [.ptr (relC n (rwOf xs))] = some (r n xs)) {bs : List AV} {v : AV} (hv : is1 r bs = some v) : pureS F f bs = some v := by
  unfold is1 at hv
  split at hv
  · split at hv
    · rename_i h1
      cases hv
      obtain ⟨a1, rfl⟩ := relOf_ok h1
      exact h _ _ a1
    · cases hv
  · cases hv
def isHas : List AV → Option AV
  | [.ptr a, .i .i64 x, .i .i64 y] => (match relOf a with | some (n, xs) => some (.b (has n (rwOf xs) x y)) | none => none)
  | _ => none
def isNew : List AV → Option AV
  | [.i .i64 n, .sl cs k _] => (match pairsOf cs with | some l => if l.length = k ∧ k ≤ 100000 then some (.ptr (relC (clamp n) (newR (clamp n) l))) else none | none => none)
  | _ => none
def relOrc : Orc := fun f bs =>
  if f = 13 then isHas bs
  else if f = 24 then is2 (fun n xs m ys => .ptr (relC (max n m) (orR (rwOf xs) (rwOf ys)))) bs
  else if f = 23 then is2 (fun n xs m ys => .ptr (relC (max n m) (thenR n (rwOf xs) (rwOf ys)))) bs
  else if f = 18 then is2 (fun n xs m ys => .ptr (relC (max n m) (andR (rwOf xs) (rwOf ys)))) bs
  else if f = 12 then is1 (fun n xs => .ptr (relC n (plusR n (rwOf xs)))) bs
  else if f = 16 then is1 (fun n xs => .ptr (relC n (maybeK n (rwOf xs)))) bs
  else if f = 14 then is1 (fun n xs => .b (loopsR n (rwOf xs))) bs
  else if f = 15 then is1 (fun n xs => .sl (pairsC (pairsR n (rwOf xs))) (pairsR n (rwOf xs)).length .non) bs
  else if f = 17 then is1 (fun n xs => .i .i64 n) bs
  else if f = 11 then isNew bs
  else none
theorem relOrc_ok (pk : Pk_rel F) : OrcOk F relOrc := by
  intro f bs v h
  unfold relOrc at h
  split at h
  · rename_i hf; subst hf
    unfold isHas at h
    split at h
    · split at h
      · rename_i h1
        cases h
        obtain ⟨a1, rfl⟩ := relOf_ok h1
        exact sp_has pk a1 _ _ _
      · cases h
    · cases h
  split at h
  · rename_i hf; subst hf; exact is2_ok (fun n m xs ys hn hm => sp_or pk hn hm _ _) h
  split at h
  · rename_i hf; subst hf; exact is2_ok (fun n m xs ys hn hm => sp_then pk hn hm _ _) h
  split at h
  · rename_i hf; subst hf; exact is2_ok (fun n m xs ys hn hm => sp_and pk hn hm _ _) h
  split at h
  · rename_i hf; subst hf; exact is1_ok (fun n xs hn => sp_plus pk hn _) h
  split at h
  · rename_i hf; subst hf; exact is1_ok (fun n xs hn => sp_maybe pk hn _) h
  split at h
  · rename_i hf; subst hf; exact is1_ok (fun n xs hn => sp_loops pk hn _) h
  split at h
  · rename_i hf; subst hf; exact is1_ok (fun n xs hn => sp_pairs pk hn _) h
  split at h
  · rename_i hf; subst hf; exact is1_ok (fun n xs hn => sp_len pk _) h
  split at h
  · rename_i hf; subst hf
    unfold isNew at h
    split at h
    · split at h
      · rename_i l h1
        split at h
        · rename_i hk
          cases h
          rw [pairsOf_ok h1, ← hk.1]
          exact sp_new pk _ _ _ (by omega)
        · cases h
      · cases h
    · cases h
  · cases h
def grOrc (f0 : Nat) (ok : Gr → Bool) (r : Gr → AV) : Orc := fun f bs => if f = f0 then (match bs with
  | [.agg cs] => (match grOf cs with | some X => if ok X then some (r X) else none | none => none)
  | _ => none) else none
theorem grOrc_ok {f0 : Nat} {ok : Gr → Bool} {r : Gr → AV} (h : ∀ X, ok X = true → pureS F f0 [.agg (grC X)] = some (r X)) : OrcOk F (grOrc f0 ok r) := by
  intro f bs v hv
  unfold grOrc at hv
  split at hv
  · rename_i hf
    subst hf
    split at hv
    · split at hv
      · rename_i X hX
        split at hv
        · rename_i hk
          cases hv
          rw [grOf_ok hX]
          exact h X hk
        · cases hv
      · cases hv
    · cases hv
  · cases hv
def orcOr (a b : Orc) : Orc := fun f bs => match a f bs with
  | some v => some v
  | none => b f bs
theorem orcOr_ok {a b : Orc} (ha : OrcOk F a) (hb : OrcOk F b) : OrcOk F (orcOr a b) := by
  intro f bs v h
  unfold orcOr at h
  split at h
  · rename_i h1; cases h; exact ha _ _ _ h1
  · exact hb _ _ _ h
def fewB (X : Gr) : Bool := decide (X.evs.length ≤ 40) && decide (X.co.length ≤ 6) && X.co.all (fun c => decide (c.length ≤ 50)) && decide (X.rmw.length ≤ 50) && decide (X.data.length ≤ 300) && decide (X.ctrl.length ≤ 300) && decide (X.ctrli.length ≤ 300)
end Go.Ab
end
section
set_option linter.unusedVariables false
set_option linter.unusedSimpArgs false
namespace Go.Ab
variable {F : Funs}
def Lst (R : Rw) (zs : List Nat) : Prop := zs.length = 40 ∧ ∀ a, a < 40 → (R a).toNat = zs.getD a 0
theorem getD_lt {zs : List Nat} (h : ∀ x ∈ zs, x < 2 ^ 64) (a : Nat) : zs.getD a 0 < 2 ^ 64 := by
  rw [List.getD_eq_getElem?_getD]
  cases hz : zs[a]? with
  | none => simp
  | some x => simpa using h x (List.mem_of_getElem? hz)
theorem hb_rw (xs : List Nat) (a b : Nat) : hb (rwOf xs) a b = (decide (b < 64) && (xs.getD a 0).testBit b) := by
  unfold hb rwOf
  rw [BitVec.getLsbD_ofNat]
theorem toNat_bits {v : BitVec 64} {x : Nat} (hx : x < 2 ^ 64) (h : ∀ b, b < 64 → v.getLsbD b = x.testBit b) : v.toNat = x := by
  refine Nat.eq_of_testBit_eq fun i => ?_
  rw [BitVec.testBit_toNat]
  by_cases hi : i < 64
  · exact h i hi
  · rw [BitVec.getLsbD_of_ge _ _ (by omega), Nat.testBit_lt_two_pow (Nat.lt_of_lt_of_le hx (Nat.pow_le_pow_right (by omega) (by omega)))]
theorem Lst.cells {n : Nat} {R : Rw} {zs : List Nat} (h : Lst R zs) : relC n R = .i .i64 n :: zs.map fun (x : Nat) => .i .u64 (x : Int) := by
  show AV.i .i64 (n : Int) :: rowsC R = _
  congr 1
  refine List.ext_getElem? fun i => ?_
  by_cases hi : i < 40
  · rw [rowsC_get hi, List.getElem?_map, List.getElem?_eq_getElem (by rw [h.1]; exact hi)]
    simp only [Option.map_some, U]
    rw [h.2 i hi, List.getD_eq_getElem?_getD, List.getElem?_eq_getElem (by rw [h.1]; exact hi), Option.getD_some]
  · rw [List.getElem?_eq_none (by rw [rowsC_len]; omega), List.getElem?_eq_none (by rw [List.length_map, h.1]; omega)]
def okN (xs : List Nat) : Prop := xs.length = 40 ∧ ∀ x ∈ xs, x < 2 ^ 64
theorem lst_bits {R : Rw} {zs : List Nat} (hl : zs.length = 40) (hx : ∀ x ∈ zs, x < 2 ^ 64) (h : ∀ a, a < 40 → ∀ b, b < 64 → hb R a b = (zs.getD a 0).testBit b) : Lst R zs :=
  ⟨hl, fun a ha => toNat_bits (getD_lt hx a) (h a ha)⟩
theorem u64s_lt {l : List AV} {xs : List Nat} (h : u64s l = some xs) : ∀ x ∈ xs, x < 2 ^ 64 := (u64s_ok h).2
theorem relOf_okN {cs : List AV} {n : Nat} {xs : List Nat} (h : relOf cs = some (n, xs)) : n ≤ 40 ∧ cs = relC n (rwOf xs) ∧ okN xs := by
  obtain ⟨h1, h2⟩ := relOf_ok h
  refine ⟨h1, h2, ?_⟩
  unfold relOf at h
  split at h
  · split at h
    · split at h
      · rename_i hu
        split at h
        · rename_i hl
          cases h
          exact ⟨hl, u64s_lt hu⟩
        · cases h
      · cases h
    · cases h
  · cases h
noncomputable def zipN (f : Nat → Nat → Nat) (xs : List Nat) : List Nat → List Nat := List.rec (motive := fun _ => List Nat → List Nat) (fun _ => []) (fun x _ ih ys => List.rec (motive := fun _ => List Nat) [] (fun y ys _ => f x y :: ih ys) ys) xs
theorem zipN_eq (f : Nat → Nat → Nat) : ∀ xs ys, zipN f xs ys = List.zipWith f xs ys
  | [], _ => rfl
  | x :: xs, [] => rfl
  | x :: xs, y :: ys => by
    show f x y :: zipN f xs ys = _
    rw [zipN_eq f xs ys]; rfl
theorem zip_get {f : Nat → Nat → Nat} {xs ys : List Nat} {a : Nat} (h : xs.length = 40) (k : ys.length = 40) (ha : a < 40) : (zipN f xs ys).getD a 0 = f (xs.getD a 0) (ys.getD a 0) := by
  rw [zipN_eq]
  simp only [List.getD_eq_getElem?_getD]
  rw [List.getElem?_eq_getElem (by rw [List.length_zipWith]; omega), List.getElem?_eq_getElem (by omega), List.getElem?_eq_getElem (by omega)]
  simp
theorem zip_lt {f : Nat → Nat → Nat} (hf : ∀ x y, x < 2 ^ 64 → y < 2 ^ 64 → f x y < 2 ^ 64) : ∀ {xs ys : List Nat}, (∀ x ∈ xs, x < 2 ^ 64) → (∀ x ∈ ys, x < 2 ^ 64) → ∀ z ∈ zipN f xs ys, z < 2 ^ 64
  | [], _, _, _, z, hz => by cases hz
  | x :: xs, [], _, _, z, hz => by cases hz
  | x :: xs, y :: ys, hx, hy, z, hz => by
    have hz : z ∈ f x y :: zipN f xs ys := hz
    rcases List.mem_cons.1 hz with rfl | hz
    · exact hf x y (hx x (List.mem_cons_self ..)) (hy y (List.mem_cons_self ..))
    · exact zip_lt hf (fun w hw => hx w (List.mem_cons_of_mem _ hw)) (fun w hw => hy w (List.mem_cons_of_mem _ hw)) z hz
theorem lst_or {xs ys : List Nat} (hx : okN xs) (hy : okN ys) : Lst (orR (rwOf xs) (rwOf ys)) (zipN Nat.lor xs ys) := by
  refine lst_bits (by rw [zipN_eq, List.length_zipWith, hx.1, hy.1]; rfl) (zip_lt (fun x y h1 h2 => Nat.or_lt_two_pow h1 h2) hx.2 hy.2) fun a ha b hb' => ?_
  rw [hb_or, hb_rw, hb_rw, zip_get hx.1 hy.1 ha, decide_eq_true hb']
  exact (Nat.testBit_or ..).symm
theorem lst_and {xs ys : List Nat} (hx : okN xs) (hy : okN ys) : Lst (andR (rwOf xs) (rwOf ys)) (zipN Nat.land xs ys) := by
  refine lst_bits (by rw [zipN_eq, List.length_zipWith, hx.1, hy.1]; rfl) (zip_lt (fun x y h1 h2 => Nat.and_lt_two_pow x h2) hx.2 hy.2) fun a ha b hb' => ?_
  rw [hb_and, hb_rw, hb_rw, zip_get hx.1 hy.1 ha, decide_eq_true hb']
  exact (Nat.testBit_and ..).symm
noncomputable def rowN (ys : List Nat) : Nat → Nat := List.rec (motive := fun _ => Nat → Nat) (fun _ => 0) (fun y _ ih x => Bool.rec (motive := fun _ => Nat) (ih (Nat.div x 2)) (Nat.lor y (ih (Nat.div x 2))) (Nat.beq (Nat.mod x 2) 1)) ys
theorem rowN_nil (x : Nat) : rowN [] x = 0 := rfl
theorem rowN_cons (y : Nat) (ys : List Nat) (x : Nat) : rowN (y :: ys) x = if x.testBit 0 then y ||| rowN ys (x / 2) else rowN ys (x / 2) := by
  show Bool.rec (motive := fun _ => Nat) (rowN ys (x / 2)) (y ||| rowN ys (x / 2)) (Nat.beq (x % 2) 1) = _
  rw [Nat.testBit_zero]
  cases h : Nat.beq (x % 2) 1 with
  | true => rw [if_pos (by simpa using Nat.eq_of_beq_eq_true h)]
  | false => rw [if_neg (by simpa using Nat.ne_of_beq_eq_false h)]
theorem rowN_bit : ∀ (ys : List Nat) (x y : Nat), (rowN ys x).testBit y = (List.range ys.length).any fun b => x.testBit b && (ys.getD b 0).testBit y
  | [], x, y => by rw [rowN_nil]; simp
  | z :: ys, x, y => by
    rw [rowN_cons, List.length_cons, List.range_succ_eq_map, List.any_cons, List.any_map]
    have ih := rowN_bit ys (x / 2) y
    have e : ((List.range ys.length).any ((fun b => x.testBit b && ((z :: ys).getD b 0).testBit y) ∘ Nat.succ)) = (List.range ys.length).any fun b => (x / 2).testBit b && (ys.getD b 0).testBit y := by
      congr 1
      funext b
      simp only [Function.comp, Nat.succ_eq_add_one, Nat.testBit_succ, List.getD_cons_succ]
    rw [e, ← ih]
    cases x.testBit 0 with
    | true => simp [Nat.testBit_or]
    | false => simp
theorem rowN_lt : ∀ (ys : List Nat) (x : Nat), (∀ y ∈ ys, y < 2 ^ 64) → rowN ys x < 2 ^ 64
  | [], x, _ => by rw [rowN_nil]; omega
  | z :: ys, x, h => by
    have ih := rowN_lt ys (x / 2) fun y hy => h y (List.mem_cons_of_mem _ hy)
    rw [rowN_cons]
    split
    · exact Nat.or_lt_two_pow (h z (List.mem_cons_self ..)) ih
    · exact ih
noncomputable def takeN (n : Nat) : List Nat → List Nat := Nat.rec (motive := fun _ => List Nat → List Nat) (fun _ => []) (fun _ ih xs => List.rec (motive := fun _ => List Nat) [] (fun x xs _ => x :: ih xs) xs) n
theorem takeN_eq : ∀ n xs, takeN n xs = xs.take n
  | 0, _ => rfl
  | n + 1, [] => rfl
  | n + 1, x :: xs => by
    show x :: takeN n xs = _
    rw [takeN_eq n xs]; rfl
noncomputable def mapN (f : Nat → Nat) (xs : List Nat) : List Nat := List.rec (motive := fun _ => List Nat) [] (fun x _ ih => f x :: ih) xs
theorem mapN_eq (f : Nat → Nat) : ∀ xs, mapN f xs = xs.map f
  | [] => rfl
  | x :: xs => by
    show f x :: mapN f xs = _
    rw [mapN_eq f xs]; rfl
noncomputable def padN (xs : List Nat) (k : Nat) : List Nat := xs ++ List.replicate k 0
noncomputable def thenN (n : Nat) (xs ys : List Nat) : List Nat := padN (mapN (rowN (takeN n ys)) (takeN n xs)) (Nat.sub 40 n)
theorem getD_pad {xs : List Nat} {k a : Nat} : (padN xs k).getD a 0 = xs.getD a 0 := by
  unfold padN
  simp only [List.getD_eq_getElem?_getD, List.getElem?_append]
  split
  · rfl
  · rename_i h
    rw [List.getElem?_replicate, List.getElem?_eq_none (by omega)]
    split <;> rfl
theorem lst_then {n : Nat} (hn : n ≤ 40) {xs ys : List Nat} (hx : okN xs) (hy : okN ys) : Lst (thenR n (rwOf xs) (rwOf ys)) (thenN n xs ys) := by
  have e : thenN n xs ys = padN ((xs.take n).map (rowN (ys.take n))) (40 - n) := by
    unfold thenN; rw [mapN_eq, takeN_eq, takeN_eq]; rfl
  have hyt : ∀ y ∈ ys.take n, y < 2 ^ 64 := fun y h => hy.2 y (List.mem_of_mem_take h)
  have hlx : (xs.take n).length = n := by rw [List.length_take, hx.1]; omega
  have hly : (ys.take n).length = n := by rw [List.length_take, hy.1]; omega
  rw [e]
  refine lst_bits ?_ ?_ ?_
  · unfold padN; rw [List.length_append, List.length_map, hlx, List.length_replicate]; omega
  · intro z hz
    unfold padN at hz
    rcases List.mem_append.1 hz with hz | hz
    · obtain ⟨w, _, rfl⟩ := List.mem_map.1 hz
      exact rowN_lt _ _ hyt
    · obtain ⟨_, rfl⟩ := List.mem_replicate.1 hz; omega
  · intro a ha b hb'
    unfold thenR
    rw [hb_thenK, getD_pad]
    by_cases hn' : a < n
    · rw [decide_eq_true hn', Bool.true_and]
      have : ((xs.take n).map (rowN (ys.take n))).getD a 0 = rowN (ys.take n) (xs.getD a 0) := by
        simp only [List.getD_eq_getElem?_getD, List.getElem?_map]
        rw [List.getElem?_eq_getElem (by omega), List.getElem?_eq_getElem (by rw [hx.1]; omega), List.getElem_take]
        rfl
      rw [this, rowN_bit, hly, Bool.eq_iff_iff]
      simp only [List.any_eq_true, List.mem_range, Bool.and_eq_true]
      constructor
      · rintro ⟨c, hc, h1, h2⟩
        unfold hN at h1
        rw [hb_rw] at h1 h2
        simp only [Bool.and_eq_true, decide_eq_true_eq] at h1 h2
        refine ⟨c, hc, h1.2.2, ?_⟩
        have : (ys.take n).getD c 0 = ys.getD c 0 := by
          simp only [List.getD_eq_getElem?_getD]
          rw [List.getElem?_take_of_lt hc]
        rw [this]
        exact h2.2
      · rintro ⟨c, hc, h1, h2⟩
        have : (ys.take n).getD c 0 = ys.getD c 0 := by
          simp only [List.getD_eq_getElem?_getD]
          rw [List.getElem?_take_of_lt hc]
        rw [this] at h2
        refine ⟨c, hc, ?_, ?_⟩
        · unfold hN
          rw [hb_rw]
          simp only [Bool.and_eq_true, decide_eq_true_eq]
          exact ⟨⟨hn', hc⟩, by omega, h1⟩
        · rw [hb_rw]
          simp only [Bool.and_eq_true, decide_eq_true_eq]
          exact ⟨hb', h2⟩
    · rw [decide_eq_false hn', Bool.false_and]
      have : ((xs.take n).map (rowN (ys.take n))).getD a 0 = 0 := by
        rw [List.getD_eq_getElem?_getD, List.getElem?_eq_none (by rw [List.length_map]; omega)]; rfl
      rw [this]; simp
noncomputable def tbN (x b : Nat) : Bool := Nat.beq (Nat.land (Nat.shiftRight x b) 1) 1
theorem tbN_eq (x b : Nat) : tbN x b = x.testBit b := by
  show Nat.beq ((x >>> b) &&& 1) 1 = _
  rw [Nat.and_one_is_mod]
  have : x.testBit b = decide ((x >>> b) % 2 = 1) := by
    rw [← Nat.add_zero b, ← Nat.testBit_shiftRight, Nat.testBit_zero, Nat.add_zero]
  rw [this, Bool.eq_iff_iff]
  constructor
  · intro h; exact decide_eq_true (Nat.eq_of_beq_eq_true h)
  · intro h; rw [of_decide_eq_true h]; rfl
noncomputable def stepN (b r : Nat) (xs : List Nat) : List Nat := mapN (fun x => Bool.rec (motive := fun _ => Nat) x (Nat.lor x r) (tbN x b)) xs
noncomputable def frcNs {α : Type} (xs : List Nat) : (List Nat → α) → α := List.rec (motive := fun _ => (List Nat → α) → α) (fun k => k []) (fun x _ ih k => frcN x fun x => ih fun xs => k (x :: xs)) xs
theorem frcNs_ok {α : Type} : ∀ (xs : List Nat) (k : List Nat → α), frcNs xs k = k xs
  | [], _ => rfl
  | x :: xs, k => by
    show frcN x (fun x => frcNs xs fun xs => k (x :: xs)) = _
    rw [frcN_ok, frcNs_ok xs]
noncomputable def plusN (k : Nat) : Nat → List Nat → List Nat := Nat.rec (motive := fun _ => Nat → List Nat → List Nat) (fun _ xs => xs) (fun _ ih b xs => frcNs (stepN b (xs.getD b 0) xs) fun xs => ih (Nat.add b 1) xs) k
theorem plusN_succ (k b : Nat) (xs : List Nat) : plusN (k + 1) b xs = plusN k (b + 1) (stepN b (xs.getD b 0) xs) := by
  show frcNs (stepN b (xs.getD b 0) xs) (fun xs => plusN k (b + 1) xs) = _
  rw [frcNs_ok]
def wfN (n : Nat) (xs : List Nat) : Bool := (xs.take n).all (fun x => decide (x < 2 ^ n)) && (xs.drop n).all (fun x => x == 0)
theorem wfN_ok {n : Nat} {xs : List Nat} (h : wfN n xs = true) : Wf n (rwOf xs) := by
  intro a b hh
  rw [hb_rw] at hh
  simp only [Bool.and_eq_true, decide_eq_true_eq] at hh
  unfold wfN at h
  rw [Bool.and_eq_true, List.all_eq_true, List.all_eq_true] at h
  by_cases ha : a < n
  · refine ⟨ha, ?_⟩
    cases hz : xs[a]? with
    | none => rw [List.getD_eq_getElem?_getD, hz] at hh; simp at hh
    | some x =>
      have hx := h.1 x (List.mem_of_getElem? (by rw [List.getElem?_take_of_lt ha]; exact hz))
      rw [List.getD_eq_getElem?_getD, hz] at hh
      have hx : x < 2 ^ n := of_decide_eq_true hx
      by_cases hb' : b < n
      · exact hb'
      · rw [Option.getD_some, Nat.testBit_lt_two_pow (Nat.lt_of_lt_of_le hx (Nat.pow_le_pow_right (by omega) (by omega)))] at hh
        exact absurd hh.2 (by simp)
  · exfalso
    cases hz : xs[a]? with
    | none => rw [List.getD_eq_getElem?_getD, hz] at hh; simp at hh
    | some x =>
      have hx := h.2 x (List.mem_of_getElem? (i := a - n) (by rw [List.getElem?_drop, show n + (a - n) = a by omega]; exact hz))
      rw [List.getD_eq_getElem?_getD, hz] at hh
      have hx : x = 0 := by simpa using hx
      subst hx
      simp at hh
theorem stepN_get (b r : Nat) (xs : List Nat) (a : Nat) : (stepN b r xs).getD a 0 = if (xs.getD a 0).testBit b then xs.getD a 0 ||| r else xs.getD a 0 := by
  unfold stepN
  rw [mapN_eq]
  simp only [List.getD_eq_getElem?_getD, List.getElem?_map]
  cases xs[a]? with
  | none => simp
  | some x =>
    simp only [Option.map_some, Option.getD_some, tbN_eq]
    cases x.testBit b <;> rfl
theorem stepN_ok {b r : Nat} {xs : List Nat} (h : okN xs) (hr : r < 2 ^ 64) : okN (stepN b r xs) := by
  unfold stepN
  rw [mapN_eq]
  refine ⟨by rw [List.length_map]; exact h.1, fun z hz => ?_⟩
  obtain ⟨x, hx, rfl⟩ := List.mem_map.1 hz
  cases tbN x b with
  | true => exact Nat.or_lt_two_pow (h.2 x hx) hr
  | false => exact h.2 x hx
theorem rw_step {n b : Nat} (hn : n ≤ 40) (hb' : b < n) {xs : List Nat} (hw : Wf n (rwOf xs)) : rowP n b n (rwOf xs) = rwOf (stepN b (xs.getD b 0) xs) := by
  refine rw_ext fun x y hy => ?_
  rw [hb_rowP hb' _ hw n (Nat.le_refl _), hb_rw, hb_rw, hb_rw, hb_rw, stepN_get, decide_eq_true hy, decide_eq_true (show b < 64 by omega)]
  simp only [Bool.true_and]
  by_cases hx : x < n
  · rw [decide_eq_true hx, Bool.true_and]
    cases h : (xs.getD x 0).testBit b with
    | true => simp [Nat.testBit_or]
    | false => simp
  · rw [decide_eq_false hx]
    have : (xs.getD x 0).testBit b = false := by
      cases h : (xs.getD x 0).testBit b with
      | false => rfl
      | true =>
        exfalso
        have := hw x b (by rw [hb_rw, h, decide_eq_true (show b < 64 by omega)]; rfl)
        omega
    rw [this]; simp
theorem plusN_ok {n : Nat} (hn : n ≤ 40) : ∀ (k b : Nat) (xs : List Nat), b + k = n → okN xs → Wf n (rwOf xs) → okN (plusN k b xs) ∧ (List.range' b k).foldl (fun R b => rowP n b n R) (rwOf xs) = rwOf (plusN k b xs)
  | 0, b, xs, _, hx, _ => ⟨hx, rfl⟩
  | k + 1, b, xs, hk, hx, hw => by
    rw [plusN_succ, List.range'_succ, List.foldl_cons, rw_step hn (by omega) hw]
    have ok := stepN_ok (b := b) hx (getD_lt hx.2 b)
    refine plusN_ok hn k (b + 1) _ (by omega) ok ?_
    rw [← rw_step hn (by omega) hw]
    intro x y hh
    rw [hb_rowP (by omega) _ hw n (Nat.le_refl _)] at hh
    simp at hh
    rcases hh with hh | ⟨⟨h0, h1⟩, h2⟩
    · exact hw x y hh
    · exact ⟨h0, (hw b y h2).2⟩
theorem plus_eq {n : Nat} (hn : n ≤ 40) {xs : List Nat} (hx : okN xs) (hw : Wf n (rwOf xs)) : plusR n (rwOf xs) = rwOf (plusN n 0 xs) ∧ okN (plusN n 0 xs) := by
  obtain ⟨h1, h2⟩ := plusN_ok hn n 0 xs (by omega) hx hw
  refine ⟨?_, h1⟩
  rw [← h2]
  unfold plusR plusK
  rw [List.range_eq_range']
theorem lst_ok {xs : List Nat} (hx : okN xs) : Lst (rwOf xs) xs := by
  refine ⟨hx.1, fun a ha => ?_⟩
  unfold rwOf
  rw [BitVec.toNat_ofNat, Nat.mod_eq_of_lt (getD_lt hx.2 a)]
noncomputable def anyN (n : Nat) (f : Nat → Bool) : Bool := Nat.rec (motive := fun _ => Bool) false (fun k ih => Bool.rec (motive := fun _ => Bool) ih true (f k)) n
theorem anyN_eq (f : Nat → Bool) : ∀ n, anyN n f = (List.range n).any f
  | 0 => rfl
  | n + 1 => by
    show Bool.rec (motive := fun _ => Bool) (anyN n f) true (f n) = _
    rw [anyN_eq f n, List.range_succ, List.any_append]
    cases h : f n <;> simp [h]
theorem loops_eq {n : Nat} (hn : n ≤ 40) {xs : List Nat} (hx : okN xs) (hw : Wf n (rwOf xs)) : loopsR n (rwOf xs) = anyN n fun a => tbN ((plusN n 0 xs).getD a 0) a := by
  rw [anyN_eq, Bool.eq_iff_iff]
  unfold loopsR
  rw [(plus_eq hn hx hw).1]
  simp only [List.any_eq_true, List.mem_range, has_N]
  constructor
  · rintro ⟨a, ha, h⟩
    refine ⟨a, ha, ?_⟩
    unfold hN at h
    rw [hb_rw] at h
    simp only [Bool.and_eq_true, decide_eq_true_eq] at h
    rw [tbN_eq]; exact h.2.2
  · rintro ⟨a, ha, h⟩
    refine ⟨a, ha, ?_⟩
    unfold hN
    rw [hb_rw]
    simp only [Bool.and_eq_true, decide_eq_true_eq]
    rw [tbN_eq] at h
    exact ⟨⟨ha, ha⟩, by omega, h⟩
noncomputable def mayN (k : Nat) : Nat → List Nat → List Nat := Nat.rec (motive := fun _ => Nat → List Nat → List Nat) (fun _ xs => xs) (fun _ ih b xs => List.rec (motive := fun _ => List Nat) [] (fun x xs _ => Nat.lor x (Nat.shiftLeft 1 b) :: ih (Nat.add b 1) xs) xs) k
theorem mayN_get : ∀ (k b : Nat) (xs : List Nat) (a : Nat), a < xs.length → (mayN k b xs).getD a 0 = if a < k then xs.getD a 0 ||| (1 <<< (b + a)) else xs.getD a 0
  | 0, b, xs, a, _ => rfl
  | k + 1, b, [], a, h => by simp at h
  | k + 1, b, x :: xs, 0, h => by
    rw [if_pos (by omega)]; rfl
  | k + 1, b, x :: xs, a + 1, h => by
    show (Nat.lor x (Nat.shiftLeft 1 b) :: mayN k (b + 1) xs).getD (a + 1) 0 = _
    rw [List.getD_cons_succ, mayN_get k (b + 1) xs a (by simpa using h), List.getD_cons_succ, show b + 1 + a = b + (a + 1) by omega]
    by_cases hk : a < k
    · rw [if_pos hk, if_pos (by omega)]
    · rw [if_neg hk, if_neg (by omega)]
theorem mayN_len : ∀ (k b : Nat) (xs : List Nat), (mayN k b xs).length = xs.length
  | 0, _, _ => rfl
  | k + 1, b, [] => rfl
  | k + 1, b, x :: xs => by
    show (_ :: mayN k (b + 1) xs).length = _
    rw [List.length_cons, mayN_len k (b + 1) xs, List.length_cons]
theorem one_bit (a b : Nat) : ((1 : Nat) <<< a).testBit b = decide (b = a) := by
  rw [Nat.one_shiftLeft, Nat.testBit_two_pow, decide_eq_decide]
  exact eq_comm
theorem lst_may {n : Nat} (hn : n ≤ 40) {xs : List Nat} (hx : okN xs) : Lst (maybeK n (rwOf xs)) (mayN n 0 xs) := by
  refine lst_bits (by rw [mayN_len, hx.1]) ?_ ?_
  · intro z hz
    obtain ⟨a, ha, rfl⟩ := List.getElem_of_mem hz
    have hl := mayN_len n 0 xs
    have h1 := mayN_get n 0 xs a (by omega)
    rw [List.getD_eq_getElem?_getD, List.getElem?_eq_getElem ha, Option.getD_some] at h1
    rw [h1]
    have hxa := getD_lt hx.2 a
    split
    · refine Nat.or_lt_two_pow hxa ?_
      rw [Nat.zero_add, Nat.one_shiftLeft]
      exact Nat.pow_lt_pow_right (by omega) (by omega)
    · exact hxa
  · intro a ha b hb'
    rw [hb_maybeK _ _ _ _ (by omega), hb_rw, decide_eq_true hb', Bool.true_and, mayN_get n 0 xs a (by rw [hx.1]; exact ha)]
    by_cases h : a < n
    · rw [if_pos h, decide_eq_true h, Nat.testBit_or, Nat.zero_add, one_bit]; simp
    · rw [if_neg h, decide_eq_false h]; simp
noncomputable def newRow (n a : Nat) (l : List (Int × Int)) : Nat := List.rec (motive := fun _ => Nat) 0 (fun p _ ih => match p with
  | (.ofNat x, .ofNat y) => Bool.rec (motive := fun _ => Nat) ih (Bool.rec (motive := fun _ => Nat) ih (Nat.lor (Nat.shiftLeft 1 y) ih) (Nat.ble (Nat.add y 1) n)) (Nat.beq x a)
  | _ => ih) l
theorem newRow_bit {n a : Nat} (ha : a < n) : ∀ (l : List (Int × Int)) (b : Nat), (newRow n a l).testBit b = (decide (b < n) && l.any fun p => decide (p = ((a : Int), (b : Int))))
  | [], b => by show Nat.testBit 0 b = _; simp
  | p :: l, b => by
    have ih := newRow_bit ha l b
    rw [List.any_cons]
    have e : newRow n a (p :: l) = (match p with
      | (.ofNat x, .ofNat y) => Bool.rec (motive := fun _ => Nat) (newRow n a l) (Bool.rec (motive := fun _ => Nat) (newRow n a l) (Nat.lor (Nat.shiftLeft 1 y) (newRow n a l)) (Nat.ble (Nat.add y 1) n)) (Nat.beq x a)
      | _ => newRow n a l) := rfl
    rw [e]
    obtain ⟨p1, p2⟩ := p
    cases p1 with
    | negSucc m =>
      have : decide (((Int.negSucc m), p2) = ((a : Int), (b : Int))) = false := decide_eq_false fun h => by cases h
      rw [this, Bool.false_or]; cases p2 <;> exact ih
    | ofNat x =>
      cases p2 with
      | negSucc m =>
        have : decide (((Int.ofNat x), Int.negSucc m) = ((a : Int), (b : Int))) = false := decide_eq_false fun h => by cases h
        rw [this, Bool.false_or]; exact ih
      | ofNat y =>
        have hd : decide (((Int.ofNat x), Int.ofNat y) = ((a : Int), (b : Int))) = (decide (x = a) && decide (y = b)) := by
          rw [Bool.eq_iff_iff]; simp; omega
        rw [hd]
        show Nat.testBit (Bool.rec (motive := fun _ => Nat) (newRow n a l) (Bool.rec (motive := fun _ => Nat) (newRow n a l) ((1 <<< y) ||| (newRow n a l)) (Nat.ble (y + 1) n)) (Nat.beq x a)) b = _
        cases hxa : Nat.beq x a with
        | false =>
          have := Nat.ne_of_beq_eq_false hxa
          rw [decide_eq_false this]; simpa using ih
        | true =>
          have := Nat.eq_of_beq_eq_true hxa
          rw [decide_eq_true this]
          cases hy : Nat.ble (y + 1) n with
          | true =>
            have hy := Nat.le_of_ble_eq_true hy
            show Nat.testBit ((1 <<< y) ||| newRow n a l) b = _
            rw [Nat.testBit_or, one_bit, ih]
            by_cases hbn : b = y
            · subst hbn; simp; omega
            · have : ¬ y = b := fun h => hbn h.symm
              simp [hbn, this]
          | false =>
            have hy : ¬ y + 1 ≤ n := fun h => by rw [Nat.ble_eq_true_of_le h] at hy; cases hy
            show Nat.testBit (newRow n a l) b = _
            rw [ih]
            by_cases hbn : y = b
            · subst hbn; simp; omega
            · simp [hbn]
noncomputable def newN (n : Nat) (l : List (Int × Int)) : Nat → Nat → List Nat := fun k => Nat.rec (motive := fun _ => Nat → List Nat) (fun _ => []) (fun _ ih a => newRow n a l :: ih (Nat.add a 1)) k
theorem newN_get (n : Nat) (l : List (Int × Int)) : ∀ (k a i : Nat), (newN n l k a).getD i 0 = if i < k then newRow n (a + i) l else 0
  | 0, a, i => by rw [if_neg (by omega)]; rfl
  | k + 1, a, 0 => by rw [if_pos (by omega)]; rfl
  | k + 1, a, i + 1 => by
    show (newRow n a l :: newN n l k (a + 1)).getD (i + 1) 0 = _
    rw [List.getD_cons_succ, newN_get n l k (a + 1) i, show a + 1 + i = a + (i + 1) by omega]
    by_cases h : i < k
    · rw [if_pos h, if_pos (by omega)]
    · rw [if_neg h, if_neg (by omega)]
theorem newN_len (n : Nat) (l : List (Int × Int)) : ∀ (k a : Nat), (newN n l k a).length = k
  | 0, _ => rfl
  | k + 1, a => by
    show (_ :: newN n l k (a + 1)).length = _
    rw [List.length_cons, newN_len n l k (a + 1)]
theorem lst_new {n : Nat} (hn : n ≤ 40) (l : List (Int × Int)) : Lst (newR n l) (padN (newN n l n 0) (40 - n)) := by
  refine lst_bits (by unfold padN; rw [List.length_append, newN_len, List.length_replicate]; omega) ?_ ?_
  · intro z hz
    unfold padN at hz
    rcases List.mem_append.1 hz with hz | hz
    · obtain ⟨a, ha, rfl⟩ := List.getElem_of_mem hz
      have hl := newN_len n l n 0
      have h1 := newN_get n l n 0 a
      rw [List.getD_eq_getElem?_getD, List.getElem?_eq_getElem ha, Option.getD_some, if_pos (by omega), Nat.zero_add] at h1
      rw [h1]
      refine Nat.lt_pow_two_of_testBit _ fun i hi => ?_
      rw [newRow_bit (by omega), decide_eq_false (by omega)]; rfl
    · obtain ⟨_, rfl⟩ := List.mem_replicate.1 hz; omega
  · intro a ha b hb'
    rw [hb_new hn, getD_pad, newN_get, Nat.zero_add]
    by_cases h : a < n
    · rw [if_pos h, newRow_bit h, decide_eq_true h, Bool.true_and]
    · rw [if_neg h, decide_eq_false h]; simp
noncomputable def cellsN (n : Nat) (zs : List Nat) : AV := .ptr (.i .i64 n :: zs.map fun (x : Nat) => .i .u64 (x : Int))
theorem cellsN_ok {n : Nat} {R : Rw} {zs : List Nat} (h : Lst R zs) : cellsN n zs = .ptr (relC n R) := by rw [h.cells]; rfl
noncomputable def in2 (r : Nat → List Nat → Nat → List Nat → AV) : List AV → Option AV
  | [.ptr a, .ptr b] => (match relOf a with | some (n, xs) => (match relOf b with | some (m, ys) => some (r n xs m ys) | none => none) | none => none)
  | _ => none
noncomputable def in1 (r : Nat → List Nat → Option AV) : List AV → Option AV
  | [.ptr a] => (match relOf a with | some (n, xs) => r n xs | none => none)
  | _ => none
theorem in2_ok {r : Nat → List Nat → Nat → List Nat → AV} {f : Nat} (h : ∀ n m xs ys, n ≤ 40 → m ≤ 40 → okN xs → okN ys → pureS F f [.ptr (relC n (rwOf xs)), .ptr (relC m (rwOf ys))] = some (r n xs m ys)) {bs : List AV} {v : AV} (hv : in2 r bs = some v) : pureS F f bs = some v := by
  unfold in2 at hv
  split at hv
  · split at hv
    · rename_i h1
      split at hv
      · rename_i h2
        cases hv
        obtain ⟨a1, rfl, b1⟩ := relOf_okN h1
        obtain ⟨a2, rfl, b2⟩ := relOf_okN h2
        exact h _ _ _ _ a1 a2 b1 b2
      · cases hv
    · cases hv
  · cases hv
theorem in1_ok {r : Nat → List Nat → Option AV} {f : Nat} (h : ∀ n xs v, n ≤ 40 → okN xs → r n xs = some v → pureS F f [.ptr (relC n (rwOf xs))] = some v) {bs : List AV} {v : AV} (hv : in1 r bs = some v) : pureS F f bs = some v := by
  unfold in1 at hv
  split at hv
  · split at hv
    · rename_i h1
      obtain ⟨a1, rfl, b1⟩ := relOf_okN h1
      exact h _ _ _ a1 b1 hv
    · cases hv
  · cases hv
noncomputable def inNew : List AV → Option AV
  | [.i .i64 n, .sl cs k _] => (match pairsOf cs with | some l => if l.length = k ∧ k ≤ 100000 then frcN (clamp n) fun n => some (cellsN n (padN (newN n l n 0) (40 - n))) else none | none => none)
  | _ => none
noncomputable def relOrcN : Orc := fun f bs =>
  if f = 13 then isHas bs
  else if f = 24 then in2 (fun n xs m ys => cellsN (max n m) (zipN Nat.lor xs ys)) bs
  else if f = 23 then in2 (fun n xs m ys => cellsN (max n m) (thenN n xs ys)) bs
  else if f = 18 then in2 (fun n xs m ys => cellsN (max n m) (zipN Nat.land xs ys)) bs
  else if f = 12 then in1 (fun n xs => if wfN n xs then some (cellsN n (plusN n 0 xs)) else none) bs
  else if f = 16 then in1 (fun n xs => some (cellsN n (mayN n 0 xs))) bs
  else if f = 14 then in1 (fun n xs => if wfN n xs then some (.b (anyN n fun a => tbN ((plusN n 0 xs).getD a 0) a)) else none) bs
  else if f = 15 then is1 (fun n xs => .sl (pairsC (pairsR n (rwOf xs))) (pairsR n (rwOf xs)).length .non) bs
  else if f = 17 then is1 (fun n xs => .i .i64 n) bs
  else if f = 11 then inNew bs
  else none
theorem relOrcN_ok (pk : Pk_rel F) : OrcOk F relOrcN := by
  intro f bs v h
  have old := relOrc_ok pk f bs v
  unfold relOrcN at h
  split at h
  · rename_i hf; subst hf; exact old (by unfold relOrc; exact h)
  split at h
  · rename_i hf; subst hf; exact in2_ok (fun n m xs ys hn hm hx hy => by rw [sp_or pk hn hm, cellsN_ok (lst_or hx hy)]) h
  split at h
  · rename_i hf; subst hf; exact in2_ok (fun n m xs ys hn hm hx hy => by rw [sp_then pk hn hm, cellsN_ok (lst_then hn hx hy)]) h
  split at h
  · rename_i hf; subst hf; exact in2_ok (fun n m xs ys hn hm hx hy => by rw [sp_and pk hn hm, cellsN_ok (lst_and hx hy)]) h
  split at h
  · rename_i hf; subst hf
    refine in1_ok (fun n xs v hn hx hv => ?_) h
    split at hv
    · rename_i hw
      cases hv
      obtain ⟨e1, e2⟩ := plus_eq hn hx (wfN_ok hw)
      rw [sp_plus pk hn, e1, cellsN_ok (lst_ok e2)]
    · cases hv
  split at h
  · rename_i hf; subst hf
    refine in1_ok (fun n xs v hn hx hv => ?_) h
    cases hv
    rw [sp_maybe pk hn, cellsN_ok (lst_may hn hx)]
  split at h
  · rename_i hf; subst hf
    refine in1_ok (fun n xs v hn hx hv => ?_) h
    split at hv
    · rename_i hw
      cases hv
      rw [sp_loops pk hn, loops_eq hn hx (wfN_ok hw)]
    · cases hv
  split at h
  · rename_i hf; subst hf; exact is1_ok (fun n xs hn => sp_pairs pk hn _) h
  split at h
  · rename_i hf; subst hf; exact is1_ok (fun n xs hn => sp_len pk _) h
  split at h
  · rename_i hf; subst hf
    unfold inNew at h
    split at h
    · split at h
      · rename_i l h1
        split at h
        · rename_i hk
          rw [frcN_ok] at h
          cases h
          rw [pairsOf_ok h1, ← hk.1, cellsN_ok (lst_new (clamp_le _) l)]
          exact sp_new pk _ _ _ (by omega)
        · cases h
      · cases h
    · cases h
  · cases h
end Go.Ab
end
section
set_option linter.unusedVariables false
set_option linter.unusedSimpArgs false
namespace Go.Ab
theorem fewB_ok {X : Gr} (h : fewB X = true) : Few X ∧ LenG X := by
  unfold fewB at h
  simp only [Bool.and_eq_true, decide_eq_true_eq, List.all_eq_true] at h
  obtain ⟨⟨⟨⟨⟨⟨h1, h2⟩, h3⟩, h4⟩, h5⟩, h6⟩, h7⟩ := h
  refine ⟨⟨by omega, by omega, fun c hc => by have := h3 c hc; omega⟩, ⟨?_, by omega, fun k => ?_, by omega, by omega, by omega, by omega⟩⟩
  · have := flat_le (l := X.co) (m := 50) h3
    have : X.co.length * 50 ≤ 6 * 50 := Nat.mul_le_mul_right _ h2
    omega
  · rw [List.getD_eq_getElem?_getD]
    cases hz : X.co[k]? with
    | none => simp
    | some c => have := h3 c (List.mem_of_getElem? hz); simp only [Option.getD_some]; omega
end Go.Ab
end
section
set_option linter.unusedVariables false
set_option linter.unusedSimpArgs false
namespace Go.Ab
variable {F : Funs}
noncomputable def powOrc : Orc := orcOr (grOrc 276 fewB fun X => .b (pcnB X)) (orcOr (grOrc 294 fewB fun X => .ptr (relC (nOf X) (psyR X))) (orcOr (grOrc 295 fewB fun X => .ptr (relC (nOf X) (pfeR X))) relOrcN))
theorem powOrc_ok (S : PowF F) : OrcOk F powOrc :=
  orcOr_ok (grOrc_ok fun X h => pw_con S (fewB_ok h).1 (fewB_ok h).2) (orcOr_ok (grOrc_ok fun X h => pw_sync S (fewB_ok h).1) (orcOr_ok (grOrc_ok fun X h => pw_fences S (fewB_ok h).1) (relOrcN_ok S.pp.pr)))
theorem pw_awake (S : PowF F) (h277 : F 277 = some A_xlaw20_awake) (h : evK powOrc F 1000 A_xlaw20_awake.res A_xlaw20_awake.body (argEnv []) g0 = true) : pureS F 277 [] = some (.b true) := pure_eval (powOrc_ok S) 1000 h277 h
end Go.Ab
end
section
set_option linter.unusedVariables false
set_option linter.unusedSimpArgs false
set_option linter.unusedSectionVars false
namespace Go.Ab
variable {F : Funs}
section
variable (T : Ref20F F) {X : Gr} (hX : FewG X) (h : GraphOk X)
include T hX h
set_option maxRecDepth 100000 in
set_option maxHeartbeats 4000000 in
theorem m20_con : pureS F 459 [.agg (grC X)] = some (.b (pcnB X)) := by
  refine pure_of T.p20.xref20_Consistent ?_
  have hn := h.nOf
  have hck := st_check T.r.p6.xref06_Check T.r.p6.xref06_event T.r.p6.xref06_rf T.r.p6.xref06_co T.r.p6.xref06_rmw T.r.p6.xref06_deps T.r.p6.xref06_rising hX h
  have hpl := mPloc T.r T.p19 h
  obtain ⟨l1, l2, l3⟩ := FewG.l1 hX
  obtain ⟨B, hB, eB⟩ := m20_hb T hX h
  obtain ⟨P, hP, eP⟩ := m20_prop T hX h
  have e1 := (eq_own h (eq_loc h)).or (eq_com T hX h)
  have k1 := sp_mloops T.hlo T.r.px.xref01_R_Plus T.r.px.xref01_New h.n40 (opM (fun x y => x || y) (plM19 X) (comM X.evs.length (anyM (rfL X X.rf.length)) (anyM (coX X X.co.length))) X.evs.length)
  have r1 : (List.range X.evs.length).any (fun a => plM X.evs.length (opM (fun x y => x || y) (plM19 X) (comM X.evs.length (anyM (rfL X X.rf.length)) (anyM (coX X X.co.length))) X.evs.length) X.evs.length a a) = !pc1B X := by
    have := any_eqN e1.plus
    unfold pc1B loopsR locR
    rw [hn, Bool.not_not]
    exact this
  rw [r1] at k1
  have e2 := (EqN.new h.n40 X.rmw).and ((eq_outer h (eq_fr h)).then (eq_outer h (eq_co h)))
  have k2 := sp_mpairs T.r.px.xref01_R_Pairs h.n40 _ (atR X) (same_of (by
    unfold atR
    rw [hn]
    exact e2.2))
  have r2 : ((((pairsR X.evs.length (atR X)).length : Int) == 0) = atB X) := by unfold atB; rw [hn]
  have k3 := sp_mloops T.hlo T.r.px.xref01_R_Plus T.r.px.xref01_New h.n40 B
  have r3 : (List.range X.evs.length).any (fun a => plM X.evs.length B X.evs.length a a) = !pc3B X := by
    have := any_eqN eB.plus
    unfold pc3B loopsR
    rw [hn, Bool.not_not]
    exact this
  rw [r3] at k3
  have e4 := ((eq_outer h (eq_fr h)).then eP).then (eq_pan h eB)
  have k4 := sp_mself T.hs h.n40 (thM (thM (prtM X false (frM X.evs.length (anyM (rfL X X.rf.length)) (anyM (coX X X.co.length)))) P X.evs.length X.evs.length) (mbM (plM X.evs.length B X.evs.length) X.evs.length) X.evs.length X.evs.length)
  have r4 : (List.range X.evs.length).any (fun a => thM (thM (prtM X false (frM X.evs.length (anyM (rfL X X.rf.length)) (anyM (coX X X.co.length)))) P X.evs.length X.evs.length) (mbM (plM X.evs.length B X.evs.length) X.evs.length) X.evs.length X.evs.length a a) = !pc4B X := by
    rw [any_eqN e4]
    unfold pc4B pfrR allN
    rw [hn, Bool.eq_iff_iff]
    simp only [List.any_eq_true, Bool.not_eq_true', List.all_eq_false, Bool.not_eq_true, Bool.not_eq_false']
    exact ⟨fun ⟨a, b, c⟩ => ⟨a, b, by rw [c]; simp⟩, fun ⟨a, b, c⟩ => ⟨a, b, by simpa using c⟩⟩
  rw [r4] at k4
  have e5 := (eq_co h).or eP
  have k5 := sp_mloops T.hlo T.r.px.xref01_R_Plus T.r.px.xref01_New h.n40 (opM (fun x y => x || y) (anyM (coX X X.co.length)) P X.evs.length)
  have r5 : (List.range X.evs.length).any (fun a => plM X.evs.length (opM (fun x y => x || y) (anyM (coX X X.co.length)) P X.evs.length) X.evs.length a a) = !pc5B X := by
    have := any_eqN e5.plus
    unfold pc5B loopsR
    rw [hn, Bool.not_not]
    exact this
  rw [r5] at k5
  have hR : pcnB X = (pc1B X && (atB X && (pc3B X && (pc4B X && pc5B X)))) := by
    unfold pcnB
    rw [gCheck_iff.2 h, Bool.true_and]
  have hg : (decide ((((pairsR X.evs.length (atR X)).length : Nat) : Int) > 0)) = !atB X := by
    rw [← r2, Bool.eq_iff_iff]
    simp only [decide_eq_true_eq, Bool.not_eq_true', beq_eq_false_iff_ne, ne_eq]
    omega
  generalize pcnB X = R at hR
  generalize pc1B X = b1 at k1 hR
  generalize atB X = b2 at hg hR
  generalize pc3B X = b3 at k3 hR
  generalize pc4B X = b4 at k4 hR
  generalize pc5B X = b5 at k5 hR
  subst hR
  cases b1
  · simp (disch := omega) only [A_xref20_Consistent, wp, Nat.reduceAdd, Nat.reduceMul, Nat.reduceSub, gl, hck, hpl, m20_com T hX h, T.r.or h, k1, Bool.not_false]
    try rfl
  cases b2
  · simp (disch := omega) only [A_xref20_Consistent, wp, Nat.reduceAdd, Nat.reduceMul, Nat.reduceSub, gl, hck, hpl, m20_com T hX h, T.r.fr hX h, T.r.co hX h, T.r.outer h, T.r.ofL h _ l3, T.r.then h, T.r.and h, T.r.or h, k1, k2, hg, Bool.not_true, Bool.not_false]
    try rfl
  cases b3
  · simp (disch := omega) only [A_xref20_Consistent, wp, Nat.reduceAdd, Nat.reduceMul, Nat.reduceSub, gl, hck, hpl, m20_com T hX h, T.r.fr hX h, T.r.co hX h, T.r.outer h, T.r.ofL h _ l3, T.r.then h, T.r.and h, T.r.or h, hB, hP, k1, k2, hg, k3, Bool.not_true, Bool.not_false]
    try rfl
  cases b4
  · simp (disch := omega) only [A_xref20_Consistent, wp, Nat.reduceAdd, Nat.reduceMul, Nat.reduceSub, gl, hck, hpl, m20_com T hX h, T.r.fr hX h, T.r.co hX h, T.r.outer h, T.r.ofL h _ l3, T.r.then h, T.r.and h, T.r.or h, T.r.st h, hB, hP, k1, k2, hg, k3, k4, Bool.not_true, Bool.not_false]
    try rfl
  · simp (disch := omega) only [A_xref20_Consistent, wp, Nat.reduceAdd, Nat.reduceMul, Nat.reduceSub, gl, hck, hpl, m20_com T hX h, T.r.fr hX h, T.r.co hX h, T.r.outer h, T.r.ofL h _ l3, T.r.then h, T.r.and h, T.r.or h, T.r.st h, hB, hP, k1, k2, hg, k3, k4, k5, Bool.not_true, Bool.not_false, Bool.not_not]
    try rfl
end
set_option maxRecDepth 100000 in
set_option maxHeartbeats 4000000 in
theorem pw_all (hall : F 453 = some A_xlaw20_all) (hsm : F 454 = some A_xlaw20_same) (S : PowF F) (T : Ref20F F) {X : Gr} (hX : FewG X) (h : GraphOk X) : pureS F 453 [.agg (grC X)] = some (.b true) := by
  refine pure_of hall ?_
  have hf := hX.few
  have hl := hX.len
  have a1 := pw_sync S hf
  have a2 := pw_fences S hf
  have a3 := pw_hb S hf hl
  have a4 := pw_prop S hf hl
  have a5 := pw_con S hf hl
  rw [h.nOf] at a1 a2 a3 a4
  obtain ⟨A1, b1, e1⟩ := m20_sync T hX h
  obtain ⟨A2, b2, e2⟩ := m20_fences T hX h
  obtain ⟨A3, b3, e3⟩ := m20_hb T hX h
  obtain ⟨A4, b4, e4⟩ := m20_prop T hX h
  have b5 := m20_con T hX h
  have hs : F 454 = some A_xlaw09_same := hsm
  have c1 := sp_sameG hs T.r.px.xref01_SamePairs T.r.px.xref01_R_Pairs S.pp.pr h.n40 e1.2
  have c2 := sp_sameG hs T.r.px.xref01_SamePairs T.r.px.xref01_R_Pairs S.pp.pr h.n40 e2.2
  have c3 := sp_sameG hs T.r.px.xref01_SamePairs T.r.px.xref01_R_Pairs S.pp.pr h.n40 e3.2
  have c4 := sp_sameG hs T.r.px.xref01_SamePairs T.r.px.xref01_R_Pairs S.pp.pr h.n40 e4.2
  generalize pcnB X = R at a5 b5
  simp (disch := omega) only [A_xlaw20_all, wp, Nat.reduceAdd, Nat.reduceMul, Nat.reduceSub, gl, a1, a2, a3, a4, a5, b1, b2, b3, b4, b5, c1, c2, c3, c4]
set_option maxRecDepth 100000 in
set_option maxHeartbeats 4000000 in
theorem pw_powerAny {f : Nat} (hf : F f = some A_xlaw20_PowerAny) (h44 : F 44 = some A_xlaw00_FewGraph) (aw : pureS F 277 [] = some (.b true)) (hall : F 453 = some A_xlaw20_all) (hsm : F 454 = some A_xlaw20_same) (S : PowF F) (T : Ref20F F) (X : Gr) : pureS F f [.agg (grC X)] = some (.b true) := by
  refine pure_of hf ?_
  obtain ⟨b1, e1, p1⟩ := sp_fewGraph h44 X
  cases b1
  case false => simp (disch := omega) only [A_xlaw20_PowerAny, wp, Nat.reduceAdd, Nat.reduceMul, Nat.reduceSub, gl, e1, aw]
  have hX := p1 rfl
  by_cases hl : (20 : Int) < X.evs.length
  case pos => simp (disch := omega) only [A_xlaw20_PowerAny, wp, Nat.reduceAdd, Nat.reduceMul, Nat.reduceSub, gl, e1, aw, hl]
  obtain ⟨b2, e2, p2⟩ := sp_check T.r.p6.xref06_Check T.r.p6.xref06_event T.r.p6.xref06_rf T.r.p6.xref06_co T.r.p6.xref06_rmw T.r.p6.xref06_deps T.r.p6.xref06_rising hX
  cases b2
  case false =>
    have hc := pw_con S hX.few hX.len
    have hg : gCheck X = false := by
      cases hg : gCheck X with
      | false => rfl
      | true =>
        have := st_check T.r.p6.xref06_Check T.r.p6.xref06_event T.r.p6.xref06_rf T.r.p6.xref06_co T.r.p6.xref06_rmw T.r.p6.xref06_deps T.r.p6.xref06_rising hX (gCheck_iff.1 hg)
        rw [e2] at this
        cases this
    have h0 : pcnB X = false := by unfold pcnB; rw [hg, Bool.false_and]
    rw [h0] at hc
    simp (disch := omega) only [A_xlaw20_PowerAny, wp, Nat.reduceAdd, Nat.reduceMul, Nat.reduceSub, gl, e1, aw, hl, e2, hc]
  have h := p2 rfl
  have ha := pw_all hall hsm S T hX h
  simp (disch := omega) only [A_xlaw20_PowerAny, wp, Nat.reduceAdd, Nat.reduceMul, Nat.reduceSub, gl, e1, aw, hl, e2, ha]
end Go.Ab
end
section
set_option linter.unusedVariables false
set_option maxRecDepth 100000
namespace Go.Proofs.YtgfjjohnfbhjcaaGreat
open Go.Ab
theorem powS : PowF funs := ⟨pk_power, ⟨pk_ppo, pk_eco, pk_rel, rfl, rfl, rfl, ⟨rfl, rfl, rfl⟩⟩, ⟨rfl, rfl, rfl, rfl, rfl, rfl, rfl, rfl, rfl, rfl, rfl, rfl, ⟨rfl, rfl, rfl⟩⟩⟩
theorem aw20 : pureS funs 277 [] = some (.b true) := pw_awake powS rfl (by kernel_rfl)
theorem powR : Ref20F funs := ⟨⟨pk_xref01, rfl, pk_xref09, pk_xref06, rfl, rfl⟩, pk_xref19, pk_xref20, rfl, rfl, rfl, rfl, rfl⟩
theorem powerAny_law (X : Gr) : pureS funs 452 [.agg (grC X)] = some (.b true) := pw_powerAny rfl rfl aw20 rfl rfl powS powR X
end Go.Proofs.YtgfjjohnfbhjcaaGreat
end
