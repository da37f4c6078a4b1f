/- Relations, plainly: what each of the functions does to 'is a pair'. No program in sight. -/
import Derived.Test.YtfhinaopoffcnaaRelS5
set_option linter.unusedVariables false
set_option linter.unusedSimpArgs false
namespace Go.Ab
/-- 'a', 'b' are a pair, as the bits have it. -/
def hb (R : Rw) (a b : Nat) : Bool := (R a).getLsbD b
def hN (n : Nat) (R : Rw) (a b : Nat) : Bool := decide (a < n) && decide (b < n) && hb R a b
/-- No bit beyond the places. -/
def Wf (n : Nat) (R : Rw) : Prop := ∀ a b, hb R a b = true → a < n ∧ b < n
theorem has_N (n : Nat) (R : Rw) (a b : Nat) : has n R a b = hN n R a b := by
  unfold has hN hb
  have : decide (0 ≤ (a : Int) ∧ (a : Int) < n ∧ 0 ≤ (b : Int) ∧ (b : Int) < n) = (decide (a < n) && decide (b < n)) := by
    rw [Bool.eq_iff_iff]; simp
  rw [this]; rfl
theorem has_out {n : Nat} {R : Rw} {a b : Int} (h : ¬ (0 ≤ a ∧ a < n ∧ 0 ≤ b ∧ b < n)) : has n R a b = false := by
  unfold has; rw [decide_eq_false h]; rfl
theorem hN_wf {n : Nat} {R : Rw} (h : Wf n R) (a b : Nat) : hN n R a b = hb R a b := by
  unfold hN
  cases hh : hb R a b with
  | false => simp
  | true => obtain ⟨h1, h2⟩ := h a b hh; simp [h1, h2]
theorem hN_lt {n : Nat} {R : Rw} {a b : Nat} (h : hN n R a b = true) : a < n ∧ b < n := by
  simp [hN] at h; omega
theorem rw_ext {R S : Rw} (h : ∀ a b, b < 64 → hb R a b = hb S a b) : R = S := by
  funext a
  exact BitVec.eq_of_getLsbD_eq fun b hb' => h a b hb'
theorem bit_get {a b : Nat} (ha : a < 64) : (bit a).getLsbD b = decide (b = a) := by
  unfold bit
  rw [BitVec.getLsbD_shiftLeft]
  by_cases h : b = a
  · subst h; simp [ha]
  · by_cases h2 : b < a
    · simp [h, h2]
    · have : b - a ≠ 0 := by omega
      simp [h, h2]
      intro _
      omega
theorem hb_upd (R : Rw) (x : BitVec 64) (c a b : Nat) : hb (upd R c x) a b = if a = c then x.getLsbD b else hb R a b := by
  unfold hb upd; split <;> rfl
theorem hb_zero (a b : Nat) : hb (fun _ => 0) a b = false := by simp [hb]

theorem hb_add {n : Nat} (hn : n ≤ 40) (R : Rw) (p : Int × Int) (a b : Nat) : hb (addR n R p) a b = (hb R a b || (inR n p && decide (p = ((a : Int), (b : Int))))) := by
  unfold addR
  by_cases h : inR n p = true
  · rw [if_pos h, hb_upd, h]
    obtain ⟨x, y⟩ := p
    simp only [inR, decide_eq_true_eq] at h
    by_cases ha : a = x.toNat
    · subst ha
      rw [if_pos rfl, BitVec.getLsbD_or, bit_get (by omega)]
      congr 1
      simp only [Bool.true_and]
      rw [decide_eq_decide]
      simp only [Prod.mk.injEq]
      omega
    · rw [if_neg ha]
      have : ¬ ((x, y) = ((a : Int), (b : Int))) := by simp only [Prod.mk.injEq]; omega
      simp [this]
  · rw [if_neg h]
    simp only [Bool.not_eq_true] at h
    simp [h]
theorem hb_new {n : Nat} (hn : n ≤ 40) (l : List (Int × Int)) (a b : Nat) : hb (newR n l) a b = (decide (a < n) && decide (b < n) && l.any fun p => decide (p = ((a : Int), (b : Int)))) := by
  have key : ∀ (l : List (Int × Int)) (R : Rw), hb (l.foldl (addR n) R) a b = (hb R a b || (decide (a < n) && decide (b < n) && l.any fun p => decide (p = ((a : Int), (b : Int))))) := by
    intro l
    induction l with
    | nil => intro R; simp
    | cons p l ih =>
      intro R
      rw [List.foldl_cons, ih, hb_add hn, List.any_cons]
      by_cases hp : p = ((a : Int), (b : Int))
      · subst hp
        have : inR n ((a : Int), (b : Int)) = (decide (a < n) && decide (b < n)) := by
          unfold inR; rw [Bool.eq_iff_iff]; simp
        rw [this]
        cases hb R a b <;> cases decide (a < n) <;> cases decide (b < n) <;> simp
      · simp [hp]
  unfold newR
  rw [key l, hb_zero]; rfl
theorem wf_new {n : Nat} (hn : n ≤ 40) (l : List (Int × Int)) : Wf n (newR n l) := by
  intro a b h
  rw [hb_new hn] at h
  simp at h; omega
theorem hb_or (R S : Rw) (a b : Nat) : hb (orR R S) a b = (hb R a b || hb S a b) := by simp [hb, orR]
theorem hb_and (R S : Rw) (a b : Nat) : hb (andR R S) a b = (hb R a b && hb S a b) := by simp [hb, andR]
theorem hb_less (R S : Rw) (a b : Nat) : hb (lessR R S) a b = (hb R a b && !hb S a b) := by
  unfold hb lessR
  rw [BitVec.getLsbD_and, BitVec.getLsbD_not]
  by_cases h : b < 64
  · simp [h]
  · simp [BitVec.getLsbD_of_ge (R a) b (by omega)]
theorem wf_or {n : Nat} {R S : Rw} (h : Wf n R) (k : Wf n S) : Wf n (orR R S) := fun a b hh => by
  rw [hb_or, Bool.or_eq_true] at hh; exact hh.elim (h a b) (k a b)
theorem wf_and {n : Nat} {R S : Rw} (h : Wf n R) : Wf n (andR R S) := fun a b hh => by
  rw [hb_and, Bool.and_eq_true] at hh; exact h a b hh.1
theorem wf_less {n : Nat} {R S : Rw} (h : Wf n R) : Wf n (lessR R S) := fun a b hh => by
  rw [hb_less, Bool.and_eq_true] at hh; exact h a b hh.1
theorem noneR_iff {n : Nat} {R : Rw} (hn : n ≤ 40) (h : Wf n R) : noneR R = true ↔ ∀ a b, hb R a b = false := by
  unfold noneR
  rw [List.all_eq_true]
  simp only [List.mem_range, beq_iff_eq]
  constructor
  · intro hh a b
    by_cases ha : a < 40
    · unfold hb; rw [hh a ha]; simp
    · cases hc : hb R a b with
      | false => rfl
      | true => obtain ⟨h1, h2⟩ := h a b hc; omega
  · intro hh a _
    refine BitVec.eq_of_getLsbD_eq fun b _ => ?_
    have := hh a b
    unfold hb at this
    rw [this]; simp
theorem in_iff {n : Nat} {R S : Rw} (hn : n ≤ 40) (h : Wf n R) : noneR (lessR R S) = true ↔ ∀ a b, hb R a b = true → hb S a b = true := by
  rw [noneR_iff hn (wf_less h)]
  simp only [hb_less]
  constructor
  · intro hh a b h1
    have := hh a b
    rw [h1] at this
    simpa using this
  · intro hh a b
    cases h1 : hb R a b with
    | false => rfl
    | true => simp [hh a b h1]

theorem hb_maybeK (R : Rw) (k a b : Nat) (hk : k ≤ 64) : hb (maybeK k R) a b = (hb R a b || (decide (a < k) && decide (b = a))) := by
  induction k with
  | zero => simp [maybeK]
  | succ k ih =>
    rw [maybeK_succ, hb_upd]
    by_cases h : a = k
    · subst h
      rw [if_pos rfl, BitVec.getLsbD_or, bit_get (by omega)]
      have := ih (by omega)
      unfold hb at this ⊢
      rw [this]; simp
    · rw [if_neg h, ih (by omega)]
      have : decide (a < k) = decide (a < k + 1) := by rw [decide_eq_decide]; omega
      rw [this]
theorem wf_maybe {n : Nat} {R : Rw} (hn : n ≤ 40) (h : Wf n R) : Wf n (maybeK n R) := fun a b hh => by
  rw [hb_maybeK _ _ _ _ (by omega)] at hh
  simp at hh
  rcases hh with hh | hh
  · exact h a b hh
  · omega

/-! ### Then -/
theorem hb_rowT (n a : Nat) (R S T : Rw) (k : Nat) (x y : Nat) : hb (rowT n a k R S T) x y = (hb T x y || (decide (x = a) && (List.range k).any fun b => hN n R a b && hb S b y)) := by
  induction k with
  | zero => simp [rowT]
  | succ k ih =>
    rw [rowT_succ, stepT, List.range_succ, List.any_append, has_N]
    by_cases hh : hN n R a k = true
    · rw [if_pos hh, hb_upd]
      by_cases hx : x = a
      · subst hx
        rw [if_pos rfl, BitVec.getLsbD_or]
        have := ih
        unfold hb at this ⊢
        rw [this]
        simp [hh, Bool.or_assoc, hb]
      · rw [if_neg hx, ih]; simp [hx]
    · rw [if_neg hh, ih]
      simp [hh]
theorem hb_thenK (n : Nat) (R S : Rw) (k : Nat) (x y : Nat) : hb (thenK n k R S) x y = (decide (x < k) && (List.range n).any fun b => hN n R x b && hb S b y) := by
  induction k with
  | zero => simp [thenK, hb]
  | succ k ih =>
    rw [thenK_succ, hb_rowT, ih]
    by_cases hx : x = k
    · subst hx; simp
    · have : decide (x < k) = decide (x < k + 1) := by rw [decide_eq_decide]; omega
      rw [this]; simp [hx]
theorem hb_then {n : Nat} {R S : Rw} (hR : Wf n R) (a b : Nat) : hb (thenR n R S) a b = true ↔ ∃ c, hb R a c = true ∧ hb S c b = true := by
  unfold thenR
  rw [hb_thenK]
  simp only [Bool.and_eq_true, decide_eq_true_eq, List.any_eq_true, List.mem_range, hN_wf hR]
  constructor
  · rintro ⟨_, c, _, h1, h2⟩; exact ⟨c, h1, h2⟩
  · rintro ⟨c, h1, h2⟩; obtain ⟨h3, h4⟩ := hR a c h1; exact ⟨h3, c, h4, h1, h2⟩
theorem wf_then {n : Nat} {R S : Rw} (hR : Wf n R) (hS : Wf n S) : Wf n (thenR n R S) := fun a b h => by
  obtain ⟨c, h1, h2⟩ := (hb_then hR a b).1 h
  exact ⟨(hR a c h1).1, (hS c b h2).2⟩

/-! ### Back -/
theorem mem_pairsR {n : Nat} {R : Rw} {p : Int × Int} : p ∈ pairsR n R ↔ ∃ a b : Nat, p = ((a : Int), (b : Int)) ∧ hN n R a b = true := by
  simp only [pairsR, pairsK, rowPr, List.mem_flatMap, List.mem_map, List.mem_filter, List.mem_range]
  constructor
  · rintro ⟨a, ha, b, ⟨hb, hh⟩, rfl⟩
    exact ⟨a, b, rfl, by rw [← has_N]; exact hh⟩
  · rintro ⟨a, b, rfl, hh⟩
    obtain ⟨h1, h2⟩ := hN_lt hh
    exact ⟨a, h1, b, ⟨h2, by rw [has_N]; exact hh⟩, rfl⟩
theorem hb_backL (a b : Nat) : ∀ (l : List (Int × Int)) (T : Rw), (∀ p ∈ l, 0 ≤ p.1 ∧ p.1 < 40 ∧ 0 ≤ p.2 ∧ p.2 < 40) → hb (l.foldl stepB T) a b = (hb T a b || l.any fun p => decide (p = ((b : Int), (a : Int))))
  | [], T, _ => by simp
  | p :: l, T, h => by
    rw [List.foldl_cons, hb_backL a b l _ (fun q hq => h q (List.mem_cons_of_mem _ hq)), List.any_cons, ← Bool.or_assoc]
    congr 1
    obtain ⟨x, y⟩ := p
    have := h (x, y) (List.mem_cons_self ..)
    simp only at this
    unfold stepB
    rw [hb_upd]
    by_cases ha : a = y.toNat
    · subst ha
      rw [if_pos rfl, BitVec.getLsbD_or, bit_get (by omega)]
      unfold hb
      congr 1
      rw [decide_eq_decide]
      simp only [Prod.mk.injEq]
      omega
    · rw [if_neg ha]
      have : ¬ ((x, y) = ((b : Int), (a : Int))) := by simp only [Prod.mk.injEq]; omega
      simp [this]
theorem hb_back {n : Nat} {R : Rw} (hn : n ≤ 40) (a b : Nat) : hb (backR n R) a b = hN n R b a := by
  unfold backR backL
  rw [hb_backL a b _ _ (fun p hp => by have := pairsR_mem hp; omega), hb_zero, Bool.false_or, Bool.eq_iff_iff, List.any_eq_true]
  simp only [decide_eq_true_eq]
  constructor
  · rintro ⟨p, hp, rfl⟩
    obtain ⟨x, y, hxy, hh⟩ := mem_pairsR.1 hp
    simp only [Prod.mk.injEq] at hxy
    obtain ⟨h1, h2⟩ := hxy
    rw [show b = x by omega, show a = y by omega]; exact hh
  · intro hh
    exact ⟨_, mem_pairsR.2 ⟨b, a, rfl, hh⟩, rfl⟩
theorem wf_back {n : Nat} {R : Rw} (hn : n ≤ 40) : Wf n (backR n R) := fun a b h => by
  rw [hb_back hn] at h; obtain ⟨h1, h2⟩ := hN_lt h; exact ⟨h2, h1⟩

/-! ### Plus: Warshall -/
inductive Thru (r : Nat → Nat → Prop) (k : Nat) : Nat → Nat → Prop
  | one {a b} : r a b → Thru r k a b
  | join {a c b} : c < k → Thru r k a c → Thru r k c b → Thru r k a b
theorem Thru.mono {r : Nat → Nat → Prop} {k k' : Nat} (h : k ≤ k') {a b : Nat} (t : Thru r k a b) : Thru r k' a b := by
  induction t with
  | one h => exact .one h
  | join hc _ _ ih1 ih2 => exact .join (by omega) ih1 ih2
theorem thru_succ {r : Nat → Nat → Prop} {k a b : Nat} : Thru r (k + 1) a b ↔ Thru r k a b ∨ (Thru r k a k ∧ Thru r k k b) := by
  constructor
  · intro t
    induction t with
    | one h => exact .inl (.one h)
    | @join a c b hc _ _ ih1 ih2 =>
      by_cases h : c < k
      · rcases ih1 with h1 | ⟨h1, h2⟩
        · rcases ih2 with h3 | ⟨h3, h4⟩
          · exact .inl (.join h h1 h3)
          · exact .inr ⟨.join h h1 h3, h4⟩
        · rcases ih2 with h3 | ⟨h3, h4⟩
          · exact .inr ⟨h1, .join h h2 h3⟩
          · exact .inr ⟨h1, h4⟩
      · obtain rfl : c = k := by omega
        refine .inr ⟨?_, ?_⟩
        · rcases ih1 with h1 | ⟨h1, _⟩ <;> exact h1
        · rcases ih2 with h1 | ⟨_, h1⟩ <;> exact h1
  · rintro (h | ⟨h1, h2⟩)
    · exact h.mono (Nat.le_succ k)
    · exact .join (Nat.lt_succ_self k) (h1.mono (Nat.le_succ k)) (h2.mono (Nat.le_succ k))
theorem thru_zero {r : Nat → Nat → Prop} {a b : Nat} : Thru r 0 a b ↔ r a b := by
  constructor
  · intro t; cases t with
    | one h => exact h
    | join h _ _ => exact absurd h (Nat.not_lt_zero _)
  · exact .one
theorem hb_rowP {n b : Nat} (hb' : b < n) (R : Rw) (hR : Wf n R) (k : Nat) (hk : k ≤ n) (x y : Nat) : hb (rowP n b k R) x y = (hb R x y || (decide (x < k) && hb R x b && hb R b y)) := by
  induction k generalizing x y with
  | zero => simp [rowP]
  | succ k ih =>
    have ih := fun x y => ih (by omega) x y
    have hwf : Wf n (rowP n b k R) := fun x y h => by
      rw [ih] at h
      simp at h
      rcases h with h | ⟨⟨_, h1⟩, h2⟩
      · exact hR x y h
      · exact ⟨(hR x b h1).1, (hR b y h2).2⟩
    have hrow : rowP n b k R b = R b := by
      refine BitVec.eq_of_getLsbD_eq fun y _ => ?_
      have := ih b y
      unfold hb at this
      rw [this]
      cases (R b).getLsbD y <;> cases (R b).getLsbD b <;> simp
    rw [rowP_succ, stepP, has_N, hN_wf hwf, ih k b]
    have hkb : (hb R k b || (decide (k < k) && hb R k b && hb R b b)) = hb R k b := by simp
    rw [hkb]
    by_cases hh : hb R k b = true
    · rw [if_pos hh, hb_upd]
      by_cases hx : x = k
      · subst hx
        rw [if_pos rfl, BitVec.getLsbD_or, hrow]
        have := ih x y
        unfold hb at this hh ⊢
        rw [this]
        simp [hh]
      · rw [if_neg hx, ih]
        have : decide (x < k) = decide (x < k + 1) := by rw [decide_eq_decide]; omega
        rw [this]
    · rw [if_neg hh, ih]
      by_cases hx : x = k
      · subst hx; simp [hh]
      · have : decide (x < k) = decide (x < k + 1) := by rw [decide_eq_decide]; omega
        rw [this]
theorem wf_plusK {n : Nat} {R : Rw} (hR : Wf n R) : ∀ k, k ≤ n → Wf n (plusK n k R)
  | 0, _ => hR
  | k + 1, h => fun x y hh => by
    have ih := wf_plusK hR k (by omega)
    rw [plusK_succ, hb_rowP (by omega) _ ih n (Nat.le_refl _)] at hh
    simp at hh
    rcases hh with hh | ⟨⟨h0, h1⟩, h2⟩
    · exact ih x y hh
    · exact ⟨h0, (ih k y h2).2⟩
theorem hb_plusK {n : Nat} {R : Rw} (hR : Wf n R) : ∀ k, k ≤ n → ∀ x y, hb (plusK n k R) x y = true ↔ Thru (fun a b => hb R a b = true) k x y
  | 0, _, x, y => by
    show hb R x y = true ↔ _
    exact (thru_zero (r := fun a b => hb R a b = true)).symm
  | k + 1, h, x, y => by
    have ih := hb_plusK hR k (by omega)
    have hw := wf_plusK hR k (by omega)
    rw [plusK_succ, hb_rowP (by omega) _ hw n (Nat.le_refl _), thru_succ, ← ih, ← ih, ← ih]
    simp only [Bool.or_eq_true, Bool.and_eq_true, decide_eq_true_eq]
    constructor
    · rintro (h1 | ⟨⟨_, h1⟩, h2⟩)
      · exact .inl h1
      · exact .inr ⟨h1, h2⟩
    · rintro (h1 | ⟨h1, h2⟩)
      · exact .inl h1
      · exact .inr ⟨⟨(hw x k h1).1, h1⟩, h2⟩
theorem wf_plus {n : Nat} {R : Rw} (hR : Wf n R) : Wf n (plusR n R) := wf_plusK hR n (Nat.le_refl _)
/-- One step or more. -/
inductive Steps' (r : Nat → Nat → Prop) : Nat → Nat → Prop
  | one {a b} : r a b → Steps' r a b
  | join {a c b} : Steps' r a c → Steps' r c b → Steps' r a b
theorem hb_plus {n : Nat} {R : Rw} (hR : Wf n R) (x y : Nat) : hb (plusR n R) x y = true ↔ Steps' (fun a b => hb R a b = true) x y := by
  show hb (plusK n n R) x y = true ↔ _
  rw [hb_plusK hR n (Nat.le_refl _)]
  constructor
  · intro t
    induction t with
    | one h => exact .one h
    | join _ _ _ ih1 ih2 => exact .join ih1 ih2
  · intro t
    have hlt : ∀ {a b}, Steps' (fun a b => hb R a b = true) a b → a < n ∧ b < n := by
      intro a b t
      induction t with
      | one h => exact hR _ _ h
      | join _ _ ih1 ih2 => exact ⟨ih1.1, ih2.2⟩
    induction t with
    | one h => exact .one h
    | join t1 _ ih1 ih2 => exact .join (hlt t1).2 ih1 ih2
theorem loops_iff {n : Nat} {R : Rw} (hR : Wf n R) : loopsR n R = true ↔ ∃ a, Steps' (fun a b => hb R a b = true) a a := by
  unfold loopsR
  rw [List.any_eq_true]
  simp only [List.mem_range]
  constructor
  · rintro ⟨a, ha, hh⟩
    rw [has_N, hN_wf (wf_plus hR), hb_plus hR] at hh
    exact ⟨a, hh⟩
  · rintro ⟨a, hh⟩
    have h1 := (hb_plus hR a a).2 hh
    refine ⟨a, (wf_plus hR a a h1).1, ?_⟩
    rw [has_N, hN_wf (wf_plus hR)]; exact h1
end Go.Ab
