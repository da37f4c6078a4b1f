/- The abstract machine, its adequacy, what functions compute; lemmas, no claim of its own. -/
import Derived.Test.YtkiecemdbkjccaaGreatGA
import Derived.Test.YtkiecemdbkjccaaGreatGH
import Derived.Test.YtkiecemdbkjccaaGreatGJ
import Derived.Test.YtkiecemdbkjccaaGreatGK
section
/- exegesislaw09.EcoThreads: the plain law. -/
set_option linter.unusedVariables false
set_option linter.unusedSimpArgs false
namespace Go.Ab
variable {F : Funs}
/-- All pairs, row by row. -/
def fullRow (n a j : Nat) : List (Int × Int) := (List.range j).map fun (b : Nat) => ((a : Int), (b : Int))
def fullK (n k : Nat) : List (Int × Int) := (List.range k).flatMap fun a => fullRow n a n
theorem fullK_succ (n k) : fullK n (k + 1) = fullK n k ++ fullRow n k n := by simp [fullK, List.range_succ]
/-- The pairs of a relation that is so by a test are those of all that pass it. -/
theorem pairs_test {n : Nat} {R : Rw} {P : Int × Int → Bool} (h : ∀ a b : Nat, a < n → b < n → hN n R a b = P ((a : Int), (b : Int))) : pairsR n R = (fullK n n).filter P := by
  have row : ∀ a, a < n → rowPr n R a n = (fullRow n a n).filter P := by
    intro a ha
    unfold rowPr fullRow
    rw [List.filter_map]
    congr 1
    refine List.filter_congr fun b hb => ?_
    rw [has_N, h a b ha (List.mem_range.1 hb)]; rfl
  have key : ∀ k, k ≤ n → pairsK n k R = (fullK n k).filter P := by
    intro k
    induction k with
    | zero => intro _; rfl
    | succ k ih => intro hk; rw [pairsK_succ, fullK_succ, List.filter_append, ih (by omega), row k (by omega)]
  exact key n (Nat.le_refl _)
theorem mem_full {n : Nat} {p : Int × Int} : p ∈ fullK n n ↔ ∃ a b : Nat, a < n ∧ b < n ∧ p = ((a : Int), (b : Int)) := by
  unfold fullK fullRow
  simp only [List.mem_flatMap, List.mem_map, List.mem_range]
  constructor
  · rintro ⟨a, ha, b, hb, rfl⟩; exact ⟨a, b, ha, hb, rfl⟩
  · rintro ⟨a, b, ha, hb, rfl⟩; exact ⟨a, ha, b, hb, rfl⟩
theorem pairs_filter {n : Nat} (hn : n ≤ 40) (P : Int × Int → Bool) : pairsR n (newR n ((fullK n n).filter P)) = (fullK n n).filter P := by
  refine pairs_test fun a b ha hb' => ?_
  rw [hN_wf (wf_new hn _), hb_new hn, decide_eq_true ha, decide_eq_true hb', Bool.true_and, Bool.true_and, Bool.eq_iff_iff, List.any_eq_true]
  constructor
  · rintro ⟨p, hp, hq⟩
    rw [List.mem_filter] at hp
    simp only [decide_eq_true_eq] at hq
    rw [← hq]; exact hp.2
  · intro h
    exact ⟨_, List.mem_filter.2 ⟨mem_full.2 ⟨a, b, ha, hb', rfl⟩, h⟩, by simp⟩
theorem pairs_full {n : Nat} (hn : n ≤ 40) : pairsR n (newR n (fullK n n)) = fullK n n := by
  have h := pairs_filter hn (fun _ => true)
  have e : (fullK n n).filter (fun _ => true) = fullK n n := List.filter_eq_self.2 fun _ _ => rfl
  rwa [e] at h
/-- How many pairs a part of the whole has. -/
theorem part_full {X : Gr} (hn : X.evs.length ≤ 40) (so : Ev → Ev → Bool) : pairsR (nOf X) (partR so X (nOf X) (newR (nOf X) (fullK (nOf X) (nOf X)))) = (fullK (nOf X) (nOf X)).filter (okP so X) := by
  unfold partR
  rw [pairs_full (nOf_le X), pairs_filter (nOf_le X)]
theorem filter_not_len {l : List (Int × Int)} {P Q : Int × Int → Bool} (h : ∀ p ∈ l, Q p = !P p) : (l.filter Q).length = l.length - (l.filter P).length := by
  have key : (l.filter Q).length + (l.filter P).length = l.length := by
    induction l with
    | nil => rfl
    | cons p l ih =>
      have h1 := h p (List.mem_cons_self ..)
      have h2 := ih fun q hq => h q (List.mem_cons_of_mem _ hq)
      rw [List.filter_cons, List.filter_cons, h1]
      cases P p <;> simp <;> omega
  omega
def fullL (n a j : Nat) : List (Int × Int) := fullK n a ++ fullRow n a j
theorem fullL_0 (n a) : fullL n a 0 = fullK n a := by simp [fullL, fullRow]
theorem fullL_n (n a) : fullL n a n = fullK n (a + 1) := (fullK_succ n a).symm
theorem fullL_succ (n a j) : fullL n a (j + 1) = fullL n a j ++ [((a : Int), (j : Int))] := by simp [fullL, fullRow, List.range_succ]
theorem fullL_len (n a j) : (fullL n a j).length = a * n + j := by
  have : ∀ a, (fullK n a).length = a * n := by
    intro a
    induction a with
    | zero => simp [fullK]
    | succ a ih => rw [fullK_succ, List.length_append, ih, Nat.succ_mul]; simp [fullRow]
  simp [fullL, this, fullRow]
end Go.Ab
end
section
/- Four relations that grow together (POWER's preserved order): the least that hold. -/
set_option linter.unusedVariables false
set_option linter.unusedSimpArgs false
namespace Go.Ab
structure Q4 where
  ii : Rw
  ic : Rw
  ci : Rw
  cc : Rw
inductive Pp (q : Q4) : Nat → Nat → Nat → Prop
  | b0 {a b} : hb q.ii a b = true → Pp q 0 a b
  | b1 {a b} : hb q.ic a b = true → Pp q 1 a b
  | b2 {a b} : hb q.ci a b = true → Pp q 2 a b
  | b3 {a b} : hb q.cc a b = true → Pp q 3 a b
  | r1 {a b} : Pp q 2 a b → Pp q 0 a b
  | r2 {a c b} : Pp q 1 a c → Pp q 2 c b → Pp q 0 a b
  | r3 {a c b} : Pp q 0 a c → Pp q 0 c b → Pp q 0 a b
  | r4 {a b} : Pp q 0 a b → Pp q 1 a b
  | r5 {a b} : Pp q 3 a b → Pp q 1 a b
  | r6 {a c b} : Pp q 1 a c → Pp q 3 c b → Pp q 1 a b
  | r7 {a c b} : Pp q 0 a c → Pp q 1 c b → Pp q 1 a b
  | r8 {a c b} : Pp q 2 a c → Pp q 0 c b → Pp q 2 a b
  | r9 {a c b} : Pp q 3 a c → Pp q 2 c b → Pp q 2 a b
  | r10 {a b} : Pp q 2 a b → Pp q 3 a b
  | r11 {a c b} : Pp q 2 a c → Pp q 1 c b → Pp q 3 a b
  | r12 {a c b} : Pp q 3 a c → Pp q 3 c b → Pp q 3 a b
structure WfQ (n : Nat) (q : Q4) : Prop where
  ii : Wf n q.ii
  ic : Wf n q.ic
  ci : Wf n q.ci
  cc : Wf n q.cc
/-- One is within the other. -/
structure LeQ (q p : Q4) : Prop where
  ii : ∀ a b, hb q.ii a b = true → hb p.ii a b = true
  ic : ∀ a b, hb q.ic a b = true → hb p.ic a b = true
  ci : ∀ a b, hb q.ci a b = true → hb p.ci a b = true
  cc : ∀ a b, hb q.cc a b = true → hb p.cc a b = true
theorem LeQ.refl (q : Q4) : LeQ q q := ⟨fun _ _ h => h, fun _ _ h => h, fun _ _ h => h, fun _ _ h => h⟩
theorem LeQ.trans {p q r : Q4} (h : LeQ p q) (k : LeQ q r) : LeQ p r := ⟨fun a b x => k.ii a b (h.ii a b x), fun a b x => k.ic a b (h.ic a b x), fun a b x => k.ci a b (h.ci a b x), fun a b x => k.cc a b (h.cc a b x)⟩
structure InP (q0 q : Q4) : Prop where
  ii : ∀ a b, hb q.ii a b = true → Pp q0 0 a b
  ic : ∀ a b, hb q.ic a b = true → Pp q0 1 a b
  ci : ∀ a b, hb q.ci a b = true → Pp q0 2 a b
  cc : ∀ a b, hb q.cc a b = true → Pp q0 3 a b
theorem InP.base (q : Q4) : InP q q := ⟨fun _ _ h => .b0 h, fun _ _ h => .b1 h, fun _ _ h => .b2 h, fun _ _ h => .b3 h⟩
/-- What the rules make of four, themselves left out. -/
structure Clo (q : Q4) : Prop where
  r1 : ∀ a b, hb q.ci a b = true → hb q.ii a b = true
  r2 : ∀ a c b, hb q.ic a c = true → hb q.ci c b = true → hb q.ii a b = true
  r3 : ∀ a c b, hb q.ii a c = true → hb q.ii c b = true → hb q.ii a b = true
  r4 : ∀ a b, hb q.ii a b = true → hb q.ic a b = true
  r5 : ∀ a b, hb q.cc a b = true → hb q.ic a b = true
  r6 : ∀ a c b, hb q.ic a c = true → hb q.cc c b = true → hb q.ic a b = true
  r7 : ∀ a c b, hb q.ii a c = true → hb q.ic c b = true → hb q.ic a b = true
  r8 : ∀ a c b, hb q.ci a c = true → hb q.ii c b = true → hb q.ci a b = true
  r9 : ∀ a c b, hb q.cc a c = true → hb q.ci c b = true → hb q.ci a b = true
  r10 : ∀ a b, hb q.ci a b = true → hb q.cc a b = true
  r11 : ∀ a c b, hb q.ci a c = true → hb q.ic c b = true → hb q.cc a b = true
  r12 : ∀ a c b, hb q.cc a c = true → hb q.cc c b = true → hb q.cc a b = true
def atQ (q : Q4) : Nat → Nat → Nat → Prop
  | 0, a, b => hb q.ii a b = true
  | 1, a, b => hb q.ic a b = true
  | 2, a, b => hb q.ci a b = true
  | _, a, b => hb q.cc a b = true
theorem clo_all {q0 q : Q4} (hc : Clo q) (hl : LeQ q0 q) {k a b : Nat} (h : Pp q0 k a b) : atQ q k a b := by
  induction h with
  | b0 h => exact hl.ii _ _ h
  | b1 h => exact hl.ic _ _ h
  | b2 h => exact hl.ci _ _ h
  | b3 h => exact hl.cc _ _ h
  | r1 _ h => exact hc.r1 _ _ h
  | r2 _ _ h k => exact hc.r2 _ _ _ h k
  | r3 _ _ h k => exact hc.r3 _ _ _ h k
  | r4 _ h => exact hc.r4 _ _ h
  | r5 _ h => exact hc.r5 _ _ h
  | r6 _ _ h k => exact hc.r6 _ _ _ h k
  | r7 _ _ h k => exact hc.r7 _ _ _ h k
  | r8 _ _ h k => exact hc.r8 _ _ _ h k
  | r9 _ _ h k => exact hc.r9 _ _ _ h k
  | r10 _ h => exact hc.r10 _ _ h
  | r11 _ _ h k => exact hc.r11 _ _ _ h k
  | r12 _ _ h k => exact hc.r12 _ _ _ h k
/-- Two that hold all, of one beginning, are the same. -/
theorem clo_same {q0 q p : Q4} (hq : Clo q) (lq : LeQ q0 q) (iq : InP q0 q) (hp : Clo p) (lp : LeQ q0 p) (ip : InP q0 p) (a b : Nat) : hb q.ii a b = hb p.ii a b ∧ hb q.ic a b = hb p.ic a b ∧ hb q.ci a b = hb p.ci a b ∧ hb q.cc a b = hb p.cc a b := by
  refine ⟨?_, ?_, ?_, ?_⟩ <;> rw [Bool.eq_iff_iff]
  · exact ⟨fun h => clo_all hp lp (iq.ii a b h), fun h => clo_all hq lq (ip.ii a b h)⟩
  · exact ⟨fun h => clo_all hp lp (iq.ic a b h), fun h => clo_all hq lq (ip.ic a b h)⟩
  · exact ⟨fun h => clo_all hp lp (iq.ci a b h), fun h => clo_all hq lq (ip.ci a b h)⟩
  · exact ⟨fun h => clo_all hp lp (iq.cc a b h), fun h => clo_all hq lq (ip.cc a b h)⟩

/-! ### counting -/
theorem filter_lt {α : Type} {P Q : α → Bool} : ∀ {l : List α}, (∀ x ∈ l, P x = true → Q x = true) → (l.filter P).length ≤ (l.filter Q).length
  | [], _ => by simp
  | x :: l, h => by
    have ih := filter_lt (P := P) (Q := Q) (l := l) fun y hy => h y (List.mem_cons_of_mem _ hy)
    have h0 := h x (List.mem_cons_self ..)
    rw [List.filter_cons, List.filter_cons]
    cases hP : P x with
    | true => rw [h0 hP, if_pos rfl, if_pos rfl]; simp only [List.length_cons]; omega
    | false =>
      rw [if_neg (by simp)]
      split <;> first | omega | (simp only [List.length_cons]; omega)
theorem filter_lt' {α : Type} {P Q : α → Bool} : ∀ {l : List α}, (∀ x ∈ l, P x = true → Q x = true) → (∃ x ∈ l, P x = false ∧ Q x = true) → (l.filter P).length < (l.filter Q).length
  | [], _, ⟨x, hx, _⟩ => by cases hx
  | x :: l, h, ⟨y, hy, h1, h2⟩ => by
    have hl := fun z hz => h z (List.mem_cons_of_mem x hz)
    have h0 := h x (List.mem_cons_self ..)
    rw [List.filter_cons, List.filter_cons]
    rcases List.mem_cons.1 hy with rfl | hy
    · have := filter_lt (P := P) (Q := Q) hl
      rw [h1, h2, if_neg (by simp), if_pos rfl]
      simp only [List.length_cons]; omega
    · have ih := filter_lt' (P := P) (Q := Q) hl ⟨y, hy, h1, h2⟩
      cases hP : P x with
      | true => rw [h0 hP, if_pos rfl, if_pos rfl]; simp only [List.length_cons]; omega
      | false =>
        rw [if_neg (by simp)]
        split <;> first | omega | (simp only [List.length_cons]; omega)
def cntR (n : Nat) (R : Rw) : Nat := ((fullK n n).filter fun p => hb R p.1.toNat p.2.toNat).length
theorem cntR_le {n : Nat} (hn : n ≤ 40) (R : Rw) : cntR n R ≤ 1600 := by
  have h1 := List.length_filter_le (fun p : Int × Int => hb R p.1.toNat p.2.toNat) (fullK n n)
  have h2 : (fullK n n).length = n * n := by have := fullL_len n n 0; rwa [fullL_0] at this
  have h3 : n * n ≤ 40 * 40 := Nat.mul_le_mul hn hn
  unfold cntR; omega
theorem cntR_mono {n : Nat} {R S : Rw} (h : ∀ a b, hb R a b = true → hb S a b = true) : cntR n R ≤ cntR n S := filter_lt fun p _ hp => h _ _ hp
theorem cntR_lt {n : Nat} (hn : n ≤ 40) {R S : Rw} (hS : Wf n S) (h : ∀ a b, hb R a b = true → hb S a b = true) (hne : noneR (lessR S R) = false) : cntR n R < cntR n S := by
  refine filter_lt' (fun p _ hp => h _ _ hp) ?_
  have hex : ∃ a b, hb S a b = true ∧ hb R a b = false := by
    by_cases hx : ∃ a b, hb S a b = true ∧ hb R a b = false
    · exact hx
    · exfalso
      have : noneR (lessR S R) = true := (in_iff hn hS).2 fun a b hab => by
        cases hr : hb R a b with
        | true => rfl
        | false => exact absurd ⟨a, b, hab, hr⟩ hx
      rw [hne] at this; cases this
  obtain ⟨a, b, h1, h2⟩ := hex
  obtain ⟨ha, hb'⟩ := hS a b h1
  exact ⟨((a : Int), (b : Int)), mem_full.2 ⟨a, b, ha, hb', rfl⟩, by simpa using h2, by simpa using h1⟩
def cntQ (n : Nat) (q : Q4) : Nat := cntR n q.ii + cntR n q.ic + cntR n q.ci + cntR n q.cc
theorem cntQ_le {n : Nat} (hn : n ≤ 40) (q : Q4) : cntQ n q ≤ 6400 := by
  have h1 := cntR_le hn q.ii
  have h2 := cntR_le hn q.ic
  have h3 := cntR_le hn q.ci
  have h4 := cntR_le hn q.cc
  unfold cntQ; omega
def subQ (q p : Q4) : Bool := noneR (lessR q.ii p.ii) && (noneR (lessR q.ic p.ic) && (noneR (lessR q.ci p.ci) && noneR (lessR q.cc p.cc)))
theorem cntQ_lt {n : Nat} (hn : n ≤ 40) {q p : Q4} (hp : WfQ n p) (h : LeQ q p) (hne : subQ p q = false) : cntQ n q < cntQ n p := by
  have h1 := cntR_mono (n := n) h.ii
  have h2 := cntR_mono (n := n) h.ic
  have h3 := cntR_mono (n := n) h.ci
  have h4 := cntR_mono (n := n) h.cc
  unfold subQ at hne
  unfold cntQ
  cases c1 : noneR (lessR p.ii q.ii) with
  | false => have := cntR_lt hn hp.ii h.ii c1; omega
  | true =>
    cases c2 : noneR (lessR p.ic q.ic) with
    | false => have := cntR_lt hn hp.ic h.ic c2; omega
    | true =>
      cases c3 : noneR (lessR p.ci q.ci) with
      | false => have := cntR_lt hn hp.ci h.ci c3; omega
      | true =>
        cases c4 : noneR (lessR p.cc q.cc) with
        | false => have := cntR_lt hn hp.cc h.cc c4; omega
        | true => rw [c1, c2, c3, c4] at hne; cases hne
theorem subQ_le {n : Nat} (hn : n ≤ 40) {q p : Q4} (hp : WfQ n p) (h : subQ p q = true) : LeQ p q := by
  unfold subQ at h
  simp only [Bool.and_eq_true] at h
  exact ⟨(in_iff hn hp.ii).1 h.1, (in_iff hn hp.ic).1 h.2.1, (in_iff hn hp.ci).1 h.2.2.1, (in_iff hn hp.cc).1 h.2.2.2⟩

/-! ### the program's steps -/
def stepQ (n : Nat) (q : Q4) : Q4 := ⟨orR (orR (orR q.ii q.ci) (thenR n q.ic q.ci)) (thenR n q.ii q.ii), orR (orR (orR (orR q.ic q.ii) q.cc) (thenR n q.ic q.cc)) (thenR n q.ii q.ic), orR (orR q.ci (thenR n q.ci q.ii)) (thenR n q.cc q.ci), orR (orR (orR q.cc q.ci) (thenR n q.ci q.ic)) (thenR n q.cc q.cc)⟩
def itQ (n : Nat) : Nat → Q4 → Q4
  | 0, q => q
  | f + 1, q => if subQ (stepQ n q) q then q else itQ n f (stepQ n q)
section
variable {n : Nat} {q : Q4} (w : WfQ n q)
include w
theorem stepQ_wf : WfQ n (stepQ n q) :=
  ⟨wf_or (wf_or (wf_or w.ii w.ci) (wf_then w.ic w.ci)) (wf_then w.ii w.ii), wf_or (wf_or (wf_or (wf_or w.ic w.ii) w.cc) (wf_then w.ic w.cc)) (wf_then w.ii w.ic), wf_or (wf_or w.ci (wf_then w.ci w.ii)) (wf_then w.cc w.ci), wf_or (wf_or (wf_or w.cc w.ci) (wf_then w.ci w.ic)) (wf_then w.cc w.cc)⟩
omit w in
theorem stepQ_ge : LeQ q (stepQ n q) := by
  refine ⟨fun a b h => ?_, fun a b h => ?_, fun a b h => ?_, fun a b h => ?_⟩ <;> simp only [stepQ, hb_or, h, Bool.true_or]
theorem stepQ_in {q0 : Q4} (h : InP q0 q) : InP q0 (stepQ n q) := by
  refine ⟨fun a b k => ?_, fun a b k => ?_, fun a b k => ?_, fun a b k => ?_⟩ <;> simp only [stepQ, hb_or, Bool.or_eq_true] at k
  · rcases k with ((k | k) | k) | k
    · exact h.ii a b k
    · exact .r1 (h.ci a b k)
    · obtain ⟨c, k1, k2⟩ := (hb_then w.ic a b).1 k; exact .r2 (h.ic _ _ k1) (h.ci _ _ k2)
    · obtain ⟨c, k1, k2⟩ := (hb_then w.ii a b).1 k; exact .r3 (h.ii _ _ k1) (h.ii _ _ k2)
  · rcases k with (((k | k) | k) | k) | k
    · exact h.ic a b k
    · exact .r4 (h.ii a b k)
    · exact .r5 (h.cc a b k)
    · obtain ⟨c, k1, k2⟩ := (hb_then w.ic a b).1 k; exact .r6 (h.ic _ _ k1) (h.cc _ _ k2)
    · obtain ⟨c, k1, k2⟩ := (hb_then w.ii a b).1 k; exact .r7 (h.ii _ _ k1) (h.ic _ _ k2)
  · rcases k with (k | k) | k
    · exact h.ci a b k
    · obtain ⟨c, k1, k2⟩ := (hb_then w.ci a b).1 k; exact .r8 (h.ci _ _ k1) (h.ii _ _ k2)
    · obtain ⟨c, k1, k2⟩ := (hb_then w.cc a b).1 k; exact .r9 (h.cc _ _ k1) (h.ci _ _ k2)
  · rcases k with ((k | k) | k) | k
    · exact h.cc a b k
    · exact .r10 (h.ci a b k)
    · obtain ⟨c, k1, k2⟩ := (hb_then w.ci a b).1 k; exact .r11 (h.ci _ _ k1) (h.ic _ _ k2)
    · obtain ⟨c, k1, k2⟩ := (hb_then w.cc a b).1 k; exact .r12 (h.cc _ _ k1) (h.cc _ _ k2)
theorem stepQ_clo (h : LeQ (stepQ n q) q) : Clo q := by
  have t1 := fun a c b (x : hb q.ic a c = true) (y : hb q.ci c b = true) => (hb_then w.ic a b).2 ⟨c, x, y⟩
  have t2 := fun a c b (x : hb q.ii a c = true) (y : hb q.ii c b = true) => (hb_then w.ii a b).2 ⟨c, x, y⟩
  have t3 := fun a c b (x : hb q.ic a c = true) (y : hb q.cc c b = true) => (hb_then w.ic a b).2 ⟨c, x, y⟩
  have t4 := fun a c b (x : hb q.ii a c = true) (y : hb q.ic c b = true) => (hb_then w.ii a b).2 ⟨c, x, y⟩
  have t5 := fun a c b (x : hb q.ci a c = true) (y : hb q.ii c b = true) => (hb_then w.ci a b).2 ⟨c, x, y⟩
  have t6 := fun a c b (x : hb q.cc a c = true) (y : hb q.ci c b = true) => (hb_then w.cc a b).2 ⟨c, x, y⟩
  have t7 := fun a c b (x : hb q.ci a c = true) (y : hb q.ic c b = true) => (hb_then w.ci a b).2 ⟨c, x, y⟩
  have t8 := fun a c b (x : hb q.cc a c = true) (y : hb q.cc c b = true) => (hb_then w.cc a b).2 ⟨c, x, y⟩
  refine ⟨fun a b x => h.ii a b ?_, fun a c b x y => h.ii a b ?_, fun a c b x y => h.ii a b ?_, fun a b x => h.ic a b ?_, fun a b x => h.ic a b ?_, fun a c b x y => h.ic a b ?_, fun a c b x y => h.ic a b ?_, fun a c b x y => h.ci a b ?_, fun a c b x y => h.ci a b ?_, fun a b x => h.cc a b ?_, fun a c b x y => h.cc a b ?_, fun a c b x y => h.cc a b ?_⟩ <;> simp only [stepQ, hb_or]
  · rw [x]; simp
  · rw [t1 a c b x y]; simp
  · rw [t2 a c b x y]; simp
  · rw [x]; simp
  · rw [x]; simp
  · rw [t3 a c b x y]; simp
  · rw [t4 a c b x y]; simp
  · rw [t5 a c b x y]; simp
  · rw [t6 a c b x y]; simp
  · rw [x]; simp
  · rw [t7 a c b x y]; simp
  · rw [t8 a c b x y]; simp
end
/-- What the program ends with. -/
theorem itQ_ok {n : Nat} (hn : n ≤ 40) {q0 : Q4} : ∀ (f : Nat) (q : Q4), WfQ n q → LeQ q0 q → InP q0 q → 6400 - cntQ n q < f → WfQ n (itQ n f q) ∧ LeQ q0 (itQ n f q) ∧ InP q0 (itQ n f q) ∧ Clo (itQ n f q)
  | 0, q, _, _, _, h => by omega
  | f + 1, q, w, l, i, h => by
    unfold itQ
    have hle := cntQ_le hn (stepQ n q)
    cases c : subQ (stepQ n q) q with
    | true => rw [if_pos rfl]; exact ⟨w, l, i, stepQ_clo w (subQ_le hn (stepQ_wf w) c)⟩
    | false =>
      rw [if_neg (by simp)]
      have := cntQ_lt hn (stepQ_wf w) stepQ_ge c
      exact itQ_ok hn f _ (stepQ_wf w) (l.trans stepQ_ge) (stepQ_in w i) (by omega)
end Go.Ab
end
section
/- Resolved functions of package ppo, written by a program (res.py). -/
namespace Go.Ab
def A_ppo_Ppo : AFun := { res := [.t 2], body := (.seq (.reg false [{ dst := some 1, op := .box (.t 0) },
  { dst := some 2, op := .mv (.c (.nilp)) }])
 (.seq (.reg false [{ dst := some 10, op := .ld (some 8) (.t 1) },
  { dst := some 11, op := .call .pure (.c (.fn 165 [] [])) [.t 10] },
  { dst := some 9, op := .mv (.t 11) },
  { dst := some 12, op := .ext 0 (.t 9) },
  { dst := some 13, op := .ext 1 (.t 9) },
  { dst := some 14, op := .ext 2 (.t 9) },
  { dst := some 15, op := .ext 3 (.t 9) },
  { dst := some 3, op := .mv (.t 12) },
  { dst := some 4, op := .mv (.t 13) },
  { dst := some 5, op := .mv (.t 14) },
  { dst := some 6, op := .mv (.t 15) }])
 (.seq (.reg true [{ dst := some 16, op := .ld (some 8) (.t 1), pre := [] },
  { dst := some 17, op := .call .pure (.c (.fn 166 [] [])) [.t 16, .c (.fn 167 [] [])], pre := [] },
  { dst := some 18, op := .ld (some 8) (.t 1), pre := [] },
  { dst := some 19, op := .call .pure (.c (.fn 166 [] [])) [.t 18, .c (.fn 168 [] [])], pre := [] },
  { dst := some 7, op := .mv (.t 17) },
  { dst := some 8, op := .mv (.t 19) }])
 (.seq (.reg false [{ dst := some 20, op := .mv (.t 7) },
  { dst := some 21, op := .mv (.t 3) },
  { dst := some 22, op := .call .pure (.c (.fn 23 [] [])) [.t 20, .t 21] },
  { dst := some 23, op := .mv (.t 7) },
  { dst := some 24, op := .call .pure (.c (.fn 23 [] [])) [.t 22, .t 23] },
  { dst := some 25, op := .mv (.t 7) },
  { dst := some 26, op := .mv (.t 4) },
  { dst := some 27, op := .call .pure (.c (.fn 23 [] [])) [.t 25, .t 26] },
  { dst := some 28, op := .mv (.t 8) },
  { dst := some 29, op := .call .pure (.c (.fn 23 [] [])) [.t 27, .t 28] },
  { dst := some 30, op := .call .pure (.c (.fn 24 [] [])) [.t 24, .t 29] },
  { dst := some 2, op := .mv (.t 30) }])
 .ret)))) }
def A_ppo_Rdw : AFun := { res := [.t 2], body := (.seq (.reg false [{ dst := some 1, op := .box (.t 0) },
  { dst := some 2, op := .mv (.c (.nilp)) }])
 (.seq (.reg true [{ dst := some 3, op := .ld (some 8) (.t 1), pre := [] },
  { dst := some 4, op := .ld (some 8) (.t 1), pre := [] },
  { dst := some 5, op := .call .pure (.c (.fn 50 [] [])) [.t 4], pre := [] },
  { dst := some 6, op := .call .pure (.c (.fn 170 [] [])) [.t 3, .t 5], pre := [] },
  { dst := some 2, op := .mv (.t 6) }])
 .ret)) }
def A_ppo_Detour : AFun := { res := [.t 2], body := (.seq (.reg false [{ dst := some 1, op := .box (.t 0) },
  { dst := some 2, op := .mv (.c (.nilp)) }])
 (.seq (.reg true [{ dst := some 3, op := .ld (some 8) (.t 1), pre := [] },
  { dst := some 4, op := .ld (some 8) (.t 1), pre := [] },
  { dst := some 5, op := .call .pure (.c (.fn 49 [] [])) [.t 4], pre := [] },
  { dst := some 6, op := .call .pure (.c (.fn 170 [] [])) [.t 3, .t 5], pre := [] },
  { dst := some 2, op := .mv (.t 6) }])
 .ret)) }
def A_ppo_Parts : AFun := { res := [.t 2, .t 3, .t 4, .t 5], body := (.seq (.reg false [{ dst := some 1, op := .box (.t 0) },
  { dst := some 2, op := .mv (.c (.nilp)) },
  { dst := some 3, op := .mv (.c (.nilp)) },
  { dst := some 4, op := .mv (.c (.nilp)) },
  { dst := some 5, op := .mv (.c (.nilp)) }])
 (.scp (.seq (.reg false [{ dst := some 14, op := .ld (some 8) (.t 1) },
  { dst := some 15, op := .call .pure (.c (.fn 166 [] [])) [.t 14, .c (.fn 219 [] [])] },
  { dst := some 6, op := .mv (.t 15) }])
 (.seq (.reg true [{ dst := some 16, op := .ld (some 8) (.t 1), pre := [] },
  { dst := some 17, op := .fa 5 (.t 1) },
  { dst := some 18, op := .ld none (.t 17), pre := [] },
  { dst := some 19, op := .call .pure (.c (.fn 81 [] [])) [.t 16, .t 18], pre := [] },
  { dst := some 20, op := .ld (some 8) (.t 1), pre := [] },
  { dst := some 21, op := .fa 6 (.t 1) },
  { dst := some 22, op := .ld none (.t 21), pre := [] },
  { dst := some 23, op := .call .pure (.c (.fn 81 [] [])) [.t 20, .t 22], pre := [] },
  { dst := some 24, op := .mv (.t 6) },
  { dst := some 25, op := .call .pure (.c (.fn 23 [] [])) [.t 23, .t 24], pre := [] },
  { dst := some 26, op := .ld (some 8) (.t 1), pre := [] },
  { dst := some 27, op := .fa 7 (.t 1) },
  { dst := some 28, op := .ld none (.t 27), pre := [] },
  { dst := some 29, op := .call .pure (.c (.fn 81 [] [])) [.t 26, .t 28], pre := [] },
  { dst := some 30, op := .mv (.t 6) },
  { dst := some 31, op := .call .pure (.c (.fn 23 [] [])) [.t 29, .t 30], pre := [] },
  { dst := some 7, op := .mv (.t 19) },
  { dst := some 8, op := .mv (.t 25) },
  { dst := some 9, op := .mv (.t 31) }])
 (.seq (.reg true [{ dst := some 32, op := .mv (.t 7) },
  { dst := some 33, op := .ld (some 8) (.t 1), pre := [] },
  { dst := some 34, op := .call .pure (.c (.fn 145 [] [])) [.t 33], pre := [] },
  { dst := some 35, op := .ld (some 8) (.t 1), pre := [] },
  { dst := some 36, op := .ld (some 8) (.t 1), pre := [] },
  { dst := some 37, op := .call .pure (.c (.fn 48 [] [])) [.t 36], pre := [] },
  { dst := some 38, op := .call .pure (.c (.fn 39 [] [])) [.t 35, .t 37], pre := [] },
  { dst := some 39, op := .bsl true 2 ([.nilp, .nilp]) [(0, 1, .t 34), (1, 1, .t 38)], pre := [] },
  { dst := some 40, op := .call .pure (.c (.fn 220 [] [])) [.t 32, .t 39], pre := [] },
  { dst := some 2, op := .mv (.t 40) }])
 (.seq (.reg false [{ dst := some 41, op := .fa 1 (.t 1) },
  { dst := some 42, op := .ld none (.t 41) },
  { dst := some 43, op := .len (.t 42) },
  { dst := some 44, op := .call .pure (.c (.fn 11 [] [])) [.t 43, .c (.sl [] 0 .rig)] },
  { dst := some 3, op := .mv (.t 44) }])
 (.seq (.reg false [{ dst := some 45, op := .mv (.t 9) },
  { dst := some 46, op := .ld (some 8) (.t 1) },
  { dst := some 47, op := .call .pure (.c (.fn 146 [] [])) [.t 46] },
  { dst := some 48, op := .bsl true 1 ([.nilp]) [(0, 1, .t 47)] },
  { dst := some 49, op := .call .pure (.c (.fn 220 [] [])) [.t 45, .t 48] },
  { dst := some 4, op := .mv (.t 49) }])
 (.seq (.reg false [{ dst := some 50, op := .mv (.t 7) },
  { dst := some 51, op := .ld (some 8) (.t 1) },
  { dst := some 52, op := .call .pure (.c (.fn 221 [] [])) [.t 51] },
  { dst := some 53, op := .mv (.t 8) },
  { dst := some 54, op := .bsl true 2 ([.nilp, .nilp]) [(0, 1, .t 52), (1, 1, .t 53)] },
  { dst := some 55, op := .call .pure (.c (.fn 220 [] [])) [.t 50, .t 54] },
  { dst := some 5, op := .mv (.t 55) }])
 (.seq .lab
 (.seq (.blk 0 (.loop (.blk 1 (.seq (.reg false [{ dst := some 56, op := .mv (.t 2) },
  { dst := some 57, op := .mv (.t 4) },
  { dst := some 58, op := .mv (.t 3) },
  { dst := some 59, op := .mv (.t 4) },
  { dst := some 60, op := .call .pure (.c (.fn 23 [] [])) [.t 58, .t 59] },
  { dst := some 61, op := .mv (.t 2) },
  { dst := some 62, op := .mv (.t 2) },
  { dst := some 63, op := .call .pure (.c (.fn 23 [] [])) [.t 61, .t 62] },
  { dst := some 64, op := .bsl true 3 ([.nilp, .nilp, .nilp]) [(0, 1, .t 57), (1, 1, .t 60), (2, 1, .t 63)] },
  { dst := some 65, op := .call .pure (.c (.fn 220 [] [])) [.t 56, .t 64] },
  { dst := some 10, op := .mv (.t 65) }])
 (.seq (.reg false [{ dst := some 66, op := .mv (.t 3) },
  { dst := some 67, op := .mv (.t 2) },
  { dst := some 68, op := .mv (.t 5) },
  { dst := some 69, op := .mv (.t 3) },
  { dst := some 70, op := .mv (.t 5) },
  { dst := some 71, op := .call .pure (.c (.fn 23 [] [])) [.t 69, .t 70] },
  { dst := some 72, op := .mv (.t 2) },
  { dst := some 73, op := .mv (.t 3) },
  { dst := some 74, op := .call .pure (.c (.fn 23 [] [])) [.t 72, .t 73] },
  { dst := some 75, op := .bsl true 4 (List.replicate 4 (.nilp)) [(0, 1, .t 67), (1, 1, .t 68), (2, 1, .t 71), (3, 1, .t 74)] },
  { dst := some 76, op := .call .pure (.c (.fn 220 [] [])) [.t 66, .t 75] },
  { dst := some 11, op := .mv (.t 76) }])
 (.seq (.reg false [{ dst := some 77, op := .mv (.t 4) },
  { dst := some 78, op := .mv (.t 4) },
  { dst := some 79, op := .mv (.t 2) },
  { dst := some 80, op := .call .pure (.c (.fn 23 [] [])) [.t 78, .t 79] },
  { dst := some 81, op := .mv (.t 5) },
  { dst := some 82, op := .mv (.t 4) },
  { dst := some 83, op := .call .pure (.c (.fn 23 [] [])) [.t 81, .t 82] },
  { dst := some 84, op := .bsl true 2 ([.nilp, .nilp]) [(0, 1, .t 80), (1, 1, .t 83)] },
  { dst := some 85, op := .call .pure (.c (.fn 220 [] [])) [.t 77, .t 84] },
  { dst := some 12, op := .mv (.t 85) }])
 (.seq (.reg false [{ dst := some 86, op := .mv (.t 5) },
  { dst := some 87, op := .mv (.t 4) },
  { dst := some 88, op := .mv (.t 4) },
  { dst := some 89, op := .mv (.t 3) },
  { dst := some 90, op := .call .pure (.c (.fn 23 [] [])) [.t 88, .t 89] },
  { dst := some 91, op := .mv (.t 5) },
  { dst := some 92, op := .mv (.t 5) },
  { dst := some 93, op := .call .pure (.c (.fn 23 [] [])) [.t 91, .t 92] },
  { dst := some 94, op := .bsl true 3 ([.nilp, .nilp, .nilp]) [(0, 1, .t 87), (1, 1, .t 90), (2, 1, .t 93)] },
  { dst := some 95, op := .call .pure (.c (.fn 220 [] [])) [.t 86, .t 94] },
  { dst := some 13, op := .mv (.t 95) }])
 (.seq (.seq (.reg false [{ dst := some 96, op := .mv (.t 10) },
  { dst := some 97, op := .mv (.t 2) },
  { dst := some 98, op := .call .pure (.c (.fn 22 [] [])) [.t 96, .t 97] },
  { dst := some 99, op := .mv (.t 98) },
  { dst := some 100, op := .mv (.t 11), grd := some (99, true) },
  { dst := some 101, op := .mv (.t 3), grd := some (99, true) },
  { dst := some 102, op := .call .pure (.c (.fn 22 [] [])) [.t 100, .t 101], grd := some (99, true) },
  { dst := some 103, op := .pick (.t 99) (.t 102) (.c (.b false)) },
  { dst := some 104, op := .mv (.t 103) },
  { dst := some 105, op := .mv (.t 12), grd := some (104, true) },
  { dst := some 106, op := .mv (.t 4), grd := some (104, true) },
  { dst := some 107, op := .call .pure (.c (.fn 22 [] [])) [.t 105, .t 106], grd := some (104, true) },
  { dst := some 108, op := .pick (.t 104) (.t 107) (.c (.b false)) },
  { dst := some 109, op := .mv (.t 108) },
  { dst := some 110, op := .mv (.t 13), grd := some (109, true) },
  { dst := some 111, op := .mv (.t 5), grd := some (109, true) },
  { dst := some 112, op := .call .pure (.c (.fn 22 [] [])) [.t 110, .t 111], grd := some (109, true) },
  { dst := some 113, op := .pick (.t 109) (.t 112) (.c (.b false)) }])
 (.cond (.t 113) (.ext 0)
 .skip))
 (.reg false [{ dst := some 114, op := .mv (.t 10) },
  { dst := some 115, op := .mv (.t 11) },
  { dst := some 116, op := .mv (.t 12) },
  { dst := some 117, op := .mv (.t 13) },
  { dst := some 2, op := .mv (.t 114) },
  { dst := some 3, op := .mv (.t 115) },
  { dst := some 4, op := .mv (.t 116) },
  { dst := some 5, op := .mv (.t 117) }])))))))))
 (.seq (.reg false [{ dst := some 118, op := .mv (.t 2) },
  { dst := some 119, op := .mv (.t 3) },
  { dst := some 120, op := .mv (.t 4) },
  { dst := some 121, op := .mv (.t 5) },
  { dst := some 2, op := .mv (.t 118) },
  { dst := some 3, op := .mv (.t 119) },
  { dst := some 4, op := .mv (.t 120) },
  { dst := some 5, op := .mv (.t 121) }])
 .ret))))))))))) }
def A_ppo_isR : AFun := { res := [.t 2], body := (.seq (.reg false [{ dst := some 1, op := .box (.t 0) },
  { dst := some 2, op := .mv (.c (.b false)) }])
 (.seq (.reg false [{ dst := some 3, op := .fa 1 (.t 1) },
  { dst := some 4, op := .ld none (.t 3) },
  { dst := some 5, op := .bin .eql (.t 4) (.c (.i .i64 1)) },
  { dst := some 2, op := .mv (.t 5) }])
 .ret)) }
def A_ppo_isW : AFun := { res := [.t 2], body := (.seq (.reg false [{ dst := some 1, op := .box (.t 0) },
  { dst := some 2, op := .mv (.c (.b false)) }])
 (.seq (.reg false [{ dst := some 3, op := .fa 1 (.t 1) },
  { dst := some 4, op := .ld none (.t 3) },
  { dst := some 5, op := .bin .eql (.t 4) (.c (.i .i64 2)) },
  { dst := some 2, op := .mv (.t 5) }])
 .ret)) }
def A_ppo_by : AFun := { res := [.t 4], body := (.seq (.reg false [{ dst := some 2, op := .box (.t 0) },
  { dst := some 4, op := .mv (.c (.nilp)) }])
 (.seq (.reg true [{ dst := some 5, op := .ld (some 8) (.t 2), pre := [] },
  { dst := some 6, op := .call .pure (.c (.fn 221 [] [])) [.t 5], pre := [] },
  { dst := some 7, op := .ld (some 8) (.t 2), pre := [] },
  { dst := some 8, op := .mv (.t 1) },
  { dst := some 9, op := .call .pure (.c (.fn 40 [] [])) [.t 7, .t 8], pre := [] },
  { dst := some 10, op := .ld (some 8) (.t 2), pre := [] },
  { dst := some 11, op := .ld (some 8) (.t 2), pre := [] },
  { dst := some 12, op := .call .pure (.c (.fn 48 [] [])) [.t 11], pre := [] },
  { dst := some 13, op := .call .pure (.c (.fn 40 [] [])) [.t 10, .t 12], pre := [] },
  { dst := some 14, op := .call .pure (.c (.fn 23 [] [])) [.t 9, .t 13], pre := [] },
  { dst := some 15, op := .call .pure (.c (.fn 18 [] [])) [.t 6, .t 14], pre := [] },
  { dst := some 4, op := .mv (.t 15) }])
 .ret)) }
def A_ppo_isM : AFun := { res := [.t 2], body := (.seq (.reg false [{ dst := some 1, op := .box (.t 0) },
  { dst := some 2, op := .mv (.c (.b false)) }])
 (.seq (.reg false [{ dst := some 3, op := .fa 1 (.t 1) },
  { dst := some 4, op := .ld none (.t 3) },
  { dst := some 5, op := .bin .eql (.t 4) (.c (.i .i64 1)) },
  { dst := some 6, op := .mv (.t 5) },
  { dst := some 7, op := .fa 1 (.t 1), grd := some (6, false) },
  { dst := some 8, op := .ld none (.t 7), grd := some (6, false) },
  { dst := some 9, op := .bin .eql (.t 8) (.c (.i .i64 2)), grd := some (6, false) },
  { dst := some 10, op := .pick (.t 6) (.c (.b true)) (.t 9) },
  { dst := some 2, op := .mv (.t 10) }])
 .ret)) }
def A_ppo_or : AFun := { res := [.t 4], body := (.seq (.reg false [{ dst := some 4, op := .mv (.c (.nilp)) }])
 (.seq (.seq (.reg false [{ dst := some 7, op := .mv (.t 1) },
  { dst := some 8, op := .len (.t 7) },
  { dst := some 9, op := .mv (.c (.i .i64 0)) }])
 (.blk 0 (.loop (.seq (.reg false [{ dst := some 10, op := .bin .lss (.t 9) (.t 8) }])
 (.seq (.cond (.t 10) .skip
 (.ext 0))
 (.seq (.blk 1 (.seq (.reg false [{ dst := some 11, op := .ia 1 (.t 7) (.t 9) },
  { dst := some 12, op := .ld none (.t 11) },
  { dst := some 6, op := .mv (.t 12) }])
 (.reg false [{ dst := some 13, op := .mv (.t 0) },
  { dst := some 14, op := .mv (.t 6) },
  { dst := some 15, op := .call .pure (.c (.fn 24 [] [])) [.t 13, .t 14] },
  { dst := some 0, op := .mv (.t 15) }])))
 (.reg false [{ dst := some 16, op := .bin .add (.t 9) (.c (.i .i64 1)) },
  { dst := some 9, op := .mv (.t 16) }])))))))
 (.seq (.reg false [{ dst := some 17, op := .mv (.t 0) },
  { dst := some 4, op := .mv (.t 17) }])
 .ret))) }
def A_ppo_ploc : AFun := { res := [.t 2], body := (.seq (.reg false [{ dst := some 1, op := .box (.t 0) },
  { dst := some 2, op := .mv (.c (.nilp)) }])
 (.seq (.reg false [{ dst := some 4, op := .ld (some 8) (.t 1) },
  { dst := some 5, op := .call .pure (.c (.fn 166 [] [])) [.t 4, .c (.fn 246 [] [])] },
  { dst := some 3, op := .mv (.t 5) }])
 (.seq (.reg true [{ dst := some 6, op := .mv (.t 3) },
  { dst := some 7, op := .ld (some 8) (.t 1), pre := [] },
  { dst := some 8, op := .ld (some 8) (.t 1), pre := [] },
  { dst := some 9, op := .call .pure (.c (.fn 41 [] [])) [.t 8], pre := [] },
  { dst := some 10, op := .call .pure (.c (.fn 39 [] [])) [.t 7, .t 9], pre := [] },
  { dst := some 11, op := .call .pure (.c (.fn 23 [] [])) [.t 6, .t 10], pre := [] },
  { dst := some 2, op := .mv (.t 11) }])
 .ret))) }
def A_ppo_ploc_1 : AFun := { res := [.t 2], body := (.seq (.reg false [{ dst := some 1, op := .box (.t 0) },
  { dst := some 2, op := .mv (.c (.b false)) }])
 (.seq (.reg false [{ dst := some 3, op := .fa 0 (.t 1) },
  { dst := some 4, op := .ld none (.t 3) },
  { dst := some 5, op := .bin .neq (.t 4) (.c (.i .i64 0)) },
  { dst := some 2, op := .mv (.t 5) }])
 .ret)) }
structure Pk_ppo (F : Funs) : Prop where
  ppo_Ppo : F 143 = some A_ppo_Ppo
  ppo_Rdw : F 145 = some A_ppo_Rdw
  ppo_Detour : F 146 = some A_ppo_Detour
  ppo_Parts : F 165 = some A_ppo_Parts
  ppo_isR : F 167 = some A_ppo_isR
  ppo_isW : F 168 = some A_ppo_isW
  ppo_by : F 170 = some A_ppo_by
  ppo_isM : F 219 = some A_ppo_isM
  ppo_or : F 220 = some A_ppo_or
  ppo_ploc : F 221 = some A_ppo_ploc
  ppo_ploc_1 : F 246 = some A_ppo_ploc_1
end Go.Ab
end
section
/- Package ppo. -/
set_option linter.unusedVariables false
set_option linter.unusedSimpArgs false
namespace Go.Ab
variable {F : Funs}
/-- What is answered, some value that is so. -/
def retE (rs : List ARes) (P : AV → Prop) : Out → Env → G → Prop := fun o e g => ∃ v, retQ rs v o e g ∧ P v
theorem retE_ret {rs P e g} : retE rs P .ret e g = (∃ v, (match resE rs e g with | some v0 => frz g.hp depth v0 | none => none) = some v ∧ P v) := rfl
theorem pureE_of {f : Nat} {fn : AFun} {asx : List AV} {P : AV → Prop} (hF : F f = some fn) (h : W F fn.body (argEnv asx) g0 (retE fn.res P)) : ∃ v, pureS F f asx = some v ∧ P v := by
  obtain ⟨o, e, g, h1, v, h2, h3⟩ := h
  exact ⟨v, pure_of hF ⟨o, e, g, h1, h2⟩, h3⟩
theorem res_4 (a b c d e g) : resE [.t a, .t b, .t c, .t d] e g = some (.tup [e a, e b, e c, e d]) := rfl
theorem frz_tup4 (hp) (a b c d : List AV) : frz hp depth (.tup [.ptr a, .ptr b, .ptr c, .ptr d]) = some (.tup [.ptr a, .ptr b, .ptr c, .ptr d]) := by
  show frz hp (8 + 1) _ = _
  simp only [frz, frzL, Option.map_some]
def pR (e : Ev) : Bool := e.kd == 1
def pW (e : Ev) : Bool := e.kd == 2
def pM (e : Ev) : Bool := e.kd == 1 || e.kd == 2
def pMi (e : Ev) : Bool := e.th != 0
structure PpoF (F : Funs) : Prop where
  pp : Pk_ppo F
  pe : Pk_eco F
  pr : Pk_rel F
  po : F 60 = some A_graph_Po
  gof : F 81 = some A_graph_Of
  set : F 166 = some A_graph_Set
  ls : RelLs F
section
variable (X : Gr)
def plocR : Rw := thenR (nOf X) (setR X pMi) (partR inner X (nOf X) (locR X))
def byR (out : Rw) : Rw := andR (plocR X) (thenR (nOf X) (partR outer X (nOf X) out) (partR outer X (nOf X) (rfR X)))
def rdwR : Rw := byR X (relE (frS X.co) X)
def detR : Rw := byR X (relE (coS X.co) X)
def q0Q : Q4 := ⟨orR (orR (newR (nOf X) X.data) (rdwR X)) (partR inner X (nOf X) (rfR X)), newR (nOf X) [], orR (thenR (nOf X) (newR (nOf X) X.ctrli) (setR X pM)) (detR X), orR (orR (newR (nOf X) X.data) (plocR X)) (thenR (nOf X) (newR (nOf X) X.ctrl) (setR X pM))⟩
def partsQ : Q4 := itQ (nOf X) 6401 (q0Q X)
def ppoR : Rw := orR (thenR (nOf X) (thenR (nOf X) (setR X pR) (partsQ X).ii) (setR X pR)) (thenR (nOf X) (thenR (nOf X) (setR X pR) (partsQ X).ic) (setR X pW))
end
def orL (R : Rw) (l : List Rw) : Rw := l.foldl orR R
section
variable (S : PpoF F)
include S
set_option maxRecDepth 100000 in
theorem sp_isR (e : Ev) : pureS F 167 [.agg (evC e)] = some (.b (pR e)) := by
  refine pure_of S.pp.ppo_isR ?_
  simp (disch := omega) only [A_ppo_isR, wp, Nat.reduceAdd, Nat.reduceMul, Nat.reduceSub, gl]
  rfl
set_option maxRecDepth 100000 in
theorem sp_isW (e : Ev) : pureS F 168 [.agg (evC e)] = some (.b (pW e)) := by
  refine pure_of S.pp.ppo_isW ?_
  simp (disch := omega) only [A_ppo_isW, wp, Nat.reduceAdd, Nat.reduceMul, Nat.reduceSub, gl]
  rfl
set_option maxRecDepth 100000 in
theorem sp_isM (e : Ev) : pureS F 219 [.agg (evC e)] = some (.b (pM e)) := by
  refine pure_of S.pp.ppo_isM ?_
  unfold pM
  cases h1 : (e.kd == 1) with
  | true => simp (disch := omega) only [A_ppo_isM, wp, Nat.reduceAdd, Nat.reduceMul, Nat.reduceSub, gl, h1]
  | false => simp (disch := omega) only [A_ppo_isM, wp, Nat.reduceAdd, Nat.reduceMul, Nat.reduceSub, gl, h1]
set_option maxRecDepth 100000 in
theorem sp_isMi (e : Ev) : pureS F 246 [.agg (evC e)] = some (.b (pMi e)) := by
  refine pure_of S.pp.ppo_ploc_1 ?_
  simp (disch := omega) only [A_ppo_ploc_1, wp, Nat.reduceAdd, Nat.reduceMul, Nat.reduceSub, gl]
  rfl
set_option maxRecDepth 100000 in
set_option maxHeartbeats 4000000 in
theorem sp_orP {n : Nat} (hn : n ≤ 40) (R : Rw) (l : List Rw) (hl : l.length ≤ 1000) (t : Tok) : pureS F 220 [.ptr (relC n R), .sl (relsC n l) l.length t] = some (.ptr (relC n (orL R l))) := by
  refine pure_of S.pp.ppo_or ?_
  simp (disch := omega) only [A_ppo_or, wp, Nat.reduceAdd, Nat.reduceMul, Nat.reduceSub, gl]
  refine W_loop (fun q e g => ∃ k, q = l.length - k ∧ k ≤ l.length ∧ e 0 = .ptr (relC n (orL R (l.take k))) ∧ e 7 = .sl (relsC n l) l.length t ∧ e 8 = .i .i64 l.length ∧ e 9 = .i .i64 k) l.length ?_ ?_
  · refine ⟨0, rfl, Nat.zero_le _, ?_⟩
    simp (disch := omega) only [wp, Nat.reduceAdd, Nat.reduceMul, Nat.reduceSub]
    exact ⟨by rfl, rfl⟩
  · rintro q e g ⟨k, rfl, hk, e0, e7, e8, e9⟩
    by_cases hk' : k < l.length
    · have hk1 : (k : Int) < l.length := by omega
      have hwk := succ_wrap (k := k) (by omega)
      have hp := rels_part (n := n) hk'
      have hs : orL R (l.take (k + 1)) = orR (orL R (l.take k)) (l.getD k fun _ => 0) := by
        unfold orL
        rw [List.take_add_one, List.foldl_append, List.getElem?_eq_getElem hk', List.getD_eq_getElem?_getD, List.getElem?_eq_getElem hk']
        rfl
      generalize orL R (l.take k) = A at e0 hs
      generalize (l.getD k fun _ => 0) = B at hp hs
      simp (disch := omega) only [wp, Nat.reduceAdd, Nat.reduceMul, Nat.reduceSub, gl, e0, e7, e8, e9, hk1, hp, sp_or S.pr hn hn, Nat.max_self, hwk]
      exact ⟨l.length - (k + 1), by omega, k + 1, rfl, by omega, by rw [hs], rfl⟩
    · obtain rfl : k = l.length := by omega
      have hk1 : ¬ ((l.length : Int) < l.length) := by omega
      rw [List.take_length] at e0
      simp (disch := omega) only [wp, Nat.reduceAdd, Nat.reduceMul, Nat.reduceSub, gl, e0, e7, e8, e9, hk1]
theorem sp_or_1 {n : Nat} (hn : n ≤ 40) (R A : Rw) : pureS F 220 [.ptr (relC n R), .sl [.ptr (relC n A)] 1 .non] = some (.ptr (relC n (orR R A))) := sp_orP S hn R [A] (by simp) .non
theorem sp_or_2 {n : Nat} (hn : n ≤ 40) (R A B : Rw) : pureS F 220 [.ptr (relC n R), .sl [.ptr (relC n A), .ptr (relC n B)] 2 .non] = some (.ptr (relC n (orR (orR R A) B))) := sp_orP S hn R [A, B] (by simp) .non
theorem sp_or_3 {n : Nat} (hn : n ≤ 40) (R A B C : Rw) : pureS F 220 [.ptr (relC n R), .sl [.ptr (relC n A), .ptr (relC n B), .ptr (relC n C)] 3 .non] = some (.ptr (relC n (orR (orR (orR R A) B) C))) := sp_orP S hn R [A, B, C] (by simp) .non
theorem sp_or_4 {n : Nat} (hn : n ≤ 40) (R A B C D : Rw) : pureS F 220 [.ptr (relC n R), .sl [.ptr (relC n A), .ptr (relC n B), .ptr (relC n C), .ptr (relC n D)] 4 .non] = some (.ptr (relC n (orR (orR (orR (orR R A) B) C) D))) := sp_orP S hn R [A, B, C, D] (by simp) .non
variable {X : Gr} (hX : Few X)
include hX
theorem sp_setF {fid : Nat} {p : Ev → Bool} (hp : ∀ e, pureS F fid [.agg (evC e)] = some (.b (p e))) : pureS F 166 [.agg (grC X), .fn fid [] []] = some (.ptr (relC (nOf X) (setR X p))) :=
  sp_setE S.set S.gof S.pr (by have := hX.1; omega) hp (fun hp => frzL_nil hp _) (fun hp => rfl)
theorem sp_locP : pureS F 41 [.agg (grC X)] = some (.ptr (relC (nOf X) (locR X))) := sp_Loc S.pe S.po S.gof S.pr (by have := hX.1; omega)
theorem sp_rfP : pureS F 48 [.agg (grC X)] = some (.ptr (relC (nOf X) (rfR X))) := sp_Rf S.pe S.gof S.pr hX
omit hX in
theorem sp_ofP (l : List (Int × Int)) (hl : l.length ≤ 1000) (t : Tok) : pureS F 81 [.agg (grC X), .sl (pairsC l) l.length t] = some (.ptr (relC (nOf X) (newR (nOf X) l))) := sp_of S.gof S.pr X l t (by omega)
set_option maxRecDepth 100000 in
theorem sp_ploc : pureS F 221 [.agg (grC X)] = some (.ptr (relC (nOf X) (plocR X))) := by
  refine pure_of S.pp.ppo_ploc ?_
  have hn := nOf_le X
  simp (disch := omega) only [A_ppo_ploc, wp, Nat.reduceAdd, Nat.reduceMul, Nat.reduceSub, gl, sp_setF S hX (sp_isMi S), sp_locP S hX, sp_Inner S.pe S.gof S.pr hn, sp_then S.pr hn hn, Nat.max_self]
  rfl
set_option maxRecDepth 100000 in
theorem sp_by' (out : Rw) : pureS F 170 [.agg (grC X), .ptr (relC (nOf X) out)] = some (.ptr (relC (nOf X) (byR X out))) := by
  refine pure_of S.pp.ppo_by ?_
  have hn := nOf_le X
  simp (disch := omega) only [A_ppo_by, wp, Nat.reduceAdd, Nat.reduceMul, Nat.reduceSub, gl, sp_ploc S hX, sp_rfP S hX, sp_Outer S.pe S.gof S.pr hn, sp_then S.pr hn hn, sp_and S.pr hn hn, Nat.max_self]
  rfl
set_option maxRecDepth 100000 in
theorem sp_rdw : pureS F 145 [.agg (grC X)] = some (.ptr (relC (nOf X) (rdwR X))) := by
  refine pure_of S.pp.ppo_Rdw ?_
  simp (disch := omega) only [A_ppo_Rdw, wp, Nat.reduceAdd, Nat.reduceMul, Nat.reduceSub, gl, sp_by' S hX, sp_Fr S.pe S.gof S.pr hX]
  rfl
set_option maxRecDepth 100000 in
theorem sp_det : pureS F 146 [.agg (grC X)] = some (.ptr (relC (nOf X) (detR X))) := by
  refine pure_of S.pp.ppo_Detour ?_
  simp (disch := omega) only [A_ppo_Detour, wp, Nat.reduceAdd, Nat.reduceMul, Nat.reduceSub, gl, sp_by' S hX, sp_Co S.pe S.gof S.pr hX]
  rfl
omit S hX in
theorem q0_wf (X : Gr) : WfQ (nOf X) (q0Q X) := by
  have hn := nOf_le X
  have wp : Wf (nOf X) (plocR X) := wf_then (wf_new hn _) (wf_new hn _)
  have wb : ∀ out, Wf (nOf X) (byR X out) := fun out => wf_and wp
  exact ⟨wf_or (wf_or (wf_new hn _) (wb _)) (wf_new hn _), wf_new hn _, wf_or (wf_then (wf_new hn _) (wf_new hn _)) (wb _), wf_or (wf_or (wf_new hn _) wp) (wf_then (wf_new hn _) (wf_new hn _))⟩
def tupQ (n : Nat) (q : Q4) : AV := .tup [.ptr (relC n q.ii), .ptr (relC n q.ic), .ptr (relC n q.ci), .ptr (relC n q.cc)]
set_option maxRecDepth 100000 in
set_option maxHeartbeats 8000000 in
theorem sp_parts (hd : X.data.length ≤ 1000) (hc : X.ctrl.length ≤ 1000) (hi : X.ctrli.length ≤ 1000) : pureS F 165 [.agg (grC X)] = some (tupQ (nOf X) (partsQ X)) := by
  refine pure_of S.pp.ppo_Parts ?_
  have hn := nOf_le X
  have d0 : ∀ hp, True := fun (_ : Nat) => trivial
  have dn : pureS F 11 [.i .i64 X.evs.length, .sl [] 0 .non] = some (.ptr (relC (nOf X) (newR (nOf X) []))) := sp_new S.pr X.evs.length [] .non (by simp)
  have r4 : ∀ x : AV, List.replicate 4 x = [x, x, x, x] := fun _ => rfl
  have hw0 := q0_wf X
  have hq0 : q0Q X = ⟨orR (orR (newR (nOf X) X.data) (rdwR X)) (partR inner X (nOf X) (rfR X)), newR (nOf X) [], orR (thenR (nOf X) (newR (nOf X) X.ctrli) (setR X pM)) (detR X), orR (orR (newR (nOf X) X.data) (plocR X)) (thenR (nOf X) (newR (nOf X) X.ctrl) (setR X pM))⟩ := rfl
  have hpq : partsQ X = itQ (nOf X) 6401 (q0Q X) := rfl
  simp (disch := omega) only [A_ppo_Parts, wp, Nat.reduceAdd, Nat.reduceMul, Nat.reduceSub, gl, sp_setF S hX (sp_isM S), sp_ofP S, sp_rdw S hX, sp_det S hX, sp_ploc S hX, sp_rfP S hX, sp_Inner S.pe S.gof S.pr hn, sp_then S.pr hn hn, sp_or_1 S hn, sp_or_2 S hn, dn, Nat.max_self]
  generalize partsQ X = R at hpq
  refine W_loop (fun m e g => ∃ q f, m = 6400 - cntQ (nOf X) q ∧ m < f ∧ R = itQ (nOf X) f q ∧ WfQ (nOf X) q ∧ e 2 = .ptr (relC (nOf X) q.ii) ∧ e 3 = .ptr (relC (nOf X) q.ic) ∧ e 4 = .ptr (relC (nOf X) q.ci) ∧ e 5 = .ptr (relC (nOf X) q.cc)) (6400 - cntQ (nOf X) (q0Q X)) ?_ ?_
  · refine ⟨q0Q X, 6401, rfl, by omega, hpq, hw0, ?_⟩
    rw [hq0]
    simp (disch := omega) only [wp, Nat.reduceAdd, Nat.reduceMul, Nat.reduceSub]
  · rintro m e g ⟨q, f, rfl, hf, hR, w, e2, e3, e4, e5⟩
    have hcl := cntQ_le hn (stepQ (nOf X) q)
    have hlt := cntQ_lt hn (stepQ_wf w) stepQ_ge
    obtain ⟨f', rfl⟩ : ∃ f', f = f' + 1 := ⟨f - 1, by omega⟩
    have hst : stepQ (nOf X) q = ⟨orR (orR (orR q.ii q.ci) (thenR (nOf X) q.ic q.ci)) (thenR (nOf X) q.ii q.ii), orR (orR (orR (orR q.ic q.ii) q.cc) (thenR (nOf X) q.ic q.cc)) (thenR (nOf X) q.ii q.ic), orR (orR q.ci (thenR (nOf X) q.ci q.ii)) (thenR (nOf X) q.cc q.ci), orR (orR (orR q.cc q.ci) (thenR (nOf X) q.ci q.ic)) (thenR (nOf X) q.cc q.cc)⟩ := rfl
    have hsb : subQ (stepQ (nOf X) q) q = (noneR (lessR (stepQ (nOf X) q).ii q.ii) && (noneR (lessR (stepQ (nOf X) q).ic q.ic) && (noneR (lessR (stepQ (nOf X) q).ci q.ci) && noneR (lessR (stepQ (nOf X) q).cc q.cc)))) := rfl
    have go : subQ (stepQ (nOf X) q) q = false → ∃ m', m' < 6400 - cntQ (nOf X) q ∧ m' = 6400 - cntQ (nOf X) (stepQ (nOf X) q) ∧ m' < f' ∧ R = itQ (nOf X) f' (stepQ (nOf X) q) := by
      intro hs
      have := hlt hs
      refine ⟨_, by omega, rfl, by omega, ?_⟩
      rw [hR, itQ, hs, if_neg (by simp)]
    have ws := stepQ_wf w
    generalize hA : (stepQ (nOf X) q).ii = A at hsb
    generalize hB : (stepQ (nOf X) q).ic = B at hsb
    generalize hC : (stepQ (nOf X) q).ci = C at hsb
    generalize hD : (stepQ (nOf X) q).cc = D at hsb
    rw [hst] at hA hB hC hD
    simp only at hA hB hC hD
    have fin : subQ (stepQ (nOf X) q) q = false → ∃ m', m' < 6400 - cntQ (nOf X) q ∧ ∃ q' f, m' = 6400 - cntQ (nOf X) q' ∧ m' < f ∧ R = itQ (nOf X) f q' ∧ WfQ (nOf X) q' ∧ AV.ptr (relC (nOf X) A) = .ptr (relC (nOf X) q'.ii) ∧ AV.ptr (relC (nOf X) B) = .ptr (relC (nOf X) q'.ic) ∧ AV.ptr (relC (nOf X) C) = .ptr (relC (nOf X) q'.ci) ∧ AV.ptr (relC (nOf X) D) = .ptr (relC (nOf X) q'.cc) := by
      intro hs
      obtain ⟨m', h1, h2, h3, h4⟩ := go hs
      exact ⟨m', h1, stepQ (nOf X) q, f', h2, h3, h4, ws, by rw [← hA]; rfl, by rw [← hB]; rfl, by rw [← hC]; rfl, by rw [← hD]; rfl⟩
    cases c1 : noneR (lessR A q.ii)
    case false =>
      simp (disch := omega) only [wp, Nat.reduceAdd, Nat.reduceMul, Nat.reduceSub, gl, e2, e3, e4, e5, r4, sp_then S.pr hn hn, sp_or_3 S hn, sp_or_4 S hn, sp_or_2 S hn, sp_in S.ls S.pr hn hn, Nat.max_self, hA, hB, hC, hD, c1]
      exact fin (by rw [hsb, c1]; rfl)
    cases c2 : noneR (lessR B q.ic)
    case false =>
      simp (disch := omega) only [wp, Nat.reduceAdd, Nat.reduceMul, Nat.reduceSub, gl, e2, e3, e4, e5, r4, sp_then S.pr hn hn, sp_or_3 S hn, sp_or_4 S hn, sp_or_2 S hn, sp_in S.ls S.pr hn hn, Nat.max_self, hA, hB, hC, hD, c1, c2]
      exact fin (by rw [hsb, c1, c2]; rfl)
    cases c3 : noneR (lessR C q.ci)
    case false =>
      simp (disch := omega) only [wp, Nat.reduceAdd, Nat.reduceMul, Nat.reduceSub, gl, e2, e3, e4, e5, r4, sp_then S.pr hn hn, sp_or_3 S hn, sp_or_4 S hn, sp_or_2 S hn, sp_in S.ls S.pr hn hn, Nat.max_self, hA, hB, hC, hD, c1, c2, c3]
      exact fin (by rw [hsb, c1, c2, c3]; rfl)
    cases c4 : noneR (lessR D q.cc)
    case false =>
      simp (disch := omega) only [wp, Nat.reduceAdd, Nat.reduceMul, Nat.reduceSub, gl, e2, e3, e4, e5, r4, sp_then S.pr hn hn, sp_or_3 S hn, sp_or_4 S hn, sp_or_2 S hn, sp_in S.ls S.pr hn hn, Nat.max_self, hA, hB, hC, hD, c1, c2, c3, c4]
      exact fin (by rw [hsb, c1, c2, c3, c4]; rfl)
    have hRq : R = q := by rw [hR, itQ, hsb, c1, c2, c3, c4]; rfl
    subst hRq
    simp (disch := omega) only [wp, Nat.reduceAdd, Nat.reduceMul, Nat.reduceSub, gl, e2, e3, e4, e5, r4, sp_then S.pr hn hn, sp_or_3 S hn, sp_or_4 S hn, sp_or_2 S hn, sp_in S.ls S.pr hn hn, Nat.max_self, hA, hB, hC, hD, c1, c2, c3, c4, res_4, frz_tup4]
    rfl
set_option maxRecDepth 100000 in
theorem sp_ppo (hd : X.data.length ≤ 1000) (hc : X.ctrl.length ≤ 1000) (hi : X.ctrli.length ≤ 1000) : pureS F 143 [.agg (grC X)] = some (.ptr (relC (nOf X) (ppoR X))) := by
  refine pure_of S.pp.ppo_Ppo ?_
  have hn := nOf_le X
  have hp := sp_parts S hX hd hc hi
  unfold tupQ at hp
  have x1 : ∀ (a b c d : AV) g, vExt 1 (.tup [a, b, c, d]) g = some (b, g) := fun _ _ _ _ _ => rfl
  have x0 : ∀ (a b c d : AV) g, vExt 0 (.tup [a, b, c, d]) g = some (a, g) := fun _ _ _ _ _ => rfl
  have x2 : ∀ (a b c d : AV) g, vExt 2 (.tup [a, b, c, d]) g = some (c, g) := fun _ _ _ _ _ => rfl
  have x3 : ∀ (a b c d : AV) g, vExt 3 (.tup [a, b, c, d]) g = some (d, g) := fun _ _ _ _ _ => rfl
  simp (disch := omega) only [A_ppo_Ppo, o_ext, x0, x1, x2, x3, wp, Nat.reduceAdd, Nat.reduceMul, Nat.reduceSub, gl, hp, sp_setF S hX (sp_isR S), sp_setF S hX (sp_isW S), sp_then S.pr hn hn, sp_or S.pr hn hn, Nat.max_self]
  rfl
end
end Go.Ab
end
section
/- Resolved functions of package xref19, written by a program (res.py). -/
namespace Go.Ab
def A_xref19_Parts : AFun := { res := [.cell 2 (some 4)], body := (.seq (.reg false [{ dst := some 1, op := .box (.t 0) },
  { dst := some 2, op := .new (List.replicate 4 (.nilp)) }])
 (.seq (.reg false [{ dst := some 12, op := .ld (some 8) (.t 1) },
  { dst := some 13, op := .call .pure (.c (.fn 222 [] [])) [.t 12] },
  { dst := some 3, op := .mv (.t 13) }])
 (.seq (.reg false [{ dst := some 14, op := .ld (some 8) (.t 1) },
  { dst := some 15, op := .fa 5 (.t 1) },
  { dst := some 16, op := .ld none (.t 15) },
  { dst := some 17, op := .call .pure (.c (.fn 223 [] [])) [.t 14, .t 16] },
  { dst := some 4, op := .mv (.t 17) }])
 (.seq (.reg true [{ dst := some 18, op := .ld (some 8) (.t 1), pre := [] },
  { dst := some 19, op := .fa 6 (.t 1) },
  { dst := some 20, op := .ld none (.t 19), pre := [] },
  { dst := some 21, op := .call .pure (.c (.fn 223 [] [])) [.t 18, .t 20], pre := [] },
  { dst := some 22, op := .mv (.t 3) },
  { dst := some 23, op := .call .pure (.c (.fn 32 [] [])) [.t 21, .t 22], pre := [] },
  { dst := some 24, op := .ld (some 8) (.t 1), pre := [] },
  { dst := some 25, op := .fa 7 (.t 1) },
  { dst := some 26, op := .ld none (.t 25), pre := [] },
  { dst := some 27, op := .call .pure (.c (.fn 223 [] [])) [.t 24, .t 26], pre := [] },
  { dst := some 28, op := .mv (.t 3) },
  { dst := some 29, op := .call .pure (.c (.fn 32 [] [])) [.t 27, .t 28], pre := [] },
  { dst := some 5, op := .mv (.t 23) },
  { dst := some 6, op := .mv (.t 29) }])
 (.seq (.reg true [{ dst := some 30, op := .ld (some 8) (.t 1), pre := [] },
  { dst := some 31, op := .ld (some 8) (.t 1), pre := [] },
  { dst := some 32, op := .call .pure (.c (.fn 69 [] [])) [.t 31], pre := [] },
  { dst := some 33, op := .call .pure (.c (.fn 74 [] [])) [.t 30, .t 32], pre := [] },
  { dst := some 7, op := .mv (.t 33) }])
 (.seq (.reg false [{ dst := some 34, op := .fa 1 (.t 1) },
  { dst := some 35, op := .ld none (.t 34) },
  { dst := some 36, op := .len (.t 35) },
  { dst := some 37, op := .call .pure (.c (.fn 27 [] [])) [.t 36, .c (.sl [] 0 .rig)] },
  { dst := some 8, op := .mv (.t 37) }])
 (.seq (.reg true [{ dst := some 38, op := .mv (.t 4) },
  { dst := some 39, op := .ld (some 8) (.t 1), pre := [] },
  { dst := some 40, op := .call .pure (.c (.fn 174 [] [])) [.t 39], pre := [] },
  { dst := some 41, op := .call .pure (.c (.fn 29 [] [])) [.t 38, .t 40], pre := [] },
  { dst := some 42, op := .mv (.t 7) },
  { dst := some 43, op := .call .pure (.c (.fn 29 [] [])) [.t 41, .t 42], pre := [] },
  { dst := some 44, op := .mv (.t 8) },
  { dst := some 45, op := .mv (.t 6) },
  { dst := some 46, op := .ld (some 8) (.t 1), pre := [] },
  { dst := some 47, op := .call .pure (.c (.fn 175 [] [])) [.t 46], pre := [] },
  { dst := some 48, op := .call .pure (.c (.fn 29 [] [])) [.t 45, .t 47], pre := [] },
  { dst := some 49, op := .mv (.t 4) },
  { dst := some 50, op := .ld (some 8) (.t 1), pre := [] },
  { dst := some 51, op := .call .pure (.c (.fn 224 [] [])) [.t 50], pre := [] },
  { dst := some 52, op := .call .pure (.c (.fn 29 [] [])) [.t 49, .t 51], pre := [] },
  { dst := some 53, op := .mv (.t 5) },
  { dst := some 54, op := .call .pure (.c (.fn 29 [] [])) [.t 52, .t 53], pre := [] },
  { dst := some 55, op := .build (List.replicate 4 (.nilp)) [(0, 1, .t 43), (1, 1, .t 44), (2, 1, .t 48), (3, 1, .t 54)] },
  { dst := some 9, op := .new (List.replicate 4 (.nilp)) },
  { dst := none, op := .stL 4 (.t 9) (.t 55), pre := [18] }])
 (.seq (.reg false [{ dst := some 56, op := .ld (some 4) (.t 9) },
  { dst := some 10, op := .new (List.replicate 4 (.nilp)) },
  { dst := none, op := .st 4 (.t 10) (.t 56) }])
 (.blk 0 (.loop (.blk 1 (.seq (.reg true [{ dst := some 57, op := .fa 0 (.t 9) },
  { dst := some 58, op := .ld none (.t 57), pre := [] },
  { dst := some 59, op := .fa 2 (.t 10) },
  { dst := some 60, op := .ld none (.t 59), pre := [] },
  { dst := some 61, op := .call .pure (.c (.fn 29 [] [])) [.t 58, .t 60], pre := [] },
  { dst := some 62, op := .fa 1 (.t 10) },
  { dst := some 63, op := .ld none (.t 62), pre := [] },
  { dst := some 64, op := .fa 2 (.t 10) },
  { dst := some 65, op := .ld none (.t 64), pre := [] },
  { dst := some 66, op := .call .pure (.c (.fn 32 [] [])) [.t 63, .t 65], pre := [] },
  { dst := some 67, op := .call .pure (.c (.fn 29 [] [])) [.t 61, .t 66], pre := [] },
  { dst := some 68, op := .fa 0 (.t 10) },
  { dst := some 69, op := .ld none (.t 68), pre := [] },
  { dst := some 70, op := .fa 0 (.t 10) },
  { dst := some 71, op := .ld none (.t 70), pre := [] },
  { dst := some 72, op := .call .pure (.c (.fn 32 [] [])) [.t 69, .t 71], pre := [] },
  { dst := some 73, op := .call .pure (.c (.fn 29 [] [])) [.t 67, .t 72], pre := [] },
  { dst := some 74, op := .fa 0 (.t 10) },
  { dst := some 75, op := .ld none (.t 74), pre := [] },
  { dst := some 76, op := .fa 3 (.t 10) },
  { dst := some 77, op := .ld none (.t 76), pre := [] },
  { dst := some 78, op := .call .pure (.c (.fn 29 [] [])) [.t 75, .t 77], pre := [] },
  { dst := some 79, op := .fa 1 (.t 10) },
  { dst := some 80, op := .ld none (.t 79), pre := [] },
  { dst := some 81, op := .fa 3 (.t 10) },
  { dst := some 82, op := .ld none (.t 81), pre := [] },
  { dst := some 83, op := .call .pure (.c (.fn 32 [] [])) [.t 80, .t 82], pre := [] },
  { dst := some 84, op := .call .pure (.c (.fn 29 [] [])) [.t 78, .t 83], pre := [] },
  { dst := some 85, op := .fa 0 (.t 10) },
  { dst := some 86, op := .ld none (.t 85), pre := [] },
  { dst := some 87, op := .fa 1 (.t 10) },
  { dst := some 88, op := .ld none (.t 87), pre := [] },
  { dst := some 89, op := .call .pure (.c (.fn 32 [] [])) [.t 86, .t 88], pre := [] },
  { dst := some 90, op := .call .pure (.c (.fn 29 [] [])) [.t 84, .t 89], pre := [] },
  { dst := some 91, op := .fa 2 (.t 9) },
  { dst := some 92, op := .ld none (.t 91), pre := [] },
  { dst := some 93, op := .fa 2 (.t 10) },
  { dst := some 94, op := .ld none (.t 93), pre := [] },
  { dst := some 95, op := .fa 0 (.t 10) },
  { dst := some 96, op := .ld none (.t 95), pre := [] },
  { dst := some 97, op := .call .pure (.c (.fn 32 [] [])) [.t 94, .t 96], pre := [] },
  { dst := some 98, op := .call .pure (.c (.fn 29 [] [])) [.t 92, .t 97], pre := [] },
  { dst := some 99, op := .fa 3 (.t 10) },
  { dst := some 100, op := .ld none (.t 99), pre := [] },
  { dst := some 101, op := .fa 2 (.t 10) },
  { dst := some 102, op := .ld none (.t 101), pre := [] },
  { dst := some 103, op := .call .pure (.c (.fn 32 [] [])) [.t 100, .t 102], pre := [] },
  { dst := some 104, op := .call .pure (.c (.fn 29 [] [])) [.t 98, .t 103], pre := [] },
  { dst := some 105, op := .fa 3 (.t 9) },
  { dst := some 106, op := .ld none (.t 105), pre := [] },
  { dst := some 107, op := .fa 2 (.t 10) },
  { dst := some 108, op := .ld none (.t 107), pre := [] },
  { dst := some 109, op := .call .pure (.c (.fn 29 [] [])) [.t 106, .t 108], pre := [] },
  { dst := some 110, op := .fa 2 (.t 10) },
  { dst := some 111, op := .ld none (.t 110), pre := [] },
  { dst := some 112, op := .fa 1 (.t 10) },
  { dst := some 113, op := .ld none (.t 112), pre := [] },
  { dst := some 114, op := .call .pure (.c (.fn 32 [] [])) [.t 111, .t 113], pre := [] },
  { dst := some 115, op := .call .pure (.c (.fn 29 [] [])) [.t 109, .t 114], pre := [] },
  { dst := some 116, op := .fa 3 (.t 10) },
  { dst := some 117, op := .ld none (.t 116), pre := [] },
  { dst := some 118, op := .fa 3 (.t 10) },
  { dst := some 119, op := .ld none (.t 118), pre := [] },
  { dst := some 120, op := .call .pure (.c (.fn 32 [] [])) [.t 117, .t 119], pre := [] },
  { dst := some 121, op := .call .pure (.c (.fn 29 [] [])) [.t 115, .t 120], pre := [] },
  { dst := some 122, op := .build (List.replicate 4 (.nilp)) [(0, 1, .t 73), (1, 1, .t 90), (2, 1, .t 104), (3, 1, .t 121)] },
  { dst := some 11, op := .new (List.replicate 4 (.nilp)) },
  { dst := none, op := .stL 4 (.t 11) (.t 122), pre := [66] }])
 (.seq (.reg true [{ dst := some 123, op := .fa 0 (.t 11) },
  { dst := some 124, op := .ld none (.t 123), pre := [] },
  { dst := some 125, op := .fa 0 (.t 10) },
  { dst := some 126, op := .ld none (.t 125), pre := [] },
  { dst := some 127, op := .call .pure (.c (.fn 29 [] [])) [.t 124, .t 126], pre := [] },
  { dst := some 128, op := .fa 1 (.t 11) },
  { dst := some 129, op := .ld none (.t 128), pre := [] },
  { dst := some 130, op := .fa 1 (.t 10) },
  { dst := some 131, op := .ld none (.t 130), pre := [] },
  { dst := some 132, op := .call .pure (.c (.fn 29 [] [])) [.t 129, .t 131], pre := [] },
  { dst := some 133, op := .fa 2 (.t 11) },
  { dst := some 134, op := .ld none (.t 133), pre := [] },
  { dst := some 135, op := .fa 2 (.t 10) },
  { dst := some 136, op := .ld none (.t 135), pre := [] },
  { dst := some 137, op := .call .pure (.c (.fn 29 [] [])) [.t 134, .t 136], pre := [] },
  { dst := some 138, op := .fa 3 (.t 11) },
  { dst := some 139, op := .ld none (.t 138), pre := [] },
  { dst := some 140, op := .fa 3 (.t 10) },
  { dst := some 141, op := .ld none (.t 140), pre := [] },
  { dst := some 142, op := .call .pure (.c (.fn 29 [] [])) [.t 139, .t 141], pre := [] },
  { dst := some 143, op := .build (List.replicate 4 (.nilp)) [(0, 1, .t 127), (1, 1, .t 132), (2, 1, .t 137), (3, 1, .t 142)] },
  { dst := none, op := .st 4 (.t 11) (.t 143), pre := [] }])
 (.seq (.seq (.reg false [{ dst := some 144, op := .fa 0 (.t 11) },
  { dst := some 145, op := .ld none (.t 144) },
  { dst := some 146, op := .fa 0 (.t 10) },
  { dst := some 147, op := .ld none (.t 146) },
  { dst := some 148, op := .call .pure (.c (.fn 36 [] [])) [.t 145, .t 147] },
  { dst := some 149, op := .mv (.t 148) },
  { dst := some 150, op := .fa 1 (.t 11), grd := some (149, true) },
  { dst := some 151, op := .ld none (.t 150), grd := some (149, true) },
  { dst := some 152, op := .fa 1 (.t 10), grd := some (149, true) },
  { dst := some 153, op := .ld none (.t 152), grd := some (149, true) },
  { dst := some 154, op := .call .pure (.c (.fn 36 [] [])) [.t 151, .t 153], grd := some (149, true) },
  { dst := some 155, op := .pick (.t 149) (.t 154) (.c (.b false)) },
  { dst := some 156, op := .mv (.t 155) },
  { dst := some 157, op := .fa 2 (.t 11), grd := some (156, true) },
  { dst := some 158, op := .ld none (.t 157), grd := some (156, true) },
  { dst := some 159, op := .fa 2 (.t 10), grd := some (156, true) },
  { dst := some 160, op := .ld none (.t 159), grd := some (156, true) },
  { dst := some 161, op := .call .pure (.c (.fn 36 [] [])) [.t 158, .t 160], grd := some (156, true) },
  { dst := some 162, op := .pick (.t 156) (.t 161) (.c (.b false)) },
  { dst := some 163, op := .mv (.t 162) },
  { dst := some 164, op := .fa 3 (.t 11), grd := some (163, true) },
  { dst := some 165, op := .ld none (.t 164), grd := some (163, true) },
  { dst := some 166, op := .fa 3 (.t 10), grd := some (163, true) },
  { dst := some 167, op := .ld none (.t 166), grd := some (163, true) },
  { dst := some 168, op := .call .pure (.c (.fn 36 [] [])) [.t 165, .t 167], grd := some (163, true) },
  { dst := some 169, op := .pick (.t 163) (.t 168) (.c (.b false)) }])
 (.cond (.t 169) (.seq (.reg false [{ dst := some 170, op := .ld (some 4) (.t 11) },
  { dst := none, op := .st 4 (.t 2) (.t 170) }])
 .ret)
 .skip))
 (.reg false [{ dst := some 171, op := .ld (some 4) (.t 11) },
  { dst := none, op := .st 4 (.t 10) (.t 171) }]))))))))))))))) }
def A_xref19_Ppo : AFun := { res := [.t 2], body := (.seq (.reg false [{ dst := some 1, op := .box (.t 0) },
  { dst := some 2, op := .mv (.c (.nilp)) }])
 (.seq (.reg false [{ dst := some 6, op := .ld (some 8) (.t 1) },
  { dst := some 7, op := .call .pure (.c (.fn 171 [] [])) [.t 6] },
  { dst := some 3, op := .new (List.replicate 4 (.nilp)) },
  { dst := none, op := .st 4 (.t 3) (.t 7) }])
 (.seq (.reg true [{ dst := some 8, op := .ld (some 8) (.t 1), pre := [] },
  { dst := some 9, op := .call .pure (.c (.fn 225 [] [])) [.t 8, .c (.i .i64 1), .c (.i .i64 0), .c (.i .i64 4)], pre := [] },
  { dst := some 10, op := .ld (some 8) (.t 1), pre := [] },
  { dst := some 11, op := .call .pure (.c (.fn 225 [] [])) [.t 10, .c (.i .i64 2), .c (.i .i64 0), .c (.i .i64 4)], pre := [] },
  { dst := some 4, op := .mv (.t 9) },
  { dst := some 5, op := .mv (.t 11) }])
 (.seq (.reg true [{ dst := some 12, op := .mv (.t 4) },
  { dst := some 13, op := .fa 0 (.t 3) },
  { dst := some 14, op := .ld none (.t 13), pre := [] },
  { dst := some 15, op := .call .pure (.c (.fn 32 [] [])) [.t 12, .t 14], pre := [] },
  { dst := some 16, op := .mv (.t 4) },
  { dst := some 17, op := .call .pure (.c (.fn 32 [] [])) [.t 15, .t 16], pre := [] },
  { dst := some 18, op := .mv (.t 4) },
  { dst := some 19, op := .fa 1 (.t 3) },
  { dst := some 20, op := .ld none (.t 19), pre := [] },
  { dst := some 21, op := .call .pure (.c (.fn 32 [] [])) [.t 18, .t 20], pre := [] },
  { dst := some 22, op := .mv (.t 5) },
  { dst := some 23, op := .call .pure (.c (.fn 32 [] [])) [.t 21, .t 22], pre := [] },
  { dst := some 24, op := .call .pure (.c (.fn 29 [] [])) [.t 17, .t 23], pre := [] },
  { dst := some 2, op := .mv (.t 24) }])
 .ret)))) }
def A_xref19_Rdw : AFun := { res := [.t 2], body := (.seq (.reg false [{ dst := some 1, op := .box (.t 0) },
  { dst := some 2, op := .mv (.c (.nilp)) }])
 (.seq (.reg true [{ dst := some 3, op := .ld (some 8) (.t 1), pre := [] },
  { dst := some 4, op := .call .pure (.c (.fn 224 [] [])) [.t 3], pre := [] },
  { dst := some 5, op := .ld (some 8) (.t 1), pre := [] },
  { dst := some 6, op := .call .pure (.c (.fn 226 [] [])) [.t 5], pre := [] },
  { dst := some 7, op := .ld (some 8) (.t 1), pre := [] },
  { dst := some 8, op := .call .pure (.c (.fn 227 [] [])) [.t 7], pre := [] },
  { dst := some 9, op := .call .pure (.c (.fn 32 [] [])) [.t 6, .t 8], pre := [] },
  { dst := some 10, op := .call .pure (.c (.fn 30 [] [])) [.t 4, .t 9], pre := [] },
  { dst := some 2, op := .mv (.t 10) }])
 .ret)) }
def A_xref19_Detour : AFun := { res := [.t 2], body := (.seq (.reg false [{ dst := some 1, op := .box (.t 0) },
  { dst := some 2, op := .mv (.c (.nilp)) }])
 (.seq (.reg true [{ dst := some 3, op := .ld (some 8) (.t 1), pre := [] },
  { dst := some 4, op := .call .pure (.c (.fn 224 [] [])) [.t 3], pre := [] },
  { dst := some 5, op := .ld (some 8) (.t 1), pre := [] },
  { dst := some 6, op := .call .pure (.c (.fn 228 [] [])) [.t 5], pre := [] },
  { dst := some 7, op := .ld (some 8) (.t 1), pre := [] },
  { dst := some 8, op := .call .pure (.c (.fn 227 [] [])) [.t 7], pre := [] },
  { dst := some 9, op := .call .pure (.c (.fn 32 [] [])) [.t 6, .t 8], pre := [] },
  { dst := some 10, op := .call .pure (.c (.fn 30 [] [])) [.t 4, .t 9], pre := [] },
  { dst := some 2, op := .mv (.t 10) }])
 .ret)) }
def A_xref19_M : AFun := { res := [.t 2], body := (.seq (.reg false [{ dst := some 1, op := .box (.t 0) },
  { dst := some 2, op := .mv (.c (.nilp)) }])
 (.seq (.reg true [{ dst := some 3, op := .ld (some 8) (.t 1), pre := [] },
  { dst := some 4, op := .call .pure (.c (.fn 225 [] [])) [.t 3, .c (.i .i64 1), .c (.i .i64 0), .c (.i .i64 4)], pre := [] },
  { dst := some 5, op := .ld (some 8) (.t 1), pre := [] },
  { dst := some 6, op := .call .pure (.c (.fn 225 [] [])) [.t 5, .c (.i .i64 2), .c (.i .i64 0), .c (.i .i64 4)], pre := [] },
  { dst := some 7, op := .call .pure (.c (.fn 29 [] [])) [.t 4, .t 6], pre := [] },
  { dst := some 2, op := .mv (.t 7) }])
 .ret)) }
def A_xref19_Ploc : AFun := { res := [.t 2], body := (.seq (.reg false [{ dst := some 1, op := .box (.t 0) },
  { dst := some 2, op := .mv (.c (.nilp)) }])
 (.seq (.reg true [{ dst := some 3, op := .ld (some 8) (.t 1), pre := [] },
  { dst := some 4, op := .ld (some 8) (.t 1), pre := [] },
  { dst := some 5, op := .call .pure (.c (.fn 73 [] [])) [.t 4], pre := [] },
  { dst := some 6, op := .call .pure (.c (.fn 247 [] [])) [.t 3, .t 5], pre := [] },
  { dst := some 2, op := .mv (.t 6) }])
 .ret)) }
def A_xref19_fre : AFun := { res := [.t 2], body := (.seq (.reg false [{ dst := some 1, op := .box (.t 0) },
  { dst := some 2, op := .mv (.c (.nilp)) }])
 (.seq (.reg true [{ dst := some 3, op := .ld (some 8) (.t 1), pre := [] },
  { dst := some 4, op := .ld (some 8) (.t 1), pre := [] },
  { dst := some 5, op := .call .pure (.c (.fn 71 [] [])) [.t 4], pre := [] },
  { dst := some 6, op := .call .pure (.c (.fn 75 [] [])) [.t 3, .t 5], pre := [] },
  { dst := some 2, op := .mv (.t 6) }])
 .ret)) }
def A_xref19_rfe : AFun := { res := [.t 2], body := (.seq (.reg false [{ dst := some 1, op := .box (.t 0) },
  { dst := some 2, op := .mv (.c (.nilp)) }])
 (.seq (.reg true [{ dst := some 3, op := .ld (some 8) (.t 1), pre := [] },
  { dst := some 4, op := .ld (some 8) (.t 1), pre := [] },
  { dst := some 5, op := .call .pure (.c (.fn 69 [] [])) [.t 4], pre := [] },
  { dst := some 6, op := .call .pure (.c (.fn 75 [] [])) [.t 3, .t 5], pre := [] },
  { dst := some 2, op := .mv (.t 6) }])
 .ret)) }
def A_xref19_coe : AFun := { res := [.t 2], body := (.seq (.reg false [{ dst := some 1, op := .box (.t 0) },
  { dst := some 2, op := .mv (.c (.nilp)) }])
 (.seq (.reg true [{ dst := some 3, op := .ld (some 8) (.t 1), pre := [] },
  { dst := some 4, op := .ld (some 8) (.t 1), pre := [] },
  { dst := some 5, op := .call .pure (.c (.fn 70 [] [])) [.t 4], pre := [] },
  { dst := some 6, op := .call .pure (.c (.fn 75 [] [])) [.t 3, .t 5], pre := [] },
  { dst := some 2, op := .mv (.t 6) }])
 .ret)) }
def A_xref19_Mine : AFun := { res := [.t 4], body := (.seq (.reg false [{ dst := some 2, op := .box (.t 0) },
  { dst := some 4, op := .mv (.c (.nilp)) }])
 (.seq (.reg false [{ dst := some 8, op := .mv (.t 1) },
  { dst := some 9, op := .nilck (.t 8) },
  { dst := some 10, op := .fa 0 (.t 9) },
  { dst := some 11, op := .ld none (.t 10) },
  { dst := some 12, op := .call .thaw (.c (.fn 27 [] [])) [.t 11, .c (.sl [] 0 .rig)] },
  { dst := some 5, op := .mv (.t 12) }])
 (.seq (.seq (.reg false [{ dst := some 6, op := .mv (.c (.i .i64 0)) }])
 (.blk 0 (.loop (.seq (.seq (.reg false [{ dst := some 13, op := .mv (.t 6) },
  { dst := some 14, op := .mv (.t 1) },
  { dst := some 15, op := .nilck (.t 14) },
  { dst := some 16, op := .fa 0 (.t 15) },
  { dst := some 17, op := .ld none (.t 16) },
  { dst := some 18, op := .bin .lss (.t 13) (.t 17) }])
 (.cond (.t 18) .skip
 (.ext 0)))
 (.seq (.blk 1 (.seq (.reg false [{ dst := some 7, op := .mv (.c (.i .i64 0)) }])
 (.blk 2 (.loop (.seq (.seq (.reg false [{ dst := some 21, op := .mv (.t 7) },
  { dst := some 22, op := .mv (.t 1) },
  { dst := some 23, op := .nilck (.t 22) },
  { dst := some 24, op := .fa 0 (.t 23) },
  { dst := some 25, op := .ld none (.t 24) },
  { dst := some 26, op := .bin .lss (.t 21) (.t 25) }])
 (.cond (.t 26) .skip
 (.ext 2)))
 (.seq (.blk 3 (.reg true [{ dst := some 29, op := .mv (.t 5) },
  { dst := some 30, op := .mv (.t 6) },
  { dst := some 31, op := .mv (.t 7) },
  { dst := some 32, op := .mv (.t 1) },
  { dst := some 33, op := .mv (.t 6) },
  { dst := some 34, op := .mv (.t 7) },
  { dst := some 35, op := .nilck (.t 32) },
  { dst := some 36, op := .fa 1 (.t 35) },
  { dst := some 37, op := .iaa 40 40 (.t 36) (.t 33) },
  { dst := some 38, op := .iaa 40 1 (.t 37) (.t 34) },
  { dst := some 39, op := .ld none (.t 38), pre := [] },
  { dst := some 40, op := .mv (.t 39) },
  { dst := some 41, op := .fa 1 (.t 2), grd := some (40, true) },
  { dst := some 42, op := .ld none (.t 41), grd := some (40, true), pre := [] },
  { dst := some 43, op := .mv (.t 6), grd := some (40, true) },
  { dst := some 44, op := .ia 6 (.t 42) (.t 43), grd := some (40, true) },
  { dst := some 45, op := .fa 0 (.t 44), grd := some (40, true) },
  { dst := some 46, op := .ld none (.t 45), grd := some (40, true), pre := [] },
  { dst := some 47, op := .bin .gtr (.t 46) (.c (.i .i64 0)), grd := some (40, true) },
  { dst := some 48, op := .pick (.t 40) (.t 47) (.c (.b false)) },
  { dst := some 49, op := .mv (.t 48) },
  { dst := some 50, op := .fa 1 (.t 2), grd := some (49, true) },
  { dst := some 51, op := .ld none (.t 50), grd := some (49, true), pre := [] },
  { dst := some 52, op := .mv (.t 6), grd := some (49, true) },
  { dst := some 53, op := .ia 6 (.t 51) (.t 52), grd := some (49, true) },
  { dst := some 54, op := .fa 0 (.t 53), grd := some (49, true) },
  { dst := some 55, op := .ld none (.t 54), grd := some (49, true), pre := [] },
  { dst := some 56, op := .fa 1 (.t 2), grd := some (49, true) },
  { dst := some 57, op := .ld none (.t 56), grd := some (49, true), pre := [] },
  { dst := some 58, op := .mv (.t 7), grd := some (49, true) },
  { dst := some 59, op := .ia 6 (.t 57) (.t 58), grd := some (49, true) },
  { dst := some 60, op := .fa 0 (.t 59), grd := some (49, true) },
  { dst := some 61, op := .ld none (.t 60), grd := some (49, true), pre := [] },
  { dst := some 62, op := .bin .eql (.t 55) (.t 61), grd := some (49, true) },
  { dst := some 63, op := .pick (.t 49) (.t 62) (.c (.b false)) },
  { dst := some 64, op := .nilck (.t 29) },
  { dst := some 65, op := .fa 1 (.t 64) },
  { dst := some 66, op := .iaa 40 40 (.t 65) (.t 30) },
  { dst := some 67, op := .iaa 40 1 (.t 66) (.t 31) },
  { dst := none, op := .st 1 (.t 67) (.t 63), pre := [] }]))
 (.reg false [{ dst := some 27, op := .mv (.t 7) },
  { dst := some 28, op := .bin .add (.t 27) (.c (.i .i64 1)) },
  { dst := some 7, op := .mv (.t 28) }])))))))
 (.reg false [{ dst := some 19, op := .mv (.t 6) },
  { dst := some 20, op := .bin .add (.t 19) (.c (.i .i64 1)) },
  { dst := some 6, op := .mv (.t 20) }]))))))
 (.seq (.reg false [{ dst := some 68, op := .mv (.t 5) },
  { dst := some 4, op := .mv (.t 68) }])
 .ret)))) }
structure Pk_xref19 (F : Funs) : Prop where
  xref19_Parts : F 171 = some A_xref19_Parts
  xref19_Ppo : F 173 = some A_xref19_Ppo
  xref19_Rdw : F 174 = some A_xref19_Rdw
  xref19_Detour : F 175 = some A_xref19_Detour
  xref19_M : F 222 = some A_xref19_M
  xref19_Ploc : F 224 = some A_xref19_Ploc
  xref19_fre : F 226 = some A_xref19_fre
  xref19_rfe : F 227 = some A_xref19_rfe
  xref19_coe : F 228 = some A_xref19_coe
  xref19_Mine : F 247 = some A_xref19_Mine
end Go.Ab
end
section
/- ref19: the document's preserved order is the program's. -/
set_option linter.unusedVariables false
set_option linter.unusedSimpArgs false
namespace Go.Ab
variable {F : Funs}
def miV (X : Gr) : Mx := fun i j => decide (0 < thI X i) && thI X i == thI X j
set_option maxRecDepth 100000 in
set_option maxHeartbeats 4000000 in
theorem sp_mine (h247 : F 247 = some A_xref19_Mine) (h27 : F 27 = some A_xref01_New) {X : Gr} (hn : X.evs.length ≤ 40) (A : Mx) : pureS F 247 [.agg (grC X), .ptr (matC X.evs.length A)] = some (.ptr (matC X.evs.length (opM (fun x y => x && y) A (miV X) X.evs.length))) := by
  refine pure_of_thaw h247 (matC_flat _ _) ?_
  have fin0 : opM (fun x y => x && y) A (miV X) X.evs.length = stM (fun x y => x && y) A (miV X) X.evs.length X.evs.length 0 := rfl
  simp (disch := omega) only [A_xref19_Mine, wp, Nat.reduceAdd, Nat.reduceMul, Nat.reduceSub, gl, ml, thaw27 h27]
  generalize hB : miV X = B at fin0
  refine W_loop (fun q e g => ∃ a : Nat, q = X.evs.length - a ∧ a ≤ X.evs.length ∧ e 1 = .ptr (matC X.evs.length A) ∧ e 2 = .mp 0 0 ∧ e 5 = .mp 6 0 ∧ e 6 = .i .i64 a ∧ g.hp 0 = some (.cells (grC X) false) ∧ g.hp 6 = some (.cells (matC X.evs.length (stM (fun x y => x && y) A B X.evs.length a 0)) false) ∧ 6 < g.nx) X.evs.length ?_ ?_
  · refine ⟨0, rfl, Nat.zero_le _, ?_⟩
    simp (disch := omega) only [wp, Nat.reduceAdd, Nat.reduceMul, Nat.reduceSub]
    exact ⟨rfl, by rw [stM_0], by first | omega | (dsimp only; omega)⟩
  · rintro q e g ⟨a, rfl, ha, e1, e2, e5, e6, hg, hm, hnx⟩
    by_cases ha' : a < X.evs.length
    · have ha1 : (a : Int) < X.evs.length := by omega
      have hwa := succ_wrap (k := a) (by omega)
      simp (disch := omega) only [wp, Nat.reduceAdd, Nat.reduceMul, Nat.reduceSub, gl, ml, e1, e2, e5, e6, hg, hm, ha1]
      refine W_loop (fun q e g => ∃ b : Nat, q = X.evs.length - b ∧ b ≤ X.evs.length ∧ e 1 = .ptr (matC X.evs.length A) ∧ e 2 = .mp 0 0 ∧ e 5 = .mp 6 0 ∧ e 6 = .i .i64 a ∧ e 7 = .i .i64 b ∧ g.hp 0 = some (.cells (grC X) false) ∧ g.hp 6 = some (.cells (matC X.evs.length (stM (fun x y => x && y) A B X.evs.length a b)) false) ∧ 6 < g.nx) X.evs.length ?_ ?_
      · refine ⟨0, rfl, Nat.zero_le _, ?_⟩
        simp (disch := omega) only [wp, Nat.reduceAdd, Nat.reduceMul, Nat.reduceSub, e1, e2, e5, e6]
        exact ⟨rfl, hg, hm, by first | omega | (dsimp only; omega)⟩
      · rintro q e g ⟨b, rfl, hb, e1, e2, e5, e6, e7, hg, hm, hnx⟩
        by_cases hb' : b < X.evs.length
        · have hb1 : (b : Int) < X.evs.length := by omega
          have hwb := succ_wrap (k := b) (by omega)
          have tA := ev_th_at ha'
          have tB := ev_th_at hb'
          have dA : (List.drop (a * 6) (evsC X.evs)).length = X.evs.length * 6 - a * 6 := by rw [List.length_drop, evsC_len]
          have dB : (List.drop (b * 6) (evsC X.evs)).length = X.evs.length * 6 - b * 6 := by rw [List.length_drop, evsC_len]
          have hv : B a b = (decide (0 < (X.evs.getD a ev0).th) && (X.evs.getD a ev0).th == (X.evs.getD b ev0).th) := by rw [← hB]; rfl
          have hs := stM_succ (fun x y => x && y) A B X.evs.length a b
          have hset := fun x => matC_set (n := X.evs.length) (M := stM (fun x y => x && y) A B X.evs.length a b) (a := a) (b := b) (x := x) (by omega)
          generalize (X.evs.getD a ev0).th = ta at tA hv
          generalize (X.evs.getD b ev0).th = tb at tB hv
          have fin : ∀ x, x = (A a b && B a b) → X.evs.length - (b + 1) < X.evs.length - b ∧ upd2 (stM (fun x y => x && y) A B X.evs.length a b) a b x = stM (fun x y => x && y) A B X.evs.length a (b + 1) := fun x hx => ⟨by omega, by rw [hx]; exact hs⟩
          cases c0 : A a b
          case false =>
            simp (disch := omega) only [wp, Nat.reduceAdd, Nat.reduceMul, Nat.reduceSub, gl, ml, e1, e2, e5, e6, e7, hg, hm, ha1, hb1, tA, tB, dA, dB, c0, hset, hwb]
            obtain ⟨f1, f2⟩ := fin false (by rw [c0]; rfl)
            exact ⟨_, f1, b + 1, rfl, by omega, rfl, by rw [f2], by first | omega | (dsimp only; omega)⟩
          by_cases c1 : 0 < ta
          case neg =>
            simp (disch := omega) only [wp, Nat.reduceAdd, Nat.reduceMul, Nat.reduceSub, gl, ml, e1, e2, e5, e6, e7, hg, hm, ha1, hb1, tA, tB, dA, dB, c0, c1, hset, hwb]
            obtain ⟨f1, f2⟩ := fin false (by rw [c0, hv, decide_eq_false c1]; rfl)
            exact ⟨_, f1, b + 1, rfl, by omega, rfl, by rw [f2], by first | omega | (dsimp only; omega)⟩
          simp (disch := omega) only [wp, Nat.reduceAdd, Nat.reduceMul, Nat.reduceSub, gl, ml, e1, e2, e5, e6, e7, hg, hm, ha1, hb1, tA, tB, dA, dB, c0, c1, hset, hwb]
          obtain ⟨f1, f2⟩ := fin (ta == tb) (by rw [c0, hv, decide_eq_true c1]; simp)
          exact ⟨_, f1, b + 1, rfl, by omega, rfl, by rw [f2], by first | omega | (dsimp only; omega)⟩
        · obtain rfl : b = X.evs.length := by omega
          have hb1 : ¬ ((X.evs.length : Int) < X.evs.length) := by omega
          simp (disch := omega) only [wp, Nat.reduceAdd, Nat.reduceMul, Nat.reduceSub, gl, ml, e1, e2, e5, e6, e7, hg, hm, hb1, hwa]
          exact ⟨X.evs.length - (a + 1), by omega, a + 1, rfl, by omega, rfl, by rw [stM_row], by first | omega | (dsimp only; omega)⟩
    · obtain rfl : a = X.evs.length := by omega
      have ha1 : ¬ ((X.evs.length : Int) < X.evs.length) := by omega
      simp (disch := omega) only [wp, Nat.reduceAdd, Nat.reduceMul, Nat.reduceSub, gl, ml, e1, e2, e5, e6, hg, hm, ha1, fin0]
      exact ⟨_, rfl, hm⟩
theorem RefF.co (S : RefF F) {X : Gr} (hX : FewG X) (h : GraphOk X) : pureS F 70 [.agg (grC X)] = some (.ptr (matC X.evs.length (anyM (coX X X.co.length)))) :=
  sp_mCo S.p9.xref09_Co S.px.xref01_New (X := X) h.n40 (by have := hX.co; omega) (fun j hj => by
    have hm : X.co.getD j [] ∈ X.co := by
      rw [List.getD_eq_getElem?_getD, List.getElem?_eq_getElem hj]; exact List.getElem_mem hj
    have := hX.cos _ hm
    have n40 := h.n40
    exact ⟨by omega, fun i hi => by have := h.cor j hj i hi; omega⟩)
theorem RefF.fr (S : RefF F) {X : Gr} (hX : FewG X) (h : GraphOk X) : pureS F 71 [.agg (grC X)] = some (.ptr (matC X.evs.length (frM X.evs.length (anyM (rfL X X.rf.length)) (anyM (coX X X.co.length))))) :=
  sp_mFr S.p9.xref09_Fr S.px.xref01_New S.px.xref01_R_Then S.px.xref01_R_Back h.n40 (S.rf h) (S.co hX h)
section
variable {X : Gr} (h : GraphOk X)
include h
omit h in
theorem q_kd (k : Int) (e : Ev) (hk : (e.kd = 1 ∧ (e.md = 0 ∨ e.md = 1)) ∨ (e.kd = 2 ∧ (e.md = 0 ∨ e.md = 2)) ∨ (e.kd = 3 ∧ 1 ≤ e.md ∧ e.md ≤ 4)) : (e.kd == k) = kindQ k 0 4 e := by
  unfold kindQ
  rw [Bool.eq_iff_iff]
  simp
  omega
theorem eq_R : EqN X.evs.length (kindK X (kindQ 1 0 4) X.evs.length) (setR X pR) := kq h fun e hk => q_kd 1 e hk
theorem eq_Wk : EqN X.evs.length (kindK X (kindQ 2 0 4) X.evs.length) (setR X pW) := kq h fun e hk => q_kd 2 e hk
theorem eq_M : EqN X.evs.length (opM (fun x y => x || y) (kindK X (kindQ 1 0 4) X.evs.length) (kindK X (kindQ 2 0 4) X.evs.length) X.evs.length) (setR X pM) := by
  have e : EqN X.evs.length (kindK X pM X.evs.length) (setR X pM) := EqN.set h fun i hi => rfl
  refine ⟨e.1, fun a b ha hb' => ?_⟩
  rw [opM_get _ _ _ _ _ _ ha hb', ← e.2 a b ha hb']
  unfold kindK
  have hk := ev_kinds h a ha
  rw [← q_kd 1 _ hk, ← q_kd 2 _ hk]
  unfold pM
  generalize X.evs.getD a ev0 = ev
  cases decide (a = b) <;> cases decide (a < X.evs.length) <;> simp
theorem eq_ploc : EqN X.evs.length (opM (fun x y => x && y) (locM X) (miV X) X.evs.length) (plocR X) := by
  have hl := eq_loc h
  have hi : Wf X.evs.length (partR inner X X.evs.length (locR X)) := wf_part h _ _ _
  have hs : EqN X.evs.length (kindK X pMi X.evs.length) (setR X pMi) := EqN.set h fun i hi => rfl
  have hlR : locR X = partR locP X X.evs.length (poR X) := by unfold locR; rw [h.nOf]
  unfold plocR
  rw [h.nOf]
  refine ⟨wf_then hs.1 hi, fun a b ha hb' => ?_⟩
  rw [opM_get _ _ _ _ _ _ ha hb', hl.2 a b ha hb', Bool.eq_iff_iff, hb_then hs.1, ← hlR]
  have wl : Wf X.evs.length (locR X) := by rw [hlR]; exact hl.1
  have hp := fun x (hx : x < X.evs.length) => partR_get (so := inner) h.nOf wl rfl (a := x) (b := b) hx hb'
  have ta := th_ge h a ha
  constructor
  · intro hh
    rw [Bool.and_eq_true] at hh
    unfold miV thI at hh
    simp only [Bool.and_eq_true, decide_eq_true_eq, beq_iff_eq] at hh
    refine ⟨a, ?_, ?_⟩
    · rw [← hs.2 a a ha ha]
      unfold kindK pMi
      simp only [decide_true, Bool.true_and, decide_eq_true ha, bne_iff_ne, ne_eq]; omega
    · rw [hp a ha, hh.1, Bool.true_and]
      unfold inner
      simp only [beq_iff_eq]; exact hh.2.2
  · rintro ⟨c, h1, h2⟩
    have hc := (hs.1 a c h1).2
    rw [← hs.2 a c ha hc] at h1
    unfold kindK pMi at h1
    simp only [Bool.and_eq_true, decide_eq_true_eq, bne_iff_ne, ne_eq] at h1
    obtain ⟨rfl, _, h3⟩ := h1
    rw [hp a ha, Bool.and_eq_true] at h2
    unfold inner at h2
    rw [Bool.and_eq_true]
    refine ⟨h2.1, ?_⟩
    unfold miV thI
    unfold thI at ta
    simp only [Bool.and_eq_true, decide_eq_true_eq]
    refine ⟨?_, h2.2⟩
    by_cases hl : (a : Int) < X.locs
    · exact absurd (ta.1 hl) h3
    · have := ta.2 hl; omega
end
def rfeM (X : Gr) : Mx := prtM X false (anyM (rfL X X.rf.length))
def freM (X : Gr) : Mx := prtM X false (frM X.evs.length (anyM (rfL X X.rf.length)) (anyM (coX X X.co.length)))
def coeM (X : Gr) : Mx := prtM X false (anyM (coX X X.co.length))
def plM19 (X : Gr) : Mx := opM (fun x y => x && y) (locM X) (miV X) X.evs.length
def mM19 (X : Gr) : Mx := opM (fun x y => x || y) (kindK X (kindQ 1 0 4) X.evs.length) (kindK X (kindQ 2 0 4) X.evs.length) X.evs.length
def rdwM (X : Gr) : Mx := opM (fun x y => x && y) (plM19 X) (thM (freM X) (rfeM X) X.evs.length X.evs.length) X.evs.length
def detM (X : Gr) : Mx := opM (fun x y => x && y) (plM19 X) (thM (coeM X) (rfeM X) X.evs.length X.evs.length) X.evs.length
section
variable {X : Gr} (h : GraphOk X)
include h
theorem eq_rdw : EqN X.evs.length (rdwM X) (rdwR X) := by
  unfold rdwR byR rfR
  rw [h.nOf]
  exact (eq_ploc h).and ((eq_outer h (eq_fr h)).then (eq_outer h (eq_rf h)))
theorem eq_det : EqN X.evs.length (detM X) (detR X) := by
  unfold detR byR rfR
  rw [h.nOf]
  exact (eq_ploc h).and ((eq_outer h (eq_co h)).then (eq_outer h (eq_rf h)))
end
set_option maxRecDepth 100000 in
section
variable (S : RefF F) (p : Pk_xref19 F) {X : Gr} (hX : FewG X) (h : GraphOk X)
include S p hX h
omit hX in
theorem mM19_sp : pureS F 222 [.agg (grC X)] = some (.ptr (matC X.evs.length (mM19 X))) := by
  refine pure_of p.xref19_M ?_
  simp (disch := omega) only [A_xref19_M, wp, Nat.reduceAdd, Nat.reduceMul, Nat.reduceSub, gl, S.k h, S.or h]
  rfl
omit hX in
theorem mPloc : pureS F 224 [.agg (grC X)] = some (.ptr (matC X.evs.length (plM19 X))) := by
  refine pure_of p.xref19_Ploc ?_
  simp (disch := omega) only [A_xref19_Ploc, wp, Nat.reduceAdd, Nat.reduceMul, Nat.reduceSub, gl, S.loc h, sp_mine p.xref19_Mine S.px.xref01_New h.n40]
  rfl
omit hX in
theorem mrfe : pureS F 227 [.agg (grC X)] = some (.ptr (matC X.evs.length (rfeM X))) := by
  refine pure_of p.xref19_rfe ?_
  simp (disch := omega) only [A_xref19_rfe, wp, Nat.reduceAdd, Nat.reduceMul, Nat.reduceSub, gl, S.rf h, S.outer h]
  rfl
theorem mfre : pureS F 226 [.agg (grC X)] = some (.ptr (matC X.evs.length (freM X))) := by
  refine pure_of p.xref19_fre ?_
  simp (disch := omega) only [A_xref19_fre, wp, Nat.reduceAdd, Nat.reduceMul, Nat.reduceSub, gl, S.fr hX h, S.outer h]
  rfl
theorem mcoe : pureS F 228 [.agg (grC X)] = some (.ptr (matC X.evs.length (coeM X))) := by
  refine pure_of p.xref19_coe ?_
  simp (disch := omega) only [A_xref19_coe, wp, Nat.reduceAdd, Nat.reduceMul, Nat.reduceSub, gl, S.co hX h, S.outer h]
  rfl
theorem mRdw : pureS F 174 [.agg (grC X)] = some (.ptr (matC X.evs.length (rdwM X))) := by
  refine pure_of p.xref19_Rdw ?_
  simp (disch := omega) only [A_xref19_Rdw, wp, Nat.reduceAdd, Nat.reduceMul, Nat.reduceSub, gl, mPloc S p h, mfre S p hX h, mrfe S p h, S.then h, S.and h]
  rfl
theorem mDet : pureS F 175 [.agg (grC X)] = some (.ptr (matC X.evs.length (detM X))) := by
  refine pure_of p.xref19_Detour ?_
  simp (disch := omega) only [A_xref19_Detour, wp, Nat.reduceAdd, Nat.reduceMul, Nat.reduceSub, gl, mPloc S p h, mcoe S p hX h, mrfe S p h, S.then h, S.and h]
  rfl
end
end Go.Ab
end
section
/- ref19.Parts, Ppo. -/
set_option linter.unusedVariables false
set_option linter.unusedSimpArgs false
namespace Go.Ab
variable {F : Funs}
def rstepQ (n : Nat) (f q : Q4) : Q4 := ⟨orR (orR (orR (orR f.ii q.ci) (thenR n q.ic q.ci)) (thenR n q.ii q.ii)) q.ii, orR (orR (orR (orR q.ii q.cc) (thenR n q.ic q.cc)) (thenR n q.ii q.ic)) q.ic, orR (orR (orR f.ci (thenR n q.ci q.ii)) (thenR n q.cc q.ci)) q.ci, orR (orR (orR (orR f.cc q.ci) (thenR n q.ci q.ic)) (thenR n q.cc q.cc)) q.cc⟩
section
variable {n : Nat} {f q : Q4} (wf : WfQ n f) (w : WfQ n q)
include wf w
theorem rstepQ_wf : WfQ n (rstepQ n f q) :=
  ⟨wf_or (wf_or (wf_or (wf_or wf.ii w.ci) (wf_then w.ic w.ci)) (wf_then w.ii w.ii)) w.ii, wf_or (wf_or (wf_or (wf_or w.ii w.cc) (wf_then w.ic w.cc)) (wf_then w.ii w.ic)) w.ic, wf_or (wf_or (wf_or wf.ci (wf_then w.ci w.ii)) (wf_then w.cc w.ci)) w.ci, wf_or (wf_or (wf_or (wf_or wf.cc w.ci) (wf_then w.ci w.ic)) (wf_then w.cc w.cc)) w.cc⟩
omit wf w in
theorem rstepQ_ge : LeQ q (rstepQ n f q) := by
  refine ⟨fun a b h => ?_, fun a b h => ?_, fun a b h => ?_, fun a b h => ?_⟩ <;> simp only [rstepQ, hb_or, h, Bool.or_true]
omit wf in
theorem rstepQ_in (h : InP f q) : InP f (rstepQ n f q) := by
  refine ⟨fun a b k => ?_, fun a b k => ?_, fun a b k => ?_, fun a b k => ?_⟩ <;> simp only [rstepQ, hb_or, Bool.or_eq_true] at k
  · rcases k with (((k | k) | k) | k) | k
    · exact .b0 k
    · exact .r1 (h.ci a b k)
    · obtain ⟨c, k1, k2⟩ := (hb_then w.ic a b).1 k; exact .r2 (h.ic _ _ k1) (h.ci _ _ k2)
    · obtain ⟨c, k1, k2⟩ := (hb_then w.ii a b).1 k; exact .r3 (h.ii _ _ k1) (h.ii _ _ k2)
    · exact h.ii a b k
  · rcases k with (((k | k) | k) | k) | k
    · exact .r4 (h.ii a b k)
    · exact .r5 (h.cc a b k)
    · obtain ⟨c, k1, k2⟩ := (hb_then w.ic a b).1 k; exact .r6 (h.ic _ _ k1) (h.cc _ _ k2)
    · obtain ⟨c, k1, k2⟩ := (hb_then w.ii a b).1 k; exact .r7 (h.ii _ _ k1) (h.ic _ _ k2)
    · exact h.ic a b k
  · rcases k with ((k | k) | k) | k
    · exact .b2 k
    · obtain ⟨c, k1, k2⟩ := (hb_then w.ci a b).1 k; exact .r8 (h.ci _ _ k1) (h.ii _ _ k2)
    · obtain ⟨c, k1, k2⟩ := (hb_then w.cc a b).1 k; exact .r9 (h.cc _ _ k1) (h.ci _ _ k2)
    · exact h.ci a b k
  · rcases k with (((k | k) | k) | k) | k
    · exact .b3 k
    · exact .r10 (h.ci a b k)
    · obtain ⟨c, k1, k2⟩ := (hb_then w.ci a b).1 k; exact .r11 (h.ci _ _ k1) (h.ic _ _ k2)
    · obtain ⟨c, k1, k2⟩ := (hb_then w.cc a b).1 k; exact .r12 (h.cc _ _ k1) (h.cc _ _ k2)
    · exact h.cc a b k
omit wf in
theorem rstepQ_clo (h : LeQ (rstepQ n f q) q) : Clo q := by
  have t1 := fun a c b (x : hb q.ic a c = true) (y : hb q.ci c b = true) => (hb_then w.ic a b).2 ⟨c, x, y⟩
  have t2 := fun a c b (x : hb q.ii a c = true) (y : hb q.ii c b = true) => (hb_then w.ii a b).2 ⟨c, x, y⟩
  have t3 := fun a c b (x : hb q.ic a c = true) (y : hb q.cc c b = true) => (hb_then w.ic a b).2 ⟨c, x, y⟩
  have t4 := fun a c b (x : hb q.ii a c = true) (y : hb q.ic c b = true) => (hb_then w.ii a b).2 ⟨c, x, y⟩
  have t5 := fun a c b (x : hb q.ci a c = true) (y : hb q.ii c b = true) => (hb_then w.ci a b).2 ⟨c, x, y⟩
  have t6 := fun a c b (x : hb q.cc a c = true) (y : hb q.ci c b = true) => (hb_then w.cc a b).2 ⟨c, x, y⟩
  have t7 := fun a c b (x : hb q.ci a c = true) (y : hb q.ic c b = true) => (hb_then w.ci a b).2 ⟨c, x, y⟩
  have t8 := fun a c b (x : hb q.cc a c = true) (y : hb q.cc c b = true) => (hb_then w.cc a b).2 ⟨c, x, y⟩
  refine ⟨fun a b x => h.ii a b ?_, fun a c b x y => h.ii a b ?_, fun a c b x y => h.ii a b ?_, fun a b x => h.ic a b ?_, fun a b x => h.ic a b ?_, fun a c b x y => h.ic a b ?_, fun a c b x y => h.ic a b ?_, fun a c b x y => h.ci a b ?_, fun a c b x y => h.ci a b ?_, fun a b x => h.cc a b ?_, fun a c b x y => h.cc a b ?_, fun a c b x y => h.cc a b ?_⟩ <;> simp only [rstepQ, hb_or]
  · rw [x]; simp
  · rw [t1 a c b x y]; simp
  · rw [t2 a c b x y]; simp
  · rw [x]; simp
  · rw [x]; simp
  · rw [t3 a c b x y]; simp
  · rw [t4 a c b x y]; simp
  · rw [t5 a c b x y]; simp
  · rw [t6 a c b x y]; simp
  · rw [x]; simp
  · rw [t7 a c b x y]; simp
  · rw [t8 a c b x y]; simp
end
theorem EqN.to {n : Nat} {A : Mx} {R R' : Rw} (h : EqN n A R') (w : Wf n R) (h1 : ∀ a b, hb R a b = true → hb R' a b = true) (h2 : ∀ a b, hb R' a b = true → hb R a b = true) : EqN n A R :=
  ⟨w, fun a b ha hb' => by rw [h.2 a b ha hb', Bool.eq_iff_iff]; exact ⟨h2 a b, h1 a b⟩⟩
theorem frz_agg4 (hp) (a b c d : List AV) : frz hp depth (.agg [.ptr a, .ptr b, .ptr c, .ptr d]) = some (.agg [.ptr a, .ptr b, .ptr c, .ptr d]) := by
  show frz hp (8 + 1) _ = _
  simp only [frz, frzL, Option.map_some]
def Prt (F : Funs) (X : Gr) (A1 A2 A3 A4 : Mx) (q : Q4) : Prop := pureS F 171 [.agg (grC X)] = some (.agg [.ptr (matC X.evs.length A1), .ptr (matC X.evs.length A2), .ptr (matC X.evs.length A3), .ptr (matC X.evs.length A4)])
set_option maxRecDepth 100000 in
set_option maxHeartbeats 16000000 in
theorem sp_mparts (h36 : F 36 = some A_xref01_R_In) (h31 : F 31 = some A_xref01_R_Less) (S : RefF F) (p : Pk_xref19 F) {X : Gr} (hX : FewG X) (h : GraphOk X) : ∃ A1 A2 A3 A4 q, pureS F 171 [.agg (grC X)] = some (.agg [.ptr (matC X.evs.length A1), .ptr (matC X.evs.length A2), .ptr (matC X.evs.length A3), .ptr (matC X.evs.length A4)]) ∧
    EqN X.evs.length A1 q.ii ∧ EqN X.evs.length A2 q.ic ∧ EqN X.evs.length A3 q.ci ∧ EqN X.evs.length A4 q.cc ∧ Clo q ∧ LeQ (q0Q X) q ∧ InP (q0Q X) q := by
  have key : ∃ v, pureS F 171 [.agg (grC X)] = some v ∧ (∃ A1 A2 A3 A4 q, v = .agg [.ptr (matC X.evs.length A1), .ptr (matC X.evs.length A2), .ptr (matC X.evs.length A3), .ptr (matC X.evs.length A4)] ∧ EqN X.evs.length A1 q.ii ∧ EqN X.evs.length A2 q.ic ∧ EqN X.evs.length A3 q.ci ∧ EqN X.evs.length A4 q.cc ∧ Clo q ∧ LeQ (q0Q X) q ∧ InP (q0Q X) q) := by
    refine pureE_of p.xref19_Parts ?_
    have n40 := h.n40
    have dn : pureS F 27 [.i .i64 X.evs.length, .sl [] 0 .non] = some (.ptr (matC X.evs.length (newM X.evs.length []))) := by
      have := sp_newM S.px.xref01_New (X.evs.length : Int) [] .non (by simp)
      rwa [show clamp (X.evs.length : Int) = X.evs.length by unfold clamp; omega] at this
    have r4 : ∀ x : AV, List.replicate 4 x = [x, x, x, x] := fun _ => rfl
    have s4 : ∀ a b c d w x y z : AV, splice [a, b, c, d] 0 [w, x, y, z] = [w, x, y, z] := fun _ _ _ _ _ _ _ _ => rfl
    have p4 : ∀ a b c d : AV, part [a, b, c, d] 0 (some 4) = some (.agg [a, b, c, d]) := fun _ _ _ _ => rfl
    have l1 : X.data.length ≤ 1000 := by have := hX.data; omega
    have l2 : X.ctrl.length ≤ 1000 := by have := hX.ctrl; omega
    have l3 : X.ctrli.length ≤ 1000 := by have := hX.ctrli; omega
    have w0 : WfQ X.evs.length (q0Q X) := by have := q0_wf X; rwa [h.nOf] at this
    have hq0 : q0Q X = ⟨orR (orR (newR X.evs.length X.data) (rdwR X)) (partR inner X X.evs.length (rfR X)), newR X.evs.length [], orR (thenR X.evs.length (newR X.evs.length X.ctrli) (setR X pM)) (detR X), orR (orR (newR X.evs.length X.data) (plocR X)) (thenR X.evs.length (newR X.evs.length X.ctrl) (setR X pM))⟩ := by unfold q0Q; rw [h.nOf]
    have f1 := ((EqN.new n40 X.data).or (eq_rdw h)).or (eq_inner h (eq_rf h))
    have f2 := EqN.new n40 []
    have f3 := ((EqN.new n40 X.ctrli).then (eq_M h)).or (eq_det h)
    have f4 := ((EqN.new n40 X.data).or (eq_ploc h)).or ((EqN.new n40 X.ctrl).then (eq_M h))
    have g1 : (q0Q X).ii = orR (orR (newR X.evs.length X.data) (rdwR X)) (partR inner X X.evs.length (rfR X)) := by rw [hq0]
    have g2 : (q0Q X).ic = newR X.evs.length [] := by rw [hq0]
    have g3 : (q0Q X).ci = orR (thenR X.evs.length (newR X.evs.length X.ctrli) (setR X pM)) (detR X) := by rw [hq0]
    have g4 : (q0Q X).cc = orR (orR (newR X.evs.length X.data) (plocR X)) (thenR X.evs.length (newR X.evs.length X.ctrl) (setR X pM)) := by rw [hq0]
    unfold rfR at g1
    rw [← g1] at f1
    rw [← g2] at f2
    rw [← g3] at f3
    rw [← g4] at f4
    have em : mM19 X = opM (fun x y => x || y) (kindK X (kindQ 1 0 4) X.evs.length) (kindK X (kindQ 2 0 4) X.evs.length) X.evs.length := rfl
    have ep : plM19 X = opM (fun x y => x && y) (locM X) (miV X) X.evs.length := rfl
    rw [← em] at f3 f4
    rw [← ep] at f4
    have mM := mM19_sp S p h
    have mD := mDet S p hX h
    have mR := mRdw S p hX h
    have mP := mPloc S p h
    simp (disch := omega) only [A_xref19_Parts, wp, Nat.reduceAdd, Nat.reduceMul, Nat.reduceSub, gl, mM, mD, mR, mP, S.ofL h X.data l1, S.ofL h X.ctrl l2, S.ofL h X.ctrli l3, S.then h, S.or h, S.rf h, S.inner h, dn, r4, s4, p4, List.length_set]
    generalize hM1 : opM (fun x y => x || y) (opM (fun x y => x || y) (newM X.evs.length X.data) (rdwM X) X.evs.length) (prtM X true (anyM (rfL X X.rf.length))) X.evs.length = M1 at f1
    generalize hM2 : newM X.evs.length [] = M2 at f2
    generalize hM3 : opM (fun x y => x || y) (thM (newM X.evs.length X.ctrli) (mM19 X) X.evs.length X.evs.length) (detM X) X.evs.length = M3 at f3
    generalize hM4 : opM (fun x y => x || y) (opM (fun x y => x || y) (newM X.evs.length X.data) (plM19 X) X.evs.length) (thM (newM X.evs.length X.ctrl) (mM19 X) X.evs.length X.evs.length) X.evs.length = M4 at f4
    generalize q0Q X = q0 at w0 f1 f2 f3 f4
    generalize X.evs.length = n at *
    refine W_loop (fun m e g => ∃ q A1 A2 A3 A4, m = 6400 - cntQ n q ∧ WfQ n q ∧ LeQ q0 q ∧ InP q0 q ∧ EqN n A1 q.ii ∧ EqN n A2 q.ic ∧ EqN n A3 q.ci ∧ EqN n A4 q.cc ∧ e 2 = .mp 1 0 ∧ e 9 = .mp 52 0 ∧ e 10 = .mp 55 0 ∧ g.hp 1 = some (.cells [.nilp, .nilp, .nilp, .nilp] false) ∧ g.hp 52 = some (.cells [.ptr (matC n M1), .ptr (matC n M2), .ptr (matC n M3), .ptr (matC n M4)] false) ∧ g.hp 55 = some (.cells [.ptr (matC n A1), .ptr (matC n A2), .ptr (matC n A3), .ptr (matC n A4)] false) ∧ 55 < g.nx) (6400 - cntQ n q0) ?_ ?_
    · refine ⟨q0, M1, M2, M3, M4, rfl, w0, LeQ.refl _, InP.base _, f1, f2, f3, f4, ?_⟩
      simp (disch := omega) only [wp, Nat.reduceAdd, Nat.reduceMul, Nat.reduceSub]
      first | omega | (dsimp only; omega)
    · rintro m e g ⟨q, A1, A2, A3, A4, rfl, w, lq, iq, a1, a2, a3, a4, e2, e9, e10, hr, hf, hc, hnx⟩
      have b1 := ((((f1.or a3).or (a2.then a3)).or (a1.then a1)).or a1)
      have b2 := ((((a1.or a4).or (a2.then a4)).or (a1.then a2)).or a2)
      have b3 := (((f3.or (a3.then a1)).or (a4.then a3)).or a3)
      have b4 := ((((f4.or a3).or (a3.then a2)).or (a4.then a4)).or a4)
      have i1 := sp_minN h36 h31 S.px.xref01_New S.px.xref01_R_Pairs n40 b1 a1
      have i2 := sp_minN h36 h31 S.px.xref01_New S.px.xref01_R_Pairs n40 b2 a2
      have i3 := sp_minN h36 h31 S.px.xref01_New S.px.xref01_R_Pairs n40 b3 a3
      have i4 := sp_minN h36 h31 S.px.xref01_New S.px.xref01_R_Pairs n40 b4 a4
      have tor : ∀ A B : Mx, pureS F 29 [.ptr (matC n A), .ptr (matC n B)] = some (.ptr (matC n (opM (fun x y => x || y) A B n))) := fun A B => by
        have := sp_mor S.px.xref01_R_Or S.px.xref01_New n40 n40 A B
        rwa [Nat.max_self] at this
      have tth : ∀ A B : Mx, pureS F 32 [.ptr (matC n A), .ptr (matC n B)] = some (.ptr (matC n (thM A B n n))) := fun A B => by
        have := sp_mthen S.px.xref01_R_Then S.px.xref01_New n40 n40 A B
        rwa [Nat.max_self] at this
      have ws := rstepQ_wf w0 w
      have ge := rstepQ_ge (n := n) (f := q0) (q := q)
      have ii := rstepQ_in w iq
      have hcl := cntQ_le n40 (rstepQ n q0 q)
      have hlt := cntQ_lt n40 ws ge
      have hsb : subQ (rstepQ n q0 q) q = (noneR (lessR (rstepQ n q0 q).ii q.ii) && (noneR (lessR (rstepQ n q0 q).ic q.ic) && (noneR (lessR (rstepQ n q0 q).ci q.ci) && noneR (lessR (rstepQ n q0 q).cc q.cc)))) := rfl
      have clo := fun hs => rstepQ_clo w (subQ_le n40 ws hs)
      have lee := fun hs => subQ_le n40 ws (q := q) hs
      have B1 : EqN n _ (rstepQ n q0 q).ii := b1
      have B2 : EqN n _ (rstepQ n q0 q).ic := b2
      have B3 : EqN n _ (rstepQ n q0 q).ci := b3
      have B4 : EqN n _ (rstepQ n q0 q).cc := b4
      have I1 : _ = some (AV.b (noneR (lessR (rstepQ n q0 q).ii q.ii))) := i1
      have I2 : _ = some (AV.b (noneR (lessR (rstepQ n q0 q).ic q.ic))) := i2
      have I3 : _ = some (AV.b (noneR (lessR (rstepQ n q0 q).ci q.ci))) := i3
      have I4 : _ = some (AV.b (noneR (lessR (rstepQ n q0 q).cc q.cc))) := i4
      clear b1 b2 b3 b4 i1 i2 i3 i4
      generalize rstepQ n q0 q = q' at *
      cases c1 : noneR (lessR q'.ii q.ii)
      case false =>
        rw [c1] at I1 hsb
        simp (disch := omega) only [wp, Nat.reduceAdd, Nat.reduceMul, Nat.reduceSub, gl, e2, e9, e10, hr, hf, hc, r4, s4, p4, List.length_set, tor, tth, I1, retE_ret]
        exact ⟨6400 - cntQ n q', by have := hlt hsb; omega, q', _, _, _, _, rfl, ws, lq.trans ge, ii, B1, B2, B3, B4, rfl, by first | omega | (dsimp only; omega)⟩
      cases c2 : noneR (lessR q'.ic q.ic)
      case false =>
        rw [c1] at I1 hsb
        rw [c2] at I2 hsb
        simp (disch := omega) only [wp, Nat.reduceAdd, Nat.reduceMul, Nat.reduceSub, gl, e2, e9, e10, hr, hf, hc, r4, s4, p4, List.length_set, tor, tth, I1, I2, retE_ret]
        exact ⟨6400 - cntQ n q', by have := hlt hsb; omega, q', _, _, _, _, rfl, ws, lq.trans ge, ii, B1, B2, B3, B4, rfl, by first | omega | (dsimp only; omega)⟩
      cases c3 : noneR (lessR q'.ci q.ci)
      case false =>
        rw [c1] at I1 hsb
        rw [c2] at I2 hsb
        rw [c3] at I3 hsb
        simp (disch := omega) only [wp, Nat.reduceAdd, Nat.reduceMul, Nat.reduceSub, gl, e2, e9, e10, hr, hf, hc, r4, s4, p4, List.length_set, tor, tth, I1, I2, I3, retE_ret]
        exact ⟨6400 - cntQ n q', by have := hlt hsb; omega, q', _, _, _, _, rfl, ws, lq.trans ge, ii, B1, B2, B3, B4, rfl, by first | omega | (dsimp only; omega)⟩
      cases c4 : noneR (lessR q'.cc q.cc)
      case false =>
        rw [c1] at I1 hsb
        rw [c2] at I2 hsb
        rw [c3] at I3 hsb
        rw [c4] at I4 hsb
        simp (disch := omega) only [wp, Nat.reduceAdd, Nat.reduceMul, Nat.reduceSub, gl, e2, e9, e10, hr, hf, hc, r4, s4, p4, List.length_set, tor, tth, I1, I2, I3, I4, retE_ret]
        exact ⟨6400 - cntQ n q', by have := hlt hsb; omega, q', _, _, _, _, rfl, ws, lq.trans ge, ii, B1, B2, B3, B4, rfl, by first | omega | (dsimp only; omega)⟩
      rw [c1, c2, c3, c4] at hsb
      rw [c1] at I1
      rw [c2] at I2
      rw [c3] at I3
      rw [c4] at I4
      have lq' := lee hsb
      simp (disch := omega) only [wp, Nat.reduceAdd, Nat.reduceMul, Nat.reduceSub, gl, e2, e9, e10, hr, hf, hc, r4, s4, p4, List.length_set, tor, tth, I1, I2, I3, I4, retE_ret, res_cell, resC, frz_agg4]
      exact ⟨_, rfl, _, _, _, _, q, rfl, B1.to w.ii ge.ii lq'.ii, B2.to w.ic ge.ic lq'.ic, B3.to w.ci ge.ci lq'.ci, B4.to w.cc ge.cc lq'.cc, clo hsb, lq, iq⟩
  obtain ⟨v, hv, A1, A2, A3, A4, q, rfl, h1⟩ := key
  exact ⟨A1, A2, A3, A4, q, hv, h1⟩
end Go.Ab
end
section
/- Resolved functions of package xlaw19, written by a program (res.py). -/
namespace Go.Ab
def A_xlaw19_PpoKnown : AFun := { res := [.t 4], body := (.seq (.reg false [{ dst := some 4, op := .mv (.c (.b false)) }])
 (.seq (.reg false [{ dst := some 9, op := .mv (.t 1) },
  { dst := some 10, op := .call .pure (.c (.fn 10 [] [])) [.t 9, .c (.i .i64 4)] },
  { dst := some 5, op := .mv (.t 10) }])
 (.seq (.reg false [{ dst := some 11, op := .build (List.replicate 5 (.i .i64 0) ++ [.b false]) [(0, 1, .c (.i .i64 1)), (1, 1, .c (.i .i64 1)), (3, 1, .c (.i .i64 1))] },
  { dst := some 6, op := .new (List.replicate 5 (.i .i64 0) ++ [.b false]) },
  { dst := none, op := .st 6 (.t 6) (.t 11) }])
 (.seq (.reg false [{ dst := some 12, op := .build (List.replicate 5 (.i .i64 0) ++ [.b false]) [(1, 1, .c (.i .i64 2))] },
  { dst := some 13, op := .build (List.replicate 5 (.i .i64 0) ++ [.b false]) [(1, 1, .c (.i .i64 2)), (3, 1, .c (.i .i64 1))] },
  { dst := some 14, op := .build (List.replicate 5 (.i .i64 0) ++ [.b false]) [(0, 1, .c (.i .i64 1)), (1, 1, .c (.i .i64 1))] },
  { dst := some 15, op := .bsl true 3 (List.replicate 5 (.i .i64 0) ++ [.b false] ++ List.replicate 5 (.i .i64 0) ++ [.b false] ++ List.replicate 5 (.i .i64 0) ++ [.b false]) [(0, 6, .t 12), (6, 6, .t 13), (12, 6, .t 14)] },
  { dst := some 16, op := .bsl false 4 (List.replicate 4 (.i .i64 0)) [(0, 1, .c (.i .i64 (-1))), (1, 1, .c (.i .i64 (-1))), (2, 1, .c (.i .i64 0)), (3, 1, .c (.i .i64 1))] },
  { dst := some 17, op := .bsl true 1 ([.i .i64 0]) [(0, 1, .c (.i .i64 0))] },
  { dst := some 18, op := .bsl true 1 ([.i .i64 0]) [(0, 1, .c (.i .i64 1))] },
  { dst := some 19, op := .bsl false 2 ([.sl [] 0 .rig, .sl [] 0 .rig]) [(0, 1, .t 17), (1, 1, .t 18)] },
  { dst := some 20, op := .build ([.i .i64 0] ++ List.replicate 7 (.sl [] 0 .rig)) [(0, 1, .c (.i .i64 2)), (1, 1, .t 15), (2, 1, .t 16), (3, 1, .t 19)] },
  { dst := some 7, op := .new ([.i .i64 0] ++ List.replicate 7 (.sl [] 0 .rig)) },
  { dst := none, op := .st 8 (.t 7) (.t 20) }])
 (.seq (.seq (.reg false [{ dst := some 21, op := .mv (.t 0) }])
 (.cond (.t 21) (.seq (.reg false [{ dst := some 22, op := .fa 1 (.t 6) },
  { dst := none, op := .st 1 (.t 22) (.c (.i .i64 2)) }])
 (.seq (.reg false [{ dst := some 23, op := .fa 2 (.t 7) },
  { dst := some 24, op := .ld none (.t 23) },
  { dst := some 25, op := .ia 1 (.t 24) (.c (.i .i64 3)) },
  { dst := none, op := .st 1 (.t 25) (.c (.i .i64 (-1))) }])
 (.reg false [{ dst := some 26, op := .fa 3 (.t 7) },
  { dst := some 27, op := .ld none (.t 26) },
  { dst := some 28, op := .bsl true 2 ([.i .i64 0, .i .i64 0]) [(0, 1, .c (.i .i64 1)), (1, 1, .c (.i .i64 3))] },
  { dst := some 29, op := .ia 1 (.t 27) (.c (.i .i64 1)) },
  { dst := none, op := .st 1 (.t 29) (.t 28) }])))
 .skip))
 (.seq (.reg false [{ dst := some 30, op := .fa 1 (.t 7) },
  { dst := some 31, op := .ld none (.t 30) },
  { dst := some 32, op := .ld (some 6) (.t 6) },
  { dst := some 33, op := .bsl true 1 (List.replicate 5 (.i .i64 0) ++ [.b false]) [(0, 6, .t 32)] },
  { dst := some 34, op := .app 6 48 (.t 31) (.t 33) },
  { dst := some 35, op := .fa 1 (.t 7) },
  { dst := none, op := .st 1 (.t 35) (.t 34) }])
 (.seq (.reg false [{ dst := some 36, op := .build ([.i .i64 0, .i .i64 0]) [(0, 1, .c (.i .i64 2)), (1, 1, .c (.i .i64 3))] },
  { dst := some 37, op := .bsl true 1 ([.i .i64 0, .i .i64 0]) [(0, 2, .t 36)] },
  { dst := some 8, op := .mv (.t 37) }])
 (.seq (.seq (.reg false [{ dst := some 38, op := .mv (.t 5) }])
 (.blk 0 (.seq (.reg false [{ dst := some 40, op := .bin .eql (.t 38) (.c (.i .i64 1)) },
  { dst := some 39, op := .mv (.t 40) }])
 (.cond (.t 39) (.reg false [{ dst := some 41, op := .mv (.t 8) },
  { dst := some 42, op := .fa 5 (.t 7) },
  { dst := none, op := .st 1 (.t 42) (.t 41) }])
 (.seq (.reg false [{ dst := some 44, op := .bin .eql (.t 38) (.c (.i .i64 2)) },
  { dst := some 43, op := .mv (.t 44) }])
 (.cond (.t 43) (.reg false [{ dst := some 45, op := .mv (.t 8) },
  { dst := some 46, op := .fa 6 (.t 7) },
  { dst := none, op := .st 1 (.t 46) (.t 45) }])
 (.seq (.reg false [{ dst := some 48, op := .bin .eql (.t 38) (.c (.i .i64 3)) },
  { dst := some 47, op := .mv (.t 48) }])
 (.cond (.t 47) (.reg false [{ dst := some 49, op := .mv (.t 8) },
  { dst := some 50, op := .mv (.t 8) },
  { dst := some 51, op := .fa 6 (.t 7) },
  { dst := none, op := .st 1 (.t 51) (.t 49) },
  { dst := some 52, op := .fa 7 (.t 7) },
  { dst := none, op := .st 1 (.t 52) (.t 50) }])
 .skip))))))))
 (.seq (.lck 7 (.reg false [{ dst := some 53, op := .ld (some 8) (.t 7) },
  { dst := some 54, op := .call .pure (.c (.fn 143 [] [])) [.t 53] },
  { dst := some 55, op := .call .pure (.c (.fn 13 [] [])) [.t 54, .c (.i .i64 2), .c (.i .i64 3)] },
  { dst := some 56, op := .mv (.t 5) },
  { dst := some 57, op := .bin .eql (.t 56) (.c (.i .i64 1)) },
  { dst := some 58, op := .mv (.t 57) },
  { dst := some 59, op := .mv (.t 5), grd := some (58, false) },
  { dst := some 60, op := .bin .eql (.t 59) (.c (.i .i64 3)), grd := some (58, false) },
  { dst := some 61, op := .pick (.t 58) (.c (.b true)) (.t 60) },
  { dst := some 62, op := .mv (.t 61) },
  { dst := some 63, op := .mv (.t 5), grd := some (62, false) },
  { dst := some 64, op := .bin .eql (.t 63) (.c (.i .i64 2)), grd := some (62, false) },
  { dst := some 65, op := .mv (.t 64), grd := some (62, false) },
  { dst := some 66, op := .mv (.t 0), grd := some (65, true) },
  { dst := some 67, op := .pick (.t 65) (.t 66) (.c (.b false)), grd := some (62, false) },
  { dst := some 68, op := .pick (.t 62) (.c (.b true)) (.t 67) },
  { dst := some 69, op := .eqb false (.t 55) (.t 68) },
  { dst := some 70, op := .mv (.t 69) },
  { dst := some 71, op := .call .pure (.c (.fn 144 [] [])) [], grd := some (70, true) },
  { dst := some 72, op := .pick (.t 70) (.t 71) (.c (.b false)) },
  { dst := some 4, op := .mv (.t 72) }]))
 .ret))))))))) }
def A_xlaw19_PpoFirst : AFun := { res := [.t 2], body := (.seq (.reg false [{ dst := some 2, op := .mv (.c (.b false)) }])
 (.seq (.reg false [{ dst := some 5, op := .mv (.t 0) },
  { dst := some 6, op := .call .pure (.c (.fn 10 [] [])) [.t 5, .c (.i .i64 3)] },
  { dst := some 3, op := .mv (.t 6) }])
 (.seq (.reg false [{ dst := some 7, op := .build (List.replicate 5 (.i .i64 0) ++ [.b false]) [(1, 1, .c (.i .i64 2))] },
  { dst := some 8, op := .build (List.replicate 5 (.i .i64 0) ++ [.b false]) [(0, 1, .c (.i .i64 1)), (1, 1, .c (.i .i64 1))] },
  { dst := some 9, op := .build (List.replicate 5 (.i .i64 0) ++ [.b false]) [(0, 1, .c (.i .i64 1)), (1, 1, .c (.i .i64 1)), (4, 1, .c (.i .i64 1))] },
  { dst := some 10, op := .build (List.replicate 5 (.i .i64 0) ++ [.b false]) [(0, 1, .c (.i .i64 2)), (1, 1, .c (.i .i64 2)), (4, 1, .c (.i .i64 1))] },
  { dst := some 11, op := .bsl false 4 (List.replicate 5 (.i .i64 0) ++ [.b false] ++ List.replicate 5 (.i .i64 0) ++ [.b false] ++ List.replicate 5 (.i .i64 0) ++ [.b false] ++ List.replicate 5 (.i .i64 0) ++ [.b false]) [(0, 6, .t 7), (6, 6, .t 8), (12, 6, .t 9), (18, 6, .t 10)] },
  { dst := some 12, op := .bsl false 4 (List.replicate 4 (.i .i64 0)) [(0, 1, .c (.i .i64 (-1))), (1, 1, .c (.i .i64 0)), (2, 1, .c (.i .i64 3)), (3, 1, .c (.i .i64 (-1)))] },
  { dst := some 13, op := .bsl true 2 ([.i .i64 0, .i .i64 0]) [(0, 1, .c (.i .i64 0)), (1, 1, .c (.i .i64 3))] },
  { dst := some 14, op := .bsl false 1 ([.sl [] 0 .rig]) [(0, 1, .t 13)] },
  { dst := some 15, op := .build ([.i .i64 0] ++ List.replicate 7 (.sl [] 0 .rig)) [(0, 1, .c (.i .i64 1)), (1, 1, .t 11), (2, 1, .t 12), (3, 1, .t 14)] },
  { dst := some 4, op := .new ([.i .i64 0] ++ List.replicate 7 (.sl [] 0 .rig)) },
  { dst := none, op := .st 8 (.t 4) (.t 15) }])
 (.seq (.seq (.reg false [{ dst := some 16, op := .mv (.t 3) }])
 (.blk 0 (.seq (.reg false [{ dst := some 18, op := .bin .eql (.t 16) (.c (.i .i64 1)) },
  { dst := some 17, op := .mv (.t 18) }])
 (.cond (.t 17) (.reg true [{ dst := some 19, op := .fa 1 (.t 4) },
  { dst := some 20, op := .ld none (.t 19), pre := [] },
  { dst := some 21, op := .fa 2 (.t 4) },
  { dst := some 22, op := .ld none (.t 21), pre := [] },
  { dst := some 23, op := .ia 6 (.t 20) (.c (.i .i64 2)) },
  { dst := some 24, op := .fa 4 (.t 23) },
  { dst := none, op := .st 1 (.t 24) (.c (.i .i64 0)), pre := [] },
  { dst := some 25, op := .ia 1 (.t 22) (.c (.i .i64 2)) },
  { dst := none, op := .st 1 (.t 25) (.c (.i .i64 0)), pre := [] }])
 (.seq (.reg false [{ dst := some 27, op := .bin .eql (.t 16) (.c (.i .i64 2)) },
  { dst := some 26, op := .mv (.t 27) }])
 (.cond (.t 26) (.seq (.reg false [{ dst := some 28, op := .fa 1 (.t 4) },
  { dst := some 29, op := .ld none (.t 28) },
  { dst := some 30, op := .build (List.replicate 5 (.i .i64 0) ++ [.b false]) [(0, 1, .c (.i .i64 1)), (1, 1, .c (.i .i64 2)), (4, 1, .c (.i .i64 2))] },
  { dst := some 31, op := .ia 6 (.t 29) (.c (.i .i64 1)) },
  { dst := none, op := .st 6 (.t 31) (.t 30) }])
 (.reg true [{ dst := some 32, op := .fa 2 (.t 4) },
  { dst := some 33, op := .ld none (.t 32), pre := [] },
  { dst := some 34, op := .fa 3 (.t 4) },
  { dst := some 35, op := .ld none (.t 34), pre := [] },
  { dst := some 36, op := .bsl true 3 ([.i .i64 0, .i .i64 0, .i .i64 0]) [(0, 1, .c (.i .i64 0)), (1, 1, .c (.i .i64 1)), (2, 1, .c (.i .i64 3))], pre := [] },
  { dst := some 37, op := .ia 1 (.t 33) (.c (.i .i64 1)) },
  { dst := none, op := .st 1 (.t 37) (.c (.i .i64 (-1))), pre := [] },
  { dst := some 38, op := .ia 1 (.t 35) (.c (.i .i64 0)) },
  { dst := none, op := .st 1 (.t 38) (.t 36), pre := [] }]))
 .skip))))))
 (.seq (.lck 4 (.reg false [{ dst := some 39, op := .ld (some 8) (.t 4) },
  { dst := some 40, op := .call .pure (.c (.fn 143 [] [])) [.t 39] },
  { dst := some 41, op := .call .pure (.c (.fn 13 [] [])) [.t 40, .c (.i .i64 1), .c (.i .i64 2)] },
  { dst := some 42, op := .mv (.t 3) },
  { dst := some 43, op := .bin .eql (.t 42) (.c (.i .i64 0)) },
  { dst := some 44, op := .eqb false (.t 41) (.t 43) },
  { dst := some 45, op := .mv (.t 44) },
  { dst := some 46, op := .ld (some 8) (.t 4), grd := some (45, true) },
  { dst := some 47, op := .call .pure (.c (.fn 145 [] [])) [.t 46], grd := some (45, true) },
  { dst := some 48, op := .call .pure (.c (.fn 13 [] [])) [.t 47, .c (.i .i64 1), .c (.i .i64 2)], grd := some (45, true) },
  { dst := some 49, op := .mv (.t 3), grd := some (45, true) },
  { dst := some 50, op := .bin .eql (.t 49) (.c (.i .i64 0)), grd := some (45, true) },
  { dst := some 51, op := .eqb false (.t 48) (.t 50), grd := some (45, true) },
  { dst := some 52, op := .pick (.t 45) (.t 51) (.c (.b false)) },
  { dst := some 53, op := .mv (.t 52) },
  { dst := some 54, op := .ld (some 8) (.t 4), grd := some (53, true) },
  { dst := some 55, op := .call .pure (.c (.fn 146 [] [])) [.t 54], grd := some (53, true) },
  { dst := some 56, op := .call .pure (.c (.fn 13 [] [])) [.t 55, .c (.i .i64 1), .c (.i .i64 2)], grd := some (53, true) },
  { dst := some 57, op := .mv (.t 3), grd := some (53, true) },
  { dst := some 58, op := .bin .eql (.t 57) (.c (.i .i64 2)), grd := some (53, true) },
  { dst := some 59, op := .eqb false (.t 56) (.t 58), grd := some (53, true) },
  { dst := some 60, op := .pick (.t 53) (.t 59) (.c (.b false)) },
  { dst := some 61, op := .mv (.t 60) },
  { dst := some 62, op := .call .pure (.c (.fn 144 [] [])) [], grd := some (61, true) },
  { dst := some 63, op := .pick (.t 61) (.t 62) (.c (.b false)) },
  { dst := some 2, op := .mv (.t 63) }]))
 .ret))))) }
def A_xlaw19_PpoAny : AFun := { res := [.t 2], body := (.seq (.reg false [{ dst := some 1, op := .box (.t 0) },
  { dst := some 2, op := .mv (.c (.b false)) }])
 (.seq (.seq (.reg false [{ dst := some 3, op := .ld (some 8) (.t 1) },
  { dst := some 4, op := .call .pure (.c (.fn 44 [] [])) [.t 3] },
  { dst := some 5, op := .un .not (.t 4) },
  { dst := some 6, op := .mv (.t 5) },
  { dst := some 7, op := .fa 1 (.t 1), grd := some (6, false) },
  { dst := some 8, op := .ld none (.t 7), grd := some (6, false) },
  { dst := some 9, op := .len (.t 8), grd := some (6, false) },
  { dst := some 10, op := .bin .gtr (.t 9) (.c (.i .i64 20)), grd := some (6, false) },
  { dst := some 11, op := .pick (.t 6) (.c (.b true)) (.t 10) },
  { dst := some 12, op := .mv (.t 11) },
  { dst := some 13, op := .ld (some 8) (.t 1), grd := some (12, false) },
  { dst := some 14, op := .call .pure (.c (.fn 45 [] [])) [.t 13], grd := some (12, false) },
  { dst := some 15, op := .un .not (.t 14), grd := some (12, false) },
  { dst := some 16, op := .pick (.t 12) (.c (.b true)) (.t 15) }])
 (.cond (.t 16) (.seq (.reg false [{ dst := some 17, op := .call .pure (.c (.fn 144 [] [])) [] },
  { dst := some 2, op := .mv (.t 17) }])
 .ret)
 .skip))
 (.seq (.reg false [{ dst := some 18, op := .ld (some 8) (.t 1) },
  { dst := some 19, op := .call .pure (.c (.fn 147 [] [])) [.t 18] },
  { dst := some 20, op := .mv (.t 19) },
  { dst := some 21, op := .call .pure (.c (.fn 144 [] [])) [], grd := some (20, true) },
  { dst := some 22, op := .pick (.t 20) (.t 21) (.c (.b false)) },
  { dst := some 2, op := .mv (.t 22) }])
 .ret))) }
def A_xlaw19_awake : AFun := { res := [.t 0], body := (.seq (.reg false [{ dst := some 0, op := .mv (.c (.b false)) }])
 (.seq (.reg false [{ dst := some 1, op := .call .pure (.c (.fn 169 [] [])) [.c (.i .i64 0)] },
  { dst := some 2, op := .call .pure (.c (.fn 143 [] [])) [.t 1] },
  { dst := some 3, op := .call .pure (.c (.fn 13 [] [])) [.t 2, .c (.i .i64 2), .c (.i .i64 3)] },
  { dst := some 4, op := .mv (.t 3) },
  { dst := some 5, op := .call .pure (.c (.fn 169 [] [])) [.c (.i .i64 1)], grd := some (4, true) },
  { dst := some 6, op := .call .pure (.c (.fn 143 [] [])) [.t 5], grd := some (4, true) },
  { dst := some 7, op := .call .pure (.c (.fn 13 [] [])) [.t 6, .c (.i .i64 2), .c (.i .i64 3)], grd := some (4, true) },
  { dst := some 8, op := .pick (.t 4) (.t 7) (.c (.b false)) },
  { dst := some 9, op := .mv (.t 8) },
  { dst := some 10, op := .call .pure (.c (.fn 169 [] [])) [.c (.i .i64 2)], grd := some (9, true) },
  { dst := some 11, op := .call .pure (.c (.fn 143 [] [])) [.t 10], grd := some (9, true) },
  { dst := some 12, op := .call .pure (.c (.fn 13 [] [])) [.t 11, .c (.i .i64 2), .c (.i .i64 3)], grd := some (9, true) },
  { dst := some 13, op := .un .not (.t 12), grd := some (9, true) },
  { dst := some 14, op := .pick (.t 9) (.t 13) (.c (.b false)) },
  { dst := some 15, op := .mv (.t 14) },
  { dst := some 16, op := .call .pure (.c (.fn 169 [] [])) [.c (.i .i64 0)], grd := some (15, true) },
  { dst := some 17, op := .call .pure (.c (.fn 145 [] [])) [.t 16], grd := some (15, true) },
  { dst := some 18, op := .call .pure (.c (.fn 15 [] [])) [.t 17], grd := some (15, true) },
  { dst := some 19, op := .len (.t 18), grd := some (15, true) },
  { dst := some 20, op := .bin .eql (.t 19) (.c (.i .i64 0)), grd := some (15, true) },
  { dst := some 21, op := .pick (.t 15) (.t 20) (.c (.b false)) },
  { dst := some 22, op := .mv (.t 21) },
  { dst := some 23, op := .call .pure (.c (.fn 169 [] [])) [.c (.i .i64 0)], grd := some (22, true) },
  { dst := some 24, op := .call .pure (.c (.fn 146 [] [])) [.t 23], grd := some (22, true) },
  { dst := some 25, op := .call .pure (.c (.fn 15 [] [])) [.t 24], grd := some (22, true) },
  { dst := some 26, op := .len (.t 25), grd := some (22, true) },
  { dst := some 27, op := .bin .eql (.t 26) (.c (.i .i64 0)), grd := some (22, true) },
  { dst := some 28, op := .pick (.t 22) (.t 27) (.c (.b false)) },
  { dst := some 0, op := .mv (.t 28) }])
 .ret)) }
def A_xlaw19_all : AFun := { res := [.t 2], body := (.seq (.reg false [{ dst := some 1, op := .box (.t 0) },
  { dst := some 2, op := .mv (.c (.b false)) }])
 (.seq (.reg false [{ dst := some 9, op := .ld (some 8) (.t 1) },
  { dst := some 10, op := .call .pure (.c (.fn 165 [] [])) [.t 9] },
  { dst := some 8, op := .mv (.t 10) },
  { dst := some 11, op := .ext 0 (.t 8) },
  { dst := some 12, op := .ext 1 (.t 8) },
  { dst := some 13, op := .ext 2 (.t 8) },
  { dst := some 14, op := .ext 3 (.t 8) },
  { dst := some 3, op := .mv (.t 11) },
  { dst := some 4, op := .mv (.t 12) },
  { dst := some 5, op := .mv (.t 13) },
  { dst := some 6, op := .mv (.t 14) }])
 (.seq (.reg false [{ dst := some 15, op := .ld (some 8) (.t 1) },
  { dst := some 16, op := .call .pure (.c (.fn 171 [] [])) [.t 15] },
  { dst := some 7, op := .new (List.replicate 4 (.nilp)) },
  { dst := none, op := .st 4 (.t 7) (.t 16) }])
 (.seq (.reg true [{ dst := some 17, op := .mv (.t 3) },
  { dst := some 18, op := .fa 0 (.t 7) },
  { dst := some 19, op := .ld none (.t 18), pre := [] },
  { dst := some 20, op := .call .pure (.c (.fn 172 [] [])) [.t 17, .t 19], pre := [] },
  { dst := some 21, op := .mv (.t 20) },
  { dst := some 22, op := .mv (.t 4), grd := some (21, true) },
  { dst := some 23, op := .fa 1 (.t 7), grd := some (21, true) },
  { dst := some 24, op := .ld none (.t 23), grd := some (21, true), pre := [] },
  { dst := some 25, op := .call .pure (.c (.fn 172 [] [])) [.t 22, .t 24], grd := some (21, true), pre := [] },
  { dst := some 26, op := .pick (.t 21) (.t 25) (.c (.b false)) },
  { dst := some 27, op := .mv (.t 26) },
  { dst := some 28, op := .mv (.t 5), grd := some (27, true) },
  { dst := some 29, op := .fa 2 (.t 7), grd := some (27, true) },
  { dst := some 30, op := .ld none (.t 29), grd := some (27, true), pre := [] },
  { dst := some 31, op := .call .pure (.c (.fn 172 [] [])) [.t 28, .t 30], grd := some (27, true), pre := [] },
  { dst := some 32, op := .pick (.t 27) (.t 31) (.c (.b false)) },
  { dst := some 33, op := .mv (.t 32) },
  { dst := some 34, op := .mv (.t 6), grd := some (33, true) },
  { dst := some 35, op := .fa 3 (.t 7), grd := some (33, true) },
  { dst := some 36, op := .ld none (.t 35), grd := some (33, true), pre := [] },
  { dst := some 37, op := .call .pure (.c (.fn 172 [] [])) [.t 34, .t 36], grd := some (33, true), pre := [] },
  { dst := some 38, op := .pick (.t 33) (.t 37) (.c (.b false)) },
  { dst := some 39, op := .mv (.t 38) },
  { dst := some 40, op := .ld (some 8) (.t 1), grd := some (39, true), pre := [] },
  { dst := some 41, op := .call .pure (.c (.fn 143 [] [])) [.t 40], grd := some (39, true), pre := [] },
  { dst := some 42, op := .ld (some 8) (.t 1), grd := some (39, true), pre := [] },
  { dst := some 43, op := .call .pure (.c (.fn 173 [] [])) [.t 42], grd := some (39, true), pre := [] },
  { dst := some 44, op := .call .pure (.c (.fn 172 [] [])) [.t 41, .t 43], grd := some (39, true), pre := [] },
  { dst := some 45, op := .pick (.t 39) (.t 44) (.c (.b false)) },
  { dst := some 46, op := .mv (.t 45) },
  { dst := some 47, op := .ld (some 8) (.t 1), grd := some (46, true), pre := [] },
  { dst := some 48, op := .call .pure (.c (.fn 145 [] [])) [.t 47], grd := some (46, true), pre := [] },
  { dst := some 49, op := .ld (some 8) (.t 1), grd := some (46, true), pre := [] },
  { dst := some 50, op := .call .pure (.c (.fn 174 [] [])) [.t 49], grd := some (46, true), pre := [] },
  { dst := some 51, op := .call .pure (.c (.fn 172 [] [])) [.t 48, .t 50], grd := some (46, true), pre := [] },
  { dst := some 52, op := .pick (.t 46) (.t 51) (.c (.b false)) },
  { dst := some 53, op := .mv (.t 52) },
  { dst := some 54, op := .ld (some 8) (.t 1), grd := some (53, true), pre := [] },
  { dst := some 55, op := .call .pure (.c (.fn 146 [] [])) [.t 54], grd := some (53, true), pre := [] },
  { dst := some 56, op := .ld (some 8) (.t 1), grd := some (53, true), pre := [] },
  { dst := some 57, op := .call .pure (.c (.fn 175 [] [])) [.t 56], grd := some (53, true), pre := [] },
  { dst := some 58, op := .call .pure (.c (.fn 172 [] [])) [.t 55, .t 57], grd := some (53, true), pre := [] },
  { dst := some 59, op := .pick (.t 53) (.t 58) (.c (.b false)) },
  { dst := some 2, op := .mv (.t 59) }])
 .ret)))) }
def A_xlaw19_after : AFun := { res := [.cell 2 (some 8)], body := (.seq (.reg false [{ dst := some 2, op := .new ([.i .i64 0] ++ List.replicate 7 (.sl [] 0 .rig)) }])
 (.seq (.reg false [{ dst := some 4, op := .build (List.replicate 5 (.i .i64 0) ++ [.b false]) [(1, 1, .c (.i .i64 2))] },
  { dst := some 5, op := .build (List.replicate 5 (.i .i64 0) ++ [.b false]) [(1, 1, .c (.i .i64 2)), (3, 1, .c (.i .i64 1))] },
  { dst := some 6, op := .build (List.replicate 5 (.i .i64 0) ++ [.b false]) [(0, 1, .c (.i .i64 1)), (1, 1, .c (.i .i64 1))] },
  { dst := some 7, op := .build (List.replicate 5 (.i .i64 0) ++ [.b false]) [(0, 1, .c (.i .i64 1)), (1, 1, .c (.i .i64 2)), (3, 1, .c (.i .i64 1))] },
  { dst := some 8, op := .bsl true 4 (List.replicate 5 (.i .i64 0) ++ [.b false] ++ List.replicate 5 (.i .i64 0) ++ [.b false] ++ List.replicate 5 (.i .i64 0) ++ [.b false] ++ List.replicate 5 (.i .i64 0) ++ [.b false]) [(0, 6, .t 4), (6, 6, .t 5), (12, 6, .t 6), (18, 6, .t 7)] },
  { dst := some 9, op := .bsl true 4 (List.replicate 4 (.i .i64 0)) [(0, 1, .c (.i .i64 (-1))), (1, 1, .c (.i .i64 (-1))), (2, 1, .c (.i .i64 0)), (3, 1, .c (.i .i64 (-1)))] },
  { dst := some 10, op := .bsl true 1 ([.i .i64 0]) [(0, 1, .c (.i .i64 0))] },
  { dst := some 11, op := .bsl true 2 ([.i .i64 0, .i .i64 0]) [(0, 1, .c (.i .i64 1)), (1, 1, .c (.i .i64 3))] },
  { dst := some 12, op := .bsl true 2 ([.sl [] 0 .rig, .sl [] 0 .rig]) [(0, 1, .t 10), (1, 1, .t 11)] },
  { dst := some 13, op := .build ([.i .i64 0] ++ List.replicate 7 (.sl [] 0 .rig)) [(0, 1, .c (.i .i64 2)), (1, 1, .t 8), (2, 1, .t 9), (3, 1, .t 12)] },
  { dst := some 3, op := .new ([.i .i64 0] ++ List.replicate 7 (.sl [] 0 .rig)) },
  { dst := none, op := .st 8 (.t 3) (.t 13) }])
 (.seq (.seq (.reg false [{ dst := some 14, op := .mv (.t 0) },
  { dst := some 15, op := .bin .eql (.t 14) (.c (.i .i64 0)) }])
 (.cond (.t 15) (.reg false [{ dst := some 16, op := .build ([.i .i64 0, .i .i64 0]) [(0, 1, .c (.i .i64 2)), (1, 1, .c (.i .i64 3))] },
  { dst := some 17, op := .bsl true 1 ([.i .i64 0, .i .i64 0]) [(0, 2, .t 16)] },
  { dst := some 18, op := .fa 5 (.t 3) },
  { dst := none, op := .st 1 (.t 18) (.t 17) }])
 .skip))
 (.seq (.seq (.reg false [{ dst := some 19, op := .mv (.t 0) },
  { dst := some 20, op := .bin .eql (.t 19) (.c (.i .i64 1)) }])
 (.cond (.t 20) (.reg false [{ dst := some 21, op := .build ([.i .i64 0, .i .i64 0]) [(0, 1, .c (.i .i64 2)), (1, 1, .c (.i .i64 3))] },
  { dst := some 22, op := .bsl true 1 ([.i .i64 0, .i .i64 0]) [(0, 2, .t 21)] },
  { dst := some 23, op := .fa 6 (.t 3) },
  { dst := none, op := .st 1 (.t 23) (.t 22) }])
 .skip))
 (.seq (.reg false [{ dst := some 24, op := .ld (some 8) (.t 3) },
  { dst := none, op := .st 8 (.t 2) (.t 24) }])
 .ret))))) }
def A_xlaw19_same : AFun := { res := [.t 4], body := (.seq (.reg false [{ dst := some 4, op := .mv (.c (.b false)) }])
 (.seq (.reg true [{ dst := some 5, op := .mv (.t 0) },
  { dst := some 6, op := .eqn true (.t 5) (.c (.nilp)) },
  { dst := some 7, op := .mv (.t 6) },
  { dst := some 8, op := .mv (.t 0), grd := some (7, true) },
  { dst := some 9, op := .call .pure (.c (.fn 17 [] [])) [.t 8], grd := some (7, true), pre := [] },
  { dst := some 10, op := .mv (.t 1), grd := some (7, true) },
  { dst := some 11, op := .nilck (.t 10), grd := some (7, true) },
  { dst := some 12, op := .fa 0 (.t 11), grd := some (7, true) },
  { dst := some 13, op := .ld none (.t 12), grd := some (7, true), pre := [] },
  { dst := some 14, op := .bin .eql (.t 9) (.t 13), grd := some (7, true) },
  { dst := some 15, op := .pick (.t 7) (.t 14) (.c (.b false)) },
  { dst := some 16, op := .mv (.t 15) },
  { dst := some 17, op := .mv (.t 0), grd := some (16, true) },
  { dst := some 18, op := .call .pure (.c (.fn 15 [] [])) [.t 17], grd := some (16, true), pre := [] },
  { dst := some 19, op := .mv (.t 1), grd := some (16, true) },
  { dst := some 20, op := .call .pure (.c (.fn 56 [] [])) [.t 19], grd := some (16, true), pre := [] },
  { dst := some 21, op := .call .pure (.c (.fn 55 [] [])) [.t 18, .t 20], grd := some (16, true), pre := [] },
  { dst := some 22, op := .pick (.t 16) (.t 21) (.c (.b false)) },
  { dst := some 4, op := .mv (.t 22) }])
 .ret)) }
structure Pk_xlaw19 (F : Funs) : Prop where
  xlaw19_PpoKnown : F 133 = some A_xlaw19_PpoKnown
  xlaw19_PpoFirst : F 134 = some A_xlaw19_PpoFirst
  xlaw19_PpoAny : F 135 = some A_xlaw19_PpoAny
  xlaw19_awake : F 144 = some A_xlaw19_awake
  xlaw19_all : F 147 = some A_xlaw19_all
  xlaw19_after : F 169 = some A_xlaw19_after
  xlaw19_same : F 172 = some A_xlaw19_same
end Go.Ab
end
section
/- exegesislaw19: after, awake, all; PpoAny. -/
set_option linter.unusedVariables false
set_option linter.unusedSimpArgs false
namespace Go.Ab
variable {F : Funs}
def aftG (data ctrl : List (Int × Int)) : Gr := ⟨2, [⟨0, 2, 0, 0, 0, false⟩, ⟨0, 2, 0, 1, 0, false⟩, ⟨1, 1, 0, 0, 0, false⟩, ⟨1, 2, 0, 1, 0, false⟩], [-1, -1, 0, -1], [[0], [1, 3]], [], data, ctrl, []⟩
def aftH (h : Int) : Gr := if h = 0 then aftG [(2, 3)] [] else if h = 1 then aftG [] [(2, 3)] else aftG [] []
set_option maxRecDepth 100000 in
set_option maxHeartbeats 4000000 in
theorem sp_after (h169 : F 169 = some A_xlaw19_after) (h : Int) (hh : h = 0 ∨ h = 1 ∨ h = 2) : pureS F 169 [.i .i64 h] = some (.agg (grC (aftH h))) := by
  refine pure_of h169 ?_
  have r5 : ∀ x : AV, List.replicate 5 x = [x, x, x, x, x] := fun _ => rfl
  have r4 : ∀ x : AV, List.replicate 4 x = [x, x, x, x] := fun _ => rfl
  have r7 : ∀ x : AV, List.replicate 7 x = [x, x, x, x, x, x, x] := fun _ => rfl
  have s8 : ∀ a1 a2 a3 a4 a5 a6 a7 a8 c1 c2 c3 c4 c5 c6 c7 c8 : AV, splice [a1, a2, a3, a4, a5, a6, a7, a8] 0 [c1, c2, c3, c4, c5, c6, c7, c8] = [c1, c2, c3, c4, c5, c6, c7, c8] := fun _ _ _ _ _ _ _ _ _ _ _ _ _ _ _ _ => rfl
  have p8 : ∀ a1 a2 a3 a4 a5 a6 a7 a8 : AV, part [a1, a2, a3, a4, a5, a6, a7, a8] 0 (some 8) = some (.agg [a1, a2, a3, a4, a5, a6, a7, a8]) := fun _ _ _ _ _ _ _ _ => rfl
  have z1 : ((0 : Int) == 1) = false := rfl
  have z2 : ((1 : Int) == 0) = false := rfl
  have z3 : ((2 : Int) == 0) = false := rfl
  have z4 : ((2 : Int) == 1) = false := rfl
  rcases hh with rfl | rfl | rfl
  · simp (disch := omega) only [A_xlaw19_after, wp, Nat.reduceAdd, Nat.reduceMul, Nat.reduceSub, gl, res_cell, resC, r5, r4, r7, s8, p8, splice_s, splice_6, List.length_set, z1, z2, z3, z4]
    refine frz_d_agg ?_
    show frzL _ (7 + 1) _ = _
    simp only [frzL, frz]
    rfl
  · simp (disch := omega) only [A_xlaw19_after, wp, Nat.reduceAdd, Nat.reduceMul, Nat.reduceSub, gl, res_cell, resC, r5, r4, r7, s8, p8, splice_s, splice_6, List.length_set, z1, z2, z3, z4]
    refine frz_d_agg ?_
    show frzL _ (7 + 1) _ = _
    simp only [frzL, frz]
    rfl
  · simp (disch := omega) only [A_xlaw19_after, wp, Nat.reduceAdd, Nat.reduceMul, Nat.reduceSub, gl, res_cell, resC, r5, r4, r7, s8, p8, splice_s, splice_6, List.length_set, z1, z2, z3, z4]
    refine frz_d_agg ?_
    show frzL _ (7 + 1) _ = _
    simp only [frzL, frz]
    rfl
theorem aft_few (h : Int) : Few (aftH h) := by
  unfold aftH
  have key : ∀ d c, Few (aftG d c) := by
    intro d c
    refine ⟨by simp [aftG], by simp [aftG], ?_⟩
    intro x hx
    simp only [aftG, List.mem_cons, List.not_mem_nil, or_false] at hx
    rcases hx with rfl | rfl <;> decide
  split
  · exact key _ _
  · split <;> exact key _ _
theorem aft_1 : has (nOf (aftH 0)) (ppoR (aftH 0)) 2 3 = true := by decide +kernel
theorem aft_2 : has (nOf (aftH 1)) (ppoR (aftH 1)) 2 3 = true := by decide +kernel
theorem aft_3 : has (nOf (aftH 2)) (ppoR (aftH 2)) 2 3 = false := by decide +kernel
theorem aft_4 : (pairsR (nOf (aftH 0)) (rdwR (aftH 0))).length = 0 := by decide +kernel
theorem aft_5 : (pairsR (nOf (aftH 0)) (detR (aftH 0))).length = 0 := by decide +kernel
set_option maxRecDepth 100000 in
set_option maxHeartbeats 4000000 in
theorem sp_awake19 (h144 : F 144 = some A_xlaw19_awake) (h169 : F 169 = some A_xlaw19_after) (S : PpoF F) : pureS F 144 [] = some (.b true) := by
  refine pure_of h144 ?_
  have a0 := sp_after h169 0 (.inl rfl)
  have a1 := sp_after h169 1 (.inr (.inl rfl))
  have a2 := sp_after h169 2 (.inr (.inr rfl))
  have n0 := nOf_le (aftH 0)
  have n1 := nOf_le (aftH 1)
  have n2 := nOf_le (aftH 2)
  have p0 := sp_ppo S (aft_few 0) (by decide) (by decide) (by decide)
  have p1 := sp_ppo S (aft_few 1) (by decide) (by decide) (by decide)
  have p2 := sp_ppo S (aft_few 2) (by decide) (by decide) (by decide)
  have z0 : (((0 : Nat) : Int) == 0) = true := rfl
  simp (disch := omega) only [A_xlaw19_awake, wp, Nat.reduceAdd, Nat.reduceMul, Nat.reduceSub, gl, a0, a1, a2, p0, p1, p2, sp_rdw S (aft_few 0), sp_det S (aft_few 0), sp_has S.pr n0, sp_has S.pr n1, sp_has S.pr n2, sp_pairs S.pr n0, aft_1, aft_2, aft_3, aft_4, aft_5, z0]
theorem parts_ok (X : Gr) : WfQ (nOf X) (partsQ X) ∧ LeQ (q0Q X) (partsQ X) ∧ InP (q0Q X) (partsQ X) ∧ Clo (partsQ X) :=
  itQ_ok (nOf_le X) 6401 (q0Q X) (q0_wf X) (LeQ.refl _) (InP.base _) (by omega)
set_option maxRecDepth 100000 in
set_option maxHeartbeats 4000000 in
theorem sp_all19 (h36 : F 36 = some A_xref01_R_In) (h31 : F 31 = some A_xref01_R_Less) (h147 : F 147 = some A_xlaw19_all) (h172 : F 172 = some A_xlaw19_same) (S : PpoF F) (T : RefF F) (p : Pk_xref19 F) {X : Gr} (hX : FewG X) (h : GraphOk X) : pureS F 147 [.agg (grC X)] = some (.b true) := by
  refine pure_of h147 ?_
  have hf := hX.few
  have n40 := h.n40
  have l1 : X.data.length ≤ 1000 := by have := hX.data; omega
  have l2 : X.ctrl.length ≤ 1000 := by have := hX.ctrl; omega
  have l3 : X.ctrli.length ≤ 1000 := by have := hX.ctrli; omega
  have a1 := sp_parts S hf l1 l2 l3
  have a2 := sp_ppo S hf l1 l2 l3
  have a3 := sp_rdw S hf
  have a4 := sp_det S hf
  unfold tupQ at a1
  obtain ⟨A1, A2, A3, A4, q, b1, e1, e2, e3, e4, hc, hl, hi⟩ := sp_mparts h36 h31 T p hX h
  obtain ⟨w', l', i', c'⟩ := parts_ok X
  have eqq := clo_same hc hl hi c' l' i'
  have b3 := mRdw T p hX h
  have b4 := mDet T p hX h
  have hs : F 172 = some A_xlaw09_same := h172
  have nq := h.nOf
  rw [nq] at a1 a2 a3 a4 w'
  have E1 : EqN X.evs.length A1 (partsQ X).ii := ⟨w'.ii, fun a b ha hb' => by rw [e1.2 a b ha hb', (eqq a b).1]⟩
  have E2 : EqN X.evs.length A2 (partsQ X).ic := ⟨w'.ic, fun a b ha hb' => by rw [e2.2 a b ha hb', (eqq a b).2.1]⟩
  have E3 : EqN X.evs.length A3 (partsQ X).ci := ⟨w'.ci, fun a b ha hb' => by rw [e3.2 a b ha hb', (eqq a b).2.2.1]⟩
  have E4 : EqN X.evs.length A4 (partsQ X).cc := ⟨w'.cc, fun a b ha hb' => by rw [e4.2 a b ha hb', (eqq a b).2.2.2]⟩
  have EP : EqN X.evs.length (opM (fun x y => x || y) (thM (thM (kindK X (kindQ 1 0 4) X.evs.length) A1 X.evs.length X.evs.length) (kindK X (kindQ 1 0 4) X.evs.length) X.evs.length X.evs.length) (thM (thM (kindK X (kindQ 1 0 4) X.evs.length) A2 X.evs.length X.evs.length) (kindK X (kindQ 2 0 4) X.evs.length) X.evs.length X.evs.length) X.evs.length) (ppoR X) := by
    have := (((eq_R h).then E1).then (eq_R h)).or (((eq_R h).then E2).then (eq_Wk h))
    unfold ppoR
    rw [nq]
    exact this
  have s4 : ∀ a b c d w x y z : AV, splice [a, b, c, d] 0 [w, x, y, z] = [w, x, y, z] := fun _ _ _ _ _ _ _ _ => rfl
  have r4 : ∀ x : AV, List.replicate 4 x = [x, x, x, x] := fun _ => rfl
  have b2 : pureS F 173 [.agg (grC X)] = some (.ptr (matC X.evs.length (opM (fun x y => x || y) (thM (thM (kindK X (kindQ 1 0 4) X.evs.length) A1 X.evs.length X.evs.length) (kindK X (kindQ 1 0 4) X.evs.length) X.evs.length X.evs.length) (thM (thM (kindK X (kindQ 1 0 4) X.evs.length) A2 X.evs.length X.evs.length) (kindK X (kindQ 2 0 4) X.evs.length) X.evs.length X.evs.length) X.evs.length))) := by
    refine pure_of p.xref19_Ppo ?_
    simp (disch := omega) only [A_xref19_Ppo, wp, Nat.reduceAdd, Nat.reduceMul, Nat.reduceSub, gl, T.k h, T.then h, T.or h, b1, r4, s4]
  have c1 := sp_sameG hs T.px.xref01_SamePairs T.px.xref01_R_Pairs S.pr n40 E1.2
  have c2 := sp_sameG hs T.px.xref01_SamePairs T.px.xref01_R_Pairs S.pr n40 E2.2
  have c3 := sp_sameG hs T.px.xref01_SamePairs T.px.xref01_R_Pairs S.pr n40 E3.2
  have c4 := sp_sameG hs T.px.xref01_SamePairs T.px.xref01_R_Pairs S.pr n40 E4.2
  have c5 := sp_sameG hs T.px.xref01_SamePairs T.px.xref01_R_Pairs S.pr n40 EP.2
  have c6 := sp_sameG hs T.px.xref01_SamePairs T.px.xref01_R_Pairs S.pr n40 (eq_rdw h).2
  have c7 := sp_sameG hs T.px.xref01_SamePairs T.px.xref01_R_Pairs S.pr n40 (eq_det h).2
  have x1 : ∀ (a b c d : AV) g, vExt 1 (.tup [a, b, c, d]) g = some (b, g) := fun _ _ _ _ _ => rfl
  have x0 : ∀ (a b c d : AV) g, vExt 0 (.tup [a, b, c, d]) g = some (a, g) := fun _ _ _ _ _ => rfl
  have x2 : ∀ (a b c d : AV) g, vExt 2 (.tup [a, b, c, d]) g = some (c, g) := fun _ _ _ _ _ => rfl
  have x3 : ∀ (a b c d : AV) g, vExt 3 (.tup [a, b, c, d]) g = some (d, g) := fun _ _ _ _ _ => rfl
  simp (disch := omega) only [A_xlaw19_all, x0, x1, x2, x3, o_ext, wp, Nat.reduceAdd, Nat.reduceMul, Nat.reduceSub, gl, a1, a2, a3, a4, b1, b2, b3, b4, c1, c2, c3, c4, c5, c6, c7, r4, s4]
set_option maxRecDepth 100000 in
set_option maxHeartbeats 4000000 in
theorem sp_ppoAny {f : Nat} (h36 : F 36 = some A_xref01_R_In) (h31 : F 31 = some A_xref01_R_Less) (hf : F f = some A_xlaw19_PpoAny) (h44 : F 44 = some A_xlaw00_FewGraph) (h144 : F 144 = some A_xlaw19_awake) (h169 : F 169 = some A_xlaw19_after) (h147 : F 147 = some A_xlaw19_all) (h172 : F 172 = some A_xlaw19_same) (S : PpoF F) (T : RefF F) (p : Pk_xref19 F) (X : Gr) : pureS F f [.agg (grC X)] = some (.b true) := by
  refine pure_of hf ?_
  have aw := sp_awake19 h144 h169 S
  obtain ⟨b1, e1, p1⟩ := sp_fewGraph h44 X
  cases b1
  case false => simp (disch := omega) only [A_xlaw19_PpoAny, wp, Nat.reduceAdd, Nat.reduceMul, Nat.reduceSub, gl, e1, aw]
  have hX := p1 rfl
  by_cases hl : (20 : Int) < X.evs.length
  case pos => simp (disch := omega) only [A_xlaw19_PpoAny, wp, Nat.reduceAdd, Nat.reduceMul, Nat.reduceSub, gl, e1, aw, hl]
  obtain ⟨b2, e2, p2⟩ := sp_check T.p6.xref06_Check T.p6.xref06_event T.p6.xref06_rf T.p6.xref06_co T.p6.xref06_rmw T.p6.xref06_deps T.p6.xref06_rising hX
  cases b2
  case false => simp (disch := omega) only [A_xlaw19_PpoAny, wp, Nat.reduceAdd, Nat.reduceMul, Nat.reduceSub, gl, e1, aw, hl, e2]
  have h := p2 rfl
  have ha := sp_all19 h36 h31 h147 h172 S T p hX h
  simp (disch := omega) only [A_xlaw19_PpoAny, wp, Nat.reduceAdd, Nat.reduceMul, Nat.reduceSub, gl, e1, aw, hl, e2, ha]
end Go.Ab
end
