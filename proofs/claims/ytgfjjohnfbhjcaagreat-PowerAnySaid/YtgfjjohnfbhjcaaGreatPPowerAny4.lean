/- What PowerAny rests on, part 4: lemmas, no claim of its own. -/
import Derived.Test.YtgfjjohnfbhjcaaGreatPPowerAny3
section
set_option linter.unusedVariables false
set_option linter.unusedSimpArgs false
namespace Go.Ab
variable {F : Funs}
set_option maxRecDepth 100000 in
theorem sp_of (h81 : F 81 = some A_graph_Of) (pr : Pk_rel F) (G : Gr) (l : List (Int × Int)) (t : Tok) (hl : l.length < 9000000000000000000) : pureS F 81 [.agg (grC G), .sl (pairsC l) l.length t] = some (.ptr (relC (clamp G.evs.length) (newR (clamp G.evs.length) l))) := by
  refine pure_of h81 ?_
  simp (disch := omega) only [A_graph_Of, wp, Nat.reduceAdd, Nat.reduceMul, Nat.reduceSub, gl, sp_new pr _ l _ hl]
structure EcoSt (X : Gr) (l : List (Int × Int)) (g : G) : Prop where
  gr : g.hp 0 = some (.cells (grC X) false)
  put : ∃ t, g.hp 2 = some (.cells [.sl (pairsC l) l.length t] false) ∧ Live g 2 t
  f4 : g.hp 4 = some (.cells [.fn 92 [] [.mp 2 0]] false)
  f7 : g.hp 7 = some (.cells [.fn 93 [] [.mp 0 0, .mp 4 0]] false)
  m9 : g.hp 9 = some (.map [(.s ⟨#[114, 102]⟩, .fn 94 [] [.mp 4 0]), (.s ⟨#[99, 111]⟩, .fn 95 [] [.mp 7 0]), (.s ⟨#[102, 114]⟩, .fn 96 [] [.mp 7 0])])
  nx : 9 < g.nx
def Kept (g g' : G) : Prop := g.nx ≤ g'.nx ∧ ∀ i, 9 < i → i < g.nx → CM (g.hp i) → g'.hp i = g.hp i
theorem Kept.refl (g : G) : Kept g g := ⟨Nat.le_refl _, fun _ _ _ _ => rfl⟩
theorem Kept.trans {g g1 g2 : G} (h : Kept g g1) (k : Kept g1 g2) : Kept g g2 := ⟨Nat.le_trans h.1 k.1, fun i h1 h2 h3 => by
  have e := h.2 i h1 h2 h3
  rw [← e]
  exact k.2 i h1 (Nat.lt_of_lt_of_le h2 h.1) (by rw [e]; exact h3)⟩
theorem EcoSt.same {X : Gr} {l : List (Int × Int)} {g g' : G} (h : EcoSt X l g) (k : Kept g g') (h9 : ∀ i, i ≤ 9 → g'.hp i = g.hp i) (ht : ∀ i b, g.hp i = some (.tok b) → g'.hp i = g.hp i) : EcoSt X l g' := by
  obtain ⟨t, h1, h2⟩ := h.put
  refine ⟨by rw [h9 0 (by omega)]; exact h.gr, ⟨t, by rw [h9 2 (by omega)]; exact h1, ?_⟩, by rw [h9 4 (by omega)]; exact h.f4, by rw [h9 7 (by omega)]; exact h.f7, by rw [h9 9 (by omega)]; exact h.m9, Nat.lt_of_lt_of_le h.nx k.1⟩
  rcases h2 with rfl | ⟨τ, rfl, hτ, hlt⟩
  · exact .inl rfl
  · exact .inr ⟨τ, rfl, by rw [ht τ _ hτ]; exact hτ, Nat.lt_of_lt_of_le hlt k.1⟩
set_option maxRecDepth 100000 in
theorem sp_put (h92 : F 92 = some A_eco_pairs_1) {X : Gr} {l : List (Int × Int)} {g : G} (S : EcoSt X l g) (hl : l.length < 1099511627776) (a b : Int) :
    ∃ v g', callS F 92 [.i .i64 a, .i .i64 b, .mp 2 0] g = some (v, g') ∧ EcoSt X (l ++ [(a, b)]) g' ∧ Kept g g' := by
  refine raw_of (P := fun v g' => EcoSt X (l ++ [(a, b)]) g' ∧ Kept g g') h92 ?_
  obtain ⟨t, hp, ht⟩ := S.put
  have hnx := S.nx
  have h0 := S.gr; have h4 := S.f4; have h7 := S.f7; have h9 := S.m9
  rcases ht with rfl | ⟨τ, rfl, hτ, hlt⟩
  · simp (disch := omega) only [A_eco_pairs_1, wp, Nat.reduceAdd, Nat.reduceMul, Nat.reduceSub, gl, hp, pairsC_len]
    refine ⟨_, rfl, ?_, ?_⟩
    · refine ⟨?_, ⟨.own (g.nx + 5) 2, ?_, ?_⟩, ?_, ?_, ?_, by dsimp only; omega⟩
      · simp (disch := omega) only [upd_ne]; exact h0
      · simp (disch := omega) only [upd_same, pairsC_app, pairsC_one, List.length_append]; rfl
      · exact .inr ⟨_, rfl, by simp (disch := omega) only [upd_same, upd_ne], by dsimp only; omega⟩
      · simp (disch := omega) only [upd_ne]; exact h4
      · simp (disch := omega) only [upd_ne]; exact h7
      · simp (disch := omega) only [upd_ne]; exact h9
    · refine ⟨by dsimp only; omega, fun i i1 i2 i3 => ?_⟩
      simp (disch := omega) only [upd_ne]
  · have n0 : τ ≠ 0 := fun h => by rw [h, h0] at hτ; cases hτ
    have n2 : τ ≠ 2 := fun h => by rw [h, hp] at hτ; cases hτ
    have n4 : τ ≠ 4 := fun h => by rw [h, h4] at hτ; cases hτ
    have n7 : τ ≠ 7 := fun h => by rw [h, h7] at hτ; cases hτ
    have n9 : τ ≠ 9 := fun h => by rw [h, h9] at hτ; cases hτ
    simp (disch := omega) only [A_eco_pairs_1, wp, Nat.reduceAdd, Nat.reduceMul, Nat.reduceSub, gl, hp, pairsC_len, hτ]
    refine ⟨_, rfl, ?_, ?_⟩
    · refine ⟨?_, ⟨.own (g.nx + 5) 2, ?_, ?_⟩, ?_, ?_, ?_, by dsimp only; omega⟩
      · simp (disch := omega) only [upd_ne]; exact h0
      · simp (disch := omega) only [upd_same, pairsC_app, pairsC_one, List.length_append]; rfl
      · exact .inr ⟨_, rfl, by simp (disch := omega) only [upd_same, upd_ne], by dsimp only; omega⟩
      · simp (disch := omega) only [upd_ne]; exact h4
      · simp (disch := omega) only [upd_ne]; exact h7
      · simp (disch := omega) only [upd_ne]; exact h9
    · refine ⟨by dsimp only; omega, fun i i1 i2 i3 => ?_⟩
      have : i ≠ τ := fun h => by rw [h, hτ] at i3; exact i3
      simp (disch := omega) only [upd_ne]
end Go.Ab
end
section
set_option linter.unusedVariables false
set_option linter.unusedSimpArgs false
namespace Go.Ab
variable {F : Funs}
def aftS (w : Int) (p : List Int × Bool) (i : Int) : List Int × Bool := (if p.2 then p.1 ++ [i] else p.1, p.2 || i == w)
def aft (w : Int) (c : List Int) : List Int × Bool := c.foldl (aftS w) ([], false)
def behL (a w : Int) (co : List (List Int)) : List (Int × Int) := co.flatMap fun c => (aft w c).1.map fun i => (a, i)
theorem aft_take {w : Int} {c : List Int} {k : Nat} (h : k < c.length) : aft w (c.take (k + 1)) = aftS w (aft w (c.take k)) (c.getD k 0) := by
  unfold aft
  rw [List.take_add_one, List.foldl_append, List.getElem?_eq_getElem h, List.getD_eq_getElem?_getD, List.getElem?_eq_getElem h]
  rfl
theorem behL_take {a w : Int} {co : List (List Int)} {k : Nat} (h : k < co.length) : behL a w (co.take (k + 1)) = behL a w (co.take k) ++ (aft w (co.getD k [])).1.map (fun i => (a, i)) := by
  unfold behL
  rw [List.take_add_one, List.flatMap_append, List.getElem?_eq_getElem h, List.getD_eq_getElem?_getD, List.getElem?_eq_getElem h]
  simp
theorem aft_len (w : Int) (c : List Int) : (aft w c).1.length ≤ c.length := by
  have key : ∀ (c : List Int) (p : List Int × Bool), (c.foldl (aftS w) p).1.length ≤ p.1.length + c.length := by
    intro c
    induction c with
    | nil => intro p; simp
    | cons i c ih =>
      intro p
      rw [List.foldl_cons]
      have := ih (aftS w p i)
      have h2 : (aftS w p i).1.length ≤ p.1.length + 1 := by unfold aftS; split <;> simp
      simp only [List.length_cons]; omega
  have := key c ([], false)
  unfold aft
  simpa using this
theorem behL_len (a w : Int) (co : List (List Int)) {b : Nat} (h : ∀ c ∈ co, c.length ≤ b) : (behL a w co).length ≤ co.length * b := by
  induction co with
  | nil => simp [behL]
  | cons c co ih =>
    have h1 := ih fun d hd => h d (List.mem_cons_of_mem _ hd)
    have h2 := aft_len w c
    have h3 := h c (List.mem_cons_self ..)
    unfold behL at h1 ⊢
    rw [List.flatMap_cons, List.length_append, List.length_map, List.length_cons, Nat.succ_mul]
    omega
theorem EcoSt.on {X : Gr} {l : List (Int × Int)} {g : G} (h : EcoSt X l g) {n : Nat} (hn : g.nx ≤ n) : EcoSt X l ⟨g.hp, n⟩ :=
  h.same ⟨hn, fun _ _ _ _ => rfl⟩ (fun _ _ => rfl) (fun _ _ _ => rfl)
theorem Kept.on {g g' : G} (h : Kept g g') {n : Nat} (hn : g'.nx ≤ n) : Kept g ⟨g'.hp, n⟩ := ⟨Nat.le_trans h.1 hn, h.2⟩
theorem Kept.from {g g' : G} {n : Nat} (hn : g.nx ≤ n) (h : Kept ⟨g.hp, n⟩ g') : Kept g g' := ⟨Nat.le_trans hn h.1, fun i h1 h2 h3 => h.2 i h1 (Nat.lt_of_lt_of_le h2 hn) h3⟩
set_option maxRecDepth 100000 in
set_option maxHeartbeats 4000000 in
theorem sp_behind (h93 : F 93 = some A_eco_pairs_2) (h92 : F 92 = some A_eco_pairs_1) {X : Gr} {l : List (Int × Int)} {g : G} (S : EcoSt X l g) (hl : l.length < 1000000) (hco : X.co.length ≤ 1000 ∧ ∀ c ∈ X.co, c.length ≤ 1000) (a w : Int) :
    ∃ v g', callS F 93 [.i .i64 a, .i .i64 w, .mp 0 0, .mp 4 0] g = some (v, g') ∧ EcoSt X (l ++ behL a w X.co) g' ∧ Kept g g' := by
  refine raw_of (P := fun v g' => EcoSt X (l ++ behL a w X.co) g' ∧ Kept g g') h93 ?_
  have h0 := S.gr
  have hnx := S.nx
  simp (disch := omega) only [A_eco_pairs_2, wp, Nat.reduceAdd, Nat.reduceMul, Nat.reduceSub, gl, h0]
  refine W_loop (fun q e g1 => ∃ k, q = X.co.length - k ∧ k ≤ X.co.length ∧ e 0 = .i .i64 a ∧ e 1 = .i .i64 w ∧ e 3 = .mp 4 0 ∧ e 12 = .sl (coC X.co) X.co.length .non ∧ e 13 = .i .i64 X.co.length ∧ e 14 = .i .i64 k ∧ EcoSt X (l ++ behL a w (X.co.take k)) g1 ∧ Kept g g1) X.co.length ?_ ?_
  · refine ⟨0, rfl, Nat.zero_le _, ?_⟩
    simp (disch := omega) only [wp, Nat.reduceAdd, Nat.reduceMul, Nat.reduceSub]
    refine ⟨rfl, ?_, (Kept.refl g).on (by omega)⟩
    have : l ++ behL a w (List.take 0 X.co) = l := by simp [behL]
    rw [this]
    exact S.on (by omega)
  · rintro q e g1 ⟨k, rfl, hk, e0, e1, e3, e12, e13, e14, S1, K1⟩
    by_cases hk' : k < X.co.length
    · have hk1 : (k : Int) < X.co.length := by omega
      have hwk := succ_wrap (k := k) (by omega)
      have hcp := co_part hk'
      have hbt := behL_take (a := a) (w := w) hk'
      have hcl : (X.co.getD k []).length ≤ 1000 := hco.2 _ (by rw [List.getD_eq_getElem?_getD, List.getElem?_eq_getElem hk']; exact List.getElem_mem hk')
      have hbl : (behL a w (X.co.take k)).length ≤ 1000000 := by
        have h1 := behL_len a w (X.co.take k) (b := 1000) fun c hc => hco.2 c (List.mem_of_mem_take hc)
        rw [List.length_take] at h1
        have h2 : min k X.co.length * 1000 ≤ 1000 * 1000 := Nat.mul_le_mul (by omega) (Nat.le_refl _)
        omega
      generalize X.co.getD k [] = c at hcp hbt hcl
      generalize behL a w (X.co.take k) = B at S1 hbt hbl
      simp (disch := omega) only [wp, Nat.reduceAdd, Nat.reduceMul, Nat.reduceSub, gl, e0, e1, e3, e12, e13, e14, hk1, hcp]
      refine W_loop (fun q e g2 => ∃ j, q = c.length - j ∧ j ≤ c.length ∧ e 0 = .i .i64 a ∧ e 1 = .i .i64 w ∧ e 3 = .mp 4 0 ∧ e 12 = .sl (coC X.co) X.co.length .non ∧ e 13 = .i .i64 X.co.length ∧ e 14 = .i .i64 k ∧ e 18 = .sl (intsC c) c.length .non ∧ e 19 = .i .i64 c.length ∧ e 20 = .i .i64 j ∧ e 8 = .b (aft w (c.take j)).2 ∧ EcoSt X (l ++ B ++ (aft w (c.take j)).1.map fun i => (a, i)) g2 ∧ Kept g g2) c.length ?_ ?_
      · refine ⟨0, rfl, Nat.zero_le _, ?_⟩
        simp (disch := omega) only [wp, Nat.reduceAdd, Nat.reduceMul, Nat.reduceSub, e0, e1, e3, e12, e13, e14]
        refine ⟨rfl, rfl, ?_, K1.on (by omega)⟩
        have : l ++ B ++ (aft w (List.take 0 c)).1.map (fun i => (a, i)) = l ++ B := by simp [aft]
        rw [this]
        exact S1.on (by omega)
      · rintro q e g2 ⟨j, rfl, hj, e0, e1, e3, e12, e13, e14, e18, e19, e20, e8, S2, K2⟩
        by_cases hj' : j < c.length
        · have hj1 : (j : Int) < c.length := by omega
          have hwj := succ_wrap (k := j) (by omega)
          have hip := ints_part hj'
          have hat := aft_take (w := w) hj'
          have hal := aft_len w (c.take j)
          rw [List.length_take] at hal
          generalize c.getD j 0 = i at hip hat
          generalize aft w (c.take j) = p at hat e8 S2 hal
          obtain ⟨acc, s⟩ := p
          simp only at e8 S2 hal
          have hL : (l ++ B ++ acc.map fun i => (a, i)).length < 1099511627776 := by
            rw [List.length_append, List.length_append, List.length_map]; omega
          cases s with
          | true =>
            have f4 := S2.f4
            have n2 := S2.nx
            simp (disch := omega) only [wp, Nat.reduceAdd, Nat.reduceMul, Nat.reduceSub, gl, e0, e1, e3, e12, e13, e14, e18, e19, e20, e8, hj1, hip, f4]
            refine bindO_call _ (sp_put h92 (S2.on (n := _) (by omega)) hL a i) ?_
            rintro v g3 ⟨S3, K3⟩
            simp (disch := omega) only [wp, Nat.reduceAdd, Nat.reduceMul, Nat.reduceSub, gl, e0, e1, e3, e12, e13, e14, e18, e19, e20, e8, hwj]
            have n3 := K3.1
            dsimp only at n3
            refine ⟨c.length - (j + 1), by omega, j + 1, rfl, by omega, rfl, ?_, ?_, ((K2.trans (K3.from (by omega))).on (by first | omega | (dsimp only; omega)))⟩
            · rw [hat]; rfl
            · rw [hat]
              simp only [aftS, if_true, List.map_append, List.map_cons, List.map_nil]
              rw [← List.append_assoc]
              exact S3.on (by first | omega | (dsimp only; omega))
          | false =>
            simp (disch := omega) only [wp, Nat.reduceAdd, Nat.reduceMul, Nat.reduceSub, gl, e0, e1, e3, e12, e13, e14, e18, e19, e20, e8, hj1, hip, hwj]
            refine ⟨c.length - (j + 1), by omega, j + 1, rfl, by omega, rfl, ?_, ?_, K2.on (by first | omega | (dsimp only; omega))⟩
            · rw [hat]; simp [aftS]
            · rw [hat]
              simp only [aftS, Bool.false_eq_true, if_false]
              exact S2.on (by first | omega | (dsimp only; omega))
        · obtain rfl : j = c.length := by omega
          have hj1 : ¬ ((c.length : Int) < c.length) := by omega
          simp (disch := omega) only [wp, Nat.reduceAdd, Nat.reduceMul, Nat.reduceSub, gl, e0, e1, e3, e12, e13, e14, e18, e19, e20, e8, hj1, hwk]
          refine ⟨X.co.length - (k + 1), by omega, k + 1, rfl, by omega, rfl, ?_, K2.on (by first | omega | (dsimp only; omega))⟩
          rw [hbt, ← List.append_assoc]
          rw [List.take_length] at S2
          exact S2.on (by first | omega | (dsimp only; omega))
    · obtain rfl : k = X.co.length := by omega
      have hk1 : ¬ ((X.co.length : Int) < X.co.length) := by omega
      simp (disch := omega) only [wp, Nat.reduceAdd, Nat.reduceMul, Nat.reduceSub, gl, e0, e1, e3, e12, e13, e14, hk1]
      rw [List.take_length] at S1
      exact ⟨_, rfl, S1.on (by first | omega | (dsimp only; omega)), K1.on (by first | omega | (dsimp only; omega))⟩
end Go.Ab
end
section
set_option linter.unusedVariables false
set_option linter.unusedSimpArgs false
namespace Go.Ab
variable {F : Funs}
theorem EcoSt.grow {X : Gr} {l : List (Int × Int)} {g g' : G} (h : EcoSt X l g) (hn : g.nx ≤ g'.nx) (ho : ∀ i, i < g.nx → g'.hp i = g.hp i) : EcoSt X l g' ∧ Kept g g' := by
  have h9 := h.nx
  obtain ⟨t, h1, h2⟩ := h.put
  refine ⟨⟨by rw [ho 0 (by omega)]; exact h.gr, ⟨t, by rw [ho 2 (by omega)]; exact h1, ?_⟩, by rw [ho 4 (by omega)]; exact h.f4, by rw [ho 7 (by omega)]; exact h.f7, by rw [ho 9 (by omega)]; exact h.m9, by omega⟩, hn, fun i _ hi _ => ho i hi⟩
  rcases h2 with rfl | ⟨τ, rfl, hτ, hlt⟩
  · exact .inl rfl
  · exact .inr ⟨τ, rfl, by rw [ho τ hlt]; exact hτ, by omega⟩
def rfS (i w : Int) (e : Ev) : List (Int × Int) := if e.kd = 1 then [(w, i)] else []
def coS (co : List (List Int)) (i w : Int) (e : Ev) : List (Int × Int) := if e.kd = 2 then behL i i co else []
def frS (co : List (List Int)) (i w : Int) (e : Ev) : List (Int × Int) := if e.kd = 1 then behL i w co else []
set_option maxRecDepth 100000 in
theorem sp_94 (h94 : F 94 = some A_eco_pairs_3) (h92 : F 92 = some A_eco_pairs_1) {X : Gr} {l : List (Int × Int)} {g : G} (S : EcoSt X l g) (hl : l.length < 1000000) (i w : Int) (e : Ev) :
    ∃ v g', callS F 94 [.i .i64 i, .i .i64 w, .agg (evC e), .mp 4 0] g = some (v, g') ∧ EcoSt X (l ++ rfS i w e) g' ∧ Kept g g' := by
  refine raw_of (P := fun v g' => EcoSt X (l ++ rfS i w e) g' ∧ Kept g g') h94 ?_
  have hnx := S.nx
  have f4 := S.f4
  have grow := fun (n : Nat) (hn : g.nx ≤ n) => S.grow (g' := ⟨upd g.hp g.nx (some (.cells (evC e) false)), n⟩) hn fun i hi => by
    show upd _ _ _ _ = _
    rw [upd_ne _ _ (by omega)]
  by_cases hk : e.kd = 1
  · have hk1 : (e.kd == 1) = true := by simp [hk]
    simp (disch := omega) only [A_eco_pairs_3, wp, Nat.reduceAdd, Nat.reduceMul, Nat.reduceSub, gl, hk1, f4]
    obtain ⟨S1, K1⟩ := grow (g.nx + 1 + 3 + 4) (by omega)
    refine bindO_call _ (sp_put h92 S1 (by omega) w i) ?_
    rintro v g3 ⟨S3, K3⟩
    simp (disch := omega) only [wp, Nat.reduceAdd, Nat.reduceMul, Nat.reduceSub, gl]
    have : rfS i w e = [(w, i)] := if_pos hk
    rw [this]
    exact ⟨_, rfl, S3, K1.trans K3⟩
  · have hk1 : (e.kd == 1) = false := by simp [hk]
    simp (disch := omega) only [A_eco_pairs_3, wp, Nat.reduceAdd, Nat.reduceMul, Nat.reduceSub, gl, hk1, f4]
    have : l ++ rfS i w e = l := by rw [rfS, if_neg hk]; simp
    rw [this]
    exact ⟨_, rfl, (grow _ (by omega)).1, (grow _ (by omega)).2⟩
set_option maxRecDepth 100000 in
theorem sp_95 (h95 : F 95 = some A_eco_pairs_4) (h93 : F 93 = some A_eco_pairs_2) (h92 : F 92 = some A_eco_pairs_1) {X : Gr} {l : List (Int × Int)} {g : G} (S : EcoSt X l g) (hl : l.length < 1000000) (hco : X.co.length ≤ 1000 ∧ ∀ c ∈ X.co, c.length ≤ 1000) (i w : Int) (e : Ev) :
    ∃ v g', callS F 95 [.i .i64 i, .i .i64 w, .agg (evC e), .mp 7 0] g = some (v, g') ∧ EcoSt X (l ++ coS X.co i w e) g' ∧ Kept g g' := by
  refine raw_of (P := fun v g' => EcoSt X (l ++ coS X.co i w e) g' ∧ Kept g g') h95 ?_
  have hnx := S.nx
  have f7 := S.f7
  have grow := fun (n : Nat) (hn : g.nx ≤ n) => S.grow (g' := ⟨upd g.hp g.nx (some (.cells (evC e) false)), n⟩) hn fun i hi => by
    show upd _ _ _ _ = _
    rw [upd_ne _ _ (by omega)]
  by_cases hk : e.kd = 2
  · have hk1 : (e.kd == 2) = true := by simp [hk]
    simp (disch := omega) only [A_eco_pairs_4, wp, Nat.reduceAdd, Nat.reduceMul, Nat.reduceSub, gl, hk1, f7]
    obtain ⟨S1, K1⟩ := grow (g.nx + 1 + 3 + 4) (by omega)
    refine bindO_call _ (sp_behind h93 h92 S1 hl hco i i) ?_
    rintro v g3 ⟨S3, K3⟩
    simp (disch := omega) only [wp, Nat.reduceAdd, Nat.reduceMul, Nat.reduceSub, gl]
    have : coS X.co i w e = behL i i X.co := if_pos hk
    rw [this]
    exact ⟨_, rfl, S3, K1.trans K3⟩
  · have hk1 : (e.kd == 2) = false := by simp [hk]
    simp (disch := omega) only [A_eco_pairs_4, wp, Nat.reduceAdd, Nat.reduceMul, Nat.reduceSub, gl, hk1, f7]
    have : l ++ coS X.co i w e = l := by rw [coS, if_neg hk]; simp
    rw [this]
    exact ⟨_, rfl, (grow _ (by omega)).1, (grow _ (by omega)).2⟩
set_option maxRecDepth 100000 in
theorem sp_96 (h96 : F 96 = some A_eco_pairs_5) (h93 : F 93 = some A_eco_pairs_2) (h92 : F 92 = some A_eco_pairs_1) {X : Gr} {l : List (Int × Int)} {g : G} (S : EcoSt X l g) (hl : l.length < 1000000) (hco : X.co.length ≤ 1000 ∧ ∀ c ∈ X.co, c.length ≤ 1000) (i w : Int) (e : Ev) :
    ∃ v g', callS F 96 [.i .i64 i, .i .i64 w, .agg (evC e), .mp 7 0] g = some (v, g') ∧ EcoSt X (l ++ frS X.co i w e) g' ∧ Kept g g' := by
  refine raw_of (P := fun v g' => EcoSt X (l ++ frS X.co i w e) g' ∧ Kept g g') h96 ?_
  have hnx := S.nx
  have f7 := S.f7
  have grow := fun (n : Nat) (hn : g.nx ≤ n) => S.grow (g' := ⟨upd g.hp g.nx (some (.cells (evC e) false)), n⟩) hn fun i hi => by
    show upd _ _ _ _ = _
    rw [upd_ne _ _ (by omega)]
  by_cases hk : e.kd = 1
  · have hk1 : (e.kd == 1) = true := by simp [hk]
    simp (disch := omega) only [A_eco_pairs_5, wp, Nat.reduceAdd, Nat.reduceMul, Nat.reduceSub, gl, hk1, f7]
    obtain ⟨S1, K1⟩ := grow (g.nx + 1 + 3 + 4) (by omega)
    refine bindO_call _ (sp_behind h93 h92 S1 hl hco i w) ?_
    rintro v g3 ⟨S3, K3⟩
    simp (disch := omega) only [wp, Nat.reduceAdd, Nat.reduceMul, Nat.reduceSub, gl]
    have : frS X.co i w e = behL i w X.co := if_pos hk
    rw [this]
    exact ⟨_, rfl, S3, K1.trans K3⟩
  · have hk1 : (e.kd == 1) = false := by simp [hk]
    simp (disch := omega) only [A_eco_pairs_5, wp, Nat.reduceAdd, Nat.reduceMul, Nat.reduceSub, gl, hk1, f7]
    have : l ++ frS X.co i w e = l := by rw [frS, if_neg hk]; simp
    rw [this]
    exact ⟨_, rfl, (grow _ (by omega)).1, (grow _ (by omega)).2⟩
end Go.Ab
end
section
set_option linter.unusedVariables false
set_option linter.unusedSimpArgs false
namespace Go.Ab
variable {F : Funs}
def Few (X : Gr) : Prop := X.evs.length ≤ 60 ∧ X.co.length ≤ 6 ∧ ∀ c ∈ X.co, c.length ≤ 60
def wOf (X : Gr) (i : Nat) : Int := if i < X.rf.length then X.rf.getD i 0 else -1
def pairsE (stp : Int → Int → Ev → List (Int × Int)) (X : Gr) (k : Nat) : List (Int × Int) := (List.range k).flatMap fun (i : Nat) => stp (i : Int) (wOf X i) (X.evs.getD i ev0)
theorem pairsE_succ (stp X k) : pairsE stp X (k + 1) = pairsE stp X k ++ stp k (wOf X k) (X.evs.getD k ev0) := by simp [pairsE, List.range_succ]
theorem pairsE_len {stp X} (h : ∀ i w e, (stp i w e).length ≤ 1000) : ∀ k, (pairsE stp X k).length ≤ k * 1000
  | 0 => by simp [pairsE]
  | k + 1 => by
    rw [pairsE_succ, List.length_append, Nat.succ_mul]
    have h1 := pairsE_len (X := X) h k
    have h2 := h k (wOf X k) (X.evs.getD k ev0)
    omega
set_option maxRecDepth 100000 in
set_option maxHeartbeats 4000000 in
theorem sp_pairsE (h80 : F 80 = some A_eco_pairs) (h81 : F 81 = some A_graph_Of) (pr : Pk_rel F) {X : Gr} (hX : Few X) {s : ByteArray} {fid : Nat} {caps : List AV} {stp : Int → Int → Ev → List (Int × Int)}
    (hm : mlook [(.s ⟨#[114, 102]⟩, .fn 94 [] [.mp 4 0]), (.s ⟨#[99, 111]⟩, .fn 95 [] [.mp 7 0]), (.s ⟨#[102, 114]⟩, .fn 96 [] [.mp 7 0])] s = some (.fn fid [] caps))
    (hlen : ∀ i w e, (stp i w e).length ≤ 1000)
    (hstp : ∀ (l : List (Int × Int)) (g : G), EcoSt X l g → l.length < 1000000 → ∀ (i w : Int) (e : Ev), ∃ v g', callS F fid ([.i .i64 i, .i .i64 w, .agg (evC e)] ++ caps) g = some (v, g') ∧ EcoSt X (l ++ stp i w e) g' ∧ Kept g g') :
    pureS F 80 [.agg (grC X), .s s] = some (.ptr (relC (clamp X.evs.length) (newR (clamp X.evs.length) (pairsE stp X X.evs.length)))) := by
  refine pure_of h80 ?_
  have e1 : mlook [(AV.s ⟨#[114, 102]⟩, AV.fn 94 [] [.mp 4 0])] ⟨#[99, 111]⟩ = none := by rfl
  have e2 : mlook [(AV.s ⟨#[114, 102]⟩, AV.fn 94 [] [.mp 4 0]), (AV.s ⟨#[99, 111]⟩, AV.fn 95 [] [.mp 7 0])] ⟨#[102, 114]⟩ = none := by rfl
  have e0 : mlook [] (⟨#[114, 102]⟩ : ByteArray) = none := rfl
  have hev := hX.1
  simp (disch := omega) only [A_eco_pairs, wp, Nat.reduceAdd, Nat.reduceMul, Nat.reduceSub, gl, e0, e1, e2]
  refine W_loop (fun q e g => ∃ k, q = X.evs.length - k ∧ k ≤ X.evs.length ∧ e 1 = .s s ∧ e 2 = .mp 0 0 ∧ e 5 = .mp 2 0 ∧ e 8 = .mm 9 ∧ e 20 = .sl (evsC X.evs) X.evs.length .non ∧ e 21 = .i .i64 X.evs.length ∧ e 22 = .i .i64 k ∧ EcoSt X (pairsE stp X k) g) X.evs.length ?_ ?_
  · refine ⟨0, rfl, Nat.zero_le _, ?_⟩
    simp (disch := omega) only [wp, Nat.reduceAdd, Nat.reduceMul, Nat.reduceSub]
    refine ⟨rfl, ?_, ⟨.rig, ?_, .inl rfl⟩, ?_, ?_, ?_, ?_⟩
    · simp (disch := omega) only [upd_same, upd_ne]
    · simp (disch := omega) only [upd_same, upd_ne]; rfl
    · simp (disch := omega) only [upd_same, upd_ne]
    · simp (disch := omega) only [upd_same, upd_ne]
    · simp (disch := omega) only [upd_same, upd_ne]
    · first | omega | (dsimp only; omega)
  · rintro q e g ⟨k, rfl, hk, e1, e2, e5, e8, e20, e21, e22, S⟩
    have hnx := S.nx
    have h0 := S.gr
    have h9 := S.m9
    by_cases hk' : k < X.evs.length
    · have hk1 : (k : Int) < X.evs.length := by omega
      have hwk := succ_wrap (k := k) (by omega)
      have hp := ev_part hk'
      have hs := pairsE_succ stp X k
      have hl := pairsE_len (X := X) hlen k
      generalize hE : X.evs.getD k ev0 = ev at hp hs
      have grow : ∀ n, g.nx ≤ n → EcoSt X (pairsE stp X k) ⟨upd (upd g.hp (g.nx + 1 + 3) (some (.cells (List.replicate 5 (AV.i .i64 0) ++ [.b false]) false))) (g.nx + 1 + 3) (some (.cells (evC ev) false)), n⟩ := fun n hn =>
        (S.grow hn fun i hi => by
          show upd _ _ _ _ = _
          rw [upd_ne _ _ (by omega), upd_ne _ _ (by omega)]).1
      by_cases hr : k < X.rf.length
      · have hr1 : (k : Int) < X.rf.length := by omega
        have hip := ints_part hr
        have hw : wOf X k = X.rf.getD k 0 := if_pos hr
        rw [hw] at hs
        generalize X.rf.getD k 0 = w at hip hs
        simp (disch := omega) only [wp, Nat.reduceAdd, Nat.reduceMul, Nat.reduceSub, gl, e1, e2, e5, e8, e20, e21, e22, h0, h9, hk1, hp, hr1, hip, hm]
        refine bindO_call _ (hstp _ _ (grow _ (by omega)) (by omega) k w ev) ?_
        rintro v g3 ⟨S3, K3⟩
        simp (disch := omega) only [wp, Nat.reduceAdd, Nat.reduceMul, Nat.reduceSub, gl, e1, e2, e5, e8, e20, e21, e22, hwk]
        refine ⟨X.evs.length - (k + 1), by omega, k + 1, rfl, by omega, rfl, ?_⟩
        rw [hs]
        exact S3.on (by first | omega | (dsimp only; omega))
      · have hr1 : ¬ (k : Int) < X.rf.length := by omega
        have hw : wOf X k = -1 := if_neg hr
        rw [hw] at hs
        simp (disch := omega) only [wp, Nat.reduceAdd, Nat.reduceMul, Nat.reduceSub, gl, e1, e2, e5, e8, e20, e21, e22, h0, h9, hk1, hp, hr1, hm]
        refine bindO_call _ (hstp _ _ (grow _ (by omega)) (by omega) k (-1) ev) ?_
        rintro v g3 ⟨S3, K3⟩
        simp (disch := omega) only [wp, Nat.reduceAdd, Nat.reduceMul, Nat.reduceSub, gl, e1, e2, e5, e8, e20, e21, e22, hwk]
        refine ⟨X.evs.length - (k + 1), by omega, k + 1, rfl, by omega, rfl, ?_⟩
        rw [hs]
        exact S3.on (by first | omega | (dsimp only; omega))
    · obtain rfl : k = X.evs.length := by omega
      have hk1 : ¬ ((X.evs.length : Int) < X.evs.length) := by omega
      obtain ⟨t, hp, ht⟩ := S.put
      have hl := pairsE_len (X := X) hlen X.evs.length
      have hof := sp_of h81 pr X (pairsE stp X X.evs.length) .non (by omega)
      simp (disch := omega) only [wp, Nat.reduceAdd, Nat.reduceMul, Nat.reduceSub, gl, e1, e2, e5, e8, e20, e21, e22, h0, hk1, hp, hof]
end Go.Ab
end
section
set_option linter.unusedVariables false
set_option linter.unusedSimpArgs false
namespace Go.Ab
variable {F : Funs}
def nOf (X : Gr) : Nat := clamp X.evs.length
def relE (stp : Int → Int → Ev → List (Int × Int)) (X : Gr) : Rw := newR (nOf X) (pairsE stp X X.evs.length)
theorem few_beh {X : Gr} (hX : Few X) (i w : Int) : (behL i w X.co).length ≤ 1000 := by
  have h1 := behL_len i w X.co hX.2.2
  have h2 : X.co.length * 60 ≤ 6 * 60 := Nat.mul_le_mul hX.2.1 (Nat.le_refl _)
  omega
theorem few_co {X : Gr} (hX : Few X) : X.co.length ≤ 1000 ∧ ∀ c ∈ X.co, c.length ≤ 1000 := ⟨by have := hX.2.1; omega, fun c hc => by have := hX.2.2 c hc; omega⟩
set_option maxRecDepth 100000 in
theorem sp_Rf (pe : Pk_eco F) (h81 : F 81 = some A_graph_Of) (pr : Pk_rel F) {X : Gr} (hX : Few X) : pureS F 48 [.agg (grC X)] = some (.ptr (relC (nOf X) (relE rfS X))) := by
  refine pure_of pe.eco_Rf ?_
  have h := sp_pairsE pe.eco_pairs h81 pr hX (s := ⟨#[114, 102]⟩) (fid := 94) (caps := [.mp 4 0]) (stp := rfS) (by rfl) (fun i w e => by unfold rfS; split <;> simp) (fun l g S hl i w e => sp_94 pe.eco_pairs_3 pe.eco_pairs_1 S hl i w e)
  simp (disch := omega) only [A_eco_Rf, wp, Nat.reduceAdd, Nat.reduceMul, Nat.reduceSub, gl, h]
  rfl
set_option maxRecDepth 100000 in
theorem sp_Co (pe : Pk_eco F) (h81 : F 81 = some A_graph_Of) (pr : Pk_rel F) {X : Gr} (hX : Few X) : pureS F 49 [.agg (grC X)] = some (.ptr (relC (nOf X) (relE (coS X.co) X))) := by
  refine pure_of pe.eco_Co ?_
  have h := sp_pairsE pe.eco_pairs h81 pr hX (s := ⟨#[99, 111]⟩) (fid := 95) (caps := [.mp 7 0]) (stp := coS X.co) (by rfl) (fun i w e => by unfold coS; split; exact few_beh hX i i; simp) (fun l g S hl i w e => sp_95 pe.eco_pairs_4 pe.eco_pairs_2 pe.eco_pairs_1 S hl (few_co hX) i w e)
  simp (disch := omega) only [A_eco_Co, wp, Nat.reduceAdd, Nat.reduceMul, Nat.reduceSub, gl, h]
  rfl
set_option maxRecDepth 100000 in
theorem sp_Fr (pe : Pk_eco F) (h81 : F 81 = some A_graph_Of) (pr : Pk_rel F) {X : Gr} (hX : Few X) : pureS F 50 [.agg (grC X)] = some (.ptr (relC (nOf X) (relE (frS X.co) X))) := by
  refine pure_of pe.eco_Fr ?_
  have h := sp_pairsE pe.eco_pairs h81 pr hX (s := ⟨#[102, 114]⟩) (fid := 96) (caps := [.mp 7 0]) (stp := frS X.co) (by rfl) (fun i w e => by unfold frS; split; exact few_beh hX i w; simp) (fun l g S hl i w e => sp_96 pe.eco_pairs_5 pe.eco_pairs_2 pe.eco_pairs_1 S hl (few_co hX) i w e)
  simp (disch := omega) only [A_eco_Fr, wp, Nat.reduceAdd, Nat.reduceMul, Nat.reduceSub, gl, h]
  rfl
theorem nOf_le (X : Gr) : nOf X ≤ 40 := clamp_le _
def okP (so : Ev → Ev → Bool) (X : Gr) (p : Int × Int) : Bool := decide (p.1 < X.evs.length) && decide (p.2 < X.evs.length) && so (X.evs.getD p.1.toNat ev0) (X.evs.getD p.2.toNat ev0)
theorem filter_take {P : Int × Int → Bool} {l : List (Int × Int)} {k : Nat} (h : k < l.length) : (l.take (k + 1)).filter P = (l.take k).filter P ++ (if P (l.getD k (0, 0)) then [l.getD k (0, 0)] else []) := by
  rw [List.take_add_one, List.filter_append, List.getElem?_eq_getElem h, List.getD_eq_getElem?_getD, List.getElem?_eq_getElem h]
  simp only [Option.toList, Option.getD_some, List.filter_cons, List.filter_nil]
set_option maxRecDepth 100000 in
set_option maxHeartbeats 8000000 in
theorem sp_someE (pe : Pk_eco F) (h81 : F 81 = some A_graph_Of) (pr : Pk_rel F) {X : Gr} {n : Nat} (hn : n ≤ 40) (R : Rw) {fid : Nat} {so : Ev → Ev → Bool} (hso : ∀ x y, pureS F fid [.agg (evC x), .agg (evC y)] = some (.b (so x y))) :
    pureS F 57 [.agg (grC X), .ptr (relC n R), .fn fid [] []] = some (.ptr (relC (nOf X) (newR (nOf X) ((pairsR n R).filter (okP so X))))) := by
  refine pure_of pe.eco_some ?_
  have hlen := pairsR_len hn R
  simp (disch := omega) only [A_eco_some, wp, Nat.reduceAdd, Nat.reduceMul, Nat.reduceSub, gl, sp_pairs pr hn]
  generalize hL : pairsR n R = L at hlen
  refine W_loop (fun q e g => ∃ k t, q = L.length - k ∧ k ≤ L.length ∧ e 2 = .fn fid [] [] ∧ e 3 = .mp 0 0 ∧ e 11 = .sl (pairsC L) L.length .non ∧ e 12 = .i .i64 L.length ∧ e 13 = .i .i64 k ∧ e 7 = .sl (pairsC ((L.take k).filter (okP so X))) ((L.take k).filter (okP so X)).length t ∧ Live g 2 t ∧ g.hp 0 = some (.cells (grC X) false) ∧ 0 < g.nx) L.length ?_ ?_
  · refine ⟨0, .rig, rfl, Nat.zero_le _, ?_⟩
    simp (disch := omega) only [wp, Nat.reduceAdd, Nat.reduceMul, Nat.reduceSub]
    exact ⟨rfl, rfl, .inl rfl, by first | omega | (dsimp only; omega)⟩
  · rintro q e g ⟨k, t, rfl, hk, e2, e3, e11, e12, e13, e7, ht, h0, hnx⟩
    by_cases hk' : k < L.length
    · have hk1 : (k : Int) < L.length := by omega
      have hw := succ_wrap (k := k) (by omega)
      have hp := pairs_part hk'
      have hf := filter_take (P := okP so X) hk'
      have hfl : ((L.take k).filter (okP so X)).length ≤ 1600 := by
        have h1 := List.length_filter_le (okP so X) (L.take k)
        rw [List.length_take] at h1; omega
      have hmem : L.getD k (0, 0) ∈ pairsR n R := by
        rw [hL, List.getD_eq_getElem?_getD, List.getElem?_eq_getElem hk']
        exact List.getElem_mem hk'
      obtain ⟨m1, m2, m3, m4⟩ := pairsR_mem hmem
      generalize L.getD k (0, 0) = p at hp hf m1 m2 m3 m4
      generalize (L.take k).filter (okP so X) = B at e7 hf hfl
      obtain ⟨a, b⟩ := p
      simp only at m1 m2 m3 m4
      have n1 : 0 ≠ g.nx + 1 + 2 := by omega
      have hno : ∀ {x}, okP so X (a, b) = x → x = false → (L.take (k + 1)).filter (okP so X) = B := fun h1 h2 => by rw [hf, h1, h2]; simp
      by_cases iA : a < X.evs.length
      · by_cases iB : b < X.evs.length
        · have pA := ev_part (l := X.evs) (k := a.toNat) (by omega)
          have pB := ev_part (l := X.evs) (k := b.toNat) (by omega)
          cases hs : so (X.evs.getD a.toNat ev0) (X.evs.getD b.toNat ev0) with
          | true =>
            have hok : okP so X (a, b) = true := by simp only [okP, hs, decide_eq_true iA, decide_eq_true iB, Bool.and_true]
            rw [if_pos hok] at hf
            rcases ht with rfl | ⟨τ, rfl, hτ, hlt⟩
            · simp (disch := omega) only [wp, Nat.reduceAdd, Nat.reduceMul, Nat.reduceSub, gl, e2, e3, e11, e12, e13, e7, h0, hk1, hp, iA, iB, pA, pB, hso, hs, pairsC_len, hw]
              refine ⟨L.length - (k + 1), by omega, k + 1, ?_⟩
              rw [hf, pairsC_app, pairsC_one, List.length_append]
              exact ⟨_, rfl, by omega, rfl, rfl, .inr ⟨_, rfl, upd_same _ _ _, by first | omega | (dsimp only; omega)⟩, by first | omega | (dsimp only; omega)⟩
            · have n0 : τ ≠ 0 := fun h => by rw [h, h0] at hτ; cases hτ
              simp (disch := omega) only [wp, Nat.reduceAdd, Nat.reduceMul, Nat.reduceSub, gl, e2, e3, e11, e12, e13, e7, h0, hk1, hp, iA, iB, pA, pB, hso, hs, pairsC_len, hw, hτ]
              refine ⟨L.length - (k + 1), by omega, k + 1, ?_⟩
              rw [hf, pairsC_app, pairsC_one, List.length_append]
              exact ⟨_, rfl, by omega, rfl, rfl, .inr ⟨_, rfl, upd_same _ _ _, by first | omega | (dsimp only; omega)⟩, by first | omega | (dsimp only; omega)⟩
          | false =>
            have hB := hno (x := false) (by simp only [okP, hs, Bool.and_false]) rfl
            simp (disch := omega) only [wp, Nat.reduceAdd, Nat.reduceMul, Nat.reduceSub, gl, e2, e3, e11, e12, e13, e7, h0, hk1, hp, iA, iB, pA, pB, hso, hs, hw]
            refine ⟨L.length - (k + 1), by omega, k + 1, t, rfl, by omega, rfl, ?_⟩
            rw [hB]
            refine ⟨rfl, ?_, by first | omega | (dsimp only; omega)⟩
            rcases ht with rfl | ⟨τ, rfl, hτ, hlt⟩
            · exact .inl rfl
            · exact .inr ⟨τ, rfl, by simp (disch := omega) only [upd_ne]; exact hτ, by first | omega | (dsimp only; omega)⟩
        · have hB := hno (x := false) (by simp [okP, iB]) rfl
          simp (disch := omega) only [wp, Nat.reduceAdd, Nat.reduceMul, Nat.reduceSub, gl, e2, e3, e11, e12, e13, e7, h0, hk1, hp, iA, iB, hw]
          refine ⟨L.length - (k + 1), by omega, k + 1, t, rfl, by omega, rfl, ?_⟩
          rw [hB]
          refine ⟨rfl, ?_, by first | omega | (dsimp only; omega)⟩
          rcases ht with rfl | ⟨τ, rfl, hτ, hlt⟩
          · exact .inl rfl
          · exact .inr ⟨τ, rfl, by simp (disch := omega) only [upd_ne]; exact hτ, by first | omega | (dsimp only; omega)⟩
      · have hB := hno (x := false) (by simp [okP, iA]) rfl
        simp (disch := omega) only [wp, Nat.reduceAdd, Nat.reduceMul, Nat.reduceSub, gl, e2, e3, e11, e12, e13, e7, h0, hk1, hp, iA, hw]
        refine ⟨L.length - (k + 1), by omega, k + 1, t, rfl, by omega, rfl, ?_⟩
        rw [hB]
        refine ⟨rfl, ?_, by first | omega | (dsimp only; omega)⟩
        rcases ht with rfl | ⟨τ, rfl, hτ, hlt⟩
        · exact .inl rfl
        · exact .inr ⟨τ, rfl, by simp (disch := omega) only [upd_ne]; exact hτ, by first | omega | (dsimp only; omega)⟩
    · obtain rfl : k = L.length := by omega
      have hk1 : ¬ ((L.length : Int) < L.length) := by omega
      rw [List.take_length] at e7
      have hfl : (L.filter (okP so X)).length ≤ 1600 := by
        have h1 := List.length_filter_le (okP so X) L
        omega
      have hof := sp_of h81 pr X (L.filter (okP so X)) .non (by omega)
      simp (disch := omega) only [wp, Nat.reduceAdd, Nat.reduceMul, Nat.reduceSub, gl, e2, e3, e11, e12, e13, e7, h0, hk1, hof]
      rfl
end Go.Ab
end
section
set_option linter.unusedVariables false
set_option linter.unusedSimpArgs false
namespace Go.Ab
variable {F : Funs}
def inner (x y : Ev) : Bool := x.th == y.th
def outer (x y : Ev) : Bool := x.th != y.th
def locP (x y : Ev) : Bool := x.kd != 3 && y.kd != 3 && x.lc == y.lc
set_option maxRecDepth 100000 in
theorem sp_58 (h : F 58 = some A_eco_Inner_1) (x y : Ev) : pureS F 58 [.agg (evC x), .agg (evC y)] = some (.b (inner x y)) := by
  refine pure_of h ?_
  simp (disch := omega) only [A_eco_Inner_1, wp, Nat.reduceAdd, Nat.reduceMul, Nat.reduceSub, gl]
  rfl
set_option maxRecDepth 100000 in
theorem sp_59 (h : F 59 = some A_eco_Outer_1) (x y : Ev) : pureS F 59 [.agg (evC x), .agg (evC y)] = some (.b (outer x y)) := by
  refine pure_of h ?_
  simp (disch := omega) only [A_eco_Outer_1, wp, Nat.reduceAdd, Nat.reduceMul, Nat.reduceSub, gl]
  rfl
set_option maxRecDepth 100000 in
theorem sp_61 (h : F 61 = some A_eco_Loc_1) (x y : Ev) : pureS F 61 [.agg (evC x), .agg (evC y)] = some (.b (locP x y)) := by
  refine pure_of h ?_
  unfold locP
  cases h1 : (x.kd != 3) with
  | true =>
    cases h2 : (y.kd != 3) with
    | true => simp (disch := omega) only [A_eco_Loc_1, wp, Nat.reduceAdd, Nat.reduceMul, Nat.reduceSub, gl, h1, h2]
    | false => simp (disch := omega) only [A_eco_Loc_1, wp, Nat.reduceAdd, Nat.reduceMul, Nat.reduceSub, gl, h1, h2]
  | false => simp (disch := omega) only [A_eco_Loc_1, wp, Nat.reduceAdd, Nat.reduceMul, Nat.reduceSub, gl, h1]
def partR (so : Ev → Ev → Bool) (X : Gr) (n : Nat) (R : Rw) : Rw := newR (nOf X) ((pairsR n R).filter (okP so X))
set_option maxRecDepth 100000 in
theorem sp_Inner (pe : Pk_eco F) (h81 : F 81 = some A_graph_Of) (pr : Pk_rel F) {X : Gr} {n : Nat} (hn : n ≤ 40) (R : Rw) : pureS F 39 [.agg (grC X), .ptr (relC n R)] = some (.ptr (relC (nOf X) (partR inner X n R))) := by
  refine pure_of pe.eco_Inner ?_
  have h := sp_someE pe h81 pr (X := X) hn R (sp_58 pe.eco_Inner_1)
  simp (disch := omega) only [A_eco_Inner, wp, Nat.reduceAdd, Nat.reduceMul, Nat.reduceSub, gl, h]
  rfl
set_option maxRecDepth 100000 in
theorem sp_Outer (pe : Pk_eco F) (h81 : F 81 = some A_graph_Of) (pr : Pk_rel F) {X : Gr} {n : Nat} (hn : n ≤ 40) (R : Rw) : pureS F 40 [.agg (grC X), .ptr (relC n R)] = some (.ptr (relC (nOf X) (partR outer X n R))) := by
  refine pure_of pe.eco_Outer ?_
  have h := sp_someE pe h81 pr (X := X) hn R (sp_59 pe.eco_Outer_1)
  simp (disch := omega) only [A_eco_Outer, wp, Nat.reduceAdd, Nat.reduceMul, Nat.reduceSub, gl, h]
  rfl
end Go.Ab
end
section
set_option linter.unusedVariables false
set_option linter.unusedSimpArgs false
namespace Go.Ab
variable {F : Funs}
def poB (a b : Nat) (x y : Ev) : Bool := ((x.th == 0) && (y.th != 0)) || ((x.th == y.th) && ((x.th != 0) && decide (a < b)))
def poReg : ACode := match A_graph_Po.body with
  | .seq _ (.seq _ (.seq (.seq _ (.blk _ (.loop (.seq _ (.seq _ (.seq (.blk _ (.seq _ (.seq _ (.blk _ (.loop (.seq _ (.seq _ (.seq (.blk _ (.seq _ (.seq r _))) _)))))))) _)))))) _)) => r
  | _ => .skip
set_option maxRecDepth 100000 in
set_option maxHeartbeats 4000000 in
theorem po_reg {e : Env} {g : G} {a b i j : Nat} {x y : Ev} (h5 : e 5 = .mp i 0) (h7 : e 7 = .mp j 0) (h4 : e 4 = .i .i64 a) (h6 : e 6 = .i .i64 b) (hi : g.hp i = some (.cells (evC x) false)) (hj : g.hp j = some (.cells (evC y) false)) :
    W F poReg e g (midQ fun e' g' => e' 48 = .b (poB a b x y) ∧ (∀ t, t < 24 → e' t = e t) ∧ g' = ⟨g.hp, g.nx + 25⟩) := by
  have fin : ∀ {e' : Env}, (∀ t, t < 24 → e' t = e t) → True := fun _ => trivial
  unfold poB
  cases c1 : (x.th == 0) <;> cases c2 : (y.th != 0) <;> cases c3 : (x.th == y.th) <;> cases c4 : (x.th != 0) <;> cases c5 : decide ((a : Int) < b) <;>
    (have c5' : decide (a < b) = decide ((a : Int) < b) := by rw [decide_eq_decide]; omega) <;>
    rw [c5] at c5' <;>
    simp (disch := omega) only [poReg, A_graph_Po, wp, Nat.reduceAdd, Nat.reduceMul, Nat.reduceSub, gl, h5, h7, h4, h6, hi, hj, c1, c2, c3, c4, c5, c5'] <;>
    (intro t ht; simp (disch := omega) only [upd_ne])
def A_graph_Po' : AFun := { res := [.t 2], body := (.seq (.reg false [{ dst := some 1, op := .box (.t 0) },
  { dst := some 2, op := .mv (.c (.nilp)) }])
 (.seq (.reg false [{ dst := some 3, op := .mv (.c (.sl [] 0 .rig)) }])
 (.seq (.seq (.reg false [{ dst := some 8, op := .fa 1 (.t 1) },
  { dst := some 9, op := .ld none (.t 8) },
  { dst := some 10, op := .len (.t 9) },
  { dst := some 11, op := .mv (.c (.i .i64 0)) }])
 (.blk 0 (.loop (.seq (.reg false [{ dst := some 12, op := .bin .lss (.t 11) (.t 10) }])
 (.seq (.cond (.t 12) .skip
 (.ext 0))
 (.seq (.blk 1 (.seq (.reg false [{ dst := some 13, op := .mv (.t 11) },
  { dst := some 14, op := .ia 6 (.t 9) (.t 11) },
  { dst := some 15, op := .ld (some 6) (.t 14) },
  { dst := some 5, op := .new (List.replicate 5 (.i .i64 0) ++ [.b false]) },
  { dst := some 4, op := .mv (.t 13) },
  { dst := none, op := .st 6 (.t 5) (.t 15) }])
 (.seq (.reg false [{ dst := some 16, op := .fa 1 (.t 1) },
  { dst := some 17, op := .ld none (.t 16) },
  { dst := some 18, op := .len (.t 17) },
  { dst := some 19, op := .mv (.c (.i .i64 0)) }])
 (.blk 2 (.loop (.seq (.reg false [{ dst := some 20, op := .bin .lss (.t 19) (.t 18) }])
 (.seq (.cond (.t 20) .skip
 (.ext 2))
 (.seq (.blk 3 (.seq (.reg false [{ dst := some 21, op := .mv (.t 19) },
  { dst := some 22, op := .ia 6 (.t 17) (.t 19) },
  { dst := some 23, op := .ld (some 6) (.t 22) },
  { dst := some 7, op := .new (List.replicate 5 (.i .i64 0) ++ [.b false]) },
  { dst := some 6, op := .mv (.t 21) },
  { dst := none, op := .st 6 (.t 7) (.t 23) }])
 (.seq poReg
 (.cond (.t 48) (.reg false [{ dst := some 49, op := .mv (.t 3) },
  { dst := some 50, op := .mv (.t 4) },
  { dst := some 51, op := .mv (.t 6) },
  { dst := some 52, op := .build ([.i .i64 0, .i .i64 0]) [(0, 1, .t 50), (1, 1, .t 51)] },
  { dst := some 53, op := .bsl true 1 ([.i .i64 0, .i .i64 0]) [(0, 2, .t 52)] },
  { dst := some 54, op := .app 2 16 (.t 49) (.t 53) },
  { dst := some 3, op := .mv (.t 54) }])
 .skip))))
 (.reg false [{ dst := some 55, op := .bin .add (.t 19) (.c (.i .i64 1)) },
  { dst := some 19, op := .mv (.t 55) }])))))))))
 (.reg false [{ dst := some 56, op := .bin .add (.t 11) (.c (.i .i64 1)) },
  { dst := some 11, op := .mv (.t 56) }])))))))
 (.seq (.reg false [{ dst := some 57, op := .ld (some 8) (.t 1) },
  { dst := some 58, op := .mv (.t 3) },
  { dst := some 59, op := .call .pure (.c (.fn 81 [] [])) [.t 57, .t 58] },
  { dst := some 2, op := .mv (.t 59) }])
 .ret)))) }
theorem po_eq : A_graph_Po = A_graph_Po' := rfl
def poRow (X : Gr) (k j : Nat) : List (Int × Int) := ((List.range j).filter fun (b : Nat) => poB k b (X.evs.getD k ev0) (X.evs.getD b ev0)).map fun (b : Nat) => ((k : Int), (b : Int))
def poK (X : Gr) (k : Nat) : List (Int × Int) := (List.range k).flatMap fun a => poRow X a X.evs.length
def poL (X : Gr) (k j : Nat) : List (Int × Int) := poK X k ++ poRow X k j
theorem poK_succ (X k) : poK X (k + 1) = poL X k X.evs.length := by simp [poK, poL, List.range_succ]
theorem poL_0 (X k) : poL X k 0 = poK X k := by simp [poL, poRow]
theorem poL_succ (X k j) : poL X k (j + 1) = if poB k j (X.evs.getD k ev0) (X.evs.getD j ev0) then poL X k j ++ [((k : Int), (j : Int))] else poL X k j := by
  unfold poL poRow
  rw [List.range_succ, List.filter_append, List.filter_cons]
  split <;> simp
set_option maxRecDepth 100000 in
set_option maxHeartbeats 4000000 in
theorem sp_Po (h60 : F 60 = some A_graph_Po) (h81 : F 81 = some A_graph_Of) (pr : Pk_rel F) {X : Gr} (hX : X.evs.length ≤ 1000) : pureS F 60 [.agg (grC X)] = some (.ptr (relC (nOf X) (newR (nOf X) (poK X X.evs.length)))) := by
  rw [po_eq] at h60
  refine pure_of h60 ?_
  simp (disch := omega) only [A_graph_Po', wp, Nat.reduceAdd, Nat.reduceMul, Nat.reduceSub, gl]
  refine W_loop (fun q e g => ∃ k t, q = X.evs.length - k ∧ k ≤ X.evs.length ∧ e 1 = .mp 0 0 ∧ e 9 = .sl (evsC X.evs) X.evs.length .non ∧ e 10 = .i .i64 X.evs.length ∧ e 11 = .i .i64 k ∧ e 3 = .sl (pairsC (poK X k)) (poK X k).length t ∧ Live g 2 t ∧ (poK X k).length ≤ 1000 * k ∧ g.hp 0 = some (.cells (grC X) false) ∧ 0 < g.nx) X.evs.length ?_ ?_
  · refine ⟨0, .rig, rfl, Nat.zero_le _, ?_⟩
    simp (disch := omega) only [wp, Nat.reduceAdd, Nat.reduceMul, Nat.reduceSub]
    exact ⟨rfl, rfl, .inl rfl, Nat.zero_le _, by first | omega | (dsimp only; omega)⟩
  · rintro q e g ⟨k, t, rfl, hk, e1, e9, e10, e11, e3, ht, hl, h0, hnx⟩
    by_cases hk' : k < X.evs.length
    · have hk1 : (k : Int) < X.evs.length := by omega
      have hwk := succ_wrap (k := k) (by omega)
      have hpk := ev_part hk'
      have n1 : 0 ≠ g.nx + 1 + 3 := by omega
      simp (disch := omega) only [wp, Nat.reduceAdd, Nat.reduceMul, Nat.reduceSub, gl, e1, e9, e10, e11, e3, h0, hk1, hpk]
      refine W_loop (fun q e g2 => ∃ j t, q = X.evs.length - j ∧ j ≤ X.evs.length ∧ e 1 = .mp 0 0 ∧ e 9 = .sl (evsC X.evs) X.evs.length .non ∧ e 10 = .i .i64 X.evs.length ∧ e 11 = .i .i64 k ∧ e 4 = .i .i64 k ∧ e 5 = .mp (g.nx + 1 + 3) 0 ∧ e 17 = .sl (evsC X.evs) X.evs.length .non ∧ e 18 = .i .i64 X.evs.length ∧ e 19 = .i .i64 j ∧ e 3 = .sl (pairsC (poL X k j)) (poL X k j).length t ∧ Live g2 2 t ∧ (poL X k j).length ≤ 1000 * k + j ∧ g2.hp 0 = some (.cells (grC X) false) ∧ g2.hp (g.nx + 1 + 3) = some (.cells (evC (X.evs.getD k ev0)) false) ∧ g.nx + 1 + 3 < g2.nx) X.evs.length ?_ ?_
      · refine ⟨0, t, rfl, Nat.zero_le _, ?_⟩
        simp (disch := omega) only [wp, Nat.reduceAdd, Nat.reduceMul, Nat.reduceSub, e1, e9, e10, e11, e3, h0, poL_0]
        refine ⟨rfl, ?_, by first | omega | (dsimp only; omega), by first | omega | (dsimp only; omega)⟩
        rcases ht with rfl | ⟨τ, rfl, hτ, hlt⟩
        · exact .inl rfl
        · exact .inr ⟨τ, rfl, by simp (disch := omega) only [upd_ne]; exact hτ, by first | omega | (dsimp only; omega)⟩
      · rintro q e g2 ⟨j, t, rfl, hj, e1, e9, e10, e11, e4, e5, e17, e18, e19, e3, ht, hl, h0, hc, hn2⟩
        by_cases hj' : j < X.evs.length
        · have hj1 : (j : Int) < X.evs.length := by omega
          have hwj := succ_wrap (k := j) (by omega)
          have hpj := ev_part hj'
          have hLs := poL_succ X k j
          simp (disch := omega) only [wp, Nat.reduceAdd, Nat.reduceMul, Nat.reduceSub, gl, e1, e9, e10, e11, e4, e5, e17, e18, e19, e3, hj1, hpj]
          have m1 : g.nx + 1 + 3 ≠ g2.nx + 1 + 3 := by omega
          refine W_mono (po_reg (a := k) (b := j) (i := g.nx + 1 + 3) (j := g2.nx + 1 + 3) (x := X.evs.getD k ev0) (y := X.evs.getD j ev0) (by simp (disch := omega) only [upd_ne, e5]) (by simp (disch := omega) only [upd_ne, upd_same]) (by simp (disch := omega) only [upd_ne, e4]) (by simp (disch := omega) only [upd_ne, upd_same]) (by simp (disch := omega) only [upd_ne]; exact hc) (by simp (disch := omega) only [upd_same])) ?_
          intro o e' g' hm
          cases o with
          | ext n => exact hm.elim
          | ret => exact hm.elim
          | nrm =>
            obtain ⟨f48, hfr, rfl⟩ := hm
            have f1 := hfr 1 (by omega)
            have f3 := hfr 3 (by omega)
            have f4 := hfr 4 (by omega)
            have f5 := hfr 5 (by omega)
            have f6 := hfr 6 (by omega)
            have f9 := hfr 9 (by omega)
            have f10 := hfr 10 (by omega)
            have f11 := hfr 11 (by omega)
            have f17 := hfr 17 (by omega)
            have f18 := hfr 18 (by omega)
            have f19 := hfr 19 (by omega)
            simp (disch := omega) only [upd_ne, upd_same, e1, e3, e4, e5, e9, e10, e11, e17, e18, e19] at f1 f3 f4 f5 f6 f9 f10 f11 f17 f18 f19
            clear hfr
            cases hB : poB k j (X.evs.getD k ev0) (X.evs.getD j ev0) with
            | true =>
              rw [hB] at f48 hLs
              rw [if_pos rfl] at hLs
              rcases ht with rfl | ⟨τ, rfl, hτ, hlt⟩
              · simp (disch := omega) only [wp, Nat.reduceAdd, Nat.reduceMul, Nat.reduceSub, gl, f1, f3, f4, f5, f6, f9, f10, f11, f17, f18, f19, f48, pairsC_len, hwj]
                refine ⟨X.evs.length - (j + 1), by omega, j + 1, ?_⟩
                rw [hLs, pairsC_app, pairsC_one, List.length_append]
                exact ⟨_, rfl, by omega, rfl, rfl, .inr ⟨_, rfl, upd_same _ _ _, by first | omega | (dsimp only; omega)⟩, by simp; omega, h0, hc, by first | omega | (dsimp only; omega)⟩
              · have n0 : τ ≠ 0 := fun h => by rw [h, h0] at hτ; cases hτ
                have nc : τ ≠ g.nx + 1 + 3 := fun h => by rw [h, hc] at hτ; cases hτ
                simp (disch := omega) only [wp, Nat.reduceAdd, Nat.reduceMul, Nat.reduceSub, gl, f1, f3, f4, f5, f6, f9, f10, f11, f17, f18, f19, f48, pairsC_len, hwj, hτ]
                refine ⟨X.evs.length - (j + 1), by omega, j + 1, ?_⟩
                rw [hLs, pairsC_app, pairsC_one, List.length_append]
                exact ⟨_, rfl, by omega, rfl, rfl, .inr ⟨_, rfl, upd_same _ _ _, by first | omega | (dsimp only; omega)⟩, by simp; omega, h0, hc, by first | omega | (dsimp only; omega)⟩
            | false =>
              rw [hB] at f48 hLs
              rw [if_neg (by simp)] at hLs
              simp (disch := omega) only [wp, Nat.reduceAdd, Nat.reduceMul, Nat.reduceSub, gl, f1, f3, f4, f5, f6, f9, f10, f11, f17, f18, f19, f48, hwj]
              refine ⟨X.evs.length - (j + 1), by omega, j + 1, t, rfl, by omega, rfl, ?_⟩
              rw [hLs]
              refine ⟨rfl, ?_, by omega, by first | exact h0 | (simp (disch := omega) only [upd_ne]; exact h0), by first | exact hc | (simp (disch := omega) only [upd_ne]; exact hc), by first | omega | (dsimp only; omega)⟩
              rcases ht with rfl | ⟨τ, rfl, hτ, hlt⟩
              · exact .inl rfl
              · exact .inr ⟨τ, rfl, by simp (disch := omega) only [upd_ne]; exact hτ, by first | omega | (dsimp only; omega)⟩
        · obtain rfl : j = X.evs.length := by omega
          have hj1 : ¬ ((X.evs.length : Int) < X.evs.length) := by omega
          rw [← poK_succ] at e3 hl
          simp (disch := omega) only [wp, Nat.reduceAdd, Nat.reduceMul, Nat.reduceSub, gl, e1, e9, e10, e11, e4, e5, e17, e18, e19, e3, hj1, hwk]
          refine ⟨X.evs.length - (k + 1), by omega, k + 1, t, rfl, by omega, rfl, rfl, ?_, by omega, h0, by first | omega | (dsimp only; omega)⟩
          rcases ht with rfl | ⟨τ, rfl, hτ, hlt⟩
          · exact .inl rfl
          · exact .inr ⟨τ, rfl, hτ, by first | omega | (dsimp only; omega)⟩
    · obtain rfl : k = X.evs.length := by omega
      have hk1 : ¬ ((X.evs.length : Int) < X.evs.length) := by omega
      have hof := sp_of h81 pr X (poK X X.evs.length) .non (by omega)
      simp (disch := omega) only [wp, Nat.reduceAdd, Nat.reduceMul, Nat.reduceSub, gl, e1, e9, e10, e11, e3, h0, hk1, hof]
      rfl
def poR (X : Gr) : Rw := newR (nOf X) (poK X X.evs.length)
set_option maxRecDepth 100000 in
theorem sp_Loc (pe : Pk_eco F) (h60 : F 60 = some A_graph_Po) (h81 : F 81 = some A_graph_Of) (pr : Pk_rel F) {X : Gr} (hX : X.evs.length ≤ 1000) : pureS F 41 [.agg (grC X)] = some (.ptr (relC (nOf X) (partR locP X (nOf X) (poR X)))) := by
  refine pure_of pe.eco_Loc ?_
  have h1 := sp_Po h60 h81 pr hX
  have h := sp_someE pe h81 pr (X := X) (nOf_le X) (poR X) (sp_61 pe.eco_Loc_1)
  unfold poR at h
  simp (disch := omega) only [A_eco_Loc, wp, Nat.reduceAdd, Nat.reduceMul, Nat.reduceSub, gl, h1, h]
  rfl
end Go.Ab
end
section
set_option linter.unusedVariables false
set_option linter.unusedSimpArgs false
namespace Go.Ab
variable {F : Funs}
theorem evs_drop : ∀ {l : List Ev} {k : Nat} (h : k < l.length), (evsC l).drop (k * 6) = evC (l.getD k ev0) ++ evsC (l.drop (k + 1))
  | p :: l, 0, _ => by simp [evsC]
  | p :: l, k + 1, h => by
    have := evs_drop (l := l) (k := k) (by simpa using h)
    simp only [List.getD_cons_succ, List.drop_succ_cons]
    rw [← this]
    simp [evsC, Nat.succ_mul, evC]
theorem ev_th_at : ∀ {l : List Ev} {k : Nat} (h : k < l.length), part ((evsC l).drop (k * 6)) 0 none = some (.i .i64 (l.getD k ev0).th)
  | p :: l, 0, _ => by simp [evsC, part, evC]
  | p :: l, k + 1, h => by
    have := ev_th_at (l := l) (k := k) (by simpa using h)
    simp only [List.getD_cons_succ]
    rw [← this]
    simp [evsC, Nat.succ_mul, evC]
theorem ev_kd_at {l : List Ev} {k : Nat} (h : k < l.length) : part (((evsC l).drop (k * 6)).drop 1) 0 none = some (.i .i64 (l.getD k ev0).kd) := by
  rw [evs_drop h]; rfl
theorem ev_lc_at {l : List Ev} {k : Nat} (h : k < l.length) : part (((evsC l).drop (k * 6)).drop 3) 0 none = some (.i .i64 (l.getD k ev0).lc) := by
  rw [evs_drop h]; rfl
theorem ev_vl_at {l : List Ev} {k : Nat} (h : k < l.length) : part (((evsC l).drop (k * 6)).drop 4) 0 none = some (.i .i64 (l.getD k ev0).vl) := by
  rw [evs_drop h]; rfl
theorem ev_ex_at {l : List Ev} {k : Nat} (h : k < l.length) : part (((evsC l).drop (k * 6)).drop 5) 0 none = some (.b (l.getD k ev0).ex) := by
  rw [evs_drop h]; rfl
structure FewG (X : Gr) : Prop where
  evs : X.evs.length ≤ 50
  rf : X.rf.length ≤ 60
  co : X.co.length ≤ 6
  cos : ∀ c ∈ X.co, c.length ≤ 50
  rmw : X.rmw.length ≤ 50
  data : X.data.length ≤ 300
  ctrl : X.ctrl.length ≤ 300
  ctrli : X.ctrli.length ≤ 300
theorem FewG.few {X : Gr} (h : FewG X) : Few X := ⟨by have := h.evs; omega, h.co, fun c hc => by have := h.cos c hc; omega⟩
set_option maxRecDepth 100000 in
set_option maxHeartbeats 4000000 in
theorem sp_fewGraph (h44 : F 44 = some A_xlaw00_FewGraph) (X : Gr) : ∃ b, pureS F 44 [.agg (grC X)] = some (.b b) ∧ (b = true → FewG X) := by
  refine pureB_of h44 ?_
  have no : ∀ b : Bool, b = false → (b = true → FewG X) := fun b h h' => by rw [h] at h'; cases h'
  simp (disch := omega) only [A_xlaw00_FewGraph, wp, Nat.reduceAdd, Nat.reduceMul, Nat.reduceSub, gl]
  refine blk_cutR (fun e g => ∃ k : Nat, e 1 = .mp 0 0 ∧ g.hp 0 = some (.cells (grC X) false) ∧ 0 < g.nx ∧ ¬ (k < X.co.length ∧ k < 6) ∧ ∀ j, j < k → (X.co.getD j []).length ≤ 50) ?_ ?_
  · refine W_loop (fun q e g => ∃ k : Nat, q = 6 - k ∧ k ≤ 6 ∧ e 1 = .mp 0 0 ∧ e 3 = .i .i64 k ∧ g.hp 0 = some (.cells (grC X) false) ∧ 0 < g.nx ∧ ∀ j, j < k → (X.co.getD j []).length ≤ 50) 6 ?_ ?_
    · refine ⟨0, rfl, Nat.zero_le _, ?_⟩
      simp (disch := omega) only [wp, Nat.reduceAdd, Nat.reduceMul, Nat.reduceSub]
      exact ⟨rfl, by first | omega | (dsimp only; omega), fun j hj => by omega⟩
    · rintro q e g ⟨k, rfl, hk, e1, e3, hg, hnx, hall⟩
      by_cases h1 : k < X.co.length
      · have h1' : (k : Int) < X.co.length := by omega
        by_cases h2 : k < 6
        · have h2' : (k : Int) < 6 := by omega
          have hp := co_part h1
          have hw := succ_wrap (k := k) (by omega)
          by_cases h3 : (X.co.getD k []).length ≤ 50
          · have h3' : ¬ (((X.co.getD k []).length : Int) > 50) := by omega
            simp (disch := omega) only [wp, Nat.reduceAdd, Nat.reduceMul, Nat.reduceSub, gl, e1, e3, hg, h1', h2', hp, h3', hw]
            refine ⟨6 - (k + 1), by omega, k + 1, rfl, by omega, rfl, by first | omega | (dsimp only; omega), fun j hj => ?_⟩
            by_cases hjk : j = k
            · subst hjk; exact h3
            · exact hall j (by omega)
          · have h3' : ((X.co.getD k []).length : Int) > 50 := by omega
            simp (disch := omega) only [wp, Nat.reduceAdd, Nat.reduceMul, Nat.reduceSub, gl, e1, e3, hg, h1', h2', hp, h3']
            exact ⟨_, rfl, no _ rfl⟩
        · have h2' : ¬ ((k : Int) < 6) := by omega
          simp (disch := omega) only [wp, Nat.reduceAdd, Nat.reduceMul, Nat.reduceSub, gl, e1, e3, hg, h1', h2']
          exact ⟨k, by first | omega | (dsimp only; omega), by omega, hall⟩
      · have h1' : ¬ ((k : Int) < X.co.length) := by omega
        simp (disch := omega) only [wp, Nat.reduceAdd, Nat.reduceMul, Nat.reduceSub, gl, e1, e3, hg, h1']
        exact ⟨k, by first | omega | (dsimp only; omega), by omega, hall⟩
  · rintro e g ⟨k, e1, hg, hnx, hk, hall⟩
    by_cases c1 : (X.evs.length : Int) ≤ 50
    · by_cases c2 : (X.rf.length : Int) ≤ 60
      · by_cases c3 : (X.co.length : Int) ≤ 6
        · by_cases c4 : (X.rmw.length : Int) ≤ 50
          · by_cases c5 : (X.data.length : Int) ≤ 300
            · by_cases c6 : (X.ctrl.length : Int) ≤ 300
              · by_cases c7 : (X.ctrli.length : Int) ≤ 300
                · simp (disch := omega) only [wp, Nat.reduceAdd, Nat.reduceMul, Nat.reduceSub, gl, e1, hg, c1, c2, c3, c4, c5, c6, c7]
                  refine ⟨_, rfl, fun _ => ⟨by omega, by omega, by omega, fun c hc => ?_, by omega, by omega, by omega, by omega⟩⟩
                  obtain ⟨j, hj, rfl⟩ := List.getElem_of_mem hc
                  have := hall j (by omega)
                  rwa [List.getD_eq_getElem?_getD, List.getElem?_eq_getElem hj] at this
                · simp (disch := omega) only [wp, Nat.reduceAdd, Nat.reduceMul, Nat.reduceSub, gl, e1, hg, c1, c2, c3, c4, c5, c6, c7]
                  exact ⟨_, rfl, no _ rfl⟩
              · simp (disch := omega) only [wp, Nat.reduceAdd, Nat.reduceMul, Nat.reduceSub, gl, e1, hg, c1, c2, c3, c4, c5, c6]
                exact ⟨_, rfl, no _ rfl⟩
            · simp (disch := omega) only [wp, Nat.reduceAdd, Nat.reduceMul, Nat.reduceSub, gl, e1, hg, c1, c2, c3, c4, c5]
              exact ⟨_, rfl, no _ rfl⟩
          · simp (disch := omega) only [wp, Nat.reduceAdd, Nat.reduceMul, Nat.reduceSub, gl, e1, hg, c1, c2, c3, c4]
            exact ⟨_, rfl, no _ rfl⟩
        · simp (disch := omega) only [wp, Nat.reduceAdd, Nat.reduceMul, Nat.reduceSub, gl, e1, hg, c1, c2, c3]
          exact ⟨_, rfl, no _ rfl⟩
      · simp (disch := omega) only [wp, Nat.reduceAdd, Nat.reduceMul, Nat.reduceSub, gl, e1, hg, c1, c2]
        exact ⟨_, rfl, no _ rfl⟩
    · simp (disch := omega) only [wp, Nat.reduceAdd, Nat.reduceMul, Nat.reduceSub, gl, e1, hg, c1]
      exact ⟨_, rfl, no _ rfl⟩
end Go.Ab
end
section
set_option linter.unusedVariables false
set_option linter.unusedSimpArgs false
namespace Go.Ab
variable {F : Funs}
def EvOk (locs i : Int) (p e : Ev) : Prop :=
  (i < locs → e.th = 0 ∧ e.kd = 2 ∧ e.md = 0 ∧ e.lc = i ∧ e.vl = 0 ∧ e.ex = false) ∧
  (¬ i < locs → 1 ≤ e.th ∧ e.th ≤ 4 ∧ p.th ≤ e.th ∧ ((e.kd = 1 ∧ 0 ≤ e.lc ∧ e.lc < locs ∧ (e.md = 0 ∨ e.md = 1)) ∨ (e.kd = 2 ∧ 0 ≤ e.lc ∧ e.lc < locs ∧ (e.md = 0 ∨ e.md = 2)) ∨ (e.kd = 3 ∧ 1 ≤ e.md ∧ e.md ≤ 4 ∧ e.lc = 0 ∧ e.vl = 0 ∧ e.ex = false)))
set_option maxRecDepth 100000 in
set_option maxHeartbeats 4000000 in
theorem sp_event (h63 : F 63 = some A_xref06_event) {X : Gr} {i : Nat} (hi : i < X.evs.length) (hl : 1 ≤ X.locs) (hn : X.evs.length ≤ 100) : ∃ b, pureS F 63 [.agg (grC X), .i .i64 i] = some (.b b) ∧ (b = true → EvOk X.locs i (X.evs.getD (i - 1) ev0) (X.evs.getD i ev0)) := by
  refine pureB_of h63 ?_
  have hp := ev_part hi
  have hq := ev_th_at (l := X.evs) (k := i - 1) (by omega)
  have hdl : (List.drop ((i - 1) * 6) (evsC X.evs)).length = X.evs.length * 6 - (i - 1) * 6 := by rw [List.length_drop, evsC_len]
  generalize X.evs.getD i ev0 = ev at hp
  generalize X.evs.getD (i - 1) ev0 = pv at hq
  have hlen0 : 0 < (evC ev).length := by show 0 < 6; omega
  obtain ⟨th, kd, md, lc, vl, ex⟩ := ev
  have s6 : ∀ b1 b2 b3 b4 b5 b6 c1 c2 c3 c4 c5 c6 : AV, splice [b1, b2, b3, b4, b5, b6] 0 [c1, c2, c3, c4, c5, c6] = [c1, c2, c3, c4, c5, c6] := fun _ _ _ _ _ _ _ _ _ _ _ _ => rfl
  by_cases hlt : (i : Int) < X.locs
  · skip
    cases c1 : (th == 0)
    case false =>
      simp (disch := omega) only [A_xref06_event, wp, Nat.reduceAdd, Nat.reduceMul, Nat.reduceSub, gl, hp, hlt, c1]
      exact ⟨_, rfl, fun h => by cases h⟩
    cases c2 : (kd == 2)
    case false =>
      simp (disch := omega) only [A_xref06_event, wp, Nat.reduceAdd, Nat.reduceMul, Nat.reduceSub, gl, hp, hlt, c1, c2]
      exact ⟨_, rfl, fun h => by cases h⟩
    cases c3 : (md == 0)
    case false =>
      simp (disch := omega) only [A_xref06_event, wp, Nat.reduceAdd, Nat.reduceMul, Nat.reduceSub, gl, hp, hlt, c1, c2, c3]
      exact ⟨_, rfl, fun h => by cases h⟩
    cases c4 : (lc == (i : Int))
    case false =>
      simp (disch := omega) only [A_xref06_event, wp, Nat.reduceAdd, Nat.reduceMul, Nat.reduceSub, gl, hp, hlt, c1, c2, c3, c4]
      exact ⟨_, rfl, fun h => by cases h⟩
    cases c5 : (vl == 0)
    case false =>
      simp (disch := omega) only [A_xref06_event, wp, Nat.reduceAdd, Nat.reduceMul, Nat.reduceSub, gl, hp, hlt, c1, c2, c3, c4, c5]
      exact ⟨_, rfl, fun h => by cases h⟩
    simp (disch := omega) only [A_xref06_event, wp, Nat.reduceAdd, Nat.reduceMul, Nat.reduceSub, gl, hp, hlt, c1, c2, c3, c4, c5]
    refine ⟨_, rfl, fun h => ?_⟩
    unfold EvOk; dsimp only; refine ⟨fun _ => ?_, fun h => absurd hlt h⟩
    simp only [beq_iff_eq, Bool.not_eq_true'] at c1 c2 c3 c4 c5 h; exact ⟨c1, c2, c3, c4, c5, h⟩
  · have hi0 : 0 < i := by omega
    have hw1 : IntKind.i64.wrap ((i : Int) - 1) = ((i - 1 : Nat) : Int) := by rw [i64_wrap (by omega) (by omega)]; omega
    have hi0' : (0 : Int) < i := by omega
    by_cases t1 : th < 1
    case pos =>
      simp (disch := omega) only [A_xref06_event, wp, Nat.reduceAdd, Nat.reduceMul, Nat.reduceSub, gl, hp, hlt, t1]
      exact ⟨_, rfl, fun h => by cases h⟩
    by_cases t2 : 4 < th
    case pos =>
      simp (disch := omega) only [A_xref06_event, wp, Nat.reduceAdd, Nat.reduceMul, Nat.reduceSub, gl, hp, hlt, t1, t2]
      exact ⟨_, rfl, fun h => by cases h⟩
    by_cases t3 : th < pv.th
    case pos =>
      simp (disch := omega) only [A_xref06_event, wp, Nat.reduceAdd, Nat.reduceMul, Nat.reduceSub, gl, hp, hlt, t1, t2, hi0', hw1, hq, hdl, t3]
      exact ⟨_, rfl, fun h => by cases h⟩
    by_cases l1 : 0 ≤ lc
    case neg =>
      cases k1 : (kd == 1)
      case true =>
        simp (disch := omega) only [A_xref06_event, wp, Nat.reduceAdd, Nat.reduceMul, Nat.reduceSub, gl, hp, hlt, t1, t2, hi0', hw1, hq, hdl, t3, l1, k1]
        exact ⟨_, rfl, fun h => by cases h⟩
      cases k2 : (kd == 2)
      case true =>
        simp (disch := omega) only [A_xref06_event, wp, Nat.reduceAdd, Nat.reduceMul, Nat.reduceSub, gl, hp, hlt, t1, t2, hi0', hw1, hq, hdl, t3, l1, k1, k2]
        exact ⟨_, rfl, fun h => by cases h⟩
      cases k3 : (kd == 3)
      case false =>
        simp (disch := omega) only [A_xref06_event, wp, Nat.reduceAdd, Nat.reduceMul, Nat.reduceSub, gl, hp, hlt, t1, t2, hi0', hw1, hq, hdl, t3, l1, k1, k2, k3]
        exact ⟨_, rfl, fun h => by cases h⟩
      by_cases a1 : 1 ≤ md
      case neg =>
        simp (disch := omega) only [A_xref06_event, wp, Nat.reduceAdd, Nat.reduceMul, Nat.reduceSub, gl, hp, hlt, t1, t2, hi0', hw1, hq, hdl, t3, l1, k1, k2, k3, a1]
        exact ⟨_, rfl, fun h => by cases h⟩
      by_cases a2 : md ≤ 4
      case neg =>
        simp (disch := omega) only [A_xref06_event, wp, Nat.reduceAdd, Nat.reduceMul, Nat.reduceSub, gl, hp, hlt, t1, t2, hi0', hw1, hq, hdl, t3, l1, k1, k2, k3, a1, a2]
        exact ⟨_, rfl, fun h => by cases h⟩
      cases a3 : (lc == 0)
      case false =>
        simp (disch := omega) only [A_xref06_event, wp, Nat.reduceAdd, Nat.reduceMul, Nat.reduceSub, gl, hp, hlt, t1, t2, hi0', hw1, hq, hdl, t3, l1, k1, k2, k3, a1, a2, a3]
        exact ⟨_, rfl, fun h => by cases h⟩
      cases a4 : (vl == 0)
      case false =>
        simp (disch := omega) only [A_xref06_event, wp, Nat.reduceAdd, Nat.reduceMul, Nat.reduceSub, gl, hp, hlt, t1, t2, hi0', hw1, hq, hdl, t3, l1, k1, k2, k3, a1, a2, a3, a4]
        exact ⟨_, rfl, fun h => by cases h⟩
      simp (disch := omega) only [A_xref06_event, wp, Nat.reduceAdd, Nat.reduceMul, Nat.reduceSub, gl, hp, hlt, t1, t2, hi0', hw1, hq, hdl, t3, l1, k1, k2, k3, a1, a2, a3, a4]
      refine ⟨_, rfl, fun h => ?_⟩; unfold EvOk; dsimp only; exact ⟨fun h => absurd h hlt, fun _ => ⟨by omega, by omega, by omega, .inr (.inr ⟨by simpa using k3, a1, a2, by simpa using a3, by simpa using a4, by simpa using h⟩)⟩⟩
    by_cases l2 : lc < X.locs
    case neg =>
      cases k1 : (kd == 1)
      case true =>
        simp (disch := omega) only [A_xref06_event, wp, Nat.reduceAdd, Nat.reduceMul, Nat.reduceSub, gl, hp, hlt, t1, t2, hi0', hw1, hq, hdl, t3, l1, l2, k1]
        exact ⟨_, rfl, fun h => by cases h⟩
      cases k2 : (kd == 2)
      case true =>
        simp (disch := omega) only [A_xref06_event, wp, Nat.reduceAdd, Nat.reduceMul, Nat.reduceSub, gl, hp, hlt, t1, t2, hi0', hw1, hq, hdl, t3, l1, l2, k1, k2]
        exact ⟨_, rfl, fun h => by cases h⟩
      cases k3 : (kd == 3)
      case false =>
        simp (disch := omega) only [A_xref06_event, wp, Nat.reduceAdd, Nat.reduceMul, Nat.reduceSub, gl, hp, hlt, t1, t2, hi0', hw1, hq, hdl, t3, l1, l2, k1, k2, k3]
        exact ⟨_, rfl, fun h => by cases h⟩
      by_cases a1 : 1 ≤ md
      case neg =>
        simp (disch := omega) only [A_xref06_event, wp, Nat.reduceAdd, Nat.reduceMul, Nat.reduceSub, gl, hp, hlt, t1, t2, hi0', hw1, hq, hdl, t3, l1, l2, k1, k2, k3, a1]
        exact ⟨_, rfl, fun h => by cases h⟩
      by_cases a2 : md ≤ 4
      case neg =>
        simp (disch := omega) only [A_xref06_event, wp, Nat.reduceAdd, Nat.reduceMul, Nat.reduceSub, gl, hp, hlt, t1, t2, hi0', hw1, hq, hdl, t3, l1, l2, k1, k2, k3, a1, a2]
        exact ⟨_, rfl, fun h => by cases h⟩
      cases a3 : (lc == 0)
      case false =>
        simp (disch := omega) only [A_xref06_event, wp, Nat.reduceAdd, Nat.reduceMul, Nat.reduceSub, gl, hp, hlt, t1, t2, hi0', hw1, hq, hdl, t3, l1, l2, k1, k2, k3, a1, a2, a3]
        exact ⟨_, rfl, fun h => by cases h⟩
      cases a4 : (vl == 0)
      case false =>
        simp (disch := omega) only [A_xref06_event, wp, Nat.reduceAdd, Nat.reduceMul, Nat.reduceSub, gl, hp, hlt, t1, t2, hi0', hw1, hq, hdl, t3, l1, l2, k1, k2, k3, a1, a2, a3, a4]
        exact ⟨_, rfl, fun h => by cases h⟩
      simp (disch := omega) only [A_xref06_event, wp, Nat.reduceAdd, Nat.reduceMul, Nat.reduceSub, gl, hp, hlt, t1, t2, hi0', hw1, hq, hdl, t3, l1, l2, k1, k2, k3, a1, a2, a3, a4]
      refine ⟨_, rfl, fun h => ?_⟩; unfold EvOk; dsimp only; exact ⟨fun h => absurd h hlt, fun _ => ⟨by omega, by omega, by omega, .inr (.inr ⟨by simpa using k3, a1, a2, by simpa using a3, by simpa using a4, by simpa using h⟩)⟩⟩
    cases k1 : (kd == 1)
    case true =>
      cases m0 : (md == 0)
      case true =>
        simp (disch := omega) only [A_xref06_event, wp, Nat.reduceAdd, Nat.reduceMul, Nat.reduceSub, gl, hp, hlt, t1, t2, hi0', hw1, hq, hdl, t3, l1, l2, k1, m0]
        refine ⟨_, rfl, fun _ => ?_⟩; unfold EvOk; dsimp only; exact ⟨fun h => absurd h hlt, fun _ => ⟨by omega, by omega, by omega, .inl ⟨by simpa using k1, l1, l2, .inl (by simpa using m0)⟩⟩⟩
      simp (disch := omega) only [A_xref06_event, wp, Nat.reduceAdd, Nat.reduceMul, Nat.reduceSub, gl, hp, hlt, t1, t2, hi0', hw1, hq, hdl, t3, l1, l2, k1, m0]
      refine ⟨_, rfl, fun h => ?_⟩; unfold EvOk; dsimp only; exact ⟨fun h => absurd h hlt, fun _ => ⟨by omega, by omega, by omega, .inl ⟨by simpa using k1, l1, l2, .inr (by simpa using h)⟩⟩⟩
    cases k2 : (kd == 2)
    case true =>
      cases m0 : (md == 0)
      case true =>
        simp (disch := omega) only [A_xref06_event, wp, Nat.reduceAdd, Nat.reduceMul, Nat.reduceSub, gl, hp, hlt, t1, t2, hi0', hw1, hq, hdl, t3, l1, l2, k1, k2, m0]
        refine ⟨_, rfl, fun _ => ?_⟩; unfold EvOk; dsimp only; exact ⟨fun h => absurd h hlt, fun _ => ⟨by omega, by omega, by omega, .inr (.inl ⟨by simpa using k2, l1, l2, .inl (by simpa using m0)⟩)⟩⟩
      simp (disch := omega) only [A_xref06_event, wp, Nat.reduceAdd, Nat.reduceMul, Nat.reduceSub, gl, hp, hlt, t1, t2, hi0', hw1, hq, hdl, t3, l1, l2, k1, k2, m0]
      refine ⟨_, rfl, fun h => ?_⟩; unfold EvOk; dsimp only; exact ⟨fun h => absurd h hlt, fun _ => ⟨by omega, by omega, by omega, .inr (.inl ⟨by simpa using k2, l1, l2, .inr (by simpa using h)⟩)⟩⟩
    cases k3 : (kd == 3)
    case false =>
      simp (disch := omega) only [A_xref06_event, wp, Nat.reduceAdd, Nat.reduceMul, Nat.reduceSub, gl, hp, hlt, t1, t2, hi0', hw1, hq, hdl, t3, l1, l2, k1, k2, k3]
      exact ⟨_, rfl, fun h => by cases h⟩
    by_cases a1 : 1 ≤ md
    case neg =>
      simp (disch := omega) only [A_xref06_event, wp, Nat.reduceAdd, Nat.reduceMul, Nat.reduceSub, gl, hp, hlt, t1, t2, hi0', hw1, hq, hdl, t3, l1, l2, k1, k2, k3, a1]
      exact ⟨_, rfl, fun h => by cases h⟩
    by_cases a2 : md ≤ 4
    case neg =>
      simp (disch := omega) only [A_xref06_event, wp, Nat.reduceAdd, Nat.reduceMul, Nat.reduceSub, gl, hp, hlt, t1, t2, hi0', hw1, hq, hdl, t3, l1, l2, k1, k2, k3, a1, a2]
      exact ⟨_, rfl, fun h => by cases h⟩
    cases a3 : (lc == 0)
    case false =>
      simp (disch := omega) only [A_xref06_event, wp, Nat.reduceAdd, Nat.reduceMul, Nat.reduceSub, gl, hp, hlt, t1, t2, hi0', hw1, hq, hdl, t3, l1, l2, k1, k2, k3, a1, a2, a3]
      exact ⟨_, rfl, fun h => by cases h⟩
    cases a4 : (vl == 0)
    case false =>
      simp (disch := omega) only [A_xref06_event, wp, Nat.reduceAdd, Nat.reduceMul, Nat.reduceSub, gl, hp, hlt, t1, t2, hi0', hw1, hq, hdl, t3, l1, l2, k1, k2, k3, a1, a2, a3, a4]
      exact ⟨_, rfl, fun h => by cases h⟩
    simp (disch := omega) only [A_xref06_event, wp, Nat.reduceAdd, Nat.reduceMul, Nat.reduceSub, gl, hp, hlt, t1, t2, hi0', hw1, hq, hdl, t3, l1, l2, k1, k2, k3, a1, a2, a3, a4]
    refine ⟨_, rfl, fun h => ?_⟩; unfold EvOk; dsimp only; exact ⟨fun h => absurd h hlt, fun _ => ⟨by omega, by omega, by omega, .inr (.inr ⟨by simpa using k3, a1, a2, by simpa using a3, by simpa using a4, by simpa using h⟩)⟩⟩
end Go.Ab
end
section
set_option linter.unusedVariables false
set_option linter.unusedSimpArgs false
namespace Go.Ab
variable {F : Funs}
def RfOk (X : Gr) (i : Nat) : Prop := ((X.evs.getD i ev0).kd ≠ 1 → X.rf.getD i 0 = -1) ∧
  ((X.evs.getD i ev0).kd = 1 → 0 ≤ X.rf.getD i 0 ∧ X.rf.getD i 0 < X.evs.length ∧ (X.evs.getD (X.rf.getD i 0).toNat ev0).kd = 2 ∧ (X.evs.getD (X.rf.getD i 0).toNat ev0).lc = (X.evs.getD i ev0).lc ∧ (X.evs.getD (X.rf.getD i 0).toNat ev0).vl = (X.evs.getD i ev0).vl)
set_option maxRecDepth 100000 in
set_option maxHeartbeats 4000000 in
theorem sp_rfC (h64 : F 64 = some A_xref06_rf) {X : Gr} {i : Nat} (hi : i < X.evs.length) (hr : i < X.rf.length) : ∃ b, pureS F 64 [.agg (grC X), .i .i64 i] = some (.b b) ∧ (b = true → RfOk X i) := by
  refine pureB_of h64 ?_
  have hp := ev_part hi
  have hq := ints_part hr
  have hx := fun h => ev_part (l := X.evs) (k := (X.rf.getD i 0).toNat) h
  have fin : ∀ P : Prop, (RfOk X i → P) → (((X.evs.getD i ev0).kd ≠ 1 → X.rf.getD i 0 = -1) ∧ ((X.evs.getD i ev0).kd = 1 → 0 ≤ X.rf.getD i 0 ∧ X.rf.getD i 0 < X.evs.length ∧ (X.evs.getD (X.rf.getD i 0).toNat ev0).kd = 2 ∧ (X.evs.getD (X.rf.getD i 0).toNat ev0).lc = (X.evs.getD i ev0).lc ∧ (X.evs.getD (X.rf.getD i 0).toNat ev0).vl = (X.evs.getD i ev0).vl)) → P := fun P h h' => h h'
  have fin := fin _ id
  generalize RfOk X i = P at fin
  generalize X.evs.getD i ev0 = ev at hp fin
  generalize X.rf.getD i 0 = w at hq hx fin
  generalize X.evs.getD w.toNat ev0 = xv at hx fin
  obtain ⟨th, kd, md, lc, vl, ex⟩ := ev
  obtain ⟨th', kd', md', lc', vl', ex'⟩ := xv
  have s6 : ∀ b1 b2 b3 b4 b5 b6 c1 c2 c3 c4 c5 c6 : AV, splice [b1, b2, b3, b4, b5, b6] 0 [c1, c2, c3, c4, c5, c6] = [c1, c2, c3, c4, c5, c6] := fun _ _ _ _ _ _ _ _ _ _ _ _ => rfl
  simp only at fin
  cases c1 : (kd != 1)
  case true =>
    simp (disch := omega) only [A_xref06_rf, wp, Nat.reduceAdd, Nat.reduceMul, Nat.reduceSub, gl, hp, hq, c1]
    exact ⟨_, rfl, fun h => fin ⟨fun _ => by simpa using h, fun h' => by simp [h'] at c1⟩⟩
  have hk : kd = 1 := by simpa using c1
  by_cases w0 : w < 0
  case pos =>
    simp (disch := omega) only [A_xref06_rf, wp, Nat.reduceAdd, Nat.reduceMul, Nat.reduceSub, gl, hp, hq, c1, w0]
    exact ⟨_, rfl, fun h => by cases h⟩
  by_cases w1 : X.evs.length ≤ w
  case pos =>
    simp (disch := omega) only [A_xref06_rf, wp, Nat.reduceAdd, Nat.reduceMul, Nat.reduceSub, gl, hp, hq, c1, w0, w1]
    exact ⟨_, rfl, fun h => by cases h⟩
  have hx := hx (by omega)
  cases c2 : (kd' == 2)
  case false =>
    simp (disch := omega) only [A_xref06_rf, wp, Nat.reduceAdd, Nat.reduceMul, Nat.reduceSub, gl, hp, hq, c1, w0, w1, hx, c2]
    exact ⟨_, rfl, fun h => by cases h⟩
  cases c3 : (lc' == lc)
  case false =>
    simp (disch := omega) only [A_xref06_rf, wp, Nat.reduceAdd, Nat.reduceMul, Nat.reduceSub, gl, hp, hq, c1, w0, w1, hx, c2, c3]
    exact ⟨_, rfl, fun h => by cases h⟩
  simp (disch := omega) only [A_xref06_rf, wp, Nat.reduceAdd, Nat.reduceMul, Nat.reduceSub, gl, hp, hq, c1, w0, w1, hx, c2, c3]
  exact ⟨_, rfl, fun h => fin ⟨fun h' => absurd hk h', fun _ => ⟨by omega, by omega, by simpa using c2, by simpa using c3, by simpa using h⟩⟩⟩
def isWr (loc : Int) (e : Ev) : Bool := e.kd == 2 && e.lc == loc
def cntW (X : Gr) (loc : Int) (k : Nat) : Nat := ((X.evs.take k).filter (isWr loc)).length
theorem cntW_succ {X : Gr} {loc : Int} {k : Nat} (h : k < X.evs.length) : cntW X loc (k + 1) = if isWr loc (X.evs.getD k ev0) then cntW X loc k + 1 else cntW X loc k := by
  unfold cntW
  rw [List.take_add_one, List.filter_append, List.getElem?_eq_getElem h, List.getD_eq_getElem?_getD, List.getElem?_eq_getElem h, List.length_append]
  simp only [Option.toList, Option.getD_some, List.filter_cons, List.filter_nil]
  split <;> simp_all
theorem cntW_le (X : Gr) (loc : Int) (k : Nat) : cntW X loc k ≤ k := by
  unfold cntW
  have h1 := List.length_filter_le (isWr loc) (X.evs.take k)
  rw [List.length_take] at h1; omega
structure CoOk (X : Gr) (loc : Nat) : Prop where
  wr : ∀ i, i < (X.co.getD loc []).length → 0 ≤ (X.co.getD loc []).getD i 0 ∧ (X.co.getD loc []).getD i 0 < X.evs.length ∧ (X.evs.getD ((X.co.getD loc []).getD i 0).toNat ev0).kd = 2 ∧ (X.evs.getD ((X.co.getD loc []).getD i 0).toNat ev0).lc = loc
  ne : ∀ i, i < (X.co.getD loc []).length → ∀ k, k < i → (X.co.getD loc []).getD k 0 ≠ (X.co.getD loc []).getD i 0
  len : (X.co.getD loc []).length = cntW X loc X.evs.length
  pos : 0 < (X.co.getD loc []).length
  hd : (X.co.getD loc []).getD 0 0 = loc
set_option maxRecDepth 100000 in
set_option maxHeartbeats 4000000 in
theorem sp_coC (h65 : F 65 = some A_xref06_co) {X : Gr} {loc : Nat} (hl : loc < X.co.length) (hn : X.evs.length ≤ 100) (hc : (X.co.getD loc []).length ≤ 100) : ∃ b, pureS F 65 [.agg (grC X), .i .i64 loc] = some (.b b) ∧ (b = true → CoOk X loc) := by
  refine pureB_of h65 ?_
  have hp := co_part hl
  have fin : (∀ i, i < (X.co.getD loc []).length → 0 ≤ (X.co.getD loc []).getD i 0 ∧ (X.co.getD loc []).getD i 0 < X.evs.length ∧ (X.evs.getD ((X.co.getD loc []).getD i 0).toNat ev0).kd = 2 ∧ (X.evs.getD ((X.co.getD loc []).getD i 0).toNat ev0).lc = loc) → (∀ i, i < (X.co.getD loc []).length → ∀ k, k < i → (X.co.getD loc []).getD k 0 ≠ (X.co.getD loc []).getD i 0) → (X.co.getD loc []).length = cntW X loc X.evs.length → 0 < (X.co.getD loc []).length → (X.co.getD loc []).getD 0 0 = loc → CoOk X loc := fun a b c d e => ⟨a, b, c, d, e⟩
  generalize X.co.getD loc [] = l at hp fin hc
  simp (disch := omega) only [A_xref06_co, wp, Nat.reduceAdd, Nat.reduceMul, Nat.reduceSub, gl, hp]
  refine blk_cut (fun e g => e 1 = .i .i64 loc ∧ e 2 = .mp 0 0 ∧ e 5 = .sl (intsC l) l.length .non ∧ e 6 = .i .i64 (cntW X loc X.evs.length : Nat) ∧ g.hp 0 = some (.cells (grC X) false) ∧ 0 < g.nx) ?_ ?_
  · refine W_loop (fun q e g => ∃ k : Nat, q = X.evs.length - k ∧ k ≤ X.evs.length ∧ e 1 = .i .i64 loc ∧ e 2 = .mp 0 0 ∧ e 5 = .sl (intsC l) l.length .non ∧ e 6 = .i .i64 (cntW X loc k : Nat) ∧ e 7 = .i .i64 k ∧ g.hp 0 = some (.cells (grC X) false) ∧ 0 < g.nx) X.evs.length ?_ ?_
    · refine ⟨0, rfl, Nat.zero_le _, ?_⟩
      simp (disch := omega) only [wp, Nat.reduceAdd, Nat.reduceMul, Nat.reduceSub]
      exact ⟨rfl, rfl, by first | omega | (dsimp only; omega)⟩
    · rintro q e g ⟨k, rfl, hk, e1, e2, e5, e6, e7, hg, hnx⟩
      by_cases hk' : k < X.evs.length
      · have hk1 : (k : Int) < X.evs.length := by omega
        have hwk := succ_wrap (k := k) (by omega)
        have hkd := ev_kd_at hk'
        have hlc := ev_lc_at hk'
        have hdl : (List.drop (k * 6) (evsC X.evs)).length = X.evs.length * 6 - k * 6 := by rw [List.length_drop, evsC_len]
        have hs := cntW_succ (loc := loc) hk'
        have hle := cntW_le X loc k
        unfold isWr at hs
        generalize cntW X loc k = c at e6 hs hle
        have hwc := succ_wrap (k := c) (by omega)
        generalize X.evs.getD k ev0 = ev at hkd hlc hs
        cases c1 : (ev.kd == 2)
        case false =>
          rw [c1] at hs
          simp (disch := omega) only [wp, Nat.reduceAdd, Nat.reduceMul, Nat.reduceSub, gl, e1, e2, e5, e6, e7, hg, hk1, hkd, hlc, hdl, c1, hwk]
          refine ⟨X.evs.length - (k + 1), by omega, k + 1, rfl, by omega, by rw [hs]; rfl, rfl, by first | omega | (dsimp only; omega)⟩
        cases c2 : (ev.lc == (loc : Int))
        case false =>
          rw [c1, c2] at hs
          simp (disch := omega) only [wp, Nat.reduceAdd, Nat.reduceMul, Nat.reduceSub, gl, e1, e2, e5, e6, e7, hg, hk1, hkd, hlc, hdl, c1, c2, hwk]
          refine ⟨X.evs.length - (k + 1), by omega, k + 1, rfl, by omega, by rw [hs]; rfl, rfl, by first | omega | (dsimp only; omega)⟩
        rw [c1, c2] at hs
        simp (disch := omega) only [wp, Nat.reduceAdd, Nat.reduceMul, Nat.reduceSub, gl, e1, e2, e5, e6, e7, hg, hk1, hkd, hlc, hdl, c1, c2, hwk, hwc]
        refine ⟨X.evs.length - (k + 1), by omega, k + 1, rfl, by omega, by rw [hs]; rfl, rfl, by first | omega | (dsimp only; omega)⟩
      · obtain rfl : k = X.evs.length := by omega
        have hk1 : ¬ ((X.evs.length : Int) < X.evs.length) := by omega
        simp (disch := omega) only [wp, Nat.reduceAdd, Nat.reduceMul, Nat.reduceSub, gl, e1, e2, e5, e6, e7, hg, hk1]
        first | omega | (dsimp only; omega)
  · rintro e g ⟨e1, e2, e5, e6, hg, hnx⟩
    simp (disch := omega) only [wp, Nat.reduceAdd, Nat.reduceMul, Nat.reduceSub, e1, e2, e5, e6]
    have hcl := cntW_le X loc X.evs.length
    generalize cntW X loc X.evs.length = N at e6 fin hcl
    refine W_loop (fun q e g => ∃ i : Nat, q = l.length - i ∧ i ≤ l.length ∧ e 1 = .i .i64 loc ∧ e 2 = .mp 0 0 ∧ e 5 = .sl (intsC l) l.length .non ∧ e 6 = .i .i64 (N : Nat) ∧ e 8 = .i .i64 i ∧ g.hp 0 = some (.cells (grC X) false) ∧ 0 < g.nx ∧
      (∀ j, j < i → 0 ≤ l.getD j 0 ∧ l.getD j 0 < X.evs.length ∧ (X.evs.getD (l.getD j 0).toNat ev0).kd = 2 ∧ (X.evs.getD (l.getD j 0).toNat ev0).lc = loc) ∧ (∀ j, j < i → ∀ k, k < j → l.getD k 0 ≠ l.getD j 0)) l.length ?_ ?_
    · refine ⟨0, rfl, Nat.zero_le _, ?_⟩
      simp (disch := omega) only [wp, Nat.reduceAdd, Nat.reduceMul, Nat.reduceSub, e1, e2, e5, e6]
      exact ⟨rfl, hg, by first | omega | (dsimp only; omega), fun j hj => by omega, fun j hj => by omega⟩
    · rintro q e g ⟨i, rfl, hi, e1, e2, e5, e6, e8, hg, hnx, hall, hne⟩
      by_cases hi' : i < l.length
      · have hi1 : (i : Int) < l.length := by omega
        have hwi := succ_wrap (k := i) (by omega)
        have hip := ints_part hi'
        have hnew : ∀ x, l.getD i 0 = x → True := fun _ _ => trivial
        by_cases b1 : l.getD i 0 < 0
        case pos =>
          simp (disch := omega) only [wp, Nat.reduceAdd, Nat.reduceMul, Nat.reduceSub, gl, e1, e2, e5, e6, e8, hg, hi1, hip, b1]
          exact ⟨_, rfl, fun h => by cases h⟩
        by_cases b2 : (X.evs.length : Int) ≤ l.getD i 0
        case pos =>
          simp (disch := omega) only [wp, Nat.reduceAdd, Nat.reduceMul, Nat.reduceSub, gl, e1, e2, e5, e6, e8, hg, hi1, hip, b1, b2]
          exact ⟨_, rfl, fun h => by cases h⟩
        have hkd := ev_kd_at (l := X.evs) (k := (l.getD i 0).toNat) (by omega)
        have hlc := ev_lc_at (l := X.evs) (k := (l.getD i 0).toNat) (by omega)
        have hdl : (List.drop ((l.getD i 0).toNat * 6) (evsC X.evs)).length = X.evs.length * 6 - (l.getD i 0).toNat * 6 := by rw [List.length_drop, evsC_len]
        cases c1 : ((X.evs.getD (l.getD i 0).toNat ev0).kd != 2)
        case true =>
          simp (disch := omega) only [wp, Nat.reduceAdd, Nat.reduceMul, Nat.reduceSub, gl, e1, e2, e5, e6, e8, hg, hi1, hip, b1, b2, hkd, hlc, hdl, c1]
          exact ⟨_, rfl, fun h => by cases h⟩
        cases c2 : ((X.evs.getD (l.getD i 0).toNat ev0).lc != (loc : Int))
        case true =>
          simp (disch := omega) only [wp, Nat.reduceAdd, Nat.reduceMul, Nat.reduceSub, gl, e1, e2, e5, e6, e8, hg, hi1, hip, b1, b2, hkd, hlc, hdl, c1, c2]
          exact ⟨_, rfl, fun h => by cases h⟩
        simp (disch := omega) only [wp, Nat.reduceAdd, Nat.reduceMul, Nat.reduceSub, gl, e1, e2, e5, e6, e8, hg, hi1, hip, b1, b2, hkd, hlc, hdl, c1, c2]
        have hall' : ∀ j, j < i + 1 → 0 ≤ l.getD j 0 ∧ l.getD j 0 < X.evs.length ∧ (X.evs.getD (l.getD j 0).toNat ev0).kd = 2 ∧ (X.evs.getD (l.getD j 0).toNat ev0).lc = loc := by
          intro j hj
          by_cases hji : j = i
          · subst hji; exact ⟨by omega, by omega, by simpa using c1, by simpa using c2⟩
          · exact hall j (by omega)
        refine W_loop (fun q e g => ∃ k : Nat, q = i - k ∧ k ≤ i ∧ e 1 = .i .i64 loc ∧ e 2 = .mp 0 0 ∧ e 5 = .sl (intsC l) l.length .non ∧ e 6 = .i .i64 (N : Nat) ∧ e 8 = .i .i64 i ∧ e 9 = .i .i64 k ∧ g.hp 0 = some (.cells (grC X) false) ∧ 0 < g.nx ∧ (∀ m, m < k → l.getD m 0 ≠ l.getD i 0)) i ?_ ?_
        · refine ⟨0, rfl, Nat.zero_le _, ?_⟩
          simp (disch := omega) only [wp, Nat.reduceAdd, Nat.reduceMul, Nat.reduceSub, e1, e2, e5, e6, e8]
          exact ⟨rfl, hg, by first | omega | (dsimp only; omega), fun j hj => by omega⟩
        · rintro q e g ⟨k, rfl, hk, e1, e2, e5, e6, e8, e9, hg, hnx, hm⟩
          by_cases hk' : k < i
          · have hk1 : (k : Int) < i := by omega
            have hkl : (k : Int) < l.length := by omega
            have hwk := succ_wrap (k := k) (by omega)
            have hkp := ints_part (l := l) (k := k) (by omega)
            cases c3 : (l.getD k 0 == l.getD i 0)
            case true =>
              simp (disch := omega) only [wp, Nat.reduceAdd, Nat.reduceMul, Nat.reduceSub, gl, e1, e2, e5, e6, e8, e9, hg, hk1, hkl, hi1, hip, hkp, c3]
              exact ⟨_, rfl, fun h => by cases h⟩
            simp (disch := omega) only [wp, Nat.reduceAdd, Nat.reduceMul, Nat.reduceSub, gl, e1, e2, e5, e6, e8, e9, hg, hk1, hkl, hi1, hip, hkp, c3, hwk]
            refine ⟨i - (k + 1), by omega, k + 1, rfl, by omega, rfl, by first | omega | (dsimp only; omega), fun m hmk => ?_⟩
            by_cases hmk' : m = k
            · subst hmk'; simpa using c3
            · exact hm m (by omega)
          · obtain rfl : k = i := by omega
            have hk1 : ¬ ((k : Int) < k) := by omega
            simp (disch := omega) only [wp, Nat.reduceAdd, Nat.reduceMul, Nat.reduceSub, gl, e1, e2, e5, e6, e8, e9, hg, hk1, hwi]
            refine ⟨l.length - (k + 1), by omega, k + 1, rfl, by omega, rfl, by first | omega | (dsimp only; omega), hall', fun j hj m hmj => ?_⟩
            by_cases hjk : j = k
            · subst hjk; exact hm m hmj
            · exact hne j (by omega) m hmj
      · obtain rfl : i = l.length := by omega
        have hi1 : ¬ ((l.length : Int) < l.length) := by omega
        cases c4 : ((l.length : Int) == (N : Int))
        case false =>
          simp (disch := omega) only [wp, Nat.reduceAdd, Nat.reduceMul, Nat.reduceSub, gl, e1, e2, e5, e6, e8, hg, hi1, c4]
          exact ⟨_, rfl, fun h => by cases h⟩
        by_cases c5 : (0 : Int) < N
        case neg =>
          simp (disch := omega) only [wp, Nat.reduceAdd, Nat.reduceMul, Nat.reduceSub, gl, e1, e2, e5, e6, e8, hg, hi1, c4, c5]
          exact ⟨_, rfl, fun h => by cases h⟩
        have hlN : (l.length : Int) = N := by simpa using c4
        have hp0 := ints_part (l := l) (k := 0) (by omega)
        rw [Nat.zero_mul, List.drop_zero] at hp0
        simp (disch := omega) only [wp, Nat.reduceAdd, Nat.reduceMul, Nat.reduceSub, gl, e1, e2, e5, e6, e8, hg, hi1, c4, c5, hp0]
        exact ⟨_, rfl, fun h => fin hall hne (by omega) (by omega) (by simpa using h)⟩
end Go.Ab
end
section
set_option linter.unusedVariables false
set_option linter.unusedSimpArgs false
namespace Go.Ab
abbrev Mx := Nat → Nat → Bool
def matR (M : Mx) : List AV := (List.range 1600).map fun i => .b (M (i / 40) (i % 40))
def matC (n : Nat) (M : Mx) : List AV := .i .i64 n :: matR M
theorem matR_len (M : Mx) : (matR M).length = 1600 := by simp [matR]
theorem matC_len (n : Nat) (M : Mx) : (matC n M).length = 1601 := by simp [matC, matR_len]
theorem matR_get {M : Mx} {a b : Nat} (ha : a < 40) (hb : b < 40) : (matR M)[a * 40 + b]? = some (.b (M a b)) := by
  have h : a * 40 + b < 1600 := by omega
  simp only [matR, List.getElem?_map, List.getElem?_range h, Option.map_some]
  rw [show (a * 40 + b) / 40 = a by omega, show (a * 40 + b) % 40 = b by omega]
theorem matC_n (n : Nat) (M : Mx) : part (matC n M) 0 none = some (.i .i64 n) := rfl
theorem matC_drop1 (n : Nat) (M : Mx) : (matC n M).drop 1 = matR M := rfl
theorem matC_at {n : Nat} {M : Mx} {a b : Nat} (h : a < 40 ∧ b < 40) : part (matC n M) (0 + 1 + a * 40 + b * 1) none = some (.b (M a b)) := by
  rw [show 0 + 1 + a * 40 + b * 1 = (a * 40 + b) + 1 by omega]
  simp only [part, matC, List.getElem?_cons_succ, matR_get h.1 h.2]
theorem matR_at {M : Mx} {a b : Nat} (h : a < 40 ∧ b < 40) : part (((matR M).drop (a * 40)).drop (b * 1)) 0 none = some (.b (M a b)) := by
  simp only [part, List.getElem?_drop, Nat.mul_one, Nat.add_zero, matR_get h.1 h.2]
def upd2 (M : Mx) (a b : Nat) (x : Bool) : Mx := fun i j => if i = a ∧ j = b then x else M i j
theorem matC_set {n : Nat} {M : Mx} {a b : Nat} {x : Bool} (h : a < 40 ∧ b < 40) : (matC n M).set (0 + 1 + a * 40 + b * 1) (.b x) = matC n (upd2 M a b x) := by
  rw [show 0 + 1 + a * 40 + b * 1 = (a * 40 + b) + 1 by omega]
  simp only [matC, List.set_cons_succ]
  refine congrArg (List.cons _) ?_
  refine List.ext_getElem? fun i => ?_
  rw [List.getElem?_set, matR_len]
  by_cases hi : i < 1600
  · have e1 : (matR M)[i]? = some (.b (M (i / 40) (i % 40))) := by simp [matR, hi]
    have e2 : (matR (upd2 M a b x))[i]? = some (.b (upd2 M a b x (i / 40) (i % 40))) := by simp [matR, hi]
    rw [e1, e2]
    by_cases hab : a * 40 + b = i
    · rw [if_pos hab, if_pos (by omega)]
      unfold upd2
      rw [if_pos (by omega)]
    · rw [if_neg hab]
      unfold upd2
      rw [if_neg (by omega)]
  · have e1 : (matR M)[i]? = none := by rw [List.getElem?_eq_none]; rw [matR_len]; omega
    have e2 : (matR (upd2 M a b x))[i]? = none := by rw [List.getElem?_eq_none]; rw [matR_len]; omega
    rw [e1, e2, if_neg (by omega)]
theorem matC_flat (n : Nat) (M : Mx) : (matC n M).all flat = true := by simp [matC, matR, flat]
theorem matC_one (n : Nat) (M : Mx) : (matC n M).all one = true := by simp [matC, matR, one]
theorem matR_one (M : Mx) : (matR M).all one = true := by simp [matR, one]
theorem part_matR (M : Mx) : part (matR M) 0 (some 1600) = some (.agg (matR M)) := by
  simp [part, matR_len]
  rw [List.take_of_length_le (by rw [matR_len]; omega)]
theorem splice_mat (n : Nat) (M M' : Mx) : splice (matC n M) 1 (matR M') = matC n M' := by
  have h : ∀ (vs : List AV) (a : AV) (cs : List AV), 2 ≤ vs.length → vs.length = cs.length → splice (a :: cs) 1 vs = a :: vs := by
    intro vs a cs h2 h
    match vs, h2 with
    | u :: v :: vs, _ =>
      show List.take 1 (a :: cs) ++ (u :: v :: vs) ++ List.drop (1 + (u :: v :: vs).length) (a :: cs) = _
      rw [List.drop_eq_nil_of_le (by simp at h ⊢; omega)]
      simp
  exact h _ _ _ (by rw [matR_len]; omega) (by rw [matR_len, matR_len])
theorem zero_mat (n : Nat) : AV.i .i64 n :: List.replicate 1600 (.b false) = matC n (fun _ _ => false) := by
  unfold matC matR
  refine congrArg (List.cons _) ?_
  refine List.ext_getElem? fun i => ?_
  by_cases hi : i < 1600
  · rw [List.getElem?_replicate, if_pos hi, List.getElem?_map, List.getElem?_range hi]; rfl
  · rw [List.getElem?_eq_none (by rw [List.length_replicate]; omega), List.getElem?_eq_none (by rw [List.length_map, List.length_range]; omega)]
set_option maxRecDepth 10000 in
theorem ml : type_of% (And.intro (And.intro (And.intro @matC_n (And.intro @matC_at @matR_at)) (And.intro (And.intro @matC_drop1 @matC_len) (And.intro @matR_len @matC_one))) (And.intro (And.intro (And.intro @matR_one @matC_flat) (And.intro @part_matR @splice_mat)) (And.intro (And.intro @matC_set @retT_nrm) (And.intro @retT_ret @o_thaw)))) := (And.intro (And.intro (And.intro @matC_n (And.intro @matC_at @matR_at)) (And.intro (And.intro @matC_drop1 @matC_len) (And.intro @matR_len @matC_one))) (And.intro (And.intro (And.intro @matR_one @matC_flat) (And.intro @part_matR @splice_mat)) (And.intro (And.intro @matC_set @retT_nrm) (And.intro @retT_ret @o_thaw))))
end Go.Ab
end
section
set_option linter.unusedVariables false
set_option linter.unusedSimpArgs false
namespace Go.Ab
variable {F : Funs}
theorem pairs_a : ∀ {l : List (Int × Int)} {k : Nat} (h : k < l.length), part ((pairsC l).drop (k * 2)) 0 none = some (.i .i64 (l.getD k (0, 0)).1)
  | p :: l, 0, _ => by simp [pairsC, part]
  | p :: l, k + 1, h => by
    have := pairs_a (l := l) (k := k) (by simpa using h)
    simp only [List.getD_cons_succ]
    rw [← this]
    simp [pairsC, Nat.succ_mul]
theorem pairs_b : ∀ {l : List (Int × Int)} {k : Nat} (h : k < l.length), part (((pairsC l).drop (k * 2)).drop 1) 0 none = some (.i .i64 (l.getD k (0, 0)).2)
  | p :: l, 0, _ => by simp [pairsC, part]
  | p :: l, k + 1, h => by
    have := pairs_b (l := l) (k := k) (by simpa using h)
    simp only [List.getD_cons_succ]
    rw [← this]
    simp [pairsC, Nat.succ_mul]
def addM (n : Nat) (M : Mx) (p : Int × Int) : Mx := if inR n p then upd2 M p.1.toNat p.2.toNat true else M
def newM (n : Nat) (l : List (Int × Int)) : Mx := l.foldl (addM n) (fun _ _ => false)
theorem newM_take {n : Nat} {l : List (Int × Int)} {k : Nat} (h : k < l.length) : newM n (l.take (k + 1)) = addM n (newM n (l.take k)) (l.getD k (0, 0)) := by
  unfold newM
  rw [List.take_add_one, List.foldl_append, List.getElem?_eq_getElem h, List.getD_eq_getElem?_getD, List.getElem?_eq_getElem h]
  rfl
set_option maxHeartbeats 4000000 in
set_option maxRecDepth 100000 in
theorem new_W (n : Int) (l : List (Int × Int)) (t : Tok) (hlen : l.length < 9000000000000000000) : W F A_xref01_New.body (argEnv [.i .i64 n, .sl (pairsC l) l.length t]) g0 (retT A_xref01_New.res (matC (clamp n) (newM (clamp n) l))) := by
  have c1 : (if (40 : Int) < (if n < 0 then (0 : Int) else n) then (40 : Int) else (if n < 0 then (0 : Int) else n)) = clamp n := by unfold clamp; split <;> split <;> omega
  have hcl := clamp_le n
  simp (disch := omega) only [A_xref01_New, wp, Nat.reduceAdd, Nat.reduceMul, Nat.reduceSub, c1, List.all_append, List.all_replicate, zero_mat, ml]
  generalize clamp n = N at hcl
  refine W_loop (fun m e g => ∃ k, m = l.length - k ∧ k ≤ l.length ∧ e 1 = .sl (pairsC l) l.length t ∧ e 6 = .i .i64 k ∧ e 5 = .mp 5 0 ∧ g.hp 5 = some (.cells (matC N (newM N (l.take k))) false) ∧ 5 < g.nx) l.length ?_ ?_
  · refine ⟨0, rfl, Nat.zero_le _, ?_⟩
    simp (disch := omega) only [wp, Nat.reduceAdd, Nat.reduceMul, Nat.reduceSub]
    exact ⟨rfl, rfl, by omega⟩
  · rintro m e g ⟨k, rfl, hk, h1, h6, h5, hg, hn⟩
    by_cases hk' : k < l.length
    · have hk1 : (k : Int) < l.length := by omega
      have hpa := pairs_a hk'
      have hpb := pairs_b hk'
      have hw := succ_wrap (k := k) (by omega)
      have ht := newM_take (n := N) hk'
      generalize l.getD k (0, 0) = p at hpa hpb ht
      obtain ⟨a, b⟩ := p
      by_cases i1 : 0 ≤ a
      · by_cases i2 : 0 ≤ b
        · by_cases i3 : a < N
          · by_cases i4 : b < N
            · have hset := matC_set (n := N) (M := newM N (l.take k)) (a := a.toNat) (b := b.toNat) (x := true) (by omega)
              simp (disch := omega) only [wp, Nat.reduceAdd, Nat.reduceMul, Nat.reduceSub, h1, h5, h6, hk1, hpa, hpb, hg, i1, i2, i3, i4, hw, ml, List.length_drop, pairsC_len, hset]
              refine ⟨_, ?_, k + 1, rfl, by omega, rfl, ?_, by first | omega | (dsimp only; omega)⟩
              · omega
              · rw [ht]; simp [addM, inR, i1, i2, i3, i4]
            · simp (disch := omega) only [wp, Nat.reduceAdd, Nat.reduceMul, Nat.reduceSub, h1, h5, h6, hk1, hpa, hpb, hg, i1, i2, i3, i4, hw, ml, List.length_drop, pairsC_len]
              refine ⟨_, ?_, k + 1, rfl, by omega, rfl, ?_, by first | omega | (dsimp only; omega)⟩
              · omega
              · rw [ht]; simp [addM, inR, i4]
          · simp (disch := omega) only [wp, Nat.reduceAdd, Nat.reduceMul, Nat.reduceSub, h1, h5, h6, hk1, hpa, hpb, hg, i1, i2, i3, hw, ml, List.length_drop, pairsC_len]
            refine ⟨_, ?_, k + 1, rfl, by omega, rfl, ?_, by first | omega | (dsimp only; omega)⟩
            · omega
            · rw [ht]; simp [addM, inR, i3]
        · simp (disch := omega) only [wp, Nat.reduceAdd, Nat.reduceMul, Nat.reduceSub, h1, h5, h6, hk1, hpa, hpb, hg, i1, i2, hw, ml, List.length_drop, pairsC_len]
          refine ⟨_, ?_, k + 1, rfl, by omega, rfl, ?_, by first | omega | (dsimp only; omega)⟩
          · omega
          · rw [ht]; simp [addM, inR, i2]
      · simp (disch := omega) only [wp, Nat.reduceAdd, Nat.reduceMul, Nat.reduceSub, h1, h5, h6, hk1, hpa, hpb, hg, i1, hw, ml, List.length_drop, pairsC_len]
        refine ⟨_, ?_, k + 1, rfl, by omega, rfl, ?_, by first | omega | (dsimp only; omega)⟩
        · omega
        · rw [ht]; simp [addM, inR, i1]
    · obtain rfl : k = l.length := by omega
      have hk1 : ¬ ((l.length : Int) < l.length) := by omega
      simp (disch := omega) only [wp, Nat.reduceAdd, Nat.reduceMul, Nat.reduceSub, h1, h5, h6, hk1, hg, retT_ret, List.take_length]
      exact ⟨5, rfl, hg.trans (by rw [List.take_length])⟩
theorem sp_newM (h27 : F 27 = some A_xref01_New) (n : Int) (l : List (Int × Int)) (t : Tok) (hlen : l.length < 9000000000000000000) : pureS F 27 [.i .i64 n, .sl (pairsC l) l.length t] = some (.ptr (matC (clamp n) (newM (clamp n) l))) :=
  pure_of_thaw h27 (matC_flat _ _) (new_W n l t hlen)
theorem sp_newT (h27 : F 27 = some A_xref01_New) {n : Nat} (hn : n ≤ 40) (t : Tok) : thawS F 27 [.i .i64 n, .sl [] 0 t] = some (matC n fun _ _ => false) := by
  have := thaw_of h27 (matC_flat _ _) (new_W (F := F) (n : Int) [] t (by simp))
  rw [show clamp (n : Int) = n by unfold clamp; omega] at this
  exact this
end Go.Ab
end
section
set_option linter.unusedVariables false
set_option linter.unusedSimpArgs false
namespace Go.Ab
variable {F : Funs}
def lessP (p q : Int × Int) : Prop := p.1 < q.1 ∨ (p.1 = q.1 ∧ p.2 < q.2)
def Rising (l : List (Int × Int)) : Prop := ∀ i, i + 1 < l.length → lessP (l.getD i (0, 0)) (l.getD (i + 1) (0, 0))
set_option maxRecDepth 100000 in
set_option maxHeartbeats 4000000 in
theorem sp_rising (h82 : F 82 = some A_xref06_rising) (l : List (Int × Int)) (t : Tok) (hl : l.length ≤ 1000) : ∃ b, pureS F 82 [.sl (pairsC l) l.length t] = some (.b b) ∧ (b = true → Rising l) := by
  refine pureB_of h82 ?_
  have fin : (∀ i, i + 1 < l.length → lessP (l.getD i (0, 0)) (l.getD (i + 1) (0, 0))) → Rising l := id
  generalize Rising l = P at fin
  simp (disch := omega) only [A_xref06_rising, wp, Nat.reduceAdd, Nat.reduceMul, Nat.reduceSub, gl]
  refine W_loop (fun q e g => ∃ k : Nat, q = l.length - k ∧ k ≤ l.length ∧ e 0 = .sl (pairsC l) l.length t ∧ e 3 = .i .i64 ((k + 1 : Nat) : Int) ∧ (∀ i, i + 1 < k + 1 → lessP (l.getD i (0, 0)) (l.getD (i + 1) (0, 0)))) l.length ?_ ?_
  · refine ⟨0, rfl, Nat.zero_le _, ?_⟩
    simp (disch := omega) only [wp, Nat.reduceAdd, Nat.reduceMul, Nat.reduceSub]
    exact ⟨rfl, fun i hi => by omega⟩
  · rintro q e g ⟨k, rfl, hk, e0, e3, hall⟩
    by_cases hk' : k + 1 < l.length
    · have hk1 : ((k + 1 : Nat) : Int) < l.length := by omega
      have hk0 : (k : Int) < l.length := by omega
      have hwk := succ_wrap (k := k + 1) (by omega)
      have hw1 : IntKind.i64.wrap (((k + 1 : Nat) : Int) - 1) = (k : Int) := by rw [i64_wrap (by omega) (by omega)]; omega
      have a0 := pairs_a (l := l) (k := k) (by omega)
      have b0 := pairs_b (l := l) (k := k) (by omega)
      have a1 := pairs_a hk'
      have b1 := pairs_b hk'
      have d0 : (List.drop (k * 2) (pairsC l)).length = l.length * 2 - k * 2 := by rw [List.length_drop, pairsC_len]
      have d1 : (List.drop ((k + 1) * 2) (pairsC l)).length = l.length * 2 - (k + 1) * 2 := by rw [List.length_drop, pairsC_len]
      have step : lessP (l.getD k (0, 0)) (l.getD (k + 1) (0, 0)) → ∀ i, i + 1 < k + 1 + 1 → lessP (l.getD i (0, 0)) (l.getD (i + 1) (0, 0)) := by
        intro h i hi
        by_cases hik : i = k
        · subst hik; exact h
        · exact hall i (by omega)
      generalize l.getD k (0, 0) = p at a0 b0 step
      generalize l.getD (k + 1) (0, 0) = q at a1 b1 step
      by_cases c1 : q.1 < p.1
      case pos =>
        simp (disch := omega) only [wp, Nat.reduceAdd, Nat.reduceMul, Nat.reduceSub, gl, e0, e3, hk1, hk0, hw1, a0, a1, b0, b1, d0, d1, c1]
        exact ⟨_, rfl, fun h => by cases h⟩
      cases c2 : (q.1 == p.1)
      case false =>
        have ne : q.1 ≠ p.1 := by simpa using c2
        simp (disch := omega) only [wp, Nat.reduceAdd, Nat.reduceMul, Nat.reduceSub, gl, e0, e3, hk1, hk0, hw1, a0, a1, b0, b1, d0, d1, c1, c2, hwk]
        exact ⟨l.length - (k + 1), by omega, k + 1, rfl, by omega, rfl, step (.inl (by omega))⟩
      by_cases c3 : q.2 ≤ p.2
      case pos =>
        simp (disch := omega) only [wp, Nat.reduceAdd, Nat.reduceMul, Nat.reduceSub, gl, e0, e3, hk1, hk0, hw1, a0, a1, b0, b1, d0, d1, c1, c2, c3]
        exact ⟨_, rfl, fun h => by cases h⟩
      have eq : q.1 = p.1 := by simpa using c2
      simp (disch := omega) only [wp, Nat.reduceAdd, Nat.reduceMul, Nat.reduceSub, gl, e0, e3, hk1, hk0, hw1, a0, a1, b0, b1, d0, d1, c1, c2, c3, hwk]
      exact ⟨l.length - (k + 1), by omega, k + 1, rfl, by omega, rfl, step (.inr ⟨by omega, by omega⟩)⟩
    · have hk1 : ¬ (((k + 1 : Nat) : Int) < l.length) := by omega
      simp (disch := omega) only [wp, Nat.reduceAdd, Nat.reduceMul, Nat.reduceSub, gl, e0, e3, hk1]
      exact ⟨_, rfl, fun _ => fin fun i hi => hall i (by omega)⟩
def DepOk (X : Gr) (p : Int × Int) : Prop := 0 ≤ p.1 ∧ p.1 < p.2 ∧ p.2 < X.evs.length ∧ (X.evs.getD p.1.toNat ev0).kd = 1 ∧ (X.evs.getD p.1.toNat ev0).th = (X.evs.getD p.2.toNat ev0).th
def DepsOk (X : Gr) (l : List (Int × Int)) : Prop := (∀ i, i < l.length → DepOk X (l.getD i (0, 0))) ∧ Rising l
set_option maxRecDepth 100000 in
set_option maxHeartbeats 4000000 in
theorem sp_deps (h67 : F 67 = some A_xref06_deps) (h82 : F 82 = some A_xref06_rising) (X : Gr) (l : List (Int × Int)) (t : Tok) (hl : l.length ≤ 1000) : ∃ b, pureS F 67 [.agg (grC X), .sl (pairsC l) l.length t] = some (.b b) ∧ (b = true → DepsOk X l) := by
  refine pureB_of h67 ?_
  have fin : (∀ i, i < l.length → DepOk X (l.getD i (0, 0))) ∧ Rising l → DepsOk X l := id
  generalize DepsOk X l = P at fin
  obtain ⟨br, hr, hrt⟩ := sp_rising h82 l .non hl
  simp (disch := omega) only [A_xref06_deps, wp, Nat.reduceAdd, Nat.reduceMul, Nat.reduceSub, gl]
  refine W_loop (fun q e g => ∃ k : Nat, q = l.length - k ∧ k ≤ l.length ∧ e 1 = .sl (pairsC l) l.length t ∧ e 2 = .mp 0 0 ∧ e 5 = .i .i64 k ∧ g.hp 0 = some (.cells (grC X) false) ∧ 0 < g.nx ∧ (∀ i, i < k → DepOk X (l.getD i (0, 0)))) l.length ?_ ?_
  · refine ⟨0, rfl, Nat.zero_le _, ?_⟩
    simp (disch := omega) only [wp, Nat.reduceAdd, Nat.reduceMul, Nat.reduceSub]
    exact ⟨rfl, by first | omega | (dsimp only; omega), fun i hi => by omega⟩
  · rintro q e g ⟨k, rfl, hk, e1, e2, e5, hg, hnx, hall⟩
    by_cases hk' : k < l.length
    · have hk1 : (k : Int) < l.length := by omega
      have hwk := succ_wrap (k := k) (by omega)
      have a0 := pairs_a hk'
      have b0 := pairs_b hk'
      have d0 : (List.drop (k * 2) (pairsC l)).length = l.length * 2 - k * 2 := by rw [List.length_drop, pairsC_len]
      have step : DepOk X (l.getD k (0, 0)) → ∀ i, i < k + 1 → DepOk X (l.getD i (0, 0)) := by
        intro h i hi
        by_cases hik : i = k
        · subst hik; exact h
        · exact hall i (by omega)
      generalize l.getD k (0, 0) = p at a0 b0 step
      obtain ⟨a, b⟩ := p
      simp only at a0 b0
      by_cases c1 : a < 0
      case pos =>
        simp (disch := omega) only [wp, Nat.reduceAdd, Nat.reduceMul, Nat.reduceSub, gl, e1, e2, e5, hg, hk1, a0, b0, d0, c1]
        exact ⟨_, rfl, fun h => by cases h⟩
      by_cases c2 : b ≤ a
      case pos =>
        simp (disch := omega) only [wp, Nat.reduceAdd, Nat.reduceMul, Nat.reduceSub, gl, e1, e2, e5, hg, hk1, a0, b0, d0, c1, c2]
        exact ⟨_, rfl, fun h => by cases h⟩
      by_cases c3 : (X.evs.length : Int) ≤ b
      case pos =>
        simp (disch := omega) only [wp, Nat.reduceAdd, Nat.reduceMul, Nat.reduceSub, gl, e1, e2, e5, hg, hk1, a0, b0, d0, c1, c2, c3]
        exact ⟨_, rfl, fun h => by cases h⟩
      have ka := ev_kd_at (l := X.evs) (k := a.toNat) (by omega)
      have ta := ev_th_at (l := X.evs) (k := a.toNat) (by omega)
      have tb := ev_th_at (l := X.evs) (k := b.toNat) (by omega)
      have da : (List.drop (a.toNat * 6) (evsC X.evs)).length = X.evs.length * 6 - a.toNat * 6 := by rw [List.length_drop, evsC_len]
      have db : (List.drop (b.toNat * 6) (evsC X.evs)).length = X.evs.length * 6 - b.toNat * 6 := by rw [List.length_drop, evsC_len]
      cases c4 : ((X.evs.getD a.toNat ev0).kd != 1)
      case true =>
        simp (disch := omega) only [wp, Nat.reduceAdd, Nat.reduceMul, Nat.reduceSub, gl, e1, e2, e5, hg, hk1, a0, b0, d0, c1, c2, c3, ka, ta, tb, da, db, c4]
        exact ⟨_, rfl, fun h => by cases h⟩
      cases c5 : ((X.evs.getD a.toNat ev0).th != (X.evs.getD b.toNat ev0).th)
      case true =>
        simp (disch := omega) only [wp, Nat.reduceAdd, Nat.reduceMul, Nat.reduceSub, gl, e1, e2, e5, hg, hk1, a0, b0, d0, c1, c2, c3, ka, ta, tb, da, db, c4, c5]
        exact ⟨_, rfl, fun h => by cases h⟩
      simp (disch := omega) only [wp, Nat.reduceAdd, Nat.reduceMul, Nat.reduceSub, gl, e1, e2, e5, hg, hk1, a0, b0, d0, c1, c2, c3, ka, ta, tb, da, db, c4, c5, hwk]
      refine ⟨l.length - (k + 1), by omega, k + 1, rfl, by omega, rfl, by first | omega | (dsimp only; omega), step ⟨?_, ?_, ?_, by simpa using c4, by simpa using c5⟩⟩ <;> (dsimp only; omega)
    · obtain rfl : k = l.length := by omega
      have hk1 : ¬ ((l.length : Int) < l.length) := by omega
      simp (disch := omega) only [wp, Nat.reduceAdd, Nat.reduceMul, Nat.reduceSub, gl, e1, e2, e5, hg, hk1, hr]
      exact ⟨_, rfl, fun h => fin ⟨hall, hrt h⟩⟩
end Go.Ab
end
section
set_option linter.unusedVariables false
set_option linter.unusedSimpArgs false
namespace Go.Ab
variable {F : Funs}
def cntC (f : Nat → Nat) : List AV := (List.range 40).map fun i => .i .i64 (f i)
theorem cntC_len (f) : (cntC f).length = 40 := by simp [cntC]
theorem cnt_zero : List.replicate 40 (AV.i .i64 0) = cntC (fun _ => 0) := by rfl
theorem cnt_at {f : Nat → Nat} {a : Nat} (h : a < 40) : part (cntC f) (a * 1) none = some (.i .i64 (f a)) := by
  simp only [part, cntC, Nat.mul_one, List.getElem?_map, List.getElem?_range h, Option.map_some]
theorem cnt_set {f : Nat → Nat} {a n : Nat} (h : a < 40) : (cntC f).set (a * 1) (.i .i64 (n : Int)) = cntC (upd f a n) := by
  rw [Nat.mul_one]
  refine List.ext_getElem? fun i => ?_
  rw [List.getElem?_set]
  unfold cntC
  by_cases hi : i < 40
  · by_cases ha : a = i
    · subst ha
      simp [hi, upd]
    · have : i ≠ a := fun h => ha h.symm
      simp [hi, ha, upd, this]
  · by_cases ha : a = i
    · omega
    · simp [hi, ha]
def inB (i : Nat) (p : Int × Int) : Bool := p.1 == (i : Int) || p.2 == (i : Int)
def inC (l : List (Int × Int)) (i : Nat) : Nat := (l.filter (inB i)).length
theorem inC_take {l : List (Int × Int)} {k : Nat} (h : k < l.length) (i : Nat) : inC (l.take (k + 1)) i = inC (l.take k) i + if inB i (l.getD k (0, 0)) then 1 else 0 := by
  unfold inC
  rw [List.take_add_one, List.filter_append, List.getElem?_eq_getElem h, List.getD_eq_getElem?_getD, List.getElem?_eq_getElem h, List.length_append]
  simp only [Option.toList, Option.getD_some, List.filter_cons, List.filter_nil]
  split <;> rfl
theorem inC_le (l : List (Int × Int)) (i : Nat) : inC l i ≤ l.length := List.length_filter_le _ _
def PairOk (X : Gr) (p : Int × Int) : Prop := 0 ≤ p.1 ∧ p.1 < X.evs.length - 1 ∧ p.2 = p.1 + 1 ∧ (X.evs.getD p.1.toNat ev0).th = (X.evs.getD p.2.toNat ev0).th ∧ (X.evs.getD p.1.toNat ev0).kd = 1 ∧ (X.evs.getD p.2.toNat ev0).kd = 2 ∧ (X.evs.getD p.1.toNat ev0).lc = (X.evs.getD p.2.toNat ev0).lc ∧ (X.evs.getD p.1.toNat ev0).ex = true ∧ (X.evs.getD p.2.toNat ev0).ex = true
structure RmwOk (X : Gr) : Prop where
  pairs : ∀ j, j < X.rmw.length → PairOk X (X.rmw.getD j (0, 0))
  once : ∀ i, i < X.evs.length → inC X.rmw i ≤ 1 ∧ (X.evs.getD i ev0).ex = ((inC X.rmw i : Int) == 1)
  rise : Rising X.rmw
set_option maxRecDepth 100000 in
set_option maxHeartbeats 4000000 in
theorem sp_rmw (h66 : F 66 = some A_xref06_rmw) (h82 : F 82 = some A_xref06_rising) {X : Gr} (hn : X.evs.length ≤ 40) (hl : X.rmw.length ≤ 1000) : ∃ b, pureS F 66 [.agg (grC X)] = some (.b b) ∧ (b = true → RmwOk X) := by
  refine pureB_of h66 ?_
  have fin : (∀ j, j < X.rmw.length → PairOk X (X.rmw.getD j (0, 0))) → (∀ i, i < X.evs.length → inC X.rmw i ≤ 1 ∧ (X.evs.getD i ev0).ex = ((inC X.rmw i : Int) == 1)) → Rising X.rmw → RmwOk X := fun a b c => ⟨a, b, c⟩
  generalize RmwOk X = P at fin
  obtain ⟨br, hr, hrt⟩ := sp_rising h82 X.rmw .non hl
  have s6 : ∀ b1 b2 b3 b4 b5 b6 c1 c2 c3 c4 c5 c6 : AV, splice [b1, b2, b3, b4, b5, b6] 0 [c1, c2, c3, c4, c5, c6] = [c1, c2, c3, c4, c5, c6] := fun _ _ _ _ _ _ _ _ _ _ _ _ => rfl
  simp (disch := omega) only [A_xref06_rmw, wp, Nat.reduceAdd, Nat.reduceMul, Nat.reduceSub, gl, cnt_zero]
  refine blk_cutR (fun e g => e 1 = .mp 0 0 ∧ e 3 = .mp 2 0 ∧ g.hp 0 = some (.cells (grC X) false) ∧ g.hp 2 = some (.cells (cntC (inC X.rmw)) false) ∧ 2 < g.nx ∧ ∀ j, j < X.rmw.length → PairOk X (X.rmw.getD j (0, 0))) ?_ ?_
  · refine W_loop (fun q e g => ∃ k : Nat, q = X.rmw.length - k ∧ k ≤ X.rmw.length ∧ e 1 = .mp 0 0 ∧ e 3 = .mp 2 0 ∧ e 4 = .i .i64 k ∧ g.hp 0 = some (.cells (grC X) false) ∧ g.hp 2 = some (.cells (cntC (inC (X.rmw.take k))) false) ∧ 2 < g.nx ∧ ∀ j, j < k → PairOk X (X.rmw.getD j (0, 0))) X.rmw.length ?_ ?_
    · refine ⟨0, rfl, Nat.zero_le _, ?_⟩
      simp (disch := omega) only [wp, Nat.reduceAdd, Nat.reduceMul, Nat.reduceSub]
      exact ⟨rfl, by rfl, by first | omega | (dsimp only; omega), fun i hi => by omega⟩
    · rintro q e g ⟨k, rfl, hk, e1, e3, e4, hg, hc, hnx, hall⟩
      by_cases hk' : k < X.rmw.length
      · have hk1 : (k : Int) < X.rmw.length := by omega
        have hwk := succ_wrap (k := k) (by omega)
        have a0 := pairs_a hk'
        have b0 := pairs_b hk'
        have d0 : (List.drop (k * 2) (pairsC X.rmw)).length = X.rmw.length * 2 - k * 2 := by rw [List.length_drop, pairsC_len]
        have hin := inC_take hk'
        have hinl : ∀ i, inC (X.rmw.take k) i ≤ 1000 := fun i => by
          have := inC_le (X.rmw.take k) i
          rw [List.length_take] at this; omega
        have step : PairOk X (X.rmw.getD k (0, 0)) → ∀ i, i < k + 1 → PairOk X (X.rmw.getD i (0, 0)) := by
          intro h i hi
          by_cases hik : i = k
          · subst hik; exact h
          · exact hall i (by omega)
        generalize X.rmw.getD k (0, 0) = p at a0 b0 step hin
        generalize inC (X.rmw.take k) = f at hc hin hinl
        obtain ⟨a, b⟩ := p
        simp only at a0 b0
        by_cases c1 : a < 0
        case pos =>
          simp (disch := omega) only [wp, Nat.reduceAdd, Nat.reduceMul, Nat.reduceSub, gl, e1, e3, e4, hg, hc, hk1, a0, b0, d0, c1]
          exact ⟨_, rfl, fun h => by cases h⟩
        have hws : IntKind.i64.wrap ((X.evs.length : Int) - 1) = (X.evs.length : Int) - 1 := by rw [i64_wrap (by omega) (by omega)]
        by_cases c2 : (X.evs.length : Int) - 1 ≤ a
        case pos =>
          simp (disch := omega) only [wp, Nat.reduceAdd, Nat.reduceMul, Nat.reduceSub, gl, e1, e3, e4, hg, hc, hk1, a0, b0, d0, c1, c2, hws]
          exact ⟨_, rfl, fun h => by cases h⟩
        have hwa : IntKind.i64.wrap (a + 1) = a + 1 := by rw [i64_wrap (by omega) (by omega)]
        cases c3 : (b != a + 1)
        case true =>
          simp (disch := omega) only [wp, Nat.reduceAdd, Nat.reduceMul, Nat.reduceSub, gl, e1, e3, e4, hg, hc, hk1, a0, b0, d0, c1, c2, hws, hwa, c3]
          exact ⟨_, rfl, fun h => by cases h⟩
        have hba : b = a + 1 := by simpa using c3
        have pa := ev_part (l := X.evs) (k := a.toNat) (by omega)
        have pb := ev_part (l := X.evs) (k := b.toNat) (by omega)
        have hal : a < X.evs.length := by omega
        have hbl : b < X.evs.length := by omega
        unfold PairOk at step
        simp only at step
        generalize X.evs.getD a.toNat ev0 = u at pa step
        generalize X.evs.getD b.toNat ev0 = v at pb step
        obtain ⟨th, kd, md, lc, vl, ex⟩ := u
        obtain ⟨th', kd', md', lc', vl', ex'⟩ := v
        simp only at step
        cases c4 : (th != th')
        case true =>
          simp (disch := omega) only [wp, Nat.reduceAdd, Nat.reduceMul, Nat.reduceSub, gl, e1, e3, e4, hg, hc, hk1, a0, b0, d0, c1, c2, hws, hwa, c3, pa, pb, s6, c4]
          exact ⟨_, rfl, fun h => by cases h⟩
        cases c5 : (kd != 1)
        case true =>
          simp (disch := omega) only [wp, Nat.reduceAdd, Nat.reduceMul, Nat.reduceSub, gl, e1, e3, e4, hg, hc, hk1, a0, b0, d0, c1, c2, hws, hwa, c3, pa, pb, s6, c4, c5]
          exact ⟨_, rfl, fun h => by cases h⟩
        cases c6 : (kd' != 2)
        case true =>
          simp (disch := omega) only [wp, Nat.reduceAdd, Nat.reduceMul, Nat.reduceSub, gl, e1, e3, e4, hg, hc, hk1, a0, b0, d0, c1, c2, hws, hwa, c3, pa, pb, s6, c4, c5, c6]
          exact ⟨_, rfl, fun h => by cases h⟩
        cases c7 : (lc != lc')
        case true =>
          simp (disch := omega) only [wp, Nat.reduceAdd, Nat.reduceMul, Nat.reduceSub, gl, e1, e3, e4, hg, hc, hk1, a0, b0, d0, c1, c2, hws, hwa, c3, pa, pb, s6, c4, c5, c6, c7]
          exact ⟨_, rfl, fun h => by cases h⟩
        cases ex
        case false =>
          simp (disch := omega) only [wp, Nat.reduceAdd, Nat.reduceMul, Nat.reduceSub, gl, e1, e3, e4, hg, hc, hk1, a0, b0, d0, c1, c2, hws, hwa, c3, pa, pb, s6, c4, c5, c6, c7]
          exact ⟨_, rfl, fun h => by cases h⟩
        cases ex'
        case false =>
          simp (disch := omega) only [wp, Nat.reduceAdd, Nat.reduceMul, Nat.reduceSub, gl, e1, e3, e4, hg, hc, hk1, a0, b0, d0, c1, c2, hws, hwa, c3, pa, pb, s6, c4, c5, c6, c7]
          exact ⟨_, rfl, fun h => by cases h⟩
        have ra := cnt_at (f := f) (a := a.toNat) (by omega)
        have hf1 := succ_wrap (k := f a.toNat) (by have := hinl a.toNat; omega)
        have sa := cnt_set (f := f) (a := a.toNat) (n := f a.toNat + 1) (by omega)
        have rb := cnt_at (f := upd f a.toNat (f a.toNat + 1)) (a := b.toNat) (by omega)
        rw [upd_ne _ _ (by omega)] at rb
        have hf2 := succ_wrap (k := f b.toNat) (by have := hinl b.toNat; omega)
        have sb := cnt_set (f := upd f a.toNat (f a.toNat + 1)) (a := b.toNat) (n := f b.toNat + 1) (by omega)
        have hfin : upd (upd f a.toNat (f a.toNat + 1)) b.toNat (f b.toNat + 1) = inC (X.rmw.take (k + 1)) := by
          funext i
          rw [hin i]
          unfold upd inB
          by_cases i1 : i = b.toNat
          · have : (b == (i : Int)) = true := by simp; omega
            rw [if_pos i1, this, Bool.or_true, if_pos rfl, i1]
          · rw [if_neg i1]
            have n1 : (b == (i : Int)) = false := by simp; omega
            by_cases i2 : i = a.toNat
            · have : (a == (i : Int)) = true := by simp; omega
              rw [if_pos i2, this, Bool.true_or, if_pos rfl, i2]
            · have n2 : (a == (i : Int)) = false := by simp; omega
              rw [if_neg i2, n1, n2]; rfl
        simp (disch := omega) only [wp, Nat.reduceAdd, Nat.reduceMul, Nat.reduceSub, gl, e1, e3, e4, hg, hc, hk1, a0, b0, d0, c1, c2, hws, hwa, c3, pa, pb, s6, c4, c5, c6, c7, cntC_len, ra, hf1, sa, rb, hf2, sb, hfin, hwk]
        refine ⟨X.rmw.length - (k + 1), by omega, k + 1, rfl, by omega, rfl, rfl, by first | omega | (dsimp only; omega), step ⟨by omega, by omega, hba, by simpa using c4, by simpa using c5, by simpa using c6, by simpa using c7, rfl, rfl⟩⟩
      · obtain rfl : k = X.rmw.length := by omega
        have hk1 : ¬ ((X.rmw.length : Int) < X.rmw.length) := by omega
        rw [List.take_length] at hc
        simp (disch := omega) only [wp, Nat.reduceAdd, Nat.reduceMul, Nat.reduceSub, gl, e1, e3, e4, hg, hc, hk1]
        exact ⟨by first | omega | (dsimp only; omega), hall⟩
  · rintro e g ⟨e1, e3, hg, hc, hnx, hall⟩
    have hinl : ∀ i, inC X.rmw i ≤ 1000 := fun i => by
      have := inC_le X.rmw i; omega
    have fin := fin hall
    generalize inC X.rmw = f at hc fin hinl
    simp (disch := omega) only [wp, Nat.reduceAdd, Nat.reduceMul, Nat.reduceSub, e1, e3]
    refine W_loop (fun q e g => ∃ k : Nat, q = X.evs.length - k ∧ k ≤ X.evs.length ∧ e 1 = .mp 0 0 ∧ e 3 = .mp 2 0 ∧ e 9 = .i .i64 k ∧ g.hp 0 = some (.cells (grC X) false) ∧ g.hp 2 = some (.cells (cntC f) false) ∧ 2 < g.nx ∧ ∀ i, i < k → f i ≤ 1 ∧ (X.evs.getD i ev0).ex = ((f i : Int) == 1)) X.evs.length ?_ ?_
    · refine ⟨0, rfl, Nat.zero_le _, ?_⟩
      simp (disch := omega) only [wp, Nat.reduceAdd, Nat.reduceMul, Nat.reduceSub, e1, e3]
      exact ⟨rfl, hg, hc, by first | omega | (dsimp only; omega), fun i hi => by omega⟩
    · rintro q e g ⟨k, rfl, hk, e1, e3, e9, hg, hc, hnx, hev⟩
      by_cases hk' : k < X.evs.length
      · have hk1 : (k : Int) < X.evs.length := by omega
        have hk40 : (k : Int) < 40 := by omega
        have hwk := succ_wrap (k := k) (by omega)
        have rk := cnt_at (f := f) (a := k) (by omega)
        have hex := ev_ex_at hk'
        have hdl : (List.drop (k * 6) (evsC X.evs)).length = X.evs.length * 6 - k * 6 := by rw [List.length_drop, evsC_len]
        have step : f k ≤ 1 ∧ (X.evs.getD k ev0).ex = ((f k : Int) == 1) → ∀ i, i < k + 1 → f i ≤ 1 ∧ (X.evs.getD i ev0).ex = ((f i : Int) == 1) := by
          intro h i hi
          by_cases hik : i = k
          · subst hik; exact h
          · exact hev i (by omega)
        generalize (X.evs.getD k ev0).ex = ex at hex step
        by_cases c1 : 1 < (f k : Int)
        case pos =>
          simp (disch := omega) only [wp, Nat.reduceAdd, Nat.reduceMul, Nat.reduceSub, gl, e1, e3, e9, hg, hc, hk1, rk, c1]
          exact ⟨_, rfl, fun h => by cases h⟩
        cases c2 : (ex == ((f k : Int) == 1))
        case false =>
          simp (disch := omega) only [wp, Nat.reduceAdd, Nat.reduceMul, Nat.reduceSub, gl, e1, e3, e9, hg, hc, hk1, rk, c1, hex, hdl, c2]
          exact ⟨_, rfl, fun h => by cases h⟩
        simp (disch := omega) only [wp, Nat.reduceAdd, Nat.reduceMul, Nat.reduceSub, gl, e1, e3, e9, hg, hc, hk1, rk, c1, hex, hdl, c2, hwk]
        refine ⟨X.evs.length - (k + 1), by omega, k + 1, rfl, by omega, rfl, by first | omega | (dsimp only; omega), step ⟨by omega, by simpa using c2⟩⟩
      · obtain rfl : k = X.evs.length := by omega
        have hk1 : ¬ ((X.evs.length : Int) < X.evs.length) := by omega
        simp (disch := omega) only [wp, Nat.reduceAdd, Nat.reduceMul, Nat.reduceSub, gl, e1, e3, e9, hg, hc, hk1, hr]
        exact ⟨_, rfl, fun h => fin hev (hrt h)⟩
end Go.Ab
end
section
set_option linter.unusedVariables false
set_option linter.unusedSimpArgs false
namespace Go.Ab
variable {F : Funs}
structure GraphOk (X : Gr) : Prop where
  locs1 : 1 ≤ X.locs
  locs4 : X.locs ≤ 4
  nl : X.locs ≤ X.evs.length
  n40 : X.evs.length ≤ 40
  rfl : X.rf.length = X.evs.length
  col : (X.co.length : Int) = X.locs
  ev : ∀ i, i < X.evs.length → EvOk X.locs i (X.evs.getD (i - 1) ev0) (X.evs.getD i ev0)
  rf : ∀ i, i < X.evs.length → RfOk X i
  co : ∀ i, i < X.co.length → CoOk X i
  rmw : RmwOk X
  data : DepsOk X X.data
  ctrl : DepsOk X X.ctrl
  ctrli : DepsOk X X.ctrli
set_option maxRecDepth 100000 in
set_option maxHeartbeats 4000000 in
theorem sp_check (h45 : F 45 = some A_xref06_Check) (h63 : F 63 = some A_xref06_event) (h64 : F 64 = some A_xref06_rf) (h65 : F 65 = some A_xref06_co) (h66 : F 66 = some A_xref06_rmw) (h67 : F 67 = some A_xref06_deps) (h82 : F 82 = some A_xref06_rising) {X : Gr} (hX : FewG X) : ∃ b, pureS F 45 [.agg (grC X)] = some (.b b) ∧ (b = true → GraphOk X) := by
  refine pureB_of h45 ?_
  have fin : 1 ≤ X.locs → X.locs ≤ 4 → X.locs ≤ X.evs.length → X.evs.length ≤ 40 → X.rf.length = X.evs.length → (X.co.length : Int) = X.locs → (∀ i, i < X.evs.length → EvOk X.locs i (X.evs.getD (i - 1) ev0) (X.evs.getD i ev0)) → (∀ i, i < X.evs.length → RfOk X i) → (∀ i, i < X.co.length → CoOk X i) → RmwOk X → DepsOk X X.data → DepsOk X X.ctrl → DepsOk X X.ctrli → GraphOk X :=
    fun a b c d e f g h i j k l m => ⟨a, b, c, d, e, f, g, h, i, j, k, l, m⟩
  generalize GraphOk X = P at fin
  by_cases c1 : X.locs < 1
  case pos =>
    simp (disch := omega) only [A_xref06_Check, wp, Nat.reduceAdd, Nat.reduceMul, Nat.reduceSub, gl, c1]
    exact ⟨_, rfl, fun h => by cases h⟩
  by_cases c2 : 4 < X.locs
  case pos =>
    simp (disch := omega) only [A_xref06_Check, wp, Nat.reduceAdd, Nat.reduceMul, Nat.reduceSub, gl, c1, c2]
    exact ⟨_, rfl, fun h => by cases h⟩
  by_cases c3 : (X.evs.length : Int) < X.locs
  case pos =>
    simp (disch := omega) only [A_xref06_Check, wp, Nat.reduceAdd, Nat.reduceMul, Nat.reduceSub, gl, c1, c2, c3]
    exact ⟨_, rfl, fun h => by cases h⟩
  by_cases c4 : 40 < (X.evs.length : Int)
  case pos =>
    simp (disch := omega) only [A_xref06_Check, wp, Nat.reduceAdd, Nat.reduceMul, Nat.reduceSub, gl, c1, c2, c3, c4]
    exact ⟨_, rfl, fun h => by cases h⟩
  cases c5 : ((X.rf.length : Int) != (X.evs.length : Int))
  case true =>
    simp (disch := omega) only [A_xref06_Check, wp, Nat.reduceAdd, Nat.reduceMul, Nat.reduceSub, gl, c1, c2, c3, c4, c5]
    exact ⟨_, rfl, fun h => by cases h⟩
  cases c6 : ((X.co.length : Int) != X.locs)
  case true =>
    simp (disch := omega) only [A_xref06_Check, wp, Nat.reduceAdd, Nat.reduceMul, Nat.reduceSub, gl, c1, c2, c3, c4, c5, c6]
    exact ⟨_, rfl, fun h => by cases h⟩
  have hrl : (X.rf.length : Int) = X.evs.length := by simpa using c5
  have hcl : (X.co.length : Int) = X.locs := by simpa using c6
  have fin := fin (by omega) (by omega) (by omega) (by omega) (by omega) hcl
  simp (disch := omega) only [A_xref06_Check, wp, Nat.reduceAdd, Nat.reduceMul, Nat.reduceSub, gl, c1, c2, c3, c4, c5, c6]
  refine blk_cutR (fun e g => e 1 = .mp 0 0 ∧ g.hp 0 = some (.cells (grC X) false) ∧ 0 < g.nx ∧ (∀ i, i < X.evs.length → EvOk X.locs i (X.evs.getD (i - 1) ev0) (X.evs.getD i ev0)) ∧ ∀ i, i < X.evs.length → RfOk X i) ?_ ?_
  · refine W_loop (fun q e g => ∃ k : Nat, q = X.evs.length - k ∧ k ≤ X.evs.length ∧ e 1 = .mp 0 0 ∧ e 3 = .i .i64 X.evs.length ∧ e 4 = .i .i64 k ∧ g.hp 0 = some (.cells (grC X) false) ∧ 0 < g.nx ∧ (∀ i, i < k → EvOk X.locs i (X.evs.getD (i - 1) ev0) (X.evs.getD i ev0)) ∧ ∀ i, i < k → RfOk X i) X.evs.length ?_ ?_
    · refine ⟨0, rfl, Nat.zero_le _, ?_⟩
      simp (disch := omega) only [wp, Nat.reduceAdd, Nat.reduceMul, Nat.reduceSub]
      exact ⟨rfl, by first | omega | (dsimp only; omega), fun i hi => by omega, fun i hi => by omega⟩
    · rintro q e g ⟨k, rfl, hk, e1, e3, e4, hg, hnx, hev, hrf⟩
      by_cases hk' : k < X.evs.length
      · have hk1 : (k : Int) < X.evs.length := by omega
        have hwk := succ_wrap (k := k) (by omega)
        obtain ⟨b1, h1, p1⟩ := sp_event h63 hk' (by omega) (by omega)
        obtain ⟨b2, h2, p2⟩ := sp_rfC h64 hk' (by omega)
        cases b1
        case false =>
          simp (disch := omega) only [wp, Nat.reduceAdd, Nat.reduceMul, Nat.reduceSub, gl, e1, e3, e4, hg, hk1, h1]
          exact ⟨_, rfl, fun h => by cases h⟩
        cases b2
        case false =>
          simp (disch := omega) only [wp, Nat.reduceAdd, Nat.reduceMul, Nat.reduceSub, gl, e1, e3, e4, hg, hk1, h1, h2]
          exact ⟨_, rfl, fun h => by cases h⟩
        have p1 := p1 rfl
        have p2 := p2 rfl
        simp (disch := omega) only [wp, Nat.reduceAdd, Nat.reduceMul, Nat.reduceSub, gl, e1, e3, e4, hg, hk1, h1, h2, hwk]
        refine ⟨X.evs.length - (k + 1), by omega, k + 1, rfl, by omega, rfl, by first | omega | (dsimp only; omega), fun i hi => ?_, fun i hi => ?_⟩
        · by_cases hik : i = k
          · subst hik; exact p1
          · exact hev i (by omega)
        · by_cases hik : i = k
          · subst hik; exact p2
          · exact hrf i (by omega)
      · obtain rfl : k = X.evs.length := by omega
        have hk1 : ¬ ((X.evs.length : Int) < X.evs.length) := by omega
        simp (disch := omega) only [wp, Nat.reduceAdd, Nat.reduceMul, Nat.reduceSub, gl, e1, e3, e4, hg, hk1]
        exact ⟨by first | omega | (dsimp only; omega), hev, hrf⟩
  · rintro e g ⟨e1, hg, hnx, hev, hrf⟩
    have fin := fin hev hrf
    simp (disch := omega) only [wp, Nat.reduceAdd, Nat.reduceMul, Nat.reduceSub, e1]
    refine blk_cutR (fun e g => e 1 = .mp 0 0 ∧ g.hp 0 = some (.cells (grC X) false) ∧ 0 < g.nx ∧ ∀ i, i < X.co.length → CoOk X i) ?_ ?_
    · refine W_loop (fun q e g => ∃ k : Nat, q = X.co.length - k ∧ k ≤ X.co.length ∧ e 1 = .mp 0 0 ∧ e 5 = .i .i64 k ∧ g.hp 0 = some (.cells (grC X) false) ∧ 0 < g.nx ∧ ∀ i, i < k → CoOk X i) X.co.length ?_ ?_
      · refine ⟨0, rfl, Nat.zero_le _, ?_⟩
        simp (disch := omega) only [wp, Nat.reduceAdd, Nat.reduceMul, Nat.reduceSub, e1]
        exact ⟨rfl, hg, by first | omega | (dsimp only; omega), fun i hi => by omega⟩
      · rintro q e g ⟨k, rfl, hk, e1, e5, hg, hnx, hco⟩
        by_cases hk' : k < X.co.length
        · have hk1 : (k : Int) < X.locs := by omega
          have hwk := succ_wrap (k := k) (by omega)
          obtain ⟨b1, h1, p1⟩ := sp_coC h65 hk' (by have := hX.evs; omega) (by
            have hm : X.co.getD k [] ∈ X.co := by
              rw [List.getD_eq_getElem?_getD, List.getElem?_eq_getElem hk']; exact List.getElem_mem hk'
            have := hX.cos _ hm; omega)
          cases b1
          case false =>
            simp (disch := omega) only [wp, Nat.reduceAdd, Nat.reduceMul, Nat.reduceSub, gl, e1, e5, hg, hk1, h1]
            exact ⟨_, rfl, fun h => by cases h⟩
          have p1 := p1 rfl
          simp (disch := omega) only [wp, Nat.reduceAdd, Nat.reduceMul, Nat.reduceSub, gl, e1, e5, hg, hk1, h1, hwk]
          refine ⟨X.co.length - (k + 1), by omega, k + 1, rfl, by omega, rfl, by first | omega | (dsimp only; omega), fun i hi => ?_⟩
          by_cases hik : i = k
          · subst hik; exact p1
          · exact hco i (by omega)
        · obtain rfl : k = X.co.length := by omega
          have hk1 : ¬ ((X.co.length : Int) < X.locs) := by omega
          simp (disch := omega) only [wp, Nat.reduceAdd, Nat.reduceMul, Nat.reduceSub, gl, e1, e5, hg, hk1]
          exact ⟨by first | omega | (dsimp only; omega), hco⟩
    · rintro e g ⟨e1, hg, hnx, hco⟩
      have fin := fin hco
      obtain ⟨b1, h1, p1⟩ := sp_rmw h66 h82 (X := X) (by omega) (by have := hX.rmw; omega)
      obtain ⟨b2, h2, p2⟩ := sp_deps h67 h82 X X.data .non (by have := hX.data; omega)
      obtain ⟨b3, h3, p3⟩ := sp_deps h67 h82 X X.ctrl .non (by have := hX.ctrl; omega)
      obtain ⟨b4, h4, p4⟩ := sp_deps h67 h82 X X.ctrli .non (by have := hX.ctrli; omega)
      cases b1
      case false =>
        simp (disch := omega) only [wp, Nat.reduceAdd, Nat.reduceMul, Nat.reduceSub, gl, e1, hg, h1]
        exact ⟨_, rfl, fun h => by cases h⟩
      cases b2
      case false =>
        simp (disch := omega) only [wp, Nat.reduceAdd, Nat.reduceMul, Nat.reduceSub, gl, e1, hg, h1, h2]
        exact ⟨_, rfl, fun h => by cases h⟩
      cases b3
      case false =>
        simp (disch := omega) only [wp, Nat.reduceAdd, Nat.reduceMul, Nat.reduceSub, gl, e1, hg, h1, h2, h3]
        exact ⟨_, rfl, fun h => by cases h⟩
      simp (disch := omega) only [wp, Nat.reduceAdd, Nat.reduceMul, Nat.reduceSub, gl, e1, hg, h1, h2, h3, h4]
      exact ⟨_, rfl, fun h => fin (p1 rfl) (p2 rfl) (p3 rfl) (p4 h)⟩
end Go.Ab
end
section
set_option linter.unusedVariables false
set_option linter.unusedSimpArgs false
namespace Go.Ab
variable {F : Funs}
def allN (n : Nat) (p : Nat → Bool) : Bool := (List.range n).all p
theorem allN_iff {n : Nat} {p : Nat → Bool} : allN n p = true ↔ ∀ i, i < n → p i = true := by
  unfold allN
  rw [List.all_eq_true]
  exact ⟨fun h i hi => h i (List.mem_range.2 hi), fun h i hi => h i (List.mem_range.1 hi)⟩
theorem allN_t {n : Nat} {p : Nat → Bool} (h : ∀ i, i < n → p i = true) : allN n p = true := allN_iff.2 h
theorem allN_f {n : Nat} {p : Nat → Bool} {k : Nat} (hk : k < n) (h : p k = false) : allN n p = false := by
  cases c : allN n p with
  | false => rfl
  | true => rw [allN_iff.1 c k hk] at h; cases h
def cmpI (a b : Int) : Int := if a < b then -1 else if b < a then 1 else 0
def ordP (p q : Int × Int) : Int := if cmpI p.1 q.1 != 0 then cmpI p.1 q.1 else cmpI p.2 q.2
def gEv (locs : Int) (e : Ev) : Bool :=
  if e.kd == 1 then (decide (0 ≤ e.lc) && decide (e.lc < locs)) && (e.md == 0 || e.md == 1)
  else if e.kd == 2 then (decide (0 ≤ e.lc) && decide (e.lc < locs)) && (e.md == 0 || e.md == 2)
  else e.kd == 3 && decide (1 ≤ e.md) && decide (e.md ≤ 4) && e.lc == 0 && e.vl == 0 && !e.ex
def gWr (X : Gr) (i loc : Int) : Bool := decide (0 ≤ i) && decide (i < X.evs.length) && (X.evs.getD i.toNat ev0).kd == 2 && (X.evs.getD i.toNat ev0).lc == loc
def mayD (a b : Ev) : Bool := a.kd == 1 && a.th == b.th
def mayR (a b : Ev) : Bool := a.kd == 1 && b.kd == 2 && a.lc == b.lc && a.ex && b.ex && a.th == b.th
section
variable (pc : Pk_cmp F)
include pc
set_option maxRecDepth 100000 in
theorem sg_nan (a : Int) : pureS F 266 [.i .i64 a] = some (.b false) := by
  refine pure_of pc.cmp_isNaN_int ?_
  have h : (a != a) = false := by simp
  simp (disch := omega) only [A_cmp_isNaN_int, wp, Nat.reduceAdd, Nat.reduceMul, Nat.reduceSub, h]
set_option maxRecDepth 100000 in
theorem sg_cmp (a b : Int) : pureS F 248 [.i .i64 a, .i .i64 b] = some (.i .i64 (cmpI a b)) := by
  refine pure_of pc.cmp_Compare_int ?_
  unfold cmpI
  by_cases c1 : a < b
  · simp (disch := omega) only [A_cmp_Compare_int, wp, Nat.reduceAdd, Nat.reduceMul, Nat.reduceSub, sg_nan pc, c1, if_true]
  · by_cases c2 : b < a
    · simp (disch := omega) only [A_cmp_Compare_int, wp, Nat.reduceAdd, Nat.reduceMul, Nat.reduceSub, sg_nan pc, c1, c2, if_true, if_false]
    · simp (disch := omega) only [A_cmp_Compare_int, wp, Nat.reduceAdd, Nat.reduceMul, Nat.reduceSub, sg_nan pc, c1, c2, if_false]
set_option maxRecDepth 100000 in
theorem sg_or (a b : Int) : pureS F 249 [.sl [.i .i64 a, .i .i64 b] 2 .non] = some (.i .i64 (if a != 0 then a else b)) := by
  refine pure_of pc.cmp_Or_int ?_
  simp (disch := omega) only [A_cmp_Or_int, wp, Nat.reduceAdd, Nat.reduceMul, Nat.reduceSub]
  have p0 : part (List.drop (0 * 1) [AV.i .i64 a, AV.i .i64 b]) 0 none = some (.i .i64 a) := rfl
  have p1 : part (List.drop (1 * 1) [AV.i .i64 a, AV.i .i64 b]) 0 none = some (.i .i64 b) := rfl
  have w0 := succ_wrap (k := 0) (by omega)
  have w1 := succ_wrap (k := 1) (by omega)
  refine W_loop (fun q e g => ∃ k : Nat, q = 2 - k ∧ k ≤ 2 ∧ e 3 = .i .i64 0 ∧ e 6 = .sl [.i .i64 a, .i .i64 b] 2 .non ∧ e 7 = .i .i64 2 ∧ e 8 = .i .i64 k ∧ (1 ≤ k → a = 0) ∧ (2 ≤ k → b = 0)) 2 ?_ ?_
  · refine ⟨0, rfl, by omega, ?_⟩
    simp (disch := omega) only [wp, Nat.reduceAdd, Nat.reduceMul, Nat.reduceSub]
    exact ⟨rfl, rfl, fun h => by omega, fun h => by omega⟩
  · rintro q e g ⟨k, rfl, hk, e3, e6, e7, e8, ha, hb'⟩
    by_cases hk' : k < 2
    · have hk1 : (k : Int) < 2 := by omega
      have hwk := succ_wrap (k := k) (by omega)
      by_cases k0 : k = 0
      · subst k0
        cases c : (a != 0)
        · simp (disch := omega) only [wp, Nat.reduceAdd, Nat.reduceMul, Nat.reduceSub, e3, e6, e7, e8, hk1, p0, c, hwk]
          exact ⟨1, by omega, 1, rfl, by omega, rfl, fun _ => by simpa using c, fun h => by omega⟩
        · simp (disch := omega) only [wp, Nat.reduceAdd, Nat.reduceMul, Nat.reduceSub, e3, e6, e7, e8, hk1, p0, c]
          rfl
      · obtain rfl : k = 1 := by omega
        have ha := ha (by omega)
        subst ha
        cases c : (b != 0)
        · simp (disch := omega) only [wp, Nat.reduceAdd, Nat.reduceMul, Nat.reduceSub, e3, e6, e7, e8, hk1, p1, c, hwk]
          exact ⟨0, by omega, 2, rfl, by omega, rfl, fun _ => trivial, fun h => by simpa using c⟩
        · simp (disch := omega) only [wp, Nat.reduceAdd, Nat.reduceMul, Nat.reduceSub, e3, e6, e7, e8, hk1, p1, c]
          rfl
    · obtain rfl : k = 2 := by omega
      have hk1 : ¬ (((2 : Nat) : Int) < 2) := by omega
      have ha := ha (by omega)
      have hb' := hb' (by omega)
      subst ha hb'
      simp (disch := omega) only [wp, Nat.reduceAdd, Nat.reduceMul, Nat.reduceSub, e3, e6, e7, e8, hk1]
      rfl
end
set_option maxRecDepth 100000 in
set_option maxHeartbeats 4000000 in
theorem sg_event (h236 : F 236 = some A_graph_event) (e : Ev) (locs : Int) : pureS F 236 [.agg (evC e), .i .i64 locs] = some (.b (gEv locs e)) := by
  refine pure_of h236 ?_
  obtain ⟨th, kd, md, lc, vl, ex⟩ := e
  have d0 : (evC ⟨th, kd, md, lc, vl, ex⟩) = [.i .i64 th, .i .i64 kd, .i .i64 md, .i .i64 lc, .i .i64 vl, .b ex] := rfl
  have fin : gEv locs ⟨th, kd, md, lc, vl, ex⟩ = if kd == 1 then (decide (0 ≤ lc) && decide (lc < locs)) && (md == 0 || md == 1) else if kd == 2 then (decide (0 ≤ lc) && decide (lc < locs)) && (md == 0 || md == 2) else kd == 3 && decide (1 ≤ md) && decide (md ≤ 4) && lc == 0 && vl == 0 && !ex := rfl
  generalize gEv locs ⟨th, kd, md, lc, vl, ex⟩ = R at fin
  simp only [A_graph_event, W_seq]
  refine W_cut (fun e g => e 1 = .i .i64 locs ∧ e 2 = .mp 0 0 ∧ g.hp 0 = some (.cells (evC ⟨th, kd, md, lc, vl, ex⟩) false)) ?_ ?_
  · simp (disch := omega) only [wp, Nat.reduceAdd, Nat.reduceMul, Nat.reduceSub, gl]
  rintro e g ⟨e1, e2, hg⟩
  simp only [W_seq]
  refine W_cut (fun e g => e 2 = .mp 0 0 ∧ e 5 = .b (decide (0 ≤ lc) && decide (lc < locs)) ∧ g.hp 0 = some (.cells (evC ⟨th, kd, md, lc, vl, ex⟩) false)) ?_ ?_
  · by_cases l1 : 0 ≤ lc
    · simp (disch := omega) only [wp, Nat.reduceAdd, Nat.reduceMul, Nat.reduceSub, gl, e1, e2, hg, d0, l1]
    · simp (disch := omega) only [wp, Nat.reduceAdd, Nat.reduceMul, Nat.reduceSub, gl, e1, e2, hg, d0, l1]
  rintro e g ⟨e2, e5, hg⟩
  generalize (decide (0 ≤ lc) && decide (lc < locs)) = at0 at e5 fin
  cases k1 : (kd == 1)
  case true =>
    rw [k1, if_pos rfl] at fin
    cases at0
    · simp (disch := omega) only [wp, Nat.reduceAdd, Nat.reduceMul, Nat.reduceSub, gl, e2, e5, hg, d0, k1, fin]
    · cases m0 : (md == 0)
      · rw [m0] at fin
        simp (disch := omega) only [wp, Nat.reduceAdd, Nat.reduceMul, Nat.reduceSub, gl, e2, e5, hg, d0, k1, m0, fin]
      · rw [m0] at fin
        simp (disch := omega) only [wp, Nat.reduceAdd, Nat.reduceMul, Nat.reduceSub, gl, e2, e5, hg, d0, k1, m0, fin]
  case false =>
    rw [k1, if_neg (by decide)] at fin
    cases k2 : (kd == 2)
    case true =>
      rw [k2, if_pos rfl] at fin
      cases at0
      · simp (disch := omega) only [wp, Nat.reduceAdd, Nat.reduceMul, Nat.reduceSub, gl, e2, e5, hg, d0, k1, k2, fin]
      · cases m0 : (md == 0)
        · rw [m0] at fin
          simp (disch := omega) only [wp, Nat.reduceAdd, Nat.reduceMul, Nat.reduceSub, gl, e2, e5, hg, d0, k1, k2, m0, fin]
        · rw [m0] at fin
          simp (disch := omega) only [wp, Nat.reduceAdd, Nat.reduceMul, Nat.reduceSub, gl, e2, e5, hg, d0, k1, k2, m0, fin]
    case false =>
      rw [k2, if_neg (by decide)] at fin
      cases k3 : (kd == 3)
      · rw [k3] at fin
        simp (disch := omega) only [wp, Nat.reduceAdd, Nat.reduceMul, Nat.reduceSub, gl, e2, e5, hg, d0, k1, k2, k3, fin]
      rw [k3] at fin
      by_cases m1 : 1 ≤ md
      case neg => simp (disch := omega) only [wp, Nat.reduceAdd, Nat.reduceMul, Nat.reduceSub, gl, e2, e5, hg, d0, k1, k2, k3, m1, fin]
      by_cases m4 : md ≤ 4
      case neg => simp (disch := omega) only [wp, Nat.reduceAdd, Nat.reduceMul, Nat.reduceSub, gl, e2, e5, hg, d0, k1, k2, k3, m1, m4, fin]
      cases a3 : (lc == 0)
      · rw [a3] at fin
        simp (disch := omega) only [wp, Nat.reduceAdd, Nat.reduceMul, Nat.reduceSub, gl, e2, e5, hg, d0, k1, k2, k3, m1, m4, a3, fin]
      cases a4 : (vl == 0)
      · rw [a3, a4] at fin
        simp (disch := omega) only [wp, Nat.reduceAdd, Nat.reduceMul, Nat.reduceSub, gl, e2, e5, hg, d0, k1, k2, k3, m1, m4, a3, a4, fin]
      rw [a3, a4] at fin
      simp (disch := omega) only [wp, Nat.reduceAdd, Nat.reduceMul, Nat.reduceSub, gl, e2, e5, hg, d0, k1, k2, k3, m1, m4, a3, a4, fin]
set_option maxRecDepth 100000 in
set_option maxHeartbeats 4000000 in
theorem sg_write (h237 : F 237 = some A_graph_write) (X : Gr) (i loc : Int) : pureS F 237 [.agg (grC X), .i .i64 i, .i .i64 loc] = some (.b (gWr X i loc)) := by
  refine pure_of h237 ?_
  unfold gWr
  by_cases c1 : 0 ≤ i
  case neg => simp (disch := omega) only [A_graph_write, wp, Nat.reduceAdd, Nat.reduceMul, Nat.reduceSub, gl, c1]
  by_cases c2 : i < X.evs.length
  case neg => simp (disch := omega) only [A_graph_write, wp, Nat.reduceAdd, Nat.reduceMul, Nat.reduceSub, gl, c1, c2]
  have ka := ev_kd_at (l := X.evs) (k := i.toNat) (by omega)
  have la := ev_lc_at (l := X.evs) (k := i.toNat) (by omega)
  have da : (List.drop (i.toNat * 6) (evsC X.evs)).length = X.evs.length * 6 - i.toNat * 6 := by rw [List.length_drop, evsC_len]
  cases c3 : ((X.evs.getD i.toNat ev0).kd == 2)
  · simp (disch := omega) only [A_graph_write, wp, Nat.reduceAdd, Nat.reduceMul, Nat.reduceSub, gl, c1, c2, ka, la, da, c3]
  · simp (disch := omega) only [A_graph_write, wp, Nat.reduceAdd, Nat.reduceMul, Nat.reduceSub, gl, c1, c2, ka, la, da, c3]
set_option maxRecDepth 100000 in
theorem sg_mayD (h191 : F 191 = some A_graph_Check_1) (a b : Ev) : pureS F 191 [.agg (evC a), .agg (evC b)] = some (.b (mayD a b)) := by
  refine pure_of h191 ?_
  unfold mayD
  cases c1 : (a.kd == 1)
  · simp (disch := omega) only [A_graph_Check_1, wp, Nat.reduceAdd, Nat.reduceMul, Nat.reduceSub, gl, c1]
  · simp (disch := omega) only [A_graph_Check_1, wp, Nat.reduceAdd, Nat.reduceMul, Nat.reduceSub, gl, c1]
set_option maxRecDepth 100000 in
set_option maxHeartbeats 4000000 in
theorem sg_mayR (h238 : F 238 = some A_graph_rmw_1) (a b : Ev) : pureS F 238 [.agg (evC a), .agg (evC b)] = some (.b (mayR a b)) := by
  refine pure_of h238 ?_
  unfold mayR
  cases c1 : (a.kd == 1)
  · simp (disch := omega) only [A_graph_rmw_1, wp, Nat.reduceAdd, Nat.reduceMul, Nat.reduceSub, gl, c1]
  cases c2 : (b.kd == 2)
  · simp (disch := omega) only [A_graph_rmw_1, wp, Nat.reduceAdd, Nat.reduceMul, Nat.reduceSub, gl, c1, c2]
  cases c3 : (a.lc == b.lc)
  · simp (disch := omega) only [A_graph_rmw_1, wp, Nat.reduceAdd, Nat.reduceMul, Nat.reduceSub, gl, c1, c2, c3]
  cases c4 : a.ex
  · simp (disch := omega) only [A_graph_rmw_1, wp, Nat.reduceAdd, Nat.reduceMul, Nat.reduceSub, gl, c1, c2, c3, c4]
  cases c5 : b.ex
  · simp (disch := omega) only [A_graph_rmw_1, wp, Nat.reduceAdd, Nat.reduceMul, Nat.reduceSub, gl, c1, c2, c3, c4, c5]
  simp (disch := omega) only [A_graph_rmw_1, wp, Nat.reduceAdd, Nat.reduceMul, Nat.reduceSub, gl, c1, c2, c3, c4, c5]
set_option maxRecDepth 100000 in
theorem sg_order (pc : Pk_cmp F) (h239 : F 239 = some A_graph_order) (p q : Int × Int) : pureS F 239 [.agg [.i .i64 p.1, .i .i64 p.2], .agg [.i .i64 q.1, .i .i64 q.2]] = some (.i .i64 (ordP p q)) := by
  refine pure_of h239 ?_
  simp (disch := omega) only [A_graph_order, wp, Nat.reduceAdd, Nat.reduceMul, Nat.reduceSub, gl, sg_cmp pc, sg_or pc]
  rfl
end Go.Ab
end
section
set_option linter.unusedVariables false
set_option linter.unusedSimpArgs false
namespace Go.Ab
variable {F : Funs}
def evIs (a b : Ev) : Bool := a.th == b.th && (a.kd == b.kd && (a.md == b.md && (a.lc == b.lc && (a.vl == b.vl && (a.ex == b.ex && true)))))
def gFirst (X : Gr) : Bool := allN X.locs.toNat fun i => evIs (X.evs.getD i ev0) ⟨0, 2, 0, i, 0, false⟩
set_option maxRecDepth 100000 in
set_option maxHeartbeats 4000000 in
theorem sg_first (h186 : F 186 = some A_graph_first) {X : Gr} (h0 : 0 ≤ X.locs) (hl : X.locs ≤ X.evs.length) (hn : X.evs.length ≤ 1000) : pureS F 186 [.agg (grC X)] = some (.b (gFirst X)) := by
  refine pure_of h186 ?_
  have finT : (∀ i, i < X.locs.toNat → evIs (X.evs.getD i ev0) ⟨0, 2, 0, i, 0, false⟩ = true) → gFirst X = true := allN_t
  have finF : ∀ k, k < X.locs.toNat → evIs (X.evs.getD k ev0) ⟨0, 2, 0, k, 0, false⟩ = false → gFirst X = false := fun k hk h => allN_f hk h
  generalize gFirst X = R at finT finF
  have r5 : ∀ x : AV, List.replicate 5 x = [x, x, x, x, x] := fun _ => rfl
  simp (disch := omega) only [A_graph_first, wp, Nat.reduceAdd, Nat.reduceMul, Nat.reduceSub, gl]
  refine W_loop (fun q e g => ∃ k : Nat, q = X.locs.toNat - k ∧ k ≤ X.locs.toNat ∧ e 1 = .mp 0 0 ∧ e 5 = .i .i64 X.locs ∧ e 6 = .i .i64 k ∧ g.hp 0 = some (.cells (grC X) false) ∧ 0 < g.nx ∧ ∀ i, i < k → evIs (X.evs.getD i ev0) ⟨0, 2, 0, i, 0, false⟩ = true) X.locs.toNat ?_ ?_
  · refine ⟨0, rfl, Nat.zero_le _, ?_⟩
    simp (disch := omega) only [wp, Nat.reduceAdd, Nat.reduceMul, Nat.reduceSub]
    exact ⟨rfl, by first | omega | (dsimp only; omega), fun i hi => by omega⟩
  · rintro q e g ⟨k, rfl, hk, e1, e5, e6, hg, hnx, hall⟩
    by_cases hk' : k < X.locs.toNat
    · have hk1 : (k : Int) < X.locs := by omega
      have hkn : (k : Int) < X.evs.length := by omega
      have hwk := succ_wrap (k := k) (by omega)
      have hev := ev_part (l := X.evs) (k := k) (by omega)
      have he : aeqa [0, 0, 0, 0, 0, 1] (.agg (evC (X.evs.getD k ev0))) (.agg [.i .i64 0, .i .i64 2, .i .i64 0, .i .i64 k, .i .i64 0, .b false]) = some (evIs (X.evs.getD k ev0) ⟨0, 2, 0, k, 0, false⟩) := rfl
      cases c : evIs (X.evs.getD k ev0) ⟨0, 2, 0, k, 0, false⟩
      · obtain rfl := finF k hk' c
        rw [c] at he
        simp (disch := omega) only [wp, Nat.reduceAdd, Nat.reduceMul, Nat.reduceSub, gl, e1, e5, e6, hg, hk1, hkn, hev, r5, he]
      · have hc := c
        rw [c] at he
        simp (disch := omega) only [wp, Nat.reduceAdd, Nat.reduceMul, Nat.reduceSub, gl, e1, e5, e6, hg, hk1, hkn, hev, r5, he, hwk]
        refine ⟨X.locs.toNat - (k + 1), by omega, k + 1, rfl, by omega, rfl, by first | omega | (dsimp only; omega), fun i hi => ?_⟩
        by_cases hik : i = k
        · subst hik; exact hc
        · exact hall i (by omega)
    · have hk1 : ¬ ((k : Int) < X.locs) := by omega
      obtain rfl : k = X.locs.toNat := by omega
      obtain rfl := finT hall
      simp (disch := omega) only [wp, Nat.reduceAdd, Nat.reduceMul, Nat.reduceSub, gl, e1, e5, e6, hg, hk1]
theorem o_slice' {call al lo' id e g} (esz : Nat) (x : Opd) (lo hi mx : Option Opd) : opE call al lo' id (.slice esz x lo hi mx) e g = vSlice esz (x.ev e) (evo e lo) (evo e hi) (evo e mx) g := rfl
theorem vSlice_lo {esz : Nat} {cs : List AV} {n : Nat} {lo : Int} {g : G} (h0 : 0 ≤ lo) (h : lo ≤ n) : vSlice esz (.sl cs n .non) (some (.i .i64 lo)) none none g = some (.sl ((cs.drop (lo.toNat * esz)).take ((n - lo.toNat) * esz)) (n - lo.toNat) .non, g) := by
  unfold vSlice
  have e : bnd n none = some (n : Int) := rfl
  have e2 : bnd 0 (some (.i .i64 lo)) = some lo := rfl
  have c : 0 ≤ lo ∧ lo ≤ (n : Int) ∧ (n : Int) ≤ n := ⟨h0, h, by omega⟩
  simp only [e, e2, if_pos c, Int.toNat_natCast]
  rfl
theorem evsC_drop : ∀ (l : List Ev) (k : Nat), (evsC l).drop (k * 6) = evsC (l.drop k)
  | l, 0 => by simp
  | [], k + 1 => by simp [evsC]
  | x :: l, k + 1 => by
    have e : (k + 1) * 6 = (evC x).length + k * 6 := by show _ = 6 + k * 6; omega
    rw [List.drop_succ_cons, ← evsC_drop l k, e]
    show List.drop _ (evC x ++ evsC l) = _
    rw [List.drop_length_add_append]
theorem evs_tail {l : List Ev} {lo : Int} (h0 : 0 ≤ lo) (h : lo ≤ l.length) : ((evsC l).drop (lo.toNat * 6)).take ((l.length - lo.toNat) * 6) = evsC (l.drop lo.toNat) := by
  rw [evsC_drop, List.take_of_length_le]
  rw [evsC_len, List.length_drop]
  exact Nat.le_refl _
def thrWas (D : List Ev) (k : Nat) : Int := if k = 0 then 1 else (D.getD (k - 1) ev0).th
def thrK (locs : Int) (D : List Ev) (k : Nat) : Bool := !decide ((D.getD k ev0).th < thrWas D k) && (!decide (4 < (D.getD k ev0).th) && gEv locs (D.getD k ev0))
def gThr (X : Gr) : Bool := allN (X.evs.length - X.locs.toNat) (thrK X.locs (X.evs.drop X.locs.toNat))
set_option maxRecDepth 100000 in
set_option maxHeartbeats 4000000 in
theorem sg_threads (h187 : F 187 = some A_graph_threads) (h236 : F 236 = some A_graph_event) {X : Gr} (h0 : 0 ≤ X.locs) (hl : X.locs ≤ X.evs.length) (hn : X.evs.length ≤ 1000) : pureS F 187 [.agg (grC X)] = some (.b (gThr X)) := by
  refine pure_of h187 ?_
  have hD : (X.evs.drop X.locs.toNat).length = X.evs.length - X.locs.toNat := List.length_drop ..
  have finT : (∀ i, i < X.evs.length - X.locs.toNat → thrK X.locs (X.evs.drop X.locs.toNat) i = true) → gThr X = true := allN_t
  have finF : ∀ k, k < X.evs.length - X.locs.toNat → thrK X.locs (X.evs.drop X.locs.toNat) k = false → gThr X = false := fun k hk h => allN_f hk h
  generalize gThr X = R at finT finF
  have hs : ∀ g : G, vSlice 6 (.sl (evsC X.evs) X.evs.length .non) (some (.i .i64 X.locs)) none none g = some (.sl (evsC (X.evs.drop X.locs.toNat)) (X.evs.drop X.locs.toNat).length .non, g) := fun g => by
    rw [vSlice_lo h0 hl, evs_tail h0 hl, hD]
  rw [← hD] at finT finF
  simp (disch := omega) only [A_graph_threads, wp, Nat.reduceAdd, Nat.reduceMul, Nat.reduceSub, gl, o_slice', evo, Option.map_some, Option.map_none, hs]
  generalize X.evs.drop X.locs.toNat = D at finT finF hD
  have s6 : ∀ b1 b2 b3 b4 b5 b6 c1 c2 c3 c4 c5 c6 : AV, splice [b1, b2, b3, b4, b5, b6] 0 [c1, c2, c3, c4, c5, c6] = [c1, c2, c3, c4, c5, c6] := fun _ _ _ _ _ _ _ _ _ _ _ _ => rfl
  have r5 : ∀ x : AV, List.replicate 5 x = [x, x, x, x, x] := fun _ => rfl
  refine W_loop (fun q e g => ∃ k : Nat, q = D.length - k ∧ k ≤ D.length ∧ e 1 = .mp 0 0 ∧ e 3 = .i .i64 (thrWas D k) ∧ e 10 = .sl (evsC D) D.length .non ∧ e 11 = .i .i64 D.length ∧ e 12 = .i .i64 k ∧ g.hp 0 = some (.cells (grC X) false) ∧ 0 < g.nx ∧ ∀ i, i < k → thrK X.locs D i = true) D.length ?_ ?_
  · refine ⟨0, rfl, Nat.zero_le _, ?_⟩
    simp (disch := omega) only [wp, Nat.reduceAdd, Nat.reduceMul, Nat.reduceSub]
    exact ⟨rfl, rfl, by first | omega | (dsimp only; omega), fun i hi => by omega⟩
  · rintro q e g ⟨k, rfl, hk, e1, e3, e10, e11, e12, hg, hnx, hall⟩
    by_cases hk' : k < D.length
    · have hk1 : (k : Int) < D.length := by omega
      have hwk := succ_wrap (k := k) (by omega)
      have hev := ev_part hk'
      have hK : thrK X.locs D k = (!decide ((D.getD k ev0).th < thrWas D k) && (!decide (4 < (D.getD k ev0).th) && gEv X.locs (D.getD k ev0))) := rfl
      have hW : thrWas D (k + 1) = (D.getD k ev0).th := rfl
      have hv := sg_event h236 (D.getD k ev0) X.locs
      have hf := finF k hk'
      rw [hK] at hf
      have hall' : thrK X.locs D k = true → ∀ i, i < k + 1 → thrK X.locs D i = true := by
        intro h i hi
        by_cases hik : i = k
        · subst hik; exact h
        · exact hall i (by omega)
      rw [hK] at hall'
      generalize thrWas D k = was at e3 hf hall'
      have t0 := ev_th (D.getD k ev0)
      generalize D.getD k ev0 = ev at hev hW hv hf hall' t0
      have n1 : 0 ≠ g.nx + 1 + 1 := by omega
      by_cases c1 : ev.th < was
      · obtain rfl := hf (by simp [c1])
        simp (disch := omega) only [wp, Nat.reduceAdd, Nat.reduceMul, Nat.reduceSub, gl, e1, e3, e10, e11, e12, hg, hk1, hev, c1]
      by_cases c2 : 4 < ev.th
      · obtain rfl := hf (by simp [c2])
        simp (disch := omega) only [wp, Nat.reduceAdd, Nat.reduceMul, Nat.reduceSub, gl, e1, e3, e10, e11, e12, hg, hk1, hev, c1, c2]
      cases c3 : gEv X.locs ev
      · rw [c3] at hv
        obtain rfl := hf (by simp [c3])
        simp (disch := omega) only [wp, Nat.reduceAdd, Nat.reduceMul, Nat.reduceSub, gl, e1, e3, e10, e11, e12, hg, hk1, hev, c1, c2, hv]
      · rw [c3] at hv
        have hall' := hall' (by simp [c1, c2, c3])
        simp (disch := omega) only [wp, Nat.reduceAdd, Nat.reduceMul, Nat.reduceSub, gl, e1, e3, e10, e11, e12, hg, hk1, hev, c1, c2, hv, hwk]
        exact ⟨D.length - (k + 1), by omega, k + 1, rfl, by omega, by rw [hW], rfl, by first | omega | (dsimp only; omega), hall'⟩
    · have hk1 : ¬ ((k : Int) < D.length) := by omega
      obtain rfl : k = D.length := by omega
      obtain rfl := finT hall
      simp (disch := omega) only [wp, Nat.reduceAdd, Nat.reduceMul, Nat.reduceSub, gl, e1, e3, e10, e11, e12, hg, hk1]
end Go.Ab
end
section
set_option linter.unusedVariables false
set_option linter.unusedSimpArgs false
namespace Go.Ab
variable {F : Funs}
def rfK (X : Gr) (i : Nat) : Bool := !((X.evs.getD i ev0).kd != 1 && X.rf.getD i 0 != -1) && !((X.evs.getD i ev0).kd == 1 && (!gWr X (X.rf.getD i 0) (X.evs.getD i ev0).lc || (X.evs.getD (X.rf.getD i 0).toNat ev0).vl != (X.evs.getD i ev0).vl))
def gRf (X : Gr) : Bool := ((X.rf.length : Int) == X.evs.length) && allN X.evs.length (rfK X)
theorem gWr_in {X : Gr} {i loc : Int} (h : gWr X i loc = true) : 0 ≤ i ∧ i < X.evs.length := by
  unfold gWr at h
  simp only [Bool.and_eq_true, decide_eq_true_eq] at h
  exact ⟨h.1.1.1, h.1.1.2⟩
set_option maxRecDepth 100000 in
set_option maxHeartbeats 4000000 in
theorem sg_rf (h188 : F 188 = some A_graph_rf) (h237 : F 237 = some A_graph_write) {X : Gr} (hn : X.evs.length ≤ 1000) : pureS F 188 [.agg (grC X)] = some (.b (gRf X)) := by
  refine pure_of h188 ?_
  have hR : gRf X = (((X.rf.length : Int) == X.evs.length) && allN X.evs.length (rfK X)) := rfl
  cases c0 : ((X.rf.length : Int) == (X.evs.length : Int))
  · rw [c0] at hR
    have c0' : ((X.rf.length : Int) != (X.evs.length : Int)) = true := by unfold bne; rw [c0]; rfl
    rw [hR]
    simp (disch := omega) only [A_graph_rf, wp, Nat.reduceAdd, Nat.reduceMul, Nat.reduceSub, gl, c0']
  rw [c0, Bool.true_and] at hR
  have c0' : ((X.rf.length : Int) != (X.evs.length : Int)) = false := by unfold bne; rw [c0]; rfl
  have hrl : X.rf.length = X.evs.length := by have := of_decide_eq_true (p := (X.rf.length : Int) = X.evs.length) (by simpa using c0); omega
  have finT : (∀ i, i < X.evs.length → rfK X i = true) → gRf X = true := fun h => by rw [hR]; exact allN_t h
  have finF : ∀ k, k < X.evs.length → rfK X k = false → gRf X = false := fun k hk h => by rw [hR]; exact allN_f hk h
  clear hR
  generalize gRf X = R at finT finF
  have r5 : ∀ x : AV, List.replicate 5 x = [x, x, x, x, x] := fun _ => rfl
  simp (disch := omega) only [A_graph_rf, wp, Nat.reduceAdd, Nat.reduceMul, Nat.reduceSub, gl, c0']
  refine W_loop (fun q e g => ∃ k : Nat, q = X.evs.length - k ∧ k ≤ X.evs.length ∧ e 1 = .mp 0 0 ∧ e 14 = .sl (evsC X.evs) X.evs.length .non ∧ e 15 = .i .i64 X.evs.length ∧ e 16 = .i .i64 k ∧ g.hp 0 = some (.cells (grC X) false) ∧ 0 < g.nx ∧ ∀ i, i < k → rfK X i = true) X.evs.length ?_ ?_
  · refine ⟨0, rfl, Nat.zero_le _, ?_⟩
    simp (disch := omega) only [wp, Nat.reduceAdd, Nat.reduceMul, Nat.reduceSub]
    exact ⟨rfl, by first | omega | (dsimp only; omega), fun i hi => by omega⟩
  · rintro q e g ⟨k, rfl, hk, e1, e14, e15, e16, hg, hnx, hall⟩
    by_cases hk' : k < X.evs.length
    · have hk1 : (k : Int) < X.evs.length := by omega
      have hkr : (k : Int) < X.rf.length := by omega
      have hwk := succ_wrap (k := k) (by omega)
      have hev := ev_part hk'
      have hrf := ints_part (l := X.rf) (k := k) (by omega)
      have hK : rfK X k = (!((X.evs.getD k ev0).kd != 1 && X.rf.getD k 0 != -1) && !((X.evs.getD k ev0).kd == 1 && (!gWr X (X.rf.getD k 0) (X.evs.getD k ev0).lc || (X.evs.getD (X.rf.getD k 0).toNat ev0).vl != (X.evs.getD k ev0).vl))) := rfl
      have hf := finF k hk'
      rw [hK] at hf
      have hall' : rfK X k = true → ∀ i, i < k + 1 → rfK X i = true := by
        intro h i hi
        by_cases hik : i = k
        · subst hik; exact h
        · exact hall i (by omega)
      rw [hK] at hall'
      have hw := sg_write h237 X (X.rf.getD k 0) (X.evs.getD k ev0).lc
      have hin := gWr_in (X := X) (i := X.rf.getD k 0) (loc := (X.evs.getD k ev0).lc)
      generalize X.rf.getD k 0 = w at hrf hf hall' hw hin
      have n1 : 0 ≠ g.nx + 2 + 1 := by omega
      cases c1 : ((X.evs.getD k ev0).kd == 1)
      · have c1' : ((X.evs.getD k ev0).kd != 1) = true := by unfold bne; rw [c1]; rfl
        rw [c1, c1'] at hf hall'
        generalize X.evs.getD k ev0 = ev at hev hw c1 c1'
        cases c2 : (w != -1)
        · rw [c2] at hall'
          have hall' := hall' rfl
          simp (disch := omega) only [wp, Nat.reduceAdd, Nat.reduceMul, Nat.reduceSub, gl, e1, e14, e15, e16, hg, hk1, hkr, hev, hrf, c1, c1', c2, hwk]
          exact ⟨X.evs.length - (k + 1), by omega, k + 1, rfl, by omega, rfl, by first | omega | (dsimp only; omega), hall'⟩
        · rw [c2] at hf
          obtain rfl := hf rfl
          simp (disch := omega) only [wp, Nat.reduceAdd, Nat.reduceMul, Nat.reduceSub, gl, e1, e14, e15, e16, hg, hk1, hkr, hev, hrf, c1, c1', c2]
      · have c1' : ((X.evs.getD k ev0).kd != 1) = false := by unfold bne; rw [c1]; rfl
        rw [c1, c1'] at hf hall'
        generalize X.evs.getD k ev0 = ev at hev hw c1 c1' hf hall' hin
        cases c2 : gWr X w ev.lc
        · rw [c2] at hf hw
          obtain rfl := hf rfl
          simp (disch := omega) only [wp, Nat.reduceAdd, Nat.reduceMul, Nat.reduceSub, gl, e1, e14, e15, e16, hg, hk1, hkr, hev, hrf, c1, c1', hw]
        · rw [c2] at hf hw hall'
          obtain ⟨w0, w1⟩ := hin c2
          have va := ev_vl_at (l := X.evs) (k := w.toNat) (by omega)
          have da : (List.drop (w.toNat * 6) (evsC X.evs)).length = X.evs.length * 6 - w.toNat * 6 := by rw [List.length_drop, evsC_len]
          cases c3 : ((X.evs.getD w.toNat ev0).vl != ev.vl)
          · rw [c3] at hall'
            have hall' := hall' rfl
            simp (disch := omega) only [wp, Nat.reduceAdd, Nat.reduceMul, Nat.reduceSub, gl, e1, e14, e15, e16, hg, hk1, hkr, hev, hrf, c1, c1', hw, w0, w1, va, da, c3, hwk]
            exact ⟨X.evs.length - (k + 1), by omega, k + 1, rfl, by omega, rfl, by first | omega | (dsimp only; omega), hall'⟩
          · rw [c3] at hf
            obtain rfl := hf rfl
            simp (disch := omega) only [wp, Nat.reduceAdd, Nat.reduceMul, Nat.reduceSub, gl, e1, e14, e15, e16, hg, hk1, hkr, hev, hrf, c1, c1', hw, w0, w1, va, da, c3]
    · have hk1 : ¬ ((k : Int) < X.evs.length) := by omega
      obtain rfl : k = X.evs.length := by omega
      obtain rfl := finT hall
      simp (disch := omega) only [wp, Nat.reduceAdd, Nat.reduceMul, Nat.reduceSub, gl, e1, e14, e15, e16, hg, hk1]
end Go.Ab
end
section
set_option linter.unusedVariables false
set_option linter.unusedSimpArgs false
namespace Go.Ab
variable {F : Funs}
def lsK (X : Gr) (may : Ev → Ev → Bool) (l : List (Int × Int)) (i : Nat) : Bool :=
  !decide ((l.getD i (0, 0)).1 < 0) && (!decide ((X.evs.length : Int) ≤ (l.getD i (0, 0)).2) && (!decide ((l.getD i (0, 0)).2 ≤ (l.getD i (0, 0)).1) && (!(decide (0 < i) && decide (0 ≤ ordP (l.getD (i - 1) (0, 0)) (l.getD i (0, 0)))) && may (X.evs.getD (l.getD i (0, 0)).1.toNat ev0) (X.evs.getD (l.getD i (0, 0)).2.toNat ev0))))
def gList (X : Gr) (may : Ev → Ev → Bool) (l : List (Int × Int)) : Bool := allN l.length (lsK X may l)
theorem frz_p2 (hp) (x y : Int) : frz hp depth (.agg [.i .i64 x, .i .i64 y]) = some (.agg [.i .i64 x, .i .i64 y]) := by
  show frz hp (8 + 1) _ = _
  simp only [frz, frzL, Option.map_some]
theorem vis_p2 (hp) (x y : Int) : vis hp depth (.agg [.i .i64 x, .i .i64 y]) = [] := by
  show vis hp (8 + 1) _ = _
  simp only [vis, List.flatMap_cons, List.flatMap_nil, List.append_nil]
set_option maxRecDepth 100000 in
set_option maxHeartbeats 8000000 in
theorem sg_list (h192 : F 192 = some A_graph_list) (h239 : F 239 = some A_graph_order) (pc : Pk_cmp F) {X : Gr} (hn : X.evs.length ≤ 1000) {fid : Nat} {may : Ev → Ev → Bool} (hmay : ∀ a b, pureS F fid [.agg (evC a), .agg (evC b)] = some (.b (may a b))) (l : List (Int × Int)) (hl : l.length ≤ 1000) : pureS F 192 [.agg (grC X), .sl (pairsC l) l.length .non, .fn fid [] []] = some (.b (gList X may l)) := by
  refine pure_of h192 ?_
  have finT : (∀ i, i < l.length → lsK X may l i = true) → gList X may l = true := allN_t
  have finF : ∀ k, k < l.length → lsK X may l k = false → gList X may l = false := fun k hk h => allN_f hk h
  generalize gList X may l = R at finT finF
  simp (disch := omega) only [A_graph_list, wp, Nat.reduceAdd, Nat.reduceMul, Nat.reduceSub, gl]
  refine W_loop (fun q e g => ∃ k : Nat, q = l.length - k ∧ k ≤ l.length ∧ e 1 = .sl (pairsC l) l.length .non ∧ e 2 = .fn fid [] [] ∧ e 3 = .mp 0 0 ∧ e 9 = .sl (pairsC l) l.length .non ∧ e 10 = .i .i64 l.length ∧ e 11 = .i .i64 k ∧ g.hp 0 = some (.cells (grC X) false) ∧ 0 < g.nx ∧ ∀ i, i < k → lsK X may l i = true) l.length ?_ ?_
  · refine ⟨0, rfl, Nat.zero_le _, ?_⟩
    simp (disch := omega) only [wp, Nat.reduceAdd, Nat.reduceMul, Nat.reduceSub]
    exact ⟨rfl, by first | omega | (dsimp only; omega), fun i hi => by omega⟩
  · rintro q e g ⟨k, rfl, hk, e1, e2, e3, e9, e10, e11, hg, hnx, hall⟩
    by_cases hk' : k < l.length
    · have hk1 : (k : Int) < l.length := by omega
      have hwk := succ_wrap (k := k) (by omega)
      have hpp := pairs_part hk'
      have hK : lsK X may l k = (!decide ((l.getD k (0, 0)).1 < 0) && (!decide ((X.evs.length : Int) ≤ (l.getD k (0, 0)).2) && (!decide ((l.getD k (0, 0)).2 ≤ (l.getD k (0, 0)).1) && (!(decide (0 < k) && decide (0 ≤ ordP (l.getD (k - 1) (0, 0)) (l.getD k (0, 0)))) && may (X.evs.getD (l.getD k (0, 0)).1.toNat ev0) (X.evs.getD (l.getD k (0, 0)).2.toNat ev0))))) := rfl
      have hf := finF k hk'
      rw [hK] at hf
      have hall' : lsK X may l k = true → ∀ i, i < k + 1 → lsK X may l i = true := by
        intro h i hi
        by_cases hik : i = k
        · subst hik; exact h
        · exact hall i (by omega)
      rw [hK] at hall'
      have ho := sg_order pc h239 (l.getD (k - 1) (0, 0)) (l.getD k (0, 0))
      have hpq := pairs_part (l := l) (k := k - 1) (by omega)
      have dq : (List.drop ((k - 1) * 2) (pairsC l)).length = l.length * 2 - (k - 1) * 2 := by rw [List.length_drop, pairsC_len]
      generalize l.getD k (0, 0) = p at hpp hf hall' ho
      generalize l.getD (k - 1) (0, 0) = pq at hf hall' ho hpq
      obtain ⟨a, b⟩ := p
      have s2 : ∀ b1 b2 c1 c2 : AV, splice [b1, b2] 0 [c1, c2] = [c1, c2] := fun _ _ _ _ => rfl
      have n1 : 0 ≠ g.nx + 2 + 1 := by omega
      simp only at hpp hf hall' ho
      by_cases c1 : a < 0
      · obtain rfl := hf (by simp [c1])
        simp (disch := omega) only [wp, Nat.reduceAdd, Nat.reduceMul, Nat.reduceSub, gl, s2, frz_p2, vis_p2, e1, e2, e3, e9, e10, e11, hg, hk1, hpp, c1]
      by_cases c2 : (X.evs.length : Int) ≤ b
      · obtain rfl := hf (by simp [c2])
        simp (disch := omega) only [wp, Nat.reduceAdd, Nat.reduceMul, Nat.reduceSub, gl, s2, frz_p2, vis_p2, e1, e2, e3, e9, e10, e11, hg, hk1, hpp, c1, c2]
      by_cases c3 : b ≤ a
      · obtain rfl := hf (by simp [c3])
        simp (disch := omega) only [wp, Nat.reduceAdd, Nat.reduceMul, Nat.reduceSub, gl, s2, frz_p2, vis_p2, e1, e2, e3, e9, e10, e11, hg, hk1, hpp, c1, c2, c3]
      have hm := hmay (X.evs.getD a.toNat ev0) (X.evs.getD b.toNat ev0)
      have pa := ev_part (l := X.evs) (k := a.toNat) (by omega)
      have pb := ev_part (l := X.evs) (k := b.toNat) (by omega)
      generalize X.evs.getD a.toNat ev0 = ea at hm pa hf hall'
      generalize X.evs.getD b.toNat ev0 = eb at hm pb hf hall'
      have a0 : 0 ≤ a := by omega
      have an : a < X.evs.length := by omega
      have b0 : 0 ≤ b := by omega
      have bn : b < X.evs.length := by omega
      by_cases c4 : 0 < k
      · have c4' : (0 : Int) < k := by omega
        have hw1 : IntKind.i64.wrap ((k : Int) - 1) = ((k - 1 : Nat) : Int) := by rw [i64_wrap (by omega) (by omega)]; omega
        have km : ((k - 1 : Nat) : Int) < l.length := by omega
        by_cases c5 : 0 ≤ ordP pq (a, b)
        · obtain rfl := hf (by simp [c4, c5])
          simp (disch := omega) only [wp, Nat.reduceAdd, Nat.reduceMul, Nat.reduceSub, gl, s2, frz_p2, vis_p2, e1, e2, e3, e9, e10, e11, hg, hk1, hpp, c1, c2, c3, c4', hw1, km, hpq, dq, ho, c5]
        · cases c6 : may ea eb
          · rw [c6] at hm
            obtain rfl := hf (by simp [c6])
            simp (disch := omega) only [wp, Nat.reduceAdd, Nat.reduceMul, Nat.reduceSub, gl, s2, frz_p2, vis_p2, e1, e2, e3, e9, e10, e11, hg, hk1, hpp, c1, c2, c3, c4', hw1, km, hpq, dq, ho, c5, pa, pb, a0, an, b0, bn, hm]
          · rw [c6] at hm
            have hall' := hall' (by simp [c1, c2, c3, c5, c6])
            simp (disch := omega) only [wp, Nat.reduceAdd, Nat.reduceMul, Nat.reduceSub, gl, s2, frz_p2, vis_p2, e1, e2, e3, e9, e10, e11, hg, hk1, hpp, c1, c2, c3, c4', hw1, km, hpq, dq, ho, c5, pa, pb, a0, an, b0, bn, hm, hwk]
            exact ⟨l.length - (k + 1), by omega, k + 1, rfl, by omega, rfl, by first | omega | (dsimp only; omega), hall'⟩
      · have c4' : ¬ (0 : Int) < k := by omega
        cases c6 : may ea eb
        · rw [c6] at hm
          obtain rfl := hf (by simp [c6])
          simp (disch := omega) only [wp, Nat.reduceAdd, Nat.reduceMul, Nat.reduceSub, gl, s2, frz_p2, vis_p2, e1, e2, e3, e9, e10, e11, hg, hk1, hpp, c1, c2, c3, c4', pa, pb, a0, an, b0, bn, hm]
        · rw [c6] at hm
          have hall' := hall' (by simp [c1, c2, c3, c4, c6])
          simp (disch := omega) only [wp, Nat.reduceAdd, Nat.reduceMul, Nat.reduceSub, gl, s2, frz_p2, vis_p2, e1, e2, e3, e9, e10, e11, hg, hk1, hpp, c1, c2, c3, c4', pa, pb, a0, an, b0, bn, hm, hwk]
          exact ⟨l.length - (k + 1), by omega, k + 1, rfl, by omega, rfl, by first | omega | (dsimp only; omega), hall'⟩
    · have hk1 : ¬ ((k : Int) < l.length) := by omega
      obtain rfl : k = l.length := by omega
      obtain rfl := finT hall
      simp (disch := omega) only [wp, Nat.reduceAdd, Nat.reduceMul, Nat.reduceSub, gl, e1, e2, e3, e9, e10, e11, hg, hk1]
end Go.Ab
end
section
set_option linter.unusedVariables false
set_option linter.unusedSimpArgs false
namespace Go.Ab
variable {F : Funs}
def nEx (X : Gr) (k : Nat) : Nat := ((X.evs.take k).filter (·.ex)).length
theorem nEx_succ {X : Gr} {k : Nat} (h : k < X.evs.length) : nEx X (k + 1) = if (X.evs.getD k ev0).ex then nEx X k + 1 else nEx X k := by
  unfold nEx
  rw [List.take_add_one, List.filter_append, List.getElem?_eq_getElem h, List.getD_eq_getElem?_getD, List.getElem?_eq_getElem h, List.length_append]
  simp only [Option.toList_some, Option.getD_some, List.filter_cons, List.filter_nil]
  split <;> simp
theorem nEx_le (X : Gr) (k : Nat) : nEx X k ≤ k := by
  unfold nEx
  have h1 := List.length_filter_le (·.ex) (X.evs.take k)
  rw [List.length_take] at h1
  omega
def rmLast (X : Gr) (k : Nat) : Int := if k = 0 then -1 else (X.rmw.getD (k - 1) (0, 0)).2
def rmK (X : Gr) (k : Nat) : Bool := !((X.rmw.getD k (0, 0)).2 != (X.rmw.getD k (0, 0)).1 + 1) && !decide ((X.rmw.getD k (0, 0)).1 ≤ rmLast X k)
def gRmw (X : Gr) : Bool := gList X mayR X.rmw && (allN X.rmw.length (rmK X) && ((nEx X X.evs.length : Int) == 2 * (X.rmw.length : Int)))
theorem gList_at {X : Gr} {may} {l : List (Int × Int)} (h : gList X may l = true) {k : Nat} (hk : k < l.length) : 0 ≤ (l.getD k (0, 0)).1 ∧ (l.getD k (0, 0)).1 < (l.getD k (0, 0)).2 ∧ (l.getD k (0, 0)).2 < X.evs.length := by
  have := allN_iff.1 h k hk
  unfold lsK at this
  simp only [Bool.and_eq_true, Bool.not_eq_true', decide_eq_false_iff_not] at this
  obtain ⟨h1, h2, h3, _⟩ := this
  omega
set_option maxRecDepth 100000 in
set_option maxHeartbeats 8000000 in
theorem sg_rmw (h190 : F 190 = some A_graph_rmw) (h238 : F 238 = some A_graph_rmw_1) (h192 : F 192 = some A_graph_list) (h239 : F 239 = some A_graph_order) (pc : Pk_cmp F) {X : Gr} (hn : X.evs.length ≤ 1000) (hr : X.rmw.length ≤ 1000) : pureS F 190 [.agg (grC X)] = some (.b (gRmw X)) := by
  refine pure_of h190 ?_
  have hR : gRmw X = (gList X mayR X.rmw && (allN X.rmw.length (rmK X) && ((nEx X X.evs.length : Int) == 2 * (X.rmw.length : Int)))) := rfl
  have hl := sg_list h192 h239 pc hn (sg_mayR h238) X.rmw hr
  cases c0 : gList X mayR X.rmw
  · rw [c0] at hR hl
    rw [hR]
    simp (disch := omega) only [A_graph_rmw, wp, Nat.reduceAdd, Nat.reduceMul, Nat.reduceSub, gl, hl]
  rw [c0] at hl
  rw [c0, Bool.true_and] at hR
  have hat := fun {k : Nat} (hk : k < X.rmw.length) => gList_at c0 hk
  have finF : ∀ k, k < X.rmw.length → rmK X k = false → gRmw X = false := fun k hk h => by rw [hR, allN_f hk h]; rfl
  have finT : (∀ i, i < X.rmw.length → rmK X i = true) → gRmw X = ((nEx X X.evs.length : Int) == 2 * (X.rmw.length : Int)) := fun h => by rw [hR, allN_t h, Bool.true_and]
  clear hR
  generalize gRmw X = R at finT finF
  simp (disch := omega) only [A_graph_rmw, wp, Nat.reduceAdd, Nat.reduceMul, Nat.reduceSub, gl, hl]
  refine blk_cut (fun e g => e 1 = .mp 0 0 ∧ e 4 = .i .i64 (nEx X X.evs.length : Nat) ∧ g.hp 0 = some (.cells (grC X) false) ∧ 0 < g.nx) ?_ ?_
  · refine W_loop (fun q e g => ∃ k : Nat, q = X.evs.length - k ∧ k ≤ X.evs.length ∧ e 1 = .mp 0 0 ∧ e 4 = .i .i64 (nEx X k : Nat) ∧ e 17 = .sl (evsC X.evs) X.evs.length .non ∧ e 18 = .i .i64 X.evs.length ∧ e 19 = .i .i64 k ∧ g.hp 0 = some (.cells (grC X) false) ∧ 0 < g.nx) X.evs.length ?_ ?_
    · refine ⟨0, rfl, Nat.zero_le _, ?_⟩
      simp (disch := omega) only [wp, Nat.reduceAdd, Nat.reduceMul, Nat.reduceSub]
      exact ⟨rfl, rfl, by first | omega | (dsimp only; omega)⟩
    · rintro q e g ⟨k, rfl, hk, e1, e4, e17, e18, e19, hg, hnx⟩
      by_cases hk' : k < X.evs.length
      · have hk1 : (k : Int) < X.evs.length := by omega
        have hwk := succ_wrap (k := k) (by omega)
        have hev := ev_part hk'
        have hs := nEx_succ hk'
        have hle := nEx_le X k
        generalize nEx X k = c at e4 hs hle
        have hwc := succ_wrap (k := c) (by omega)
        generalize X.evs.getD k ev0 = ev at hev hs
        have n1 : 0 ≠ g.nx + 1 + 1 := by omega
        cases c1 : ev.ex
        · rw [c1] at hs
          simp (disch := omega) only [wp, Nat.reduceAdd, Nat.reduceMul, Nat.reduceSub, gl, e1, e4, e17, e18, e19, hg, hk1, hev, c1, hwk]
          exact ⟨X.evs.length - (k + 1), by omega, k + 1, rfl, by omega, by rw [hs]; rfl, rfl, by first | omega | (dsimp only; omega)⟩
        · rw [c1] at hs
          simp (disch := omega) only [wp, Nat.reduceAdd, Nat.reduceMul, Nat.reduceSub, gl, e1, e4, e17, e18, e19, hg, hk1, hev, c1, hwk, hwc]
          exact ⟨X.evs.length - (k + 1), by omega, k + 1, rfl, by omega, by rw [hs]; rfl, rfl, by first | omega | (dsimp only; omega)⟩
      · have hk1 : ¬ ((k : Int) < X.evs.length) := by omega
        obtain rfl : k = X.evs.length := by omega
        simp (disch := omega) only [wp, Nat.reduceAdd, Nat.reduceMul, Nat.reduceSub, gl, e1, e4, e17, e18, e19, hg, hk1]
        exact (by first | omega | (dsimp only; omega))
  · rintro e g ⟨e1, e4, hg, hnx⟩
    generalize nEx X X.evs.length = N at e4 finT
    simp (disch := omega) only [wp, Nat.reduceAdd, Nat.reduceMul, Nat.reduceSub, gl, e1, e4, hg]
    refine W_loop (fun q e g => ∃ k : Nat, q = X.rmw.length - k ∧ k ≤ X.rmw.length ∧ e 1 = .mp 0 0 ∧ e 4 = .i .i64 N ∧ e 7 = .i .i64 (rmLast X k) ∧ e 29 = .sl (pairsC X.rmw) X.rmw.length .non ∧ e 30 = .i .i64 X.rmw.length ∧ e 31 = .i .i64 k ∧ g.hp 0 = some (.cells (grC X) false) ∧ 0 < g.nx ∧ ∀ i, i < k → rmK X i = true) X.rmw.length ?_ ?_
    · refine ⟨0, rfl, Nat.zero_le _, ?_⟩
      simp (disch := omega) only [wp, Nat.reduceAdd, Nat.reduceMul, Nat.reduceSub, e1, e4]
      exact ⟨rfl, rfl, hg, by first | omega | (dsimp only; omega), fun i hi => by omega⟩
    · rintro q e g ⟨k, rfl, hk, e1, e4, e7, e29, e30, e31, hg, hnx, hall⟩
      by_cases hk' : k < X.rmw.length
      · have hk1 : (k : Int) < X.rmw.length := by omega
        have hwk := succ_wrap (k := k) (by omega)
        have hpp := pairs_part hk'
        have hb := hat hk'
        have hK : rmK X k = (!((X.rmw.getD k (0, 0)).2 != (X.rmw.getD k (0, 0)).1 + 1) && !decide ((X.rmw.getD k (0, 0)).1 ≤ rmLast X k)) := rfl
        have hL : rmLast X (k + 1) = (X.rmw.getD k (0, 0)).2 := rfl
        have hf := finF k hk'
        rw [hK] at hf
        have hall' : rmK X k = true → ∀ i, i < k + 1 → rmK X i = true := by
          intro h i hi
          by_cases hik : i = k
          · subst hik; exact h
          · exact hall i (by omega)
        rw [hK] at hall'
        generalize rmLast X k = la at e7 hf hall'
        generalize X.rmw.getD k (0, 0) = p at hpp hf hall' hL hb
        obtain ⟨a, b⟩ := p
        simp only at hpp hf hall' hL hb
        have s2 : ∀ b1 b2 c1 c2 : AV, splice [b1, b2] 0 [c1, c2] = [c1, c2] := fun _ _ _ _ => rfl
        have n1 : 0 ≠ g.nx + 1 + 1 := by omega
        have hwa : IntKind.i64.wrap (a + 1) = a + 1 := by rw [i64_wrap (by omega) (by omega)]
        cases c1 : (b != a + 1)
        · by_cases c2 : a ≤ la
          · obtain rfl := hf (by simp [c2])
            simp (disch := omega) only [wp, Nat.reduceAdd, Nat.reduceMul, Nat.reduceSub, gl, s2, e1, e4, e7, e29, e30, e31, hg, hk1, hpp, hwa, c1, c2]
          · rw [c1] at hall'
            have hall' := hall' (by simp [c2])
            simp (disch := omega) only [wp, Nat.reduceAdd, Nat.reduceMul, Nat.reduceSub, gl, s2, e1, e4, e7, e29, e30, e31, hg, hk1, hpp, hwa, c1, c2, hwk]
            exact ⟨X.rmw.length - (k + 1), by omega, k + 1, rfl, by omega, by rw [hL], rfl, by first | omega | (dsimp only; omega), hall'⟩
        · rw [c1] at hf
          obtain rfl := hf rfl
          simp (disch := omega) only [wp, Nat.reduceAdd, Nat.reduceMul, Nat.reduceSub, gl, s2, e1, e4, e7, e29, e30, e31, hg, hk1, hpp, hwa, c1]
      · have hk1 : ¬ ((k : Int) < X.rmw.length) := by omega
        obtain rfl : k = X.rmw.length := by omega
        obtain rfl := finT hall
        have hwm : IntKind.i64.wrap (2 * (X.rmw.length : Int)) = 2 * (X.rmw.length : Int) := by rw [i64_wrap (by omega) (by omega)]
        simp (disch := omega) only [wp, Nat.reduceAdd, Nat.reduceMul, Nat.reduceSub, gl, e1, e4, e7, e29, e30, e31, hg, hk1, hwm]
end Go.Ab
end
section
set_option linter.unusedVariables false
set_option linter.unusedSimpArgs false
namespace Go.Ab
variable {F : Funs}
def seenC (L : List Int) : List AV := (List.range 40).map fun i : Nat => .b (L.contains (i : Int))
theorem seenC_len (L) : (seenC L).length = 40 := by simp [seenC]
theorem seenC_zero : List.replicate 40 (AV.b false) = seenC [] := by rfl
theorem seen_at {L : List Int} {a : Nat} (h : a < 40) : part (seenC L) (a * 1) none = some (.b (L.contains (a : Int))) := by
  simp only [part, seenC, Nat.mul_one, List.getElem?_map, List.getElem?_range h, Option.map_some]
theorem seen_set {L : List Int} {a : Nat} (h : a < 40) : (seenC L).set (a * 1) (.b true) = seenC (L ++ [(a : Int)]) := by
  rw [Nat.mul_one]
  refine List.ext_getElem? fun i => ?_
  rw [List.getElem?_set]
  unfold seenC
  simp only [List.length_map, List.length_range, List.getElem?_map]
  by_cases hi : a = i
  · subst hi
    rw [if_pos rfl, if_pos h, List.getElem?_range h]
    simp
  · rw [if_neg hi]
    by_cases hl : i < 40
    · rw [List.getElem?_range hl]
      simp only [Option.map_some, Option.some.injEq, AV.b.injEq, List.contains_eq_mem, List.mem_append, List.mem_singleton]
      have hne : ¬ ((i : Int) = (a : Int)) := by omega
      simp [hne]
    · rw [List.getElem?_eq_none (by simp; omega)]; rfl
def coS' (X : Gr) (k j : Nat) : List Int := (X.co.take k).flatten ++ (X.co.getD k []).take j
theorem coS'_succ {X : Gr} {k j : Nat} (h : j < (X.co.getD k []).length) : coS' X k (j + 1) = coS' X k j ++ [(X.co.getD k []).getD j 0] := by
  unfold coS'
  rw [List.take_add_one, List.getElem?_eq_getElem h, List.append_assoc, List.getD_eq_getElem?_getD (l := X.co.getD k []), List.getElem?_eq_getElem h]
  rfl
theorem coS'_next {X : Gr} {k : Nat} (h : k < X.co.length) : coS' X k (X.co.getD k []).length = coS' X (k + 1) 0 := by
  unfold coS'
  rw [List.take_length, List.take_zero, List.append_nil, List.take_add_one, List.getElem?_eq_getElem h, List.getD_eq_getElem?_getD, List.getElem?_eq_getElem h, List.flatten_append]
  simp
theorem coS'_end (X : Gr) : coS' X X.co.length 0 = X.co.flatten := by
  unfold coS'
  rw [List.take_length, List.take_zero, List.append_nil]
theorem coS'_le {X : Gr} {k j : Nat} (h : k < X.co.length) : (coS' X k j).length ≤ X.co.flatten.length := by
  have e : X.co = X.co.take k ++ X.co.drop k := (List.take_append_drop k X.co).symm
  have e2 : X.co.drop k = X.co.getD k [] :: X.co.drop (k + 1) := by
    rw [List.drop_eq_getElem_cons h, List.getD_eq_getElem?_getD, List.getElem?_eq_getElem h]; rfl
  have e3 : X.co.flatten = (X.co.take k).flatten ++ (X.co.getD k [] ++ (X.co.drop (k + 1)).flatten) := by
    conv => lhs; rw [e, e2]
    rw [List.flatten_append, List.flatten_cons]
  rw [e3]
  unfold coS'
  simp only [List.length_append, List.length_take]
  omega
def ciK (X : Gr) (k j : Nat) : Bool := gWr X ((X.co.getD k []).getD j 0) k && !(coS' X k j).contains ((X.co.getD k []).getD j 0)
def coK (X : Gr) (k : Nat) : Bool := !(((X.co.getD k []).length : Int) == 0) && (!((X.co.getD k []).getD 0 0 != (k : Int)) && allN (X.co.getD k []).length (ciK X k))
def nWr (X : Gr) (k : Nat) : Nat := ((X.evs.take k).filter (·.kd == 2)).length
theorem nWr_succ {X : Gr} {k : Nat} (h : k < X.evs.length) : nWr X (k + 1) = if (X.evs.getD k ev0).kd == 2 then nWr X k + 1 else nWr X k := by
  unfold nWr
  rw [List.take_add_one, List.filter_append, List.getElem?_eq_getElem h, List.getD_eq_getElem?_getD, List.getElem?_eq_getElem h, List.length_append]
  simp only [Option.toList_some, Option.getD_some, List.filter_cons, List.filter_nil]
  split <;> simp
theorem nWr_le (X : Gr) (k : Nat) : nWr X k ≤ k := by
  unfold nWr
  have h1 := List.length_filter_le (·.kd == 2) (X.evs.take k)
  rw [List.length_take] at h1
  omega
def gCo (X : Gr) : Bool := ((X.co.length : Int) == X.locs) && (allN X.co.length (coK X) && ((X.co.flatten.length : Int) - (nWr X X.evs.length : Int) == 0))
set_option maxRecDepth 100000 in
set_option maxHeartbeats 8000000 in
theorem sg_co (h189 : F 189 = some A_graph_co) (h237 : F 237 = some A_graph_write) {X : Gr} (hn : X.evs.length ≤ 40) (hc : X.co.flatten.length ≤ 1000) (hc6 : X.co.length ≤ 1000) (hcl : ∀ k, (X.co.getD k []).length ≤ 1000) : pureS F 189 [.agg (grC X)] = some (.b (gCo X)) := by
  refine pure_of h189 ?_
  have hR : gCo X = (((X.co.length : Int) == X.locs) && (allN X.co.length (coK X) && ((X.co.flatten.length : Int) - (nWr X X.evs.length : Int) == 0))) := rfl
  cases c0 : ((X.co.length : Int) == X.locs)
  · rw [c0] at hR
    have c0' : ((X.co.length : Int) != X.locs) = true := by unfold bne; rw [c0]; rfl
    rw [hR]
    simp (disch := omega) only [A_graph_co, wp, Nat.reduceAdd, Nat.reduceMul, Nat.reduceSub, gl, c0']
  rw [c0, Bool.true_and] at hR
  have c0' : ((X.co.length : Int) != X.locs) = false := by unfold bne; rw [c0]; rfl
  have finF : ∀ k, k < X.co.length → coK X k = false → gCo X = false := fun k hk h => by rw [hR, allN_f hk h]; rfl
  have finT : (∀ i, i < X.co.length → coK X i = true) → gCo X = ((X.co.flatten.length : Int) - (nWr X X.evs.length : Int) == 0) := fun h => by rw [hR, allN_t h, Bool.true_and]
  clear hR
  generalize gCo X = R at finT finF
  simp (disch := omega) only [A_graph_co, wp, Nat.reduceAdd, Nat.reduceMul, Nat.reduceSub, gl, c0', seenC_zero]
  refine blk_cutR (fun e g => e 1 = .mp 0 0 ∧ e 3 = .i .i64 X.co.flatten.length ∧ g.hp 0 = some (.cells (grC X) false) ∧ 0 < g.nx ∧ ∀ i, i < X.co.length → coK X i = true) ?_ ?_
  · refine W_loop (fun q e g => ∃ k : Nat, q = X.co.length - k ∧ k ≤ X.co.length ∧ e 1 = .mp 0 0 ∧ e 3 = .i .i64 (coS' X k 0).length ∧ e 4 = .mp 9 0 ∧ e 18 = .sl (coC X.co) X.co.length .non ∧ e 19 = .i .i64 X.co.length ∧ e 20 = .i .i64 k ∧ g.hp 0 = some (.cells (grC X) false) ∧ g.hp 9 = some (.cells (seenC (coS' X k 0)) false) ∧ 9 < g.nx ∧ ∀ i, i < k → coK X i = true) X.co.length ?_ ?_
    · refine ⟨0, rfl, Nat.zero_le _, ?_⟩
      simp (disch := omega) only [wp, Nat.reduceAdd, Nat.reduceMul, Nat.reduceSub]
      exact ⟨rfl, rfl, rfl, by first | omega | (dsimp only; omega), fun i hi => by omega⟩
    · rintro q e g ⟨k, rfl, hk, e1, e3, e4, e18, e19, e20, hg, hs, hnx, hall⟩
      by_cases hk' : k < X.co.length
      · have hk1 : (k : Int) < X.co.length := by omega
        have hwk := succ_wrap (k := k) (by omega)
        have hcp := co_part hk'
        have hK : coK X k = (!(((X.co.getD k []).length : Int) == 0) && (!((X.co.getD k []).getD 0 0 != (k : Int)) && allN (X.co.getD k []).length (ciK X k))) := rfl
        have hci : ∀ j, ciK X k j = (gWr X ((X.co.getD k []).getD j 0) k && !(coS' X k j).contains ((X.co.getD k []).getD j 0)) := fun _ => rfl
        have hf := finF k hk'
        rw [hK] at hf
        have hall' : coK X k = true → ∀ i, i < k + 1 → coK X i = true := by
          intro h i hi
          by_cases hik : i = k
          · subst hik; exact h
          · exact hall i (by omega)
        rw [hK] at hall'
        have hll := hcl k
        have hsu := fun {j : Nat} (h : j < (X.co.getD k []).length) => coS'_succ h
        have hnx' := coS'_next hk'
        have hle := fun j => coS'_le (X := X) (k := k) (j := j) hk'
        generalize X.co.getD k [] = l at hcp hf hall' hll hsu hnx' hci
        cases c1 : ((l.length : Int) == 0)
        case true =>
          rw [c1] at hf
          obtain rfl := hf rfl
          simp (disch := omega) only [wp, Nat.reduceAdd, Nat.reduceMul, Nat.reduceSub, gl, e1, e3, e4, e18, e19, e20, hg, hs, hk1, hcp, c1]
        have hl0 : 0 < l.length := by have : ¬ (l.length : Int) = 0 := by simpa using c1
                                      omega
        have hl0' : (0 : Int) < l.length := by omega
        have hip := ints_part hl0
        rw [Nat.zero_mul, List.drop_zero] at hip
        cases c2 : (l.getD 0 0 != (k : Int))
        case true =>
          rw [c2] at hf
          obtain rfl := hf (by simp)
          simp (disch := omega) only [wp, Nat.reduceAdd, Nat.reduceMul, Nat.reduceSub, gl, e1, e3, e4, e18, e19, e20, hg, hs, hk1, hcp, c1, hl0', hip, c2]
        rw [c1, c2] at hf hall'
        have hf : ∀ j, j < l.length → ciK X k j = false → R = false := fun j hj h => hf (by rw [allN_f hj h]; rfl)
        have hall' : (∀ j, j < l.length → ciK X k j = true) → ∀ i, i < k + 1 → coK X i = true := fun h => hall' (by rw [allN_t h]; rfl)
        simp (disch := omega) only [wp, Nat.reduceAdd, Nat.reduceMul, Nat.reduceSub, gl, e1, e3, e4, e18, e19, e20, hg, hs, hk1, hcp, c1, hl0', hip, c2]
        refine W_loop (fun q e g => ∃ j : Nat, q = l.length - j ∧ j ≤ l.length ∧ e 1 = .mp 0 0 ∧ e 3 = .i .i64 (coS' X k j).length ∧ e 4 = .mp 9 0 ∧ e 5 = .i .i64 k ∧ e 18 = .sl (coC X.co) X.co.length .non ∧ e 19 = .i .i64 X.co.length ∧ e 20 = .i .i64 k ∧ e 35 = .sl (intsC l) l.length .non ∧ e 36 = .i .i64 l.length ∧ e 37 = .i .i64 j ∧ g.hp 0 = some (.cells (grC X) false) ∧ g.hp 9 = some (.cells (seenC (coS' X k j)) false) ∧ 9 < g.nx ∧ ∀ i, i < j → ciK X k i = true) l.length ?_ ?_
        · refine ⟨0, rfl, Nat.zero_le _, ?_⟩
          simp (disch := omega) only [wp, Nat.reduceAdd, Nat.reduceMul, Nat.reduceSub, e1, e3, e4, e18, e19, e20]
          exact ⟨rfl, hg, hs, by first | omega | (dsimp only; omega), fun i hi => by omega⟩
        · rintro q e g ⟨j, rfl, hj, e1, e3, e4, e5, e18, e19, e20, e35, e36, e37, hg, hs, hnx, hin⟩
          by_cases hj' : j < l.length
          · have hj1 : (j : Int) < l.length := by omega
            have hwj := succ_wrap (k := j) (by omega)
            have hjp := ints_part hj'
            have hw := sg_write h237 X (l.getD j 0) k
            have hwin := gWr_in (X := X) (i := l.getD j 0) (loc := k)
            have hff := hf j hj'
            have hcj := hci j
            have hsu := hsu hj'
            have hlj := hle j
            rw [hcj] at hff
            have hin' : ciK X k j = true → ∀ i, i < j + 1 → ciK X k i = true := by
              intro h i hi
              by_cases hij : i = j
              · subst hij; exact h
              · exact hin i (by omega)
            rw [hcj] at hin'
            generalize l.getD j 0 = w at hjp hw hwin hff hin' hsu
            generalize coS' X k j = L at e3 hs hff hin' hsu hlj
            have hwc := succ_wrap (k := L.length) (by omega)
            cases c3 : gWr X w k
            · rw [c3] at hw hff
              obtain rfl := hff rfl
              simp (disch := omega) only [wp, Nat.reduceAdd, Nat.reduceMul, Nat.reduceSub, gl, e1, e3, e4, e5, e18, e19, e20, e35, e36, e37, hg, hs, hj1, hjp, hw]
            · obtain ⟨w0, w1⟩ := hwin c3
              rw [c3] at hw hff hin'
              have ra := seen_at (L := L) (a := w.toNat) (by omega)
              have sa := seen_set (L := L) (a := w.toNat) (by omega)
              have ew : ((w.toNat : Nat) : Int) = w := by omega
              rw [ew] at ra sa
              have w40 : w < 40 := by omega
              cases c4 : L.contains w
              · rw [c4] at ra hin'
                have hin' := hin' rfl
                simp (disch := omega) only [wp, Nat.reduceAdd, Nat.reduceMul, Nat.reduceSub, gl, e1, e3, e4, e5, e18, e19, e20, e35, e36, e37, hg, hs, hj1, hjp, hw, w0, w40, ra, sa, seenC_len, hwj, hwc]
                refine ⟨l.length - (j + 1), by omega, j + 1, rfl, by omega, by rw [hsu, List.length_append]; rfl, rfl, by rw [hsu], by first | omega | (dsimp only; omega), hin'⟩
              · rw [c4] at ra hff
                obtain rfl := hff rfl
                simp (disch := omega) only [wp, Nat.reduceAdd, Nat.reduceMul, Nat.reduceSub, gl, e1, e3, e4, e5, e18, e19, e20, e35, e36, e37, hg, hs, hj1, hjp, hw, w0, w40, ra]
          · have hj1 : ¬ ((j : Int) < l.length) := by omega
            obtain rfl : j = l.length := by omega
            rw [hnx'] at e3 hs
            simp (disch := omega) only [wp, Nat.reduceAdd, Nat.reduceMul, Nat.reduceSub, gl, e1, e3, e4, e5, e18, e19, e20, e35, e36, e37, hg, hs, hj1, hwk]
            exact ⟨X.co.length - (k + 1), by omega, k + 1, rfl, by omega, rfl, rfl, by first | rfl | exact hs | omega, by first | omega | (dsimp only; omega), hall' hin⟩
      · have hk1 : ¬ ((k : Int) < X.co.length) := by omega
        obtain rfl : k = X.co.length := by omega
        rw [coS'_end] at e3
        simp (disch := omega) only [wp, Nat.reduceAdd, Nat.reduceMul, Nat.reduceSub, gl, e1, e3, e4, e18, e19, e20, hg, hs, hk1]
        exact ⟨by first | omega | (dsimp only; omega), hall⟩
  · rintro e g ⟨e1, e3, hg, hnx, hall⟩
    obtain rfl := finT hall
    generalize X.co.flatten.length = T at e3 hc
    simp (disch := omega) only [wp, Nat.reduceAdd, Nat.reduceMul, Nat.reduceSub, gl, e1, e3, hg]
    refine W_loop (fun q e g => ∃ k : Nat, q = X.evs.length - k ∧ k ≤ X.evs.length ∧ e 1 = .mp 0 0 ∧ e 3 = .i .i64 ((T : Int) - (nWr X k : Nat)) ∧ e 58 = .sl (evsC X.evs) X.evs.length .non ∧ e 59 = .i .i64 X.evs.length ∧ e 60 = .i .i64 k ∧ g.hp 0 = some (.cells (grC X) false) ∧ 0 < g.nx) X.evs.length ?_ ?_
    · refine ⟨0, rfl, Nat.zero_le _, ?_⟩
      simp (disch := omega) only [wp, Nat.reduceAdd, Nat.reduceMul, Nat.reduceSub, e1, e3]
      exact ⟨by simp [nWr], rfl, hg, by first | omega | (dsimp only; omega)⟩
    · rintro q e g ⟨k, rfl, hk, e1, e3, e58, e59, e60, hg, hnx⟩
      by_cases hk' : k < X.evs.length
      · have hk1 : (k : Int) < X.evs.length := by omega
        have hwk := succ_wrap (k := k) (by omega)
        have hev := ev_part hk'
        have hs := nWr_succ hk'
        have hle := nWr_le X k
        generalize nWr X k = c at e3 hs hle
        have hwc : IntKind.i64.wrap ((T : Int) - (c : Nat) - 1) = (T : Int) - ((c + 1 : Nat) : Int) := by rw [i64_wrap (by omega) (by omega)]; omega
        generalize X.evs.getD k ev0 = ev at hev hs
        have n1 : 0 ≠ g.nx + 1 + 1 := by omega
        cases c1 : (ev.kd == 2)
        · rw [c1] at hs
          simp (disch := omega) only [wp, Nat.reduceAdd, Nat.reduceMul, Nat.reduceSub, gl, e1, e3, e58, e59, e60, hg, hk1, hev, c1, hwk]
          exact ⟨X.evs.length - (k + 1), by omega, k + 1, rfl, by omega, by rw [hs]; rfl, rfl, by first | omega | (dsimp only; omega)⟩
        · rw [c1] at hs
          simp (disch := omega) only [wp, Nat.reduceAdd, Nat.reduceMul, Nat.reduceSub, gl, e1, e3, e58, e59, e60, hg, hk1, hev, c1, hwk, hwc]
          exact ⟨X.evs.length - (k + 1), by omega, k + 1, rfl, by omega, by rw [hs]; rfl, rfl, by first | omega | (dsimp only; omega)⟩
      · have hk1 : ¬ ((k : Int) < X.evs.length) := by omega
        obtain rfl : k = X.evs.length := by omega
        simp (disch := omega) only [wp, Nat.reduceAdd, Nat.reduceMul, Nat.reduceSub, gl, e1, e3, e58, e59, e60, hg, hk1]
end Go.Ab
end
section
set_option linter.unusedVariables false
set_option linter.unusedSimpArgs false
namespace Go.Ab
variable {F : Funs}
def gCheck (X : Gr) : Bool :=
  !decide (X.locs < 1) && (!decide (4 < X.locs) && (!decide (40 < (X.evs.length : Int)) && (!decide ((X.evs.length : Int) < X.locs) && (gFirst X && (gThr X && (gRf X && (gCo X && (gRmw X && (gList X mayD X.data && (gList X mayD X.ctrl && gList X mayD X.ctrli))))))))))
structure GrFs (F : Funs) : Prop where
  chk : F 152 = some A_graph_Check
  fst : F 186 = some A_graph_first
  thr : F 187 = some A_graph_threads
  rf : F 188 = some A_graph_rf
  co : F 189 = some A_graph_co
  rmw : F 190 = some A_graph_rmw
  chk1 : F 191 = some A_graph_Check_1
  list : F 192 = some A_graph_list
  event : F 236 = some A_graph_event
  write : F 237 = some A_graph_write
  rmw1 : F 238 = some A_graph_rmw_1
  order : F 239 = some A_graph_order
  pc : Pk_cmp F
structure LenG (X : Gr) : Prop where
  fl : X.co.flatten.length ≤ 1000
  col : X.co.length ≤ 1000
  cos : ∀ k, (X.co.getD k []).length ≤ 1000
  rmw : X.rmw.length ≤ 1000
  data : X.data.length ≤ 1000
  ctrl : X.ctrl.length ≤ 1000
  ctrli : X.ctrli.length ≤ 1000
theorem flat_le : ∀ {l : List (List Int)} {m : Nat}, (∀ c ∈ l, c.length ≤ m) → l.flatten.length ≤ l.length * m
  | [], _, _ => by simp
  | c :: l, m, h => by
    have h1 := flat_le (l := l) (m := m) fun c hc => h c (List.mem_cons_of_mem _ hc)
    have h2 := h c (List.mem_cons_self ..)
    rw [List.flatten_cons, List.length_append, List.length_cons, Nat.succ_mul]
    omega
theorem FewG.len {X : Gr} (h : FewG X) : LenG X := by
  have h1 := flat_le h.cos
  have h2 := h.co
  have h3 : X.co.length * 50 ≤ 6 * 50 := Nat.mul_le_mul_right _ h2
  refine ⟨by omega, by omega, fun k => ?_, by have := h.rmw; omega, by have := h.data; omega, by have := h.ctrl; omega, by have := h.ctrli; omega⟩
  by_cases hk : k < X.co.length
  · have hm : X.co.getD k [] ∈ X.co := by
      rw [List.getD_eq_getElem?_getD, List.getElem?_eq_getElem hk]; exact List.getElem_mem hk
    have := h.cos _ hm; omega
  · rw [List.getD_eq_getElem?_getD, List.getElem?_eq_none (by omega)]; simp
set_option maxRecDepth 100000 in
set_option maxHeartbeats 8000000 in
theorem sg_check (S : GrFs F) {X : Gr} (hX : LenG X) : pureS F 152 [.agg (grC X)] = some (.b (gCheck X)) := by
  refine pure_of S.chk ?_
  have hR : gCheck X = (!decide (X.locs < 1) && (!decide (4 < X.locs) && (!decide (40 < (X.evs.length : Int)) && (!decide ((X.evs.length : Int) < X.locs) && (gFirst X && (gThr X && (gRf X && (gCo X && (gRmw X && (gList X mayD X.data && (gList X mayD X.ctrl && gList X mayD X.ctrli))))))))))) := rfl
  generalize gCheck X = R at hR
  by_cases c1 : X.locs < 1
  · obtain rfl : R = false := by rw [hR]; simp [c1]
    simp (disch := omega) only [A_graph_Check, wp, Nat.reduceAdd, Nat.reduceMul, Nat.reduceSub, gl, c1]
  by_cases c2 : 4 < X.locs
  · obtain rfl : R = false := by rw [hR]; simp [c2]
    simp (disch := omega) only [A_graph_Check, wp, Nat.reduceAdd, Nat.reduceMul, Nat.reduceSub, gl, c1, c2]
  by_cases c3 : 40 < (X.evs.length : Int)
  · obtain rfl : R = false := by rw [hR]; simp [c3]
    simp (disch := omega) only [A_graph_Check, wp, Nat.reduceAdd, Nat.reduceMul, Nat.reduceSub, gl, c1, c2, c3]
  by_cases c4 : (X.evs.length : Int) < X.locs
  · obtain rfl : R = false := by rw [hR]; simp [c4]
    simp (disch := omega) only [A_graph_Check, wp, Nat.reduceAdd, Nat.reduceMul, Nat.reduceSub, gl, c1, c2, c3, c4]
  have h5 := sg_first S.fst (X := X) (by omega) (by omega) (by omega)
  have h6 := sg_threads S.thr S.event (X := X) (by omega) (by omega) (by omega)
  have h7 := sg_rf S.rf S.write (X := X) (by omega)
  have h8 := sg_co S.co S.write (X := X) (by omega) hX.fl hX.col hX.cos
  have h9 := sg_rmw S.rmw S.rmw1 S.list S.order S.pc (X := X) (by omega) hX.rmw
  have h10 := sg_list S.list S.order S.pc (X := X) (by omega) (sg_mayD S.chk1) X.data hX.data
  have h11 := sg_list S.list S.order S.pc (X := X) (by omega) (sg_mayD S.chk1) X.ctrl hX.ctrl
  have h12 := sg_list S.list S.order S.pc (X := X) (by omega) (sg_mayD S.chk1) X.ctrli hX.ctrli
  have hR : R = (gFirst X && (gThr X && (gRf X && (gCo X && (gRmw X && (gList X mayD X.data && (gList X mayD X.ctrl && gList X mayD X.ctrli))))))) := by rw [hR]; simp [c1, c2, c3, c4]
  generalize gFirst X = b5 at h5 hR
  generalize gThr X = b6 at h6 hR
  generalize gRf X = b7 at h7 hR
  generalize gCo X = b8 at h8 hR
  generalize gRmw X = b9 at h9 hR
  generalize gList X mayD X.data = b10 at h10 hR
  generalize gList X mayD X.ctrl = b11 at h11 hR
  generalize gList X mayD X.ctrli = b12 at h12 hR
  subst hR
  cases b5
  · simp (disch := omega) only [A_graph_Check, wp, Nat.reduceAdd, Nat.reduceMul, Nat.reduceSub, gl, c1, c2, c3, c4, h5]
  cases b6
  · simp (disch := omega) only [A_graph_Check, wp, Nat.reduceAdd, Nat.reduceMul, Nat.reduceSub, gl, c1, c2, c3, c4, h5, h6]
  cases b7
  · simp (disch := omega) only [A_graph_Check, wp, Nat.reduceAdd, Nat.reduceMul, Nat.reduceSub, gl, c1, c2, c3, c4, h5, h6, h7]
  cases b8
  · simp (disch := omega) only [A_graph_Check, wp, Nat.reduceAdd, Nat.reduceMul, Nat.reduceSub, gl, c1, c2, c3, c4, h5, h6, h7, h8]
  cases b9
  · simp (disch := omega) only [A_graph_Check, wp, Nat.reduceAdd, Nat.reduceMul, Nat.reduceSub, gl, c1, c2, c3, c4, h5, h6, h7, h8, h9]
  cases b10
  · simp (disch := omega) only [A_graph_Check, wp, Nat.reduceAdd, Nat.reduceMul, Nat.reduceSub, gl, c1, c2, c3, c4, h5, h6, h7, h8, h9, h10]
  cases b11
  · simp (disch := omega) only [A_graph_Check, wp, Nat.reduceAdd, Nat.reduceMul, Nat.reduceSub, gl, c1, c2, c3, c4, h5, h6, h7, h8, h9, h10, h11]
  simp (disch := omega) only [A_graph_Check, wp, Nat.reduceAdd, Nat.reduceMul, Nat.reduceSub, gl, c1, c2, c3, c4, h5, h6, h7, h8, h9, h10, h11, h12]
end Go.Ab
end
section
set_option linter.unusedVariables false
set_option linter.unusedSimpArgs false
namespace Go.Ab
def sumN : Nat → (Nat → Nat) → Nat
  | 0, _ => 0
  | n + 1, f => sumN n f + f n
theorem sumN_le {f g : Nat → Nat} : ∀ n, (∀ i, i < n → f i ≤ g i) → sumN n f ≤ sumN n g
  | 0, _ => Nat.le_refl _
  | n + 1, h => Nat.add_le_add (sumN_le n fun i hi => h i (by omega)) (h n (by omega))
theorem sumN_eq {f g : Nat → Nat} : ∀ n, (∀ i, i < n → f i ≤ g i) → sumN n f = sumN n g → ∀ i, i < n → f i = g i
  | 0, _, _, i, hi => absurd hi (Nat.not_lt_zero _)
  | n + 1, h, e, i, hi => by
    have h1 := sumN_le n fun i hi => h i (by omega)
    have h2 := h n (by omega)
    simp only [sumN] at e
    by_cases hin : i = n
    · subst hin; omega
    · exact sumN_eq n (fun i hi => h i (by omega)) (by omega) i (by omega)
theorem sumN_congr {f g : Nat → Nat} : ∀ n, (∀ i, i < n → f i = g i) → sumN n f = sumN n g
  | 0, _ => rfl
  | n + 1, h => by simp only [sumN]; rw [sumN_congr n fun i hi => h i (by omega), h n (by omega)]
theorem sumN_add (f g : Nat → Nat) : ∀ n, sumN n (fun i => f i + g i) = sumN n f + sumN n g
  | 0 => rfl
  | n + 1 => by simp only [sumN]; rw [sumN_add f g n]; omega
theorem sumN_zero : ∀ n, sumN n (fun _ => 0) = 0
  | 0 => rfl
  | n + 1 => by simp only [sumN, sumN_zero n]
def at1 (b : Bool) : Nat := if b then 1 else 0
theorem sumN_one {a : Nat} : ∀ n, a < n → sumN n (fun i => at1 (decide (a = i))) = 1
  | 0, h => absurd h (Nat.not_lt_zero _)
  | n + 1, h => by
    simp only [sumN]
    by_cases hn : a = n
    · have : sumN n (fun i => at1 (decide (a = i))) = sumN n (fun _ => 0) := sumN_congr n fun i hi => by
        have : ¬ a = i := by omega
        simp [at1, this]
      rw [this, sumN_zero]
      simp [at1, hn]
    · rw [sumN_one n (by omega)]
      simp [at1, hn]
def cntL (l : List Int) (i : Nat) : Nat := (l.filter (· == (i : Int))).length
theorem cntL_sum {n : Nat} : ∀ {l : List Int}, (∀ w ∈ l, 0 ≤ w ∧ w < n) → sumN n (cntL l) = l.length
  | [], _ => sumN_zero n
  | w :: l, h => by
    obtain ⟨w0, wn⟩ := h w (List.mem_cons_self ..)
    have ih := cntL_sum (n := n) (l := l) fun x hx => h x (List.mem_cons_of_mem _ hx)
    have e : ∀ i, i < n → cntL (w :: l) i = cntL l i + at1 (decide (w.toNat = i)) := by
      intro i hi
      unfold cntL at1
      rw [List.filter_cons]
      by_cases hw : w.toNat = i
      · have : (w == (i : Int)) = true := by simp; omega
        rw [if_pos this, hw]; simp
      · have : ¬ (w == (i : Int)) = true := by simp; omega
        rw [if_neg this]; simp [hw]
    rw [sumN_congr n e, sumN_add, ih, sumN_one n (by omega)]
    rfl
theorem cntL_pos {l : List Int} {i : Nat} (h : 0 < cntL l i) : (i : Int) ∈ l := by
  unfold cntL at h
  obtain ⟨x, hx⟩ := List.exists_mem_of_length_pos h
  rw [List.mem_filter] at hx
  have : x = (i : Int) := by simpa using hx.2
  rw [← this]; exact hx.1
theorem cntL_one : ∀ {l : List Int} {i : Nat}, (∀ j, j < l.length → ∀ k, k < j → l.getD k 0 ≠ l.getD j 0) → cntL l i ≤ 1
  | [], _, _ => by simp [cntL]
  | w :: l, i, h => by
    have ih := cntL_one (l := l) (i := i) fun j hj k hk => by
      have := h (j + 1) (by simpa using hj) (k + 1) (by omega)
      simpa using this
    unfold cntL
    rw [List.filter_cons]
    by_cases hw : (w == (i : Int)) = true
    · rw [if_pos hw, List.length_cons]
      have hwi : w = (i : Int) := by simpa using hw
      have h0 : cntL l i = 0 := by
        by_cases hp : 0 < cntL l i
        · exfalso
          obtain ⟨j, hj, he⟩ := List.mem_iff_getElem.1 (cntL_pos hp)
          have := h (j + 1) (by simpa using hj) 0 (by omega)
          apply this
          rw [List.getD_cons_zero, List.getD_cons_succ, List.getD_eq_getElem?_getD, List.getElem?_eq_getElem hj, hwi, he]; rfl
        · omega
      unfold cntL at h0
      omega
    · rw [if_neg hw]; exact ih
theorem cntW_sum (X : Gr) (loc : Int) : ∀ n, n ≤ X.evs.length → cntW X loc n = sumN n (fun i => at1 (isWr loc (X.evs.getD i ev0)))
  | 0, _ => rfl
  | n + 1, h => by
    simp only [sumN]
    rw [cntW_succ (by omega), ← cntW_sum X loc n (by omega)]
    unfold at1
    split <;> rfl
theorem nEx_sum (X : Gr) : ∀ n, n ≤ X.evs.length → nEx X n = sumN n (fun i => at1 ((X.evs.getD i ev0).ex))
  | 0, _ => rfl
  | n + 1, h => by
    simp only [sumN]
    rw [nEx_succ (by omega), ← nEx_sum X n (by omega)]
    unfold at1
    split <;> rfl
theorem sum_wr {m : Nat} {e : Ev} (h : e.kd = 2 → 0 ≤ e.lc ∧ e.lc < m) : sumN m (fun k => at1 (isWr k e)) = at1 (e.kd == 2) := by
  cases c : (e.kd == 2)
  · have : sumN m (fun k => at1 (isWr k e)) = sumN m (fun _ => 0) := sumN_congr m fun i hi => by
      unfold isWr; rw [c]; rfl
    rw [this, sumN_zero]; rfl
  · obtain ⟨h0, h1⟩ := h (by simpa using c)
    have : sumN m (fun k => at1 (isWr k e)) = sumN m (fun i => at1 (decide (e.lc.toNat = i))) := sumN_congr m fun i hi => by
      unfold isWr; rw [c, Bool.true_and]
      congr 1
      rw [Bool.eq_iff_iff]
      simp
      omega
    rw [this, sumN_one m (by omega)]; rfl
theorem sum_swap (X : Gr) (m : Nat) (h : ∀ i, i < X.evs.length → (X.evs.getD i ev0).kd = 2 → 0 ≤ (X.evs.getD i ev0).lc ∧ (X.evs.getD i ev0).lc < m) : ∀ n, n ≤ X.evs.length → sumN m (fun k => cntW X k n) = nWr X n
  | 0, _ => by
    have : sumN m (fun k => cntW X k 0) = sumN m (fun _ => 0) := sumN_congr m fun i hi => rfl
    rw [this, sumN_zero]; rfl
  | n + 1, hn => by
    have ih := sum_swap X m h n (by omega)
    have e : ∀ k, k < m → cntW X k (n + 1) = cntW X k n + at1 (isWr k (X.evs.getD n ev0)) := by
      intro k hk
      rw [cntW_succ (by omega)]
      unfold at1
      split <;> rfl
    rw [sumN_congr m e, sumN_add, ih, sum_wr (h n (by omega)), nWr_succ (by omega)]
    unfold at1
    split <;> rfl
theorem coS'_len (X : Gr) : ∀ k, k ≤ X.co.length → (coS' X k 0).length = sumN k (fun i => (X.co.getD i []).length)
  | 0, _ => by simp [coS', sumN]
  | k + 1, h => by
    simp only [sumN]
    rw [← coS'_next (by omega), ← coS'_len X k (by omega)]
    unfold coS'
    simp
end Go.Ab
end
section
set_option linter.unusedVariables false
set_option linter.unusedSimpArgs false
namespace Go.Ab
theorem evIs_iff {a : Ev} {i : Int} : evIs a ⟨0, 2, 0, i, 0, false⟩ = true ↔ a.th = 0 ∧ a.kd = 2 ∧ a.md = 0 ∧ a.lc = i ∧ a.vl = 0 ∧ a.ex = false := by
  unfold evIs
  simp
def KindOk (locs : Int) (e : Ev) : Prop := (e.kd = 1 ∧ 0 ≤ e.lc ∧ e.lc < locs ∧ (e.md = 0 ∨ e.md = 1)) ∨ (e.kd = 2 ∧ 0 ≤ e.lc ∧ e.lc < locs ∧ (e.md = 0 ∨ e.md = 2)) ∨ (e.kd = 3 ∧ 1 ≤ e.md ∧ e.md ≤ 4 ∧ e.lc = 0 ∧ e.vl = 0 ∧ e.ex = false)
theorem gEv_iff {locs : Int} {e : Ev} : gEv locs e = true ↔ KindOk locs e := by
  unfold gEv KindOk
  by_cases c1 : e.kd = 1
  · simp [c1, and_assoc]
  by_cases c2 : e.kd = 2
  · simp [c2, and_assoc]
  · simp [c1, c2, and_assoc]
theorem drop_getD (X : Gr) (L k : Nat) : (X.evs.drop L).getD k ev0 = X.evs.getD (L + k) ev0 := by
  rw [List.getD_eq_getElem?_getD, List.getD_eq_getElem?_getD, List.getElem?_drop]
section
variable {X : Gr}
theorem evs_iff (h1 : 1 ≤ X.locs) (h2 : X.locs ≤ X.evs.length) : (gFirst X = true ∧ gThr X = true) ↔ ∀ i, i < X.evs.length → EvOk X.locs i (X.evs.getD (i - 1) ev0) (X.evs.getD i ev0) := by
  unfold gFirst gThr
  rw [allN_iff, allN_iff]
  have hL : ((X.locs.toNat : Nat) : Int) = X.locs := by omega
  generalize X.locs.toNat = L at hL
  constructor
  · rintro ⟨hf, ht⟩
    have ht' : ∀ k, k < X.evs.length - L → thrWas (X.evs.drop L) k ≤ (X.evs.getD (L + k) ev0).th ∧ (X.evs.getD (L + k) ev0).th ≤ 4 ∧ KindOk X.locs (X.evs.getD (L + k) ev0) := by
      intro k hk
      have := ht k hk
      unfold thrK at this
      simp only [Bool.and_eq_true, Bool.not_eq_true', decide_eq_false_iff_not, drop_getD, gEv_iff] at this
      exact ⟨by omega, by omega, this.2.2⟩
    have hone : ∀ k, k < X.evs.length - L → 1 ≤ (X.evs.getD (L + k) ev0).th := by
      intro k
      induction k with
      | zero =>
        intro hk
        have := (ht' 0 hk).1
        simpa [thrWas] using this
      | succ k ih =>
        intro hk
        have h0 := ih (by omega)
        have := (ht' (k + 1) hk).1
        unfold thrWas at this
        rw [if_neg (by omega), drop_getD, Nat.add_sub_cancel] at this
        omega
    intro i hi
    constructor
    · intro hl
      have := evIs_iff.1 (hf i (by omega))
      exact this
    · intro hl
      have e : L + (i - L) = i := by omega
      have hk := ht' (i - L) (by omega)
      have ho := hone (i - L) (by omega)
      rw [e] at hk ho
      refine ⟨ho, hk.2.1, ?_, hk.2.2⟩
      by_cases hz : i - L = 0
      · have hf' := evIs_iff.1 (hf (i - 1) (by omega))
        omega
      · have := hk.1
        unfold thrWas at this
        rw [if_neg hz, drop_getD] at this
        have e2 : L + (i - L - 1) = i - 1 := by omega
        rwa [e2] at this
  · intro hev
    constructor
    · intro i hi
      exact evIs_iff.2 ((hev i (by omega)).1 (by omega))
    · intro k hk
      have h := (hev (L + k) (by omega)).2 (by omega)
      unfold thrK
      simp only [Bool.and_eq_true, Bool.not_eq_true', decide_eq_false_iff_not, drop_getD, gEv_iff]
      refine ⟨?_, by omega, h.2.2.2⟩
      unfold thrWas
      by_cases hz : k = 0
      · rw [if_pos hz]; omega
      · rw [if_neg hz, drop_getD]
        have e2 : L + (k - 1) = L + k - 1 := by omega
        rw [e2]
        have := h.2.2.1
        omega
theorem gWr_iff {i loc : Int} : gWr X i loc = true ↔ 0 ≤ i ∧ i < X.evs.length ∧ (X.evs.getD i.toNat ev0).kd = 2 ∧ (X.evs.getD i.toNat ev0).lc = loc := by
  unfold gWr
  simp only [Bool.and_eq_true, decide_eq_true_eq, beq_iff_eq, and_assoc]
theorem rf_iff : gRf X = true ↔ X.rf.length = X.evs.length ∧ ∀ i, i < X.evs.length → RfOk X i := by
  unfold gRf
  rw [Bool.and_eq_true, allN_iff, beq_iff_eq]
  have key : ∀ i, rfK X i = true ↔ RfOk X i := by
    intro i
    unfold rfK RfOk
    generalize X.evs.getD i ev0 = e
    have hg := gWr_iff (X := X) (i := X.rf.getD i 0) (loc := e.lc)
    generalize X.rf.getD i 0 = w at hg
    generalize X.evs.getD w.toNat ev0 = x at hg
    by_cases c1 : e.kd = 1
    · cases c2 : gWr X w e.lc
      · rw [c2] at hg
        simp only [c1, bne_self_eq_false, Bool.false_and, Bool.not_false, beq_self_eq_true, Bool.true_and, Bool.true_or, Bool.not_true]
        constructor
        · intro h; cases h
        · rintro ⟨_, h⟩
          obtain ⟨h1, h2, h3, h4, h5⟩ := h trivial
          exact hg.2 ⟨h1, h2, h3, h4⟩
      · rw [c2] at hg
        obtain ⟨h1, h2, h3, h4⟩ := hg.1 rfl
        simp [c1, h1, h2, h3, h4]
    · simp [c1]
  constructor
  · rintro ⟨h1, h2⟩
    exact ⟨by omega, fun i hi => (key i).1 (h2 i hi)⟩
  · rintro ⟨h1, h2⟩
    exact ⟨by omega, fun i hi => (key i).2 (h2 i hi)⟩
theorem ordP_lt {p q : Int × Int} : ¬ 0 ≤ ordP p q ↔ lessP p q := by
  unfold ordP cmpI lessP
  by_cases c1 : p.1 < q.1
  · simp [c1]
  · by_cases c2 : q.1 < p.1
    · simp [c1, c2]; omega
    · have c3 : p.1 = q.1 := by omega
      by_cases c4 : p.2 < q.2
      · simp [c3, c4]
      · by_cases c5 : q.2 < p.2
        · simp [c3, c4, c5]
        · simp [c3, c4, c5]
theorem list_iff {may : Ev → Ev → Bool} {l : List (Int × Int)} : gList X may l = true ↔ (∀ i, i < l.length → 0 ≤ (l.getD i (0, 0)).1 ∧ (l.getD i (0, 0)).1 < (l.getD i (0, 0)).2 ∧ (l.getD i (0, 0)).2 < X.evs.length ∧ may (X.evs.getD (l.getD i (0, 0)).1.toNat ev0) (X.evs.getD (l.getD i (0, 0)).2.toNat ev0) = true) ∧ Rising l := by
  unfold gList
  rw [allN_iff]
  have key : ∀ i, lsK X may l i = true ↔ (0 ≤ (l.getD i (0, 0)).1 ∧ (l.getD i (0, 0)).1 < (l.getD i (0, 0)).2 ∧ (l.getD i (0, 0)).2 < X.evs.length ∧ may (X.evs.getD (l.getD i (0, 0)).1.toNat ev0) (X.evs.getD (l.getD i (0, 0)).2.toNat ev0) = true) ∧ (0 < i → lessP (l.getD (i - 1) (0, 0)) (l.getD i (0, 0))) := by
    intro i
    have ho := ordP_lt (p := l.getD (i - 1) (0, 0)) (q := l.getD i (0, 0))
    unfold lsK
    simp only [Bool.and_eq_true, Bool.not_eq_true', decide_eq_false_iff_not, Bool.and_eq_false_iff]
    constructor
    · rintro ⟨h1, h2, h3, h4, h5⟩
      exact ⟨⟨by omega, by omega, by omega, h5⟩, fun hi => ho.1 (h4.resolve_left (by omega))⟩
    · rintro ⟨⟨h1, h2, h3, h5⟩, h4⟩
      refine ⟨by omega, by omega, by omega, ?_, h5⟩
      by_cases hi : 0 < i
      · exact .inr (ho.2 (h4 hi))
      · exact .inl hi
  constructor
  · intro h
    refine ⟨fun i hi => ((key i).1 (h i hi)).1, fun i hi => ?_⟩
    have := ((key (i + 1)).1 (h (i + 1) hi)).2 (by omega)
    rwa [Nat.add_sub_cancel] at this
  · rintro ⟨h1, h2⟩ i hi
    refine (key i).2 ⟨h1 i hi, fun h0 => ?_⟩
    have := h2 (i - 1) (by omega)
    have e : i - 1 + 1 = i := by omega
    rwa [e] at this
theorem deps_iff {l : List (Int × Int)} : gList X mayD l = true ↔ DepsOk X l := by
  rw [list_iff]
  unfold DepsOk DepOk mayD
  simp only [Bool.and_eq_true, beq_iff_eq]
end
theorem gd {l : List Int} {j : Nat} (hj : j < l.length) : l.getD j 0 = l[j] := by rw [List.getD_eq_getElem?_getD, List.getElem?_eq_getElem hj]; rfl
theorem gd_take {l : List Int} {m j : Nat} (hm : m < j) (hj : j ≤ l.length) : l.getD m 0 ∈ l.take j := by
  rw [gd (by omega)]
  exact List.mem_take_iff_getElem.2 ⟨m, by omega, rfl⟩
section
variable {X : Gr} (hE : ∀ i, i < X.evs.length → EvOk X.locs i (X.evs.getD (i - 1) ev0) (X.evs.getD i ev0))
include hE
theorem wr_loc (hl : (X.co.length : Int) = X.locs) {i : Nat} (hi : i < X.evs.length) (hk : (X.evs.getD i ev0).kd = 2) : 0 ≤ (X.evs.getD i ev0).lc ∧ (X.evs.getD i ev0).lc < X.co.length := by
  obtain ⟨h1, h2⟩ := hE i hi
  by_cases h : (i : Int) < X.locs
  · have := (h1 h).2.2.2.1
    omega
  · have := (h2 h).2.2.2
    omega
theorem co_iff : gCo X = true ↔ (X.co.length : Int) = X.locs ∧ ∀ k, k < X.co.length → CoOk X k := by
  unfold gCo
  rw [Bool.and_eq_true, Bool.and_eq_true, allN_iff, beq_iff_eq, beq_iff_eq]
  have hflat : X.co.flatten.length = sumN X.co.length (fun i => (X.co.getD i []).length) := by
    rw [← coS'_end X, coS'_len X _ (Nat.le_refl _)]
  constructor
  · rintro ⟨hl, hK, hT⟩
    refine ⟨hl, ?_⟩
    have hsw := sum_swap X X.co.length (fun i hi hk => wr_loc hE hl hi hk) X.evs.length (Nat.le_refl _)
    have hk : ∀ k, k < X.co.length → 0 < (X.co.getD k []).length ∧ (X.co.getD k []).getD 0 0 = (k : Int) ∧ ∀ j, j < (X.co.getD k []).length → (0 ≤ (X.co.getD k []).getD j 0 ∧ (X.co.getD k []).getD j 0 < X.evs.length ∧ (X.evs.getD ((X.co.getD k []).getD j 0).toNat ev0).kd = 2 ∧ (X.evs.getD ((X.co.getD k []).getD j 0).toNat ev0).lc = k) ∧ ¬ (X.co.getD k []).getD j 0 ∈ coS' X k j := by
      intro k hk
      have := hK k hk
      unfold coK at this
      simp only [Bool.and_eq_true, Bool.not_eq_true', beq_eq_false_iff_ne, ne_eq, bne_eq_false_iff_eq, allN_iff] at this
      obtain ⟨h1, h2, h3⟩ := this
      refine ⟨by omega, h2, fun j hj => ?_⟩
      have := h3 j hj
      unfold ciK at this
      simp only [Bool.and_eq_true, Bool.not_eq_true', gWr_iff] at this
      refine ⟨this.1, fun hm => ?_⟩
      have h4 := this.2
      rw [List.contains_iff_mem.2 hm] at h4
      cases h4
    have hne : ∀ k, k < X.co.length → ∀ j, j < (X.co.getD k []).length → ∀ m, m < j → (X.co.getD k []).getD m 0 ≠ (X.co.getD k []).getD j 0 := by
      intro k hk' j hj m hm he
      apply ((hk k hk').2.2 j hj).2
      rw [← he]
      unfold coS'
      exact List.mem_append_right _ (gd_take hm (by omega))
    have hle : ∀ k, k < X.co.length → (X.co.getD k []).length ≤ cntW X k X.evs.length := by
      intro k hk'
      have hin : ∀ w ∈ X.co.getD k [], 0 ≤ w ∧ w < (X.evs.length : Int) := by
        intro w hw
        obtain ⟨j, hj, he⟩ := List.mem_iff_getElem.1 hw
        have := ((hk k hk').2.2 j hj).1
        rw [gd hj, he] at this
        exact ⟨this.1, this.2.1⟩
      rw [← cntL_sum hin, cntW_sum X k _ (Nat.le_refl _)]
      refine sumN_le _ fun i hi => ?_
      by_cases hp : 0 < cntL (X.co.getD k []) i
      · have h1 := cntL_one (i := i) (hne k hk')
        obtain ⟨j, hj, he⟩ := List.mem_iff_getElem.1 (cntL_pos hp)
        have := ((hk k hk').2.2 j hj).1
        rw [gd hj, he, Int.toNat_natCast] at this
        have hw : isWr k (X.evs.getD i ev0) = true := by
          unfold isWr
          rw [this.2.2.1, this.2.2.2]
          simp
        rw [hw]
        exact h1
      · omega
    have heq := sumN_eq X.co.length hle (by omega)
    intro k hk'
    obtain ⟨h1, h2, h3⟩ := hk k hk'
    exact ⟨fun j hj => (h3 j hj).1, hne k hk', heq k hk', h1, h2⟩
  · rintro ⟨hl, hK⟩
    have hsw := sum_swap X X.co.length (fun i hi hk => wr_loc hE hl hi hk) X.evs.length (Nat.le_refl _)
    refine ⟨hl, fun k hk => ?_, ?_⟩
    · obtain ⟨h1, h2, h3, h4, h5⟩ := hK k hk
      unfold coK
      simp only [Bool.and_eq_true, Bool.not_eq_true', beq_eq_false_iff_ne, ne_eq, bne_eq_false_iff_eq, allN_iff]
      refine ⟨by omega, h5, fun j hj => ?_⟩
      unfold ciK
      simp only [Bool.and_eq_true, Bool.not_eq_true', gWr_iff]
      refine ⟨h1 j hj, ?_⟩
      cases c : (coS' X k j).contains ((X.co.getD k []).getD j 0)
      · rfl
      · exfalso
        have hm := List.contains_iff_mem.1 c
        unfold coS' at hm
        rcases List.mem_append.1 hm with hm | hm
        · obtain ⟨l, hl', hm⟩ := List.mem_flatten.1 hm
          obtain ⟨k', hk', he⟩ := List.mem_take_iff_getElem.1 hl'
          obtain ⟨m, hm', he'⟩ := List.mem_iff_getElem.1 hm
          have hkk : k' < X.co.length := by omega
          have hg : X.co.getD k' [] = l := by rw [List.getD_eq_getElem?_getD, List.getElem?_eq_getElem hkk]; exact he
          have h6 := (hK k' hkk).wr m (by rw [hg]; exact hm')
          rw [hg, gd hm', he'] at h6
          have h7 := (h1 j hj).2.2.2
          rw [h6.2.2.2] at h7
          omega
        · obtain ⟨m, hm', he⟩ := List.mem_take_iff_getElem.1 hm
          have := h2 j hj m (by omega)
          apply this
          rw [← he, gd (by omega)]
    · have := sumN_congr (f := fun i => (X.co.getD i []).length) (g := fun k => cntW X k X.evs.length) X.co.length fun k hk => (hK k hk).len
      omega
end
theorem inC_sum {n : Nat} : ∀ {l : List (Int × Int)}, (∀ p ∈ l, 0 ≤ p.1 ∧ p.2 = p.1 + 1 ∧ p.2 < n) → sumN n (inC l) = 2 * l.length
  | [], _ => sumN_zero n
  | p :: l, h => by
    obtain ⟨p0, p1, p2⟩ := h p (List.mem_cons_self ..)
    have ih := inC_sum (n := n) (l := l) fun x hx => h x (List.mem_cons_of_mem _ hx)
    have e : ∀ i, i < n → inC (p :: l) i = inC l i + (at1 (decide (p.1.toNat = i)) + at1 (decide (p.2.toNat = i))) := by
      intro i hi
      unfold inC inB at1
      rw [List.filter_cons]
      by_cases h1 : p.1 = (i : Int)
      · have h2 : ¬ p.2 = (i : Int) := by omega
        have h3 : p.1.toNat = i := by omega
        have h4 : ¬ p.2.toNat = i := by omega
        simp [h1, h4]
      · have h3 : ¬ p.1.toNat = i := by omega
        by_cases h2 : p.2 = (i : Int)
        · have h4 : p.2.toNat = i := by omega
          simp [h2, h3]
        · have h4 : ¬ p.2.toNat = i := by omega
          simp [h1, h2, h3, h4]
    rw [sumN_congr n e, sumN_add, sumN_add, ih, sumN_one n (by omega), sumN_one n (by omega), List.length_cons]
    omega
theorem inC_pos {l : List (Int × Int)} {i : Nat} (h : 0 < inC l i) : ∃ j, j < l.length ∧ inB i (l.getD j (0, 0)) = true := by
  unfold inC at h
  obtain ⟨x, hx⟩ := List.exists_mem_of_length_pos h
  rw [List.mem_filter] at hx
  obtain ⟨j, hj, he⟩ := List.mem_iff_getElem.1 hx.1
  refine ⟨j, hj, ?_⟩
  rw [List.getD_eq_getElem?_getD, List.getElem?_eq_getElem hj, Option.getD_some, he]
  exact hx.2
theorem inC_one : ∀ {l : List (Int × Int)} {i : Nat}, (∀ j, j < l.length → ∀ k, k < j → inB i (l.getD k (0, 0)) = true → inB i (l.getD j (0, 0)) = true → False) → inC l i ≤ 1
  | [], _, _ => by simp [inC]
  | p :: l, i, h => by
    have ih := inC_one (l := l) (i := i) fun j hj k hk => by
      have := h (j + 1) (by simpa using hj) (k + 1) (by omega)
      simpa using this
    unfold inC
    rw [List.filter_cons]
    by_cases hp : inB i p = true
    · rw [if_pos hp, List.length_cons]
      have h0 : inC l i = 0 := by
        by_cases hq : 0 < inC l i
        · exfalso
          obtain ⟨j, hj, he⟩ := inC_pos hq
          exact h (j + 1) (by simpa using hj) 0 (by omega) hp he
        · omega
      unfold inC at h0
      omega
    · rw [if_neg hp]; exact ih
theorem inC_two {l : List (Int × Int)} {i k : Nat} (hk : k + 1 < l.length) (h1 : inB i (l.getD k (0, 0)) = true) (h2 : inB i (l.getD (k + 1) (0, 0)) = true) : 2 ≤ inC l i := by
  have e1 := inC_take (l := l) (k := k) (by omega) i
  have e2 := inC_take hk i
  rw [h1, if_pos rfl] at e1
  rw [h2, if_pos rfl] at e2
  have : inC (l.take (k + 1 + 1)) i ≤ inC l i := by
    unfold inC
    exact ((List.take_sublist _ _).filter _).length_le
  omega
theorem inB_iff {i : Nat} {p : Int × Int} : inB i p = true ↔ p.1 = i ∨ p.2 = i := by
  unfold inB
  rw [Bool.or_eq_true, beq_iff_eq, beq_iff_eq]
theorem mayR_iff {a b : Ev} : mayR a b = true ↔ a.th = b.th ∧ a.kd = 1 ∧ b.kd = 2 ∧ a.lc = b.lc ∧ a.ex = true ∧ b.ex = true := by
  unfold mayR
  simp only [Bool.and_eq_true, beq_iff_eq]
  constructor
  · rintro ⟨⟨⟨⟨⟨h1, h2⟩, h3⟩, h4⟩, h5⟩, h6⟩
    exact ⟨h6, h1, h2, h3, h4, h5⟩
  · rintro ⟨h6, h1, h2, h3, h4, h5⟩
    exact ⟨⟨⟨⟨⟨h1, h2⟩, h3⟩, h4⟩, h5⟩, h6⟩
theorem rmw_iff {X : Gr} : gRmw X = true ↔ RmwOk X := by
  unfold gRmw
  rw [Bool.and_eq_true, Bool.and_eq_true, allN_iff, beq_iff_eq, list_iff]
  have hmem : ∀ {P : Int × Int → Prop}, (∀ j, j < X.rmw.length → P (X.rmw.getD j (0, 0))) → ∀ p ∈ X.rmw, P p := by
    intro P h p hp
    obtain ⟨j, hj, he⟩ := List.mem_iff_getElem.1 hp
    have := h j hj
    rwa [List.getD_eq_getElem?_getD, List.getElem?_eq_getElem hj, Option.getD_some, he] at this
  constructor
  · rintro ⟨⟨hL, hr⟩, hK, hE⟩
    have hK' : ∀ k, k < X.rmw.length → (X.rmw.getD k (0, 0)).2 = (X.rmw.getD k (0, 0)).1 + 1 ∧ rmLast X k < (X.rmw.getD k (0, 0)).1 := by
      intro k hk
      have := hK k hk
      unfold rmK at this
      simp only [Bool.and_eq_true, Bool.not_eq_true', bne_eq_false_iff_eq, decide_eq_false_iff_not] at this
      exact ⟨this.1, by omega⟩
    have hpair : ∀ j, j < X.rmw.length → PairOk X (X.rmw.getD j (0, 0)) := by
      intro j hj
      obtain ⟨h1, h2, h3, h4⟩ := hL j hj
      obtain ⟨h5, h6, h7, h8, h9, h10⟩ := mayR_iff.1 h4
      have := (hK' j hj).1
      exact ⟨h1, by omega, this, h5, h6, h7, h8, h9, h10⟩
    have hmono : ∀ j, j < X.rmw.length → ∀ k, k < j → (X.rmw.getD k (0, 0)).2 < (X.rmw.getD j (0, 0)).1 := by
      intro j
      induction j with
      | zero => intro _ k hk; omega
      | succ j ih =>
        intro hj k hk
        have h1 := (hK' (j + 1) hj).2
        unfold rmLast at h1
        rw [if_neg (by omega), Nat.add_sub_cancel] at h1
        by_cases hkj : k = j
        · subst hkj; exact h1
        · have h2 := ih (by omega) k (by omega)
          have h3 := (hK' j (by omega)).1
          omega
    have hone : ∀ i, inC X.rmw i ≤ 1 := fun i => inC_one fun j hj k hk h1 h2 => by
      have h3 := hmono j hj k hk
      have h4 := (hK' j hj).1
      have h5 := (hK' k (by omega)).1
      rw [inB_iff] at h1 h2
      omega
    have hsum := inC_sum (n := X.evs.length) (l := X.rmw) (hmem fun j hj => ⟨(hL j hj).1, (hK' j hj).1, (hL j hj).2.2.1⟩)
    have hle : ∀ i, i < X.evs.length → inC X.rmw i ≤ at1 ((X.evs.getD i ev0).ex) := by
      intro i hi
      by_cases hp : 0 < inC X.rmw i
      · obtain ⟨j, hj, hb'⟩ := inC_pos hp
        rw [inB_iff] at hb'
        obtain ⟨p1, p2, p3, p4, p5, p6, p7, p8, p9⟩ := hpair j hj
        have hex : (X.evs.getD i ev0).ex = true := by
          rcases hb' with hb' | hb'
          · rw [hb', Int.toNat_natCast] at p8; exact p8
          · rw [hb', Int.toNat_natCast] at p9; exact p9
        rw [hex]
        exact hone i
      · omega
    have heq := sumN_eq X.evs.length hle (by rw [← nEx_sum X _ (Nat.le_refl _)]; omega)
    refine ⟨hpair, fun i hi => ⟨hone i, ?_⟩, hr⟩
    rw [heq i hi]
    cases (X.evs.getD i ev0).ex <;> rfl
  · rintro ⟨hp, ho, hr⟩
    refine ⟨⟨fun j hj => ?_, hr⟩, fun k hk => ?_, ?_⟩
    · obtain ⟨p1, p2, p3, p4, p5, p6, p7, p8, p9⟩ := hp j hj
      exact ⟨p1, by omega, by omega, mayR_iff.2 ⟨p4, p5, p6, p7, p8, p9⟩⟩
    · obtain ⟨p1, p2, p3, _⟩ := hp k hk
      unfold rmK
      simp only [Bool.and_eq_true, Bool.not_eq_true', bne_eq_false_iff_eq, decide_eq_false_iff_not]
      refine ⟨p3, ?_⟩
      unfold rmLast
      by_cases h0 : k = 0
      · rw [if_pos h0]; omega
      · rw [if_neg h0]
        have e : k - 1 + 1 = k := by omega
        have h1 := hr (k - 1) (by omega)
        rw [e] at h1
        obtain ⟨q1, q2, q3, _⟩ := hp (k - 1) (by omega)
        intro hle
        have h2 : (X.rmw.getD (k - 1) (0, 0)).2 = (X.rmw.getD k (0, 0)).1 := by
          rcases h1 with h1 | h1
          · omega
          · omega
        have h3 := (ho (X.rmw.getD k (0, 0)).1.toNat (by omega)).1
        have h4 := inC_two (l := X.rmw) (i := (X.rmw.getD k (0, 0)).1.toNat) (k := k - 1) (by omega) (inB_iff.2 (.inr (by omega))) (by rw [e]; exact inB_iff.2 (.inl (by omega)))
        omega
    · have hsum := inC_sum (n := X.evs.length) (l := X.rmw) (hmem fun j hj => by
        obtain ⟨p1, p2, p3, _⟩ := hp j hj
        exact ⟨p1, p3, by omega⟩)
      have : sumN X.evs.length (fun i => at1 ((X.evs.getD i ev0).ex)) = sumN X.evs.length (inC X.rmw) := sumN_congr _ fun i hi => by
        obtain ⟨h1, h2⟩ := ho i hi
        rw [h2]
        have : inC X.rmw i = 0 ∨ inC X.rmw i = 1 := by omega
        rcases this with h | h <;> rw [h] <;> rfl
      rw [nEx_sum X _ (Nat.le_refl _), this, hsum]
      omega
theorem gCheck_iff {X : Gr} : gCheck X = true ↔ GraphOk X := by
  unfold gCheck
  simp only [Bool.and_eq_true, Bool.not_eq_true', decide_eq_false_iff_not]
  constructor
  · rintro ⟨h1, h2, h3, h4, h5, h6, h7, h8, h9, h10, h11, h12⟩
    have hev := (evs_iff (X := X) (by omega) (by omega)).1 ⟨h5, h6⟩
    obtain ⟨hr1, hr2⟩ := rf_iff.1 h7
    obtain ⟨hc1, hc2⟩ := (co_iff hev).1 h8
    exact ⟨by omega, by omega, by omega, by omega, hr1, hc1, hev, hr2, hc2, rmw_iff.1 h9, deps_iff.1 h10, deps_iff.1 h11, deps_iff.1 h12⟩
  · rintro ⟨l1, l4, nl, n40, hrl, hcl, hev, hrf, hco, hrm, hda, hct, hci⟩
    obtain ⟨h5, h6⟩ := (evs_iff (X := X) (by omega) (by omega)).2 hev
    exact ⟨by omega, by omega, by omega, by omega, h5, h6, rf_iff.2 ⟨hrl, hrf⟩, (co_iff hev).2 ⟨hcl, hco⟩, rmw_iff.2 hrm, deps_iff.2 hda, deps_iff.2 hct, deps_iff.2 hci⟩
end Go.Ab
end
section
set_option linter.unusedVariables false
set_option linter.unusedSimpArgs false
namespace Go.Ab
variable {F : Funs}
theorem thaw27 (h27 : F 27 = some A_xref01_New) {n : Nat} (hn : n ≤ 40) (al : Nat → Bool) (id : Nat) (g : G) : vThaw F al id (.fn 27 [] []) [.i .i64 n, .sl [] 0 .rig] g = some (.mp id 0, ⟨upd g.hp id (some (.cells (matC n fun _ _ => false) false)), g.nx⟩) :=
  vThaw_S (bs := [.i .i64 n, .sl [] 0 .non]) (by rw [frzL_cons, frzL_cons, frzL_nil, frz_d_i, frz_d_sl]; rfl) (sp_newT h27 hn .non) (by rw [List.flatMap_cons, List.flatMap_cons, vis_i, vis_sl]; rfl)
def stM (φ : Bool → Bool → Bool) (A B : Mx) (N a b : Nat) : Mx := fun i j => if (i < a ∧ j < N) ∨ (i = a ∧ j < b) then φ (A i j) (B i j) else false
theorem stM_succ (φ A B N a b) : upd2 (stM φ A B N a b) a b (φ (A a b) (B a b)) = stM φ A B N a (b + 1) := by
  funext i j
  unfold upd2 stM
  by_cases h : i = a ∧ j = b
  · obtain ⟨rfl, rfl⟩ := h
    rw [if_pos ⟨rfl, rfl⟩, if_pos (.inr ⟨rfl, by omega⟩)]
  · rw [if_neg h]
    by_cases h2 : (i < a ∧ j < N) ∨ (i = a ∧ j < b)
    · rw [if_pos h2, if_pos (by omega)]
    · rw [if_neg h2, if_neg (by omega)]
theorem stM_row (φ A B N a) : stM φ A B N a N = stM φ A B N (a + 1) 0 := by
  funext i j
  unfold stM
  by_cases h2 : (i < a ∧ j < N) ∨ (i = a ∧ j < N)
  · rw [if_pos h2, if_pos (by omega)]
  · rw [if_neg h2, if_neg (by omega)]
theorem stM_0 (φ A B N) : stM φ A B N 0 0 = fun _ _ => false := by
  funext i j
  unfold stM
  rw [if_neg (by omega)]
def opM (φ : Bool → Bool → Bool) (A B : Mx) (N : Nat) : Mx := stM φ A B N N 0
set_option maxRecDepth 100000 in
set_option maxHeartbeats 4000000 in
theorem sp_mor (h : F 29 = some A_xref01_R_Or) (h27 : F 27 = some A_xref01_New) {n m : Nat} (hn : n ≤ 40) (hm : m ≤ 40) (A B : Mx) : pureS F 29 [.ptr (matC n A), .ptr (matC m B)] = some (.ptr (matC (max n m) (opM (fun x y => x || y) A B (max n m)))) := by
  refine pure_of_thaw h (matC_flat _ _) ?_
  have hN : max n m ≤ 40 := by omega
  simp (disch := omega) only [A_xref01_R_Or, wp, Nat.reduceAdd, Nat.reduceMul, Nat.reduceSub, ml, maxI, thaw27 h27]
  generalize max n m = N at hN
  refine W_loop (fun q e g => ∃ a, q = N - a ∧ a ≤ N ∧ e 0 = .ptr (matC n A) ∧ e 1 = .ptr (matC m B) ∧ e 5 = .mp 10 0 ∧ e 6 = .i .i64 a ∧ g.hp 10 = some (.cells (matC N (stM (fun x y => x || y) A B N a 0)) false) ∧ 10 < g.nx) N ?_ ?_
  · refine ⟨0, rfl, Nat.zero_le _, ?_⟩
    simp (disch := omega) only [wp, Nat.reduceAdd, Nat.reduceMul, Nat.reduceSub, stM_0]
    exact ⟨rfl, by first | omega | (dsimp only; omega)⟩
  · rintro q e g ⟨a, rfl, ha, h0, h1, h5, h6, hg, hnx⟩
    by_cases ha' : a < N
    · have ha1 : (a : Int) < N := by omega
      have hwa := succ_wrap (k := a) (by omega)
      simp (disch := omega) only [wp, Nat.reduceAdd, Nat.reduceMul, Nat.reduceSub, ml, h0, h1, h5, h6, hg, ha1]
      refine W_loop (fun q e g => ∃ b, q = N - b ∧ b ≤ N ∧ e 0 = .ptr (matC n A) ∧ e 1 = .ptr (matC m B) ∧ e 5 = .mp 10 0 ∧ e 6 = .i .i64 a ∧ e 7 = .i .i64 b ∧ g.hp 10 = some (.cells (matC N (stM (fun x y => x || y) A B N a b)) false) ∧ 10 < g.nx) N ?_ ?_
      · refine ⟨0, rfl, Nat.zero_le _, ?_⟩
        simp (disch := omega) only [wp, Nat.reduceAdd, Nat.reduceMul, Nat.reduceSub, h0, h1, h5, h6, hg]
        exact ⟨rfl, by first | omega | (dsimp only; omega)⟩
      · rintro q e g ⟨b, rfl, hb, h0, h1, h5, h6, h7, hg, hnx⟩
        by_cases hb' : b < N
        · have hb1 : (b : Int) < N := by omega
          have hwb := succ_wrap (k := b) (by omega)
          have hs := stM_succ (fun x y => x || y) A B N a b
          cases hA : A a b with
          | true =>
            simp only [hA, Bool.true_or, Bool.true_and] at hs
            simp (disch := omega) only [wp, Nat.reduceAdd, Nat.reduceMul, Nat.reduceSub, ml, h0, h1, h5, h6, h7, hg, hb1, hA, hwb, hs]
            exact ⟨N - (b + 1), by omega, b + 1, rfl, by omega, rfl, rfl, by first | omega | (dsimp only; omega)⟩
          | false =>
            simp only [hA, Bool.false_or, Bool.false_and] at hs
            simp (disch := omega) only [wp, Nat.reduceAdd, Nat.reduceMul, Nat.reduceSub, ml, h0, h1, h5, h6, h7, hg, hb1, hA, hwb, hs]
            exact ⟨N - (b + 1), by omega, b + 1, rfl, by omega, rfl, rfl, by first | omega | (dsimp only; omega)⟩
        · obtain rfl : b = N := by omega
          have hb1 : ¬ ((b : Int) < b) := by omega
          rw [stM_row] at hg
          simp (disch := omega) only [wp, Nat.reduceAdd, Nat.reduceMul, Nat.reduceSub, ml, h0, h1, h5, h6, h7, hg, hb1, hwa]
          exact ⟨b - (a + 1), by omega, a + 1, rfl, by omega, rfl, rfl, by first | omega | (dsimp only; omega)⟩
    · obtain rfl : a = N := by omega
      have ha1 : ¬ ((a : Int) < a) := by omega
      simp (disch := omega) only [wp, Nat.reduceAdd, Nat.reduceMul, Nat.reduceSub, ml, h0, h1, h5, h6, hg, ha1]
      exact ⟨10, rfl, hg⟩
set_option maxRecDepth 100000 in
set_option maxHeartbeats 4000000 in
theorem sp_mand (h : F 30 = some A_xref01_R_And) (h27 : F 27 = some A_xref01_New) {n m : Nat} (hn : n ≤ 40) (hm : m ≤ 40) (A B : Mx) : pureS F 30 [.ptr (matC n A), .ptr (matC m B)] = some (.ptr (matC (max n m) (opM (fun x y => x && y) A B (max n m)))) := by
  refine pure_of_thaw h (matC_flat _ _) ?_
  have hN : max n m ≤ 40 := by omega
  simp (disch := omega) only [A_xref01_R_And, wp, Nat.reduceAdd, Nat.reduceMul, Nat.reduceSub, ml, maxI, thaw27 h27]
  generalize max n m = N at hN
  refine W_loop (fun q e g => ∃ a, q = N - a ∧ a ≤ N ∧ e 0 = .ptr (matC n A) ∧ e 1 = .ptr (matC m B) ∧ e 5 = .mp 10 0 ∧ e 6 = .i .i64 a ∧ g.hp 10 = some (.cells (matC N (stM (fun x y => x && y) A B N a 0)) false) ∧ 10 < g.nx) N ?_ ?_
  · refine ⟨0, rfl, Nat.zero_le _, ?_⟩
    simp (disch := omega) only [wp, Nat.reduceAdd, Nat.reduceMul, Nat.reduceSub, stM_0]
    exact ⟨rfl, by first | omega | (dsimp only; omega)⟩
  · rintro q e g ⟨a, rfl, ha, h0, h1, h5, h6, hg, hnx⟩
    by_cases ha' : a < N
    · have ha1 : (a : Int) < N := by omega
      have hwa := succ_wrap (k := a) (by omega)
      simp (disch := omega) only [wp, Nat.reduceAdd, Nat.reduceMul, Nat.reduceSub, ml, h0, h1, h5, h6, hg, ha1]
      refine W_loop (fun q e g => ∃ b, q = N - b ∧ b ≤ N ∧ e 0 = .ptr (matC n A) ∧ e 1 = .ptr (matC m B) ∧ e 5 = .mp 10 0 ∧ e 6 = .i .i64 a ∧ e 7 = .i .i64 b ∧ g.hp 10 = some (.cells (matC N (stM (fun x y => x && y) A B N a b)) false) ∧ 10 < g.nx) N ?_ ?_
      · refine ⟨0, rfl, Nat.zero_le _, ?_⟩
        simp (disch := omega) only [wp, Nat.reduceAdd, Nat.reduceMul, Nat.reduceSub, h0, h1, h5, h6, hg]
        exact ⟨rfl, by first | omega | (dsimp only; omega)⟩
      · rintro q e g ⟨b, rfl, hb, h0, h1, h5, h6, h7, hg, hnx⟩
        by_cases hb' : b < N
        · have hb1 : (b : Int) < N := by omega
          have hwb := succ_wrap (k := b) (by omega)
          have hs := stM_succ (fun x y => x && y) A B N a b
          cases hA : A a b with
          | true =>
            simp only [hA, Bool.true_or, Bool.true_and] at hs
            simp (disch := omega) only [wp, Nat.reduceAdd, Nat.reduceMul, Nat.reduceSub, ml, h0, h1, h5, h6, h7, hg, hb1, hA, hwb, hs]
            exact ⟨N - (b + 1), by omega, b + 1, rfl, by omega, rfl, rfl, by first | omega | (dsimp only; omega)⟩
          | false =>
            simp only [hA, Bool.false_or, Bool.false_and] at hs
            simp (disch := omega) only [wp, Nat.reduceAdd, Nat.reduceMul, Nat.reduceSub, ml, h0, h1, h5, h6, h7, hg, hb1, hA, hwb, hs]
            exact ⟨N - (b + 1), by omega, b + 1, rfl, by omega, rfl, rfl, by first | omega | (dsimp only; omega)⟩
        · obtain rfl : b = N := by omega
          have hb1 : ¬ ((b : Int) < b) := by omega
          rw [stM_row] at hg
          simp (disch := omega) only [wp, Nat.reduceAdd, Nat.reduceMul, Nat.reduceSub, ml, h0, h1, h5, h6, h7, hg, hb1, hwa]
          exact ⟨b - (a + 1), by omega, a + 1, rfl, by omega, rfl, rfl, by first | omega | (dsimp only; omega)⟩
    · obtain rfl : a = N := by omega
      have ha1 : ¬ ((a : Int) < a) := by omega
      simp (disch := omega) only [wp, Nat.reduceAdd, Nat.reduceMul, Nat.reduceSub, ml, h0, h1, h5, h6, hg, ha1]
      exact ⟨10, rfl, hg⟩
set_option maxRecDepth 100000 in
set_option maxHeartbeats 4000000 in
theorem sp_mless (h : F 31 = some A_xref01_R_Less) (h27 : F 27 = some A_xref01_New) {n m : Nat} (hn : n ≤ 40) (hm : m ≤ 40) (A B : Mx) : pureS F 31 [.ptr (matC n A), .ptr (matC m B)] = some (.ptr (matC (max n m) (opM (fun x y => x && !y) A B (max n m)))) := by
  refine pure_of_thaw h (matC_flat _ _) ?_
  have hN : max n m ≤ 40 := by omega
  simp (disch := omega) only [A_xref01_R_Less, wp, Nat.reduceAdd, Nat.reduceMul, Nat.reduceSub, ml, maxI, thaw27 h27]
  generalize max n m = N at hN
  refine W_loop (fun q e g => ∃ a, q = N - a ∧ a ≤ N ∧ e 0 = .ptr (matC n A) ∧ e 1 = .ptr (matC m B) ∧ e 5 = .mp 10 0 ∧ e 6 = .i .i64 a ∧ g.hp 10 = some (.cells (matC N (stM (fun x y => x && !y) A B N a 0)) false) ∧ 10 < g.nx) N ?_ ?_
  · refine ⟨0, rfl, Nat.zero_le _, ?_⟩
    simp (disch := omega) only [wp, Nat.reduceAdd, Nat.reduceMul, Nat.reduceSub, stM_0]
    exact ⟨rfl, by first | omega | (dsimp only; omega)⟩
  · rintro q e g ⟨a, rfl, ha, h0, h1, h5, h6, hg, hnx⟩
    by_cases ha' : a < N
    · have ha1 : (a : Int) < N := by omega
      have hwa := succ_wrap (k := a) (by omega)
      simp (disch := omega) only [wp, Nat.reduceAdd, Nat.reduceMul, Nat.reduceSub, ml, h0, h1, h5, h6, hg, ha1]
      refine W_loop (fun q e g => ∃ b, q = N - b ∧ b ≤ N ∧ e 0 = .ptr (matC n A) ∧ e 1 = .ptr (matC m B) ∧ e 5 = .mp 10 0 ∧ e 6 = .i .i64 a ∧ e 7 = .i .i64 b ∧ g.hp 10 = some (.cells (matC N (stM (fun x y => x && !y) A B N a b)) false) ∧ 10 < g.nx) N ?_ ?_
      · refine ⟨0, rfl, Nat.zero_le _, ?_⟩
        simp (disch := omega) only [wp, Nat.reduceAdd, Nat.reduceMul, Nat.reduceSub, h0, h1, h5, h6, hg]
        exact ⟨rfl, by first | omega | (dsimp only; omega)⟩
      · rintro q e g ⟨b, rfl, hb, h0, h1, h5, h6, h7, hg, hnx⟩
        by_cases hb' : b < N
        · have hb1 : (b : Int) < N := by omega
          have hwb := succ_wrap (k := b) (by omega)
          have hs := stM_succ (fun x y => x && !y) A B N a b
          cases hA : A a b with
          | true =>
            simp only [hA, Bool.true_or, Bool.true_and] at hs
            simp (disch := omega) only [wp, Nat.reduceAdd, Nat.reduceMul, Nat.reduceSub, ml, h0, h1, h5, h6, h7, hg, hb1, hA, hwb, hs]
            exact ⟨N - (b + 1), by omega, b + 1, rfl, by omega, rfl, rfl, by first | omega | (dsimp only; omega)⟩
          | false =>
            simp only [hA, Bool.false_or, Bool.false_and] at hs
            simp (disch := omega) only [wp, Nat.reduceAdd, Nat.reduceMul, Nat.reduceSub, ml, h0, h1, h5, h6, h7, hg, hb1, hA, hwb, hs]
            exact ⟨N - (b + 1), by omega, b + 1, rfl, by omega, rfl, rfl, by first | omega | (dsimp only; omega)⟩
        · obtain rfl : b = N := by omega
          have hb1 : ¬ ((b : Int) < b) := by omega
          rw [stM_row] at hg
          simp (disch := omega) only [wp, Nat.reduceAdd, Nat.reduceMul, Nat.reduceSub, ml, h0, h1, h5, h6, h7, hg, hb1, hwa]
          exact ⟨b - (a + 1), by omega, a + 1, rfl, by omega, rfl, rfl, by first | omega | (dsimp only; omega)⟩
    · obtain rfl : a = N := by omega
      have ha1 : ¬ ((a : Int) < a) := by omega
      simp (disch := omega) only [wp, Nat.reduceAdd, Nat.reduceMul, Nat.reduceSub, ml, h0, h1, h5, h6, hg, ha1]
      exact ⟨10, rfl, hg⟩
end Go.Ab
end
section
set_option linter.unusedVariables false
set_option linter.unusedSimpArgs false
namespace Go.Ab
variable {F : Funs}
def t1M (A B : Mx) (a b c : Nat) (T : Mx) : Mx := fun i j => if i = a ∧ j < c then T i j || B b j else T i j
def t2M (A B : Mx) (N a : Nat) (T : Mx) (b : Nat) : Mx := if A a b then t1M A B a b N T else T
def t3M (A B : Mx) (N a k : Nat) (T : Mx) : Mx := (List.range k).foldl (t2M A B N a) T
def thM (A B : Mx) (N k : Nat) : Mx := (List.range k).foldl (fun T a => t3M A B N a N T) (fun _ _ => false)
theorem t3M_succ (A B N a k T) : t3M A B N a (k + 1) T = t2M A B N a (t3M A B N a k T) k := by simp [t3M, List.range_succ]
theorem thM_succ (A B N k) : thM A B N (k + 1) = t3M A B N k N (thM A B N k) := by simp [thM, List.range_succ]
theorem t1M_succ (A B a b c T) : upd2 (t1M A B a b c T) a c (T a c || B b c) = t1M A B a b (c + 1) T := by
  funext i j
  unfold upd2 t1M
  by_cases h : i = a ∧ j = c
  · obtain ⟨rfl, rfl⟩ := h; rw [if_pos ⟨rfl, rfl⟩, if_pos ⟨rfl, by omega⟩]
  · rw [if_neg h]
    by_cases h2 : i = a ∧ j < c
    · rw [if_pos h2, if_pos (by omega)]
    · rw [if_neg h2, if_neg (by omega)]
theorem t1M_at (A B a b c T) : t1M A B a b c T a c = T a c := by unfold t1M; rw [if_neg (by omega)]
theorem t1M_0 (A B a b T) : t1M A B a b 0 T = T := by funext i j; unfold t1M; rw [if_neg (by omega)]
set_option maxRecDepth 100000 in
set_option maxHeartbeats 4000000 in
theorem sp_mthen (h : F 32 = some A_xref01_R_Then) (h27 : F 27 = some A_xref01_New) {n m : Nat} (hn : n ≤ 40) (hm : m ≤ 40) (A B : Mx) : pureS F 32 [.ptr (matC n A), .ptr (matC m B)] = some (.ptr (matC (max n m) (thM A B (max n m) (max n m)))) := by
  refine pure_of_thaw h (matC_flat _ _) ?_
  have hN : max n m ≤ 40 := by omega
  simp (disch := omega) only [A_xref01_R_Then, wp, Nat.reduceAdd, Nat.reduceMul, Nat.reduceSub, ml, maxI, thaw27 h27]
  generalize max n m = N at hN
  refine W_loop (fun q e g => ∃ a, q = N - a ∧ a ≤ N ∧ e 0 = .ptr (matC n A) ∧ e 1 = .ptr (matC m B) ∧ e 5 = .mp 10 0 ∧ e 6 = .i .i64 a ∧ g.hp 10 = some (.cells (matC N (thM A B N a)) false) ∧ 10 < g.nx) N ?_ ?_
  · refine ⟨0, rfl, Nat.zero_le _, ?_⟩
    simp (disch := omega) only [wp, Nat.reduceAdd, Nat.reduceMul, Nat.reduceSub]
    exact ⟨rfl, rfl, by first | omega | (dsimp only; omega)⟩
  · rintro q e g ⟨a, rfl, ha, h0, h1, h5, h6, hg, hnx⟩
    by_cases ha' : a < N
    · have ha1 : (a : Int) < N := by omega
      have hwa := succ_wrap (k := a) (by omega)
      simp (disch := omega) only [wp, Nat.reduceAdd, Nat.reduceMul, Nat.reduceSub, ml, h0, h1, h5, h6, hg, ha1]
      refine W_loop (fun q e g => ∃ b, q = N - b ∧ b ≤ N ∧ e 0 = .ptr (matC n A) ∧ e 1 = .ptr (matC m B) ∧ e 5 = .mp 10 0 ∧ e 6 = .i .i64 a ∧ e 7 = .i .i64 b ∧ g.hp 10 = some (.cells (matC N (t3M A B N a b (thM A B N a))) false) ∧ 10 < g.nx) N ?_ ?_
      · refine ⟨0, rfl, Nat.zero_le _, ?_⟩
        simp (disch := omega) only [wp, Nat.reduceAdd, Nat.reduceMul, Nat.reduceSub, h0, h1, h5, h6, hg]
        exact ⟨rfl, rfl, by first | omega | (dsimp only; omega)⟩
      · rintro q e g ⟨b, rfl, hb, h0, h1, h5, h6, h7, hg, hnx⟩
        by_cases hb' : b < N
        · have hb1 : (b : Int) < N := by omega
          have hwb := succ_wrap (k := b) (by omega)
          have hs := t3M_succ A B N a b (thM A B N a)
          generalize t3M A B N a b (thM A B N a) = T at hg hs
          cases hA : A a b with
          | true =>
            rw [t2M, if_pos hA] at hs
            simp (disch := omega) only [wp, Nat.reduceAdd, Nat.reduceMul, Nat.reduceSub, ml, h0, h1, h5, h6, h7, hg, hb1]
            refine W_loop (fun q e g => ∃ c, q = N - c ∧ c ≤ N ∧ e 0 = .ptr (matC n A) ∧ e 1 = .ptr (matC m B) ∧ e 5 = .mp 10 0 ∧ e 6 = .i .i64 a ∧ e 7 = .i .i64 b ∧ e 8 = .i .i64 c ∧ g.hp 10 = some (.cells (matC N (t1M A B a b c T)) false) ∧ 10 < g.nx) N ?_ ?_
            · refine ⟨0, rfl, Nat.zero_le _, ?_⟩
              simp (disch := omega) only [wp, Nat.reduceAdd, Nat.reduceMul, Nat.reduceSub, h0, h1, h5, h6, h7, hg, t1M_0]
              exact ⟨rfl, by first | omega | (dsimp only; omega)⟩
            · rintro q e g ⟨c, rfl, hc, h0, h1, h5, h6, h7, h8, hg, hnx⟩
              by_cases hc' : c < N
              · have hc1 : (c : Int) < N := by omega
                have hwc := succ_wrap (k := c) (by omega)
                have hs1 := t1M_succ A B a b c T
                have hat := t1M_at A B a b c T
                cases hT : T a c with
                | true =>
                  rw [hT] at hat hs1
                  simp only [Bool.true_or] at hs1
                  simp (disch := omega) only [wp, Nat.reduceAdd, Nat.reduceMul, Nat.reduceSub, ml, h0, h1, h5, h6, h7, h8, hg, hc1, hA, hat, hwc, hs1]
                  exact ⟨N - (c + 1), by omega, c + 1, rfl, by omega, rfl, rfl, by first | omega | (dsimp only; omega)⟩
                | false =>
                  rw [hT] at hat hs1
                  simp only [Bool.false_or] at hs1
                  simp (disch := omega) only [wp, Nat.reduceAdd, Nat.reduceMul, Nat.reduceSub, ml, h0, h1, h5, h6, h7, h8, hg, hc1, hA, hat, hwc, hs1]
                  exact ⟨N - (c + 1), by omega, c + 1, rfl, by omega, rfl, rfl, by first | omega | (dsimp only; omega)⟩
              · obtain rfl : c = N := by omega
                have hc1 : ¬ ((c : Int) < c) := by omega
                rw [← hs] at hg
                simp (disch := omega) only [wp, Nat.reduceAdd, Nat.reduceMul, Nat.reduceSub, ml, h0, h1, h5, h6, h7, h8, hg, hc1, hwb]
                exact ⟨c - (b + 1), by omega, b + 1, rfl, by omega, rfl, rfl, by first | omega | (dsimp only; omega)⟩
          | false =>
            rw [t2M, if_neg (by rw [hA]; simp)] at hs
            have h0N : (0 : Int) < N := by omega
            have hA0 : part (((matR A).drop (a * 40)).drop (b * 1)) 0 none = some (.b false) := by rw [matR_at (by omega), hA]
            simp (disch := omega) only [wp, Nat.reduceAdd, Nat.reduceMul, Nat.reduceSub, ml, h0, h1, h5, h6, h7, hg, hb1]
            refine W_loop (fun q e g => e 0 = .ptr (matC n A) ∧ e 1 = .ptr (matC m B) ∧ e 5 = .mp 10 0 ∧ e 6 = .i .i64 a ∧ e 7 = .i .i64 b ∧ e 8 = .i .i64 0 ∧ g.hp 10 = some (.cells (matC N T) false) ∧ 10 < g.nx) 0 ?_ ?_
            · simp (disch := omega) only [wp, Nat.reduceAdd, Nat.reduceMul, Nat.reduceSub, h0, h1, h5, h6, h7, hg]
              first | omega | (dsimp only; omega)
            · rintro q e g ⟨h0, h1, h5, h6, h7, h8, hg, hnx⟩
              rw [← hs] at hg
              simp (disch := omega) only [wp, Nat.reduceAdd, Nat.reduceMul, Nat.reduceSub, ml, h0, h1, h5, h6, h7, h8, hg, h0N, hA, hwb]
              exact ⟨N - (b + 1), by omega, b + 1, rfl, by omega, rfl, rfl, by first | omega | (dsimp only; omega)⟩
        · obtain rfl : b = N := by omega
          have hb1 : ¬ ((b : Int) < b) := by omega
          rw [← thM_succ] at hg
          simp (disch := omega) only [wp, Nat.reduceAdd, Nat.reduceMul, Nat.reduceSub, ml, h0, h1, h5, h6, h7, hg, hb1, hwa]
          exact ⟨b - (a + 1), by omega, a + 1, rfl, by omega, rfl, rfl, by first | omega | (dsimp only; omega)⟩
    · obtain rfl : a = N := by omega
      have ha1 : ¬ ((a : Int) < a) := by omega
      simp (disch := omega) only [wp, Nat.reduceAdd, Nat.reduceMul, Nat.reduceSub, ml, h0, h1, h5, h6, hg, ha1]
      exact ⟨10, rfl, hg⟩
def bkM (A : Mx) (N a b : Nat) : Mx := fun i j => if (j < a ∧ i < N) ∨ (j = a ∧ i < b) then A j i else false
theorem bkM_succ (A N a b) : upd2 (bkM A N a b) b a (A a b) = bkM A N a (b + 1) := by
  funext i j
  unfold upd2 bkM
  by_cases h : i = b ∧ j = a
  · obtain ⟨rfl, rfl⟩ := h
    rw [if_pos ⟨rfl, rfl⟩, if_pos (.inr ⟨rfl, by omega⟩)]
  · rw [if_neg h]
    by_cases h2 : (j < a ∧ i < N) ∨ (j = a ∧ i < b)
    · rw [if_pos h2, if_pos (by omega)]
    · rw [if_neg h2, if_neg (by omega)]
theorem bkM_row (A N a) : bkM A N a N = bkM A N (a + 1) 0 := by
  funext i j
  unfold bkM
  by_cases h2 : (j < a ∧ i < N) ∨ (j = a ∧ i < N)
  · rw [if_pos h2, if_pos (by omega)]
  · rw [if_neg h2, if_neg (by omega)]
theorem bkM_0 (A N) : bkM A N 0 0 = fun _ _ => false := by
  funext i j
  unfold bkM
  rw [if_neg (by omega)]
set_option maxRecDepth 100000 in
set_option maxHeartbeats 4000000 in
theorem sp_mback (h : F 33 = some A_xref01_R_Back) (h27 : F 27 = some A_xref01_New) {n : Nat} (hn : n ≤ 40) (A : Mx) : pureS F 33 [.ptr (matC n A)] = some (.ptr (matC n (bkM A n n 0))) := by
  refine pure_of_thaw h (matC_flat _ _) ?_
  simp (disch := omega) only [A_xref01_R_Back, wp, Nat.reduceAdd, Nat.reduceMul, Nat.reduceSub, ml, thaw27 h27]
  refine W_loop (fun q e g => ∃ a, q = n - a ∧ a ≤ n ∧ e 0 = .ptr (matC n A) ∧ e 3 = .mp 5 0 ∧ e 4 = .i .i64 a ∧ g.hp 5 = some (.cells (matC n (bkM A n a 0)) false) ∧ 5 < g.nx) n ?_ ?_
  · refine ⟨0, rfl, Nat.zero_le _, ?_⟩
    simp (disch := omega) only [wp, Nat.reduceAdd, Nat.reduceMul, Nat.reduceSub, bkM_0]
    exact ⟨rfl, by first | omega | (dsimp only; omega)⟩
  · rintro q e g ⟨a, rfl, ha, h0, h3, h4, hg, hnx⟩
    by_cases ha' : a < n
    · have ha1 : (a : Int) < n := by omega
      have hwa := succ_wrap (k := a) (by omega)
      simp (disch := omega) only [wp, Nat.reduceAdd, Nat.reduceMul, Nat.reduceSub, ml, h0, h3, h4, hg, ha1]
      refine W_loop (fun q e g => ∃ b, q = n - b ∧ b ≤ n ∧ e 0 = .ptr (matC n A) ∧ e 3 = .mp 5 0 ∧ e 4 = .i .i64 a ∧ e 5 = .i .i64 b ∧ g.hp 5 = some (.cells (matC n (bkM A n a b)) false) ∧ 5 < g.nx) n ?_ ?_
      · refine ⟨0, rfl, Nat.zero_le _, ?_⟩
        simp (disch := omega) only [wp, Nat.reduceAdd, Nat.reduceMul, Nat.reduceSub, h0, h3, h4, hg]
        exact ⟨rfl, by first | omega | (dsimp only; omega)⟩
      · rintro q e g ⟨b, rfl, hb, h0, h3, h4, h5, hg, hnx⟩
        by_cases hb' : b < n
        · have hb1 : (b : Int) < n := by omega
          have hwb := succ_wrap (k := b) (by omega)
          have hs := bkM_succ A n a b
          simp (disch := omega) only [wp, Nat.reduceAdd, Nat.reduceMul, Nat.reduceSub, ml, h0, h3, h4, h5, hg, hb1, hwb, hs]
          exact ⟨n - (b + 1), by omega, b + 1, rfl, by omega, rfl, rfl, by first | omega | (dsimp only; omega)⟩
        · obtain rfl : b = n := by omega
          have hb1 : ¬ ((b : Int) < b) := by omega
          rw [bkM_row] at hg
          simp (disch := omega) only [wp, Nat.reduceAdd, Nat.reduceMul, Nat.reduceSub, ml, h0, h3, h4, h5, hg, hb1, hwa]
          exact ⟨b - (a + 1), by omega, a + 1, rfl, by omega, rfl, rfl, by first | omega | (dsimp only; omega)⟩
    · obtain rfl : a = n := by omega
      have ha1 : ¬ ((a : Int) < a) := by omega
      simp (disch := omega) only [wp, Nat.reduceAdd, Nat.reduceMul, Nat.reduceSub, ml, h0, h3, h4, hg, ha1]
      exact ⟨5, rfl, hg⟩
def mbM (A : Mx) (k : Nat) : Mx := fun i j => A i j || decide (i < k ∧ i = j)
theorem mbM_succ (A k) : upd2 (mbM A k) k k true = mbM A (k + 1) := by
  funext i j
  unfold upd2 mbM
  by_cases h : i = k ∧ j = k
  · obtain ⟨rfl, rfl⟩ := h; rw [if_pos ⟨rfl, rfl⟩]; simp
  · rw [if_neg h]
    congr 1
    rw [decide_eq_decide]; omega
theorem mbM_0 (A) : mbM A 0 = A := by funext i j; simp [mbM]
set_option maxRecDepth 100000 in
set_option maxHeartbeats 4000000 in
theorem sp_mmaybe (h : F 35 = some A_xref01_R_Maybe) (h27 : F 27 = some A_xref01_New) {n : Nat} (hn : n ≤ 40) (A : Mx) : pureS F 35 [.ptr (matC n A)] = some (.ptr (matC n (mbM A n))) := by
  refine pure_of_thaw h (matC_flat _ _) ?_
  simp (disch := omega) only [A_xref01_R_Maybe, wp, Nat.reduceAdd, Nat.reduceMul, Nat.reduceSub, ml, thaw27 h27]
  refine W_loop (fun q e g => ∃ a, q = n - a ∧ a ≤ n ∧ e 3 = .mp 5 0 ∧ e 4 = .i .i64 a ∧ g.hp 5 = some (.cells (matC n (mbM A a)) false) ∧ 5 < g.nx) n ?_ ?_
  · refine ⟨0, rfl, Nat.zero_le _, ?_⟩
    simp (disch := omega) only [wp, Nat.reduceAdd, Nat.reduceMul, Nat.reduceSub, mbM_0]
    exact ⟨rfl, by first | omega | (dsimp only; omega)⟩
  · rintro q e g ⟨a, rfl, ha, h3, h4, hg, hnx⟩
    by_cases ha' : a < n
    · have ha1 : (a : Int) < n := by omega
      have hwa := succ_wrap (k := a) (by omega)
      have hs := mbM_succ A a
      simp (disch := omega) only [wp, Nat.reduceAdd, Nat.reduceMul, Nat.reduceSub, ml, h3, h4, hg, ha1, hwa, hs]
      exact ⟨n - (a + 1), by omega, a + 1, rfl, by omega, rfl, rfl, by first | omega | (dsimp only; omega)⟩
    · obtain rfl : a = n := by omega
      have ha1 : ¬ ((a : Int) < a) := by omega
      simp (disch := omega) only [wp, Nat.reduceAdd, Nat.reduceMul, Nat.reduceSub, ml, h3, h4, hg, ha1]
      exact ⟨5, rfl, hg⟩
end Go.Ab
end
section
set_option linter.unusedVariables false
set_option linter.unusedSimpArgs false
namespace Go.Ab
variable {F : Funs}
def p1M (k a c : Nat) (T : Mx) : Mx := fun i j => if i = a ∧ j < c then T i j || T k j else T i j
def p2M (N k : Nat) (T : Mx) (a : Nat) : Mx := if T a k then p1M k a N T else T
def p3M (N k m : Nat) (T : Mx) : Mx := (List.range m).foldl (p2M N k) T
def plM (N : Nat) (A : Mx) (m : Nat) : Mx := (List.range m).foldl (fun T k => p3M N k N T) A
theorem p3M_succ (N k m T) : p3M N k (m + 1) T = p2M N k (p3M N k m T) m := by simp [p3M, List.range_succ]
theorem plM_succ (N A m) : plM N A (m + 1) = p3M N m N (plM N A m) := by simp [plM, List.range_succ]
theorem p1M_succ (k a c T) : upd2 (p1M k a c T) a c (T a c || T k c) = p1M k a (c + 1) T := by
  funext i j
  unfold upd2 p1M
  by_cases h : i = a ∧ j = c
  · obtain ⟨rfl, rfl⟩ := h; rw [if_pos ⟨rfl, rfl⟩, if_pos ⟨rfl, by omega⟩]
  · rw [if_neg h]
    by_cases h2 : i = a ∧ j < c
    · rw [if_pos h2, if_pos (by omega)]
    · rw [if_neg h2, if_neg (by omega)]
theorem p1M_at (k a c T) : p1M k a c T a c = T a c := by unfold p1M; rw [if_neg (by omega)]
theorem p1M_k (k a c T) : p1M k a c T k c = T k c := by unfold p1M; rw [if_neg (by omega)]
theorem p1M_cond {k a c T} (h : T a k = true) : p1M k a c T a k = true := by unfold p1M; split <;> simp [h]
theorem p1M_0 (k a T) : p1M k a 0 T = T := by funext i j; unfold p1M; rw [if_neg (by omega)]
set_option maxRecDepth 100000 in
set_option maxHeartbeats 4000000 in
theorem sp_mplus (h : F 34 = some A_xref01_R_Plus) (h27 : F 27 = some A_xref01_New) {N : Nat} (hN : N ≤ 40) (A : Mx) : pureS F 34 [.ptr (matC N A)] = some (.ptr (matC N (plM N A N))) := by
  refine pure_of_thaw h (matC_flat _ _) ?_
  simp (disch := omega) only [A_xref01_R_Plus, wp, Nat.reduceAdd, Nat.reduceMul, Nat.reduceSub, ml, thaw27 h27]
  refine W_loop (fun q e g => ∃ k, q = N - k ∧ k ≤ N ∧ e 3 = .mp 5 0 ∧ e 4 = .i .i64 k ∧ g.hp 5 = some (.cells (matC N (plM N A k)) false) ∧ 5 < g.nx) N ?_ ?_
  · refine ⟨0, rfl, Nat.zero_le _, ?_⟩
    simp (disch := omega) only [wp, Nat.reduceAdd, Nat.reduceMul, Nat.reduceSub]
    exact ⟨rfl, rfl, by first | omega | (dsimp only; omega)⟩
  · rintro q e g ⟨k, rfl, hk, h3, h4, hg, hnx⟩
    by_cases hk' : k < N
    · have hk1 : (k : Int) < N := by omega
      have hwk := succ_wrap (k := k) (by omega)
      simp (disch := omega) only [wp, Nat.reduceAdd, Nat.reduceMul, Nat.reduceSub, ml, h3, h4, hg, hk1]
      refine W_loop (fun q e g => ∃ a, q = N - a ∧ a ≤ N ∧ e 3 = .mp 5 0 ∧ e 4 = .i .i64 k ∧ e 5 = .i .i64 a ∧ g.hp 5 = some (.cells (matC N (p3M N k a (plM N A k))) false) ∧ 5 < g.nx) N ?_ ?_
      · refine ⟨0, rfl, Nat.zero_le _, ?_⟩
        simp (disch := omega) only [wp, Nat.reduceAdd, Nat.reduceMul, Nat.reduceSub, h3, h4, hg]
        exact ⟨rfl, rfl, by first | omega | (dsimp only; omega)⟩
      · rintro q e g ⟨a, rfl, ha, h3, h4, h5, hg, hnx⟩
        by_cases ha' : a < N
        · have ha1 : (a : Int) < N := by omega
          have hwa := succ_wrap (k := a) (by omega)
          have hs := p3M_succ N k a (plM N A k)
          generalize p3M N k a (plM N A k) = T at hg hs
          cases hA : T a k with
          | true =>
            rw [p2M, if_pos hA] at hs
            simp (disch := omega) only [wp, Nat.reduceAdd, Nat.reduceMul, Nat.reduceSub, ml, h3, h4, h5, hg, ha1]
            refine W_loop (fun q e g => ∃ c, q = N - c ∧ c ≤ N ∧ e 3 = .mp 5 0 ∧ e 4 = .i .i64 k ∧ e 5 = .i .i64 a ∧ e 6 = .i .i64 c ∧ g.hp 5 = some (.cells (matC N (p1M k a c T)) false) ∧ 5 < g.nx) N ?_ ?_
            · refine ⟨0, rfl, Nat.zero_le _, ?_⟩
              simp (disch := omega) only [wp, Nat.reduceAdd, Nat.reduceMul, Nat.reduceSub, h3, h4, h5, hg, p1M_0]
              exact ⟨rfl, by first | omega | (dsimp only; omega)⟩
            · rintro q e g ⟨c, rfl, hc, h3, h4, h5, h6, hg, hnx⟩
              by_cases hc' : c < N
              · have hc1 : (c : Int) < N := by omega
                have hwc := succ_wrap (k := c) (by omega)
                have hs1 := p1M_succ k a c T
                have hat := p1M_at k a c T
                have hkc := p1M_k k a c T
                have hco := p1M_cond (c := c) hA
                generalize p1M k a c T = M at hg hs1 hat hkc hco
                cases hT : T a c with
                | true =>
                  rw [hT] at hat hs1
                  simp only [Bool.true_or] at hs1
                  simp (disch := omega) only [wp, Nat.reduceAdd, Nat.reduceMul, Nat.reduceSub, ml, h3, h4, h5, h6, hg, hc1, hco, hat, hwc, hs1]
                  exact ⟨N - (c + 1), by omega, c + 1, rfl, by omega, rfl, rfl, by first | omega | (dsimp only; omega)⟩
                | false =>
                  rw [hT] at hat hs1
                  simp only [Bool.false_or] at hs1
                  simp (disch := omega) only [wp, Nat.reduceAdd, Nat.reduceMul, Nat.reduceSub, ml, h3, h4, h5, h6, hg, hc1, hco, hat, hkc, hwc, hs1]
                  exact ⟨N - (c + 1), by omega, c + 1, rfl, by omega, rfl, rfl, by first | omega | (dsimp only; omega)⟩
              · obtain rfl : c = N := by omega
                have hc1 : ¬ ((c : Int) < c) := by omega
                rw [← hs] at hg
                simp (disch := omega) only [wp, Nat.reduceAdd, Nat.reduceMul, Nat.reduceSub, ml, h3, h4, h5, h6, hg, hc1, hwa]
                exact ⟨c - (a + 1), by omega, a + 1, rfl, by omega, rfl, rfl, by first | omega | (dsimp only; omega)⟩
          | false =>
            rw [p2M, if_neg (by rw [hA]; simp)] at hs
            have h0N : (0 : Int) < N := by omega
            simp (disch := omega) only [wp, Nat.reduceAdd, Nat.reduceMul, Nat.reduceSub, ml, h3, h4, h5, hg, ha1]
            refine W_loop (fun q e g => e 3 = .mp 5 0 ∧ e 4 = .i .i64 k ∧ e 5 = .i .i64 a ∧ e 6 = .i .i64 0 ∧ g.hp 5 = some (.cells (matC N T) false) ∧ 5 < g.nx) 0 ?_ ?_
            · simp (disch := omega) only [wp, Nat.reduceAdd, Nat.reduceMul, Nat.reduceSub, h3, h4, h5, hg]
              first | omega | (dsimp only; omega)
            · rintro q e g ⟨h3, h4, h5, h6, hg, hnx⟩
              simp (disch := omega) only [wp, Nat.reduceAdd, Nat.reduceMul, Nat.reduceSub, ml, h3, h4, h5, h6, hg, h0N, hA, hwa]
              exact ⟨N - (a + 1), by omega, a + 1, rfl, by omega, rfl, by rw [hs], by first | omega | (dsimp only; omega)⟩
        · obtain rfl : a = N := by omega
          have ha1 : ¬ ((a : Int) < a) := by omega
          rw [← plM_succ] at hg
          simp (disch := omega) only [wp, Nat.reduceAdd, Nat.reduceMul, Nat.reduceSub, ml, h3, h4, h5, hg, ha1, hwk]
          exact ⟨a - (k + 1), by omega, k + 1, rfl, by omega, rfl, rfl, by first | omega | (dsimp only; omega)⟩
    · obtain rfl : k = N := by omega
      have hk1 : ¬ ((k : Int) < k) := by omega
      simp (disch := omega) only [wp, Nat.reduceAdd, Nat.reduceMul, Nat.reduceSub, ml, h3, h4, hg, hk1]
      exact ⟨5, rfl, hg⟩
set_option maxRecDepth 100000 in
set_option maxHeartbeats 4000000 in
theorem sp_mpairs (h : F 56 = some A_xref01_R_Pairs) {n : Nat} (hn : n ≤ 40) (M : Mx) (R : Rw) (hM : ∀ a b : Nat, a < n → b < n → M a b = has n R a b) : pureS F 56 [.ptr (matC n M)] = some (.sl (pairsC (pairsR n R)) (pairsR n R).length .non) := by
  refine pure_of h ?_
  simp (disch := omega) only [A_xref01_R_Pairs, wp, Nat.reduceAdd, Nat.reduceMul, Nat.reduceSub, ml]
  refine W_loop (fun m e g => ∃ k t, m = n - k ∧ k ≤ n ∧ e 0 = .ptr (matC n M) ∧ e 4 = .i .i64 k ∧ e 3 = .sl (pairsC (pairsK n k R)) (pairsK n k R).length t ∧ Live g 2 t ∧ (pairsK n k R).length ≤ 40 * k) n ?_ ?_
  · refine ⟨0, .rig, rfl, Nat.zero_le _, ?_⟩
    simp (disch := omega) only [wp, Nat.reduceAdd, Nat.reduceMul, Nat.reduceSub]
    exact ⟨rfl, rfl, .inl rfl, Nat.zero_le _⟩
  · rintro m e g ⟨k, t, rfl, hk, h0, h4, h3, ht, hl⟩
    by_cases hk' : k < n
    · have hk1 : (k : Int) < n := by omega
      have hw := succ_wrap (k := k) (by omega)
      simp (disch := omega) only [wp, Nat.reduceAdd, Nat.reduceMul, Nat.reduceSub, ml, h0, h4, h3, hk1]
      refine W_loop (fun m e g => ∃ j t, m = n - j ∧ j ≤ n ∧ e 0 = .ptr (matC n M) ∧ e 4 = .i .i64 k ∧ e 5 = .i .i64 j ∧ e 3 = .sl (pairsC (partL n k j R)) (partL n k j R).length t ∧ Live g 2 t ∧ (partL n k j R).length ≤ 40 * k + j) n ?_ ?_
      · refine ⟨0, t, rfl, Nat.zero_le _, ?_⟩
        simp (disch := omega) only [wp, Nat.reduceAdd, Nat.reduceMul, Nat.reduceSub, h0, h4, h3]
        rw [partL_0]
        refine ⟨rfl, rfl, ?_, by omega⟩
        rcases ht with rfl | ⟨τ, rfl, hτ, hlt⟩
        · exact .inl rfl
        · exact .inr ⟨τ, rfl, hτ, Nat.lt_of_lt_of_le hlt (by dsimp only; omega)⟩
      · rintro m e g ⟨j, t, rfl, hj, h0, h4, h5, h3, ht, hl⟩
        have hLn := partL_succ n k j R
        by_cases hj' : j < n
        · have hj1 : (j : Int) < n := by omega
          have hwj := succ_wrap (k := j) (by omega)
          have hMh := hM k j hk' hj'
          by_cases hh : has n R k j = true
          · rw [if_pos hh] at hLn
            rw [hh] at hMh
            rcases ht with rfl | ⟨τ, rfl, hτ, hlt⟩
            · simp (disch := omega) only [wp, Nat.reduceAdd, Nat.reduceMul, Nat.reduceSub, ml, h0, h4, h5, h3, hj1, hMh, hwj, pairsC_len]
              refine ⟨n - (j + 1), ?_, j + 1, ?_⟩
              · omega
              · rw [hLn, pairsC_app, pairsC_one, List.length_append]
                exact ⟨_, rfl, by omega, rfl, rfl, .inr ⟨_, rfl, upd_same _ _ _, by dsimp only; omega⟩, by simp; omega⟩
            · simp (disch := omega) only [wp, Nat.reduceAdd, Nat.reduceMul, Nat.reduceSub, ml, h0, h4, h5, h3, hj1, hMh, hwj, pairsC_len, hτ]
              refine ⟨n - (j + 1), ?_, j + 1, ?_⟩
              · omega
              · rw [hLn, pairsC_app, pairsC_one, List.length_append]
                exact ⟨_, rfl, by omega, rfl, rfl, .inr ⟨_, rfl, upd_same _ _ _, by dsimp only; omega⟩, by simp; omega⟩
          · rw [if_neg hh] at hLn
            rw [Bool.not_eq_true] at hh
            rw [hh] at hMh
            simp (disch := omega) only [wp, Nat.reduceAdd, Nat.reduceMul, Nat.reduceSub, ml, h0, h4, h5, h3, hj1, hMh, hwj]
            refine ⟨_, ?_, j + 1, t, rfl, by omega, rfl, ?_⟩
            · omega
            · rw [hLn]
              refine ⟨rfl, ?_, by omega⟩
              rcases ht with rfl | ⟨τ, rfl, hτ, hlt⟩
              · exact .inl rfl
              · exact .inr ⟨τ, rfl, hτ, Nat.lt_of_lt_of_le hlt (by dsimp only; omega)⟩
        · obtain rfl : j = n := by omega
          have hj1 : ¬ ((j : Int) < j) := by omega
          simp (disch := omega) only [wp, Nat.reduceAdd, Nat.reduceMul, Nat.reduceSub, ml, h0, h4, h5, h3, hj1, hw]
          refine ⟨_, ?_, k + 1, t, rfl, by omega, rfl, ?_⟩
          · omega
          · rw [← partL_n]
            refine ⟨rfl, ?_, by omega⟩
            rcases ht with rfl | ⟨τ, rfl, hτ, hlt⟩
            · exact .inl rfl
            · exact .inr ⟨τ, rfl, hτ, Nat.lt_of_lt_of_le hlt (by dsimp only; omega)⟩
    · obtain rfl : k = n := by omega
      have hk1 : ¬ ((k : Int) < k) := by omega
      simp (disch := omega) only [wp, Nat.reduceAdd, Nat.reduceMul, Nat.reduceSub, ml, h0, h4, h3, hk1]
      rfl
set_option maxRecDepth 100000 in
set_option maxHeartbeats 4000000 in
theorem sp_samePairs (h : F 55 = some A_xref01_SamePairs) (l : List (Int × Int)) (hl : l.length < 9000000000000000000) (t t' : Tok) : pureS F 55 [.sl (pairsC l) l.length t, .sl (pairsC l) l.length t'] = some (.b true) := by
  refine pure_of h ?_
  simp (disch := omega) only [A_xref01_SamePairs, wp, Nat.reduceAdd, Nat.reduceMul, Nat.reduceSub, bne_self_eq_false]
  refine W_loop (fun m e g => ∃ k, m = l.length - k ∧ k ≤ l.length ∧ e 0 = .sl (pairsC l) l.length t ∧ e 1 = .sl (pairsC l) l.length t' ∧ e 5 = .i .i64 k) l.length ?_ ?_
  · refine ⟨0, rfl, Nat.zero_le _, ?_⟩
    simp (disch := omega) only [wp, Nat.reduceAdd, Nat.reduceMul, Nat.reduceSub]
    rfl
  · rintro m e g ⟨k, rfl, hk, h0, h1, h5⟩
    by_cases hk' : k < l.length
    · have hk1 : (k : Int) < l.length := by omega
      have hw := succ_wrap (k := k) (by omega)
      have hpa := pairs_a hk'
      have hpb := pairs_b hk'
      simp (disch := omega) only [wp, Nat.reduceAdd, Nat.reduceMul, Nat.reduceSub, h0, h1, h5, hk1, hpa, hpb, List.length_drop, pairsC_len, bne_self_eq_false, hw]
      exact ⟨l.length - (k + 1), by omega, k + 1, rfl, by omega, rfl⟩
    · obtain rfl : k = l.length := by omega
      have hk1 : ¬ ((l.length : Int) < l.length) := by omega
      simp (disch := omega) only [wp, Nat.reduceAdd, Nat.reduceMul, Nat.reduceSub, h0, h1, h5, hk1]
set_option maxRecDepth 100000 in
set_option maxHeartbeats 1000000 in
theorem sp_mloops (h : F 37 = some A_xref01_R_Loops) (h34 : F 34 = some A_xref01_R_Plus) (h27 : F 27 = some A_xref01_New) {n : Nat} (hn : n ≤ 40) (M : Mx) : pureS F 37 [.ptr (matC n M)] = some (.b ((List.range n).any fun a => plM n M n a a)) := by
  refine pure_of h ?_
  simp (disch := omega) only [A_xref01_R_Loops, wp, Nat.reduceAdd, Nat.reduceMul, Nat.reduceSub, ml, sp_mplus h34 h27 hn]
  generalize plM n M n = T
  refine W_loop (fun m e g => ∃ k, m = n - k ∧ k ≤ n ∧ e 3 = .ptr (matC n T) ∧ e 4 = .i .i64 k ∧ ∀ a, a < k → T a a = false) n ?_ ?_
  · refine ⟨0, rfl, Nat.zero_le _, ?_⟩
    simp (disch := omega) only [wp, Nat.reduceAdd, Nat.reduceMul, Nat.reduceSub]
    exact ⟨rfl, fun a ha => absurd ha (Nat.not_lt_zero _)⟩
  · rintro m e g ⟨k, rfl, hk, h3, h4, hall⟩
    by_cases hk' : k < n
    · have hk1 : (k : Int) < n := by omega
      have hw := succ_wrap (k := k) (by omega)
      cases hh : T k k with
      | true =>
        simp (disch := omega) only [wp, Nat.reduceAdd, Nat.reduceMul, Nat.reduceSub, ml, h3, h4, hk1, hw, hh]
        have : (List.range n).any (fun a => T a a) = true := List.any_eq_true.2 ⟨k, List.mem_range.2 hk', hh⟩
        rw [this]
      | false =>
        simp (disch := omega) only [wp, Nat.reduceAdd, Nat.reduceMul, Nat.reduceSub, ml, h3, h4, hk1, hw, hh]
        refine ⟨n - (k + 1), by omega, k + 1, rfl, by omega, rfl, fun a ha => ?_⟩
        by_cases hak : a = k
        · subst hak; exact hh
        · exact hall a (by omega)
    · obtain rfl : k = n := by omega
      have hk1 : ¬ ((k : Int) < k) := by omega
      simp (disch := omega) only [wp, Nat.reduceAdd, Nat.reduceMul, Nat.reduceSub, ml, h3, h4, hk1]
      have : (List.range k).any (fun a => T a a) = false := List.any_eq_false.2 fun a ha => by rw [hall a (List.mem_range.1 ha)]; simp
      rw [this]
end Go.Ab
end
section
set_option linter.unusedVariables false
set_option linter.unusedSimpArgs false
namespace Go.Ab
variable {F : Funs}
def Eqv (A : Mx) (R : Rw) : Prop := ∀ a b, A a b = hb R a b
theorem upd2_get (M : Mx) (a b : Nat) (x : Bool) (i j : Nat) : upd2 M a b x i j = if i = a ∧ j = b then x else M i j := rfl
theorem eqv_new {n : Nat} (hn : n ≤ 40) (l : List (Int × Int)) : Eqv (newM n l) (newR n l) := by
  have key : ∀ (l : List (Int × Int)) (M : Mx) (R : Rw), Eqv M R → Eqv (l.foldl (addM n) M) (l.foldl (addR n) R) := by
    intro l
    induction l with
    | nil => intro M R h; exact h
    | cons p l ih =>
      intro M R h
      refine ih _ _ fun a b => ?_
      rw [hb_add hn]
      unfold addM
      by_cases hi : inR n p = true
      · rw [if_pos hi, upd2_get, hi]
        have hi' := hi
        simp only [inR, decide_eq_true_eq] at hi'
        by_cases h2 : a = p.1.toNat ∧ b = p.2.toNat
        · rw [if_pos h2]
          have : p = ((a : Int), (b : Int)) := by
            obtain ⟨x, y⟩ := p
            simp only at h2 hi'
            simp only [Prod.mk.injEq]; omega
          simp [this]
        · rw [if_neg h2, h a b]
          have : ¬ p = ((a : Int), (b : Int)) := by
            rintro rfl
            exact h2 ⟨by simp, by simp⟩
          simp [this]
      · rw [if_neg hi, h a b]
        simp only [Bool.not_eq_true] at hi
        simp [hi]
  exact key l _ _ fun a b => by rw [hb_zero]
def Same (n : Nat) (M : Mx) (R : Rw) : Prop := ∀ a b : Nat, a < n → b < n → M a b = has n R a b
theorem same_of {n : Nat} {M : Mx} {R : Rw} (h : ∀ a b, a < n → b < n → M a b = hb R a b) : Same n M R := fun a b ha hb' => by
  rw [h a b ha hb', has_N]
  simp [hN, ha, hb']
theorem opM_get (φ : Bool → Bool → Bool) (A B : Mx) (N a b : Nat) (ha : a < N) (hb' : b < N) : opM φ A B N a b = φ (A a b) (B a b) := by
  unfold opM stM; rw [if_pos (.inl ⟨ha, hb'⟩)]
theorem mback_get (A : Mx) (N a b : Nat) (ha : a < N) (hb' : b < N) : bkM A N N 0 a b = A b a := by
  unfold bkM; rw [if_pos (.inl ⟨hb', ha⟩)]
theorem t3M_get (A B : Mx) (N a k : Nat) (T : Mx) (i j : Nat) (hj : j < N) : t3M A B N a k T i j = (T i j || (decide (i = a) && (List.range k).any fun c => A a c && B c j)) := by
  induction k with
  | zero => simp [t3M]
  | succ k ih =>
    rw [t3M_succ, t2M, List.range_succ, List.any_append]
    cases hA : A a k with
    | true =>
      rw [if_pos rfl]
      unfold t1M
      by_cases hi : i = a
      · subst hi
        rw [if_pos ⟨rfl, hj⟩, ih]
        simp [hA, Bool.or_assoc]
      · rw [if_neg (fun h => hi h.1), ih]
        simp [hi]
    | false =>
      rw [if_neg (by simp), ih]
      simp [hA]
theorem thM_get (A B : Mx) (N k : Nat) (i j : Nat) (hj : j < N) : thM A B N k i j = (decide (i < k) && (List.range N).any fun c => A i c && B c j) := by
  induction k with
  | zero => simp [thM]
  | succ k ih =>
    rw [thM_succ, t3M_get _ _ _ _ _ _ _ _ hj, ih]
    by_cases hi : i = k
    · subst hi; simp
    · have : decide (i < k) = decide (i < k + 1) := by rw [decide_eq_decide]; omega
      rw [this]; simp [hi]
theorem p3M_get (N k m : Nat) (T : Mx) (i j : Nat) (hj : j < N) (hk : k < N) : p3M N k m T i j = (T i j || (decide (i < m) && T i k && T k j)) := by
  have key : ∀ m i j, p3M N k m T i j = (T i j || (decide (i < m) && decide (j < N) && T i k && T k j)) := by
    intro m
    induction m with
    | zero => intro i j; simp [p3M]
    | succ m ih =>
      intro i j
      rw [p3M_succ, p2M]
      have hmk : p3M N k m T m k = T m k := by rw [ih]; simp
      have hkj : ∀ j, p3M N k m T k j = T k j := fun j => by
        rw [ih]
        cases T k j <;> simp
      rw [hmk]
      cases hc : T m k with
      | true =>
        rw [if_pos rfl]
        unfold p1M
        by_cases hi : i = m
        · subst hi
          by_cases hjN : j < N
          · rw [if_pos ⟨rfl, hjN⟩, ih, hkj]
            simp [hjN, hc]
          · rw [if_neg (by omega), ih]
            simp [hjN]
        · rw [if_neg (fun h => hi h.1), ih]
          have : decide (i < m) = decide (i < m + 1) := by rw [decide_eq_decide]; omega
          rw [this]
      | false =>
        rw [if_neg (by simp), ih]
        by_cases hi : i = m
        · subst hi; simp [hc]
        · have : decide (i < m) = decide (i < m + 1) := by rw [decide_eq_decide]; omega
          rw [this]
  rw [key]; simp [hj]
theorem Wf.mono {n m : Nat} (h : n ≤ m) {R : Rw} (hR : Wf n R) : Wf m R := fun a b hh => by obtain ⟨h1, h2⟩ := hR a b hh; omega
end Go.Ab
end
section
set_option linter.unusedVariables false
set_option linter.unusedSimpArgs false
namespace Go.Ab
variable {F : Funs}
def EqN (n : Nat) (A : Mx) (R : Rw) : Prop := Wf n R ∧ ∀ a b, a < n → b < n → A a b = hb R a b
theorem EqN.same {n A R} (h : EqN n A R) : Same n A R := same_of h.2
theorem EqN.new {n : Nat} (hn : n ≤ 40) (l : List (Int × Int)) : EqN n (newM n l) (newR n l) := ⟨wf_new hn _, fun a b _ _ => eqv_new hn l a b⟩
section
variable {n : Nat} {A B : Mx} {R S : Rw}
theorem EqN.or (h : EqN n A R) (k : EqN n B S) : EqN n (opM (fun x y => x || y) A B n) (orR R S) :=
  ⟨wf_or h.1 k.1, fun a b ha hb' => by rw [opM_get _ _ _ _ _ _ ha hb', h.2 a b ha hb', k.2 a b ha hb', hb_or]⟩
theorem EqN.and (h : EqN n A R) (k : EqN n B S) : EqN n (opM (fun x y => x && y) A B n) (andR R S) :=
  ⟨wf_and h.1, fun a b ha hb' => by rw [opM_get _ _ _ _ _ _ ha hb', h.2 a b ha hb', k.2 a b ha hb', hb_and]⟩
theorem EqN.less (h : EqN n A R) (k : EqN n B S) : EqN n (opM (fun x y => x && !y) A B n) (lessR R S) :=
  ⟨wf_less h.1, fun a b ha hb' => by rw [opM_get _ _ _ _ _ _ ha hb', h.2 a b ha hb', k.2 a b ha hb', hb_less]⟩
theorem EqN.then (h : EqN n A R) (k : EqN n B S) : EqN n (thM A B n n) (thenR n R S) :=
  ⟨wf_then h.1 k.1, fun a b ha hb' => by
    rw [thM_get _ _ _ _ _ _ hb', Bool.eq_iff_iff, hb_then h.1, decide_eq_true ha, Bool.true_and, List.any_eq_true]
    constructor
    · rintro ⟨c, hc, hh⟩
      rw [h.2 a c ha (List.mem_range.1 hc), k.2 c b (List.mem_range.1 hc) hb', Bool.and_eq_true] at hh
      exact ⟨c, hh.1, hh.2⟩
    · rintro ⟨c, h1, h2⟩
      have hc := (h.1 a c h1).2
      exact ⟨c, List.mem_range.2 hc, by rw [h.2 a c ha hc, k.2 c b hc hb', h1, h2]; rfl⟩⟩
theorem plM_getN {N : Nat} {A : Mx} {R : Rw} (h : EqN N A R) : ∀ k, k ≤ N → ∀ i j, i < N → j < N → plM N A k i j = hb (plusK N k R) i j
  | 0, _, i, j, hi, hj => h.2 i j hi hj
  | k + 1, hk, i, j, hi, hj => by
    have ih := plM_getN h k (by omega)
    rw [plM_succ, p3M_get _ _ _ _ _ _ hj (by omega), plusK_succ, hb_rowP (by omega) _ (wf_plusK h.1 k (by omega)) N (Nat.le_refl _), ih i j hi hj, ih i k hi (by omega), ih k j (by omega) hj]
theorem EqN.plus (h : EqN n A R) : EqN n (plM n A n) (plusR n R) := ⟨wf_plus h.1, fun a b ha hb' => plM_getN h n (Nat.le_refl _) a b ha hb'⟩
theorem EqN.maybe (hn : n ≤ 40) (h : EqN n A R) : EqN n (mbM A n) (maybeK n R) :=
  ⟨wf_maybe hn h.1, fun a b ha hb' => by
    rw [hb_maybeK _ _ _ _ (by omega), ← h.2 a b ha hb']
    unfold mbM
    congr 1
    rw [Bool.eq_iff_iff]
    simp only [Bool.and_eq_true, decide_eq_true_eq]
    omega⟩
end
theorem none_pairs {n : Nat} (hn : n ≤ 40) {R : Rw} (hw : Wf n R) : (((pairsR n R).length : Int) == 0) = noneR R := by
  cases hc : noneR R with
  | true => exact pairs_none ((noneR_iff hn hw).1 hc)
  | false =>
    rw [Bool.eq_false_iff, ne_eq, beq_iff_eq]
    intro h0
    have h0 : (pairsR n R).length = 0 := by omega
    have hnil := List.eq_nil_of_length_eq_zero h0
    have : noneR R = true := (noneR_iff hn hw).2 fun a b => by
      cases hab : hb R a b with
      | false => rfl
      | true =>
        have : ((a : Int), (b : Int)) ∈ pairsR n R := mem_pairsR.2 ⟨a, b, rfl, by rw [hN_wf hw]; exact hab⟩
        rw [hnil] at this; cases this
    rw [hc] at this; cases this
set_option maxRecDepth 100000 in
theorem sp_minN (h : F 36 = some A_xref01_R_In) (h31 : F 31 = some A_xref01_R_Less) (h27 : F 27 = some A_xref01_New) (h56 : F 56 = some A_xref01_R_Pairs) {n : Nat} (hn : n ≤ 40) {A B : Mx} {R S : Rw} (hA : EqN n A R) (hB : EqN n B S) : pureS F 36 [.ptr (matC n A), .ptr (matC n B)] = some (.b (noneR (lessR R S))) := by
  refine pure_of h ?_
  have hs := (hA.less hB).same
  have e := none_pairs hn (hA.less hB).1
  simp (disch := omega) only [A_xref01_R_In, wp, Nat.reduceAdd, Nat.reduceMul, Nat.reduceSub, sp_mless h31 h27 hn hn, Nat.max_self, sp_mpairs h56 hn _ _ hs, e]
end Go.Ab
end
section
set_option linter.unusedVariables false
set_option linter.unusedSimpArgs false
namespace Go.Ab
variable {F : Funs}
def anyM (L : List (Int × Int)) : Mx := fun a b => L.any fun q => decide (q = ((a : Int), (b : Int)))
theorem anyM_add (L : List (Int × Int)) {a b : Int} (h0 : 0 ≤ a) (h1 : 0 ≤ b) : upd2 (anyM L) a.toNat b.toNat true = anyM (L ++ [(a, b)]) := by
  funext i j
  unfold upd2 anyM
  rw [List.any_append]
  by_cases h : i = a.toNat ∧ j = b.toNat
  · rw [if_pos h]
    have : decide ((a, b) = ((i : Int), (j : Int))) = true := by rw [decide_eq_true_eq, Prod.mk.injEq]; omega
    simp only [List.any_cons, List.any_nil, this, Bool.true_or, Bool.or_true]
  · rw [if_neg h]
    have : decide ((a, b) = ((i : Int), (j : Int))) = false := by rw [decide_eq_false_iff_not, Prod.mk.injEq]; omega
    simp only [List.any_cons, List.any_nil, this, Bool.or_false]
theorem anyM_mem {L : List (Int × Int)} {a b : Nat} : anyM L a b = true ↔ ((a : Int), (b : Int)) ∈ L := by
  unfold anyM
  rw [List.any_eq_true]
  constructor
  · rintro ⟨q, hq, h⟩; rw [decide_eq_true_eq] at h; rw [← h]; exact hq
  · intro h; exact ⟨_, h, by simp⟩
def rfL (X : Gr) (k : Nat) : List (Int × Int) := (List.range k).flatMap fun (i : Nat) => if 0 ≤ X.rf.getD i 0 then [(X.rf.getD i 0, (i : Int))] else []
theorem rfL_succ (X k) : rfL X (k + 1) = rfL X k ++ (if 0 ≤ X.rf.getD k 0 then [(X.rf.getD k 0, (k : Int))] else []) := by simp [rfL, List.range_succ]
set_option maxRecDepth 100000 in
set_option maxHeartbeats 4000000 in
theorem sp_mRf (h69 : F 69 = some A_xref09_Rf) (h27 : F 27 = some A_xref01_New) {X : Gr} (hn : X.evs.length ≤ 40) (hr : X.rf.length ≤ 40) (hw : ∀ i, i < X.rf.length → X.rf.getD i 0 < 40) : pureS F 69 [.agg (grC X)] = some (.ptr (matC X.evs.length (anyM (rfL X X.rf.length)))) := by
  refine pure_of_thaw h69 (matC_flat _ _) ?_
  simp (disch := omega) only [A_xref09_Rf, wp, Nat.reduceAdd, Nat.reduceMul, Nat.reduceSub, gl, ml, thaw27 h27]
  refine W_loop (fun q e g => ∃ k : Nat, q = X.rf.length - k ∧ k ≤ X.rf.length ∧ e 1 = .mp 0 0 ∧ e 3 = .mp 5 0 ∧ e 4 = .i .i64 k ∧ g.hp 0 = some (.cells (grC X) false) ∧ g.hp 5 = some (.cells (matC X.evs.length (anyM (rfL X k))) false) ∧ 5 < g.nx) X.rf.length ?_ ?_
  · refine ⟨0, rfl, Nat.zero_le _, ?_⟩
    simp (disch := omega) only [wp, Nat.reduceAdd, Nat.reduceMul, Nat.reduceSub]
    exact ⟨rfl, rfl, by first | omega | (dsimp only; omega)⟩
  · rintro q e g ⟨k, rfl, hk, e1, e3, e4, hg, hm, hnx⟩
    by_cases hk' : k < X.rf.length
    · have hk1 : (k : Int) < X.rf.length := by omega
      have hk40 : (k : Int) < 40 := by omega
      have hwk := succ_wrap (k := k) (by omega)
      have hp := ints_part hk'
      have hs := rfL_succ X k
      have hwb := hw k hk'
      generalize X.rf.getD k 0 = w at hp hs hwb
      generalize rfL X k = L at hm hs
      by_cases c1 : 0 ≤ w
      case neg =>
        rw [if_neg c1, List.append_nil] at hs
        simp (disch := omega) only [wp, Nat.reduceAdd, Nat.reduceMul, Nat.reduceSub, gl, ml, e1, e3, e4, hg, hm, hk1, hp, c1, hwk]
        exact ⟨X.rf.length - (k + 1), by omega, k + 1, rfl, by omega, rfl, by rw [hs], by first | omega | (dsimp only; omega)⟩
      rw [if_pos c1] at hs
      have hadd := anyM_add L c1 (b := (k : Int)) (by omega)
      rw [Int.toNat_natCast] at hadd
      have hset := matC_set (n := X.evs.length) (M := anyM L) (a := w.toNat) (b := k) (x := true) (by omega)
      rw [hadd, ← hs] at hset
      simp (disch := omega) only [wp, Nat.reduceAdd, Nat.reduceMul, Nat.reduceSub, gl, ml, e1, e3, e4, hg, hm, hk1, hp, c1, hwk, hset]
      exact ⟨X.rf.length - (k + 1), by omega, k + 1, rfl, by omega, rfl, rfl, by first | omega | (dsimp only; omega)⟩
    · obtain rfl : k = X.rf.length := by omega
      have hk1 : ¬ ((X.rf.length : Int) < X.rf.length) := by omega
      simp (disch := omega) only [wp, Nat.reduceAdd, Nat.reduceMul, Nat.reduceSub, gl, ml, e1, e3, e4, hg, hm, hk1]
      exact ⟨_, rfl, hm⟩
def coI (c : List Int) (i k : Nat) : List (Int × Int) := (List.range k).flatMap fun m => if i < m then [(c.getD i 0, c.getD m 0)] else []
theorem coI_succ {c : List Int} {i k : Nat} (h : i < k) : coI c i (k + 1) = coI c i k ++ [(c.getD i 0, c.getD k 0)] := by simp [coI, List.range_succ, h]
theorem coI_0 (c : List Int) (i : Nat) : coI c i (i + 1) = [] := by
  unfold coI
  rw [List.flatMap_eq_nil_iff]
  intro m hm
  rw [if_neg (by have := List.mem_range.1 hm; omega)]
def coJ (c : List Int) (i : Nat) : List (Int × Int) := (List.range i).flatMap fun j => coI c j c.length
theorem coJ_succ (c i) : coJ c (i + 1) = coJ c i ++ coI c i c.length := by simp [coJ, List.range_succ]
def coX (X : Gr) (l : Nat) : List (Int × Int) := (List.range l).flatMap fun j => coJ (X.co.getD j []) (X.co.getD j []).length
theorem coX_succ (X l) : coX X (l + 1) = coX X l ++ coJ (X.co.getD l []) (X.co.getD l []).length := by simp [coX, List.range_succ]
set_option maxRecDepth 100000 in
set_option maxHeartbeats 4000000 in
theorem sp_mCo (h70 : F 70 = some A_xref09_Co) (h27 : F 27 = some A_xref01_New) {X : Gr} (hn : X.evs.length ≤ 40) (hl : X.co.length ≤ 1000) (hc : ∀ j, j < X.co.length → (X.co.getD j []).length ≤ 1000 ∧ ∀ i, i < (X.co.getD j []).length → 0 ≤ (X.co.getD j []).getD i 0 ∧ (X.co.getD j []).getD i 0 < 40) : pureS F 70 [.agg (grC X)] = some (.ptr (matC X.evs.length (anyM (coX X X.co.length)))) := by
  refine pure_of_thaw h70 (matC_flat _ _) ?_
  simp (disch := omega) only [A_xref09_Co, wp, Nat.reduceAdd, Nat.reduceMul, Nat.reduceSub, gl, ml, thaw27 h27]
  refine W_loop (fun q e g => ∃ j : Nat, q = X.co.length - j ∧ j ≤ X.co.length ∧ e 1 = .mp 0 0 ∧ e 3 = .mp 5 0 ∧ e 4 = .i .i64 j ∧ g.hp 0 = some (.cells (grC X) false) ∧ g.hp 5 = some (.cells (matC X.evs.length (anyM (coX X j))) false) ∧ 5 < g.nx) X.co.length ?_ ?_
  · refine ⟨0, rfl, Nat.zero_le _, ?_⟩
    simp (disch := omega) only [wp, Nat.reduceAdd, Nat.reduceMul, Nat.reduceSub]
    exact ⟨rfl, rfl, by first | omega | (dsimp only; omega)⟩
  · rintro q e g ⟨j, rfl, hj, e1, e3, e4, hg, hm, hnx⟩
    by_cases hj' : j < X.co.length
    · have hj1 : (j : Int) < X.co.length := by omega
      have hwj := succ_wrap (k := j) (by omega)
      have hp := co_part hj'
      have hs := coX_succ X j
      obtain ⟨hcl, hcr⟩ := hc j hj'
      generalize X.co.getD j [] = c at hp hs hcl hcr
      generalize coX X j = L at hm hs
      simp (disch := omega) only [wp, Nat.reduceAdd, Nat.reduceMul, Nat.reduceSub, gl, ml, e1, e3, e4, hg, hm, hj1]
      refine W_loop (fun q e g => ∃ i : Nat, q = c.length - i ∧ i ≤ c.length ∧ e 1 = .mp 0 0 ∧ e 3 = .mp 5 0 ∧ e 4 = .i .i64 j ∧ e 5 = .i .i64 i ∧ g.hp 0 = some (.cells (grC X) false) ∧ g.hp 5 = some (.cells (matC X.evs.length (anyM (L ++ coJ c i))) false) ∧ 5 < g.nx) c.length ?_ ?_
      · refine ⟨0, rfl, Nat.zero_le _, ?_⟩
        simp (disch := omega) only [wp, Nat.reduceAdd, Nat.reduceMul, Nat.reduceSub, e1, e3, e4]
        exact ⟨rfl, hg, by rw [hm]; simp [coJ], by first | omega | (dsimp only; omega)⟩
      · rintro q e g ⟨i, rfl, hi, e1, e3, e4, e5, hg, hm, hnx⟩
        by_cases hi' : i < c.length
        · have hi1 : (i : Int) < c.length := by omega
          have hwi := succ_wrap (k := i) (by omega)
          have hip := ints_part hi'
          have hsJ := coJ_succ c i
          have ⟨ha0, ha1⟩ := hcr i hi'
          generalize hLJ : L ++ coJ c i = LJ at hm
          have hsJ' : L ++ coJ c (i + 1) = LJ ++ coI c i c.length := by rw [hsJ, ← List.append_assoc, hLJ]
          simp (disch := omega) only [wp, Nat.reduceAdd, Nat.reduceMul, Nat.reduceSub, gl, ml, e1, e3, e4, e5, hg, hm, hj1, hp, hi1, hwi]
          refine W_loop (fun q e g => ∃ k : Nat, q = c.length - k ∧ i < k ∧ k ≤ c.length ∧ e 1 = .mp 0 0 ∧ e 3 = .mp 5 0 ∧ e 4 = .i .i64 j ∧ e 5 = .i .i64 i ∧ e 6 = .i .i64 k ∧ g.hp 0 = some (.cells (grC X) false) ∧ g.hp 5 = some (.cells (matC X.evs.length (anyM (LJ ++ coI c i k))) false) ∧ 5 < g.nx) (c.length - (i + 1)) ?_ ?_
          · refine ⟨i + 1, rfl, by omega, by omega, ?_⟩
            simp (disch := omega) only [wp, Nat.reduceAdd, Nat.reduceMul, Nat.reduceSub, e1, e3, e4, e5, coI_0, List.append_nil]
            exact ⟨hg, hm, by first | omega | (dsimp only; omega)⟩
          · rintro q e g ⟨k, rfl, hik, hk, e1, e3, e4, e5, e6, hg, hm, hnx⟩
            by_cases hk' : k < c.length
            · have hk1 : (k : Int) < c.length := by omega
              have hwk := succ_wrap (k := k) (by omega)
              have hkp := ints_part hk'
              have hsI := coI_succ (c := c) hik
              have ⟨hb0, hb1⟩ := hcr k hk'
              generalize hLI : LJ ++ coI c i k = LI at hm
              have hsI' : LJ ++ coI c i (k + 1) = LI ++ [(c.getD i 0, c.getD k 0)] := by rw [hsI, ← List.append_assoc, hLI]
              generalize c.getD i 0 = va at hip ha0 ha1 hsI'
              generalize c.getD k 0 = vb at hkp hb0 hb1 hsI'
              have hadd := anyM_add LI ha0 hb0
              have hset := matC_set (n := X.evs.length) (M := anyM LI) (a := va.toNat) (b := vb.toNat) (x := true) (by omega)
              rw [hadd, ← hsI'] at hset
              simp (disch := omega) only [wp, Nat.reduceAdd, Nat.reduceMul, Nat.reduceSub, gl, ml, e1, e3, e4, e5, e6, hg, hm, hj1, hp, hi1, hk1, hip, hkp, hwk, hset]
              exact ⟨c.length - (k + 1), by omega, k + 1, rfl, by omega, by omega, rfl, rfl, by first | omega | (dsimp only; omega)⟩
            · obtain rfl : k = c.length := by omega
              have hk1 : ¬ ((c.length : Int) < c.length) := by omega
              simp (disch := omega) only [wp, Nat.reduceAdd, Nat.reduceMul, Nat.reduceSub, gl, ml, e1, e3, e4, e5, e6, hg, hm, hj1, hp, hk1, hwi]
              exact ⟨c.length - (i + 1), by omega, i + 1, rfl, by omega, rfl, by rw [hsJ'], by first | omega | (dsimp only; omega)⟩
        · obtain rfl : i = c.length := by omega
          have hi1 : ¬ ((c.length : Int) < c.length) := by omega
          simp (disch := omega) only [wp, Nat.reduceAdd, Nat.reduceMul, Nat.reduceSub, gl, ml, e1, e3, e4, e5, hg, hm, hj1, hp, hi1, hwj]
          exact ⟨X.co.length - (j + 1), by omega, j + 1, rfl, by omega, rfl, by rw [hs], by first | omega | (dsimp only; omega)⟩
    · obtain rfl : j = X.co.length := by omega
      have hj1 : ¬ ((X.co.length : Int) < X.co.length) := by omega
      simp (disch := omega) only [wp, Nat.reduceAdd, Nat.reduceMul, Nat.reduceSub, gl, ml, e1, e3, e4, hg, hm, hj1]
      exact ⟨_, rfl, hm⟩
end Go.Ab
end
section
set_option linter.unusedVariables false
set_option linter.unusedSimpArgs false
namespace Go.Ab
variable {F : Funs}
def frM (n : Nat) (A C : Mx) : Mx := thM (bkM A n n 0) C n n
def comM (n : Nat) (A C : Mx) : Mx := opM (fun x y => x || y) (opM (fun x y => x || y) A C n) (frM n A C) n
set_option maxRecDepth 100000 in
theorem sp_mFr (h71 : F 71 = some A_xref09_Fr) (h27 : F 27 = some A_xref01_New) (h32 : F 32 = some A_xref01_R_Then) (h33 : F 33 = some A_xref01_R_Back) {X : Gr} {n : Nat} (hn : n ≤ 40) {A C : Mx} (hA : pureS F 69 [.agg (grC X)] = some (.ptr (matC n A))) (hC : pureS F 70 [.agg (grC X)] = some (.ptr (matC n C))) : pureS F 71 [.agg (grC X)] = some (.ptr (matC n (frM n A C))) := by
  refine pure_of h71 ?_
  simp (disch := omega) only [A_xref09_Fr, wp, Nat.reduceAdd, Nat.reduceMul, Nat.reduceSub, gl, hA, hC, sp_mback h33 h27 hn, sp_mthen h32 h27 hn hn, Nat.max_self]
  rfl
set_option maxRecDepth 100000 in
theorem sp_mCom (h83 : F 83 = some A_xref09_Com) (h27 : F 27 = some A_xref01_New) (h29 : F 29 = some A_xref01_R_Or) {X : Gr} {n : Nat} (hn : n ≤ 40) {A C : Mx} (hA : pureS F 69 [.agg (grC X)] = some (.ptr (matC n A))) (hC : pureS F 70 [.agg (grC X)] = some (.ptr (matC n C))) (hF : pureS F 71 [.agg (grC X)] = some (.ptr (matC n (frM n A C)))) : pureS F 83 [.agg (grC X)] = some (.ptr (matC n (comM n A C))) := by
  refine pure_of h83 ?_
  simp (disch := omega) only [A_xref09_Com, wp, Nat.reduceAdd, Nat.reduceMul, Nat.reduceSub, gl, hA, hC, hF, sp_mor h29 h27 hn hn, Nat.max_self]
  rfl
def stU (φ : Nat → Nat → Bool) (n a b : Nat) : Mx := fun i j => if (i < a ∧ i < j ∧ j < n) ∨ (i = a ∧ i < j ∧ j < b) then φ i j else false
theorem stU_succ {φ : Nat → Nat → Bool} {n a b : Nat} (h : a < b) : upd2 (stU φ n a b) a b (φ a b) = stU φ n a (b + 1) := by
  funext i j
  unfold upd2 stU
  by_cases h1 : i = a ∧ j = b
  · obtain ⟨rfl, rfl⟩ := h1
    rw [if_pos ⟨rfl, rfl⟩, if_pos (by omega)]
  · rw [if_neg h1]
    by_cases h2 : (i < a ∧ i < j ∧ j < n) ∨ (i = a ∧ i < j ∧ j < b)
    · rw [if_pos h2, if_pos (by omega)]
    · rw [if_neg h2, if_neg (by omega)]
theorem stU_row (φ : Nat → Nat → Bool) (n a : Nat) : stU φ n a n = stU φ n (a + 1) (a + 1 + 1) := by
  funext i j
  unfold stU
  by_cases h2 : (i < a ∧ i < j ∧ j < n) ∨ (i = a ∧ i < j ∧ j < n)
  · rw [if_pos h2, if_pos (by omega)]
  · rw [if_neg h2, if_neg (by omega)]
theorem stU_0 (φ : Nat → Nat → Bool) (n : Nat) : stU φ n 0 (0 + 1) = fun _ _ => false := by
  funext i j; unfold stU; rw [if_neg (by omega)]
def thI (X : Gr) (i : Nat) : Int := (X.evs.getD i ev0).th
def poV (X : Gr) (i j : Nat) : Bool := (thI X i == 0 && decide (0 < thI X j)) || (decide (0 < thI X i) && thI X i == thI X j)
set_option maxRecDepth 100000 in
set_option maxHeartbeats 4000000 in
theorem po_W (h27 : F 27 = some A_xref01_New) {X : Gr} (hn : X.evs.length ≤ 40) : W F A_xref06_Po.body (argEnv [.agg (grC X)]) g0 (retT A_xref06_Po.res (matC X.evs.length (stU (poV X) X.evs.length X.evs.length (X.evs.length + 1)))) := by
  simp (disch := omega) only [A_xref06_Po, wp, Nat.reduceAdd, Nat.reduceMul, Nat.reduceSub, gl, ml, thaw27 h27]
  refine W_loop (fun q e g => ∃ a : Nat, q = X.evs.length - a ∧ a ≤ X.evs.length ∧ e 1 = .mp 0 0 ∧ e 3 = .mp 5 0 ∧ e 4 = .i .i64 a ∧ g.hp 0 = some (.cells (grC X) false) ∧ g.hp 5 = some (.cells (matC X.evs.length (stU (poV X) X.evs.length a (a + 1))) false) ∧ 5 < g.nx) X.evs.length ?_ ?_
  · refine ⟨0, rfl, Nat.zero_le _, ?_⟩
    simp (disch := omega) only [wp, Nat.reduceAdd, Nat.reduceMul, Nat.reduceSub]
    exact ⟨rfl, by rw [stU_0], by first | omega | (dsimp only; omega)⟩
  · rintro q e g ⟨a, rfl, ha, e1, e3, e4, hg, hm, hnx⟩
    by_cases ha' : a < X.evs.length
    · have ha1 : (a : Int) < X.evs.length := by omega
      have hwa := succ_wrap (k := a) (by omega)
      simp (disch := omega) only [wp, Nat.reduceAdd, Nat.reduceMul, Nat.reduceSub, gl, ml, e1, e3, e4, hg, hm, ha1, hwa]
      refine W_loop (fun q e g => ∃ b : Nat, q = X.evs.length - b ∧ a < b ∧ b ≤ X.evs.length ∧ e 1 = .mp 0 0 ∧ e 3 = .mp 5 0 ∧ e 4 = .i .i64 a ∧ e 5 = .i .i64 b ∧ g.hp 0 = some (.cells (grC X) false) ∧ g.hp 5 = some (.cells (matC X.evs.length (stU (poV X) X.evs.length a b)) false) ∧ 5 < g.nx) (X.evs.length - (a + 1)) ?_ ?_
      · refine ⟨a + 1, rfl, by omega, by omega, ?_⟩
        simp (disch := omega) only [wp, Nat.reduceAdd, Nat.reduceMul, Nat.reduceSub, e1, e3, e4]
        exact ⟨hg, hm, by first | omega | (dsimp only; omega)⟩
      · rintro q e g ⟨b, rfl, hab, hb, e1, e3, e4, e5, hg, hm, hnx⟩
        by_cases hb' : b < X.evs.length
        · have hb1 : (b : Int) < X.evs.length := by omega
          have hwb := succ_wrap (k := b) (by omega)
          have tA := ev_th_at ha'
          have tB := ev_th_at hb'
          have dA : (List.drop (a * 6) (evsC X.evs)).length = X.evs.length * 6 - a * 6 := by rw [List.length_drop, evsC_len]
          have dB : (List.drop (b * 6) (evsC X.evs)).length = X.evs.length * 6 - b * 6 := by rw [List.length_drop, evsC_len]
          have hv : poV X a b = ((thI X a == 0 && decide (0 < thI X b)) || (decide (0 < thI X a) && thI X a == thI X b)) := rfl
          have hs := stU_succ (φ := poV X) (n := X.evs.length) hab
          have hset := fun x => matC_set (n := X.evs.length) (M := stU (poV X) X.evs.length a b) (a := a) (b := b) (x := x) (by omega)
          unfold thI at hv
          generalize (X.evs.getD a ev0).th = ta at tA hv
          generalize (X.evs.getD b ev0).th = tb at tB hv
          generalize poV X a b = v at hs hv
          have fin : ∀ x, x = v → X.evs.length - (b + 1) < X.evs.length - b ∧ upd2 (stU (poV X) X.evs.length a b) a b x = stU (poV X) X.evs.length a (b + 1) := fun x hx => ⟨by omega, by rw [hx, hs]⟩
          cases c1 : (ta == 0)
          case true =>
            by_cases c2 : 0 < tb
            case pos =>
              simp (disch := omega) only [wp, Nat.reduceAdd, Nat.reduceMul, Nat.reduceSub, gl, ml, e1, e3, e4, e5, hg, hm, hb1, tA, tB, dA, dB, c1, c2, hset, hwb]
              obtain ⟨f1, f2⟩ := fin true (by rw [hv, c1, decide_eq_true c2]; rfl)
              exact ⟨_, f1, b + 1, rfl, by omega, by omega, rfl, by rw [f2], by first | omega | (dsimp only; omega)⟩
            have c3 : ¬ 0 < ta := by have : ta = 0 := by simpa using c1
                                     omega
            simp (disch := omega) only [wp, Nat.reduceAdd, Nat.reduceMul, Nat.reduceSub, gl, ml, e1, e3, e4, e5, hg, hm, hb1, tA, tB, dA, dB, c1, c2, c3, hset, hwb]
            obtain ⟨f1, f2⟩ := fin false (by rw [hv, c1, decide_eq_false c2, decide_eq_false c3]; rfl)
            exact ⟨_, f1, b + 1, rfl, by omega, by omega, rfl, by rw [f2], by first | omega | (dsimp only; omega)⟩
          by_cases c3 : 0 < ta
          case neg =>
            simp (disch := omega) only [wp, Nat.reduceAdd, Nat.reduceMul, Nat.reduceSub, gl, ml, e1, e3, e4, e5, hg, hm, hb1, tA, tB, dA, dB, c1, c3, hset, hwb]
            obtain ⟨f1, f2⟩ := fin false (by rw [hv, c1, decide_eq_false c3]; rfl)
            exact ⟨_, f1, b + 1, rfl, by omega, by omega, rfl, by rw [f2], by first | omega | (dsimp only; omega)⟩
          simp (disch := omega) only [wp, Nat.reduceAdd, Nat.reduceMul, Nat.reduceSub, gl, ml, e1, e3, e4, e5, hg, hm, hb1, tA, tB, dA, dB, c1, c3, hset, hwb]
          obtain ⟨f1, f2⟩ := fin (ta == tb) (by rw [hv, c1, decide_eq_true c3]; simp)
          exact ⟨_, f1, b + 1, rfl, by omega, by omega, rfl, by rw [f2], by first | omega | (dsimp only; omega)⟩
        · obtain rfl : b = X.evs.length := by omega
          have hb1 : ¬ ((X.evs.length : Int) < X.evs.length) := by omega
          simp (disch := omega) only [wp, Nat.reduceAdd, Nat.reduceMul, Nat.reduceSub, gl, ml, e1, e3, e4, e5, hg, hm, hb1, hwa]
          exact ⟨X.evs.length - (a + 1), by omega, a + 1, rfl, by omega, rfl, by rw [stU_row], by first | omega | (dsimp only; omega)⟩
    · obtain rfl : a = X.evs.length := by omega
      have ha1 : ¬ ((X.evs.length : Int) < X.evs.length) := by omega
      simp (disch := omega) only [wp, Nat.reduceAdd, Nat.reduceMul, Nat.reduceSub, gl, ml, e1, e3, e4, hg, hm, ha1]
      exact ⟨_, rfl, hm⟩
def mpoM (X : Gr) : Mx := stU (poV X) X.evs.length X.evs.length (X.evs.length + 1)
theorem sp_mPo (h84 : F 84 = some A_xref06_Po) (h27 : F 27 = some A_xref01_New) {X : Gr} (hn : X.evs.length ≤ 40) : pureS F 84 [.agg (grC X)] = some (.ptr (matC X.evs.length (mpoM X))) := pure_of_thaw h84 (matC_flat _ _) (po_W h27 hn)
theorem thaw84 (h84 : F 84 = some A_xref06_Po) (h27 : F 27 = some A_xref01_New) {X : Gr} (hn : X.evs.length ≤ 40) (al : Nat → Bool) (id : Nat) (g : G) : vThaw F al id (.fn 84 [] []) [.agg (grC X)] g = some (.mp id 0, ⟨upd g.hp id (some (.cells (matC X.evs.length (mpoM X)) false)), g.nx⟩) :=
  vThaw_S (bs := [.agg (grC X)]) (by simp only [frzL_cons, frz_gr, frzL_nil, consO_ok]) (thaw_of h84 (matC_flat _ _) (po_W h27 hn)) (by simp only [List.flatMap_cons, List.flatMap_nil, vis_gr, List.append_nil])
end Go.Ab
end
