/- Comparisons, arithmetic. -/
import Derived.Test.YtfhinaopoffcnaaAbSim5
import Derived.Laws.StructEq
import Derived.ChangeKeysEq
import Derived.Laws.Pointers
set_option linter.unusedVariables false
set_option linter.unusedSimpArgs false
namespace Go.Ab
open Go.RowKit
section
variable {P : Program} {o : Oper} {a : Act} {c : Cx} {e : Env} {g : G} {al : Nat → Bool} {id : Nat} {r : AV × G}

theorem eqGuard_ii (op : BinOp) (t : TypeId) (x y : Operand) (k l : IntKind) (n m : Int) (w : World) : (eqGuard op t x y (.int k n) (.int l m)).run P w = .ok () w := by cases op <;> simp [eqGuard]
theorem eqGuard_ss (op : BinOp) (t : TypeId) (x y : Operand) (n m : ByteArray) (w : World) : (eqGuard op t x y (.string n) (.string m)).run P w = .ok () w := by cases op <;> simp [eqGuard]
theorem eqGuard_bb (op : BinOp) (t : TypeId) (x y : Operand) (n m : Bool) (w : World) : (eqGuard op t x y (.bool n) (.bool m)).run P w = .ok () w := by cases op <;> simp [eqGuard]
theorem eqGuard_pp (op : BinOp) (t : TypeId) (x y : Operand) (n m : Option Addr) (w : World) : (eqGuard op t x y (.pointer n) (.pointer m)).run P w = .ok () w := by cases op <;> simp [eqGuard]

theorem s_bin (he : EnvOk c e a) (K : Ok c g.nx) (hg : c.hp = g.hp) {op : BinOp} {x y : Opd} (ho : opB P c.num o.op (.bin op x y) = true) (h : vMap g (abin op (x.ev e) (y.ev e)) = some r) : Does P o a c r := by
  obtain ⟨dst, oop, ty, pos, after, guard⟩ := o
  simp only [opB] at ho
  split at ho
  · rename_i op' t p q u
    simp only [Bool.and_eq_true, decide_eq_true_eq] at ho
    obtain ⟨⟨rfl, h1⟩, h2⟩ := ho
    have r1 := opdB_rep he h1
    have r2 := opdB_rep he h2
    cases hv : abin op' (x.ev e) (y.ev e) with
    | none => rw [hv] at h; cases h
    | some v =>
      rw [hv] at h; cases h
      unfold abin at hv
      split at hv
      · rename_i k n l m hx hy
        rw [hx] at r1
        rw [hy] at r2
        obtain ⟨val, hval, hrun⟩ := ishift_run (P := P) (.inl rfl) hv c t (l := l)
        exact Does.quiet K hg hval (by simp [execOp, rep_i r1, rep_i r2, eqGuard_ii, hrun])
      · rename_i k n l m hx hy
        rw [hx] at r1
        rw [hy] at r2
        obtain ⟨val, hval, hrun⟩ := ishift_run (P := P) (.inr rfl) hv c t (l := l)
        exact Does.quiet K hg hval (by simp [execOp, rep_i r1, rep_i r2, eqGuard_ii, hrun])
      · rename_i k n l m _ _ hx hy
        rw [hx] at r1
        rw [hy] at r2
        split at hv
        · rename_i hkl
          subst hkl
          obtain ⟨val, hval, hrun⟩ := ibin_run (P := P) hv c
          obtain ⟨h3, h4⟩ := hrun c.w
          exact Does.quiet K hg hval (by simp [execOp, rep_i r1, rep_i r2, eqGuard_ii, h4 t, h3])
        · cases hv
      · rename_i n m hx hy
        rw [hx] at r1
        rw [hy] at r2
        unfold sbin at hv
        split at hv
        · split at hv
          · cases hv
          · rename_i hs
            cases hv
            exact Does.quiet K hg (.s _) (by simp only [execOp, rep_s r1, rep_s r2, Sem.run_bind, eqGuard_ss, Result.andThen_ok, binOp, Op.stringOp, hs, if_false, Sem.run_pure])
        · cases hv
          exact Does.quiet K hg (.b _) (by simp [execOp, rep_s r1, rep_s r2, eqGuard_ss, binOp, Op.stringOp])
        · cases hv
          exact Does.quiet K hg (.b _) (by simp [execOp, rep_s r1, rep_s r2, eqGuard_ss, binOp, Op.stringOp])
        · cases hv
      · cases hv
  · cases ho

theorem s_eqb (he : EnvOk c e a) (K : Ok c g.nx) (hg : c.hp = g.hp) {neg : Bool} {x y : Opd} (ho : opB P c.num o.op (.eqb neg x y) = true) (h : vMap g (negb neg (aeqb (x.ev e) (y.ev e))) = some r) : Does P o a c r := by
  obtain ⟨dst, oop, ty, pos, after, guard⟩ := o
  simp only [opB] at ho
  split at ho
  · rename_i op' t p q u
    simp only [Bool.and_eq_true, decide_eq_true_eq] at ho
    obtain ⟨⟨⟨hop, h1⟩, h2⟩, h3⟩ := ho
    have r1 := opdB_rep he h1
    have r2 := opdB_rep he h2
    split at h3
    · rename_i hu
      unfold aeqb at h
      split at h
      · rename_i n m hx hy
        rw [hx] at r1
        rw [hy] at r2
        simp only [negb, vMap] at h
        cases h
        cases neg with
        | true =>
          simp only [if_true] at hop ⊢
          subst hop
          exact Does.quiet K hg (.b _) (by simp [execOp, rep_b r1, rep_b r2, eqGuard_bb, binOp, run_equal_bool c.w t n m hu])
        | false =>
          simp only [Bool.false_eq_true, if_false] at hop ⊢
          subst hop
          exact Does.quiet K hg (.b _) (by simp [execOp, rep_b r1, rep_b r2, eqGuard_bb, binOp, run_equal_bool c.w t n m hu])
      · cases h
    · cases h3
  · cases ho

theorem run_equalIn_pp (d : Nat) {t el : TypeId} (hu : P.underlying t = some (.pointer el)) (p q : Option Addr) (hpq : p = none ∨ q = none) (w : World) : (Op.equalIn (d + 1) t (.pointer p) (.pointer q)).run P w = .ok (p.isNone && q.isNone) w := by
  rcases hpq with rfl | rfl
  · simp only [Op.equalIn, Sem.run_bind, run_underlying hu, Result.andThen_ok, Sem.run_pure]
    simp
  · cases p
    · simp only [Op.equalIn, Sem.run_bind, run_underlying hu, Result.andThen_ok, Sem.run_pure]
      simp
    · simp only [Op.equalIn, Sem.run_bind, run_underlying hu, Result.andThen_ok, Sem.run_pure]
      simp
theorem run_equal_pp {t el : TypeId} (hu : P.underlying t = some (.pointer el)) (p q : Option Addr) (hpq : p = none ∨ q = none) (w : World) : (Op.equal t (.pointer p) (.pointer q)).run P w = .ok (p.isNone && q.isNone) w :=
  run_equalIn_pp 9999 hu p q hpq w

theorem aeqn_rep {x y : AV} {vx vy : Value} {res : Bool} (h : aeqn x y = some res) (r1 : Rep c true x vx) (r2 : Rep c true y vy) : ∃ p q, vx = .pointer p ∧ vy = .pointer q ∧ (p = none ∨ q = none) ∧ res = (p.isNone && q.isNone) := by
  unfold aeqn at h
  split at h
  · cases h; cases r1; cases r2; exact ⟨none, none, rfl, rfl, .inl rfl, rfl⟩
  · cases h; cases r1; obtain ⟨ad, _, hv, _⟩ := rep_ptr r2; exact ⟨none, some ad, rfl, hv, .inl rfl, rfl⟩
  · cases h; cases r2; obtain ⟨ad, _, hv, _⟩ := rep_ptr r1; exact ⟨some ad, none, hv, rfl, .inr rfl, rfl⟩
  · cases h; cases r1; have := rep_mp r2; exact ⟨none, _, rfl, this, .inl rfl, rfl⟩
  · cases h; cases r2; have := rep_mp r1; exact ⟨_, none, this, rfl, .inr rfl, rfl⟩
  · cases h

theorem s_eqn (he : EnvOk c e a) (K : Ok c g.nx) (hg : c.hp = g.hp) {neg : Bool} {x y : Opd} (ho : opB P c.num o.op (.eqn neg x y) = true) (h : vMap g (negb neg (aeqn (x.ev e) (y.ev e))) = some r) : Does P o a c r := by
  obtain ⟨dst, oop, ty, pos, after, guard⟩ := o
  simp only [opB] at ho
  split at ho
  · rename_i op' t p q u
    simp only [Bool.and_eq_true, decide_eq_true_eq] at ho
    obtain ⟨⟨⟨hop, h1⟩, h2⟩, h3⟩ := ho
    have r1 := opdB_rep he h1
    have r2 := opdB_rep he h2
    split at h3
    · rename_i el hu
      cases hv : aeqn (x.ev e) (y.ev e) with
      | none => rw [hv] at h; cases h
      | some res =>
        rw [hv] at h
        simp only [negb, vMap] at h
        cases h
        obtain ⟨pa, qa, e1, e2, hpq, hres⟩ := aeqn_rep hv r1 r2
        have hrun := run_equal_pp (P := P) hu pa qa hpq c.w
        cases neg with
        | true =>
          simp only [if_true] at hop ⊢
          subst hop
          exact Does.quiet K hg (.b _) (by simp [execOp, e1, e2, eqGuard_pp, binOp, hrun, hres])
        | false =>
          simp only [Bool.false_eq_true, if_false] at hop ⊢
          subst hop
          exact Does.quiet K hg (.b _) (by simp [execOp, e1, e2, eqGuard_pp, binOp, hrun, hres])
    · cases h3
  · cases ho

theorem cellEq_run {k : Nat} {x y : AV} {vx vy : Value} {res : Bool} (h : cellEq k x y = some res) (r1 : Rep c true x vx) (r2 : Rep c true y vy) {t : TypeId} (hk : kindB P t = some k) (d : Nat) (w : World) : (Op.equalIn (d + 1) t vx vy).run P w = .ok res w := by
  unfold kindB at hk
  split at hk
  · unfold cellEq at h
    split at h
    · rw [rep_i r1, rep_i r2]
      split at h
      · rename_i hjk
        subst hjk
        cases h
        split at hk
        · rename_i hu; exact run_equalIn_int w d t _ _ _ _ hu
        · cases hk
        · cases hk
        · cases hk
      · cases h
    · rw [rep_b r1, rep_b r2]
      cases h
      split at hk
      · cases hk
      · rename_i hu; exact run_equalIn_bool w d t _ _ hu
      · cases hk
      · cases hk
    · rw [rep_s r1, rep_s r2]
      cases h
      split at hk
      · cases hk
      · cases hk
      · rename_i hu; exact run_equalIn_string w d t _ _ hu
      · cases hk
    · cases h
  · cases hk
theorem kindB_part {t : TypeId} {k : Nat} (hk : kindB P t = some k) : aggB P t none = true ∧ P.cellsOf t = 1 := by
  unfold kindB at hk
  split at hk
  · rename_i h
    simp only [Bool.and_eq_true] at h
    refine ⟨h.1, ?_⟩
    obtain ⟨i, hi, hs⟩ := sizeB_some h.2
    simp [Program.cellsOf, hi, hs]
  · cases hk
theorem part_cell {t : TypeId} (ht : aggB P t none = true) {vs : List Value} {j : Nat} {u : Value} (hu : vs[j]? = some u) (w : World) : (Go.part t vs.toArray j).run P w = .ok u w := by
  obtain ⟨d, i, hd, hi, hagg⟩ := aggB_none ht
  simp [Go.part, hagg, hu]

theorem eqItems_run {el : TypeId} {k : Nat} (hk : kindB P el = some k) (d : Nat) (w : World) {vs us : List Value} : ∀ (n j : Nat) {xs ys : List AV} {res : Bool}, cellsEq (List.replicate n k) xs ys = some res → Reps c true xs (vs.drop j) → Reps c true ys (us.drop j) →
    (Op.eqItems (d + 1) el (P.cellsOf el) vs.toArray us.toArray (List.range' j n)).run P w = .ok res w
  | 0, j, xs, ys, res, h, h1, h2 => by
    cases xs <;> cases ys <;> simp [cellsEq] at h
    subst h
    simp [Op.eqItems]
  | n + 1, j, xs, ys, res, h, h1, h2 => by
    obtain ⟨hp, hs⟩ := kindB_part hk
    cases xs with
    | nil => simp [List.replicate_succ, cellsEq] at h
    | cons x xs =>
      cases ys with
      | nil => simp [List.replicate_succ, cellsEq] at h
      | cons y ys =>
        simp only [List.replicate_succ, cellsEq] at h
        split at h
        · rename_i p q hp' hq'
          cases h
          obtain ⟨v, vr, ev, rv, rvs⟩ := h1.cons_inv
          obtain ⟨u, ur, eu, ru, rus⟩ := h2.cons_inv
          have hv : vs[j]? = some v := by
            have : (vs.drop j)[0]? = some v := by rw [ev]; rfl
            simpa using this
          have hu : us[j]? = some u := by
            have : (us.drop j)[0]? = some u := by rw [eu]; rfl
            simpa using this
          have hvd : vs.drop (j + 1) = vr := by rw [← List.drop_drop, ev]; rfl
          have hud : us.drop (j + 1) = ur := by rw [← List.drop_drop, eu]; rfl
          have ih := eqItems_run hk d w n (j + 1) hq' (by rw [hvd]; exact rvs) (by rw [hud]; exact rus)
          rw [hs] at ih
          rw [List.range'_succ, hs]
          simp only [Op.eqItems, Nat.mul_one, Sem.run_bind, part_cell hp hv, part_cell hp hu, Result.andThen_ok, cellEq_run hp' rv ru hk]
          cases p with
          | true => simpa using ih
          | false => simp
        · cases h

theorem eqFields_run (d : Nat) (w : World) {vs us : List Value} : ∀ (fs : List Field) (ks : List Nat) (j : Nat) {xs ys : List AV} {res : Bool}, eqFieldsB P j fs ks = true → cellsEq ks xs ys = some res → Reps c true xs (vs.drop j) → Reps c true ys (us.drop j) →
    (Op.eqFields (d + 1) vs.toArray us.toArray fs).run P w = .ok res w
  | [], [], j, xs, ys, res, hb, h, h1, h2 => by
    cases xs <;> cases ys <;> simp [cellsEq] at h
    subst h
    simp [Op.eqFields]
  | [], _ :: _, _, _, _, _, hb, _, _, _ => by simp [eqFieldsB] at hb
  | _ :: _, [], _, _, _, _, hb, _, _, _ => by simp [eqFieldsB] at hb
  | f :: fs, k :: ks, j, xs, ys, res, hb, h, h1, h2 => by
    simp only [eqFieldsB, Bool.and_eq_true, bne_iff_ne, ne_eq, beq_iff_eq] at hb
    obtain ⟨⟨⟨b1, b2⟩, b3⟩, b4⟩ := hb
    obtain ⟨hp, hs⟩ := kindB_part b3
    cases xs with
    | nil => simp [cellsEq] at h
    | cons x xs =>
      cases ys with
      | nil => simp [cellsEq] at h
      | cons y ys =>
        simp only [cellsEq] at h
        split at h
        · rename_i p q hp' hq'
          cases h
          obtain ⟨v, vr, ev, rv, rvs⟩ := h1.cons_inv
          obtain ⟨u, ur, eu, ru, rus⟩ := h2.cons_inv
          have hv : vs[j]? = some v := by
            have : (vs.drop j)[0]? = some v := by rw [ev]; rfl
            simpa using this
          have hu : us[j]? = some u := by
            have : (us.drop j)[0]? = some u := by rw [eu]; rfl
            simpa using this
          have hvd : vs.drop (j + 1) = vr := by rw [← List.drop_drop, ev]; rfl
          have hud : us.drop (j + 1) = ur := by rw [← List.drop_drop, eu]; rfl
          have ih := eqFields_run d w fs ks (j + 1) b4 hq' (by rw [hvd]; exact rvs) (by rw [hud]; exact rus)
          simp only [Op.eqFields, b1, ne_eq, not_false_eq_true, if_true, b2, Sem.run_bind, part_cell hp hv, part_cell hp hu, Result.andThen_ok, cellEq_run hp' rv ru b3]
          cases p with
          | true => simpa using ih
          | false => simp
        · cases h

theorem s_eqa (he : EnvOk c e a) (K : Ok c g.nx) (hg : c.hp = g.hp) {neg : Bool} {ks : List Nat} {x y : Opd} (ho : opB P c.num o.op (.eqa neg ks x y) = true) (h : vMap g (negb neg (aeqa ks (x.ev e) (y.ev e))) = some r) : Does P o a c r := by
  obtain ⟨dst, oop, ty, pos, after, guard⟩ := o
  simp only [opB] at ho
  split at ho
  · rename_i op' t p q u
    simp only [Bool.and_eq_true, decide_eq_true_eq, Bool.not_eq_true'] at ho
    obtain ⟨⟨⟨⟨hop, h1⟩, h2⟩, hgd⟩, h3⟩ := ho
    have r1 := opdB_rep he h1
    have r2 := opdB_rep he h2
    cases hv : aeqa ks (x.ev e) (y.ev e) with
    | none => rw [hv] at h; cases h
    | some res =>
      rw [hv] at h
      simp only [negb, vMap] at h
      cases h
      unfold aeqa at hv
      split at hv
      · rename_i xs ys hx hy
        rw [hx] at r1
        rw [hy] at r2
        obtain ⟨vs, e1, k1⟩ := rep_agg r1
        obtain ⟨us, e2, k2⟩ := rep_agg r2
        have hrun : (Op.equalIn 10000 t (.agg vs.toArray) (.agg us.toArray)).run P c.w = .ok res c.w := by
          split at h3
          · rename_i n el hu
            split at h3
            · rename_i k hk
              simp only [beq_iff_eq] at h3
              subst h3
              obtain ⟨i, hi, _⟩ := sizeB_some (P := P) (t := el) (n := 1) (by
                unfold kindB at hk; split at hk
                · rename_i hh; simp only [Bool.and_eq_true] at hh; exact hh.2
                · cases hk)
              rw [show (10000 : Nat) = 9999 + 1 from rfl, run_equalIn_array c.w 9999 vs.toArray us.toArray hu hi, List.range_eq_range']
              exact eqItems_run hk 9998 c.w n 0 hv (by simpa using k1) (by simpa using k2)
            · cases h3
          · rename_i fs hu
            simp only [Bool.and_eq_true, Bool.not_eq_true'] at h3
            have hf : P.fieldsOf t = fs := by simp [Program.fieldsOf, hu]
            rw [show (10000 : Nat) = 9999 + 1 from rfl, run_equalIn_struct c.w 9999 t vs.toArray us.toArray (by rw [hf]; exact hu) h3.1, hf]
            exact eqFields_run 9998 c.w fs.toList ks 0 h3.2 hv (by simpa using k1) (by simpa using k2)
          · cases h3
        have hgr := fun op => run_eqGuard_agg (P := P) c.w op t p q vs.toArray us.toArray hgd
        cases neg with
        | true =>
          simp only [if_true] at hop ⊢
          subst hop
          refine Does.quiet K hg (.b _) ?_
          simp only [execOp, e1, e2, Sem.run_bind, hgr, Result.andThen_ok, run_neq_struct, hrun, Sem.run_pure]
        | false =>
          simp only [Bool.false_eq_true, if_false] at hop ⊢
          subst hop
          refine Does.quiet K hg (.b _) ?_
          simp only [execOp, e1, e2, Sem.run_bind, hgr, Result.andThen_ok, run_eql_struct, hrun, Sem.run_pure]
      · cases hv
  · cases ho
end
end Go.Ab
