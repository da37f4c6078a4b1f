/- What GraphWrong rests on, part 3: lemmas, no claim of its own. -/
import Derived.Test.YtgkoidglnjdgoaaPGraphWrong2
section
set_option linter.unusedVariables false
set_option linter.unusedSimpArgs false
namespace Go.Ab
inductive ET where
  | leaf
  | node (v : Option AV) (l r : ET)
noncomputable def ET.get (t : ET) : Nat → Option AV :=
  ET.rec (motive := fun _ => Nat → Option AV) (fun _ => none) (fun v _ _ gl gr n => Nat.rec (motive := fun _ => Option AV) v (fun m _ => Bool.rec (motive := fun _ => Option AV) (gr (Nat.div m 2)) (gl (Nat.div m 2)) (Nat.beq (Nat.mod m 2) 0)) n) t
theorem ET.get_succ (v l r) (m : Nat) : (ET.node v l r).get (m + 1) = if m % 2 = 0 then l.get (m / 2) else r.get (m / 2) := by
  show Bool.rec (motive := fun _ => Option AV) (r.get (m / 2)) (l.get (m / 2)) (Nat.beq (m % 2) 0) = _
  cases h : Nat.beq (m % 2) 0 with
  | true => rw [if_pos (Nat.eq_of_beq_eq_true h)]
  | false => rw [if_neg (Nat.ne_of_beq_eq_false h)]
section
variable {α : Type}
noncomputable def ET.putK (v : AV) (fuel : Nat) : ET → Nat → (ET → α) → α :=
  Nat.rec (motive := fun _ => ET → Nat → (ET → α) → α) (fun t _ k => k t)
    (fun _ ih t n k => ET.rec (motive := fun _ => α)
      (Nat.rec (motive := fun _ => α) (k (.node (some v) .leaf .leaf)) (fun m _ => Bool.rec (motive := fun _ => α) (ih .leaf (Nat.div m 2) fun r' => k (.node none .leaf r')) (ih .leaf (Nat.div m 2) fun l' => k (.node none l' .leaf)) (Nat.beq (Nat.mod m 2) 0)) n)
      (fun w l r _ _ => Nat.rec (motive := fun _ => α) (k (.node (some v) l r)) (fun m _ => Bool.rec (motive := fun _ => α) (ih r (Nat.div m 2) fun r' => k (.node w l r')) (ih l (Nat.div m 2) fun l' => k (.node w l' r)) (Nat.beq (Nat.mod m 2) 0)) n) t) fuel
theorem ET.putK_ok (v : AV) : ∀ (fuel : Nat) (t : ET) (n : Nat) (k : ET → α), n < fuel → ∃ t', ET.putK v fuel t n k = k t' ∧ ∀ j, t'.get j = if j = n then some v else t.get j
  | 0, _, _, _, h => absurd h (Nat.not_lt_zero _)
  | f + 1, t, 0, k, _ => by
    cases t with
    | leaf =>
      refine ⟨.node (some v) .leaf .leaf, rfl, fun j => ?_⟩
      cases j with
      | zero => rfl
      | succ j => rw [ET.get_succ, if_neg (Nat.succ_ne_zero j)]; split <;> rfl
    | node w l r =>
      refine ⟨.node (some v) l r, rfl, fun j => ?_⟩
      cases j with
      | zero => rfl
      | succ j => rw [ET.get_succ, if_neg (Nat.succ_ne_zero j), ET.get_succ]
  | f + 1, t, m + 1, k, h => by
    have hd : m / 2 < f := by omega
    cases t with
    | leaf =>
      cases hb : Nat.beq (m % 2) 0 with
      | true =>
        have hm := Nat.eq_of_beq_eq_true hb
        obtain ⟨t', h1, h2⟩ := ET.putK_ok v f .leaf (m / 2) (fun l' => k (.node none l' .leaf)) hd
        refine ⟨.node none t' .leaf, ?_, fun j => ?_⟩
        · show Bool.rec (motive := fun _ => α) _ (ET.putK v f .leaf (m / 2) fun l' => k (.node none l' .leaf)) (Nat.beq (m % 2) 0) = _
          rw [hb]; exact h1
        · cases j with
          | zero => rw [if_neg (by omega)]; rfl
          | succ j =>
            rw [ET.get_succ]
            by_cases hj : j % 2 = 0
            · rw [if_pos hj, h2]
              by_cases e : j / 2 = m / 2
              · rw [if_pos e, if_pos (by omega)]
              · rw [if_neg e, if_neg (by omega)]; rfl
            · rw [if_neg hj, if_neg (by omega)]; rfl
      | false =>
        have hm := Nat.ne_of_beq_eq_false hb
        obtain ⟨t', h1, h2⟩ := ET.putK_ok v f .leaf (m / 2) (fun r' => k (.node none .leaf r')) hd
        refine ⟨.node none .leaf t', ?_, fun j => ?_⟩
        · show Bool.rec (motive := fun _ => α) (ET.putK v f .leaf (m / 2) fun r' => k (.node none .leaf r')) _ (Nat.beq (m % 2) 0) = _
          rw [hb]; exact h1
        · cases j with
          | zero => rw [if_neg (by omega)]; rfl
          | succ j =>
            rw [ET.get_succ]
            by_cases hj : j % 2 = 0
            · rw [if_pos hj, if_neg (by omega)]; rfl
            · rw [if_neg hj, h2]
              by_cases e : j / 2 = m / 2
              · rw [if_pos e, if_pos (by omega)]
              · rw [if_neg e, if_neg (by omega)]; rfl
    | node w l r =>
      cases hb : Nat.beq (m % 2) 0 with
      | true =>
        have hm := Nat.eq_of_beq_eq_true hb
        obtain ⟨t', h1, h2⟩ := ET.putK_ok v f l (m / 2) (fun l' => k (.node w l' r)) hd
        refine ⟨.node w t' r, ?_, fun j => ?_⟩
        · show Bool.rec (motive := fun _ => α) _ (ET.putK v f l (m / 2) fun l' => k (.node w l' r)) (Nat.beq (m % 2) 0) = _
          rw [hb]; exact h1
        · cases j with
          | zero => rw [if_neg (by omega)]; rfl
          | succ j =>
            rw [ET.get_succ, ET.get_succ]
            by_cases hj : j % 2 = 0
            · rw [if_pos hj, if_pos hj, h2]
              by_cases e : j / 2 = m / 2
              · rw [if_pos e, if_pos (by omega)]
              · rw [if_neg e, if_neg (by omega)]
            · rw [if_neg hj, if_neg hj, if_neg (by omega)]
      | false =>
        have hm := Nat.ne_of_beq_eq_false hb
        obtain ⟨t', h1, h2⟩ := ET.putK_ok v f r (m / 2) (fun r' => k (.node w l r')) hd
        refine ⟨.node w l t', ?_, fun j => ?_⟩
        · show Bool.rec (motive := fun _ => α) (ET.putK v f r (m / 2) fun r' => k (.node w l r')) _ (Nat.beq (m % 2) 0) = _
          rw [hb]; exact h1
        · cases j with
          | zero => rw [if_neg (by omega)]; rfl
          | succ j =>
            rw [ET.get_succ, ET.get_succ]
            by_cases hj : j % 2 = 0
            · rw [if_pos hj, if_pos hj, if_neg (by omega)]
            · rw [if_neg hj, if_neg hj, h2]
              by_cases e : j / 2 = m / 2
              · rw [if_pos e, if_pos (by omega)]
              · rw [if_neg e, if_neg (by omega)]
noncomputable def frcN (n : Nat) (k : Nat → α) : α := Nat.rec (motive := fun _ => α) (k 0) (fun m _ => k (Nat.add m 1)) n
theorem frcN_ok (n : Nat) (k : Nat → α) : frcN n k = k n := by cases n <;> rfl
noncomputable def frcI (n : Int) (k : Int → α) : α := Int.rec (motive := fun _ => α) (fun m => frcN m fun m => k (.ofNat m)) (fun m => frcN m fun m => k (.negSucc m)) n
theorem frcI_ok (n : Int) (k : Int → α) : frcI n k = k n := by
  cases n with
  | ofNat m => exact frcN_ok m fun m => k (.ofNat m)
  | negSucc m => exact frcN_ok m fun m => k (.negSucc m)
noncomputable def frcB (x : Bool) (k : Bool → α) : α := Bool.rec (motive := fun _ => α) (k false) (k true) x
theorem frcB_ok (x : Bool) (k : Bool → α) : frcB x k = k x := by cases x <;> rfl
noncomputable def frc1 (v : AV) (k : AV → α) : α := match v with
  | .i s n => frcI n fun n => k (.i s n)
  | .b x => frcB x fun x => k (.b x)
  | v => k v
theorem frc1_ok (v : AV) (k : AV → α) : frc1 v k = k v := by
  cases v with
  | i s n => exact frcI_ok n fun n => k (.i s n)
  | b x => exact frcB_ok x fun x => k (.b x)
  | _ => rfl
noncomputable def frcL (cs : List AV) : (List AV → α) → α := List.rec (motive := fun _ => (List AV → α) → α) (fun k => k []) (fun c _ ih k => frc1 c fun c => ih fun cs => k (c :: cs)) cs
theorem frcL_ok : ∀ (cs : List AV) (k : List AV → α), frcL cs k = k cs
  | [], _ => rfl
  | c :: cs, k => by
    show frc1 c (fun c => frcL cs fun cs => k (c :: cs)) = _
    rw [frc1_ok, frcL_ok cs]
noncomputable def frcV (v : AV) (k : AV → α) : α := match v with
  | .i s n => frcI n fun n => k (.i s n)
  | .b x => frcB x fun x => k (.b x)
  | .sl cs n t => frcL cs fun cs => frcN n fun n => k (.sl cs n t)
  | .agg cs => frcL cs fun cs => k (.agg cs)
  | .ptr cs => frcL cs fun cs => k (.ptr cs)
  | .mp a o => frcN a fun a => frcN o fun o => k (.mp a o)
  | .ms a o n => frcN a fun a => frcN o fun o => frcN n fun n => k (.ms a o n)
  | v => k v
theorem frcV_ok (v : AV) (k : AV → α) : frcV v k = k v := by
  cases v with
  | i s n => exact frcI_ok n fun n => k (.i s n)
  | b x => exact frcB_ok x fun x => k (.b x)
  | sl cs n t =>
    show frcL cs (fun cs => frcN n fun n => k (.sl cs n t)) = _
    rw [frcL_ok, frcN_ok]
  | agg cs => exact frcL_ok cs fun cs => k (.agg cs)
  | ptr cs => exact frcL_ok cs fun cs => k (.ptr cs)
  | mp a o =>
    show frcN a (fun a => frcN o fun o => k (.mp a o)) = _
    rw [frcN_ok, frcN_ok]
  | ms a o n =>
    show frcN a (fun a => frcN o fun o => frcN n fun n => k (.ms a o n)) = _
    rw [frcN_ok, frcN_ok, frcN_ok]
  | _ => rfl
end
noncomputable def mapO (f : AV → Option AV) (cs : List AV) : Option (List AV) := List.rec (motive := fun _ => Option (List AV)) (some []) (fun c _ ih => match f c with
  | some c => (match ih with | some cs => some (c :: cs) | none => none)
  | none => none) cs
noncomputable def frzK (hp : Nat → Option Blk) (k : Nat) : AV → Option AV := Nat.rec (motive := fun _ => AV → Option AV) (fun _ => none) (fun _ ih v => match v with
  | .agg cs => (match mapO ih cs with | some cs => some (.agg cs) | none => none)
  | .tup cs => (match mapO ih cs with | some cs => some (.tup cs) | none => none)
  | .sl cs n _ => some (.sl cs n .non)
  | .mp id off => (match hp id with
    | some (.cells cs _) => (match mapO ih (cs.drop off) with | some cs => some (.ptr cs) | none => none)
    | _ => none)
  | .ms id off n => (match hp id with
    | some (.cells cs _) => (match mapO ih (cs.drop off) with | some cs => some (.sl cs n .non) | none => none)
    | _ => none)
  | .fn f a b => (match mapO ih a with
    | some a => (match mapO ih b with | some b => some (.fn f a b) | none => none)
    | none => none)
  | .ifc t v => (match ih v with | some v => some (.ifc t v) | none => none)
  | .mm _ => none
  | v => some v) k
noncomputable def frzLK (hp : Nat → Option Blk) (k : Nat) (cs : List AV) : Option (List AV) := mapO (frzK hp k) cs
theorem mapO_cons (f c cs) : mapO f (c :: cs) = (match f c with
  | some c => (match mapO f cs with | some cs => some (c :: cs) | none => none)
  | none => none) := rfl
theorem mapO_frz (hp : Nat → Option Blk) (k : Nat) (h : ∀ v, frzK hp k v = frz hp k v) : ∀ cs, mapO (frzK hp k) cs = frzL hp k cs
  | [] => by simp only [frzL]; rfl
  | c :: cs => by
    rw [mapO_cons, mapO_frz hp k h cs, h c]
    simp only [frzL]
    cases frz hp k c <;> cases frzL hp k cs <;> rfl
theorem frzK_ok (hp : Nat → Option Blk) : ∀ (k : Nat) (v : AV), frzK hp k v = frz hp k v
  | 0, v => by simp only [frz]; rfl
  | k + 1, v => by
    have hl := mapO_frz hp k (frzK_ok hp k)
    have e : frzK hp (k + 1) v = (match v with
      | .agg cs => (match mapO (frzK hp k) cs with | some cs => some (.agg cs) | none => none)
      | .tup cs => (match mapO (frzK hp k) cs with | some cs => some (.tup cs) | none => none)
      | .sl cs n _ => some (.sl cs n .non)
      | .mp id off => (match hp id with
        | some (.cells cs _) => (match mapO (frzK hp k) (cs.drop off) with | some cs => some (.ptr cs) | none => none)
        | _ => none)
      | .ms id off n => (match hp id with
        | some (.cells cs _) => (match mapO (frzK hp k) (cs.drop off) with | some cs => some (.sl cs n .non) | none => none)
        | _ => none)
      | .fn f a b => (match mapO (frzK hp k) a with
        | some a => (match mapO (frzK hp k) b with | some b => some (.fn f a b) | none => none)
        | none => none)
      | .ifc t v => (match frzK hp k v with | some v => some (.ifc t v) | none => none)
      | .mm _ => none
      | v => some v) := rfl
    rw [e]
    simp only [hl, frzK_ok hp k]
    cases v with
    | agg cs => simp only [frz]; cases frzL hp k cs <;> rfl
    | tup cs => simp only [frz]; cases frzL hp k cs <;> rfl
    | mp id off =>
      simp only [frz]
      cases hp id with
      | none => rfl
      | some b =>
        cases b with
        | cells cs ro => simp only; cases frzL hp k (cs.drop off) <;> rfl
        | _ => rfl
    | ms id off n =>
      simp only [frz]
      cases hp id with
      | none => rfl
      | some b =>
        cases b with
        | cells cs ro => simp only; cases frzL hp k (cs.drop off) <;> rfl
        | _ => rfl
    | fn f a b =>
      simp only [frz]
      cases frzL hp k a <;> cases frzL hp k b <;> rfl
    | ifc t v => simp only [frz]; cases frz hp k v <;> rfl
    | _ => simp only [frz]
theorem frzLK_ok (hp : Nat → Option Blk) (k : Nat) (cs : List AV) : frzLK hp k cs = frzL hp k cs := mapO_frz hp k (frzK_ok hp k) cs
noncomputable def kBoxI (v : AV) (g : G) : Option (AV × G) :=
  if (cellsOf v).all one then vMapL .ptr g (frzLK (fun _ => none) depth (cellsOf v)) else none
noncomputable def kBsl (id : Nat) (imm : Bool) (n : Nat) (cs : Option (List AV)) (g : G) : Option (AV × G) := match cs with
  | none => none
  | some cs =>
    if imm then vMapL (fun cs => .sl cs n .rig) g (frzLK (fun _ => none) depth cs)
    else some (.ms id 0 n, ⟨upd g.hp id (some (.cells cs false)), g.nx⟩)
noncomputable def kSrc (al : Nat → Bool) (esz : Nat) (y : AV) (g : G) : Option (List AV × Nat) := match y with
  | .sl ds m _ => some (ds, m)
  | .ms b off m => match rd g al b with
    | some (.cells ds _) => match frzLK (fun _ => none) depth ((ds.drop off).take (m * esz)) with
      | some ds => some (ds, m)
      | none => none
    | _ => none
  | _ => none
noncomputable def kApp (al : Nat → Bool) (id esz bytes : Nat) (x y : AV) (g : G) : Option (AV × G) := match x with
  | .sl cs n t => match kSrc al esz y g with
    | none => none
    | some (ds, m) =>
      if (n + m) * bytes ≤ 2 ^ 46 ∧ n + m ≤ 2 ^ 62 ∧ cs.length = n * esz ∧ ds.length = m * esz then
        match t with
        | .non => none
        | .rig => if m = 0 then some (.sl cs n .rig, g) else some (.sl (cs ++ ds) (n + m) (.own id esz), ⟨upd g.hp id (some (.tok true)), g.nx⟩)
        | .own tk e => match rd g al tk with
          | some (.tok true) => if e = esz then some (.sl (cs ++ ds) (n + m) (.own id esz), ⟨upd (upd g.hp tk (some (.tok false))) id (some (.tok true)), g.nx⟩) else none
          | _ => none
      else none
  | _ => none
theorem kSrc_ok (al esz y g) : kSrc al esz y g = vSrc al esz y g := by unfold kSrc vSrc; simp only [frzLK_ok]; rfl
theorem kApp_ok (al id esz bytes x y g) : kApp al id esz bytes x y g = vApp al id esz bytes x y g := by
  unfold kApp vApp
  simp only [kSrc_ok]
  rfl
theorem kBsl_ok (id imm n cs g) : kBsl id imm n cs g = vBsl id imm n cs g := by unfold kBsl vBsl; simp only [frzLK_ok]; first | done | rfl
theorem kBoxI_ok (v g) : kBoxI v g = vBoxI v g := by unfold kBoxI vBoxI; simp only [frzLK_ok]; first | done | rfl
noncomputable def kCall (call : CS) (al : Nat → Bool) (id : Nat) (m : Mode) (f : AV) (args : List AV) (g : G) : Option (AV × G) := match f with
  | .fn fid fst caps => match m with
    | .raw => call fid (fst ++ args ++ caps) g
    | .pure => match frzLK (rd g al) depth (fst ++ args ++ caps) with
      | none => none
      | some bs => match call fid bs ⟨fun _ => none, 0⟩ with
        | none => none
        | some (v, g') => match frzK g'.hp depth v with
          | none => none
          | some v => if flat v || ((fst ++ args ++ caps).flatMap (vis (rd g al) depth)).isEmpty then some (v, g) else none
    | .lock => match frzLK (rd g al) depth (fst ++ args ++ caps) with
      | none => none
      | some bs => match call fid bs ⟨fun _ => none, 0⟩ with
        | none => none
        | some (v, g') => match frzK g'.hp depth v with
          | none => none
          | some v => some (v, ⟨lock g.hp ((fst ++ args ++ caps).flatMap (vis (rd g al) depth)), g.nx⟩)
    | .thaw => match frzLK (rd g al) depth (fst ++ args ++ caps) with
      | none => none
      | some bs => match call fid bs ⟨fun _ => none, 0⟩ with
        | some (.mp b 0, g') => match g'.hp b with
          | some (.cells cs false) => match frzLK g'.hp depth cs with
            | some cs' =>
              if ((fst ++ args ++ caps).flatMap (vis (rd g al) depth)).isEmpty && !(cs.flatMap (vis g'.hp depth)).contains b then some (.mp id 0, ⟨upd g.hp id (some (.cells cs' false)), g.nx⟩) else none
            | none => none
          | _ => none
        | _ => none
    | .melt => match frzLK (rd g al) depth (fst ++ args ++ caps) with
      | none => none
      | some bs => match call fid bs ⟨fun _ => none, 0⟩ with
        | some (.ms b 0 n, g') => match g'.hp b with
          | some (.cells cs false) => match frzLK g'.hp depth cs with
            | some cs' =>
              if ((fst ++ args ++ caps).flatMap (vis (rd g al) depth)).isEmpty && !(cs.flatMap (vis g'.hp depth)).contains b then some (.ms id 0 n, ⟨upd g.hp id (some (.cells cs' false)), g.nx⟩) else none
            | none => none
          | _ => none
        | _ => none
  | _ => none
theorem kCall_ok (call al id m f args g) : kCall call al id m f args g = vCall call al id m f args g := by
  unfold kCall vCall
  simp only [frzLK_ok, frzK_ok]
  rfl
abbrev Orc := Nat → List AV → Option AV
noncomputable def kev (b : Env) (t : ET) : Env := fun n => match t.get n with | some v => v | none => b n
noncomputable def putO {α : Type} (d : Option Nat) (v : AV) (t : ET) (k : ET → α) : α := match d with
  | some d => ET.putK v (d + 1) t d k
  | none => k t
theorem putO_ok {α : Type} (b : Env) (d : Option Nat) (v : AV) (t : ET) (k : ET → α) : ∃ t', putO d v t k = k t' ∧ kev b t' = put (kev b t) d v := by
  cases d with
  | none => exact ⟨t, rfl, rfl⟩
  | some d =>
    obtain ⟨t', h1, h2⟩ := ET.putK_ok v (d + 1) t d k (by omega)
    refine ⟨t', h1, ?_⟩
    funext j
    simp only [kev, put, upd, h2]
    by_cases e : j = d
    · simp only [if_pos e]
    · simp only [if_neg e]
noncomputable def ltI (a b : Int) : Bool := Int.rec (motive := fun _ => Bool) (fun m => Int.rec (motive := fun _ => Bool) (fun n => Nat.ble (Nat.add m 1) n) (fun _ => false) b) (fun m => Int.rec (motive := fun _ => Bool) (fun _ => true) (fun n => Nat.ble (Nat.add n 1) m) b) a
theorem ble_dec (m n : Nat) : Nat.ble m n = decide (m ≤ n) := by
  cases h : Nat.ble m n with
  | true => exact (decide_eq_true (Nat.le_of_ble_eq_true h)).symm
  | false => exact (decide_eq_false (fun hh => by rw [Nat.ble_eq_true_of_le hh] at h; cases h)).symm
theorem ltI_ok (a b : Int) : ltI a b = decide (a < b) := by
  cases a with
  | ofNat m =>
    cases b with
    | ofNat n =>
      show Nat.ble (m + 1) n = _
      rw [ble_dec, decide_eq_decide]
      show m + 1 ≤ n ↔ (m : Int) < (n : Int)
      omega
    | negSucc n =>
      show false = _
      refine (decide_eq_false ?_).symm
      show ¬ (m : Int) < Int.negSucc n
      omega
  | negSucc m =>
    cases b with
    | ofNat n =>
      show true = _
      refine (decide_eq_true ?_).symm
      show Int.negSucc m < (n : Int)
      omega
    | negSucc n =>
      show Nat.ble (n + 1) m = _
      rw [ble_dec, decide_eq_decide]
      omega
noncomputable def eqI (a b : Int) : Bool := Int.rec (motive := fun _ => Bool) (fun m => Int.rec (motive := fun _ => Bool) (fun n => Nat.beq m n) (fun _ => false) b) (fun m => Int.rec (motive := fun _ => Bool) (fun _ => false) (fun n => Nat.beq m n) b) a
theorem beq_dec (m n : Nat) : Nat.beq m n = decide (m = n) := by
  cases h : Nat.beq m n with
  | true => exact (decide_eq_true (Nat.eq_of_beq_eq_true h)).symm
  | false => exact (decide_eq_false (Nat.ne_of_beq_eq_false h)).symm
theorem eqI_ok (a b : Int) : eqI a b = (a == b) := by
  have e : (a == b) = decide (a = b) := by rw [Bool.eq_iff_iff]; simp
  rw [e]
  cases a with
  | ofNat m =>
    cases b with
    | ofNat n =>
      show Nat.beq m n = _
      rw [beq_dec, decide_eq_decide]
      show m = n ↔ (m : Int) = (n : Int)
      omega
    | negSucc n => exact (decide_eq_false (fun h => by cases h)).symm
  | negSucc m =>
    cases b with
    | ofNat n => exact (decide_eq_false (fun h => by cases h)).symm
    | negSucc n =>
      show Nat.beq m n = _
      rw [beq_dec, decide_eq_decide]
      omega
noncomputable def wrI (n : Int) : Int := Int.rec (motive := fun _ => Int) (fun m => Bool.rec (motive := fun _ => Int) (IntKind.i64.wrap (.ofNat m)) (.ofNat m) (Nat.ble m 9223372036854775807)) (fun m => Bool.rec (motive := fun _ => Int) (IntKind.i64.wrap (.negSucc m)) (.negSucc m) (Nat.ble m 9223372036854775807)) n
theorem wrI_in {x : Int} (h : -9223372036854775808 ≤ x) (h2 : x ≤ 9223372036854775807) : IntKind.i64.wrap x = x := by
  simp [IntKind.wrap, IntKind.bits, IntKind.signed]
  omega
theorem wrI_ok (n : Int) : wrI n = IntKind.i64.wrap n := by
  cases n with
  | ofNat m =>
    show Bool.rec (motive := fun _ => Int) (IntKind.i64.wrap (.ofNat m)) (.ofNat m) (Nat.ble m 9223372036854775807) = _
    rw [ble_dec]
    by_cases h : m ≤ 9223372036854775807
    · rw [decide_eq_true h]
      exact (wrI_in (x := (m : Int)) (by omega) (by omega)).symm
    · rw [decide_eq_false h]
  | negSucc m =>
    show Bool.rec (motive := fun _ => Int) (IntKind.i64.wrap (.negSucc m)) (.negSucc m) (Nat.ble m 9223372036854775807) = _
    rw [ble_dec]
    by_cases h : m ≤ 9223372036854775807
    · rw [decide_eq_true h]
      exact (wrI_in (x := Int.negSucc m) (by omega) (by omega)).symm
    · rw [decide_eq_false h]
noncomputable def addI (a b : Int) : Int := Int.rec (motive := fun _ => Int) (fun m => Int.rec (motive := fun _ => Int) (fun n => .ofNat (Nat.add m n)) (fun n => Int.add (.ofNat m) (.negSucc n)) b) (fun m => Int.add (.negSucc m) b) a
theorem addI_ok (a b : Int) : addI a b = a + b := by cases a <;> cases b <;> rfl
noncomputable def kII (op : BinOp) : Int → Int → Option AV := BinOp.casesOn (motive := fun _ => Int → Int → Option AV) op
  (fun a b => some (.i .i64 (wrI (addI a b)))) (fun a b => some (.i .i64 (wrI (Int.sub a b)))) (ibin .mul .i64) (ibin .quo .i64) (ibin .rem .i64) (ibin .and .i64) (ibin .or .i64) (ibin .xor .i64)
  (ishift .shl .i64) (ishift .shr .i64) (ibin .andNot .i64) (fun a b => some (.b (eqI a b))) (fun a b => some (.b (!eqI a b))) (fun a b => some (.b (ltI a b))) (fun a b => some (.b (!ltI b a))) (fun a b => some (.b (ltI b a))) (fun a b => some (.b (!ltI a b)))
theorem kII_ok (op : BinOp) (a b : Int) : kII op a b = abin op (.i .i64 a) (.i .i64 b) := by
  cases op
  · show some (AV.i .i64 (wrI (addI a b))) = _
    rw [wrI_ok, addI_ok]; simp [abin, ibin]
  · show some (AV.i .i64 (wrI (a - b))) = _
    rw [wrI_ok]; simp [abin, ibin]
  · show ibin .mul .i64 a b = _; simp [abin]
  · show ibin .quo .i64 a b = _; simp [abin]
  · show ibin .rem .i64 a b = _; simp [abin]
  · show ibin .and .i64 a b = _; simp [abin]
  · show ibin .or .i64 a b = _; simp [abin]
  · show ibin .xor .i64 a b = _; simp [abin]
  · show ishift .shl .i64 a b = _; simp [abin]
  · show ishift .shr .i64 a b = _; simp [abin]
  · show ibin .andNot .i64 a b = _; simp [abin]
  · show some (AV.b (eqI a b)) = _
    rw [eqI_ok]; simp [abin, ibin]
  · show some (AV.b (!eqI a b)) = _
    rw [eqI_ok]; simp only [abin, ibin, if_true]; rfl
  · show some (AV.b (ltI a b)) = _
    rw [ltI_ok]; simp [abin, ibin]
  · show some (AV.b (!ltI b a)) = _
    rw [ltI_ok]; simp [abin, ibin]
    rw [← decide_not, decide_eq_decide]; omega
  · show some (AV.b (ltI b a)) = _
    rw [ltI_ok]; simp [abin, ibin]
  · show some (AV.b (!ltI a b)) = _
    rw [ltI_ok]; simp [abin, ibin]
    rw [← decide_not, decide_eq_decide]; omega
noncomputable def kBin (op : BinOp) (x y : AV) : Option AV := match x with
  | .i k a => (match k with
    | .i64 => (match y with
      | .i k' b => (match k' with
        | .i64 => kII op a b
        | k' => abin op (.i .i64 a) (.i k' b))
      | y => abin op (.i .i64 a) y)
    | k => abin op (.i k a) y)
  | x => abin op x y
theorem kBin_ok (op : BinOp) (x y : AV) : kBin op x y = abin op x y := by
  cases x with
  | i k a =>
    cases k <;> first
      | rfl
      | (cases y with
        | i k' b => cases k' <;> first | rfl | exact kII_ok op a b
        | _ => rfl)
  | _ => rfl
noncomputable def frcR (r : Option (AV × G)) : Option (AV × G) := match r with
  | some (v, g) => frcV v fun v => some (v, g)
  | none => none
theorem frcR_ok (r : Option (AV × G)) : frcR r = r := by
  cases r with
  | none => rfl
  | some p =>
    obtain ⟨v, g⟩ := p
    show frcV v (fun v => some (v, g)) = _
    rw [frcV_ok]
abbrev KO := Orc → CS → (Nat → Bool) → Nat → Nat → Env → G → Option (AV × G)
noncomputable def ko_mv (x : Opd) : KO := fun _ _ _ _ _ e g => some (x.ev e, g)
noncomputable def ko_pick (c a b : Opd) : KO := fun _ _ _ _ _ e g => vPick (c.ev e) (a.ev e) (b.ev e) g
noncomputable def ko_new (zero : List AV) : KO := fun _ _ _ _ id _ g => some (.mp id 0, ⟨upd g.hp id (some (.cells zero false)), g.nx⟩)
noncomputable def ko_box (x : Opd) : KO := fun _ _ _ _ id e g => vBox id (x.ev e) g
noncomputable def ko_boxI (x : Opd) : KO := fun _ _ _ _ _ e g => kBoxI (x.ev e) g
noncomputable def ko_build (zero : List AV) (parts : List (Nat × Nat × Opd)) : KO := fun _ _ _ _ _ e g => frcR (vMapL .agg g (fill e zero parts))
noncomputable def ko_bsl (imm : Bool) (n : Nat) (zero : List AV) (parts : List (Nat × Nat × Opd)) : KO := fun _ _ _ _ id e g => frcR (kBsl id imm n (fill e zero parts) g)
noncomputable def ko_ld (agg : Option Nat) (x : Opd) : KO := fun _ _ al _ _ e g => vLd al agg (x.ev e) g
noncomputable def ko_st (n : Nat) (a x : Opd) : KO := fun _ _ al _ _ e g => vSt al n (a.ev e) (x.ev e) g
noncomputable def ko_stL (n : Nat) (a x : Opd) : KO := fun _ _ al lo _ e g => vSt (fun i => decide (lo ≤ i) && al i) n (a.ev e) (x.ev e) g
noncomputable def ko_ldF (agg : Option Nat) (x : Opd) : KO := fun _ _ al _ _ e g => vLdF al agg (x.ev e) g
noncomputable def ko_stW (n : Nat) (a x : Opd) : KO := fun _ _ al _ _ e g => vSt al n (a.ev e) (x.ev e) g
noncomputable def ko_ldQ (agg : Option Nat) (x : Opd) (t : Nat) : KO := fun _ _ al _ _ e g => vLdQ al agg (x.ev e) (e t) g
noncomputable def ko_stN (n : Nat) (a x : Opd) (ts : List Nat) : KO := fun _ _ al _ _ e g => vStN al n (a.ev e) (x.ev e) (ts.map e) g
noncomputable def ko_nilck (x : Opd) : KO := fun _ _ _ _ _ e g => vNil (x.ev e) g
noncomputable def ko_bin (op : BinOp) (x y : Opd) : KO := fun _ _ _ _ _ e g => frcR (vMap g (kBin op (x.ev e) (y.ev e)))
noncomputable def ko_eqb (neg : Bool) (x y : Opd) : KO := fun _ _ _ _ _ e g => frcR (vMap g (negb neg (aeqb (x.ev e) (y.ev e))))
noncomputable def ko_eqs (neg : Bool) (x : Opd) : KO := fun _ _ _ _ _ e g => frcR (vMap g (negb neg (aeqs (x.ev e))))
noncomputable def ko_eqn (neg : Bool) (x y : Opd) : KO := fun _ _ _ _ _ e g => frcR (vMap g (negb neg (aeqn (x.ev e) (y.ev e))))
noncomputable def ko_eqa (neg : Bool) (ks : List Nat) (x y : Opd) : KO := fun _ _ _ _ _ e g => frcR (vMap g (negb neg (aeqa ks (x.ev e) (y.ev e))))
noncomputable def ko_un (op : UnOp) (x : Opd) : KO := fun _ _ _ _ _ e g => frcR (vMap g (aun op (x.ev e)))
noncomputable def ko_conv (k : IntKind) (x : Opd) : KO := fun _ _ _ _ _ e g => frcR (vConv k (x.ev e) g)
noncomputable def ko_mkfn (f : Nat) (fst caps : List Opd) : KO := fun _ _ _ _ _ e g => some (.fn f (fst.map (·.ev e)) (caps.map (·.ev e)), g)
noncomputable def ko_mkmap : KO := fun _ _ _ _ id _ g => some (.mm id, ⟨upd g.hp id (some (.map [])), g.nx⟩)
noncomputable def ko_mput (m k v : Opd) : KO := fun _ _ al _ _ e g => vMput al (m.ev e) (k.ev e) (v.ev e) g
noncomputable def ko_mget (m k : Opd) : KO := fun _ _ al _ _ e g => vMget al (m.ev e) (k.ev e) g
noncomputable def ko_mksl (zero : List AV) (esz bytes : Nat) (len cap : Opd) : KO := fun _ _ _ _ id e g => frcR (vMksl id zero esz bytes (len.ev e) (cap.ev e) g)
noncomputable def ko_slice (esz : Nat) (x : Opd) (lo hi mx : Option Opd) : KO := fun _ _ _ _ _ e g => frcR (vSlice esz (x.ev e) (evo e lo) (evo e hi) (evo e mx) g)
noncomputable def ko_fa (off : Nat) (x : Opd) : KO := fun _ _ _ _ _ e g => vFa off (x.ev e) g
noncomputable def ko_fld (off : Nat) (agg : Option Nat) (x : Opd) : KO := fun _ _ _ _ _ e g => vFld off agg (x.ev e) g
noncomputable def ko_ia (esz : Nat) (x i : Opd) : KO := fun _ _ _ _ _ e g => vIa esz (x.ev e) (i.ev e) g
noncomputable def ko_iaa (len esz : Nat) (x i : Opd) : KO := fun _ _ _ _ _ e g => vIaa len esz (x.ev e) (i.ev e) g
noncomputable def ko_idx (len esz : Nat) (agg : Option Nat) (x i : Opd) : KO := fun _ _ _ _ _ e g => vIdx len esz agg (x.ev e) (i.ev e) g
noncomputable def ko_sidx (x i : Opd) : KO := fun _ _ _ _ _ e g => frcR (vSidx (x.ev e) (i.ev e) g)
noncomputable def ko_ext (i : Nat) (x : Opd) : KO := fun _ _ _ _ _ e g => vExt i (x.ev e) g
noncomputable def ko_len (x : Opd) : KO := fun _ _ _ _ _ e g => vLen (x.ev e) g
noncomputable def ko_slen (x : Opd) : KO := fun _ _ _ _ _ e g => frcR (vSlen (x.ev e) g)
noncomputable def ko_sslice (x : Opd) (lo hi : Option Opd) : KO := fun _ _ _ _ _ e g => frcR (vSslice (x.ev e) (evo e lo) (evo e hi) g)
noncomputable def ko_mx (x y : Opd) : KO := fun _ _ _ _ _ e g => frcR (vMx (x.ev e) (y.ev e) g)
noncomputable def ko_mn (x y : Opd) : KO := fun _ _ _ _ _ e g => frcR (vMn (x.ev e) (y.ev e) g)
noncomputable def ko_app (esz bytes : Nat) (x y : Opd) : KO := fun _ _ al _ id e g => frcR (kApp al id esz bytes (x.ev e) (y.ev e) g)
noncomputable def ko_appM (esz bytes : Nat) (x y : Opd) : KO := fun _ _ al _ id e g => frcR (vAppM al id esz bytes (x.ev e) (y.ev e) g)
noncomputable def ko_clr (esz : Nat) (zero : List AV) (x : Opd) : KO := fun _ _ al _ _ e g => frcR (vClr al esz zero (x.ev e) g)
noncomputable def ko_cutM (esz : Nat) (x hi : Opd) : KO := fun _ _ al _ id e g => frcR (vCutM al id esz (x.ev e) (hi.ev e) g)
noncomputable def ko_bad : KO := fun _ _ _ _ _ _ _ => none
noncomputable def ko_pure (f : Opd) (args : List Opd) : KO := fun orc call al _ id e g => match f.ev e with
  | .fn fid fst caps => (match frzLK (rd g al) depth (fst ++ args.map (·.ev e) ++ caps) with
    | some bs => (match orc fid bs with
      | some v => frcV v fun v => if flat v || ((fst ++ args.map (·.ev e) ++ caps).flatMap (vis (rd g al) depth)).isEmpty then some (v, g) else none
      | none => frcR (kCall call al id .pure (f.ev e) (args.map (·.ev e)) g))
    | none => none)
  | _ => none
noncomputable def ko_call (m : Mode) (f : Opd) (args : List Opd) : KO := Mode.casesOn (motive := fun _ => KO) m (ko_pure f args)
  (fun _ call al _ id e g => frcR (kCall call al id .lock (f.ev e) (args.map (·.ev e)) g))
  (fun _ call al _ id e g => frcR (kCall call al id .thaw (f.ev e) (args.map (·.ev e)) g))
  (fun _ call al _ id e g => frcR (kCall call al id .raw (f.ev e) (args.map (·.ev e)) g))
  (fun _ call al _ id e g => frcR (kCall call al id .melt (f.ev e) (args.map (·.ev e)) g))
section
variable (orc : Orc)
noncomputable def opK (call : CS) (al : Nat → Bool) (lo id : Nat) (op : AOp) (e : Env) (g : G) : Option (AV × G) :=
  AOp.casesOn (motive := fun _ => KO) op ko_mv ko_pick ko_new ko_box ko_boxI ko_build ko_bsl ko_ld ko_ldF ko_ldQ ko_st ko_stL ko_stW ko_stN ko_nilck ko_bin ko_eqb ko_eqn ko_eqs ko_eqa ko_un ko_conv ko_mkfn ko_mkmap ko_mput ko_mget ko_mksl ko_slice ko_fa ko_fld ko_ia ko_iaa ko_idx ko_sidx ko_ext ko_len ko_slen ko_sslice ko_mx ko_mn ko_app ko_appM ko_cutM ko_clr ko_bad ko_call orc call al lo id e g
noncomputable def regK (call : CS) (b : Env) (draw : Bool) (base : Nat) (ops : List AOper) : Nat → ET → G → Option (ET × G) :=
  List.rec (motive := fun _ => Nat → ET → G → Option (ET × G)) (fun _ t g => some (t, g)) (fun o _ ih j t g =>
    match wanted (kev b t) o.grd with
    | true => match opK orc call (allow draw base o.pre) base (base + j) o.op (kev b t) g with
      | some (v, g) => putO o.dst v t fun t => ih (j + 1) t g
      | none => none
    | false => putO o.dst .undef t fun t => ih (j + 1) t g) ops
noncomputable def iterK (f : ET → G → Option (Out × ET × G)) (k : Nat) : ET → G → Option (Out × ET × G) :=
  Nat.rec (motive := fun _ => ET → G → Option (Out × ET × G)) (fun _ _ => none) (fun _ ih t g => match f t g with
    | some (.nrm, t, g) => ih t g
    | r => r) k
noncomputable def codeK (call : CS) (b : Env) (k : Nat) (c : ACode) : ET → G → Option (Out × ET × G) :=
  ACode.rec (motive := fun _ => ET → G → Option (Out × ET × G))
    (fun t g => some (.nrm, t, g))
    (fun draw ops t g => frcN g.nx fun base => frcN (base + ops.length) fun nx => match regK orc call b draw base ops 0 t ⟨g.hp, nx⟩ with
      | some (t, g) => some (.nrm, t, g)
      | none => none)
    (fun _ _ fa fb t g => match fa t g with
      | some (.nrm, t, g) => fb t g
      | r => r)
    (fun c _ _ ft ff t g => match c.ev (kev b t) with
      | .b x => Bool.rec (motive := fun _ => Option (Out × ET × G)) (ff t g) (ft t g) x
      | _ => none)
    (fun id _ fc t g => match fc t g with
      | some (.ext n, t, g) => some (Bool.rec (motive := fun _ => Out) (.ext n) .nrm (Nat.beq n id), t, g)
      | r => r)
    (fun n _ fc t g => fc t ⟨lock g.hp (vis g.hp depth (kev b t n)), g.nx⟩)
    (fun n _ fc t g => fc t ⟨lock g.hp (ids1 (kev b t n)), g.nx⟩)
    (fun n _ fc t g => match frzK g.hp depth (kev b t n) with
      | some v => ET.putK v (n + 1) t n fun t' => fc t' ⟨lock g.hp (vis g.hp depth (kev b t n)), g.nx⟩
      | none => none)
    (fun _ _ _ _ => none)
    (fun _ fc t g => fc t g)
    (fun t g => some (.nrm, t, g))
    (fun _ fc t g => iterK fc k t g)
    (fun id t g => some (.ext id, t, g))
    (fun t g => some (.ret, t, g)) c
variable (F : Funs)
noncomputable def callK (k : Nat) : CS :=
  Nat.rec (motive := fun _ => CS) (fun _ _ _ => none) (fun k ih f args g => match F f with
    | none => none
    | some fn => match codeK orc ih (argEnv args) k fn.body .leaf g with
      | some (.nrm, t, g) => (resE fn.res (kev (argEnv args) t) g).map (·, g)
      | some (.ret, t, g) => (resE fn.res (kev (argEnv args) t) g).map (·, g)
      | _ => none) k
end
def OrcOk (F : Funs) (orc : Orc) : Prop := ∀ f bs v, orc f bs = some v → pureS F f bs = some v
section
variable {F : Funs} {orc : Orc} (ho : OrcOk F orc)
include ho
theorem opK_ok {call : CS} (hc : CLe call (callS F)) {al lo id op e g r} (h : opK orc call al lo id op e g = some r) : opE (callS F) al lo id op e g = some r := by
  cases op with
  | boxI x =>
    have h : kBoxI (x.ev e) g = some r := h
    rw [kBoxI_ok] at h; exact h
  | build z ps =>
    have h : frcR (vMapL .agg g (fill e z ps)) = some r := h
    rw [frcR_ok] at h; exact h
  | bsl imm n z ps =>
    have h : frcR (kBsl id imm n (fill e z ps) g) = some r := h
    rw [frcR_ok, kBsl_ok] at h; exact h
  | bin o x y =>
    have h : frcR (vMap g (kBin o (x.ev e) (y.ev e))) = some r := h
    rw [frcR_ok, kBin_ok] at h; exact h
  | eqb neg x y =>
    have h : frcR (vMap g (negb neg (aeqb (x.ev e) (y.ev e)))) = some r := h
    rw [frcR_ok] at h; exact h
  | eqn neg x y =>
    have h : frcR (vMap g (negb neg (aeqn (x.ev e) (y.ev e)))) = some r := h
    rw [frcR_ok] at h; exact h
  | eqs neg x =>
    have h : frcR (vMap g (negb neg (aeqs (x.ev e)))) = some r := h
    rw [frcR_ok] at h; exact h
  | eqa neg ks x y =>
    have h : frcR (vMap g (negb neg (aeqa ks (x.ev e) (y.ev e)))) = some r := h
    rw [frcR_ok] at h; exact h
  | un o x =>
    have h : frcR (vMap g (aun o (x.ev e))) = some r := h
    rw [frcR_ok] at h; exact h
  | conv k x =>
    have h : frcR (vConv k (x.ev e) g) = some r := h
    rw [frcR_ok] at h; exact h
  | mksl z esz bytes len cap =>
    have h : frcR (vMksl id z esz bytes (len.ev e) (cap.ev e) g) = some r := h
    rw [frcR_ok] at h; exact h
  | slice esz x lo' hi mx =>
    have h : frcR (vSlice esz (x.ev e) (evo e lo') (evo e hi) (evo e mx) g) = some r := h
    rw [frcR_ok] at h; exact h
  | sidx x i =>
    have h : frcR (vSidx (x.ev e) (i.ev e) g) = some r := h
    rw [frcR_ok] at h; exact h
  | slen x =>
    have h : frcR (vSlen (x.ev e) g) = some r := h
    rw [frcR_ok] at h; exact h
  | sslice x lo' hi =>
    have h : frcR (vSslice (x.ev e) (evo e lo') (evo e hi) g) = some r := h
    rw [frcR_ok] at h; exact h
  | mx x y =>
    have h : frcR (vMx (x.ev e) (y.ev e) g) = some r := h
    rw [frcR_ok] at h; exact h
  | mn x y =>
    have h : frcR (vMn (x.ev e) (y.ev e) g) = some r := h
    rw [frcR_ok] at h; exact h
  | app esz bytes x y =>
    have h : frcR (kApp al id esz bytes (x.ev e) (y.ev e) g) = some r := h
    rw [frcR_ok, kApp_ok] at h; exact h
  | appM esz bytes x y =>
    have h : frcR (vAppM al id esz bytes (x.ev e) (y.ev e) g) = some r := h
    rw [frcR_ok] at h; exact h
  | clr esz z x =>
    have h : frcR (vClr al esz z (x.ev e) g) = some r := h
    rw [frcR_ok] at h; exact h
  | cutM esz x hi =>
    have h : frcR (vCutM al id esz (x.ev e) (hi.ev e) g) = some r := h
    rw [frcR_ok] at h; exact h
  | bad => cases h
  | call m f args =>
    cases m with
    | raw =>
      have h : frcR (kCall call al id .raw (f.ev e) (args.map (·.ev e)) g) = some r := h
      rw [frcR_ok, kCall_ok] at h
      exact opE_mono (op := .call .raw f args) hc h
    | lock =>
      have h : frcR (kCall call al id .lock (f.ev e) (args.map (·.ev e)) g) = some r := h
      rw [frcR_ok, kCall_ok] at h
      exact opE_mono (op := .call .lock f args) hc h
    | thaw =>
      have h : frcR (kCall call al id .thaw (f.ev e) (args.map (·.ev e)) g) = some r := h
      rw [frcR_ok, kCall_ok] at h
      exact opE_mono (op := .call .thaw f args) hc h
    | melt =>
      have h : frcR (kCall call al id .melt (f.ev e) (args.map (·.ev e)) g) = some r := h
      rw [frcR_ok, kCall_ok] at h
      exact opE_mono (op := .call .melt f args) hc h
    | pure =>
      have h : ko_pure f args orc call al lo id e g = some r := h
      unfold ko_pure at h
      split at h
      · rename_i fid fst caps hf
        split at h
        · rename_i bs hb
          split at h
          · rename_i v hv
            rw [frcV_ok] at h
            split at h
            · rename_i hfl
              cases h
              show vPure F al (f.ev e) (args.map (·.ev e)) g = _
              rw [hf]
              rw [frzLK_ok] at hb
              exact vPure_ok hb (ho _ _ _ hv) hfl
            · cases h
          · rw [frcR_ok, kCall_ok] at h
            exact opE_mono (op := .call .pure f args) hc h
        · cases h
      · cases h
  | _ => exact h
theorem regK_ok {call : CS} (hc : CLe call (callS F)) {b : Env} {draw : Bool} {base : Nat} : ∀ {ops : List AOper} {j : Nat} {t : ET} {g : G} {t' g'}, regK orc call b draw base ops j t g = some (t', g') → regE (callS F) draw base j ops (kev b t) g = some (kev b t', g')
  | [], j, t, g, t', g', h => by cases h; rfl
  | o :: os, j, t, g, t', g', h => by
    have h : (match wanted (kev b t) o.grd with
      | true => match opK orc call (allow draw base o.pre) base (base + j) o.op (kev b t) g with
        | some (v, g) => putO o.dst v t fun t => regK orc call b draw base os (j + 1) t g
        | none => none
      | false => putO o.dst .undef t fun t => regK orc call b draw base os (j + 1) t g) = some (t', g') := h
    simp only [regE]
    cases hw : wanted (kev b t) o.grd with
    | true =>
      rw [hw] at h
      simp only [if_true]
      cases hop : opK orc call (allow draw base o.pre) base (base + j) o.op (kev b t) g with
      | none => rw [hop] at h; cases h
      | some r =>
        obtain ⟨v, g1⟩ := r
        rw [hop] at h
        simp only at h
        rw [opK_ok ho hc hop]
        obtain ⟨t1, e1, e2⟩ := putO_ok b o.dst v t fun t => regK orc call b draw base os (j + 1) t g1
        rw [e1] at h
        simp only
        rw [← e2]
        exact regK_ok hc h
    | false =>
      rw [hw] at h
      simp only [Bool.false_eq_true, if_false]
      obtain ⟨t1, e1, e2⟩ := putO_ok b o.dst .undef t fun t => regK orc call b draw base os (j + 1) t g
      simp only [e1] at h
      rw [← e2]
      exact regK_ok hc h
theorem codeK_ok {call : CS} (hc : CLe call (callS F)) {b : Env} {k : Nat} : ∀ {c : ACode} {t : ET} {g : G} {o t' g'}, codeK orc call b k c t g = some (o, t', g') → codeS F c (kev b t) g = some (o, kev b t', g') := by
  intro c
  induction c with
  | skip => intro t g o t' g' h; cases h; exact codeS_skip F _ _
  | lab => intro t g o t' g' h; cases h; exact codeS_lab F _ _
  | ext id => intro t g o t' g' h; cases h; exact codeS_ext F _ _ _
  | ret => intro t g o t' g' h; cases h; exact codeS_ret F _ _
  | scp c ih => intro t g o t' g' h; rw [codeS_scp]; exact ih h
  | lck n c ih => intro t g o t' g' h; rw [codeS_lck]; exact ih h
  | lckS n c ih => intro t g o t' g' h; rw [codeS_lckS]; exact ih h
  | tmp c ih =>
    intro t g o t' g' h
    have h : (none : Option (Out × ET × G)) = some (o, t', g') := h
    cases h
  | imm n c ih =>
    intro t g o t' g' h
    have h : (match frzK g.hp depth (kev b t n) with
      | some v => ET.putK v (n + 1) t n fun t' => codeK orc call b k c t' ⟨lock g.hp (vis g.hp depth (kev b t n)), g.nx⟩
      | none => none) = some (o, t', g') := h
    rw [frzK_ok] at h
    rw [codeS_imm]
    cases hf : frz g.hp depth (kev b t n) with
    | none => rw [hf] at h; cases h
    | some v =>
      rw [hf] at h
      obtain ⟨t1, e1, e2⟩ := putO_ok b (some n) v t fun t' => codeK orc call b k c t' ⟨lock g.hp (vis g.hp depth (kev b t n)), g.nx⟩
      have e1' : ET.putK v (n + 1) t n (fun t' => codeK orc call b k c t' ⟨lock g.hp (vis g.hp depth (kev b t n)), g.nx⟩) = _ := e1
      simp only [e1'] at h
      have e3 : upd (kev b t) n v = kev b t1 := e2.symm
      simp only [e3]
      exact ih h
  | reg draw ops =>
    intro t g o t' g' h
    have h : (frcN g.nx fun base => frcN (base + ops.length) fun nx => match regK orc call b draw base ops 0 t ⟨g.hp, nx⟩ with
      | some (t, g) => some (Out.nrm, t, g)
      | none => none) = some (o, t', g') := h
    simp only [frcN_ok] at h
    rw [codeS_reg]
    cases hr : regK orc call b draw g.nx ops 0 t ⟨g.hp, g.nx + ops.length⟩ with
    | none => rw [hr] at h; cases h
    | some r =>
      obtain ⟨t1, g1⟩ := r
      rw [hr] at h
      cases h
      rw [regK_ok ho hc hr]
  | seq x y ihx ihy =>
    intro t g o t' g' h
    have h : (match codeK orc call b k x t g with
      | some (.nrm, t, g) => codeK orc call b k y t g
      | r => r) = some (o, t', g') := h
    rw [codeS_seq]
    cases hx : codeK orc call b k x t g with
    | none => rw [hx] at h; cases h
    | some r =>
      obtain ⟨o1, t1, g1⟩ := r
      rw [hx] at h
      rw [ihx hx]
      cases o1 with
      | nrm => exact ihy h
      | ext n => cases h; rfl
      | ret => cases h; rfl
  | cond x y z ihy ihz =>
    intro t g o t' g' h
    have h : (match x.ev (kev b t) with
      | .b w => Bool.rec (motive := fun _ => Option (Out × ET × G)) (codeK orc call b k z t g) (codeK orc call b k y t g) w
      | _ => none) = some (o, t', g') := h
    rw [codeS_cond]
    generalize x.ev (kev b t) = v at h ⊢
    cases v with
    | b w =>
      cases w with
      | true => exact ihy h
      | false => exact ihz h
    | _ => cases h
  | blk id c ih =>
    intro t g o t' g' h
    have h : (match codeK orc call b k c t g with
      | some (.ext n, t, g) => some (Bool.rec (motive := fun _ => Out) (.ext n) .nrm (Nat.beq n id), t, g)
      | r => r) = some (o, t', g') := h
    rw [codeS_blk]
    cases hx : codeK orc call b k c t g with
    | none => rw [hx] at h; cases h
    | some r =>
      obtain ⟨o1, t1, g1⟩ := r
      rw [hx] at h
      rw [ih hx]
      cases o1 with
      | nrm => cases h; rfl
      | ret => cases h; rfl
      | ext n =>
        simp only at h ⊢
        cases hb : Nat.beq n id with
        | true => rw [hb] at h; cases h; rw [if_pos (Nat.eq_of_beq_eq_true hb)]
        | false => rw [hb] at h; cases h; rw [if_neg (Nat.ne_of_beq_eq_false hb)]
  | loop c ih =>
    intro t g o t' g' h
    have key : ∀ (j : Nat) (t : ET) (g : G), iterK (codeK orc call b k c) j t g = some (o, t', g') → codeS F (.loop c) (kev b t) g = some (o, kev b t', g') := by
      intro j
      induction j with
      | zero => intro t g h; cases h
      | succ j ihj =>
        intro t g h
        have h : (match codeK orc call b k c t g with
          | some (.nrm, t, g) => iterK (codeK orc call b k c) j t g
          | r => r) = some (o, t', g') := h
        rw [codeS_loop]
        cases hx : codeK orc call b k c t g with
        | none => rw [hx] at h; cases h
        | some r =>
          obtain ⟨o1, t1, g1⟩ := r
          rw [hx] at h
          rw [ih hx]
          cases o1 with
          | nrm => exact ihj _ _ h
          | ext n => cases h; rfl
          | ret => cases h; rfl
    exact key k t g h
theorem callK_ok : ∀ (k : Nat), CLe (callK orc F k) (callS F)
  | 0 => fun _ _ _ _ h => by cases h
  | k + 1 => fun f asx g r h => by
    have h : (match F f with
      | none => none
      | some fn => match codeK orc (callK orc F k) (argEnv asx) k fn.body .leaf g with
        | some (.nrm, t, g) => (resE fn.res (kev (argEnv asx) t) g).map (·, g)
        | some (.ret, t, g) => (resE fn.res (kev (argEnv asx) t) g).map (·, g)
        | _ => none) = some r := h
    rw [callS_eq]
    cases hF : F f with
    | none => rw [hF] at h; cases h
    | some fn =>
      rw [hF] at h
      simp only at h ⊢
      have e0 : kev (argEnv asx) .leaf = argEnv asx := rfl
      cases hx : codeK orc (callK orc F k) (argEnv asx) k fn.body .leaf g with
      | none => rw [hx] at h; cases h
      | some q =>
        obtain ⟨o1, t1, g1⟩ := q
        rw [hx] at h
        have := codeK_ok ho (callK_ok k) hx
        rw [e0] at this
        rw [this]
        cases o1 with
        | nrm => exact h
        | ext n => cases h
        | ret => exact h
noncomputable def evK (orc : Orc) (F : Funs) (k : Nat) (rs : List ARes) (c : ACode) (e : Env) (g : G) : Bool :=
  match codeK orc (callK orc F k) e k c .leaf g with
  | some (.nrm, t, g) => (match resE rs (kev e t) g with | some v => (match frzK g.hp depth v with | some (.b x) => x | _ => false) | none => false)
  | some (.ret, t, g) => (match resE rs (kev e t) g with | some v => (match frzK g.hp depth v with | some (.b x) => x | _ => false) | none => false)
  | _ => false
theorem W_eval (k : Nat) {rs : List ARes} {c : ACode} {e : Env} {g : G} (h : evK orc F k rs c e g = true) : W F c e g (retQ rs (.b true)) := by
  unfold evK at h
  have fin : ∀ (t : ET) (g : G), (match resE rs (kev e t) g with | some v => (match frzK g.hp depth v with | some (.b x) => x | _ => false) | none => false) = true → (match resE rs (kev e t) g with | some v0 => frz g.hp depth v0 | none => none) = some (.b true) := by
    intro t g h
    cases hr : resE rs (kev e t) g with
    | none => rw [hr] at h; cases h
    | some v =>
      rw [hr] at h
      simp only [frzK_ok] at h ⊢
      cases hf : frz g.hp depth v with
      | none => rw [hf] at h; cases h
      | some w =>
        rw [hf] at h
        cases w <;> first | (cases h; done) | (simp only at h; subst h; rfl)
  split at h
  · rename_i t g1 hx
    exact ⟨_, _, _, codeK_ok ho (callK_ok ho k) hx, fin t g1 h⟩
  · rename_i t g1 hx
    exact ⟨_, _, _, codeK_ok ho (callK_ok ho k) hx, fin t g1 h⟩
  · cases h
theorem pure_eval (k : Nat) {f : Nat} {fn : AFun} {asx : List AV} (hF : F f = some fn) (h : evK orc F k fn.res fn.body (argEnv asx) g0 = true) : pureS F f asx = some (.b true) :=
  pure_of hF (W_eval ho k h)
end
def orc0 : Orc := fun _ _ => none
theorem orc0_ok (F : Funs) : OrcOk F orc0 := fun _ _ _ h => by cases h
end Go.Ab
end
section
set_option linter.unusedVariables false
set_option linter.unusedSimpArgs false
namespace Go.Ab
open Go.RowKit
def c0 (num : Nat → Nat) (w : World) : Cx := ⟨num, w.heap.size, fun _ => True, w, fun _ => (0, 0), fun _ => none⟩
theorem row_calls {P : Program} {num : Nat → Nat} {F : Funs} (hT : Table P num F) (hm : P.follows .mixedOrders = true) {f : Nat} {asx : List AV} {b : Bool} (h : pureS F f asx = some (.b b)) {w : World} {vargs : List Value} (hr : Reps (c0 num w) true asx vargs) :
    Calls P (num f) vargs.toArray w (fun e w' => e = .returned (.bool b) ∧ Below w.heap.size w w') := by
  obtain ⟨k, g', hk⟩ := pureS_bool h
  have K : Ok (c0 num w) 0 := {
    basele := Nat.le_refl _
    cells := fun _ _ _ h => by cases h
    maps := fun _ _ h => by cases h
    toks := fun _ h => by cases h
    inj := fun _ _ _ h => by obtain ⟨_, h, _⟩ := h; cases h
    fresh := fun _ _ => rfl }
  have := ((callE_ok hT hm k).2 f asx g0 _ _ hk).2 (c0 num w) vargs rfl rfl K hr
  refine Calls.mono this.1 fun e w' ⟨val, c', h1, h2, E, _, _, hrep⟩ => ?_
  cases hrep
  exact ⟨h1, h2 ▸ E.below⟩
def intsC (l : List Int) : List AV := l.map fun v => .i .i64 v
def pairsC (l : List (Int × Int)) : List AV := l.flatMap fun p => [.i .i64 p.1, .i .i64 p.2]
end Go.Ab
end
section
set_option linter.unusedVariables false
set_option linter.unusedSimpArgs false
namespace Go.Ab
abbrev Rw := Nat → BitVec 64
def U (x : BitVec 64) : AV := .i .u64 (x.toNat : Int)
def rowsC (R : Rw) : List AV := (List.range 40).map fun a => U (R a)
def relC (n : Nat) (R : Rw) : List AV := .i .i64 n :: rowsC R
theorem rowsC_len (R : Rw) : (rowsC R).length = 40 := by simp [rowsC]
theorem rowsC_get {R : Rw} {a : Nat} (h : a < 40) : (rowsC R)[a]? = some (U (R a)) := by
  simp [rowsC, h]
end Go.Ab
end
section
set_option linter.unusedVariables false
set_option linter.unusedSimpArgs false
namespace Go.Ab
variable {F : Funs}
def has (n : Nat) (R : Rw) (a b : Int) : Bool := decide (0 ≤ a ∧ a < n ∧ 0 ≤ b ∧ b < n) && (R a.toNat).getLsbD b.toNat
end Go.Ab
end
section
set_option linter.unusedVariables false
set_option linter.unusedSimpArgs false
namespace Go.Ab
variable {F : Funs}
theorem i64_wrap {x : Int} (h : -9223372036854775808 ≤ x) (h2 : x ≤ 9223372036854775807) : IntKind.i64.wrap x = x := by
  simp [IntKind.wrap, IntKind.bits, IntKind.signed, IntKind.min, IntKind.max]
  omega
end Go.Ab
end
section
set_option linter.unusedVariables false
set_option linter.unusedSimpArgs false
namespace Go.Ab
variable {F : Funs}
def Live (g : G) (esz : Nat) (t : Tok) : Prop := t = .rig ∨ ∃ τ, t = .own τ esz ∧ g.hp τ = some (.tok true) ∧ τ < g.nx
end Go.Ab
end
section
set_option linter.unusedVariables false
set_option linter.unusedSimpArgs false
namespace Go.Ab
def hb (R : Rw) (a b : Nat) : Bool := (R a).getLsbD b
inductive Thru (r : Nat → Nat → Prop) (k : Nat) : Nat → Nat → Prop
  | one {a b} : r a b → Thru r k a b
  | join {a c b} : c < k → Thru r k a c → Thru r k c b → Thru r k a b
theorem Thru.mono {r : Nat → Nat → Prop} {k k' : Nat} (h : k ≤ k') {a b : Nat} (t : Thru r k a b) : Thru r k' a b := by
  induction t with
  | one h => exact .one h
  | join hc _ _ ih1 ih2 => exact .join (by omega) ih1 ih2
inductive Steps' (r : Nat → Nat → Prop) : Nat → Nat → Prop
  | one {a b} : r a b → Steps' r a b
  | join {a c b} : Steps' r a c → Steps' r c b → Steps' r a b
end Go.Ab
end
section
set_option linter.unusedVariables false
set_option linter.unusedSimpArgs false
namespace Go.Ab
variable {F : Funs}
theorem t1_neg (u n : Int) (e1 : u % n + n * (u / n) = u) : -u = (n - u % n) + n * (-(u / n) - 1) := by
  have e2 : n * (-(u / n) - 1) = -(n * (u / n)) - n := by rw [Int.mul_sub, Int.mul_neg, Int.mul_one]
  rw [e2]
  generalize n * (u / n) = c at *
  generalize u % n = b at *
  omega
theorem tmod_cases {v n : Int} (hn : 0 < n) : (if v.tmod n < 0 then v.tmod n + n else v.tmod n) = v % n := by
  have h2 := Int.emod_nonneg v (by omega : n ≠ 0)
  have h3 := Int.emod_lt_of_pos v hn
  by_cases hv : 0 ≤ v
  · rw [Int.tmod_eq_emod_of_nonneg hv, if_neg (by omega)]
  · obtain ⟨u, rfl⟩ : ∃ u, v = -u := ⟨-v, by omega⟩
    rw [Int.neg_tmod, Int.tmod_eq_emod_of_nonneg (by omega : 0 ≤ u)]
    have h4 := Int.emod_nonneg u (by omega : n ≠ 0)
    have h5 := Int.emod_lt_of_pos u hn
    have e1 := Int.emod_add_mul_ediv u n
    by_cases h6 : u % n = 0
    · rw [h6, Int.neg_zero, if_neg (by omega)]
      exact (Int.emod_eq_zero_of_dvd (Int.dvd_neg.2 (Int.dvd_of_emod_eq_zero h6))).symm
    · rw [if_pos (by omega)]
      have e3 : (-u) % n = n - u % n := by
        rw [t1_neg u n e1, Int.add_mul_emod_self_left, Int.emod_eq_of_lt (by omega) (by omega)]
      rw [e3]
      omega
theorem tmod_bound {v n : Int} (hn : 0 < n) : -n ≤ v.tmod n ∧ v.tmod n < n := by
  refine ⟨?_, Int.tmod_lt_of_pos v hn⟩
  have h1 := tmod_cases (v := v) hn
  have h2 := Int.emod_nonneg v (by omega : n ≠ 0)
  split at h1 <;> omega
def place (v n : Int) : Int := v % n
theorem place_lt {v n : Int} (hn : 0 < n) : 0 ≤ place v n ∧ place v n < n := ⟨Int.emod_nonneg v (by omega), Int.emod_lt_of_pos v hn⟩
theorem sp_place (h10 : F 10 = some A_xlaw00_Place) {v n : Int} (hn : 0 < n) (hb : n ≤ 4611686018427387904) : pureS F 10 [.i .i64 v, .i .i64 n] = some (.i .i64 (place v n)) := by
  refine pure_of h10 ?_
  have h1 := tmod_cases (v := v) hn
  obtain ⟨h2, h3⟩ := tmod_bound (v := v) hn
  unfold place
  by_cases h : v.tmod n < 0
  · have hw : IntKind.i64.wrap (v.tmod n + n) = v.tmod n + n := i64_wrap (by omega) (by omega)
    rw [if_pos h] at h1
    simp (disch := omega) only [A_xlaw00_Place, wp, Nat.reduceAdd, Nat.reduceMul, Nat.reduceSub, b_rem, h, hw]
    rw [h1]
  · rw [if_neg h] at h1
    simp (disch := omega) only [A_xlaw00_Place, wp, Nat.reduceAdd, Nat.reduceMul, Nat.reduceSub, b_rem, h]
    rw [h1]
end Go.Ab
end
section
set_option linter.unusedVariables false
set_option linter.unusedSimpArgs false
namespace Go.Ab
variable {F : Funs}
theorem Steps'.mono {r s : Nat → Nat → Prop} (h : ∀ a b, r a b → s a b) {a b : Nat} (t : Steps' r a b) : Steps' s a b := by
  induction t with
  | one h' => exact .one (h _ _ h')
  | join _ _ i1 i2 => exact .join i1 i2
theorem Steps'.first {r : Nat → Nat → Prop} {a b : Nat} (t : Steps' r a b) : r a b ∨ ∃ c, r a c ∧ Steps' r c b := by
  induction t with
  | one h => exact .inl h
  | @join a c b t1 t2 i1 i2 =>
    rcases i1 with h | ⟨d, h1, h2⟩
    · exact .inr ⟨c, h, t2⟩
    · exact .inr ⟨d, h1, .join h2 t2⟩
end Go.Ab
end
section
set_option linter.unusedVariables false
set_option linter.unusedSimpArgs false
namespace Go.Ab
structure Ev where
  th : Int
  kd : Int
  md : Int
  lc : Int
  vl : Int
  ex : Bool
structure Gr where
  locs : Int
  evs : List Ev
  rf : List Int
  co : List (List Int)
  rmw : List (Int × Int)
  data : List (Int × Int)
  ctrl : List (Int × Int)
  ctrli : List (Int × Int)
def evC (e : Ev) : List AV := [.i .i64 e.th, .i .i64 e.kd, .i .i64 e.md, .i .i64 e.lc, .i .i64 e.vl, .b e.ex]
def evsC (l : List Ev) : List AV := l.flatMap evC
def coC (l : List (List Int)) : List AV := l.map fun c => .sl (intsC c) c.length .non
def grC (g : Gr) : List AV := [.i .i64 g.locs, .sl (evsC g.evs) g.evs.length .non, .sl (intsC g.rf) g.rf.length .non, .sl (coC g.co) g.co.length .non,
  .sl (pairsC g.rmw) g.rmw.length .non, .sl (pairsC g.data) g.data.length .non, .sl (pairsC g.ctrl) g.ctrl.length .non, .sl (pairsC g.ctrli) g.ctrli.length .non]
theorem evsC_len (l : List Ev) : (evsC l).length = l.length * 6 := by
  induction l with
  | nil => rfl
  | cons p l ih => simp only [evsC, List.flatMap_cons, List.length_append, List.length_cons, evC, List.length_nil] at ih ⊢; omega
theorem coC_len (l : List (List Int)) : (coC l).length = l.length := by simp [coC]
theorem splice_ev (e : Ev) : splice (List.replicate 5 (AV.i .i64 0) ++ [.b false]) 0 (evC e) = evC e := rfl
theorem part_22 (a b : AV) : part [a, b] 0 (some 2) = some (.agg [a, b]) := rfl
theorem evC_len (e : Ev) : (evC e).length = 6 := rfl
theorem evC_one (e : Ev) : (evC e).all one = true := rfl
theorem evC_flat (e : Ev) : (evC e).all flat = true := rfl
theorem evC_all (e : Ev) : part (evC e) 0 (some 6) = some (.agg (evC e)) := rfl
theorem ev_th (e : Ev) : part (evC e) 0 none = some (.i .i64 e.th) := rfl
theorem ev_kd (e : Ev) : part (evC e) 1 none = some (.i .i64 e.kd) := rfl
theorem ev_md (e : Ev) : part (evC e) 2 none = some (.i .i64 e.md) := rfl
theorem ev_lc (e : Ev) : part (evC e) 3 none = some (.i .i64 e.lc) := rfl
theorem ev_vl (e : Ev) : part (evC e) 4 none = some (.i .i64 e.vl) := rfl
theorem ev_ex (e : Ev) : part (evC e) 5 none = some (.b e.ex) := rfl
theorem grC_len (g : Gr) : (grC g).length = 8 := rfl
theorem grC_one (g : Gr) : (grC g).all one = true := rfl
theorem grC_all (g : Gr) : part (grC g) 0 (some 8) = some (.agg (grC g)) := rfl
theorem gr_locs (g : Gr) : part (grC g) 0 none = some (.i .i64 g.locs) := rfl
theorem gr_evs (g : Gr) : part (grC g) 1 none = some (.sl (evsC g.evs) g.evs.length .non) := rfl
theorem gr_rf (g : Gr) : part (grC g) 2 none = some (.sl (intsC g.rf) g.rf.length .non) := rfl
theorem gr_co (g : Gr) : part (grC g) 3 none = some (.sl (coC g.co) g.co.length .non) := rfl
theorem gr_rmw (g : Gr) : part (grC g) 4 none = some (.sl (pairsC g.rmw) g.rmw.length .non) := rfl
theorem gr_data (g : Gr) : part (grC g) 5 none = some (.sl (pairsC g.data) g.data.length .non) := rfl
theorem gr_ctrl (g : Gr) : part (grC g) 6 none = some (.sl (pairsC g.ctrl) g.ctrl.length .non) := rfl
theorem gr_ctrli (g : Gr) : part (grC g) 7 none = some (.sl (pairsC g.ctrli) g.ctrli.length .non) := rfl
theorem frz_gr (hp) (g : Gr) : frz hp depth (.agg (grC g)) = some (.agg (grC g)) := by
  refine frz_d_agg ?_
  show frzL hp (7 + 1) _ = _
  simp only [grC, frzL, frz]
theorem frz_ev (hp) (e : Ev) : frz hp depth (.agg (evC e)) = some (.agg (evC e)) := frz_d_agg (frzL_flat (d := 7) (evC_flat e))
theorem vis_gr (hp) (g : Gr) : vis hp depth (.agg (grC g)) = [] := by
  show vis hp (8 + 1) _ = _
  simp only [vis, grC, List.flatMap_cons, List.flatMap_nil, List.nil_append, List.append_nil]
theorem vis_ev (hp) (e : Ev) : vis hp depth (.agg (evC e)) = [] := by
  show vis hp (8 + 1) _ = _
  simp only [vis, evC, List.flatMap_cons, List.flatMap_nil, List.nil_append, List.append_nil]
set_option maxRecDepth 10000 in
theorem gl : type_of% (And.intro (And.intro (And.intro (And.intro (And.intro @evC_len @evC_one) (And.intro @evC_flat (And.intro @evC_all @ev_th))) (And.intro (And.intro @ev_kd @ev_md) (And.intro @ev_lc (And.intro @ev_vl @ev_ex)))) (And.intro (And.intro (And.intro @grC_len @grC_one) (And.intro @grC_all (And.intro @gr_locs @gr_evs))) (And.intro (And.intro @gr_rf (And.intro @gr_co @gr_rmw)) (And.intro @gr_data (And.intro @gr_ctrl @gr_ctrli))))) (And.intro (And.intro (And.intro (And.intro @frz_gr @frz_ev) (And.intro @vis_gr (And.intro @vis_ev @splice_ev))) (And.intro (And.intro @evsC_len @coC_len) (And.intro @o_raw (And.intro @vRaw_fn @res_0)))) (And.intro (And.intro (And.intro @retP_nrm @retP_ret) (And.intro @o_mget (And.intro @vMget_S @mgS_map))) (And.intro (And.intro @o_mkmap (And.intro @o_mput @vMput_S)) (And.intro @mpS_map (And.intro @mpO_none @part_22)))))) := (And.intro (And.intro (And.intro (And.intro (And.intro @evC_len @evC_one) (And.intro @evC_flat (And.intro @evC_all @ev_th))) (And.intro (And.intro @ev_kd @ev_md) (And.intro @ev_lc (And.intro @ev_vl @ev_ex)))) (And.intro (And.intro (And.intro @grC_len @grC_one) (And.intro @grC_all (And.intro @gr_locs @gr_evs))) (And.intro (And.intro @gr_rf (And.intro @gr_co @gr_rmw)) (And.intro @gr_data (And.intro @gr_ctrl @gr_ctrli))))) (And.intro (And.intro (And.intro (And.intro @frz_gr @frz_ev) (And.intro @vis_gr (And.intro @vis_ev @splice_ev))) (And.intro (And.intro @evsC_len @coC_len) (And.intro @o_raw (And.intro @vRaw_fn @res_0)))) (And.intro (And.intro (And.intro @retP_nrm @retP_ret) (And.intro @o_mget (And.intro @vMget_S @mgS_map))) (And.intro (And.intro @o_mkmap (And.intro @o_mput @vMput_S)) (And.intro @mpS_map (And.intro @mpO_none @part_22))))))
end Go.Ab
end
section
set_option linter.unusedVariables false
set_option linter.unusedSimpArgs false
namespace Go.Ab
variable {F : Funs}
structure EcoSt (X : Gr) (l : List (Int × Int)) (g : G) : Prop where
  gr : g.hp 0 = some (.cells (grC X) false)
  put : ∃ t, g.hp 2 = some (.cells [.sl (pairsC l) l.length t] false) ∧ Live g 2 t
  f4 : g.hp 4 = some (.cells [.fn 92 [] [.mp 2 0]] false)
  f7 : g.hp 7 = some (.cells [.fn 93 [] [.mp 0 0, .mp 4 0]] false)
  m9 : g.hp 9 = some (.map [(.s ⟨#[114, 102]⟩, .fn 94 [] [.mp 4 0]), (.s ⟨#[99, 111]⟩, .fn 95 [] [.mp 7 0]), (.s ⟨#[102, 114]⟩, .fn 96 [] [.mp 7 0])])
  nx : 9 < g.nx
def Kept (g g' : G) : Prop := g.nx ≤ g'.nx ∧ ∀ i, 9 < i → i < g.nx → CM (g.hp i) → g'.hp i = g.hp i
theorem Kept.refl (g : G) : Kept g g := ⟨Nat.le_refl _, fun _ _ _ _ => rfl⟩
theorem Kept.trans {g g1 g2 : G} (h : Kept g g1) (k : Kept g1 g2) : Kept g g2 := ⟨Nat.le_trans h.1 k.1, fun i h1 h2 h3 => by
  have e := h.2 i h1 h2 h3
  rw [← e]
  exact k.2 i h1 (Nat.lt_of_lt_of_le h2 h.1) (by rw [e]; exact h3)⟩
theorem EcoSt.same {X : Gr} {l : List (Int × Int)} {g g' : G} (h : EcoSt X l g) (k : Kept g g') (h9 : ∀ i, i ≤ 9 → g'.hp i = g.hp i) (ht : ∀ i b, g.hp i = some (.tok b) → g'.hp i = g.hp i) : EcoSt X l g' := by
  obtain ⟨t, h1, h2⟩ := h.put
  refine ⟨by rw [h9 0 (by omega)]; exact h.gr, ⟨t, by rw [h9 2 (by omega)]; exact h1, ?_⟩, by rw [h9 4 (by omega)]; exact h.f4, by rw [h9 7 (by omega)]; exact h.f7, by rw [h9 9 (by omega)]; exact h.m9, Nat.lt_of_lt_of_le h.nx k.1⟩
  rcases h2 with rfl | ⟨τ, rfl, hτ, hlt⟩
  · exact .inl rfl
  · exact .inr ⟨τ, rfl, by rw [ht τ _ hτ]; exact hτ, Nat.lt_of_lt_of_le hlt k.1⟩
end Go.Ab
end
section
set_option linter.unusedVariables false
set_option linter.unusedSimpArgs false
namespace Go.Ab
variable {F : Funs}
theorem EcoSt.on {X : Gr} {l : List (Int × Int)} {g : G} (h : EcoSt X l g) {n : Nat} (hn : g.nx ≤ n) : EcoSt X l ⟨g.hp, n⟩ :=
  h.same ⟨hn, fun _ _ _ _ => rfl⟩ (fun _ _ => rfl) (fun _ _ _ => rfl)
theorem Kept.on {g g' : G} (h : Kept g g') {n : Nat} (hn : g'.nx ≤ n) : Kept g ⟨g'.hp, n⟩ := ⟨Nat.le_trans h.1 hn, h.2⟩
theorem Kept.from {g g' : G} {n : Nat} (hn : g.nx ≤ n) (h : Kept ⟨g.hp, n⟩ g') : Kept g g' := ⟨Nat.le_trans hn h.1, fun i h1 h2 h3 => h.2 i h1 (Nat.lt_of_lt_of_le h2 hn) h3⟩
end Go.Ab
end
section
set_option linter.unusedVariables false
set_option linter.unusedSimpArgs false
namespace Go.Ab
variable {F : Funs}
theorem EcoSt.grow {X : Gr} {l : List (Int × Int)} {g g' : G} (h : EcoSt X l g) (hn : g.nx ≤ g'.nx) (ho : ∀ i, i < g.nx → g'.hp i = g.hp i) : EcoSt X l g' ∧ Kept g g' := by
  have h9 := h.nx
  obtain ⟨t, h1, h2⟩ := h.put
  refine ⟨⟨by rw [ho 0 (by omega)]; exact h.gr, ⟨t, by rw [ho 2 (by omega)]; exact h1, ?_⟩, by rw [ho 4 (by omega)]; exact h.f4, by rw [ho 7 (by omega)]; exact h.f7, by rw [ho 9 (by omega)]; exact h.m9, by omega⟩, hn, fun i _ hi _ => ho i hi⟩
  rcases h2 with rfl | ⟨τ, rfl, hτ, hlt⟩
  · exact .inl rfl
  · exact .inr ⟨τ, rfl, by rw [ho τ hlt]; exact hτ, by omega⟩
end Go.Ab
end
section
set_option linter.unusedVariables false
set_option linter.unusedSimpArgs false
namespace Go.Ab
variable {F : Funs}
def yesOrc (f0 : Nat) : Orc := fun f bs => if f = f0 then (match bs with | [] => some (.b true) | _ => none) else none
theorem yesOrc_ok {f0 : Nat} (h : pureS F f0 [] = some (.b true)) : OrcOk F (yesOrc f0) := by
  intro f bs v hv
  unfold yesOrc at hv
  split at hv
  · rename_i hf
    subst hf
    split at hv
    · cases hv; exact h
    · cases hv
  · cases hv
end Go.Ab
end
section
set_option linter.unusedVariables false
set_option linter.unusedSimpArgs false
namespace Go.Ab
variable {F : Funs}
def Lst (R : Rw) (zs : List Nat) : Prop := zs.length = 40 ∧ ∀ a, a < 40 → (R a).toNat = zs.getD a 0
theorem Lst.cells {n : Nat} {R : Rw} {zs : List Nat} (h : Lst R zs) : relC n R = .i .i64 n :: zs.map fun (x : Nat) => .i .u64 (x : Int) := by
  show AV.i .i64 (n : Int) :: rowsC R = _
  congr 1
  refine List.ext_getElem? fun i => ?_
  by_cases hi : i < 40
  · rw [rowsC_get hi, List.getElem?_map, List.getElem?_eq_getElem (by rw [h.1]; exact hi)]
    simp only [Option.map_some, U]
    rw [h.2 i hi, List.getD_eq_getElem?_getD, List.getElem?_eq_getElem (by rw [h.1]; exact hi), Option.getD_some]
  · rw [List.getElem?_eq_none (by rw [rowsC_len]; omega), List.getElem?_eq_none (by rw [List.length_map, h.1]; omega)]
noncomputable def newRow (n a : Nat) (l : List (Int × Int)) : Nat := List.rec (motive := fun _ => Nat) 0 (fun p _ ih => match p with
  | (.ofNat x, .ofNat y) => Bool.rec (motive := fun _ => Nat) ih (Bool.rec (motive := fun _ => Nat) ih (Nat.lor (Nat.shiftLeft 1 y) ih) (Nat.ble (Nat.add y 1) n)) (Nat.beq x a)
  | _ => ih) l
end Go.Ab
end
section
set_option linter.unusedVariables false
set_option linter.unusedSimpArgs false
namespace Go.Ab
variable {F : Funs}
structure FewG (X : Gr) : Prop where
  evs : X.evs.length ≤ 50
  rf : X.rf.length ≤ 60
  co : X.co.length ≤ 6
  cos : ∀ c ∈ X.co, c.length ≤ 50
  rmw : X.rmw.length ≤ 50
  data : X.data.length ≤ 300
  ctrl : X.ctrl.length ≤ 300
  ctrli : X.ctrli.length ≤ 300
end Go.Ab
end
section
set_option linter.unusedVariables false
set_option linter.unusedSimpArgs false
namespace Go.Ab
variable {F : Funs}
structure LenG (X : Gr) : Prop where
  fl : X.co.flatten.length ≤ 1000
  col : X.co.length ≤ 1000
  cos : ∀ k, (X.co.getD k []).length ≤ 1000
  rmw : X.rmw.length ≤ 1000
  data : X.data.length ≤ 1000
  ctrl : X.ctrl.length ≤ 1000
  ctrli : X.ctrli.length ≤ 1000
theorem flat_le : ∀ {l : List (List Int)} {m : Nat}, (∀ c ∈ l, c.length ≤ m) → l.flatten.length ≤ l.length * m
  | [], _, _ => by simp
  | c :: l, m, h => by
    have h1 := flat_le (l := l) (m := m) fun c hc => h c (List.mem_cons_of_mem _ hc)
    have h2 := h c (List.mem_cons_self ..)
    rw [List.flatten_cons, List.length_append, List.length_cons, Nat.succ_mul]
    omega
theorem FewG.len {X : Gr} (h : FewG X) : LenG X := by
  have h1 := flat_le h.cos
  have h2 := h.co
  have h3 : X.co.length * 50 ≤ 6 * 50 := Nat.mul_le_mul_right _ h2
  refine ⟨by omega, by omega, fun k => ?_, by have := h.rmw; omega, by have := h.data; omega, by have := h.ctrl; omega, by have := h.ctrli; omega⟩
  by_cases hk : k < X.co.length
  · have hm : X.co.getD k [] ∈ X.co := by
      rw [List.getD_eq_getElem?_getD, List.getElem?_eq_getElem hk]; exact List.getElem_mem hk
    have := h.cos _ hm; omega
  · rw [List.getD_eq_getElem?_getD, List.getElem?_eq_none (by omega)]; simp
end Go.Ab
end
section
set_option linter.unusedVariables false
set_option linter.unusedSimpArgs false
namespace Go.Ab
def sL : ACode → ACode
  | .seq a _ => a
  | c => c
def sR : ACode → ACode
  | .seq _ b => b
  | c => c
end Go.Ab
end
section
set_option linter.unusedVariables false
namespace Go.Ab
theorem kev_none {b : Env} {t : ET} {n : Nat} (h : (t.get n).isNone = true) : kev b t n = b n := by
  unfold kev
  cases hx : t.get n with
  | none => rfl
  | some v => rw [hx] at h; cases h
theorem W_assoc {F : Funs} {a b c : ACode} {e : Env} {g : G} {Q : Out → Env → G → Prop} : W F (.seq a (.seq b c)) e g Q = W F (.seq (.seq a b) c) e g Q := by
  rw [W_seq, W_seq, W_seq]
  congr 1
  funext o e g
  cases o <;> simp only [thenQ_nrm, thenQ_ext, thenQ_ret, W_seq]
noncomputable def evM (orc : Orc) (F : Funs) (k : Nat) (c : ACode) (chk : ET → G → Bool) (e : Env) (g : G) : Bool :=
  match codeK orc (callK orc F k) e k c .leaf g with
  | some (.nrm, t, g) => chk t g
  | _ => false
theorem W_mid {F : Funs} {orc : Orc} (ho : OrcOk F orc) (k : Nat) {c1 rest : ACode} {e : Env} {g : G} {Q : Out → Env → G → Prop} (chk : ET → G → Bool) (h : evM orc F k c1 chk e g = true) (hc : ∀ t g', chk t g' = true → W F rest (kev e t) g' Q) : W F (.seq c1 rest) e g Q := by
  rw [W_seq]
  unfold evM at h
  split at h
  · rename_i t g1 hx
    exact ⟨_, _, _, codeK_ok ho (callK_ok ho k) hx, hc t g1 h⟩
  · cases h
end Go.Ab
end
section
set_option linter.unusedVariables false
set_option linter.unusedSimpArgs false
set_option maxRecDepth 100000
namespace Go.Proofs.Ytgkoidglnjdgoaa
open Go.Ab
theorem W_tmpM {F : Funs} {orc : Orc} (ho : OrcOk F orc) (k : Nat) {c rest : ACode} {e : Env} {g : G} {Q : Out → Env → G → Prop} (chk : ET → G → Bool) (h : evM orc F k c chk e ⟨lock g.hp (List.range g.nx), g.nx⟩ = true)
    (hc : ∀ t g2, chk t g2 = true → tmpOk g.hp g2.hp g.nx = true ∧ W F rest (tmpEnv g.hp (kev e t)) ⟨g.hp, g2.nx⟩ Q) : W F (.seq (.tmp c) rest) e g Q := by
  rw [W_seq, W_tmp]
  unfold evM at h
  split at h
  · rename_i t g1 hx
    exact ⟨_, _, _, codeK_ok ho (callK_ok ho k) hx, (hc t g1 h).1, (hc t g1 h).2⟩
  · cases h
theorem gw_awake : pureS funs 153 [] = some (.b true) := pure_eval (orc0_ok funs) 1000 (fn := A_xlaw06_awake) rfl (by kernel_rfl)
def gwO : Orc := yesOrc 153
theorem gwO_ok : OrcOk funs gwO := yesOrc_ok gw_awake
noncomputable def isF (v : AV) : Bool := match v with
  | .b x => !x
  | _ => false
theorem isF_ok {v : AV} (h : isF v = true) : v = .b false := by
  unfold isF at h
  split at h
  · rename_i x
    cases x
    · rfl
    · cases h
  · cases h
def tmpOf : ACode → ACode
  | .tmp c => c
  | c => c
def gw3 : ACode := sR (sR (sR A_xlaw06_GraphWrong.body))
def gwT : ACode := tmpOf (sL (sL gw3))
def gwC : ACode := sR (sL gw3)
def gw4 : ACode := sR gw3
def gwH : ACode := sL (sL gw4)
def gwR : ACode := .seq (sR (sL gw4)) (sR gw4)
def gwS : ACode := .seq (.seq (.tmp gwT) gwC) (.seq (.seq gwH (sR (sL gw4))) (sR gw4))
theorem gw_cut : A_xlaw06_GraphWrong.body = .seq (sL A_xlaw06_GraphWrong.body) (.seq (sL (sR A_xlaw06_GraphWrong.body)) (.seq (sL (sR (sR A_xlaw06_GraphWrong.body))) gwS)) := rfl
theorem gw_S {e : Env} {g : G} {Q : Out → Env → G → Prop} : W funs gwS e g Q = W funs (.seq (.tmp gwT) (.seq gwC (.seq gwH gwR))) e g Q := by
  unfold gwS gwR
  rw [← W_assoc, W_seq, W_seq]
  congr 1
  funext o e g
  cases o <;> simp only [thenQ_nrm, thenQ_ext, thenQ_ret, W_seq]
  congr 1
  funext o e g
  cases o <;> simp only [thenQ_nrm, thenQ_ext, thenQ_ret, W_seq]
  congr 1
  funext o e g
  cases o <;> simp only [thenQ_nrm, thenQ_ext, thenQ_ret, W_seq]
noncomputable def gwChk (n v : Int) (e : Env) (g : G) : ET → G → Bool := fun t g2 => ((tmpOk g.hp g2.hp g.nx && isF (kev e t 38)) && (t.get 0).isNone) && evK gwO funs 1000 [.t 4] gwR (upd (upd (tmpEnv g.hp (kev e t)) 39 (.i .i64 v)) 40 (.i .i64 n)) ⟨g.hp, g2.nx + 2⟩
theorem gw_tail {n v : Int} {e : Env} {g : G} (he : e 0 = .i .i64 v) {t : ET} {g2 : G} (h : gwChk n v e g t g2 = true) (hp : pureS funs 10 [.i .i64 v, .i .i64 18] = some (.i .i64 n)) :
    tmpOk g.hp g2.hp g.nx = true ∧ W funs (.seq gwC (.seq gwH gwR)) (tmpEnv g.hp (kev e t)) ⟨g.hp, g2.nx⟩ (retQ [.t 4] (.b true)) := by
  unfold gwChk at h
  rw [Bool.and_eq_true, Bool.and_eq_true, Bool.and_eq_true] at h
  obtain ⟨⟨⟨a0, a1⟩, a2⟩, a3⟩ := h
  refine ⟨a0, ?_⟩
  have e38 : tmpEnv g.hp (kev e t) 38 = .b false := by
    show rigid g.hp (kev e t 38) = _
    rw [isF_ok a1]; rfl
  have e0 : tmpEnv g.hp (kev e t) 0 = .i .i64 v := by
    show rigid g.hp (kev e t 0) = _
    rw [kev_none a2, he]; rfl
  have w1 := W_eval gwO_ok 1000 a3
  generalize tmpEnv g.hp (kev e t) = e' at e38 e0 w1
  generalize gwR = rest at w1
  simp (disch := omega) only [gwC, gwH, gw4, gw3, A_xlaw06_GraphWrong, sL, sR, wp, Nat.reduceAdd, Nat.reduceMul, Nat.reduceSub, e38, e0, hp]
  exact w1
def gwG : ACode := sL (sR (sR A_xlaw06_GraphWrong.body))
noncomputable def gwChk0 (n v : Int) (e : Env) : ET → G → Bool := fun t g => (t.get 0).isNone && evM gwO funs 1000 gwT (gwChk n v (kev e t) g) (kev e t) ⟨lock g.hp (List.range g.nx), g.nx⟩
theorem gw_mid {n v : Int} {e : Env} {g : G} (he : e 0 = .i .i64 v) (hp : pureS funs 10 [.i .i64 v, .i .i64 18] = some (.i .i64 n)) (h : evM gwO funs 1000 gwG (gwChk0 n v e) e g = true) : W funs (.seq gwG gwS) e g (retQ [.t 4] (.b true)) := by
  refine W_mid gwO_ok 1000 (gwChk0 n v e) h fun t g' h1 => ?_
  unfold gwChk0 at h1
  rw [Bool.and_eq_true] at h1
  rw [gw_S]
  exact W_tmpM gwO_ok 1000 _ h1.2 fun t2 g2 h2 => gw_tail ((kev_none h1.1).trans he) h2 hp
theorem gw_pre {how v k0 : Int} (h0 : 0 ≤ k0) (h1 : k0 < 100) (hp1 : pureS funs 10 [.i .i64 v, .i .i64 100] = some (.i .i64 k0)) (h : ∀ e g, e = upd (upd (upd (upd (upd (argEnv [.i .i64 how, .i .i64 v]) 4 (.b false)) 7 (.i .i64 v)) 8 (.i .i64 k0)) 9 (.i .i64 (1 + k0))) 5 (.i .i64 (1 + k0)) → g = ⟨fun _ => none, 5⟩ → W funs (.seq gwG gwS) e g (retQ [.t 4] (.b true))) : pureS funs 138 [.i .i64 how, .i .i64 v] = some (.b true) := by
  refine pure_of (fn := A_xlaw06_GraphWrong) rfl ?_
  have wB : IntKind.i64.wrap (1 + k0) = 1 + k0 := wrap_id (by omega) (by omega)
  rw [gw_cut]
  show W funs (.seq _ (.seq _ (.seq gwG gwS))) _ _ _
  generalize hr : ACode.seq gwG gwS = rest at h
  simp (disch := omega) only [A_xlaw06_GraphWrong, sL, sR, wp, Nat.reduceAdd, Nat.reduceMul, Nat.reduceSub, hp1, wB]
  exact h _ _ rfl rfl
end Go.Proofs.Ytgkoidglnjdgoaa
end
