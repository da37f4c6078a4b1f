/- What GraphPo rests on, part 2: lemmas, no claim of its own. -/
import Derived.LoopN
import Derived.Scope
import Derived.Test.YtoldeneclhbcbaaChecked
import Derived.KernelRfl
import Derived.OpenShut
import Derived.ChangeArms
import Derived.Laws.Rows
import Derived.Test.YtoldeneclhbcbaaPGraphPo1
section
set_option linter.unusedVariables false
set_option linter.unusedSimpArgs false
namespace Go.Ab
open Go.RowKit
section
variable {P : Program} {o : Oper} {a : Act} {c : Cx} {e : Env} {g : G} {al : Nat → Bool} {r : AV × G}
theorem s_clr (he : EnvOk c e a) (K : Ok c g.nx) (hg : c.hp = g.hp) {esz : Nat} {zero : List AV} {x : Opd} (ho : opB P c.num o.op (.clr esz zero x) = true) (h : vClr al esz zero (x.ev e) g = some r) : Does P o a c r := by
  obtain ⟨dst, op, ty, pos, after, guard⟩ := o
  simp only [opB] at ho
  split at ho
  · rename_i cl
    obtain ⟨callee, args, argTypes⟩ := cl
    simp only [Bool.and_eq_true] at ho
    obtain ⟨h1, h2⟩ := ho
    split at h1
    · split at h2
      · rename_i y t ha ht
        have ha' := list_one ha
        have ht' := list_one ht
        subst ha' ht'
        simp only [Bool.and_eq_true] at h2
        obtain ⟨h3, h4⟩ := h2
        have hr := opdB_rep he h3
        split at h4
        · rename_i el hu
          simp only [Bool.and_eq_true] at h4
          obtain ⟨h5, h6⟩ := h4
          obtain ⟨i, z, hi, hz, hc, hs⟩ := zeroB_some h5
          rw [hi] at h6
          simp only [Bool.and_eq_true, beq_iff_eq, decide_eq_true_eq] at h6
          obtain ⟨h6, h8⟩ := h6
          unfold vClr at h
          split at h
          · rename_i b off n hx
            rw [hx] at hr
            obtain ⟨cap, hv, _⟩ := rep_ms hr
            split at h
            · rename_i cs hb
              have hb' : c.hp b = some (.cells cs false) := by
                unfold rd at hb; split at hb
                · rw [hg]; exact hb
                · cases hb
              split at h
              · rename_i hcnd
                obtain ⟨c0, c1, c2⟩ := hcnd
                cases h
                have hzr := constsB_rep hc c true
                have hzs : z.cells.size = esz := by
                  have := hzr.1
                  simp only [Array.length_toList] at this
                  omega
                have hcells : (Builtin.zeroCells z.cells n).toList = (List.replicate n z.cells.toList).flatten := by
                  unfold Builtin.zeroCells
                  have := flatten_range z.cells.toList (by rw [Array.length_toList]; omega) n
                  rw [Array.length_toList] at this
                  simp only [Array.toList_map, Array.toList_range]
                  rw [← this]
                  apply List.map_congr_left
                  intro j _
                  simp [getElem!_def]
                have hq : Reps c true (List.replicate n zero).flatten (List.replicate n z.cells.toList).flatten := Reps.replicate hzr _
                have hone := all_flatten (constsB_one hc) n
                have hlen : (List.replicate n zero).flatten.length = n * esz := by simp [c1]
                obtain ⟨_, vs, rs, ty', g2, g3, _⟩ := K.cells b cs _ hb'
                have hst := run_storeCells_cells (P := P) (c.loc b).1 off (List.replicate n z.cells.toList).flatten 0 c.w (fun j hj => by
                    rw [cell_of_heap g2]
                    have h9 := g3.1
                    rw [← hq.1, hlen] at hj
                    simp
                    omega) (fun j hj => by simp [World.frozen?, g2]) (hq.ones hone)
                refine ⟨.value (.tuple #[]), c.store b off cs (List.replicate n zero).flatten (List.replicate n z.cells.toList).flatten, .tuple #[], ?_, .inl rfl, Evo.store K hb' (by omega), K.store hb' hq (by omega) hone, by simp [Cx.store, hg], .tup [] rfl (fun j x v h => by simp at h)⟩
                obtain ⟨n, rfl⟩ : ∃ m, n = m + 1 := ⟨n - 1, by omega⟩
                simp only [Nat.add_zero] at hst
                rw [← hcells] at hst ⊢
                simp [execOp, hv, resolve, invoke, builtin, Builtin.clear_, run_underlying hu, zeroValue, typeInfo, hi, hz, hst, Cx.store]
              · cases h
            · cases h
          · cases h
        · cases h4
      · cases h2
    · cases h1
  · cases ho
end
end Go.Ab
end
section
set_option linter.unusedVariables false
set_option linter.unusedSimpArgs false
namespace Go.Ab
open Go.RowKit
section
variable {P : Program} {a : Act} {c : Cx} {e : Env} {g : G} {al : Nat → Bool} {lo id : Nat} {r : AV × G} {call : CS}
theorem op_sim {o : Oper} {ao : AOp} (hcall : CallOk P c.num call) (he : EnvOk c e a) (K : Ok c g.nx) (hg : c.hp = g.hp) (hid : c.hp id = none) (hlt : id < g.nx) (ho : opB P c.num o.op ao = true) (h : opE call al lo id ao e g = some r) : DoesWp P o a c r := by
  cases ao with
  | mv x => exact (s_mv he K hg ho h).wp
  | pick x y z => exact (s_pick he K hg ho h).wp
  | new z => exact (s_new he K hg hid hlt ho h).wp
  | box x => exact (s_box he K hg hid hlt ho h).wp
  | boxI x => exact (s_boxI he K hg ho h).wp
  | build z ps => exact (s_build he K hg ho h).wp
  | bsl imm n z ps => exact (s_bsl he K hg hid hlt ho h).wp
  | ld agg x => exact (s_ld he K hg ho h).wp
  | st n x y => exact (s_st he K hg ho h).wp
  | ldF agg x => exact (s_ldF he K hg ho h).wp
  | ldQ agg x t => exact (s_ldQ he K hg ho h).wp
  | stN n x y ts => exact (s_stN he K hg ho h).wp
  | stW n x y => exact (s_stW he K hg ho h).wp
  | stL n x y => exact (s_stL he K hg ho h).wp
  | nilck x => exact (s_nilck he K hg ho h).wp
  | bin op x y => exact (s_bin he K hg ho h).wp
  | eqb neg x y => exact (s_eqb he K hg ho h).wp
  | eqn neg x y => exact (s_eqn he K hg ho h).wp
  | eqs neg x => exact (s_eqs he K hg ho h).wp
  | eqa neg ks x y => exact (s_eqa he K hg ho h).wp
  | un op x => exact (s_un he K hg ho h).wp
  | conv k x => exact (s_conv he K hg ho h).wp
  | mkfn f a b => exact (s_mkfn he K hg ho h).wp
  | mkmap => exact (s_mkmap K hg hid hlt ho h).wp
  | mput m k v => exact (s_mput he K hg ho h).wp
  | mget m k => exact (s_mget he K hg ho h).wp
  | mksl z esz b l cp => exact (s_mksl he K hg hid hlt ho h).wp
  | slice esz x l hh m => exact (s_slice he K hg ho h).wp
  | sslice x l hh => exact (s_sslice he K hg ho h).wp
  | fa off x => exact (s_fa he K hg ho h).wp
  | fld off agg x => exact (s_fld he K hg ho h).wp
  | ia esz x i => exact (s_ia he K hg ho h).wp
  | iaa len esz x i => exact (s_iaa he K hg ho h).wp
  | idx len esz agg x i => exact (s_idx he K hg ho h).wp
  | sidx x i => exact (s_sidx he K hg ho h).wp
  | ext i x => exact (s_ext he K hg ho h).wp
  | len x => exact (s_len he K hg ho h).wp
  | slen x => exact (s_slen he K hg ho h).wp
  | mx x y => exact (s_mx he K hg ho h).wp
  | mn x y => exact (s_mn he K hg ho h).wp
  | app esz b x y => exact (s_app he K hg hid hlt ho h).wp
  | appM esz b x y => exact (s_appM he K hg hid hlt ho h).wp
  | cutM esz x y => exact (s_cutM he K hg hid hlt ho h).wp
  | clr esz z x => exact (s_clr he K hg ho h).wp
  | bad => cases h
  | call m f args => exact s_call hcall he K hg hid hlt ho h
end
def Keep (g g' : G) (id : Nat) : Prop := g.nx ≤ g'.nx ∧ ∀ i, i < g.nx → i ≠ id → g.hp i = none → g'.hp i = none
theorem keep_refl (g : G) (id : Nat) : Keep g g id := ⟨Nat.le_refl _, fun _ _ _ h => h⟩
theorem keep_upd (g : G) (id : Nat) (b : Option Blk) : Keep g ⟨upd g.hp id b, g.nx⟩ id := ⟨Nat.le_refl _, fun i _ hi h => by show upd _ _ _ _ = _; rw [upd, if_neg hi]; exact h⟩
theorem keep_old {g : G} {id j : Nat} {b b' : Blk} (hj : g.hp j = some b) : Keep g ⟨upd g.hp j (some b'), g.nx⟩ id := ⟨Nat.le_refl _, fun i _ hi h => by
  show upd _ _ _ _ = _
  by_cases hij : i = j
  · subst hij; rw [hj] at h; cases h
  · rw [upd, if_neg hij]; exact h⟩
theorem rd_g {g : G} {al : Nat → Bool} {i : Nat} {b : Blk} (h : rd g al i = some b) : g.hp i = some b := by
  unfold rd at h; split at h
  · exact h
  · cases h
theorem keep_map {g : G} {id : Nat} {o : Option AV} {r : AV × G} (h : vMap g o = some r) : Keep g r.2 id := by
  cases o with
  | none => cases h
  | some v => cases h; exact keep_refl _ _
theorem keep_mapL {g : G} {id : Nat} {f} {o : Option (List AV)} {r : AV × G} (h : vMapL f g o = some r) : Keep g r.2 id := by
  cases o with
  | none => cases h
  | some v => cases h; exact keep_refl _ _
def CallKeep (call : CS) : Prop := ∀ f asx g v g', call f asx g = some (v, g') → g.nx ≤ g'.nx ∧ ∀ i, i < g.nx → g.hp i = none → g'.hp i = none
theorem lock_none {hp : Nat → Option Blk} {ids : List Nat} {i : Nat} (h : hp i = none) : lock hp ids i = none := by
  rcases lock_cases hp ids i with h' | ⟨_, cs, ro, h1, _⟩
  · rw [h']; exact h
  · rw [h] at h1; cases h1
theorem opE_keep {call : CS} (hk : CallKeep call) {al : Nat → Bool} {lo id : Nat} {ao : AOp} {e : Env} {g : G} {r : AV × G} (h : opE call al lo id ao e g = some r) : Keep g r.2 id := by
  have kst : ∀ {al' n x y}, vSt al' n x y g = some r → Keep g r.2 id := by
    intro al' n x y h
    unfold vSt at h
    split at h
    · split at h
      · rename_i hb
        split at h
        · cases h; exact keep_old (rd_g hb)
        · cases h
      · cases h
    · cases h
  cases ao <;> simp only [opE] at h
  case mv => cases h; exact keep_refl _ _
  case pick => unfold vPick at h; split at h <;> first | (cases h; exact keep_refl _ _) | cases h
  case new => cases h; exact keep_upd _ _ _
  case box => unfold vBox at h; split at h <;> first | (cases h; exact keep_upd _ _ _) | cases h
  case boxI => unfold vBoxI at h; split at h <;> first | exact keep_mapL h | cases h
  case build => exact keep_mapL h
  case bsl =>
    unfold vBsl at h
    split at h
    · cases h
    · split at h
      · exact keep_mapL h
      · cases h; exact keep_upd _ _ _
  case ld =>
    unfold vLd at h
    split at h
    · exact keep_map h
    · split at h
      · exact keep_map h
      · cases h
    · cases h
  case st => exact kst h
  case stW => exact kst h
  case stN =>
    unfold vStN at h
    split at h
    · exact kst h
    · cases h
  case ldQ =>
    unfold vLdQ at h
    split at h
    · split at h
      · split at h
        · exact keep_map h
        · cases h
      · cases h
    · cases h
  case ldF =>
    unfold vLdF at h
    split at h
    · exact keep_map h
    · split at h
      · exact keep_map h
      · cases h
    · cases h
  case stL => exact kst h
  case nilck => unfold vNil at h; split at h <;> first | (cases h; exact keep_refl _ _) | cases h
  case bin => exact keep_map h
  case eqb => exact keep_map h
  case eqn => exact keep_map h
  case eqs => exact keep_map h
  case eqa => exact keep_map h
  case un => exact keep_map h
  case conv => unfold vConv at h; split at h <;> first | (cases h; exact keep_refl _ _) | cases h
  case mkfn => cases h; exact keep_refl _ _
  case mkmap => cases h; exact keep_upd _ _ _
  case mput =>
    unfold vMput at h
    split at h
    · split at h
      · rename_i hb
        split at h
        · split at h
          · cases h; exact keep_old (rd_g hb)
          · cases h
        · cases h
      · cases h
    · cases h
  case mget =>
    unfold vMget at h
    split at h
    · split at h
      · exact keep_map h
      · cases h
    · cases h
  case mksl =>
    unfold vMksl at h
    split at h
    · split at h
      · split at h
        · cases h; exact keep_upd _ _ _
        · split at h
          · cases h; exact keep_upd _ _ _
          · cases h
      · cases h
    · cases h
  case slice =>
    unfold vSlice at h
    split at h
    · split at h
      · split at h <;> first | (cases h; exact keep_refl _ _) | cases h
      · split at h <;> first | (cases h; exact keep_refl _ _) | cases h
      · cases h
    · split at h
      · split at h <;> first | (cases h; exact keep_refl _ _) | cases h
      · cases h
    · cases h
  case sslice =>
    unfold vSslice at h
    split at h
    · split at h
      · split at h <;> first | (cases h; exact keep_refl _ _) | cases h
      · cases h
    · cases h
  case fa =>
    unfold vFa at h
    split at h
    · split at h <;> first | (cases h; exact keep_refl _ _) | cases h
    · cases h; exact keep_refl _ _
    · cases h
  case fld => unfold vFld at h; split at h <;> first | exact keep_map h | cases h
  case ia =>
    unfold vIa at h
    split at h
    · split at h <;> first | (cases h; exact keep_refl _ _) | cases h
    · split at h <;> first | (cases h; exact keep_refl _ _) | cases h
    · cases h
  case iaa =>
    unfold vIaa at h
    split at h
    · split at h <;> first | (cases h; exact keep_refl _ _) | cases h
    · split at h <;> first | (cases h; exact keep_refl _ _) | cases h
    · cases h
  case idx =>
    unfold vIdx at h
    split at h
    · split at h <;> first | exact keep_map h | cases h
    · cases h
  case sidx =>
    unfold vSidx at h
    split at h
    · split at h <;> first | (cases h; exact keep_refl _ _) | cases h
    · cases h
  case ext => unfold vExt at h; split at h <;> first | exact keep_map h | cases h
  case len => unfold vLen at h; split at h <;> first | (cases h; exact keep_refl _ _) | cases h
  case slen => unfold vSlen at h; split at h <;> first | (cases h; exact keep_refl _ _) | cases h
  case mx => unfold vMx at h; split at h <;> first | (cases h; exact keep_refl _ _) | cases h
  case mn => unfold vMn at h; split at h <;> first | (cases h; exact keep_refl _ _) | cases h
  case app =>
    unfold vApp at h
    split at h
    · split at h
      · cases h
      · split at h
        · split at h
          · cases h
          · split at h
            · cases h; exact keep_refl _ _
            · cases h; exact keep_upd _ _ _
          · split at h
            · rename_i htk
              split at h
              · cases h
                refine ⟨Nat.le_refl _, fun i _ hi hn => ?_⟩
                show upd _ _ _ _ = _
                rw [upd, if_neg hi, upd]
                split
                · rename_i hit; subst hit; rw [rd_g htk] at hn; cases hn
                · exact hn
              · cases h
            · cases h
        · cases h
    · cases h
  case appM =>
    unfold vAppM at h
    split at h
    · cases h
    · split at h
      · split at h
        · cases h; exact keep_upd _ _ _
        · cases h
      · split at h
        · rename_i hb
          split at h
          · cases h
            refine ⟨Nat.le_refl _, fun i _ hi hn => ?_⟩
            show upd _ _ _ _ = _
            rw [upd, if_neg hi, upd]
            split
            · rename_i hit; subst hit; rw [rd_g hb] at hn; cases hn
            · exact hn
          · cases h
        · cases h
      · cases h
  case clr =>
    unfold vClr at h
    split at h
    · split at h
      · rename_i hb
        split at h
        · cases h; exact keep_old (rd_g hb)
        · cases h
      · cases h
    · cases h
  case cutM =>
    unfold vCutM at h
    split at h
    · split at h
      · rename_i hb
        split at h
        · cases h
          refine ⟨Nat.le_refl _, fun i _ hi hn => ?_⟩
          show upd _ _ _ _ = _
          rw [upd, if_neg hi, upd]
          split
          · rename_i hit; subst hit; rw [rd_g hb] at hn; cases hn
          · exact hn
        · cases h
      · cases h
    · cases h
  case bad => cases h
  case call =>
    rename_i m f args
    unfold vCall at h
    split at h
    · cases m with
      | raw =>
        obtain ⟨h1, h2⟩ := hk _ _ _ r.1 r.2 h
        exact ⟨h1, fun i hi _ hn => h2 i hi hn⟩
      | pure =>
        simp only at h
        split at h
        · cases h
        · split at h
          · cases h
          · split at h
            · cases h
            · split at h <;> first | (cases h; exact keep_refl _ _) | cases h
      | lock =>
        simp only at h
        split at h
        · cases h
        · split at h
          · cases h
          · split at h
            · cases h
            · cases h
              exact ⟨Nat.le_refl _, fun i _ _ hn => lock_none hn⟩
      | thaw =>
        simp only at h
        split at h
        · cases h
        · split at h
          · split at h
            · split at h
              · split at h <;> first | (cases h; exact keep_upd _ _ _) | cases h
              · cases h
            · cases h
          · cases h
      | melt =>
        simp only at h
        split at h
        · cases h
        · split at h
          · split at h
            · split at h
              · split at h <;> first | (cases h; exact keep_upd _ _ _) | cases h
              · cases h
            · cases h
          · cases h
    · cases h
end Go.Ab
end
section
set_option linter.unusedVariables false
set_option linter.unusedSimpArgs false
namespace Go.Ab
open Go.RowKit
def dstB (N : Nat) : Option Nat → Bool
  | none => true
  | some d => decide (d < N)
def grdB (N : Nat) (ops : Array Oper) : Option (Nat × Bool) → Option (Nat × Bool) → Bool
  | none, none => true
  | some (j, w), some (t, w') => ((ops[j]?).bind (·.dst) == some t) && (w == w') && decide (t < N)
  | _, _ => false
def operB (P : Program) (nm : Nat → Nat) (N : Nat) (ops : Array Oper) (o : Oper) (ao : AOper) : Bool :=
  opB P nm o.op ao.op && (ao.dst == o.dst) && dstB N o.dst && grdB N ops o.guard ao.grd
def opersB (P : Program) (nm : Nat → Nat) (N : Nat) (ops : Array Oper) : List Oper → List AOper → Bool
  | [], [] => true
  | o :: os, ao :: aos => operB P nm N ops o ao && opersB P nm N ops os aos
  | _, _ => false
structure St (N : Nat) (c : Cx) (e : Env) (g : G) (a : Act) : Prop where
  env : EnvOk c e a
  ok : Ok c g.nx
  hp : c.hp = g.hp
  size : N ≤ a.tmps.size
  defers : a.defers = []
theorem put_size (a : Act) (d : Option Nat) (v : Value) : (a.put d v).tmps.size = a.tmps.size := by cases d <;> simp [Act.put]
theorem put_defers' (a : Act) (d : Option Nat) (v : Value) : (a.put d v).defers = a.defers := by cases d <;> rfl
theorem EnvOk.put {c : Cx} {e : Env} {a : Act} (h : EnvOk c e a) {d : Option Nat} {x : AV} {v : Value} (hd : dstB a.tmps.size d = true) (hr : Rep c true x v) : EnvOk c (Ab.put e d x) (a.put d v) := by
  intro t
  cases d with
  | none => exact h t
  | some d =>
    simp only [dstB, decide_eq_true_eq] at hd
    simp only [Ab.put, upd, Act.put]
    by_cases ht : t = d
    · subst ht
      rw [if_pos rfl]
      simpa [Array.getD_eq_getD_getElem?, Array.getElem?_setIfInBounds_self_of_lt hd] using hr
    · rw [if_neg ht]
      have := h t
      simp only [Array.getD_eq_getD_getElem?] at this ⊢
      rwa [Array.getElem?_setIfInBounds_ne (fun h => ht h.symm)]
theorem dstB_le {N M : Nat} (h : N ≤ M) {d : Option Nat} (hd : dstB N d = true) : dstB M d = true := by
  cases d with
  | none => rfl
  | some d => simp only [dstB, decide_eq_true_eq] at hd ⊢; omega
theorem St.step {N : Nat} {c c' : Cx} {e : Env} {g g' : G} {a : Act} (S : St N c e g a) (E : Evo c c') (K : Ok c' g'.nx) (hh : c'.hp = g'.hp) {d : Option Nat} {x : AV} {v : Value} (hd : dstB N d = true) (hr : Rep c' true x v) : St N c' (Ab.put e d x) g' (a.put d v) :=
  ⟨(S.env.evo E).put (dstB_le S.size hd) hr, K, hh, by rw [put_size]; exact S.size, by rw [put_defers']; exact S.defers⟩
theorem wanted_eq {N : Nat} {c : Cx} {e : Env} {g : G} {a : Act} (S : St N c e g a) {ops : Array Oper} {o : Oper} {grd : Option (Nat × Bool)} (h : grdB N ops o.guard grd = true) : wanted e grd = Region.wanted o (yielded ops a.tmps) := by
  unfold grdB at h
  unfold Region.wanted
  split at h
  · rename_i h1
    rw [h1]
    rfl
  · rename_i j w t w' h1
    rw [h1]
    simp only [Bool.and_eq_true, beq_iff_eq, decide_eq_true_eq] at h
    obtain ⟨⟨h2, rfl⟩, h3⟩ := h
    simp only [yielded, h2, Option.bind_some]
    have hr := S.env t
    have hlt : t < a.tmps.size := Nat.lt_of_lt_of_le h3 S.size
    rw [Array.getD_eq_getD_getElem?, Array.getElem?_eq_getElem hlt] at hr
    simp only [Option.getD_some] at hr
    rw [Array.getElem?_eq_getElem hlt]
    generalize a.tmps[t] = v at hr
    cases he : e t with
    | b x =>
      rw [he] at hr
      cases hr
      simp [wanted, he]
    | _ =>
      simp only [wanted, he]
      rw [he] at hr
      cases hr <;> first | (simp; done) | (rename_i hb; exact absurd rfl (hb _)) | (rename_i hb; simp [hb])
  · cases h
def opStep (call : CS) (draw : Bool) (base j : Nat) (o : AOper) (e : Env) (g : G) : Option (Env × G) :=
  if wanted e o.grd then
    match opE call (allow draw base o.pre) base (base + j) o.op e g with
    | some (v, g') => some (put e o.dst v, g')
    | none => none
  else some (put e o.dst .undef, g)
theorem regE_step (call : CS) (draw : Bool) (base j : Nat) (o : AOper) (os : List AOper) (e : Env) (g : G) : regE call draw base j (o :: os) e g = (match opStep call draw base j o e g with | some (e', g') => regE call draw base (j + 1) os e' g' | none => none) := by
  simp only [regE, opStep]
  by_cases h : wanted e o.grd = true
  · rw [if_pos h, if_pos h]
    cases opE call (allow draw base o.pre) base (base + j) o.op e g with
    | none => rfl
    | some r => rfl
  · rw [if_neg h, if_neg h]
section
variable {P : Program} {call : CS} {N : Nat}
theorem opStep_wp {c : Cx} {e e' : Env} {g g' : G} {a : Act} (hcall : CallOk P c.num call) (S : St N c e g a) {ops : Array Oper} {j : Nat} {o : Oper} {ao : AOper} (hj : ops[j]? = some o) (ho : operB P c.num N ops o ao = true) {draw : Bool} {base : Nat}
    (hfree : g.hp (base + j) = none) (hlt : base + j < g.nx) (h : opStep call draw base j ao e g = some (e', g')) {K : Act → World → Prop} {Q : Exit → Act → World → Prop} (hK : ∀ c' a', Evo c c' → St N c' e' g' a' → K a' c'.w) : wpOp P ops Q j K a c.w := by
  simp only [operB, Bool.and_eq_true, beq_iff_eq] at ho
  obtain ⟨⟨⟨h1, h2⟩, h3⟩, h4⟩ := ho
  have hw := wanted_eq S h4
  unfold wpOp
  rw [hj]
  simp only
  unfold opStep at h
  by_cases hwt : wanted e ao.grd = true
  · rw [if_pos hwt] at h
    rw [← hw, if_pos hwt]
    split at h
    · rename_i v g1 hop
      cases h
      refine .inl (op_sim hcall S.env S.ok S.hp (by rw [S.hp]; exact hfree) hlt h1 hop K Q (fun c' val E Kk hh hr => ?_))
      have hd : dstB N ao.dst = true := by rw [h2]; exact h3
      have := hK c' _ E (S.step E Kk hh hd hr)
      rwa [h2] at this
    · cases h
  · rw [if_neg hwt] at h
    cases h
    have hwf : wanted e ao.grd = false := by simpa using hwt
    rw [← hw, hwf]
    simp only [Bool.false_eq_true, if_false]
    have hd : dstB N ao.dst = true := by rw [h2]; exact h3
    have := hK c _ (Evo.refl c) (S.step (Evo.refl c) S.ok S.hp hd Rep.undef0)
    rwa [h2] at this
theorem opStep_keep (hk : CallKeep call) {draw : Bool} {base j : Nat} {o : AOper} {e e' : Env} {g g' : G} (h : opStep call draw base j o e g = some (e', g')) : Keep g g' (base + j) := by
  unfold opStep at h
  split at h
  · split at h
    · rename_i hop
      cases h
      exact opE_keep hk hop
    · cases h
  · cases h
    exact keep_refl _ _
theorem reg_wp {num : Nat → Nat} (hcall : CallOk P num call) (hk : CallKeep call) {ops : Array Oper} {Q : Exit → Act → World → Prop} {draw : Bool} {base n : Nat} {e' : Env} {g' : G} : ∀ (os : List Oper) (aos : List AOper) (j : Nat) {c : Cx} {e : Env} {g : G} {a : Act}, c.num = num → (∀ i o, os[i]? = some o → ops[j + i]? = some o) → opersB P num N ops os aos = true → j + os.length = n →
    St N c e g a → base + n ≤ g.nx → (∀ i, j ≤ i → i < n → g.hp (base + i) = none) → regE call draw base j aos e g = some (e', g') → (∀ c' a', Evo c c' → St N c' e' g' a' → Q .normal a' c'.w) → wpOps P ops Q (List.range' j os.length) a c.w
  | [], [], j, c, e, g, a, _, _, _, _, S, _, _, h, hQ => by
    simp only [regE] at h
    cases h
    exact hQ c a (Evo.refl c) S
  | [], _ :: _, _, _, _, _, _, _, _, h, _, _, _, _, _, _ => by simp [opersB] at h
  | _ :: _, [], _, _, _, _, _, _, _, h, _, _, _, _, _, _ => by simp [opersB] at h
  | o :: os, ao :: aos, j, c, e, g, a, hnum, hops, hb, hn, S, hnx, hfree, h, hQ => by
    simp only [opersB, Bool.and_eq_true] at hb
    rw [regE_step] at h
    simp only [List.length_cons] at hn
    rw [List.length_cons, List.range'_succ, wpOps_cons]
    split at h
    · rename_i e1 g1 hst
      have hkp := opStep_keep hk hst
      refine opStep_wp (hnum ▸ hcall) S (by simpa using hops 0 o rfl) (hnum ▸ hb.1) (hfree j (Nat.le_refl _) (by omega)) (by omega) hst (fun c1 a1 E1 S1 => ?_)
      exact reg_wp hcall hk os aos (j + 1) (E1.num.trans hnum) (fun i o' hi => by have := hops (i + 1) o' (by simpa using hi); rwa [show j + (i + 1) = j + 1 + i by omega] at this) hb.2 (by omega) S1 (Nat.le_trans hnx hkp.1)
        (fun i h1 h2 => hkp.2 _ (by omega) (by omega) (hfree i (by omega) h2)) h (fun c' a' E' S' => hQ c' a' (E1.trans E') S')
    · cases h
end
end Go.Ab
end
section
set_option linter.unusedVariables false
set_option linter.unusedSimpArgs false
namespace Go.Ab
def Opd.names : Opd → List Nat
  | .t n => [n]
  | .c _ => []
def onames : Option Opd → List Nat
  | some x => x.names
  | none => []
def pnames (ps : List (Nat × Nat × Opd)) : List Nat := ps.flatMap fun p => p.2.2.names
def AOp.names : AOp → List Nat
  | .mv x | .box x | .boxI x | .ld _ x | .ldF _ x | .nilck x | .eqs _ x | .clr _ _ x | .un _ x | .conv _ x | .fa _ x | .fld _ _ x | .ext _ x | .len x | .slen x => x.names
  | .pick x y z | .mput x y z => x.names ++ y.names ++ z.names
  | .new _ | .mkmap => []
  | .build _ ps | .bsl _ _ _ ps => pnames ps
  | .st _ x y | .stL _ x y | .stW _ x y | .bin _ x y | .eqb _ x y | .eqn _ x y | .eqa _ _ x y | .mget x y | .mksl _ _ _ x y | .ia _ x y | .iaa _ _ x y | .idx _ _ _ x y | .sidx x y | .mx x y | .mn x y | .app _ _ x y | .appM _ _ x y | .cutM _ x y => x.names ++ y.names
  | .bad => []
  | .ldQ _ x t => x.names ++ [t]
  | .stN _ x y ts => x.names ++ y.names ++ ts
  | .mkfn _ a b => a.flatMap (·.names) ++ b.flatMap (·.names)
  | .slice _ x l h m => x.names ++ onames l ++ onames h ++ onames m
  | .sslice x l h => x.names ++ onames l ++ onames h
  | .call _ f asx => f.names ++ asx.flatMap (·.names)
theorem ev_congr {e e' : Env} {x : Opd} (h : ∀ t ∈ x.names, e' t = e t) : x.ev e' = x.ev e := by
  cases x with
  | t n => exact h n (by simp [Opd.names])
  | c v => rfl
theorem evo_congr {e e' : Env} {x : Option Opd} (h : ∀ t ∈ onames x, e' t = e t) : evo e' x = evo e x := by
  cases x with
  | none => rfl
  | some x => exact congrArg some (ev_congr h)
theorem evl_congr {e e' : Env} : ∀ {xs : List Opd}, (∀ t ∈ xs.flatMap (·.names), e' t = e t) → xs.map (·.ev e') = xs.map (·.ev e)
  | [], _ => rfl
  | x :: xs, h => by
    rw [List.map_cons, List.map_cons, ev_congr (fun t ht => h t (by simp [ht])), evl_congr (xs := xs) (fun t ht => h t (by rw [List.flatMap_cons]; exact List.mem_append_right _ ht))]
theorem fill_congr {e e' : Env} : ∀ {ps : List (Nat × Nat × Opd)} {cs : List AV}, (∀ t ∈ pnames ps, e' t = e t) → fill e' cs ps = fill e cs ps
  | [], _, _ => rfl
  | (off, n, x) :: ps, cs, h => by
    have hx : x.ev e' = x.ev e := ev_congr (fun t ht => h t (by simp [pnames, ht]))
    simp only [fill, hx]
    split
    · exact fill_congr (ps := ps) (fun t ht => h t (by
        unfold pnames at ht ⊢
        rw [List.flatMap_cons]
        exact List.mem_append_right _ ht))
    · rfl
theorem opE_congr {call : CS} {al : Nat → Bool} {lo id : Nat} {op : AOp} {e e' : Env} (h : ∀ t ∈ op.names, e' t = e t) (g : G) : opE call al lo id op e' g = opE call al lo id op e g := by
  have l1 : ∀ {x : Opd} {ns : List Nat}, (∀ t ∈ x.names ++ ns, e' t = e t) → x.ev e' = x.ev e := fun h => ev_congr fun t ht => h t (List.mem_append_left _ ht)
  cases op <;> simp only [AOp.names] at h <;> simp only [opE]
  case mv => rw [ev_congr h]
  case pick => rw [ev_congr fun t ht => h t (by simp [ht]), ev_congr fun t ht => h t (by simp [ht]), ev_congr fun t ht => h t (by simp [ht])]
  case box => rw [ev_congr h]
  case boxI => rw [ev_congr h]
  case build => rw [fill_congr h]
  case bsl => rw [fill_congr h]
  case ld => rw [ev_congr h]
  case ldF => rw [ev_congr h]
  case ldQ => rw [ev_congr fun t ht => h t (by simp [ht]), h _ (by simp)]
  case stN =>
    rename_i n a x ts
    have hts : ts.map e' = ts.map e := List.map_congr_left fun t ht => h t (by simp [ht])
    rw [ev_congr fun t ht => h t (by simp [ht]), ev_congr fun t ht => h t (by simp [ht]), hts]
  case stW => rw [ev_congr fun t ht => h t (by simp [ht]), ev_congr fun t ht => h t (by simp [ht])]
  case st => rw [ev_congr fun t ht => h t (by simp [ht]), ev_congr fun t ht => h t (by simp [ht])]
  case stL => rw [ev_congr fun t ht => h t (by simp [ht]), ev_congr fun t ht => h t (by simp [ht])]
  case nilck => rw [ev_congr h]
  case bin => rw [ev_congr fun t ht => h t (by simp [ht]), ev_congr fun t ht => h t (by simp [ht])]
  case eqb => rw [ev_congr fun t ht => h t (by simp [ht]), ev_congr fun t ht => h t (by simp [ht])]
  case eqn => rw [ev_congr fun t ht => h t (by simp [ht]), ev_congr fun t ht => h t (by simp [ht])]
  case eqs => rw [ev_congr h]
  case clr => rw [ev_congr h]
  case eqa => rw [ev_congr fun t ht => h t (by simp [ht]), ev_congr fun t ht => h t (by simp [ht])]
  case un => rw [ev_congr h]
  case conv => rw [ev_congr h]
  case mkfn => rw [evl_congr fun t ht => h t (List.mem_append_left _ ht), evl_congr fun t ht => h t (List.mem_append_right _ ht)]
  case mput => rw [ev_congr fun t ht => h t (by simp [ht]), ev_congr fun t ht => h t (by simp [ht]), ev_congr fun t ht => h t (by simp [ht])]
  case mget => rw [ev_congr fun t ht => h t (by simp [ht]), ev_congr fun t ht => h t (by simp [ht])]
  case mksl => rw [ev_congr fun t ht => h t (by simp [ht]), ev_congr fun t ht => h t (by simp [ht])]
  case slice => rw [ev_congr fun t ht => h t (by simp [ht]), evo_congr fun t ht => h t (by simp [ht]), evo_congr fun t ht => h t (by simp [ht]), evo_congr fun t ht => h t (by simp [ht])]
  case sslice => rw [ev_congr fun t ht => h t (by simp [ht]), evo_congr fun t ht => h t (by simp [ht]), evo_congr fun t ht => h t (by simp [ht])]
  case fa => rw [ev_congr h]
  case fld => rw [ev_congr h]
  case ia => rw [ev_congr fun t ht => h t (by simp [ht]), ev_congr fun t ht => h t (by simp [ht])]
  case iaa => rw [ev_congr fun t ht => h t (by simp [ht]), ev_congr fun t ht => h t (by simp [ht])]
  case idx => rw [ev_congr fun t ht => h t (by simp [ht]), ev_congr fun t ht => h t (by simp [ht])]
  case sidx => rw [ev_congr fun t ht => h t (by simp [ht]), ev_congr fun t ht => h t (by simp [ht])]
  case ext => rw [ev_congr h]
  case len => rw [ev_congr h]
  case slen => rw [ev_congr h]
  case mx => rw [ev_congr fun t ht => h t (by simp [ht]), ev_congr fun t ht => h t (by simp [ht])]
  case mn => rw [ev_congr fun t ht => h t (by simp [ht]), ev_congr fun t ht => h t (by simp [ht])]
  case app => rw [ev_congr fun t ht => h t (by simp [ht]), ev_congr fun t ht => h t (by simp [ht])]
  case appM => rw [ev_congr fun t ht => h t (by simp [ht]), ev_congr fun t ht => h t (by simp [ht])]
  case cutM => rw [ev_congr fun t ht => h t (by simp [ht]), ev_congr fun t ht => h t (by simp [ht])]
  case call => rw [l1 h, evl_congr fun t ht => h t (List.mem_append_right _ ht)]
inductive Cls where
  | p | r | a | t | s | x
  deriving DecidableEq
def cls : AOp → Cls
  | .ld _ _ | .mget _ _ | .call .pure _ _ => .r
  | .new _ | .box _ | .bsl false _ _ _ | .mkmap | .mksl _ _ _ _ _ | .call .thaw _ _ | .call .melt _ _ => .a
  | .app _ _ _ _ => .t
  | .stL _ _ _ => .s
  | .st _ _ _ | .mput _ _ _ | .call .raw _ _ | .call .lock _ _ | .appM _ _ _ _ | .cutM _ _ _ | .clr _ _ _ | .bad | .ldF _ _ | .stW _ _ _ | .ldQ _ _ _ | .stN _ _ _ _ => .x
  | _ => .p
def CM : Option Blk → Prop
  | some (.cells _ _) | some (.map _) => True
  | _ => False
def isT : Option Blk → Prop
  | some (.tok true) => True
  | _ => False
def Rd (c : Cls) (al : Nat → Bool) (lo : Nat) (g : G) (i : Nat) : Prop := match c with
  | .p => False
  | .r | .a => al i = true ∧ CM (g.hp i)
  | .t => al i = true ∧ (CM (g.hp i) ∨ isT (g.hp i))
  | .s => lo ≤ i ∧ al i = true ∧ CM (g.hp i)
  | .x => True
def Wr (c : Cls) (al : Nat → Bool) (lo id : Nat) (g : G) (i : Nat) : Prop := match c with
  | .p | .r => False
  | .a => i = id
  | .t => i = id ∨ (al i = true ∧ isT (g.hp i))
  | .s => lo ≤ i ∧ al i = true ∧ CM (g.hp i)
  | .x => True
open Classical in
structure Foot (call : CS) (al : Nat → Bool) (lo id : Nat) (op : AOp) (e : Env) (g : G) (v : AV) (g1 : G) : Prop where
  nx : g1.nx = g.nx
  kind : ∀ i, i ≠ id → CM (g1.hp i) → CM (g.hp i)
  foot : ∃ W : Nat → Prop, (∀ i, W i → Wr (cls op) al lo id g i) ∧ (∀ i, ¬ W i → g1.hp i = g.hp i) ∧
    ∀ g' : G, (∀ i, Rd (cls op) al lo g i → g'.hp i = g.hp i) → opE call al lo id op e g' = some (v, ⟨fun i => if W i then g1.hp i else g'.hp i, g'.nx⟩)
theorem foot_none {call : CS} {al : Nat → Bool} {lo id : Nat} {op : AOp} {e : Env} {g : G} {v : AV} (h : ∀ g' : G, (∀ i, Rd (cls op) al lo g i → g'.hp i = g.hp i) → opE call al lo id op e g' = some (v, g')) : Foot call al lo id op e g v g :=
  ⟨rfl, fun _ _ h => h, fun _ => False, fun _ h => h.elim, fun _ _ => rfl, fun g' hg' => by
    rw [h g' hg']
    congr 2
    simp⟩
theorem foot_new {call : CS} {al : Nat → Bool} {lo id : Nat} {op : AOp} {e : Env} {g : G} {v : AV} {b : Blk} (hw : Wr (cls op) al lo id g id) (h : ∀ g' : G, (∀ i, Rd (cls op) al lo g i → g'.hp i = g.hp i) → opE call al lo id op e g' = some (v, ⟨upd g'.hp id (some b), g'.nx⟩)) : Foot call al lo id op e g v ⟨upd g.hp id (some b), g.nx⟩ :=
  ⟨rfl, fun i hi h => by
    have h : CM (upd g.hp id (some b) i) := h
    rwa [upd, if_neg hi] at h, fun i => i = id, fun i hi => by subst hi; exact hw, fun i hi => by show upd _ _ _ _ = _; rw [upd, if_neg hi], fun g' hg' => by
    rw [h g' hg']
    congr 3
    funext i
    by_cases hi : i = id
    · subst hi; simp [upd]
    · simp [upd, hi]⟩
mutual
theorem frz_agree {hp hp' : Nat → Option Blk} (h : ∀ i, CM (hp i) → hp' i = hp i) : ∀ (k : Nat) {x y : AV}, frz hp k x = some y → frz hp' k x = some y ∧ vis hp' k x = vis hp k x
  | 0, _, _, hf => by simp [frz] at hf
  | k + 1, x, y, hf => by
    cases x with
    | agg cs =>
      simp only [frz] at hf
      cases hc : frzL hp k cs with
      | none => rw [hc] at hf; cases hf
      | some ds => rw [hc] at hf; obtain ⟨h1, h2⟩ := frzL_agree h k hc; exact ⟨by simp only [frz, h1]; exact hf, by simp only [vis, h2]⟩
    | tup cs =>
      simp only [frz] at hf
      cases hc : frzL hp k cs with
      | none => rw [hc] at hf; cases hf
      | some ds => rw [hc] at hf; obtain ⟨h1, h2⟩ := frzL_agree h k hc; exact ⟨by simp only [frz, h1]; exact hf, by simp only [vis, h2]⟩
    | fn f asx bs =>
      simp only [frz] at hf
      cases hc : frzL hp k asx with
      | none => rw [hc] at hf; cases hf
      | some ds =>
        cases hd : frzL hp k bs with
        | none => rw [hc, hd] at hf; cases hf
        | some es =>
          rw [hc, hd] at hf
          obtain ⟨h1, h2⟩ := frzL_agree h k hc
          obtain ⟨h3, h4⟩ := frzL_agree h k hd
          exact ⟨by simp only [frz, h1, h3]; exact hf, by simp only [vis, h2, h4]⟩
    | ifc t v =>
      simp only [frz] at hf
      cases hc : frz hp k v with
      | none => rw [hc] at hf; cases hf
      | some ds => rw [hc] at hf; obtain ⟨h1, h2⟩ := frz_agree h k hc; exact ⟨by simp only [frz, h1]; exact hf, by simp only [vis, h2]⟩
    | mp id off =>
      simp only [frz] at hf
      split at hf
      · rename_i cs ro hb
        have hb' : hp' id = some (.cells cs ro) := by rw [h id (by rw [hb]; trivial), hb]
        cases hc : frzL hp k (cs.drop off) with
        | none => rw [hc] at hf; cases hf
        | some ds =>
          rw [hc] at hf
          obtain ⟨h1, h2⟩ := frzL_agree h k hc
          exact ⟨by simp only [frz, hb', h1]; exact hf, by simp only [vis, hb', hb, h2]⟩
      · cases hf
    | ms id off n =>
      simp only [frz] at hf
      split at hf
      · rename_i cs ro hb
        have hb' : hp' id = some (.cells cs ro) := by rw [h id (by rw [hb]; trivial), hb]
        cases hc : frzL hp k (cs.drop off) with
        | none => rw [hc] at hf; cases hf
        | some ds =>
          rw [hc] at hf
          obtain ⟨h1, h2⟩ := frzL_agree h k hc
          exact ⟨by simp only [frz, hb', h1]; exact hf, by simp only [vis, hb', hb, h2]⟩
      · cases hf
    | mm id => simp [frz] at hf
    | undef => exact ⟨by simpa only [frz] using hf, by simp only [vis]⟩
    | b x => exact ⟨by simpa only [frz] using hf, by simp only [vis]⟩
    | i k n => exact ⟨by simpa only [frz] using hf, by simp only [vis]⟩
    | s x => exact ⟨by simpa only [frz] using hf, by simp only [vis]⟩
    | nilp => exact ⟨by simpa only [frz] using hf, by simp only [vis]⟩
    | nilf => exact ⟨by simpa only [frz] using hf, by simp only [vis]⟩
    | nili => exact ⟨by simpa only [frz] using hf, by simp only [vis]⟩
    | sl cs n t => exact ⟨by simpa only [frz] using hf, by simp only [vis]⟩
    | ptr cs => exact ⟨by simpa only [frz] using hf, by simp only [vis]⟩
theorem frzL_agree {hp hp' : Nat → Option Blk} (h : ∀ i, CM (hp i) → hp' i = hp i) : ∀ (k : Nat) {cs ds : List AV}, frzL hp k cs = some ds → frzL hp' k cs = some ds ∧ cs.flatMap (vis hp' k) = cs.flatMap (vis hp k)
  | k, [], ds, hf => ⟨by simpa only [frzL] using hf, rfl⟩
  | k, x :: cs, ds, hf => by
    simp only [frzL] at hf
    split at hf
    · rename_i hx hs
      obtain ⟨h1, h2⟩ := frz_agree h k hx
      obtain ⟨h3, h4⟩ := frzL_agree h k hs
      refine ⟨by simp only [frzL, h1, h3]; exact hf, ?_⟩
      rw [List.flatMap_cons, List.flatMap_cons, h2, h4]
    · cases hf
end
theorem rd_agree {al : Nat → Bool} {g g' : G} (h : ∀ i, (al i = true ∧ CM (g.hp i)) → g'.hp i = g.hp i) : ∀ i, CM (rd g al i) → rd g' al i = rd g al i := by
  intro i hi
  unfold rd at hi ⊢
  split at hi
  · rename_i ha
    rw [if_pos ha, if_pos ha]
    exact h i ⟨ha, hi⟩
  · cases hi
theorem rd_cells {al : Nat → Bool} {g g' : G} (h : ∀ i, (al i = true ∧ CM (g.hp i)) → g'.hp i = g.hp i) {i : Nat} {b : Blk} (hb : rd g al i = some b) (hc : CM (some b)) : rd g' al i = some b := by
  rw [rd_agree h i (by rw [hb]; exact hc), hb]
def Any (f : G → Option (AV × G)) : Prop := ∀ g v g1, f g = some (v, g1) → g1 = g ∧ ∀ g', f g' = some (v, g')
theorem any_pick (c a b : AV) : Any (vPick c a b) := by
  intro g v g1 h; cases c <;> simp only [vPick] at h <;> first | (cases h; done) | (cases h; exact ⟨rfl, fun _ => rfl⟩)
theorem any_map (o : Option AV) : Any fun g => vMap g o := by
  intro g v g1 h; cases o <;> simp only [vMap] at h <;> first | (cases h; done) | (cases h; exact ⟨rfl, fun _ => rfl⟩)
theorem any_mapL (f) (o : Option (List AV)) : Any fun g => vMapL f g o := by
  intro g v g1 h; cases o <;> simp only [vMapL] at h <;> first | (cases h; done) | (cases h; exact ⟨rfl, fun _ => rfl⟩)
theorem any_some (x : AV) : Any fun g => some (x, g) := by intro g v g1 h; cases h; exact ⟨rfl, fun _ => rfl⟩
theorem any_none : Any fun _ => none := by intro g v g1 h; cases h
theorem any_ite (c : Prop) [Decidable c] {f k : G → Option (AV × G)} (h1 : Any f) (h2 : Any k) : Any fun g => if c then f g else k g := by
  by_cases h : c
  · simpa only [if_pos h] using h1
  · simpa only [if_neg h] using h2
theorem any_boxI (x : AV) : Any (vBoxI x) := by unfold vBoxI; exact any_ite _ (any_mapL _ _) any_none
theorem any_bslI (id n : Nat) (o : Option (List AV)) : Any (vBsl id true n o) := by
  cases o with
  | none => exact any_none
  | some cs => exact any_mapL _ _
theorem any_nil (x : AV) : Any (vNil x) := by cases x <;> first | exact any_none | exact any_some _
theorem any_conv (k : IntKind) (x : AV) : Any (vConv k x) := by cases x <;> first | exact any_none | exact any_some _
theorem any_slice (esz : Nat) (x : AV) (l h m : Option AV) : Any (vSlice esz x l h m) := by
  cases x <;> first | exact any_none | skip
  · rename_i cs n t
    show Any fun g => vSlice esz (.sl cs n t) l h m g
    simp only [vSlice]
    split <;> first | exact any_none | exact any_ite _ (any_some _) any_none
  · rename_i id off n
    show Any fun g => vSlice esz (.ms id off n) l h m g
    simp only [vSlice]
    split <;> first | exact any_none | exact any_ite _ (any_some _) any_none
theorem any_sslice (x : AV) (l h : Option AV) : Any (vSslice x l h) := by
  cases x <;> first | exact any_none | skip
  rename_i s
  show Any fun g => vSslice (.s s) l h g
  simp only [vSslice]
  split <;> first | exact any_none | exact any_ite _ (any_some _) any_none
theorem any_fa (off : Nat) (x : AV) : Any (vFa off x) := by cases x <;> first | exact any_none | exact any_some _ | exact any_ite _ (any_some _) any_none
theorem any_fld (off : Nat) (agg) (x : AV) : Any (vFld off agg x) := by cases x <;> first | exact any_none | exact any_map _
theorem any_ia (esz : Nat) (x i : AV) : Any (vIa esz x i) := by
  cases x <;> cases i <;> first | exact any_none | exact any_ite _ (any_some _) any_none
theorem any_iaa (len esz : Nat) (x i : AV) : Any (vIaa len esz x i) := by
  cases x <;> cases i <;> first | exact any_none | exact any_ite _ (any_some _) any_none
theorem any_idx (len esz : Nat) (agg) (x i : AV) : Any (vIdx len esz agg x i) := by
  cases x <;> cases i <;> first | exact any_none | exact any_ite _ (any_map _) any_none
theorem any_sidx (x i : AV) : Any (vSidx x i) := by
  cases x <;> cases i <;> first | exact any_none | skip
  rename_i s k z
  show Any fun g => vSidx (.s s) (.i k z) g
  simp only [vSidx]
  split <;> first | exact any_none | exact any_some _
theorem any_ext (i : Nat) (x : AV) : Any (vExt i x) := by cases x <;> first | exact any_none | exact any_map _
theorem any_len (x : AV) : Any (vLen x) := by cases x <;> first | exact any_none | exact any_some _
theorem any_slen (x : AV) : Any (vSlen x) := by cases x <;> first | exact any_none | exact any_some _
theorem any_mx (x y : AV) : Any (vMx x y) := by cases x <;> cases y <;> first | exact any_none | exact any_some _
theorem any_mn (x y : AV) : Any (vMn x y) := by cases x <;> cases y <;> first | exact any_none | exact any_some _
section
variable {call : CS} {al : Nat → Bool} {lo id : Nat} {e : Env} {g : G} {v : AV} {g1 : G}
theorem any_p {op : AOp} (hc : cls op = .p) : Any (opE call al lo id op e) := by
  cases op
  case mv => exact any_some _
  case pick => exact any_pick _ _ _
  case boxI => exact any_boxI _
  case build => exact any_mapL _ _
  case bsl imm n z ps =>
    cases imm with
    | false => cases hc
    | true => exact any_bslI _ _ _
  case nilck => exact any_nil _
  case bin => exact any_map _
  case eqb => exact any_map _
  case eqn => exact any_map _
  case eqs => exact any_map _
  case eqa => exact any_map _
  case un => exact any_map _
  case conv => exact any_conv _ _
  case mkfn => exact any_some _
  case slice => exact any_slice _ _ _ _ _
  case sslice => exact any_sslice _ _ _
  case fa => exact any_fa _ _
  case fld => exact any_fld _ _ _
  case ia => exact any_ia _ _ _
  case iaa => exact any_iaa _ _ _ _
  case idx => exact any_idx _ _ _ _ _
  case sidx => exact any_sidx _ _
  case ext => exact any_ext _ _
  case len => exact any_len _
  case slen => exact any_slen _
  case mx => exact any_mx _ _
  case mn => exact any_mn _ _
  case call m f asx => cases m <;> cases hc
  all_goals cases hc
theorem foot_p {op : AOp} (hc : cls op = .p) (h : opE call al lo id op e g = some (v, g1)) : Foot call al lo id op e g v g1 := by
  obtain ⟨rfl, hk⟩ := any_p hc g v g1 h
  exact foot_none fun g' _ => hk g'
theorem foot_r {op : AOp} (hc : cls op = .r) (h : opE call al lo id op e g = some (v, g1)) : Foot call al lo id op e g v g1 := by
  have key : g1 = g ∧ ∀ g' : G, (∀ i, Rd (cls op) al lo g i → g'.hp i = g.hp i) → opE call al lo id op e g' = some (v, g') := by
    rw [hc]
    cases op
    case ld agg x =>
      simp only [opE] at h ⊢
      unfold vLd at h ⊢
      split at h
      · rename_i cs hx
        obtain ⟨rfl, hk⟩ := any_map _ _ _ _ h
        exact ⟨rfl, fun g' _ => hk g'⟩
      · rename_i b off hx
        split at h
        · rename_i cs ro hb
          obtain ⟨rfl, hk⟩ := any_map _ _ _ _ h
          exact ⟨rfl, fun g' hg' => by simp only [rd_cells hg' hb trivial]; exact hk g'⟩
        · cases h
      · cases h
    case mget m k =>
      simp only [opE] at h ⊢
      unfold vMget at h ⊢
      split at h
      · rename_i b s hx hy
        split at h
        · rename_i es hb
          obtain ⟨rfl, hk⟩ := any_map _ _ _ _ h
          exact ⟨rfl, fun g' hg' => by simp only [rd_cells hg' hb trivial]; exact hk g'⟩
        · cases h
      · cases h
    case call m f asx =>
      cases m with
      | pure =>
        simp only [opE] at h ⊢
        unfold vCall at h ⊢
        split at h
        · rename_i fid fst caps hx
          simp only at h
          split at h
          · cases h
          · rename_i bs hbs
            split at h
            · cases h
            · rename_i v' g' hcr
              split at h
              · cases h
              · rename_i v2 hfz
                split at h
                · rename_i hcond
                  cases h
                  refine ⟨rfl, fun g'' hg' => ?_⟩
                  obtain ⟨h1, h2⟩ := frzL_agree (rd_agree hg') depth hbs
                  simp only [h1, hcr, hfz, h2, hcond, if_true]
                · cases h
        · cases h
      | lock => cases hc
      | thaw => cases hc
      | melt => cases hc
      | raw => cases hc
    case bsl imm n z ps => cases imm <;> cases hc
    all_goals cases hc
  obtain ⟨rfl, hk⟩ := key
  exact foot_none hk
theorem foot_a {op : AOp} (hc : cls op = .a) (h : opE call al lo id op e g = some (v, g1)) : Foot call al lo id op e g v g1 := by
  have hw : Wr (cls op) al lo id g id := by rw [hc]; rfl
  cases op
  case new z =>
    simp only [opE] at h; cases h
    exact foot_new hw fun g' _ => rfl
  case box x =>
    simp only [opE] at h
    unfold vBox at h
    split at h
    · rename_i hh
      cases h
      exact foot_new hw fun g' _ => by simp only [opE, vBox]; rw [if_pos hh]
    · cases h
  case bsl imm n z ps =>
    cases imm with
    | true => cases hc
    | false =>
      simp only [opE] at h
      unfold vBsl at h
      split at h
      · cases h
      · rename_i cs hf
        simp only [Bool.false_eq_true, if_false] at h
        cases h
        exact foot_new hw fun g' _ => by simp only [opE, vBsl, hf, Bool.false_eq_true, if_false]
  case mkmap =>
    simp only [opE] at h; cases h
    exact foot_new hw fun g' _ => rfl
  case mksl z esz b l cp =>
    simp only [opE] at h
    unfold vMksl at h
    split at h
    · rename_i n m hx hy
      split at h
      · rename_i h1
        split at h
        · rename_i h2
          cases h
          exact foot_new hw fun g' _ => by simp only [opE, vMksl, hx, hy]; rw [if_pos h1, if_pos h2]
        · rename_i h2
          split at h
          · rename_i h3
            cases h
            exact foot_new hw fun g' _ => by simp only [opE, vMksl, hx, hy]; rw [if_pos h1, if_neg h2, if_pos h3]
          · cases h
      · cases h
    · cases h
  case call m f asx =>
    cases m with
    | thaw =>
      simp only [opE] at h
      unfold vCall at h
      split at h
      · rename_i fid fst caps hx
        simp only at h
        split at h
        · cases h
        · rename_i bs hbs
          split at h
          · rename_i b g' hcr
            split at h
            · rename_i cs hb
              split at h
              · rename_i cs' hfz
                split at h
                · rename_i hcond
                  cases h
                  refine foot_new hw fun g'' hg' => ?_
                  rw [hc] at hg'
                  obtain ⟨h1, h2⟩ := frzL_agree (rd_agree hg') depth hbs
                  simp only [opE, vCall, hx, h1, hcr, hb, hfz, h2, hcond, if_true]
                · cases h
              · cases h
            · cases h
          · cases h
      · cases h
    | melt =>
      simp only [opE] at h
      unfold vCall at h
      split at h
      · rename_i fid fst caps hx
        simp only at h
        split at h
        · cases h
        · rename_i bs hbs
          split at h
          · rename_i b n g' hcr
            split at h
            · rename_i cs hb
              split at h
              · rename_i cs' hfz
                split at h
                · rename_i hcond
                  cases h
                  refine foot_new hw fun g'' hg' => ?_
                  rw [hc] at hg'
                  obtain ⟨h1, h2⟩ := frzL_agree (rd_agree hg') depth hbs
                  simp only [opE, vCall, hx, h1, hcr, hb, hfz, h2, hcond, if_true]
                · cases h
              · cases h
            · cases h
          · cases h
      · cases h
    | pure => cases hc
    | lock => cases hc
    | raw => cases hc
  all_goals cases hc
theorem vSrc_agree {esz : Nat} {y : AV} {g g' : G} {r : List AV × Nat} (h : ∀ i, (al i = true ∧ CM (g.hp i)) → g'.hp i = g.hp i) (hs : vSrc al esz y g = some r) : vSrc al esz y g' = some r := by
  unfold vSrc at hs ⊢
  cases y <;> simp only at hs ⊢ <;> first | exact hs | (cases hs; done) | skip
  split at hs
  · rename_i hb
    simp only [rd_cells h hb trivial]
    exact hs
  · cases hs
open Classical in
theorem foot_t {op : AOp} (hc : cls op = .t) (h : opE call al lo id op e g = some (v, g1)) : Foot call al lo id op e g v g1 := by
  cases op
  case app esz b x y =>
    simp only [opE] at h
    unfold vApp at h
    split at h
    · rename_i cs n tk hx
      split at h
      · cases h
      · rename_i ds m hsrc
        split at h
        · rename_i hcond
          have hsrc' : ∀ g' : G, (∀ i, Rd (cls (.app esz b x y)) al lo g i → g'.hp i = g.hp i) → vSrc al esz (y.ev e) g' = some (ds, m) := fun g' hg' => vSrc_agree (fun i hi => hg' i ⟨hi.1, .inl hi.2⟩) hsrc
          split at h
          · cases h
          · split at h
            · rename_i hm
              cases h
              exact foot_none fun g' hg' => by simp only [opE, vApp, hx, hsrc' g' hg', if_pos hcond, if_pos hm]
            · rename_i hm
              cases h
              exact foot_new (.inl rfl) fun g' hg' => by simp only [opE, vApp, hx, hsrc' g' hg', if_pos hcond, if_neg hm]
          · rename_i τ e'
            split at h
            · rename_i htk
              split at h
              · rename_i he'
                cases h
                have hal : al τ = true := by
                  unfold rd at htk; split at htk
                  · assumption
                  · cases htk
                have hhp := rd_g htk
                refine ⟨rfl, fun i hi h => ?_, fun i => i = id ∨ i = τ, fun i hi => ?_, fun i hi => ?_, fun g' hg' => ?_⟩
                · have h : CM (upd (upd g.hp τ (some (.tok false))) id (some (.tok true)) i) := h
                  rw [upd, if_neg hi] at h
                  by_cases h2 : i = τ
                  · subst h2; rw [upd, if_pos rfl] at h; exact h.elim
                  · rwa [upd, if_neg h2] at h
                · rcases hi with rfl | rfl
                  · exact .inl rfl
                  · exact .inr ⟨hal, by rw [hhp]; trivial⟩
                · show upd _ _ _ _ = _
                  rw [upd, if_neg (fun h => hi (.inl h)), upd, if_neg (fun h => hi (.inr h))]
                · have hrd : rd g' al τ = some (.tok true) := by
                    unfold rd; rw [if_pos hal, hg' τ ⟨hal, .inr (by rw [hhp]; trivial)⟩, hhp]
                  simp only [opE, vApp, hx, hsrc' g' hg', if_pos hcond, hrd, if_pos he']
                  congr 3
                  funext i
                  by_cases h1 : i = id
                  · subst h1; simp [upd]
                  · by_cases h2 : i = τ
                    · subst h2; simp [upd, h1]
                    · simp [upd, h1, h2]
              · cases h
            · cases h
        · cases h
    · cases h
  case bsl imm n z ps => cases imm <;> cases hc
  case call m f asx => cases m <;> cases hc
  all_goals cases hc
open Classical in
theorem foot_s {op : AOp} (hc : cls op = .s) (h : opE call al lo id op e g = some (v, g1)) : Foot call al lo id op e g v g1 := by
  cases op
  case stL n x y =>
    simp only [opE] at h
    unfold vSt at h
    split at h
    · rename_i b off hx
      split at h
      · rename_i cs hb
        split at h
        · rename_i hcond
          cases h
          have hal : lo ≤ b ∧ al b = true := by
            unfold rd at hb; split at hb
            · rename_i hh; simpa using hh
            · cases hb
          have hhp := rd_g hb
          refine ⟨rfl, fun i hi h => ?_, fun i => i = b, fun i hi => ?_, fun i hi => ?_, fun g' hg' => ?_⟩
          · by_cases h2 : i = b
            · subst h2; rw [hhp]; trivial
            · have h : CM (upd g.hp b _ i) := h
              rwa [upd, if_neg h2] at h
          · subst hi; exact ⟨hal.1, hal.2, by rw [hhp]; trivial⟩
          · show upd _ _ _ _ = _
            rw [upd, if_neg hi]
          · have hrd : rd g' (fun i => decide (lo ≤ i) && al i) b = some (.cells cs false) := by
              unfold rd; rw [if_pos (by simp [hal.1, hal.2]), hg' b ⟨hal.1, hal.2, by rw [hhp]; trivial⟩, hhp]
            simp only [opE, vSt, hx, hrd, if_pos hcond]
            congr 3
            funext i
            by_cases h1 : i = b
            · subst h1; simp [upd]
            · simp [upd, h1]
        · cases h
      · cases h
    · cases h
  case bsl imm n z ps => cases imm <;> cases hc
  case call m f asx => cases m <;> cases hc
  all_goals cases hc
theorem foot_all {op : AOp} (hc : cls op ≠ .x) (h : opE call al lo id op e g = some (v, g1)) : Foot call al lo id op e g v g1 := by
  cases hcl : cls op with
  | p => exact foot_p hcl h
  | r => exact foot_r hcl h
  | a => exact foot_a hcl h
  | t => exact foot_t hcl h
  | s => exact foot_s hcl h
  | x => exact absurd hcl hc
end
end Go.Ab
end
section
set_option linter.unusedVariables false
set_option linter.unusedSimpArgs false
namespace Go.Ab
open Go.RowKit
def gnames : Option (Nat × Bool) → List Nat
  | none => []
  | some (t, _) => [t]
def AOper.looks (o : AOper) : List Nat := gnames o.grd ++ o.op.names
def dnot (d : Option Nat) (l : List Nat) : Bool := match d with
  | none => true
  | some d => !l.contains d
def ddif (d d' : Option Nat) : Bool := match d, d' with
  | some a, some b => a != b
  | _, _ => true
def clsOk0 (k i : Nat) (x y : AOper) : Bool :=
  cls x.op == .p || cls y.op == .p || (cls x.op != .x && cls y.op != .x &&
   (!y.pre.contains k && !x.pre.contains i && (!(cls x.op == .s || cls y.op == .s) || x.pre.all (fun p => !y.pre.contains p)) && !(cls x.op == .t && cls y.op == .t)))
def fOp : AOp → Bool
  | .ldF _ _ => true
  | _ => false
def wOp : AOp → Bool
  | .stW _ _ _ => true
  | _ => false
def fwOk (x y : AOp) : Bool := (fOp x && fOp y) || (fOp x && wOp y) || (wOp x && fOp y)
def qnOk (x y : AOp) : Bool := match x, y with
  | .ldQ _ _ _, .ldQ _ _ _ => true
  | .ldQ _ _ t, .stN _ _ _ ts => ts.contains t
  | .stN _ _ _ ts, .ldQ _ _ t => ts.contains t
  | _, _ => false
def clsOk (k i : Nat) (x y : AOper) : Bool := qnOk x.op y.op || (fwOk x.op y.op || clsOk0 k i x y)
def swapB (k i : Nat) (x y : AOper) : Bool :=
  dnot x.dst y.looks && dnot y.dst x.looks && ddif x.dst y.dst && clsOk k i x y
theorem put_not {d : Option Nat} {l : List Nat} (h : dnot d l = true) (e : Env) (v : AV) : ∀ t ∈ l, put e d v t = e t := by
  intro t ht
  cases d with
  | none => rfl
  | some d =>
    simp only [dnot, Bool.not_eq_true', List.contains_eq_mem, decide_eq_false_iff_not] at h
    have : t ≠ d := fun h' => h (h' ▸ ht)
    simp only [put, upd, if_neg this]
theorem put_comm {d d' : Option Nat} (h : ddif d d' = true) (e : Env) (v u : AV) : put (put e d v) d' u = put (put e d' u) d v := by
  cases d with
  | none => cases d' <;> rfl
  | some d =>
    cases d' with
    | none => rfl
    | some d' =>
      simp only [ddif, bne_iff_ne, ne_eq] at h
      funext t
      simp only [put, upd]
      by_cases h1 : t = d'
      · subst h1; rw [if_pos rfl, if_neg (fun h2 => h h2.symm), if_pos rfl]
      · rw [if_neg h1]
        by_cases h2 : t = d
        · rw [if_pos h2, if_pos h2]
        · rw [if_neg h2, if_neg h2, if_neg h1]
theorem wanted_congr {e e' : Env} {grd : Option (Nat × Bool)} (h : ∀ t ∈ gnames grd, e' t = e t) : wanted e' grd = wanted e grd := by
  cases grd with
  | none => rfl
  | some p => obtain ⟨t, w⟩ := p; simp only [wanted]; rw [h t (by simp [gnames])]
def stepV (call : CS) (base j : Nat) (o : AOper) (e : Env) (g : G) : Option (AV × G) :=
  if wanted e o.grd then opE call (allow true base o.pre) base (base + j) o.op e g else some (.undef, g)
theorem opStep_V (call : CS) (base j : Nat) (o : AOper) (e : Env) (g : G) : opStep call true base j o e g = (stepV call base j o e g).map fun r => (put e o.dst r.1, r.2) := by
  unfold opStep stepV
  by_cases h : wanted e o.grd = true
  · rw [if_pos h, if_pos h]
    cases opE call (allow true base o.pre) base (base + j) o.op e g with
    | none => rfl
    | some r => rfl
  · rw [if_neg h, if_neg h]; rfl
theorem stepV_congr {call : CS} {base j : Nat} {o : AOper} {e e' : Env} (h : ∀ t ∈ o.looks, e' t = e t) (g : G) : stepV call base j o e' g = stepV call base j o e g := by
  unfold stepV
  rw [wanted_congr fun t ht => h t (List.mem_append_left _ ht), opE_congr fun t ht => h t (List.mem_append_right _ ht)]
theorem allow_slot {base k : Nat} {pre : List Nat} (h : allow true base pre (base + k) = true) : pre.contains k = true := by
  simp only [allow, Bool.not_true, Bool.false_or, Bool.or_eq_true, decide_eq_true_eq] at h
  rcases h with h | h
  · omega
  · simpa using h
theorem allow_ge {base k : Nat} {pre : List Nat} (h : allow true base pre k = true) (hk : base ≤ k) : pre.contains (k - base) = true := by
  simp only [allow, Bool.not_true, Bool.false_or, Bool.or_eq_true, decide_eq_true_eq] at h
  rcases h with h | h
  · omega
  · exact h
theorem Foot.out {call : CS} {al : Nat → Bool} {lo id : Nat} {op : AOp} {e : Env} {g : G} {v : AV} {g1 : G} (F : Foot call al lo id op e g v g1) {i : Nat} (h : ¬ Wr (cls op) al lo id g i) : g1.hp i = g.hp i := by
  obtain ⟨_, _, W, h1, h2, _⟩ := F
  exact h2 i fun hw => h (h1 i hw)
open Classical in
theorem opE_swap0 {call : CS} {base k i : Nat} (hki : k ≠ i) {x y : AOper} (hc : clsOk0 k i x y = true) {e : Env} {g g1 g2 : G} {v u : AV}
    (h1 : opE call (allow true base x.pre) base (base + k) x.op e g = some (v, g1)) (h2 : opE call (allow true base y.pre) base (base + i) y.op e g1 = some (u, g2)) :
    ∃ g1', opE call (allow true base y.pre) base (base + i) y.op e g = some (u, g1') ∧ opE call (allow true base x.pre) base (base + k) x.op e g1' = some (v, g2) := by
  by_cases hx : cls x.op = .p
  · obtain ⟨rfl, hh⟩ := any_p hx _ _ _ h1
    exact ⟨g2, h2, hh g2⟩
  by_cases hy : cls y.op = .p
  · obtain ⟨rfl, hh⟩ := any_p hy _ _ _ h2
    exact ⟨g, hh g, h1⟩
  simp only [clsOk0, Bool.or_eq_true, beq_iff_eq, hx, hy, false_or, Bool.and_eq_true, bne_iff_ne, ne_eq, Bool.not_eq_true'] at hc
  obtain ⟨⟨cx, cy⟩, ⟨⟨pk, pi⟩, ps⟩, ptt⟩ := hc
  have ak : allow true base y.pre (base + k) ≠ true := fun h => by rw [allow_slot h] at pk; cases pk
  have ai : allow true base x.pre (base + i) ≠ true := fun h => by rw [allow_slot h] at pi; cases pi
  have pp : (cls x.op = .s ∨ cls y.op = .s) → ∀ m, base ≤ m → allow true base x.pre m = true → allow true base y.pre m = true → False := by
    intro hs m hm h3 h4
    rcases ps with ps | ps
    · simp only [Bool.or_eq_false_iff, beq_eq_false_iff_ne, ne_eq] at ps
      rcases hs with hs | hs
      · exact ps.1 hs
      · exact ps.2 hs
    · have h3 := allow_ge h3 hm
      have h4 := allow_ge h4 hm
      have := List.all_eq_true.1 ps (m - base) (by simpa using h3)
      rw [h4] at this; cases this
  have tt : ¬ (cls x.op = .t ∧ cls y.op = .t) := by simpa [Bool.and_eq_false_iff] using ptt
  have F := foot_all cx h1
  have F' := foot_all cy h2
  have out1 : ∀ m, ¬ Wr (cls x.op) (allow true base x.pre) base (base + k) g m → g1.hp m = g.hp m := fun m hm => F.out hm
  -- what y looks at, x has not turned
  have A : ∀ m, Rd (cls y.op) (allow true base y.pre) base g1 m → ¬ Wr (cls x.op) (allow true base x.pre) base (base + k) g m := by
    intro m hr hw
    have hal : allow true base y.pre m = true := by
      cases hcy : cls y.op <;> rw [hcy] at hr <;> simp only [Rd] at hr
      · exact hr.1
      · exact hr.1
      · exact hr.1
      · exact hr.2.1
      · exact absurd hcy cy
    have hne : m ≠ base + k := fun h => ak (h ▸ hal)
    cases hcx : cls x.op with
    | p => exact hx hcx
    | r => rw [hcx] at hw; exact hw
    | a => rw [hcx] at hw; exact hne hw
    | t =>
      rw [hcx] at hw
      rcases hw with hw | hw
      · exact hne hw
      · have hcm : CM (g1.hp m) := by
          cases hcy : cls y.op <;> rw [hcy] at hr <;> simp only [Rd] at hr
          · exact hr.2
          · exact hr.2
          · exact absurd ⟨hcx, hcy⟩ tt
          · exact hr.2.2
          · exact absurd hcy cy
        have := F.kind m hne hcm
        have h3 := hw.2
        cases hh : g.hp m with
        | none => rw [hh] at h3; exact h3
        | some b => rw [hh] at h3 this; cases b <;> first | exact h3 | exact this
    | s =>
      rw [hcx] at hw
      exact pp (.inl hcx) m hw.1 hw.2.1 hal
    | x => exact cx hcx
  have B : ∀ m, Wr (cls y.op) (allow true base y.pre) base (base + i) g1 m → ¬ Wr (cls x.op) (allow true base x.pre) base (base + k) g m := by
    intro m hr hw
    have hor : m = base + i ∨ Rd (cls y.op) (allow true base y.pre) base g1 m := by
      cases hcy : cls y.op <;> rw [hcy] at hr <;> simp only [Wr] at hr
      · exact .inl hr
      · rcases hr with hr | hr
        · exact .inl hr
        · exact .inr ⟨hr.1, .inr hr.2⟩
      · exact .inr hr
      · exact absurd hcy cy
    rcases hor with rfl | hr
    · cases hcx : cls x.op with
      | p => exact hx hcx
      | r => rw [hcx] at hw; exact hw
      | a => rw [hcx] at hw; simp only [Wr] at hw; omega
      | t =>
        rw [hcx] at hw
        rcases hw with hw | hw
        · omega
        · exact ai hw.1
      | s => rw [hcx] at hw; exact ai hw.2.1
      | x => exact cx hcx
    · exact A m hr hw
  have C : ∀ m, Rd (cls x.op) (allow true base x.pre) base g m → ¬ Wr (cls y.op) (allow true base y.pre) base (base + i) g1 m := by
    intro m hr hw
    have hal : allow true base x.pre m = true := by
      cases hcx : cls x.op <;> rw [hcx] at hr <;> simp only [Rd] at hr
      · exact hr.1
      · exact hr.1
      · exact hr.1
      · exact hr.2.1
      · exact absurd hcx cx
    have hne : m ≠ base + i := fun h => ai (h ▸ hal)
    have hold : g1.hp m = g.hp m := out1 m (B m hw)
    cases hcy : cls y.op with
    | p => exact hy hcy
    | r => rw [hcy] at hw; exact hw
    | a => rw [hcy] at hw; exact hne hw
    | t =>
      rw [hcy] at hw
      rcases hw with hw | hw
      · exact hne hw
      · have h3 := hw.2
        rw [hold] at h3
        have hcm : CM (g.hp m) := by
          cases hcx : cls x.op <;> rw [hcx] at hr <;> simp only [Rd] at hr
          · exact hr.2
          · exact hr.2
          · exact absurd ⟨hcx, hcy⟩ tt
          · exact hr.2.2
          · exact absurd hcx cx
        cases hh : g.hp m with
        | none => rw [hh] at h3; exact h3
        | some b => rw [hh] at h3 hcm; cases b <;> first | exact h3 | exact hcm
    | s =>
      rw [hcy] at hw
      exact pp (.inr hcy) m hw.1 hal hw.2.1
    | x => exact cy hcy
  obtain ⟨n1, _, W, w1, w2, w3⟩ := F
  obtain ⟨n2, _, W', w1', w2', w3'⟩ := F'
  have hAg : ∀ m, Rd (cls y.op) (allow true base y.pre) base g1 m → g.hp m = g1.hp m := fun m hm => (out1 m (A m hm)).symm
  refine ⟨_, w3' g hAg, ?_⟩
  rw [w3 _ (fun m hm => ?_)]
  · congr 2
    have : g2 = ⟨g2.hp, g2.nx⟩ := rfl
    rw [this]
    congr 1
    · funext m
      show (if W m then g1.hp m else if W' m then g2.hp m else g.hp m) = g2.hp m
      by_cases hm : W m
      · rw [if_pos hm]
        exact (w2' m (fun h' => B m (w1' m h') (w1 m hm))).symm
      · rw [if_neg hm]
        by_cases hm' : W' m
        · rw [if_pos hm']
        · rw [if_neg hm', w2' m hm', w2 m hm]
    · show g.nx = g2.nx
      rw [n2, n1]
  · show (if W' m then g2.hp m else g.hp m) = g.hp m
    rw [if_neg (fun h' => C m hm (w1' m h'))]
theorem ldF_any {call : CS} {al : Nat → Bool} {lo id : Nat} {op : AOp} (ho : fOp op = true) {e : Env} {g g1 : G} {v : AV} (h : opE call al lo id op e g = some (v, g1)) :
    g1 = g ∧ ∀ g' : G, (∀ i cs, g.hp i = some (.cells cs true) → g'.hp i = g.hp i) → opE call al lo id op e g' = some (v, g') := by
  cases op <;> first | (cases ho; done) | skip
  rename_i agg x
  simp only [opE] at h ⊢
  unfold vLdF at h ⊢
  split at h
  · obtain ⟨rfl, hk⟩ := any_map _ _ _ _ h
    exact ⟨rfl, fun g' _ => hk g'⟩
  · rename_i b off hx
    split at h
    · rename_i cs hb
      obtain ⟨rfl, hk⟩ := any_map _ _ _ _ h
      refine ⟨rfl, fun g' hg' => ?_⟩
      have hrd : rd g' al b = some (.cells cs true) := by
        unfold rd at hb ⊢
        split at hb
        · rename_i ha
          rw [if_pos ha, hg' b cs hb]; exact hb
        · cases hb
      simp only [hrd]
      exact hk g'
    · cases h
  · cases h
theorem stW_keeps {call : CS} {al : Nat → Bool} {lo id : Nat} {op : AOp} (ho : wOp op = true) {e : Env} {g g1 : G} {v : AV} (h : opE call al lo id op e g = some (v, g1)) :
    (∀ i cs, g.hp i = some (.cells cs true) → g1.hp i = g.hp i) ∧ (∀ i cs, g1.hp i = some (.cells cs true) → g.hp i = g1.hp i) := by
  cases op <;> first | (cases ho; done) | skip
  rename_i n a x
  simp only [opE] at h
  unfold vSt at h
  split at h
  · rename_i b off hx
    split at h
    · rename_i cs hb
      split at h
      · cases h
        have hhp : g.hp b = some (.cells cs false) := by
          unfold rd at hb
          split at hb
          · exact hb
          · cases hb
        refine ⟨fun i ds hi => ?_, fun i ds hi => ?_⟩
        · have hne : i ≠ b := fun h => by subst h; rw [hhp] at hi; cases hi
          show upd _ _ _ _ = _
          rw [upd, if_neg hne]
        · have hne : i ≠ b := fun h => by
            subst h
            have hi : upd g.hp i _ i = _ := hi
            rw [upd, if_pos rfl] at hi
            cases hi
          show _ = upd _ _ _ _
          rw [upd, if_neg hne]
      · cases h
    · cases h
  · cases h
theorem ldQ_any {call : CS} {al : Nat → Bool} {lo id : Nat} {agg : Option Nat} {x : Opd} {t : Nat} {e : Env} {g g1 : G} {v : AV} (h : opE call al lo id (.ldQ agg x t) e g = some (v, g1)) :
    g1 = g ∧ ∀ g' : G, (∀ i, i ∈ ids1 (e t) → g'.hp i = g.hp i) → opE call al lo id (.ldQ agg x t) e g' = some (v, g') := by
  simp only [opE] at h ⊢
  unfold vLdQ at h ⊢
  split at h
  · rename_i b off hx
    split at h
    · rename_i hb0
      split at h
      · rename_i cs ro hb
        obtain ⟨rfl, hk⟩ := any_map _ _ _ _ h
        refine ⟨rfl, fun g' hg' => ?_⟩
        have hrd : rd g' al b = some (.cells cs ro) := by
          unfold rd at hb ⊢
          split at hb
          · rename_i ha
            rw [if_pos ha, hg' b (by simpa using hb0)]; exact hb
          · cases hb
        rw [if_pos hb0]
        simp only [hrd]
        exact hk g'
      · cases h
    · cases h
  · cases h
theorem stN_keeps {call : CS} {al : Nat → Bool} {lo id : Nat} {n : Nat} {a x : Opd} {ts : List Nat} {e : Env} {g g1 : G} {v : AV} (h : opE call al lo id (.stN n a x ts) e g = some (v, g1)) {t : Nat} (ht : t ∈ ts) {i : Nat} (hi : i ∈ ids1 (e t)) : g1.hp i = g.hp i := by
  simp only [opE] at h
  unfold vStN at h
  split at h
  · rename_i hall
    unfold vSt at h
    split at h
    · rename_i b off hx
      split at h
      · split at h
        · cases h
          have hne : i ≠ b := by
            intro hib
            subst hib
            rw [hx] at hall
            have h1 := List.all_eq_true.1 hall i (by simp [ids1])
            have h2 : i ∈ (ts.map e).flatMap ids1 := List.mem_flatMap.2 ⟨e t, List.mem_map.2 ⟨t, ht, rfl⟩, hi⟩
            have h3 : ((ts.map e).flatMap ids1).contains i = true := by simpa using h2
            rw [h3] at h1
            cases h1
          show upd _ _ _ _ = _
          rw [upd, if_neg hne]
        · cases h
      · cases h
    · cases h
  · cases h
theorem opE_swapQ {call : CS} {base k i : Nat} {x y : AOper} (hc : qnOk x.op y.op = true) {e : Env} {g g1 g2 : G} {v u : AV}
    (h1 : opE call (allow true base x.pre) base (base + k) x.op e g = some (v, g1)) (h2 : opE call (allow true base y.pre) base (base + i) y.op e g1 = some (u, g2)) :
    ∃ g1', opE call (allow true base y.pre) base (base + i) y.op e g = some (u, g1') ∧ opE call (allow true base x.pre) base (base + k) x.op e g1' = some (v, g2) := by
  unfold qnOk at hc
  split at hc
  · rename_i hx hy
    rw [hx] at h1 ⊢
    rw [hy] at h2 ⊢
    obtain ⟨rfl, _⟩ := ldQ_any h1
    obtain ⟨rfl, _⟩ := ldQ_any h2
    exact ⟨g2, h2, h1⟩
  · rename_i hx hy
    rw [hx] at h1 ⊢
    rw [hy] at h2 ⊢
    obtain ⟨rfl, k1⟩ := ldQ_any h1
    exact ⟨g2, h2, k1 g2 fun j hj => stN_keeps h2 (by simpa using hc) hj⟩
  · rename_i hx hy
    rw [hx] at h1 ⊢
    rw [hy] at h2 ⊢
    obtain ⟨rfl, k2⟩ := ldQ_any h2
    exact ⟨g, k2 g fun j hj => (stN_keeps h1 (by simpa using hc) hj).symm, h1⟩
  · cases hc
theorem opE_swap {call : CS} {base k i : Nat} (hki : k ≠ i) {x y : AOper} (hc : clsOk k i x y = true) {e : Env} {g g1 g2 : G} {v u : AV}
    (h1 : opE call (allow true base x.pre) base (base + k) x.op e g = some (v, g1)) (h2 : opE call (allow true base y.pre) base (base + i) y.op e g1 = some (u, g2)) :
    ∃ g1', opE call (allow true base y.pre) base (base + i) y.op e g = some (u, g1') ∧ opE call (allow true base x.pre) base (base + k) x.op e g1' = some (v, g2) := by
  unfold clsOk at hc
  rw [Bool.or_eq_true, Bool.or_eq_true] at hc
  rcases hc with hc | hc | hc
  · exact opE_swapQ hc h1 h2
  · unfold fwOk at hc
    simp only [Bool.or_eq_true, Bool.and_eq_true] at hc
    rcases hc with (⟨hx, hy⟩ | ⟨hx, hy⟩) | ⟨hx, hy⟩
    · obtain ⟨rfl, k1⟩ := ldF_any hx h1
      obtain ⟨rfl, k2⟩ := ldF_any hy h2
      exact ⟨g2, h2, h1⟩
    · obtain ⟨rfl, k1⟩ := ldF_any hx h1
      exact ⟨g2, h2, k1 g2 (stW_keeps hy h2).1⟩
    · obtain ⟨rfl, k2⟩ := ldF_any hy h2
      exact ⟨g, k2 g (stW_keeps hx h1).2, h1⟩
  · exact opE_swap0 hki hc h1 h2
theorem stepV_swap {call : CS} {base k i : Nat} (hki : k ≠ i) {x y : AOper} (hc : clsOk k i x y = true) {e : Env} {g g1 g2 : G} {v u : AV}
    (h1 : stepV call base k x e g = some (v, g1)) (h2 : stepV call base i y e g1 = some (u, g2)) : ∃ g1', stepV call base i y e g = some (u, g1') ∧ stepV call base k x e g1' = some (v, g2) := by
  unfold stepV at *
  by_cases hx : wanted e x.grd = true
  · rw [if_pos hx] at h1
    by_cases hy : wanted e y.grd = true
    · rw [if_pos hy] at h2
      obtain ⟨g1', h3, h4⟩ := opE_swap hki hc h1 h2
      exact ⟨g1', by rw [if_pos hy]; exact h3, by rw [if_pos hx]; exact h4⟩
    · rw [if_neg hy] at h2
      cases h2
      exact ⟨g, by rw [if_neg hy], by rw [if_pos hx]; exact h1⟩
  · rw [if_neg hx] at h1
    cases h1
    exact ⟨g2, h2, by rw [if_neg hx]⟩
theorem opStep_swap {call : CS} {base k i : Nat} (hki : k ≠ i) {x y : AOper} (hc : swapB k i x y = true) {e e1 e2 : Env} {g g1 g2 : G}
    (h1 : opStep call true base k x e g = some (e1, g1)) (h2 : opStep call true base i y e1 g1 = some (e2, g2)) :
    ∃ e1' g1', opStep call true base i y e g = some (e1', g1') ∧ opStep call true base k x e1' g1' = some (e2, g2) := by
  simp only [swapB, Bool.and_eq_true] at hc
  obtain ⟨⟨⟨d1, d2⟩, d3⟩, d4⟩ := hc
  rw [opStep_V] at h1 h2
  cases hv : stepV call base k x e g with
  | none => rw [hv] at h1; cases h1
  | some r =>
    obtain ⟨v, g1⟩ := r
    rw [hv] at h1
    cases h1
    rw [stepV_congr (put_not d1 e v)] at h2
    cases hu : stepV call base i y e g1 with
    | none => rw [hu] at h2; cases h2
    | some r =>
      obtain ⟨u, g2⟩ := r
      rw [hu] at h2
      cases h2
      obtain ⟨g1', h3, h4⟩ := stepV_swap hki d4 hv hu
      refine ⟨put e y.dst u, g1', by rw [opStep_V, h3]; rfl, ?_⟩
      rw [opStep_V, stepV_congr (put_not d2 e u), h4]
      show some _ = some _
      rw [put_comm d3]
def runL (call : CS) (base : Nat) (aos : List AOper) : List Nat → Env → G → Option (Env × G)
  | [], e, g => some (e, g)
  | i :: is, e, g => match aos[i]? with
    | some o => match opStep call true base i o e g with
      | some (e', g') => runL call base aos is e' g'
      | none => none
    | none => none
theorem runL_text (call : CS) (base : Nat) (aos : List AOper) : ∀ (os : List AOper) (j : Nat) (e : Env) (g : G), (∀ i o, os[i]? = some o → aos[j + i]? = some o) → runL call base aos (List.range' j os.length) e g = regE call true base j os e g
  | [], j, e, g, _ => rfl
  | o :: os, j, e, g, h => by
    rw [regE_step, List.length_cons, List.range'_succ]
    have h0 : aos[j]? = some o := by simpa using h 0 o rfl
    simp only [runL, h0]
    cases opStep call true base j o e g with
    | none => rfl
    | some r =>
      obtain ⟨e', g'⟩ := r
      exact runL_text call base aos os (j + 1) e' g' (fun i o' hi => by have := h (i + 1) o' (by simpa using hi); rwa [show j + (i + 1) = j + 1 + i by omega] at this)
theorem runL_front {call : CS} {base : Nat} {aos : List AOper} {i : Nat} {y : AOper} (hy : aos[i]? = some y) : ∀ (pre post : List Nat) (e e' : Env) (g g' : G), (∀ k ∈ pre, k ≠ i ∧ ∀ x, aos[k]? = some x → swapB k i x y = true) →
    runL call base aos (pre ++ i :: post) e g = some (e', g') → runL call base aos (i :: (pre ++ post)) e g = some (e', g')
  | [], post, e, e', g, g', _, h => h
  | k :: pre, post, e, e', g, g', hp, h => by
    rw [List.cons_append] at h
    simp only [runL] at h
    split at h
    · rename_i x hx
      split at h
      · rename_i e1 g1 hst
        have := runL_front hy pre post e1 e' g1 g' (fun m hm => hp m (List.mem_cons_of_mem _ hm)) h
        simp only [runL, hy] at this
        split at this
        · rename_i e2 g2 hst2
          obtain ⟨hne, hsw⟩ := hp k (List.mem_cons_self ..)
          obtain ⟨e1', g1', h3, h4⟩ := opStep_swap hne (hsw x hx) hst hst2
          simp only [runL, hy, h3, List.cons_append, hx, h4]
          exact this
        · cases this
      · cases h
    · cases h
def cloAt (es : Array Edge) (clo : List Nat) : Nat :=
  es.foldl (fun b e => if Region.binds .any e then b ||| (1 <<< e.on) ||| (clo.getD e.on 0) else b) 0
def clos : List Oper → List Nat → List Nat
  | [], clo => clo
  | o :: os, clo => clos os (clo ++ [cloAt o.after clo])
def edgesB : Nat → List Oper → Bool
  | _, [] => true
  | j, o :: os => o.after.all (fun e => !Region.binds .any e || decide (e.on < j)) && edgesB (j + 1) os
def pairsB (clo : Nat) (i : Nat) (y : AOper) : Nat → List AOper → Bool
  | _, [] => true
  | k, x :: xs => (clo.testBit k || swapB k i x y) && pairsB clo i y (k + 1) xs
def drawB (aos : List AOper) : Nat → List AOper → List Nat → Bool
  | _, [], _ => true
  | i, y :: ys, clo :: cs => pairsB clo i y 0 (aos.take i) && drawB aos (i + 1) ys cs
  | _, _ :: _, [] => false
end Go.Ab
end
section
set_option linter.unusedVariables false
set_option linter.unusedSimpArgs false
set_option linter.unnecessarySimpa false
namespace Go.Ab
open Go.RowKit
theorem testBit_fold (es : List Edge) (clo : List Nat) (k : Nat) : ∀ b : Nat, (es.foldl (fun b e => if Region.binds .any e then b ||| (1 <<< e.on) ||| (clo.getD e.on 0) else b) b).testBit k = true →
    b.testBit k = true ∨ ∃ e ∈ es, Region.binds .any e = true ∧ (k = e.on ∨ (clo.getD e.on 0).testBit k = true) := by
  induction es with
  | nil => intro b h; exact .inl h
  | cons e es ih =>
    intro b h
    rw [List.foldl_cons] at h
    rcases ih _ h with h1 | ⟨e', he', h2⟩
    · by_cases hb : Region.binds .any e = true
      · rw [if_pos hb] at h1
        simp only [Nat.testBit_or, Bool.or_eq_true] at h1
        rcases h1 with (h1 | h1) | h1
        · exact .inl h1
        · refine .inr ⟨e, List.mem_cons_self .., hb, .inl ?_⟩
          rw [Nat.testBit_shiftLeft] at h1
          simp only [Bool.and_eq_true, decide_eq_true_eq] at h1
          have h2 : Nat.testBit 1 (k - e.on) = true := h1.2
          have h3 : k - e.on = 0 := by
            cases hz : k - e.on with
            | zero => rfl
            | succ z => rw [hz] at h2; simp [Nat.testBit_succ] at h2
          omega
        · exact .inr ⟨e, List.mem_cons_self .., hb, .inr h1⟩
      · rw [if_neg hb] at h1
        exact .inl h1
    · exact .inr ⟨e', List.mem_cons_of_mem _ he', h2⟩
def cloB (clo : List Nat) : List Oper → List Nat → Bool
  | [], [] => true
  | o :: os, c :: cs => (cloAt o.after clo == c) && cloB clo os cs
  | _, _ => false
theorem cloB_get {clo : List Nat} : ∀ {os : List Oper} {cs : List Nat}, cloB clo os cs = true → os.length = cs.length ∧ ∀ (i : Nat) o, os[i]? = some o → cs[i]? = some (cloAt o.after clo)
  | [], [], _ => ⟨rfl, fun _ _ h => by simp at h⟩
  | [], _ :: _, h => by simp [cloB] at h
  | _ :: _, [], h => by simp [cloB] at h
  | o :: os, c :: cs, h => by
    simp only [cloB, Bool.and_eq_true, beq_iff_eq] at h
    obtain ⟨h1, h2⟩ := cloB_get h.2
    refine ⟨by simp [h1], fun i o' hi => ?_⟩
    cases i with
    | zero => simp at hi; subst hi; simp [h.1]
    | succ i => simp at hi ⊢; exact h2 i o' hi
theorem edgesB_get : ∀ {os : List Oper} {j : Nat}, edgesB j os = true → ∀ (i : Nat) o, os[i]? = some o → ∀ e ∈ o.after, Region.binds .any e = true → e.on < j + i
  | [], _, _, _, _, h => by simp at h
  | o :: os, j, h, i, o', hi => by
    simp only [edgesB, Bool.and_eq_true] at h
    cases i with
    | zero =>
      simp at hi; subst hi
      intro e he hb
      have := Array.all_eq_true_iff_forall_mem.1 h.1 e he
      rw [hb] at this
      simpa using this
    | succ i =>
      simp at hi
      intro e he hb
      have := edgesB_get h.2 i o' hi e he hb
      omega
def Closed (ops : List Oper) (L : Nat → Bool) : Prop := ∀ (i : Nat) o, ops[i]? = some o → L i = true → ∀ e ∈ o.after, Region.binds .any e = true → L e.on = true
theorem clo_sound {ops : List Oper} {clo : List Nat} (hc : cloB clo ops clo = true) (he : edgesB 0 ops = true) {L : Nat → Bool} (hL : Closed ops L) : ∀ (i : Nat) (o : Oper), ops[i]? = some o → (∀ e ∈ o.after, Region.binds .any e = true → L e.on = true) → ∀ k, (clo.getD i 0).testBit k = true → L k = true := by
  intro i
  induction i using Nat.strongRecOn with
  | _ i ih =>
    intro o ho hp k hk
    obtain ⟨hl, hg⟩ := cloB_get hc
    have h1 : clo.getD i 0 = cloAt o.after clo := by rw [List.getD_eq_getElem?_getD, hg i o ho]; rfl
    rw [h1] at hk
    unfold cloAt at hk
    rw [← Array.foldl_toList] at hk
    rcases testBit_fold _ _ _ _ hk with h2 | ⟨e, hm, hb, h2⟩
    · simp at h2
    · have hm' : e ∈ o.after := Array.mem_toList_iff.1 hm
      rcases h2 with rfl | h2
      · exact hp e hm' hb
      · have hlt := edgesB_get he i o ho e hm' hb
        cases ho' : ops[e.on]? with
        | none =>
          rw [List.getElem?_eq_none_iff] at ho'
          rw [List.getD_eq_getElem?_getD, List.getElem?_eq_none (by omega)] at h2
          simp at h2
        | some o' => exact ih e.on (by omega) o' ho' (fun e' he' hb' => hL e.on o' ho' (hp e hm' hb) e' he' hb') k h2
theorem pairsB_get {clo i : Nat} {y : AOper} : ∀ {xs : List AOper} {j : Nat}, pairsB clo i y j xs = true → ∀ (k : Nat) x, xs[k]? = some x → clo.testBit (j + k) = true ∨ swapB (j + k) i x y = true
  | [], _, _, _, _, h => by simp at h
  | x :: xs, j, h, k, x', hk => by
    simp only [pairsB, Bool.and_eq_true, Bool.or_eq_true] at h
    cases k with
    | zero => simp at hk; subst hk; exact h.1
    | succ k =>
      simp at hk
      have := pairsB_get h.2 k x' hk
      rwa [show j + 1 + k = j + (k + 1) by omega] at this
theorem drawB_get {aos : List AOper} : ∀ {ys : List AOper} {cs : List Nat} {j : Nat}, drawB aos j ys cs = true → ∀ (i : Nat) y, ys[i]? = some y → pairsB (cs.getD i 0) (j + i) y 0 (aos.take (j + i)) = true
  | [], _, _, _, _, _, h => by simp at h
  | y :: ys, [], _, h, _, _, _ => by simp [drawB] at h
  | y :: ys, c :: cs, j, h, i, y', hi => by
    simp only [drawB, Bool.and_eq_true] at h
    cases i with
    | zero => simp at hi; subst hi; simpa using h.1
    | succ i =>
      simp at hi
      have := drawB_get h.2 i y' hi
      rw [show j + 1 + i = j + (i + 1) by omega] at this
      simpa using this
theorem opersB_get {P : Program} {nm : Nat → Nat} {N : Nat} {ops : Array Oper} : ∀ {os : List Oper} {aos : List AOper}, opersB P nm N ops os aos = true → os.length = aos.length ∧ ∀ (i : Nat) o, os[i]? = some o → ∃ ao, aos[i]? = some ao ∧ operB P nm N ops o ao = true
  | [], [], _ => ⟨rfl, fun _ _ h => by simp at h⟩
  | [], _ :: _, h => by simp [opersB] at h
  | _ :: _, [], h => by simp [opersB] at h
  | o :: os, ao :: aos, h => by
    simp only [opersB, Bool.and_eq_true] at h
    obtain ⟨h1, h2⟩ := opersB_get h.2
    refine ⟨by simp [h1], fun i o' hi => ?_⟩
    cases i with
    | zero => simp at hi; subst hi; exact ⟨ao, rfl, h.1⟩
    | succ i => simp at hi ⊢; exact h2 i o' hi
def regB (P : Program) (nm : Nat → Nat) (N : Nat) (ops : Array Oper) (draw : Bool) (aos : List AOper) : Bool :=
  opersB P nm N ops ops.toList aos && (!draw || (edgesB 0 ops.toList && (let clo := clos ops.toList []; cloB clo ops.toList clo && drawB aos 0 aos clo)))
def pend (ops : Array Oper) (listed : Array Bool) : List Nat := (List.range ops.size).filter fun i => !listed.getD i true
theorem ready_some {ops : Array Oper} {listed : Array Bool} (he : edgesB 0 ops.toList = true) (hs : listed.size = ops.size) : ∀ i, i < ops.size → listed.getD i true = false → Region.ready .any ops listed ≠ [] := by
  intro i
  induction i using Nat.strongRecOn with
  | _ i ih =>
    intro hi hl hr
    have ho : ops[i]? = some ops[i] := Array.getElem?_eq_getElem hi
    by_cases hall : (ops[i].after.all fun e => !Region.binds .any e || listed.getD e.on false) = true
    · have : i ∈ Region.ready .any ops listed := by
        unfold Region.ready
        rw [List.mem_filter]
        exact ⟨List.mem_range.2 hi, by rw [hl, ho]; simpa using hall⟩
      rw [hr] at this
      cases this
    · rw [Array.all_eq_true_iff_forall_mem] at hall
      simp only [Bool.or_eq_true, Bool.not_eq_true'] at hall
      have : ∃ e ∈ ops[i].after, Region.binds .any e = true ∧ listed.getD e.on false ≠ true := by
        refine Classical.byContradiction fun hn => hall fun e hm => ?_
        by_cases hb : Region.binds .any e = true
        · by_cases hl : listed.getD e.on false = true
          · exact .inr hl
          · exact absurd ⟨e, hm, hb, hl⟩ hn
        · exact .inl (by simpa using hb)
      obtain ⟨e, hm, hb, hne⟩ := this
      have hlt := edgesB_get he i ops[i] (by simpa using ho) e hm hb
      have hlt' : e.on < ops.size := by omega
      refine ih e.on (by omega) hlt' ?_ hr
      have h1 : e.on < listed.size := by omega
      simp only [Array.getD_eq_getD_getElem?, Array.getElem?_eq_getElem h1, Option.getD_some] at hne ⊢
      simpa using hne
section
variable {P : Program} {call : CS} {N : Nat}
theorem any_wp {num : Nat → Nat} (hcall : CallOk P num call) (hk : CallKeep call) {ops : Array Oper} {aos : List AOper} (hb : regB P num N ops true aos = true) {Q : Exit → Act → World → Prop} {base : Nat} {e' : Env} {g' : G} :
    ∀ (fuel : Nat) (listed : Array Bool) {c : Cx} {e : Env} {g : G} {a : Act}, listed.size = ops.size → (pend ops listed).length = fuel → Closed ops.toList (fun i => listed.getD i false) → c.num = num → St N c e g a → base + ops.size ≤ g.nx →
    (∀ i ∈ pend ops listed, g.hp (base + i) = none) → runL call base aos (pend ops listed) e g = some (e', g') → (∀ c' a', Evo c c' → St N c' e' g' a' → Q .normal a' c'.w) → wpAny P .any ops Q fuel listed a c.w
  | 0, listed, c, e, g, a, hs, hl, hc, hn, S, hnx, hf, hr, hQ => by
    have hp : pend ops listed = [] := List.eq_nil_of_length_eq_zero hl
    refine ⟨?_, ?_⟩
    · refine List.eq_nil_iff_forall_not_mem.2 fun i hi => ?_
      have : i ∈ pend ops listed := by
        unfold Region.ready at hi
        rw [List.mem_filter] at hi
        unfold pend
        rw [List.mem_filter]
        exact ⟨hi.1, by have := hi.2; simp only [Bool.and_eq_true] at this; exact this.1⟩
      rw [hp] at this; cases this
    · rw [hp] at hr
      simp only [runL] at hr
      cases hr
      exact hQ c a (Evo.refl c) S
  | fuel + 1, listed, c, e, g, a, hs, hl, hc, hn, S, hnx, hf, hr, hQ => by
    simp only [regB, Bool.and_eq_true, Bool.not_true, Bool.false_or] at hb
    obtain ⟨hb1, hb2, hb3, hb4⟩ := hb
    refine ⟨fun h0 => ?_, fun i hi => ?_⟩
    · exfalso
      cases hp : pend ops listed with
      | nil => rw [hp] at hl; simp at hl
      | cons m ms =>
        have hm : m ∈ pend ops listed := by rw [hp]; exact List.mem_cons_self ..
        unfold pend at hm
        rw [List.mem_filter] at hm
        exact ready_some hb2 hs m (List.mem_range.1 hm.1) (by simpa using hm.2) h0
    · have hi' := hi
      unfold Region.ready at hi'
      rw [List.mem_filter] at hi'
      obtain ⟨hir, hiu⟩ := hi'
      have hilt : i < ops.size := List.mem_range.1 hir
      simp only [Bool.and_eq_true, Bool.not_eq_true'] at hiu
      obtain ⟨hul, hpre⟩ := hiu
      have ho : ops[i]? = some ops[i] := Array.getElem?_eq_getElem hilt
      rw [ho] at hpre
      simp only [Option.map_some, Option.getD_some] at hpre
      have hpre' : ∀ ed ∈ ops[i].after, Region.binds .any ed = true → listed.getD ed.on false = true := by
        intro ed hm hbd
        have := Array.all_eq_true_iff_forall_mem.1 hpre ed hm
        rw [hbd] at this
        simpa using this
      have him : i ∈ pend ops listed := by
        unfold pend; rw [List.mem_filter]; exact ⟨hir, by rw [hul]; rfl⟩
      obtain ⟨pre, post, hsplit⟩ := List.append_of_mem him
      have hsort : (pend ops listed).Pairwise (· < ·) := List.Pairwise.filter _ List.pairwise_lt_range
      rw [hsplit, List.pairwise_append] at hsort
      obtain ⟨s1, s2, s3⟩ := hsort
      rw [List.pairwise_cons] at s2
      obtain ⟨hlen, hget⟩ := opersB_get hb1
      obtain ⟨y, hy, hoy⟩ := hget i ops[i] (by simpa using ho)
      have hmem : ∀ k, k ∈ pre ∨ k ∈ post → k ∈ pend ops listed := by
        intro k hk; rw [hsplit]
        rcases hk with hk | hk
        · exact List.mem_append_left _ hk
        · exact List.mem_append_right _ (List.mem_cons_of_mem _ hk)
      have hfront := runL_front hy pre post e e' g g' (fun k hk => by
        have hki : k < i := s3 k hk i (List.mem_cons_self ..)
        refine ⟨by omega, fun x hx => ?_⟩
        have hpb := drawB_get hb4 i y hy
        rw [Nat.zero_add] at hpb
        have := pairsB_get hpb k x (by rw [List.getElem?_take_of_lt hki]; exact hx)
        rw [Nat.zero_add] at this
        rcases this with h1 | h1
        · exfalso
          have hL := clo_sound hb3 hb2 hc i ops[i] (by simpa using ho) hpre' k h1
          have hkm := hmem k (.inl hk)
          unfold pend at hkm
          rw [List.mem_filter] at hkm
          have hkl : k < listed.size := by rw [hs]; exact List.mem_range.1 hkm.1
          have h2 := hkm.2
          simp only [Array.getD_eq_getD_getElem?, Array.getElem?_eq_getElem hkl, Option.getD_some] at hL h2
          rw [hL] at h2; cases h2
        · exact h1) (by rw [hsplit] at hr; exact hr)
      simp only [runL, hy] at hfront
      have hpend' : pend ops (listed.setIfInBounds i true) = pre ++ post := by
        have h1 : pend ops (listed.setIfInBounds i true) = (pend ops listed).filter (fun k => k != i) := by
          unfold pend
          rw [List.filter_filter]
          refine List.filter_congr fun k hk => ?_
          have hkl : k < listed.size := by rw [hs]; exact List.mem_range.1 hk
          by_cases hki : k = i
          · subst hki
            rw [Array.getD_eq_getD_getElem?, Array.getElem?_setIfInBounds_self_of_lt hkl]
            simp
          · rw [Array.getD_eq_getD_getElem?, Array.getElem?_setIfInBounds_ne (fun h => hki h.symm), Array.getD_eq_getD_getElem?]
            simp [hki]
        rw [h1, hsplit, List.filter_append, List.filter_cons]
        have f1 : pre.filter (fun k => k != i) = pre := List.filter_eq_self.2 fun k hk => by
          have := s3 k hk i (List.mem_cons_self ..)
          simp; omega
        have f2 : post.filter (fun k => k != i) = post := List.filter_eq_self.2 fun k hk => by
          have := s2.1 k hk
          simp; omega
        rw [f1, f2]
        simp
      split at hfront
      · rename_i e1 g1 hst
        have hkp := opStep_keep hk hst
        refine opStep_wp (hn ▸ hcall) S ho (hn ▸ hoy) (hf i him) (by omega) hst (fun c1 a1 E1 S1 => ?_)
        have hb : regB P num N ops true aos = true := by
          simp only [regB, Bool.and_eq_true, Bool.not_true, Bool.false_or]
          exact ⟨hb1, hb2, hb3, hb4⟩
        refine any_wp hcall hk hb fuel (listed.setIfInBounds i true) (by simpa using hs) (by
            rw [hpend']
            rw [hsplit] at hl
            simp at hl ⊢
            omega) ?_ (E1.num.trans hn) S1 (Nat.le_trans hnx hkp.1) ?_ (by rw [hpend']; exact hfront) (fun c' a' E' S' => hQ c' a' (E1.trans E') S')
        · intro m o hm hlm ed hed hbd
          have hset : ∀ k, listed.getD k false = true → (listed.setIfInBounds i true).getD k false = true := by
            intro k hk
            by_cases hki : k = i
            · subst hki
              have hkl : k < listed.size := by omega
              rw [Array.getD_eq_getD_getElem?, Array.getElem?_setIfInBounds_self_of_lt hkl]; rfl
            · rw [Array.getD_eq_getD_getElem?, Array.getElem?_setIfInBounds_ne (fun h => hki h.symm), ← Array.getD_eq_getD_getElem?]; exact hk
          refine hset _ ?_
          by_cases hmi : m = i
          · subst hmi
            have : o = ops[m] := by
              have h2 : ops[m]? = some o := by simpa using hm
              rw [ho] at h2; cases h2; rfl
            subst this
            exact hpre' ed hed hbd
          · have hlm' : listed.getD m false = true := by
              have h3 : (listed.setIfInBounds i true).getD m false = true := hlm
              rw [Array.getD_eq_getD_getElem?, Array.getElem?_setIfInBounds_ne (fun h => hmi h.symm), ← Array.getD_eq_getD_getElem?] at h3
              exact h3
            exact hc m o hm hlm' ed hed hbd
        · intro k hk
          rw [hpend'] at hk
          have hkm := hmem k (List.mem_append.1 hk)
          have hki : k ≠ i := by
            rcases List.mem_append.1 hk with hk | hk
            · have := s3 k hk i (List.mem_cons_self ..); omega
            · have := s2.1 k hk; omega
          have hklt : k < ops.size := by
            unfold pend at hkm; rw [List.mem_filter] at hkm; exact List.mem_range.1 hkm.1
          exact hkp.2 _ (by omega) (by omega) (hf k hkm)
      · cases hfront
theorem region_wp {num : Nat → Nat} (hcall : CallOk P num call) (hk : CallKeep call) (hm : P.follows .mixedOrders = true) {ops : Array Oper} {draw : Bool} {aos : List AOper} (hb : regB P num N ops draw aos = true) {Q : Exit → Act → World → Prop} {id : Nat}
    {c : Cx} {e e' : Env} {g g' : G} {a : Act} (hn : c.num = num) (S : St N c e g a) (h : regE call draw g.nx 0 aos e { g with nx := g.nx + aos.length } = some (e', g')) (hQ : ∀ c' a', Evo c c' → St N c' e' g' a' → Q .normal a' c'.w) : (Code.region id ops draw).wp P Q a c.w := by
  have hb' := hb
  simp only [regB, Bool.and_eq_true] at hb'
  obtain ⟨hlen, _⟩ := opersB_get hb'.1
  have hlen' : ops.size = aos.length := by simpa using hlen
  have S' : St N c e { g with nx := g.nx + aos.length } a := ⟨S.env, ⟨S.ok.basele, S.ok.cells, S.ok.maps, S.ok.toks, S.ok.inj, fun id hid => S.ok.fresh id (by have : g.nx + aos.length ≤ id := hid; omega)⟩, S.hp, S.size, S.defers⟩
  have hfree : ∀ i, i < ops.size → g.hp (g.nx + i) = none := fun i _ => by rw [← S.hp]; exact S.ok.fresh _ (by omega)
  cases draw with
  | false =>
    refine wp_region ?_
    rw [List.range_eq_range']
    have := reg_wp (Q := Q) hcall hk (draw := false) (base := g.nx) (n := ops.size) ops.toList aos 0 hn (fun i o hi => by simpa using hi) hb'.1 (by simp) S' (by simp [hlen']) (fun i _ hi => hfree i hi) h hQ
    simpa using this
  | true =>
    refine wp_region_any hm ?_
    have hpend : pend ops (Array.replicate ops.size false) = List.range ops.size := by
      unfold pend
      refine List.filter_eq_self.2 fun i hi => ?_
      have hi := List.mem_range.1 hi
      rw [Array.getD_eq_getD_getElem?, Array.getElem?_replicate, if_pos hi]; rfl
    refine any_wp (c := c.drew) (base := g.nx) hcall hk hb ops.size (Array.replicate ops.size false) (by simp) (by rw [hpend]; simp) ?_ hn ⟨S'.env.evo (Evo.drew c), S'.ok.drew, S'.hp, S'.size, S'.defers⟩ (by show g.nx + ops.size ≤ g.nx + aos.length; omega) (fun i hi => ?_) ?_ (fun c' a' E Sc => hQ c' a' ((Evo.drew c).trans E) Sc)
    · intro i o _ hl
      have hl : (Array.replicate ops.size false).getD i false = true := hl
      rw [Array.getD_eq_getD_getElem?, Array.getElem?_replicate] at hl
      split at hl <;> cases hl
    · rw [hpend] at hi
      exact hfree i (List.mem_range.1 hi)
    · rw [hpend, List.range_eq_range', hlen']
      rw [runL_text call g.nx aos aos 0 e _ (fun i o hi => by simpa using hi)]
      exact h
end
end Go.Ab
end
section
set_option linter.unusedVariables false
set_option linter.unusedSimpArgs false
set_option linter.unnecessarySimpa false
namespace Go.Ab
open Go.RowKit
def codeB (P : Program) (nm : Nat → Nat) (N : Nat) : Code → ACode → Bool
  | .skip, .skip => true
  | .region _ ops d, .reg d' aos => (d == d') && regB P nm N ops d aos
  | .seq a b, .seq a' b' => codeB P nm N a a' && codeB P nm N b b'
  | .cond c t f, .cond c' t' f' => opdB nm c c' && codeB P nm N t t' && codeB P nm N f f'
  | .block i c, .blk i' c' => (i == i') && codeB P nm N c c'
  | cd, .lck _ c' => codeB P nm N cd c'
  | cd, .lckS _ c' => codeB P nm N cd c'
  | cd, .imm _ c' => codeB P nm N cd c'
  | cd, .tmp c' => codeB P nm N cd c'
  | .scope c, .scp c' => codeB P nm N c c'
  | .label _, .lab => true
  | .loop c, .loop c' => codeB P nm N c c'
  | .exit i, .ext i' => i == i'
  | .ret, .ret => true
  | _, _ => false
def Keeps (g g' : G) : Prop := g.nx ≤ g'.nx ∧ ∀ i, i < g.nx → g.hp i = none → g'.hp i = none
theorem Keeps.refl (g : G) : Keeps g g := ⟨Nat.le_refl _, fun _ _ h => h⟩
theorem Keeps.trans {g g1 g2 : G} (h : Keeps g g1) (k : Keeps g1 g2) : Keeps g g2 := ⟨Nat.le_trans h.1 k.1, fun i hi hn => k.2 i (Nat.lt_of_lt_of_le hi h.1) (h.2 i hi hn)⟩
theorem regE_keep {call : CS} (hk : CallKeep call) {draw : Bool} {base : Nat} {e' : Env} {g' : G} : ∀ (aos : List AOper) (j : Nat) {e : Env} {g : G}, regE call draw base j aos e g = some (e', g') → g.nx ≤ g'.nx ∧ ∀ i, i < base → i < g.nx → g.hp i = none → g'.hp i = none
  | [], j, e, g, h => by simp only [regE] at h; cases h; exact ⟨Nat.le_refl _, fun _ _ _ h => h⟩
  | o :: os, j, e, g, h => by
    rw [regE_step] at h
    split at h
    · rename_i e1 g1 hst
      have h1 := opStep_keep hk hst
      have h2 := regE_keep hk os (j + 1) h
      exact ⟨Nat.le_trans h1.1 h2.1, fun i hb hi hn => h2.2 i hb (Nat.lt_of_lt_of_le hi h1.1) (h1.2 i hi (by omega) hn)⟩
    · cases h
theorem iter_keep {f : Env → G → Option (Out × Env × G)} (hf : ∀ e g o e' g', f e g = some (o, e', g') → Keeps g g') : ∀ (k : Nat) {e : Env} {g : G} {o : Out} {e' : Env} {g' : G}, iter f k e g = some (o, e', g') → Keeps g g'
  | 0, _, _, _, _, _, h => by simp [iter] at h
  | k + 1, e, g, o, e', g', h => by
    simp only [iter] at h
    split at h
    · rename_i e1 g1 h1
      exact (hf _ _ _ _ _ h1).trans (iter_keep hf k h)
    · exact hf _ _ _ _ _ h
theorem codeE_keep {call : CS} (hk : CallKeep call) (k : Nat) : ∀ (c : ACode) {e : Env} {g : G} {o : Out} {e' : Env} {g' : G}, codeE call k c e g = some (o, e', g') → Keeps g g'
  | .skip, _, _, _, _, _, h => by simp only [codeE] at h; cases h; exact Keeps.refl _
  | .reg draw ops, e, g, _, _, _, h => by
    simp only [codeE] at h
    split at h
    · rename_i e1 g1 h1
      cases h
      have := regE_keep hk ops 0 h1
      exact ⟨Nat.le_trans (Nat.le_add_right _ _) this.1, fun i hi hn => this.2 i hi (Nat.lt_of_lt_of_le hi (Nat.le_add_right _ _)) hn⟩
    · cases h
  | .seq a b, _, _, _, _, _, h => by
    simp only [codeE] at h
    split at h
    · rename_i e1 g1 h1
      exact (codeE_keep hk k a h1).trans (codeE_keep hk k b h)
    · exact codeE_keep hk k a h
  | .cond c t f, e, g, _, _, _, h => by
    simp only [codeE] at h
    split at h
    · split at h
      · exact codeE_keep hk k t h
      · exact codeE_keep hk k f h
    · cases h
  | .blk id c, _, _, _, _, _, h => by
    simp only [codeE] at h
    split at h
    · rename_i n e1 g1 h1
      cases h
      exact codeE_keep hk k c h1
    · exact codeE_keep hk k c h
  | .scp c, _, _, _, _, _, h => by
    simp only [codeE] at h
    exact codeE_keep hk k c h
  | .lab, _, _, _, _, _, h => by simp only [codeE] at h; cases h; exact Keeps.refl _
  | .tmp c, e0, gg, _, _, _, h => by
    simp only [codeE] at h
    split at h
    · rename_i o e2 g2 h1
      split at h
      · cases h
        exact ⟨(codeE_keep hk k c h1).1, fun _ _ hn => hn⟩
      · cases h
    · cases h
  | .imm t c, e0, gg, _, _, _, h => by
    simp only [codeE] at h
    split at h
    · rename_i v hv
      have h2 := codeE_keep hk k c h
      refine Keeps.trans (g1 := ⟨Ab.lock gg.hp (vis gg.hp depth (e0 t)), gg.nx⟩) ⟨Nat.le_refl _, fun i hi hn => ?_⟩ h2
      show Ab.lock _ _ _ = none
      rcases lock_cases _ _ i with h' | ⟨_, cs, ro, h1, _⟩
      · rw [h']; exact hn
      · rw [hn] at h1; cases h1
    · cases h
  | .lckS t c, e0, gg, _, _, _, h => by
    simp only [codeE] at h
    have h2 := codeE_keep hk k c h
    refine Keeps.trans (g1 := ⟨Ab.lock gg.hp (ids1 (e0 t)), gg.nx⟩) ⟨Nat.le_refl _, fun i hi hn => ?_⟩ h2
    show Ab.lock _ _ _ = none
    rcases lock_cases _ _ i with h' | ⟨_, cs, ro, h1, _⟩
    · rw [h']; exact hn
    · rw [hn] at h1; cases h1
  | .lck t c, e0, gg, _, _, _, h => by
    simp only [codeE] at h
    have h2 := codeE_keep hk k c h
    refine Keeps.trans (g1 := ⟨Ab.lock gg.hp (vis gg.hp depth (e0 t)), gg.nx⟩) ⟨Nat.le_refl _, fun i hi hn => ?_⟩ h2
    show Ab.lock _ _ _ = none
    rcases lock_cases _ _ i with h' | ⟨_, cs, ro, h1, _⟩
    · rw [h']; exact hn
    · rw [hn] at h1; cases h1
  | .loop c, _, _, _, _, _, h => by
    simp only [codeE] at h
    exact iter_keep (fun e g o e' g' h => codeE_keep hk k c h) k h
  | .ext _, _, _, _, _, _, h => by simp only [codeE] at h; cases h; exact Keeps.refl _
  | .ret, _, _, _, _, _, h => by simp only [codeE] at h; cases h; exact Keeps.refl _
theorem St.lock {N : Nat} {c : Cx} {e : Env} {g : G} {a : Act} (S : St N c e g a) (ids : List Nat) : St N (c.lock ids) e ⟨Ab.lock g.hp ids, g.nx⟩ a :=
  ⟨S.env.evo (Evo.lock c ids), S.ok.lock ids, by show Ab.lock c.hp ids = _; rw [S.hp], S.size, S.defers⟩
theorem tmpOk_at {hp hp2 : Nat → Option Blk} {n i : Nat} (h : tmpOk hp hp2 n = true) (hi : i < n) : (∀ es, hp i ≠ some (.map es)) ∧ (hp i = some (.tok true) → hp2 i = some (.tok true)) ∧ (∀ cs ro, hp i = some (.cells cs ro) → ∃ cs' ro', hp2 i = some (.cells cs' ro')) := by
  have := List.all_eq_true.1 h i (List.mem_range.2 hi)
  refine ⟨fun es he => ?_, fun he => ?_, fun cs ro he => ?_⟩
  · rw [he] at this; cases this
  · rw [he] at this
    simp only at this
    split at this
    · assumption
    · cases this
  · rw [he] at this
    simp only at this
    split at this
    · exact ⟨_, _, by assumption⟩
    · cases this
theorem lock_isSome {hp : Nat → Option Blk} {ids : List Nat} {i : Nat} (h : (hp i).isSome) : (Ab.lock hp ids i).isSome := by
  rcases lock_cases hp ids i with h1 | ⟨_, cs, ro, _, h1⟩
  · rw [h1]; exact h
  · rw [h1]; rfl
def Cx.unl (c1 : Cx) (hp : Nat → Option Blk) : Cx := { c1 with hp := hp }
section
variable {c c1 : Cx} {nx nx2 : Nat}
theorem id_lt (K : Ok c nx) {i : Nat} (h : (c.hp i).isSome) : i < nx := by
  by_cases hi : i < nx
  · exact hi
  · rw [K.fresh i (by omega)] at h; cases h
theorem Evo.unl (K : Ok c nx) (E1 : Evo (c.lock (List.range nx)) c1) (hk : tmpOk c.hp c1.hp nx = true) : Evo c (c1.unl c.hp) where
  num := E1.num
  base := E1.base
  J := E1.J
  below := E1.below
  imm := fun ad hI => by
    have h1 := E1.imm ad ((Evo.lock c (List.range nx)).imm ad hI).1
    refine ⟨?_, fun v hv => h1.2 v hv⟩
    have hb : c1.base = c.base := E1.base
    rcases hI with ⟨a1, a2⟩ | ⟨a1, a2, a3⟩
    · refine .inl ⟨by show _ < c1.base; rw [hb]; exact a1, ?_⟩
      have : c1.J = c.J := E1.J
      show c1.J ad
      rw [this]; exact a2
    · refine .inr ⟨by show c1.base ≤ _; rw [hb]; exact a1, Nat.lt_of_lt_of_le a2 E1.below.size, fun hw => a3 ?_⟩
      rcases hw with ⟨i, cs, hi, hl⟩ | ⟨i, hi, hl, ho⟩
      · have hi' : c.hp i = some (.cells cs false) := hi
        have e := (E1.ids i (lock_isSome (by show (c.hp i).isSome; rw [hi']; rfl))).2
        have hl' : (c1.loc i).1 = ad.block := hl
        rw [e] at hl'
        exact .inl ⟨i, cs, hi', hl'⟩
      · have hi' : c.hp i = some (.tok true) := hi
        have e := (E1.ids i (lock_isSome (by show (c.hp i).isSome; rw [hi']; rfl))).2
        have hl' : (c1.loc i).1 = ad.block := hl
        have ho' : (c1.loc i).2 ≤ ad.off := ho
        rw [e] at hl' ho'
        exact .inr ⟨i, hi', hl', ho'⟩
  ids := fun i hi => ⟨hi, (E1.ids i (lock_isSome hi)).2⟩
  tok := fun i hi ht => by
    have ht : c.hp i = some (.tok true) := ht
    refine ⟨ht, ?_⟩
    exact (E1.tok i (lock_isSome hi) ((tmpOk_at hk (id_lt K hi)).2.1 ht)).2
  cel := fun i cs ro hi hc => by
    have hc : c.hp i = some (.cells cs ro) := hc
    obtain ⟨cs', ro', h1⟩ := (tmpOk_at hk (id_lt K hi)).2.2 cs ro hc
    obtain ⟨_, _, _, _, h2⟩ := E1.cel i cs' ro' (lock_isSome hi) h1
    exact ⟨cs, ro, hc, rfl, h2⟩
theorem Ok.unl (K : Ok c nx) (E1 : Evo (c.lock (List.range nx)) c1) (hk : tmpOk c.hp c1.hp nx = true) (K1 : Ok c1 nx2) (hn : nx ≤ nx2) : Ok (c1.unl c.hp) nx2 := by
  have E := Evo.unl K E1 hk
  have hloc : ∀ i, (c.hp i).isSome → c1.loc i = c.loc i := fun i hi => (E.ids i hi).2
  refine ⟨K1.basele, ?_, ?_, ?_, ?_, ?_⟩
  · intro i cs ro hi
    have hi : c.hp i = some (.cells cs ro) := hi
    have hs : (c.hp i).isSome := by rw [hi]; rfl
    obtain ⟨cs1, ro1, h1⟩ := (tmpOk_at hk (id_lt K hs)).2.2 cs ro hi
    obtain ⟨k1, vs1, us1, ty1, k2, k3, _⟩ := K1.cells i cs1 ro1 h1
    obtain ⟨cs0, ro0, h0, hl0, _⟩ := E1.cel i cs1 ro1 (lock_isSome hs) h1
    obtain ⟨j1, vs, us, ty, j2, j3, j4⟩ := K.cells i cs ro hi
    have hcl : cs.length = cs1.length := by
      rcases lock_cases c.hp (List.range nx) i with h | ⟨_, cs2, ro2, h3, h4⟩
      · have h0' : Ab.lock c.hp (List.range nx) i = some (.cells cs0 ro0) := h0
        rw [h, hi] at h0'; cases h0'; exact hl0
      · have h0' : Ab.lock c.hp (List.range nx) i = some (.cells cs0 ro0) := h0
        rw [h4] at h0'
        rw [hi] at h3
        cases h3; cases h0'; exact hl0
    have hvl : vs.length = vs1.length := by rw [← j3.1, hcl, k3.1]
    have hv : vs1 = vs := by
      refine List.ext_getElem? fun j => ?_
      by_cases hj : j < vs.length
      · have hc0 : c.w.cell? ⟨(c.loc i).1, j, none⟩ = some vs[j] := by
          rw [cell_of_heap j2]
          simp [List.getElem?_append_left hj]
        have hI : (c.lock (List.range nx)).I ⟨(c.loc i).1, j, none⟩ := by
          refine .inr ⟨j1, (Array.getElem?_eq_some_iff.1 j2).1, fun hw => ?_⟩
          rcases hw with ⟨i', cs', hi', hl'⟩ | ⟨i', hi', hl', ho'⟩
          · have hi' : Ab.lock c.hp (List.range nx) i' = some (.cells cs' false) := hi'
            rcases lock_cases c.hp (List.range nx) i' with h | ⟨_, cs2, ro2, h3, h4⟩
            · rw [h] at hi'
              have hlt := id_lt K (i := i') (by rw [hi']; rfl)
              have : Ab.lock c.hp (List.range nx) i' = some (.cells cs' true) := by
                unfold Ab.lock
                rw [if_pos (by simpa using hlt), hi']
              rw [h, hi'] at this
              cases this
            · rw [h4] at hi'; cases hi'
          · have hi' : Ab.lock c.hp (List.range nx) i' = some (.tok true) := hi'
            have hi2 : c.hp i' = some (.tok true) := by
              rcases lock_cases c.hp (List.range nx) i' with h | ⟨_, cs2, ro2, h3, h4⟩
              · rw [← h]; exact hi'
              · rw [h4] at hi'; cases hi'
            have hne : i' ≠ i := fun h => by rw [h, hi] at hi2; cases hi2
            exact K.inj i' i hne ⟨_, hi2, by simp⟩ ⟨_, hi, by simp⟩ hl'
        have h2 := (E1.imm _ hI).2 _ hc0
        rw [← hloc i hs, cell_of_heap k2] at h2
        have hj1 : j < vs1.length := hvl ▸ hj
        have h3 : (vs1 ++ us1)[j]? = some vs[j] := by simpa using h2
        rw [List.getElem?_append_left hj1] at h3
        rw [h3, List.getElem?_eq_getElem hj]
      · rw [List.getElem?_eq_none (by omega), List.getElem?_eq_none (by omega)]
    subst hv
    exact ⟨k1, vs1, us1, ty1, k2, j3.evo E, j4⟩
  · intro i es hi
    have hi : c.hp i = some (.map es) := hi
    exact absurd hi ((tmpOk_at hk (id_lt K (by rw [hi]; rfl))).1 es)
  · intro i hi
    have hi : c.hp i = some (.tok true) := hi
    exact K1.toks i ((tmpOk_at hk (id_lt K (by rw [hi]; rfl))).2.1 hi)
  · intro i j hij hi hj
    have hi : c.live i := hi
    have hj : c.live j := hj
    have si : (c.hp i).isSome := by obtain ⟨b, hb, _⟩ := hi; rw [hb]; rfl
    have sj : (c.hp j).isSome := by obtain ⟨b, hb, _⟩ := hj; rw [hb]; rfl
    show (c1.loc i).1 ≠ (c1.loc j).1
    rw [hloc i si, hloc j sj]
    exact K.inj i j hij hi hj
  · intro i hi
    exact K.fresh i (by omega)
theorem rigid_rep {hp : Nat → Option Blk} {x : AV} {v : Value} (h : Rep c1 true x v) : Rep (c1.unl hp) true (rigid hp x) v := by
  unfold rigid
  by_cases hf : flat x = true
  · rw [if_pos hf]; exact rep_flat hf h
  · rw [if_neg hf]
    cases h with
    | undef v hb => exact .undef v hb
    | b x => exact absurd rfl hf
    | i k n => exact absurd rfl hf
    | s x => exact absurd rfl hf
    | nilp => exact absurd rfl hf
    | nilf => exact absurd rfl hf
    | nili => exact absurd rfl hf
    | agg vs hl h => exact .undef _ (fun x h => by cases h)
    | tup vs hl h => exact .undef _ (fun x h => by cases h)
    | sl ad vs hc hm hr ho hz h1 hl ha hk h ht => exact .undef _ (fun x h => by cases h)
    | ptr ad vs h1 hl hk h => exact .undef _ (fun x h => by cases h)
    | mp id off h =>
      simp only
      by_cases hs : (hp id).isSome = true
      · rw [if_pos hs]; exact Rep.mp (c := c1.unl hp) id off hs
      · rw [if_neg hs]; exact .undef _ (fun x h => by cases h)
    | ms id off n cap h hc hm hp => exact .undef _ (fun x h => by cases h)
    | fn vs us hl hl' h h' => exact .undef _ (fun x h => by cases h)
    | mm id h => exact .undef _ (fun x h => by cases h)
end
theorem St.unl {N : Nat} {c c1 : Cx} {e2 : Env} {g g2 : G} {a1 : Act} (K : Ok c g.nx) (hg : c.hp = g.hp) (E1 : Evo (c.lock (List.range g.nx)) c1) (S1 : St N c1 e2 g2 a1) (hk : tmpOk g.hp g2.hp g.nx = true) (hn : g.nx ≤ g2.nx) : St N (c1.unl g.hp) (tmpEnv g.hp e2) ⟨g.hp, g2.nx⟩ a1 := by
  rw [← hg] at hk ⊢
  rw [← S1.hp] at hk
  exact ⟨fun t => rigid_rep (S1.env t), Ok.unl K E1 hk S1.ok hn, rfl, S1.size, S1.defers⟩
def exOf : Out → Exit
  | .nrm => .normal
  | .ext n => .exit n
  | .ret => .ret
section
variable {P : Program} {call : CS} {N : Nat}
theorem rounds_wp {num : Nat → Nat} {cd : Code} {f : Env → G → Option (Out × Env × G)} {Q : Exit → Act → World → Prop}
    (hf : ∀ {Q : Exit → Act → World → Prop} {c : Cx} {e e' : Env} {g g' : G} {a : Act} {o : Out}, c.num = num → St N c e g a → f e g = some (o, e', g') → (∀ c' a', Evo c c' → St N c' e' g' a' → Q (exOf o) a' c'.w) → cd.wp P Q a c.w) :
    ∀ (k : Nat) {c : Cx} {e e' : Env} {g g' : G} {a : Act} {o : Out}, c.num = num → St N c e g a → iter f k e g = some (o, e', g') → (∀ c' a', Evo c c' → St N c' e' g' a' → Q (exOf o) a' c'.w) → (o = .nrm → False) → Code.rounds P cd Q k a c.w
  | 0, _, _, _, _, _, _, _, _, _, h, _, _ => by simp [iter] at h
  | k + 1, c, e, e', g, g', a, o, hn, S, h, hQ, hno => by
    simp only [iter] at h
    rw [rounds_succ]
    split at h
    · rename_i e1 g1 h1
      exact hf hn S h1 fun c1 a1 E1 S1 => rounds_wp hf k (E1.num.trans hn) S1 h (fun c' a' E' S' => hQ c' a' (E1.trans E') S') hno
    · refine hf hn S h fun c1 a1 E1 S1 => ?_
      have := hQ c1 a1 E1 S1
      cases o with
      | nrm => exact (hno rfl).elim
      | ext n => exact this
      | ret => exact this
theorem iter_out {f : Env → G → Option (Out × Env × G)} : ∀ (k : Nat) {e e' : Env} {g g' : G} {o : Out}, iter f k e g = some (o, e', g') → o = .nrm → False
  | 0, _, _, _, _, _, h, _ => by simp [iter] at h
  | k + 1, e, e', g, g', o, h, ho => by
    simp only [iter] at h
    split at h
    · exact iter_out k h ho
    · rename_i hne
      subst ho
      exact hne _ _ h
theorem code_wp {num : Nat → Nat} (hcall : CallOk P num call) (hk : CallKeep call) (hm : P.follows .mixedOrders = true) (k : Nat) : ∀ (ac : ACode) {cd : Code} {Q : Exit → Act → World → Prop} {c : Cx} {e e' : Env} {g g' : G} {a : Act} {o : Out},
    codeB P num N cd ac = true → c.num = num → St N c e g a → codeE call k ac e g = some (o, e', g') → (∀ c' a', Evo c c' → St N c' e' g' a' → Q (exOf o) a' c'.w) → cd.wp P Q a c.w
  | .skip, cd, Q, c, e, e', g, g', a, o, hb, hn, S, h, hQ => by
    cases cd <;> simp only [codeB, Bool.false_eq_true] at hb
    simp only [codeE] at h; cases h
    exact wp_skip (hQ c a (Evo.refl c) S)
  | .reg d aos, cd, Q, c, e, e', g, g', a, o, hb, hn, S, h, hQ => by
    cases cd <;> simp only [codeB, Bool.false_eq_true] at hb
    simp only [Bool.and_eq_true, beq_iff_eq] at hb
    obtain ⟨rfl, hb⟩ := hb
    simp only [codeE] at h
    split at h
    · rename_i e1 g1 h1
      cases h
      exact region_wp hcall hk hm hb hn S h1 hQ
    · cases h
  | .seq x y, cd, Q, c, e, e', g, g', a, o, hb, hn, S, h, hQ => by
    cases cd <;> simp only [codeB, Bool.false_eq_true] at hb
    simp only [Bool.and_eq_true] at hb
    simp only [codeE] at h
    refine wp_seq ?_
    split at h
    · rename_i e1 g1 h1
      exact code_wp hcall hk hm k x hb.1 hn S h1 fun c1 a1 E1 S1 => code_wp hcall hk hm k y hb.2 (E1.num.trans hn) S1 h fun c' a' E' S' => hQ c' a' (E1.trans E') S'
    · rename_i hne
      refine code_wp hcall hk hm k x hb.1 hn S h fun c1 a1 E1 S1 => ?_
      have := hQ c1 a1 E1 S1
      cases o with
      | nrm => exact (hne _ _ h).elim
      | ext n => exact this
      | ret => exact this
  | .cond x t f, cd, Q, c, e, e', g, g', a, o, hb, hn, S, h, hQ => by
    cases cd <;> simp only [codeB, Bool.false_eq_true] at hb
    simp only [Bool.and_eq_true] at hb
    obtain ⟨⟨h1, h2⟩, h3⟩ := hb
    have hr := opdB_rep S.env (hn ▸ h1)
    simp only [codeE] at h
    split at h
    · rename_i b hx
      rw [hx] at hr
      refine wp_cond (t := b) (by
        generalize a.eval _ = u at hr
        cases hr; rfl) ?_
      cases b with
      | true =>
        simp only [if_true] at h ⊢
        exact code_wp hcall hk hm k t h2 hn S h hQ
      | false =>
        simp only [Bool.false_eq_true, if_false] at h ⊢
        exact code_wp hcall hk hm k f h3 hn S h hQ
    · cases h
  | .blk i x, cd, Q, c, e, e', g, g', a, o, hb, hn, S, h, hQ => by
    cases cd <;> simp only [codeB, Bool.false_eq_true] at hb
    simp only [Bool.and_eq_true, beq_iff_eq] at hb
    obtain ⟨rfl, hb⟩ := hb
    simp only [codeE] at h
    refine wp_block ?_
    split at h
    · rename_i n e1 g1 h1
      cases h
      refine code_wp hcall hk hm k x hb hn S h1 fun c1 a1 E1 S1 => ?_
      have := hQ c1 a1 E1 S1
      show if _ then _ else _
      split
      · rename_i hni; rw [if_pos hni] at this; exact this
      · rename_i hni; rw [if_neg hni] at this; exact this
    · rename_i hne
      refine code_wp hcall hk hm k x hb hn S h fun c1 a1 E1 S1 => ?_
      have := hQ c1 a1 E1 S1
      cases o with
      | nrm => exact this
      | ext n => exact (hne _ _ _ h).elim
      | ret => exact this
  | .scp x, cd, Q, c, e, e', g, g', a, o, hb, hn, S, h, hQ => by
    cases cd <;> simp only [codeB, Bool.false_eq_true] at hb
    simp only [codeE] at h
    refine wp_scope_straight (code_wp hcall hk hm k x hb hn S h fun c1 a1 E1 S1 => ?_)
    have := hQ c1 a1 E1 S1
    cases o <;> exact this
  | .lab, cd, Q, c, e, e', g, g', a, o, hb, hn, S, h, hQ => by
    cases cd <;> simp only [codeB, Bool.false_eq_true] at hb
    simp only [codeE] at h; cases h
    exact wp_label (hQ c a (Evo.refl c) S)
  | .tmp x, cd, Q, c, e, e', g, g', a, o, hb, hn, S, h, hQ => by
    have hb : codeB P num N cd x = true := by cases cd <;> simpa only [codeB] using hb
    simp only [codeE] at h
    split at h
    · rename_i o2 e2 g2 h1
      split at h
      · rename_i hk2
        cases h
        have E := Evo.lock c (List.range g.nx)
        refine code_wp hcall hk hm k x (c := c.lock (List.range g.nx)) hb (E.num.trans hn) (S.lock _) h1 fun c1 a1 E1 S1 => ?_
        have hk3 : tmpOk c.hp c1.hp g.nx = true := by rw [S.hp, S1.hp]; exact hk2
        have hQ1 := hQ (c1.unl g.hp) a1 (by have := Evo.unl S.ok E1 hk3; rwa [S.hp] at this) (St.unl S.ok S.hp E1 S1 hk2 (codeE_keep hk k x h1).1)
        exact hQ1
      · cases h
    · cases h
  | .imm t x, cd, Q, c, e, e', g, g', a, o, hb, hn, S, h, hQ => by
    have hb : codeB P num N cd x = true := by cases cd <;> simpa only [codeB] using hb
    simp only [codeE] at h
    split at h
    · rename_i v hv
      have E := Evo.lock c (vis g.hp depth (e t))
      have S1 := S.lock (vis g.hp depth (e t))
      have hr := frz_rep S.ok (hp := g.hp) (ids := vis g.hp depth (e t)) (fun i b hib => by rw [S.hp]; exact hib) depth hv (fun _ h => h) (S.env t)
      have S2 : St N (c.lock (vis g.hp depth (e t))) (upd e t v) ⟨Ab.lock g.hp (vis g.hp depth (e t)), g.nx⟩ a := by
        refine ⟨fun t' => ?_, S1.ok, S1.hp, S1.size, S1.defers⟩
        unfold upd
        split
        · rename_i ht; subst ht; exact hr.up
        · exact S1.env t'
      exact code_wp hcall hk hm k x (c := c.lock (vis g.hp depth (e t))) hb (E.num.trans hn) S2 h fun c1 a1 E1 S1 => hQ c1 a1 (E.trans E1) S1
    · cases h
  | .lckS t x, cd, Q, c, e, e', g, g', a, o, hb, hn, S, h, hQ => by
    have hb : codeB P num N cd x = true := by cases cd <;> simpa only [codeB] using hb
    simp only [codeE] at h
    have E := Evo.lock c (ids1 (e t))
    exact code_wp hcall hk hm k x (c := c.lock (ids1 (e t))) hb (E.num.trans hn) (S.lock _) h fun c1 a1 E1 S1 => hQ c1 a1 (E.trans E1) S1
  | .lck t x, cd, Q, c, e, e', g, g', a, o, hb, hn, S, h, hQ => by
    have hb : codeB P num N cd x = true := by cases cd <;> simpa only [codeB] using hb
    simp only [codeE] at h
    have E := Evo.lock c (vis g.hp depth (e t))
    exact code_wp hcall hk hm k x (c := c.lock (vis g.hp depth (e t))) hb (E.num.trans hn) (S.lock _) h fun c1 a1 E1 S1 => hQ c1 a1 (E.trans E1) S1
  | .loop x, cd, Q, c, e, e', g, g', a, o, hb, hn, S, h, hQ => by
    cases cd <;> simp only [codeB, Bool.false_eq_true] at hb
    simp only [codeE] at h
    exact wp_loop_rounds k (rounds_wp (fun hn S h hQ => code_wp hcall hk hm k x hb hn S h hQ) k hn S h hQ (iter_out k h))
  | .ext i, cd, Q, c, e, e', g, g', a, o, hb, hn, S, h, hQ => by
    cases cd <;> simp only [codeB, Bool.false_eq_true] at hb
    simp only [beq_iff_eq] at hb
    subst hb
    simp only [codeE] at h; cases h
    exact wp_exit (hQ c a (Evo.refl c) S)
  | .ret, cd, Q, c, e, e', g, g', a, o, hb, hn, S, h, hQ => by
    cases cd <;> simp only [codeB, Bool.false_eq_true] at hb
    simp only [codeE] at h; cases h
    exact wp_ret (hQ c a (Evo.refl c) S)
end
def resB (P : Program) : List ResultVar → List ARes → Bool
  | [], [] => true
  | .tmp t :: rs, .t t' :: rs' => (t == t') && resB P rs rs'
  | .cell a t :: rs, .cell a' agg :: rs' => (a == a') && aggB P t agg && resB P rs rs'
  | _, _ => false
def funB (P : Program) (nm : Nat → Nat) (fn : Func) (A : AFun) : Bool :=
  (match fn.body with
   | some cd => codeB P nm fn.ntmps cd A.body
   | none => false) && resB P fn.results.toList A.res && !(fn.name == "runtime.NumGoroutine")
def resVar (tmps : Array Value) : ResultVar → Sem Value
  | .tmp t => pure (tmps.getD t undef)
  | .cell a t => do loadVar t (← asAddr (tmps.getD a undef))
theorem results_eq (fn : Func) (tmps : Array Value) : results fn tmps = (fn.results.mapM (resVar tmps) >>= fun vs => pure (if h : vs.size = 1 then vs[0] else .tuple vs)) := by
  unfold results
  congr 1
theorem resB_ok {P : Program} {c : Cx} {e : Env} {a : Act} {g : G} (he : EnvOk c e a) (K : Ok c g.nx) (hg : c.hp = g.hp) : ∀ {rs : List ResultVar} {asx : List ARes} {vs : List AV}, resB P rs asx = true → resAll e g asx = some vs → ∃ us : List Value, (rs.mapM (resVar a.tmps)).run P c.w = .ok us c.w ∧ Reps c true vs us
  | [], [], vs, _, h => by
    simp only [resAll] at h; cases h
    exact ⟨[], rfl, Reps.nil⟩
  | .tmp t :: rs, .t t' :: asx, vs, hb, h => by
    simp only [resB, Bool.and_eq_true, beq_iff_eq] at hb
    obtain ⟨rfl, hb⟩ := hb
    simp only [resAll, resOne] at h
    split at h
    · rename_i v vs' h1 h2
      cases h1; cases h
      obtain ⟨us, hu, hr⟩ := resB_ok he K hg hb h2
      refine ⟨a.tmps.getD t undef :: us, ?_, Reps.cons (he t) hr⟩
      rw [List.mapM_cons, Sem.run_bind]
      show Result.andThen (.ok (a.tmps.getD t undef) c.w) _ = _
      rw [Result.andThen_ok, Sem.run_bind, hu]
      rfl
    · cases h
  | .cell q t :: rs, .cell q' agg :: asx, vs, hb, h => by
    simp only [resB, Bool.and_eq_true, beq_iff_eq] at hb
    obtain ⟨⟨rfl, hagg⟩, hb⟩ := hb
    simp only [resAll] at h
    split at h
    · rename_i v vs' h1 h2
      cases h
      obtain ⟨us, hu, hr⟩ := resB_ok he K hg hb h2
      simp only [resOne] at h1
      split at h1
      · rename_i b off hq
        split at h1
        · rename_i cs ro hbk
          have hrq := he q
          rw [hq] at hrq
          have hv := rep_mp hrq
          have hbk' : c.hp b = some (.cells cs ro) := by rw [hg]; exact hbk
          obtain ⟨_, ws, rs, ty, g2, g3, _⟩ := K.cells b cs ro hbk'
          obtain ⟨val, hrun, hval⟩ := run_loadVar_ab (P := P) (w := c.w) hagg g3 h1 (ad := ⟨(c.loc b).1, off, none⟩) (fun j u hu => by rw [add_mk, cell_of_heap g2, List.getElem?_toArray, List.getElem?_append_left (List.getElem?_eq_some_iff.1 hu).1]; exact hu)
          refine ⟨val :: us, ?_, Reps.cons hval hr⟩
          have hone : (resVar a.tmps (.cell q t)).run P c.w = .ok val c.w := by
            simp only [resVar, hv]
            exact hrun
          rw [List.mapM_cons, Sem.run_bind, hone, Result.andThen_ok, Sem.run_bind, hu]
          rfl
        · cases h1
      · cases h1
    · cases h
  | [], _ :: _, _, h, _ => by simp [resB] at h
  | .tmp _ :: _, [], _, h, _ => by simp [resB] at h
  | .tmp _ :: _, .cell _ _ :: _, _, h, _ => by simp [resB] at h
  | .cell _ _ :: _, [], _, h, _ => by simp [resB] at h
  | .cell _ _ :: _, .t _ :: _, _, h, _ => by simp [resB] at h
theorem res_ok {P : Program} {c : Cx} {e : Env} {a : Act} {g : G} (he : EnvOk c e a) (K : Ok c g.nx) (hg : c.hp = g.hp) {fn : Func} {asx : List ARes} {v : AV} (hb : resB P fn.results.toList asx = true) (h : resE asx e g = some v) : ∃ u, (results fn a.tmps).run P c.w = .ok u c.w ∧ Rep c true v u := by
  unfold resE at h
  have key : ∀ vs, resAll e g asx = some vs → ∃ us : List Value, (results fn a.tmps).run P c.w = .ok (if h : us.toArray.size = 1 then us.toArray[0] else .tuple us.toArray) c.w ∧ Reps c true vs us := by
    intro vs hv
    obtain ⟨us, hu, hr⟩ := resB_ok (P := P) he K hg hb hv
    refine ⟨us, ?_, hr⟩
    rw [results_eq, Array.mapM_eq_mapM_toList, Sem.run_bind, Sem.run_map, hu]
    rfl
  split at h
  · rename_i v' hv
    cases h
    obtain ⟨us, hu, hr⟩ := key _ hv
    obtain ⟨u, us', rfl, h1, h2⟩ := Reps.cons_inv hr
    have := Reps.nil_inv h2
    subst this
    exact ⟨u, by simpa using hu, h1⟩
  · rename_i vs hne hv
    cases h
    obtain ⟨us, hu, hr⟩ := key _ hv
    refine ⟨_, hu, ?_⟩
    rw [dif_neg]
    · exact .tup us hr.1 hr.2
    · intro hs
      have hl : vs.length = 1 := by rw [hr.1]; simpa using hs
      match vs, hl, hne with
      | [v], _, hne => exact hne v rfl
  · cases h
theorem argEnv_ok {c : Cx} {asx : List AV} {vs : List Value} (h : Reps c true asx vs) (n : Nat) : EnvOk c (argEnv asx) { tmps := vs.toArray ++ Array.replicate n undef, defers := [] } := by
  intro t
  unfold argEnv
  rw [List.getD_eq_getElem?_getD]
  show Rep c true _ ((vs.toArray ++ Array.replicate n undef).getD t undef)
  rw [Array.getD_eq_getD_getElem?, Array.getElem?_append]
  by_cases ht : t < vs.length
  · rw [if_pos (by simpa using ht)]
    have ht' : t < asx.length := by rw [h.1]; exact ht
    rw [List.getElem?_eq_getElem ht', List.getElem?_toArray, List.getElem?_eq_getElem ht]
    exact h.2 t _ _ (List.getElem?_eq_getElem ht') (List.getElem?_eq_getElem ht)
  · rw [if_neg (by simpa using ht), List.getElem?_eq_none (by have := h.1; omega)]
    rw [Array.getElem?_replicate]
    split <;> exact Rep.undef0
def Table (P : Program) (num : Nat → Nat) (F : Funs) : Prop := ∀ f A, F f = some A → ∃ fn, P.funcs[num f]? = some fn ∧ funB P num fn A = true
theorem callE_ok {P : Program} {num : Nat → Nat} {F : Funs} (hT : Table P num F) (hm : P.follows .mixedOrders = true) : ∀ k, CallKeep (callE F k) ∧ CallOk P num (callE F k)
  | 0 => ⟨fun f asx g v g' h => by simp [callE] at h, fun f asx g v g' h => by simp [callE] at h⟩
  | k + 1 => by
    obtain ⟨hk, hcall⟩ := callE_ok hT hm k
    have keep : CallKeep (callE F (k + 1)) := by
      intro f asx g v g' h
      simp only [callE] at h
      split at h
      · cases h
      · rename_i fn hF
        split at h
        · rename_i e1 g1 h1
          have := codeE_keep hk k _ h1
          cases hr : resE fn.res e1 g1 with
          | none => rw [hr] at h; cases h
          | some x => rw [hr] at h; cases h; exact this
        · rename_i e1 g1 h1
          have := codeE_keep hk k _ h1
          cases hr : resE fn.res e1 g1 with
          | none => rw [hr] at h; cases h
          | some x => rw [hr] at h; cases h; exact this
        · cases h
    refine ⟨keep, fun f asx g v g' h => ⟨keep f asx g v g' h, fun c vargs hn hg K hr => ?_⟩⟩
    simp only [callE] at h
    split at h
    · cases h
    · rename_i A hF
      obtain ⟨fn, hfn, hb⟩ := hT f A hF
      simp only [funB, Bool.and_eq_true, Bool.not_eq_true'] at hb
      obtain ⟨⟨hb1, hb2⟩, hb3⟩ := hb
      split at hb1
      · rename_i cd hbody
        refine ⟨?_, fn, hfn, by rw [hbody]; rfl, hb3⟩
        have S : St fn.ntmps c (argEnv asx) g { tmps := vargs.toArray ++ Array.replicate (fn.ntmps - vargs.toArray.size) undef, defers := [] } :=
          ⟨argEnv_ok hr _, K, hg, by simp; omega, rfl⟩
        have fin : ∀ o e1 g1, (o = .nrm ∨ o = .ret) → codeE (callE F k) k A.body (argEnv asx) g = some (o, e1, g1) → (resE A.res e1 g1).map (·, g1) = some (v, g') → Calls P (num f) vargs.toArray c.w (fun en w' => ∃ val c', en = .returned val ∧ c'.w = w' ∧ Evo c c' ∧ Ok c' g'.nx ∧ c'.hp = g'.hp ∧ Rep c' true v val) := by
          intro o e1 g1 ho h1 h2
          cases hre : resE A.res e1 g1 with
          | none => rw [hre] at h2; cases h2
          | some x =>
            rw [hre] at h2; cases h2
            refine calls_of_wp hfn hbody (code_wp hcall hk hm k A.body hb1 hn S h1 fun c' a' E S' => ?_)
            obtain ⟨u, hu, hru⟩ := res_ok (P := P) S'.env S'.ok S'.hp hb2 hre
            have : a'.defers = [] ∧ ∃ v', (results fn a'.tmps).run P c'.w = .ok v' c'.w ∧ (fun (en : Ending) (w' : World) => ∃ val c'', en = .returned val ∧ c''.w = w' ∧ Evo c c'' ∧ Ok c'' g'.nx ∧ c''.hp = g'.hp ∧ Rep c'' true v val) (.returned v') c'.w :=
              ⟨S'.defers, u, hu, u, c', rfl, rfl, E, S'.ok, S'.hp, hru⟩
            rcases ho with rfl | rfl
            · exact this
            · exact this
        split at h
        · rename_i e1 g1 h1; exact fin .nrm e1 g1 (.inl rfl) h1 h
        · rename_i e1 g1 h1; exact fin .ret e1 g1 (.inr rfl) h1 h
        · cases h
      · cases hb1
end Go.Ab
end
section
namespace Go.Ab
def A_cmp_Compare_int : AFun := { res := [.t 4], body := (.seq (.reg false [{ dst := some 4, op := .mv (.c (.i .i64 0)) }])
 (.seq (.reg false [{ dst := some 7, op := .mv (.t 0) },
  { dst := some 8, op := .call .pure (.c (.fn 266 [] [])) [.t 7] },
  { dst := some 5, op := .mv (.t 8) }])
 (.seq (.reg false [{ dst := some 9, op := .mv (.t 1) },
  { dst := some 10, op := .call .pure (.c (.fn 266 [] [])) [.t 9] },
  { dst := some 6, op := .mv (.t 10) }])
 (.seq (.seq (.reg false [{ dst := some 11, op := .mv (.t 5) }])
 (.cond (.t 11) (.seq (.seq (.reg false [{ dst := some 12, op := .mv (.t 6) }])
 (.cond (.t 12) (.seq (.reg false [{ dst := some 4, op := .mv (.c (.i .i64 0)) }])
 .ret)
 .skip))
 (.seq (.reg false [{ dst := some 4, op := .mv (.c (.i .i64 (-1))) }])
 .ret))
 .skip))
 (.seq (.seq (.reg false [{ dst := some 13, op := .mv (.t 6) }])
 (.cond (.t 13) (.seq (.reg false [{ dst := some 4, op := .mv (.c (.i .i64 1)) }])
 .ret)
 .skip))
 (.seq (.seq (.reg false [{ dst := some 14, op := .mv (.t 0) },
  { dst := some 15, op := .mv (.t 1) },
  { dst := some 16, op := .bin .lss (.t 14) (.t 15) }])
 (.cond (.t 16) (.seq (.reg false [{ dst := some 4, op := .mv (.c (.i .i64 (-1))) }])
 .ret)
 .skip))
 (.seq (.seq (.reg false [{ dst := some 17, op := .mv (.t 0) },
  { dst := some 18, op := .mv (.t 1) },
  { dst := some 19, op := .bin .gtr (.t 17) (.t 18) }])
 (.cond (.t 19) (.seq (.reg false [{ dst := some 4, op := .mv (.c (.i .i64 1)) }])
 .ret)
 .skip))
 (.seq (.reg false [{ dst := some 4, op := .mv (.c (.i .i64 0)) }])
 .ret)))))))) }
def A_cmp_Or_int : AFun := { res := [.t 2], body := (.seq (.reg false [{ dst := some 2, op := .mv (.c (.i .i64 0)) }])
 (.seq (.reg false [{ dst := some 3, op := .mv (.c (.i .i64 0)) }])
 (.seq (.seq (.reg false [{ dst := some 6, op := .mv (.t 0) },
  { dst := some 7, op := .len (.t 6) },
  { dst := some 8, op := .mv (.c (.i .i64 0)) }])
 (.blk 0 (.loop (.seq (.reg false [{ dst := some 9, op := .bin .lss (.t 8) (.t 7) }])
 (.seq (.cond (.t 9) .skip
 (.ext 0))
 (.seq (.blk 1 (.seq (.reg false [{ dst := some 10, op := .ia 1 (.t 6) (.t 8) },
  { dst := some 11, op := .ld none (.t 10) },
  { dst := some 5, op := .mv (.t 11) }])
 (.seq (.reg false [{ dst := some 12, op := .mv (.t 5) },
  { dst := some 13, op := .mv (.t 3) },
  { dst := some 14, op := .bin .neq (.t 12) (.t 13) }])
 (.cond (.t 14) (.seq (.reg false [{ dst := some 15, op := .mv (.t 5) },
  { dst := some 2, op := .mv (.t 15) }])
 .ret)
 .skip))))
 (.reg false [{ dst := some 16, op := .bin .add (.t 8) (.c (.i .i64 1)) },
  { dst := some 8, op := .mv (.t 16) }])))))))
 (.seq (.reg false [{ dst := some 17, op := .mv (.t 3) },
  { dst := some 2, op := .mv (.t 17) }])
 .ret)))) }
def A_cmp_isNaN_int : AFun := { res := [.t 2], body := (.seq (.reg false [{ dst := some 2, op := .mv (.c (.b false)) }])
 (.seq (.reg false [{ dst := some 3, op := .mv (.t 0) },
  { dst := some 4, op := .mv (.t 0) },
  { dst := some 5, op := .bin .neq (.t 3) (.t 4) },
  { dst := some 2, op := .mv (.t 5) }])
 .ret)) }
structure Pk_cmp (F : Funs) : Prop where
  cmp_Compare_int : F 248 = some A_cmp_Compare_int
  cmp_Or_int : F 249 = some A_cmp_Or_int
  cmp_isNaN_int : F 266 = some A_cmp_isNaN_int
end Go.Ab
end
section
namespace Go.Ab
def A_xlaw00_Place : AFun := { res := [.t 4], body := (.seq (.reg false [{ dst := some 4, op := .mv (.c (.i .i64 0)) }])
 (.seq (.reg false [{ dst := some 6, op := .mv (.t 0) },
  { dst := some 7, op := .mv (.t 1) },
  { dst := some 8, op := .bin .rem (.t 6) (.t 7) },
  { dst := some 5, op := .mv (.t 8) }])
 (.seq (.seq (.reg false [{ dst := some 9, op := .mv (.t 5) },
  { dst := some 10, op := .bin .lss (.t 9) (.c (.i .i64 0)) }])
 (.cond (.t 10) (.reg false [{ dst := some 11, op := .mv (.t 5) },
  { dst := some 12, op := .mv (.t 1) },
  { dst := some 13, op := .bin .add (.t 11) (.t 12) },
  { dst := some 5, op := .mv (.t 13) }])
 .skip))
 (.seq (.reg false [{ dst := some 14, op := .mv (.t 5) },
  { dst := some 4, op := .mv (.t 14) }])
 .ret)))) }
end Go.Ab
end
section
namespace Go.Ab
def A_xlaw06_GraphPo : AFun := { res := [.t 4], body := (.seq (.reg false [{ dst := some 4, op := .mv (.c (.b false)) }])
 (.seq (.reg false [{ dst := some 13, op := .mv (.t 1) },
  { dst := some 14, op := .call .pure (.c (.fn 10 [] [])) [.t 13, .c (.i .i64 4)] },
  { dst := some 15, op := .bin .add (.c (.i .i64 1)) (.t 14) },
  { dst := some 16, op := .build ([.i .i64 0] ++ List.replicate 7 (.sl [] 0 .rig)) [(0, 1, .t 15)] },
  { dst := some 5, op := .new ([.i .i64 0] ++ List.replicate 7 (.sl [] 0 .rig)) },
  { dst := none, op := .st 8 (.t 5) (.t 16) }])
 (.seq (.seq (.reg false [{ dst := some 6, op := .mv (.c (.i .i64 0)) }])
 (.blk 0 (.loop (.seq (.seq (.reg false [{ dst := some 17, op := .mv (.t 6) },
  { dst := some 18, op := .fa 0 (.t 5) },
  { dst := some 19, op := .ld none (.t 18) },
  { dst := some 20, op := .bin .lss (.t 17) (.t 19) }])
 (.cond (.t 20) .skip
 (.ext 0)))
 (.seq (.blk 1 (.reg true [{ dst := some 23, op := .fa 1 (.t 5) },
  { dst := some 24, op := .ld none (.t 23), pre := [] },
  { dst := some 25, op := .mv (.t 6) },
  { dst := some 26, op := .build (List.replicate 5 (.i .i64 0) ++ [.b false]) [(1, 1, .c (.i .i64 2)), (3, 1, .t 25)] },
  { dst := some 27, op := .bsl true 1 (List.replicate 5 (.i .i64 0) ++ [.b false]) [(0, 6, .t 26)], pre := [] },
  { dst := some 28, op := .app 6 48 (.t 24) (.t 27), pre := [] },
  { dst := some 29, op := .fa 2 (.t 5) },
  { dst := some 30, op := .ld none (.t 29), pre := [] },
  { dst := some 31, op := .bsl true 1 ([.i .i64 0]) [(0, 1, .c (.i .i64 (-1)))], pre := [] },
  { dst := some 32, op := .app 1 8 (.t 30) (.t 31), pre := [5] },
  { dst := some 33, op := .fa 3 (.t 5) },
  { dst := some 34, op := .ld none (.t 33), pre := [] },
  { dst := some 35, op := .mv (.t 6) },
  { dst := some 36, op := .bsl true 1 ([.i .i64 0]) [(0, 1, .t 35)], pre := [] },
  { dst := some 37, op := .bsl true 1 ([.sl [] 0 .rig]) [(0, 1, .t 36)], pre := [] },
  { dst := some 38, op := .app 1 24 (.t 34) (.t 37), pre := [5, 9] },
  { dst := some 39, op := .fa 1 (.t 5) },
  { dst := none, op := .st 1 (.t 39) (.t 28), pre := [5, 9, 15] },
  { dst := some 40, op := .fa 2 (.t 5) },
  { dst := none, op := .st 1 (.t 40) (.t 32), pre := [5, 9, 15] },
  { dst := some 41, op := .fa 3 (.t 5) },
  { dst := none, op := .st 1 (.t 41) (.t 38), pre := [5, 9, 15] }]))
 (.reg false [{ dst := some 21, op := .mv (.t 6) },
  { dst := some 22, op := .bin .add (.t 21) (.c (.i .i64 1)) },
  { dst := some 6, op := .mv (.t 22) }]))))))
 (.seq (.reg false [{ dst := some 7, op := .mv (.c (.i .i64 0)) },
  { dst := some 8, op := .mv (.c (.i .i64 0)) }])
 (.seq (.seq (.reg false [{ dst := some 9, op := .mv (.c (.i .i64 0)) }])
 (.blk 2 (.loop (.seq (.seq (.reg false [{ dst := some 42, op := .mv (.t 9) },
  { dst := some 43, op := .mv (.t 0) },
  { dst := some 44, op := .len (.t 43) },
  { dst := some 45, op := .bin .lss (.t 42) (.t 44) },
  { dst := some 46, op := .mv (.t 45) },
  { dst := some 47, op := .mv (.t 9), grd := some (46, true) },
  { dst := some 48, op := .bin .lss (.t 47) (.c (.i .i64 4)), grd := some (46, true) },
  { dst := some 49, op := .pick (.t 46) (.t 48) (.c (.b false)) }])
 (.cond (.t 49) .skip
 (.ext 2)))
 (.seq (.blk 3 (.seq (.reg false [{ dst := some 52, op := .mv (.t 0) },
  { dst := some 53, op := .mv (.t 9) },
  { dst := some 54, op := .ia 1 (.t 52) (.t 53) },
  { dst := some 55, op := .ld none (.t 54) },
  { dst := some 56, op := .call .pure (.c (.fn 10 [] [])) [.t 55, .c (.i .i64 9)] },
  { dst := some 10, op := .mv (.t 56) }])
 (.seq (.seq (.reg false [{ dst := some 11, op := .mv (.c (.i .i64 0)) }])
 (.blk 4 (.loop (.seq (.seq (.reg false [{ dst := some 57, op := .mv (.t 11) },
  { dst := some 58, op := .mv (.t 10) },
  { dst := some 59, op := .bin .lss (.t 57) (.t 58) }])
 (.cond (.t 59) .skip
 (.ext 4)))
 (.seq (.blk 5 (.reg true [{ dst := some 62, op := .fa 1 (.t 5) },
  { dst := some 63, op := .ld none (.t 62), pre := [] },
  { dst := some 64, op := .mv (.t 9) },
  { dst := some 65, op := .bin .add (.t 64) (.c (.i .i64 1)) },
  { dst := some 66, op := .build (List.replicate 5 (.i .i64 0) ++ [.b false]) [(0, 1, .t 65), (1, 1, .c (.i .i64 3)), (2, 1, .c (.i .i64 4))] },
  { dst := some 67, op := .bsl true 1 (List.replicate 5 (.i .i64 0) ++ [.b false]) [(0, 6, .t 66)], pre := [] },
  { dst := some 68, op := .app 6 48 (.t 63) (.t 67), pre := [] },
  { dst := some 69, op := .fa 2 (.t 5) },
  { dst := some 70, op := .ld none (.t 69), pre := [] },
  { dst := some 71, op := .bsl true 1 ([.i .i64 0]) [(0, 1, .c (.i .i64 (-1)))], pre := [] },
  { dst := some 72, op := .app 1 8 (.t 70) (.t 71), pre := [6] },
  { dst := some 73, op := .fa 1 (.t 5) },
  { dst := none, op := .st 1 (.t 73) (.t 68), pre := [6, 10] },
  { dst := some 74, op := .fa 2 (.t 5) },
  { dst := none, op := .st 1 (.t 74) (.t 72), pre := [6, 10] }]))
 (.reg false [{ dst := some 60, op := .mv (.t 11) },
  { dst := some 61, op := .bin .add (.t 60) (.c (.i .i64 1)) },
  { dst := some 11, op := .mv (.t 61) }]))))))
 (.reg false [{ dst := some 75, op := .mv (.t 7) },
  { dst := some 76, op := .mv (.t 10) },
  { dst := some 77, op := .mv (.t 10) },
  { dst := some 78, op := .bin .sub (.t 77) (.c (.i .i64 1)) },
  { dst := some 79, op := .bin .mul (.t 76) (.t 78) },
  { dst := some 80, op := .bin .quo (.t 79) (.c (.i .i64 2)) },
  { dst := some 81, op := .bin .add (.t 75) (.t 80) },
  { dst := some 82, op := .mv (.t 8) },
  { dst := some 83, op := .mv (.t 10) },
  { dst := some 84, op := .bin .add (.t 82) (.t 83) },
  { dst := some 7, op := .mv (.t 81) },
  { dst := some 8, op := .mv (.t 84) }]))))
 (.reg false [{ dst := some 50, op := .mv (.t 9) },
  { dst := some 51, op := .bin .add (.t 50) (.c (.i .i64 1)) },
  { dst := some 9, op := .mv (.t 51) }]))))))
 (.seq (.reg false [{ dst := some 85, op := .ld (some 8) (.t 5) },
  { dst := some 86, op := .call .pure (.c (.fn 60 [] [])) [.t 85] },
  { dst := some 12, op := .mv (.t 86) }])
 (.seq (.reg true [{ dst := some 87, op := .ld (some 8) (.t 5), pre := [] },
  { dst := some 88, op := .call .pure (.c (.fn 152 [] [])) [.t 87], pre := [] },
  { dst := some 89, op := .mv (.t 88) },
  { dst := some 90, op := .mv (.t 12), grd := some (89, true) },
  { dst := some 91, op := .call .pure (.c (.fn 15 [] [])) [.t 90], grd := some (89, true), pre := [] },
  { dst := some 92, op := .len (.t 91), grd := some (89, true) },
  { dst := some 93, op := .mv (.t 7), grd := some (89, true) },
  { dst := some 94, op := .fa 0 (.t 5), grd := some (89, true) },
  { dst := some 95, op := .ld none (.t 94), grd := some (89, true), pre := [] },
  { dst := some 96, op := .mv (.t 8), grd := some (89, true) },
  { dst := some 97, op := .bin .mul (.t 95) (.t 96), grd := some (89, true) },
  { dst := some 98, op := .bin .add (.t 93) (.t 97), grd := some (89, true) },
  { dst := some 99, op := .bin .eql (.t 92) (.t 98), grd := some (89, true) },
  { dst := some 100, op := .pick (.t 89) (.t 99) (.c (.b false)) },
  { dst := some 101, op := .mv (.t 100) },
  { dst := some 102, op := .mv (.t 12), grd := some (101, true) },
  { dst := some 103, op := .call .pure (.c (.fn 14 [] [])) [.t 102], grd := some (101, true), pre := [] },
  { dst := some 104, op := .un .not (.t 103), grd := some (101, true) },
  { dst := some 105, op := .pick (.t 101) (.t 104) (.c (.b false)) },
  { dst := some 106, op := .mv (.t 105) },
  { dst := some 107, op := .mv (.t 12), grd := some (106, true) },
  { dst := some 108, op := .call .pure (.c (.fn 12 [] [])) [.t 107], grd := some (106, true), pre := [] },
  { dst := some 109, op := .mv (.t 12), grd := some (106, true) },
  { dst := some 110, op := .call .pure (.c (.fn 22 [] [])) [.t 108, .t 109], grd := some (106, true), pre := [] },
  { dst := some 111, op := .pick (.t 106) (.t 110) (.c (.b false)) },
  { dst := some 112, op := .mv (.t 111) },
  { dst := some 113, op := .call .pure (.c (.fn 153 [] [])) [], grd := some (112, true), pre := [] },
  { dst := some 114, op := .pick (.t 112) (.t 113) (.c (.b false)) },
  { dst := some 4, op := .mv (.t 114) }])
 .ret))))))) }
def A_xlaw06_awake : AFun := { res := [.t 0], body := (.seq (.reg false [{ dst := some 0, op := .mv (.c (.b false)) }])
 (.seq (.reg false [{ dst := some 3, op := .build (List.replicate 5 (.i .i64 0) ++ [.b false]) [(1, 1, .c (.i .i64 2))] },
  { dst := some 4, op := .bsl true 1 (List.replicate 5 (.i .i64 0) ++ [.b false]) [(0, 6, .t 3)] },
  { dst := some 5, op := .bsl true 1 ([.i .i64 0]) [(0, 1, .c (.i .i64 (-1)))] },
  { dst := some 6, op := .bsl true 1 ([.i .i64 0]) [(0, 1, .c (.i .i64 0))] },
  { dst := some 7, op := .bsl true 1 ([.sl [] 0 .rig]) [(0, 1, .t 6)] },
  { dst := some 8, op := .build ([.i .i64 0] ++ List.replicate 7 (.sl [] 0 .rig)) [(0, 1, .c (.i .i64 1)), (1, 1, .t 4), (2, 1, .t 5), (3, 1, .t 7)] },
  { dst := some 1, op := .new ([.i .i64 0] ++ List.replicate 7 (.sl [] 0 .rig)) },
  { dst := none, op := .st 8 (.t 1) (.t 8) }])
 (.seq (.reg false [{ dst := some 9, op := .ld (some 8) (.t 1) },
  { dst := some 10, op := .call .pure (.c (.fn 152 [] [])) [.t 9] },
  { dst := some 2, op := .mv (.t 10) }])
 (.seq (.reg false [{ dst := some 11, op := .fa 2 (.t 1) },
  { dst := none, op := .st 1 (.t 11) (.c (.sl [] 0 .rig)) }])
 (.seq (.reg false [{ dst := some 12, op := .mv (.t 2) },
  { dst := some 13, op := .mv (.t 12) },
  { dst := some 14, op := .ld (some 8) (.t 1), grd := some (13, true) },
  { dst := some 15, op := .call .pure (.c (.fn 152 [] [])) [.t 14], grd := some (13, true) },
  { dst := some 16, op := .un .not (.t 15), grd := some (13, true) },
  { dst := some 17, op := .pick (.t 13) (.t 16) (.c (.b false)) },
  { dst := some 18, op := .mv (.t 17) },
  { dst := some 19, op := .build ([.i .i64 0] ++ List.replicate 7 (.sl [] 0 .rig)) [], grd := some (18, true) },
  { dst := some 20, op := .call .pure (.c (.fn 152 [] [])) [.t 19], grd := some (18, true) },
  { dst := some 21, op := .un .not (.t 20), grd := some (18, true) },
  { dst := some 22, op := .pick (.t 18) (.t 21) (.c (.b false)) },
  { dst := some 0, op := .mv (.t 22) }])
 .ret))))) }
end Go.Ab
end
section
namespace Go.Ab
def A_graph_Po : AFun := { res := [.t 2], body := (.seq (.reg false [{ dst := some 1, op := .box (.t 0) },
  { dst := some 2, op := .mv (.c (.nilp)) }])
 (.seq (.reg false [{ dst := some 3, op := .mv (.c (.sl [] 0 .rig)) }])
 (.seq (.seq (.reg false [{ dst := some 8, op := .fa 1 (.t 1) },
  { dst := some 9, op := .ld none (.t 8) },
  { dst := some 10, op := .len (.t 9) },
  { dst := some 11, op := .mv (.c (.i .i64 0)) }])
 (.blk 0 (.loop (.seq (.reg false [{ dst := some 12, op := .bin .lss (.t 11) (.t 10) }])
 (.seq (.cond (.t 12) .skip
 (.ext 0))
 (.seq (.blk 1 (.seq (.reg false [{ dst := some 13, op := .mv (.t 11) },
  { dst := some 14, op := .ia 6 (.t 9) (.t 11) },
  { dst := some 15, op := .ld (some 6) (.t 14) },
  { dst := some 5, op := .new (List.replicate 5 (.i .i64 0) ++ [.b false]) },
  { dst := some 4, op := .mv (.t 13) },
  { dst := none, op := .st 6 (.t 5) (.t 15) }])
 (.seq (.reg false [{ dst := some 16, op := .fa 1 (.t 1) },
  { dst := some 17, op := .ld none (.t 16) },
  { dst := some 18, op := .len (.t 17) },
  { dst := some 19, op := .mv (.c (.i .i64 0)) }])
 (.blk 2 (.loop (.seq (.reg false [{ dst := some 20, op := .bin .lss (.t 19) (.t 18) }])
 (.seq (.cond (.t 20) .skip
 (.ext 2))
 (.seq (.blk 3 (.seq (.reg false [{ dst := some 21, op := .mv (.t 19) },
  { dst := some 22, op := .ia 6 (.t 17) (.t 19) },
  { dst := some 23, op := .ld (some 6) (.t 22) },
  { dst := some 7, op := .new (List.replicate 5 (.i .i64 0) ++ [.b false]) },
  { dst := some 6, op := .mv (.t 21) },
  { dst := none, op := .st 6 (.t 7) (.t 23) }])
 (.seq (.reg false [{ dst := some 24, op := .fa 0 (.t 5) },
  { dst := some 25, op := .ld none (.t 24) },
  { dst := some 26, op := .bin .eql (.t 25) (.c (.i .i64 0)) },
  { dst := some 27, op := .mv (.t 26) },
  { dst := some 28, op := .fa 0 (.t 7), grd := some (27, true) },
  { dst := some 29, op := .ld none (.t 28), grd := some (27, true) },
  { dst := some 30, op := .bin .neq (.t 29) (.c (.i .i64 0)), grd := some (27, true) },
  { dst := some 31, op := .pick (.t 27) (.t 30) (.c (.b false)) },
  { dst := some 32, op := .mv (.t 31) },
  { dst := some 33, op := .fa 0 (.t 5), grd := some (32, false) },
  { dst := some 34, op := .ld none (.t 33), grd := some (32, false) },
  { dst := some 35, op := .fa 0 (.t 7), grd := some (32, false) },
  { dst := some 36, op := .ld none (.t 35), grd := some (32, false) },
  { dst := some 37, op := .bin .eql (.t 34) (.t 36), grd := some (32, false) },
  { dst := some 38, op := .mv (.t 37), grd := some (32, false) },
  { dst := some 39, op := .fa 0 (.t 5), grd := some (38, true) },
  { dst := some 40, op := .ld none (.t 39), grd := some (38, true) },
  { dst := some 41, op := .bin .neq (.t 40) (.c (.i .i64 0)), grd := some (38, true) },
  { dst := some 42, op := .pick (.t 38) (.t 41) (.c (.b false)), grd := some (32, false) },
  { dst := some 43, op := .mv (.t 42), grd := some (32, false) },
  { dst := some 44, op := .mv (.t 4), grd := some (43, true) },
  { dst := some 45, op := .mv (.t 6), grd := some (43, true) },
  { dst := some 46, op := .bin .lss (.t 44) (.t 45), grd := some (43, true) },
  { dst := some 47, op := .pick (.t 43) (.t 46) (.c (.b false)), grd := some (32, false) },
  { dst := some 48, op := .pick (.t 32) (.c (.b true)) (.t 47) }])
 (.cond (.t 48) (.reg false [{ dst := some 49, op := .mv (.t 3) },
  { dst := some 50, op := .mv (.t 4) },
  { dst := some 51, op := .mv (.t 6) },
  { dst := some 52, op := .build ([.i .i64 0, .i .i64 0]) [(0, 1, .t 50), (1, 1, .t 51)] },
  { dst := some 53, op := .bsl true 1 ([.i .i64 0, .i .i64 0]) [(0, 2, .t 52)] },
  { dst := some 54, op := .app 2 16 (.t 49) (.t 53) },
  { dst := some 3, op := .mv (.t 54) }])
 .skip))))
 (.reg false [{ dst := some 55, op := .bin .add (.t 19) (.c (.i .i64 1)) },
  { dst := some 19, op := .mv (.t 55) }])))))))))
 (.reg false [{ dst := some 56, op := .bin .add (.t 11) (.c (.i .i64 1)) },
  { dst := some 11, op := .mv (.t 56) }])))))))
 (.seq (.reg false [{ dst := some 57, op := .ld (some 8) (.t 1) },
  { dst := some 58, op := .mv (.t 3) },
  { dst := some 59, op := .call .pure (.c (.fn 81 [] [])) [.t 57, .t 58] },
  { dst := some 2, op := .mv (.t 59) }])
 .ret)))) }
def A_graph_Of : AFun := { res := [.t 4], body := (.seq (.reg false [{ dst := some 2, op := .box (.t 0) },
  { dst := some 4, op := .mv (.c (.nilp)) }])
 (.seq (.reg false [{ dst := some 5, op := .fa 1 (.t 2) },
  { dst := some 6, op := .ld none (.t 5) },
  { dst := some 7, op := .len (.t 6) },
  { dst := some 8, op := .mv (.t 1) },
  { dst := some 9, op := .call .pure (.c (.fn 11 [] [])) [.t 7, .t 8] },
  { dst := some 4, op := .mv (.t 9) }])
 .ret)) }
def A_graph_Check : AFun := { res := [.t 2], body := (.seq (.reg false [{ dst := some 1, op := .box (.t 0) },
  { dst := some 2, op := .mv (.c (.b false)) }])
 (.seq (.seq (.reg false [{ dst := some 4, op := .fa 0 (.t 1) },
  { dst := some 5, op := .ld none (.t 4) },
  { dst := some 6, op := .bin .lss (.t 5) (.c (.i .i64 1)) },
  { dst := some 7, op := .mv (.t 6) },
  { dst := some 8, op := .fa 0 (.t 1), grd := some (7, false) },
  { dst := some 9, op := .ld none (.t 8), grd := some (7, false) },
  { dst := some 10, op := .bin .gtr (.t 9) (.c (.i .i64 4)), grd := some (7, false) },
  { dst := some 11, op := .pick (.t 7) (.c (.b true)) (.t 10) },
  { dst := some 12, op := .mv (.t 11) },
  { dst := some 13, op := .fa 1 (.t 1), grd := some (12, false) },
  { dst := some 14, op := .ld none (.t 13), grd := some (12, false) },
  { dst := some 15, op := .len (.t 14), grd := some (12, false) },
  { dst := some 16, op := .bin .gtr (.t 15) (.c (.i .i64 40)), grd := some (12, false) },
  { dst := some 17, op := .pick (.t 12) (.c (.b true)) (.t 16) },
  { dst := some 18, op := .mv (.t 17) },
  { dst := some 19, op := .fa 1 (.t 1), grd := some (18, false) },
  { dst := some 20, op := .ld none (.t 19), grd := some (18, false) },
  { dst := some 21, op := .len (.t 20), grd := some (18, false) },
  { dst := some 22, op := .fa 0 (.t 1), grd := some (18, false) },
  { dst := some 23, op := .ld none (.t 22), grd := some (18, false) },
  { dst := some 24, op := .bin .lss (.t 21) (.t 23), grd := some (18, false) },
  { dst := some 25, op := .pick (.t 18) (.c (.b true)) (.t 24) },
  { dst := some 26, op := .mv (.t 25) },
  { dst := some 27, op := .ld (some 8) (.t 1), grd := some (26, false) },
  { dst := some 28, op := .call .pure (.c (.fn 186 [] [])) [.t 27], grd := some (26, false) },
  { dst := some 29, op := .un .not (.t 28), grd := some (26, false) },
  { dst := some 30, op := .pick (.t 26) (.c (.b true)) (.t 29) },
  { dst := some 31, op := .mv (.t 30) },
  { dst := some 32, op := .ld (some 8) (.t 1), grd := some (31, false) },
  { dst := some 33, op := .call .pure (.c (.fn 187 [] [])) [.t 32], grd := some (31, false) },
  { dst := some 34, op := .un .not (.t 33), grd := some (31, false) },
  { dst := some 35, op := .pick (.t 31) (.c (.b true)) (.t 34) },
  { dst := some 36, op := .mv (.t 35) },
  { dst := some 37, op := .ld (some 8) (.t 1), grd := some (36, false) },
  { dst := some 38, op := .call .pure (.c (.fn 188 [] [])) [.t 37], grd := some (36, false) },
  { dst := some 39, op := .un .not (.t 38), grd := some (36, false) },
  { dst := some 40, op := .pick (.t 36) (.c (.b true)) (.t 39) },
  { dst := some 41, op := .mv (.t 40) },
  { dst := some 42, op := .ld (some 8) (.t 1), grd := some (41, false) },
  { dst := some 43, op := .call .pure (.c (.fn 189 [] [])) [.t 42], grd := some (41, false) },
  { dst := some 44, op := .un .not (.t 43), grd := some (41, false) },
  { dst := some 45, op := .pick (.t 41) (.c (.b true)) (.t 44) },
  { dst := some 46, op := .mv (.t 45) },
  { dst := some 47, op := .ld (some 8) (.t 1), grd := some (46, false) },
  { dst := some 48, op := .call .pure (.c (.fn 190 [] [])) [.t 47], grd := some (46, false) },
  { dst := some 49, op := .un .not (.t 48), grd := some (46, false) },
  { dst := some 50, op := .pick (.t 46) (.c (.b true)) (.t 49) }])
 (.cond (.t 50) (.seq (.reg false [{ dst := some 2, op := .mv (.c (.b false)) }])
 .ret)
 .skip))
 (.seq (.reg false [{ dst := some 3, op := .mv (.c (.fn 191 [] [])) }])
 (.seq (.reg false [{ dst := some 51, op := .ld (some 8) (.t 1) },
  { dst := some 52, op := .fa 5 (.t 1) },
  { dst := some 53, op := .ld none (.t 52) },
  { dst := some 54, op := .mv (.t 3) },
  { dst := some 55, op := .call .pure (.c (.fn 192 [] [])) [.t 51, .t 53, .t 54] },
  { dst := some 56, op := .mv (.t 55) },
  { dst := some 57, op := .ld (some 8) (.t 1), grd := some (56, true) },
  { dst := some 58, op := .fa 6 (.t 1), grd := some (56, true) },
  { dst := some 59, op := .ld none (.t 58), grd := some (56, true) },
  { dst := some 60, op := .mv (.t 3), grd := some (56, true) },
  { dst := some 61, op := .call .pure (.c (.fn 192 [] [])) [.t 57, .t 59, .t 60], grd := some (56, true) },
  { dst := some 62, op := .pick (.t 56) (.t 61) (.c (.b false)) },
  { dst := some 63, op := .mv (.t 62) },
  { dst := some 64, op := .ld (some 8) (.t 1), grd := some (63, true) },
  { dst := some 65, op := .fa 7 (.t 1), grd := some (63, true) },
  { dst := some 66, op := .ld none (.t 65), grd := some (63, true) },
  { dst := some 67, op := .mv (.t 3), grd := some (63, true) },
  { dst := some 68, op := .call .pure (.c (.fn 192 [] [])) [.t 64, .t 66, .t 67], grd := some (63, true) },
  { dst := some 69, op := .pick (.t 63) (.t 68) (.c (.b false)) },
  { dst := some 2, op := .mv (.t 69) }])
 .ret)))) }
def A_graph_first : AFun := { res := [.t 2], body := (.seq (.reg false [{ dst := some 1, op := .box (.t 0) },
  { dst := some 2, op := .mv (.c (.b false)) }])
 (.seq (.seq (.reg false [{ dst := some 4, op := .fa 0 (.t 1) },
  { dst := some 5, op := .ld none (.t 4) },
  { dst := some 6, op := .mv (.c (.i .i64 0)) }])
 (.blk 0 (.loop (.seq (.reg false [{ dst := some 7, op := .bin .lss (.t 6) (.t 5) }])
 (.seq (.cond (.t 7) .skip
 (.ext 0))
 (.seq (.blk 1 (.seq (.reg false [{ dst := some 8, op := .mv (.t 6) },
  { dst := some 3, op := .mv (.t 8) }])
 (.seq (.reg false [{ dst := some 9, op := .fa 1 (.t 1) },
  { dst := some 10, op := .ld none (.t 9) },
  { dst := some 11, op := .mv (.t 3) },
  { dst := some 12, op := .ia 6 (.t 10) (.t 11) },
  { dst := some 13, op := .ld (some 6) (.t 12) },
  { dst := some 14, op := .mv (.t 3) },
  { dst := some 15, op := .build (List.replicate 5 (.i .i64 0) ++ [.b false]) [(1, 1, .c (.i .i64 2)), (3, 1, .t 14)] },
  { dst := some 16, op := .eqa true [0, 0, 0, 0, 0, 1] (.t 13) (.t 15) }])
 (.cond (.t 16) (.seq (.reg false [{ dst := some 2, op := .mv (.c (.b false)) }])
 .ret)
 .skip))))
 (.reg false [{ dst := some 17, op := .bin .add (.t 6) (.c (.i .i64 1)) },
  { dst := some 6, op := .mv (.t 17) }])))))))
 (.seq (.reg false [{ dst := some 2, op := .mv (.c (.b true)) }])
 .ret))) }
def A_graph_threads : AFun := { res := [.t 2], body := (.seq (.reg false [{ dst := some 1, op := .box (.t 0) },
  { dst := some 2, op := .mv (.c (.b false)) }])
 (.seq (.reg false [{ dst := some 3, op := .mv (.c (.i .i64 1)) }])
 (.seq (.seq (.reg false [{ dst := some 6, op := .fa 1 (.t 1) },
  { dst := some 7, op := .ld none (.t 6) },
  { dst := some 8, op := .fa 0 (.t 1) },
  { dst := some 9, op := .ld none (.t 8) },
  { dst := some 10, op := .slice 6 (.t 7) (some (.t 9)) none none },
  { dst := some 11, op := .len (.t 10) },
  { dst := some 12, op := .mv (.c (.i .i64 0)) }])
 (.blk 0 (.loop (.seq (.reg false [{ dst := some 13, op := .bin .lss (.t 12) (.t 11) }])
 (.seq (.cond (.t 13) .skip
 (.ext 0))
 (.seq (.blk 1 (.seq (.reg false [{ dst := some 14, op := .ia 6 (.t 10) (.t 12) },
  { dst := some 15, op := .ld (some 6) (.t 14) },
  { dst := some 5, op := .new (List.replicate 5 (.i .i64 0) ++ [.b false]) },
  { dst := none, op := .st 6 (.t 5) (.t 15) }])
 (.seq (.seq (.reg false [{ dst := some 16, op := .fa 0 (.t 5) },
  { dst := some 17, op := .ld none (.t 16) },
  { dst := some 18, op := .mv (.t 3) },
  { dst := some 19, op := .bin .lss (.t 17) (.t 18) },
  { dst := some 20, op := .mv (.t 19) },
  { dst := some 21, op := .fa 0 (.t 5), grd := some (20, false) },
  { dst := some 22, op := .ld none (.t 21), grd := some (20, false) },
  { dst := some 23, op := .bin .gtr (.t 22) (.c (.i .i64 4)), grd := some (20, false) },
  { dst := some 24, op := .pick (.t 20) (.c (.b true)) (.t 23) },
  { dst := some 25, op := .mv (.t 24) },
  { dst := some 26, op := .ld (some 6) (.t 5), grd := some (25, false) },
  { dst := some 27, op := .fa 0 (.t 1), grd := some (25, false) },
  { dst := some 28, op := .ld none (.t 27), grd := some (25, false) },
  { dst := some 29, op := .call .pure (.c (.fn 236 [] [])) [.t 26, .t 28], grd := some (25, false) },
  { dst := some 30, op := .un .not (.t 29), grd := some (25, false) },
  { dst := some 31, op := .pick (.t 25) (.c (.b true)) (.t 30) }])
 (.cond (.t 31) (.seq (.reg false [{ dst := some 2, op := .mv (.c (.b false)) }])
 .ret)
 .skip))
 (.reg false [{ dst := some 32, op := .fa 0 (.t 5) },
  { dst := some 33, op := .ld none (.t 32) },
  { dst := some 3, op := .mv (.t 33) }]))))
 (.reg false [{ dst := some 34, op := .bin .add (.t 12) (.c (.i .i64 1)) },
  { dst := some 12, op := .mv (.t 34) }])))))))
 (.seq (.reg false [{ dst := some 2, op := .mv (.c (.b true)) }])
 .ret)))) }
def A_graph_rf : AFun := { res := [.t 2], body := (.seq (.reg false [{ dst := some 1, op := .box (.t 0) },
  { dst := some 2, op := .mv (.c (.b false)) }])
 (.seq (.seq (.reg false [{ dst := some 6, op := .fa 2 (.t 1) },
  { dst := some 7, op := .ld none (.t 6) },
  { dst := some 8, op := .len (.t 7) },
  { dst := some 9, op := .fa 1 (.t 1) },
  { dst := some 10, op := .ld none (.t 9) },
  { dst := some 11, op := .len (.t 10) },
  { dst := some 12, op := .bin .neq (.t 8) (.t 11) }])
 (.cond (.t 12) (.seq (.reg false [{ dst := some 2, op := .mv (.c (.b false)) }])
 .ret)
 .skip))
 (.seq (.seq (.reg false [{ dst := some 13, op := .fa 1 (.t 1) },
  { dst := some 14, op := .ld none (.t 13) },
  { dst := some 15, op := .len (.t 14) },
  { dst := some 16, op := .mv (.c (.i .i64 0)) }])
 (.blk 0 (.loop (.seq (.reg false [{ dst := some 17, op := .bin .lss (.t 16) (.t 15) }])
 (.seq (.cond (.t 17) .skip
 (.ext 0))
 (.seq (.blk 1 (.seq (.reg false [{ dst := some 18, op := .mv (.t 16) },
  { dst := some 19, op := .ia 6 (.t 14) (.t 16) },
  { dst := some 20, op := .ld (some 6) (.t 19) },
  { dst := some 4, op := .new (List.replicate 5 (.i .i64 0) ++ [.b false]) },
  { dst := some 3, op := .mv (.t 18) },
  { dst := none, op := .st 6 (.t 4) (.t 20) }])
 (.seq (.reg false [{ dst := some 21, op := .fa 2 (.t 1) },
  { dst := some 22, op := .ld none (.t 21) },
  { dst := some 23, op := .mv (.t 3) },
  { dst := some 24, op := .ia 1 (.t 22) (.t 23) },
  { dst := some 25, op := .ld none (.t 24) },
  { dst := some 5, op := .mv (.t 25) }])
 (.blk 2 (.seq (.reg false [{ dst := some 27, op := .fa 1 (.t 4) },
  { dst := some 28, op := .ld none (.t 27) },
  { dst := some 29, op := .bin .neq (.t 28) (.c (.i .i64 1)) },
  { dst := some 30, op := .mv (.t 29) },
  { dst := some 31, op := .mv (.t 5), grd := some (30, true) },
  { dst := some 32, op := .bin .neq (.t 31) (.c (.i .i64 (-1))), grd := some (30, true) },
  { dst := some 33, op := .pick (.t 30) (.t 32) (.c (.b false)) },
  { dst := some 26, op := .mv (.t 33) }])
 (.cond (.t 26) (.seq (.reg false [{ dst := some 2, op := .mv (.c (.b false)) }])
 .ret)
 (.seq (.reg true [{ dst := some 35, op := .fa 1 (.t 4) },
  { dst := some 36, op := .ld none (.t 35), pre := [] },
  { dst := some 37, op := .bin .eql (.t 36) (.c (.i .i64 1)) },
  { dst := some 38, op := .mv (.t 37) },
  { dst := some 39, op := .ld (some 8) (.t 1), grd := some (38, true), pre := [] },
  { dst := some 40, op := .mv (.t 5), grd := some (38, true) },
  { dst := some 41, op := .fa 3 (.t 4), grd := some (38, true) },
  { dst := some 42, op := .ld none (.t 41), grd := some (38, true), pre := [] },
  { dst := some 43, op := .call .pure (.c (.fn 237 [] [])) [.t 39, .t 40, .t 42], grd := some (38, true), pre := [] },
  { dst := some 44, op := .un .not (.t 43), grd := some (38, true) },
  { dst := some 45, op := .mv (.t 44), grd := some (38, true) },
  { dst := some 46, op := .fa 1 (.t 1), grd := some (45, false) },
  { dst := some 47, op := .ld none (.t 46), grd := some (45, false), pre := [] },
  { dst := some 48, op := .mv (.t 5), grd := some (45, false) },
  { dst := some 49, op := .ia 6 (.t 47) (.t 48), grd := some (45, false) },
  { dst := some 50, op := .fa 4 (.t 49), grd := some (45, false) },
  { dst := some 51, op := .ld none (.t 50), grd := some (45, false), pre := [] },
  { dst := some 52, op := .fa 4 (.t 4), grd := some (45, false) },
  { dst := some 53, op := .ld none (.t 52), grd := some (45, false), pre := [] },
  { dst := some 54, op := .bin .neq (.t 51) (.t 53), grd := some (45, false) },
  { dst := some 55, op := .pick (.t 45) (.c (.b true)) (.t 54), grd := some (38, true) },
  { dst := some 56, op := .pick (.t 38) (.t 55) (.c (.b false)) },
  { dst := some 34, op := .mv (.t 56) }])
 (.cond (.t 34) (.seq (.reg false [{ dst := some 2, op := .mv (.c (.b false)) }])
 .ret)
 .skip))))))))
 (.reg false [{ dst := some 57, op := .bin .add (.t 16) (.c (.i .i64 1)) },
  { dst := some 16, op := .mv (.t 57) }])))))))
 (.seq (.reg false [{ dst := some 2, op := .mv (.c (.b true)) }])
 .ret)))) }
def A_graph_co : AFun := { res := [.t 2], body := (.seq (.reg false [{ dst := some 1, op := .box (.t 0) },
  { dst := some 2, op := .mv (.c (.b false)) }])
 (.seq (.seq (.reg false [{ dst := some 11, op := .fa 3 (.t 1) },
  { dst := some 12, op := .ld none (.t 11) },
  { dst := some 13, op := .len (.t 12) },
  { dst := some 14, op := .fa 0 (.t 1) },
  { dst := some 15, op := .ld none (.t 14) },
  { dst := some 16, op := .bin .neq (.t 13) (.t 15) }])
 (.cond (.t 16) (.seq (.reg false [{ dst := some 2, op := .mv (.c (.b false)) }])
 .ret)
 .skip))
 (.seq (.reg false [{ dst := some 3, op := .mv (.c (.i .i64 0)) }])
 (.seq (.reg false [{ dst := some 4, op := .new (List.replicate 40 (.b false)) }])
 (.seq (.seq (.reg false [{ dst := some 17, op := .fa 3 (.t 1) },
  { dst := some 18, op := .ld none (.t 17) },
  { dst := some 19, op := .len (.t 18) },
  { dst := some 20, op := .mv (.c (.i .i64 0)) }])
 (.blk 0 (.loop (.seq (.reg false [{ dst := some 21, op := .bin .lss (.t 20) (.t 19) }])
 (.seq (.cond (.t 21) .skip
 (.ext 0))
 (.seq (.blk 1 (.seq (.reg false [{ dst := some 22, op := .mv (.t 20) },
  { dst := some 23, op := .ia 1 (.t 18) (.t 20) },
  { dst := some 24, op := .ld none (.t 23) },
  { dst := some 5, op := .mv (.t 22) },
  { dst := some 6, op := .mv (.t 24) }])
 (.seq (.seq (.reg false [{ dst := some 25, op := .mv (.t 6) },
  { dst := some 26, op := .len (.t 25) },
  { dst := some 27, op := .bin .eql (.t 26) (.c (.i .i64 0)) },
  { dst := some 28, op := .mv (.t 27) },
  { dst := some 29, op := .mv (.t 6), grd := some (28, false) },
  { dst := some 30, op := .ia 1 (.t 29) (.c (.i .i64 0)), grd := some (28, false) },
  { dst := some 31, op := .ld none (.t 30), grd := some (28, false) },
  { dst := some 32, op := .mv (.t 5), grd := some (28, false) },
  { dst := some 33, op := .bin .neq (.t 31) (.t 32), grd := some (28, false) },
  { dst := some 34, op := .pick (.t 28) (.c (.b true)) (.t 33) }])
 (.cond (.t 34) (.seq (.reg false [{ dst := some 2, op := .mv (.c (.b false)) }])
 .ret)
 .skip))
 (.seq (.reg false [{ dst := some 35, op := .mv (.t 6) },
  { dst := some 36, op := .len (.t 35) },
  { dst := some 37, op := .mv (.c (.i .i64 0)) }])
 (.blk 2 (.loop (.seq (.reg false [{ dst := some 38, op := .bin .lss (.t 37) (.t 36) }])
 (.seq (.cond (.t 38) .skip
 (.ext 2))
 (.seq (.blk 3 (.seq (.reg false [{ dst := some 39, op := .ia 1 (.t 35) (.t 37) },
  { dst := some 40, op := .ld none (.t 39) },
  { dst := some 8, op := .mv (.t 40) }])
 (.seq (.seq (.reg false [{ dst := some 41, op := .ld (some 8) (.t 1) },
  { dst := some 42, op := .mv (.t 8) },
  { dst := some 43, op := .mv (.t 5) },
  { dst := some 44, op := .call .pure (.c (.fn 237 [] [])) [.t 41, .t 42, .t 43] },
  { dst := some 45, op := .un .not (.t 44) },
  { dst := some 46, op := .mv (.t 45) },
  { dst := some 47, op := .mv (.t 8), grd := some (46, false) },
  { dst := some 48, op := .iaa 40 1 (.t 4) (.t 47), grd := some (46, false) },
  { dst := some 49, op := .ld none (.t 48), grd := some (46, false) },
  { dst := some 50, op := .pick (.t 46) (.c (.b true)) (.t 49) }])
 (.cond (.t 50) (.seq (.reg false [{ dst := some 2, op := .mv (.c (.b false)) }])
 .ret)
 .skip))
 (.seq (.reg false [{ dst := some 51, op := .mv (.t 8) },
  { dst := some 52, op := .iaa 40 1 (.t 4) (.t 51) },
  { dst := none, op := .st 1 (.t 52) (.c (.b true)) }])
 (.reg false [{ dst := some 53, op := .mv (.t 3) },
  { dst := some 54, op := .bin .add (.t 53) (.c (.i .i64 1)) },
  { dst := some 3, op := .mv (.t 54) }])))))
 (.reg false [{ dst := some 55, op := .bin .add (.t 37) (.c (.i .i64 1)) },
  { dst := some 37, op := .mv (.t 55) }]))))))))))
 (.reg false [{ dst := some 56, op := .bin .add (.t 20) (.c (.i .i64 1)) },
  { dst := some 20, op := .mv (.t 56) }])))))))
 (.seq (.seq (.reg false [{ dst := some 57, op := .fa 1 (.t 1) },
  { dst := some 58, op := .ld none (.t 57) },
  { dst := some 59, op := .len (.t 58) },
  { dst := some 60, op := .mv (.c (.i .i64 0)) }])
 (.blk 4 (.loop (.seq (.reg false [{ dst := some 61, op := .bin .lss (.t 60) (.t 59) }])
 (.seq (.cond (.t 61) .skip
 (.ext 4))
 (.seq (.blk 5 (.seq (.reg false [{ dst := some 62, op := .ia 6 (.t 58) (.t 60) },
  { dst := some 63, op := .ld (some 6) (.t 62) },
  { dst := some 10, op := .new (List.replicate 5 (.i .i64 0) ++ [.b false]) },
  { dst := none, op := .st 6 (.t 10) (.t 63) }])
 (.seq (.reg false [{ dst := some 64, op := .fa 1 (.t 10) },
  { dst := some 65, op := .ld none (.t 64) },
  { dst := some 66, op := .bin .eql (.t 65) (.c (.i .i64 2)) }])
 (.cond (.t 66) (.reg false [{ dst := some 67, op := .mv (.t 3) },
  { dst := some 68, op := .bin .sub (.t 67) (.c (.i .i64 1)) },
  { dst := some 3, op := .mv (.t 68) }])
 .skip))))
 (.reg false [{ dst := some 69, op := .bin .add (.t 60) (.c (.i .i64 1)) },
  { dst := some 60, op := .mv (.t 69) }])))))))
 (.seq (.reg false [{ dst := some 70, op := .mv (.t 3) },
  { dst := some 71, op := .bin .eql (.t 70) (.c (.i .i64 0)) },
  { dst := some 2, op := .mv (.t 71) }])
 .ret))))))) }
def A_graph_rmw : AFun := { res := [.t 2], body := (.seq (.reg false [{ dst := some 1, op := .box (.t 0) },
  { dst := some 2, op := .mv (.c (.b false)) }])
 (.seq (.reg false [{ dst := some 3, op := .mv (.c (.fn 238 [] [])) }])
 (.seq (.seq (.reg false [{ dst := some 10, op := .ld (some 8) (.t 1) },
  { dst := some 11, op := .fa 4 (.t 1) },
  { dst := some 12, op := .ld none (.t 11) },
  { dst := some 13, op := .mv (.t 3) },
  { dst := some 14, op := .call .pure (.c (.fn 192 [] [])) [.t 10, .t 12, .t 13] },
  { dst := some 15, op := .un .not (.t 14) }])
 (.cond (.t 15) (.seq (.reg false [{ dst := some 2, op := .mv (.c (.b false)) }])
 .ret)
 .skip))
 (.seq (.reg false [{ dst := some 4, op := .mv (.c (.i .i64 0)) }])
 (.seq (.seq (.reg false [{ dst := some 16, op := .fa 1 (.t 1) },
  { dst := some 17, op := .ld none (.t 16) },
  { dst := some 18, op := .len (.t 17) },
  { dst := some 19, op := .mv (.c (.i .i64 0)) }])
 (.blk 0 (.loop (.seq (.reg false [{ dst := some 20, op := .bin .lss (.t 19) (.t 18) }])
 (.seq (.cond (.t 20) .skip
 (.ext 0))
 (.seq (.blk 1 (.seq (.reg false [{ dst := some 21, op := .ia 6 (.t 17) (.t 19) },
  { dst := some 22, op := .ld (some 6) (.t 21) },
  { dst := some 6, op := .new (List.replicate 5 (.i .i64 0) ++ [.b false]) },
  { dst := none, op := .st 6 (.t 6) (.t 22) }])
 (.seq (.reg false [{ dst := some 23, op := .fa 5 (.t 6) },
  { dst := some 24, op := .ld none (.t 23) }])
 (.cond (.t 24) (.reg false [{ dst := some 25, op := .mv (.t 4) },
  { dst := some 26, op := .bin .add (.t 25) (.c (.i .i64 1)) },
  { dst := some 4, op := .mv (.t 26) }])
 .skip))))
 (.reg false [{ dst := some 27, op := .bin .add (.t 19) (.c (.i .i64 1)) },
  { dst := some 19, op := .mv (.t 27) }])))))))
 (.seq (.reg false [{ dst := some 7, op := .mv (.c (.i .i64 (-1))) }])
 (.seq (.seq (.reg false [{ dst := some 28, op := .fa 4 (.t 1) },
  { dst := some 29, op := .ld none (.t 28) },
  { dst := some 30, op := .len (.t 29) },
  { dst := some 31, op := .mv (.c (.i .i64 0)) }])
 (.blk 2 (.loop (.seq (.reg false [{ dst := some 32, op := .bin .lss (.t 31) (.t 30) }])
 (.seq (.cond (.t 32) .skip
 (.ext 2))
 (.seq (.blk 3 (.seq (.reg false [{ dst := some 33, op := .ia 2 (.t 29) (.t 31) },
  { dst := some 34, op := .ld (some 2) (.t 33) },
  { dst := some 9, op := .new ([.i .i64 0, .i .i64 0]) },
  { dst := none, op := .st 2 (.t 9) (.t 34) }])
 (.seq (.seq (.reg false [{ dst := some 35, op := .fa 1 (.t 9) },
  { dst := some 36, op := .ld none (.t 35) },
  { dst := some 37, op := .fa 0 (.t 9) },
  { dst := some 38, op := .ld none (.t 37) },
  { dst := some 39, op := .bin .add (.t 38) (.c (.i .i64 1)) },
  { dst := some 40, op := .bin .neq (.t 36) (.t 39) },
  { dst := some 41, op := .mv (.t 40) },
  { dst := some 42, op := .fa 0 (.t 9), grd := some (41, false) },
  { dst := some 43, op := .ld none (.t 42), grd := some (41, false) },
  { dst := some 44, op := .mv (.t 7), grd := some (41, false) },
  { dst := some 45, op := .bin .leq (.t 43) (.t 44), grd := some (41, false) },
  { dst := some 46, op := .pick (.t 41) (.c (.b true)) (.t 45) }])
 (.cond (.t 46) (.seq (.reg false [{ dst := some 2, op := .mv (.c (.b false)) }])
 .ret)
 .skip))
 (.reg false [{ dst := some 47, op := .fa 1 (.t 9) },
  { dst := some 48, op := .ld none (.t 47) },
  { dst := some 7, op := .mv (.t 48) }]))))
 (.reg false [{ dst := some 49, op := .bin .add (.t 31) (.c (.i .i64 1)) },
  { dst := some 31, op := .mv (.t 49) }])))))))
 (.seq (.reg false [{ dst := some 50, op := .mv (.t 4) },
  { dst := some 51, op := .fa 4 (.t 1) },
  { dst := some 52, op := .ld none (.t 51) },
  { dst := some 53, op := .len (.t 52) },
  { dst := some 54, op := .bin .mul (.c (.i .i64 2)) (.t 53) },
  { dst := some 55, op := .bin .eql (.t 50) (.t 54) },
  { dst := some 2, op := .mv (.t 55) }])
 .ret)))))))) }
def A_graph_Check_1 : AFun := { res := [.t 4], body := (.seq (.reg false [{ dst := some 2, op := .box (.t 0) },
  { dst := some 3, op := .box (.t 1) },
  { dst := some 4, op := .mv (.c (.b false)) }])
 (.seq (.reg false [{ dst := some 5, op := .fa 1 (.t 2) },
  { dst := some 6, op := .ld none (.t 5) },
  { dst := some 7, op := .bin .eql (.t 6) (.c (.i .i64 1)) },
  { dst := some 8, op := .mv (.t 7) },
  { dst := some 9, op := .fa 0 (.t 2), grd := some (8, true) },
  { dst := some 10, op := .ld none (.t 9), grd := some (8, true) },
  { dst := some 11, op := .fa 0 (.t 3), grd := some (8, true) },
  { dst := some 12, op := .ld none (.t 11), grd := some (8, true) },
  { dst := some 13, op := .bin .eql (.t 10) (.t 12), grd := some (8, true) },
  { dst := some 14, op := .pick (.t 8) (.t 13) (.c (.b false)) },
  { dst := some 4, op := .mv (.t 14) }])
 .ret)) }
def A_graph_list : AFun := { res := [.t 6], body := (.seq (.reg false [{ dst := some 3, op := .box (.t 0) },
  { dst := some 6, op := .mv (.c (.b false)) }])
 (.seq (.seq (.reg false [{ dst := some 9, op := .mv (.t 1) },
  { dst := some 10, op := .len (.t 9) },
  { dst := some 11, op := .mv (.c (.i .i64 0)) }])
 (.blk 0 (.loop (.seq (.reg false [{ dst := some 12, op := .bin .lss (.t 11) (.t 10) }])
 (.seq (.cond (.t 12) .skip
 (.ext 0))
 (.seq (.blk 1 (.seq (.reg false [{ dst := some 13, op := .mv (.t 11) },
  { dst := some 14, op := .ia 2 (.t 9) (.t 11) },
  { dst := some 15, op := .ld (some 2) (.t 14) },
  { dst := some 8, op := .new ([.i .i64 0, .i .i64 0]) },
  { dst := some 7, op := .mv (.t 13) },
  { dst := none, op := .st 2 (.t 8) (.t 15) }])
 (.seq (.reg true [{ dst := some 16, op := .fa 0 (.t 8) },
  { dst := some 17, op := .ld none (.t 16), pre := [] },
  { dst := some 18, op := .bin .lss (.t 17) (.c (.i .i64 0)) },
  { dst := some 19, op := .mv (.t 18) },
  { dst := some 20, op := .fa 1 (.t 8), grd := some (19, false) },
  { dst := some 21, op := .ld none (.t 20), grd := some (19, false), pre := [] },
  { dst := some 22, op := .fa 1 (.t 3), grd := some (19, false) },
  { dst := some 23, op := .ld none (.t 22), grd := some (19, false), pre := [] },
  { dst := some 24, op := .len (.t 23), grd := some (19, false) },
  { dst := some 25, op := .bin .geq (.t 21) (.t 24), grd := some (19, false) },
  { dst := some 26, op := .pick (.t 19) (.c (.b true)) (.t 25) },
  { dst := some 27, op := .mv (.t 26) },
  { dst := some 28, op := .fa 0 (.t 8), grd := some (27, false) },
  { dst := some 29, op := .ld none (.t 28), grd := some (27, false), pre := [] },
  { dst := some 30, op := .fa 1 (.t 8), grd := some (27, false) },
  { dst := some 31, op := .ld none (.t 30), grd := some (27, false), pre := [] },
  { dst := some 32, op := .bin .geq (.t 29) (.t 31), grd := some (27, false) },
  { dst := some 33, op := .pick (.t 27) (.c (.b true)) (.t 32) },
  { dst := some 34, op := .mv (.t 33) },
  { dst := some 35, op := .mv (.t 7), grd := some (34, false) },
  { dst := some 36, op := .bin .gtr (.t 35) (.c (.i .i64 0)), grd := some (34, false) },
  { dst := some 37, op := .mv (.t 36), grd := some (34, false) },
  { dst := some 38, op := .mv (.t 1), grd := some (37, true) },
  { dst := some 39, op := .mv (.t 7), grd := some (37, true) },
  { dst := some 40, op := .bin .sub (.t 39) (.c (.i .i64 1)), grd := some (37, true) },
  { dst := some 41, op := .ia 2 (.t 38) (.t 40), grd := some (37, true) },
  { dst := some 42, op := .ld (some 2) (.t 41), grd := some (37, true), pre := [] },
  { dst := some 43, op := .ld (some 2) (.t 8), grd := some (37, true), pre := [] },
  { dst := some 44, op := .call .pure (.c (.fn 239 [] [])) [.t 42, .t 43], grd := some (37, true), pre := [] },
  { dst := some 45, op := .bin .geq (.t 44) (.c (.i .i64 0)), grd := some (37, true) },
  { dst := some 46, op := .pick (.t 37) (.t 45) (.c (.b false)), grd := some (34, false) },
  { dst := some 47, op := .pick (.t 34) (.c (.b true)) (.t 46) },
  { dst := some 48, op := .mv (.t 47) },
  { dst := some 49, op := .mv (.t 2), grd := some (48, false) },
  { dst := some 50, op := .fa 1 (.t 3), grd := some (48, false) },
  { dst := some 51, op := .ld none (.t 50), grd := some (48, false), pre := [] },
  { dst := some 52, op := .fa 0 (.t 8), grd := some (48, false) },
  { dst := some 53, op := .ld none (.t 52), grd := some (48, false), pre := [] },
  { dst := some 54, op := .ia 6 (.t 51) (.t 53), grd := some (48, false) },
  { dst := some 55, op := .ld (some 6) (.t 54), grd := some (48, false), pre := [] },
  { dst := some 56, op := .fa 1 (.t 3), grd := some (48, false) },
  { dst := some 57, op := .ld none (.t 56), grd := some (48, false), pre := [] },
  { dst := some 58, op := .fa 1 (.t 8), grd := some (48, false) },
  { dst := some 59, op := .ld none (.t 58), grd := some (48, false), pre := [] },
  { dst := some 60, op := .ia 6 (.t 57) (.t 59), grd := some (48, false) },
  { dst := some 61, op := .ld (some 6) (.t 60), grd := some (48, false), pre := [] },
  { dst := some 62, op := .call .pure (.t 49) [.t 55, .t 61], grd := some (48, false), pre := [] },
  { dst := some 63, op := .un .not (.t 62), grd := some (48, false) },
  { dst := some 64, op := .pick (.t 48) (.c (.b true)) (.t 63) }])
 (.cond (.t 64) (.seq (.reg false [{ dst := some 6, op := .mv (.c (.b false)) }])
 .ret)
 .skip))))
 (.reg false [{ dst := some 65, op := .bin .add (.t 11) (.c (.i .i64 1)) },
  { dst := some 11, op := .mv (.t 65) }])))))))
 (.seq (.reg false [{ dst := some 6, op := .mv (.c (.b true)) }])
 .ret))) }
def A_graph_event : AFun := { res := [.t 4], body := (.seq (.reg false [{ dst := some 2, op := .box (.t 0) },
  { dst := some 4, op := .mv (.c (.b false)) }])
 (.seq (.reg false [{ dst := some 6, op := .fa 3 (.t 2) },
  { dst := some 7, op := .ld none (.t 6) },
  { dst := some 8, op := .bin .geq (.t 7) (.c (.i .i64 0)) },
  { dst := some 9, op := .mv (.t 8) },
  { dst := some 10, op := .fa 3 (.t 2), grd := some (9, true) },
  { dst := some 11, op := .ld none (.t 10), grd := some (9, true) },
  { dst := some 12, op := .mv (.t 1), grd := some (9, true) },
  { dst := some 13, op := .bin .lss (.t 11) (.t 12), grd := some (9, true) },
  { dst := some 14, op := .pick (.t 9) (.t 13) (.c (.b false)) },
  { dst := some 5, op := .mv (.t 14) }])
 (.seq (.seq (.reg false [{ dst := some 15, op := .fa 1 (.t 2) },
  { dst := some 16, op := .ld none (.t 15) }])
 (.blk 0 (.seq (.reg false [{ dst := some 18, op := .bin .eql (.t 16) (.c (.i .i64 1)) },
  { dst := some 17, op := .mv (.t 18) }])
 (.cond (.t 17) (.seq (.reg false [{ dst := some 19, op := .mv (.t 5) },
  { dst := some 20, op := .mv (.t 19) },
  { dst := some 21, op := .fa 2 (.t 2), grd := some (20, true) },
  { dst := some 22, op := .ld none (.t 21), grd := some (20, true) },
  { dst := some 23, op := .bin .eql (.t 22) (.c (.i .i64 0)), grd := some (20, true) },
  { dst := some 24, op := .mv (.t 23), grd := some (20, true) },
  { dst := some 25, op := .fa 2 (.t 2), grd := some (24, false) },
  { dst := some 26, op := .ld none (.t 25), grd := some (24, false) },
  { dst := some 27, op := .bin .eql (.t 26) (.c (.i .i64 1)), grd := some (24, false) },
  { dst := some 28, op := .pick (.t 24) (.c (.b true)) (.t 27), grd := some (20, true) },
  { dst := some 29, op := .pick (.t 20) (.t 28) (.c (.b false)) },
  { dst := some 4, op := .mv (.t 29) }])
 .ret)
 (.seq (.reg false [{ dst := some 31, op := .bin .eql (.t 16) (.c (.i .i64 2)) },
  { dst := some 30, op := .mv (.t 31) }])
 (.cond (.t 30) (.seq (.reg false [{ dst := some 32, op := .mv (.t 5) },
  { dst := some 33, op := .mv (.t 32) },
  { dst := some 34, op := .fa 2 (.t 2), grd := some (33, true) },
  { dst := some 35, op := .ld none (.t 34), grd := some (33, true) },
  { dst := some 36, op := .bin .eql (.t 35) (.c (.i .i64 0)), grd := some (33, true) },
  { dst := some 37, op := .mv (.t 36), grd := some (33, true) },
  { dst := some 38, op := .fa 2 (.t 2), grd := some (37, false) },
  { dst := some 39, op := .ld none (.t 38), grd := some (37, false) },
  { dst := some 40, op := .bin .eql (.t 39) (.c (.i .i64 2)), grd := some (37, false) },
  { dst := some 41, op := .pick (.t 37) (.c (.b true)) (.t 40), grd := some (33, true) },
  { dst := some 42, op := .pick (.t 33) (.t 41) (.c (.b false)) },
  { dst := some 4, op := .mv (.t 42) }])
 .ret)
 .skip))))))
 (.seq (.reg false [{ dst := some 43, op := .fa 1 (.t 2) },
  { dst := some 44, op := .ld none (.t 43) },
  { dst := some 45, op := .bin .eql (.t 44) (.c (.i .i64 3)) },
  { dst := some 46, op := .mv (.t 45) },
  { dst := some 47, op := .fa 2 (.t 2), grd := some (46, true) },
  { dst := some 48, op := .ld none (.t 47), grd := some (46, true) },
  { dst := some 49, op := .bin .geq (.t 48) (.c (.i .i64 1)), grd := some (46, true) },
  { dst := some 50, op := .pick (.t 46) (.t 49) (.c (.b false)) },
  { dst := some 51, op := .mv (.t 50) },
  { dst := some 52, op := .fa 2 (.t 2), grd := some (51, true) },
  { dst := some 53, op := .ld none (.t 52), grd := some (51, true) },
  { dst := some 54, op := .bin .leq (.t 53) (.c (.i .i64 4)), grd := some (51, true) },
  { dst := some 55, op := .pick (.t 51) (.t 54) (.c (.b false)) },
  { dst := some 56, op := .mv (.t 55) },
  { dst := some 57, op := .fa 3 (.t 2), grd := some (56, true) },
  { dst := some 58, op := .ld none (.t 57), grd := some (56, true) },
  { dst := some 59, op := .bin .eql (.t 58) (.c (.i .i64 0)), grd := some (56, true) },
  { dst := some 60, op := .pick (.t 56) (.t 59) (.c (.b false)) },
  { dst := some 61, op := .mv (.t 60) },
  { dst := some 62, op := .fa 4 (.t 2), grd := some (61, true) },
  { dst := some 63, op := .ld none (.t 62), grd := some (61, true) },
  { dst := some 64, op := .bin .eql (.t 63) (.c (.i .i64 0)), grd := some (61, true) },
  { dst := some 65, op := .pick (.t 61) (.t 64) (.c (.b false)) },
  { dst := some 66, op := .mv (.t 65) },
  { dst := some 67, op := .fa 5 (.t 2), grd := some (66, true) },
  { dst := some 68, op := .ld none (.t 67), grd := some (66, true) },
  { dst := some 69, op := .un .not (.t 68), grd := some (66, true) },
  { dst := some 70, op := .pick (.t 66) (.t 69) (.c (.b false)) },
  { dst := some 4, op := .mv (.t 70) }])
 .ret)))) }
def A_graph_write : AFun := { res := [.t 6], body := (.seq (.reg false [{ dst := some 3, op := .box (.t 0) },
  { dst := some 6, op := .mv (.c (.b false)) }])
 (.seq (.reg false [{ dst := some 7, op := .mv (.t 1) },
  { dst := some 8, op := .bin .geq (.t 7) (.c (.i .i64 0)) },
  { dst := some 9, op := .mv (.t 8) },
  { dst := some 10, op := .mv (.t 1), grd := some (9, true) },
  { dst := some 11, op := .fa 1 (.t 3), grd := some (9, true) },
  { dst := some 12, op := .ld none (.t 11), grd := some (9, true) },
  { dst := some 13, op := .len (.t 12), grd := some (9, true) },
  { dst := some 14, op := .bin .lss (.t 10) (.t 13), grd := some (9, true) },
  { dst := some 15, op := .pick (.t 9) (.t 14) (.c (.b false)) },
  { dst := some 16, op := .mv (.t 15) },
  { dst := some 17, op := .fa 1 (.t 3), grd := some (16, true) },
  { dst := some 18, op := .ld none (.t 17), grd := some (16, true) },
  { dst := some 19, op := .mv (.t 1), grd := some (16, true) },
  { dst := some 20, op := .ia 6 (.t 18) (.t 19), grd := some (16, true) },
  { dst := some 21, op := .fa 1 (.t 20), grd := some (16, true) },
  { dst := some 22, op := .ld none (.t 21), grd := some (16, true) },
  { dst := some 23, op := .bin .eql (.t 22) (.c (.i .i64 2)), grd := some (16, true) },
  { dst := some 24, op := .pick (.t 16) (.t 23) (.c (.b false)) },
  { dst := some 25, op := .mv (.t 24) },
  { dst := some 26, op := .fa 1 (.t 3), grd := some (25, true) },
  { dst := some 27, op := .ld none (.t 26), grd := some (25, true) },
  { dst := some 28, op := .mv (.t 1), grd := some (25, true) },
  { dst := some 29, op := .ia 6 (.t 27) (.t 28), grd := some (25, true) },
  { dst := some 30, op := .fa 3 (.t 29), grd := some (25, true) },
  { dst := some 31, op := .ld none (.t 30), grd := some (25, true) },
  { dst := some 32, op := .mv (.t 2), grd := some (25, true) },
  { dst := some 33, op := .bin .eql (.t 31) (.t 32), grd := some (25, true) },
  { dst := some 34, op := .pick (.t 25) (.t 33) (.c (.b false)) },
  { dst := some 6, op := .mv (.t 34) }])
 .ret)) }
def A_graph_rmw_1 : AFun := { res := [.t 4], body := (.seq (.reg false [{ dst := some 2, op := .box (.t 0) },
  { dst := some 3, op := .box (.t 1) },
  { dst := some 4, op := .mv (.c (.b false)) }])
 (.seq (.reg false [{ dst := some 5, op := .fa 1 (.t 2) },
  { dst := some 6, op := .ld none (.t 5) },
  { dst := some 7, op := .bin .eql (.t 6) (.c (.i .i64 1)) },
  { dst := some 8, op := .mv (.t 7) },
  { dst := some 9, op := .fa 1 (.t 3), grd := some (8, true) },
  { dst := some 10, op := .ld none (.t 9), grd := some (8, true) },
  { dst := some 11, op := .bin .eql (.t 10) (.c (.i .i64 2)), grd := some (8, true) },
  { dst := some 12, op := .pick (.t 8) (.t 11) (.c (.b false)) },
  { dst := some 13, op := .mv (.t 12) },
  { dst := some 14, op := .fa 3 (.t 2), grd := some (13, true) },
  { dst := some 15, op := .ld none (.t 14), grd := some (13, true) },
  { dst := some 16, op := .fa 3 (.t 3), grd := some (13, true) },
  { dst := some 17, op := .ld none (.t 16), grd := some (13, true) },
  { dst := some 18, op := .bin .eql (.t 15) (.t 17), grd := some (13, true) },
  { dst := some 19, op := .pick (.t 13) (.t 18) (.c (.b false)) },
  { dst := some 20, op := .mv (.t 19) },
  { dst := some 21, op := .fa 5 (.t 2), grd := some (20, true) },
  { dst := some 22, op := .ld none (.t 21), grd := some (20, true) },
  { dst := some 23, op := .pick (.t 20) (.t 22) (.c (.b false)) },
  { dst := some 24, op := .mv (.t 23) },
  { dst := some 25, op := .fa 5 (.t 3), grd := some (24, true) },
  { dst := some 26, op := .ld none (.t 25), grd := some (24, true) },
  { dst := some 27, op := .pick (.t 24) (.t 26) (.c (.b false)) },
  { dst := some 28, op := .mv (.t 27) },
  { dst := some 29, op := .fa 0 (.t 2), grd := some (28, true) },
  { dst := some 30, op := .ld none (.t 29), grd := some (28, true) },
  { dst := some 31, op := .fa 0 (.t 3), grd := some (28, true) },
  { dst := some 32, op := .ld none (.t 31), grd := some (28, true) },
  { dst := some 33, op := .bin .eql (.t 30) (.t 32), grd := some (28, true) },
  { dst := some 34, op := .pick (.t 28) (.t 33) (.c (.b false)) },
  { dst := some 4, op := .mv (.t 34) }])
 .ret)) }
def A_graph_order : AFun := { res := [.t 4], body := (.seq (.reg false [{ dst := some 2, op := .box (.t 0) },
  { dst := some 3, op := .box (.t 1) },
  { dst := some 4, op := .mv (.c (.i .i64 0)) }])
 (.seq (.reg true [{ dst := some 5, op := .fa 0 (.t 2) },
  { dst := some 6, op := .ld none (.t 5), pre := [] },
  { dst := some 7, op := .fa 0 (.t 3) },
  { dst := some 8, op := .ld none (.t 7), pre := [] },
  { dst := some 9, op := .call .pure (.c (.fn 248 [] [])) [.t 6, .t 8], pre := [] },
  { dst := some 10, op := .fa 1 (.t 2) },
  { dst := some 11, op := .ld none (.t 10), pre := [] },
  { dst := some 12, op := .fa 1 (.t 3) },
  { dst := some 13, op := .ld none (.t 12), pre := [] },
  { dst := some 14, op := .call .pure (.c (.fn 248 [] [])) [.t 11, .t 13], pre := [] },
  { dst := some 15, op := .bsl true 2 ([.i .i64 0, .i .i64 0]) [(0, 1, .t 9), (1, 1, .t 14)], pre := [] },
  { dst := some 16, op := .call .pure (.c (.fn 249 [] [])) [.t 15], pre := [] },
  { dst := some 4, op := .mv (.t 16) }])
 .ret)) }
end Go.Ab
end
section
namespace Go.Ab
def A_rel_New : AFun := { res := [.t 4], body := (.seq (.reg false [{ dst := some 4, op := .mv (.c (.nilp)) }])
 (.seq (.reg false [{ dst := some 8, op := .mv (.t 0) },
  { dst := some 9, op := .mn (.t 8) (.c (.i .i64 40)) },
  { dst := some 10, op := .mx (.c (.i .i64 0)) (.t 9) },
  { dst := some 11, op := .build ([.i .i64 0] ++ List.replicate 40 (.i .u64 0)) [(0, 1, .t 10)] },
  { dst := some 12, op := .box (.t 11) },
  { dst := some 5, op := .mv (.t 12) }])
 (.seq (.seq (.reg false [{ dst := some 13, op := .mv (.t 1) },
  { dst := some 14, op := .len (.t 13) },
  { dst := some 15, op := .mv (.c (.i .i64 0)) }])
 (.blk 0 (.loop (.seq (.reg false [{ dst := some 16, op := .bin .lss (.t 15) (.t 14) }])
 (.seq (.cond (.t 16) .skip
 (.ext 0))
 (.seq (.blk 1 (.seq (.reg false [{ dst := some 17, op := .ia 2 (.t 13) (.t 15) },
  { dst := some 18, op := .ld (some 2) (.t 17) },
  { dst := some 7, op := .new ([.i .i64 0, .i .i64 0]) },
  { dst := none, op := .st 2 (.t 7) (.t 18) }])
 (.seq (.reg true [{ dst := some 19, op := .fa 0 (.t 7) },
  { dst := some 20, op := .ld none (.t 19), pre := [] },
  { dst := some 21, op := .bin .geq (.t 20) (.c (.i .i64 0)) },
  { dst := some 22, op := .mv (.t 21) },
  { dst := some 23, op := .fa 0 (.t 7), grd := some (22, true) },
  { dst := some 24, op := .ld none (.t 23), grd := some (22, true), pre := [] },
  { dst := some 25, op := .mv (.t 5), grd := some (22, true) },
  { dst := some 26, op := .nilck (.t 25), grd := some (22, true) },
  { dst := some 27, op := .fa 0 (.t 26), grd := some (22, true) },
  { dst := some 28, op := .ld none (.t 27), grd := some (22, true), pre := [] },
  { dst := some 29, op := .bin .lss (.t 24) (.t 28), grd := some (22, true) },
  { dst := some 30, op := .pick (.t 22) (.t 29) (.c (.b false)) },
  { dst := some 31, op := .mv (.t 30) },
  { dst := some 32, op := .fa 1 (.t 7), grd := some (31, true) },
  { dst := some 33, op := .ld none (.t 32), grd := some (31, true), pre := [] },
  { dst := some 34, op := .bin .geq (.t 33) (.c (.i .i64 0)), grd := some (31, true) },
  { dst := some 35, op := .pick (.t 31) (.t 34) (.c (.b false)) },
  { dst := some 36, op := .mv (.t 35) },
  { dst := some 37, op := .fa 1 (.t 7), grd := some (36, true) },
  { dst := some 38, op := .ld none (.t 37), grd := some (36, true), pre := [] },
  { dst := some 39, op := .mv (.t 5), grd := some (36, true) },
  { dst := some 40, op := .nilck (.t 39), grd := some (36, true) },
  { dst := some 41, op := .fa 0 (.t 40), grd := some (36, true) },
  { dst := some 42, op := .ld none (.t 41), grd := some (36, true), pre := [] },
  { dst := some 43, op := .bin .lss (.t 38) (.t 42), grd := some (36, true) },
  { dst := some 44, op := .pick (.t 36) (.t 43) (.c (.b false)) }])
 (.cond (.t 44) (.reg true [{ dst := some 45, op := .mv (.t 5) },
  { dst := some 46, op := .fa 0 (.t 7) },
  { dst := some 47, op := .ld none (.t 46), pre := [] },
  { dst := some 48, op := .nilck (.t 45) },
  { dst := some 49, op := .fa 1 (.t 48) },
  { dst := some 50, op := .iaa 40 1 (.t 49) (.t 47) },
  { dst := some 51, op := .ld none (.t 50), pre := [] },
  { dst := some 52, op := .fa 1 (.t 7) },
  { dst := some 53, op := .ld none (.t 52), pre := [] },
  { dst := some 54, op := .bin .shl (.c (.i .u64 1)) (.t 53) },
  { dst := some 55, op := .bin .or (.t 51) (.t 54) },
  { dst := some 56, op := .nilck (.t 45) },
  { dst := some 57, op := .fa 1 (.t 56) },
  { dst := some 58, op := .iaa 40 1 (.t 57) (.t 47) },
  { dst := none, op := .st 1 (.t 58) (.t 55), pre := [] }])
 .skip))))
 (.reg false [{ dst := some 59, op := .bin .add (.t 15) (.c (.i .i64 1)) },
  { dst := some 15, op := .mv (.t 59) }])))))))
 (.seq (.reg false [{ dst := some 60, op := .mv (.t 5) },
  { dst := some 4, op := .mv (.t 60) }])
 .ret)))) }
def A_rel_Rel_Plus : AFun := { res := [.t 2], body := (.seq (.reg false [{ dst := some 2, op := .mv (.c (.nilp)) }])
 (.seq (.reg false [{ dst := some 6, op := .mv (.t 0) },
  { dst := some 7, op := .nilck (.t 6) },
  { dst := some 8, op := .ld (some 41) (.t 7) },
  { dst := some 3, op := .new ([.i .i64 0] ++ List.replicate 40 (.i .u64 0)) },
  { dst := none, op := .st 41 (.t 3) (.t 8) }])
 (.seq (.seq (.reg false [{ dst := some 9, op := .mv (.t 0) },
  { dst := some 10, op := .nilck (.t 9) },
  { dst := some 11, op := .fa 0 (.t 10) },
  { dst := some 12, op := .ld none (.t 11) },
  { dst := some 13, op := .mv (.c (.i .i64 0)) }])
 (.blk 0 (.loop (.seq (.reg false [{ dst := some 14, op := .bin .lss (.t 13) (.t 12) }])
 (.seq (.cond (.t 14) .skip
 (.ext 0))
 (.seq (.blk 1 (.seq (.reg false [{ dst := some 15, op := .mv (.t 13) },
  { dst := some 4, op := .mv (.t 15) }])
 (.seq (.reg false [{ dst := some 16, op := .mv (.t 0) },
  { dst := some 17, op := .nilck (.t 16) },
  { dst := some 18, op := .fa 0 (.t 17) },
  { dst := some 19, op := .ld none (.t 18) },
  { dst := some 20, op := .mv (.c (.i .i64 0)) }])
 (.blk 2 (.loop (.seq (.reg false [{ dst := some 21, op := .bin .lss (.t 20) (.t 19) }])
 (.seq (.cond (.t 21) .skip
 (.ext 2))
 (.seq (.blk 3 (.seq (.reg false [{ dst := some 22, op := .mv (.t 20) },
  { dst := some 5, op := .mv (.t 22) }])
 (.seq (.reg false [{ dst := some 23, op := .mv (.t 5) },
  { dst := some 24, op := .mv (.t 4) },
  { dst := some 25, op := .call .pure (.c (.fn 13 [] [])) [.t 3, .t 23, .t 24] }])
 (.cond (.t 25) (.reg true [{ dst := some 26, op := .mv (.t 5) },
  { dst := some 27, op := .fa 1 (.t 3) },
  { dst := some 28, op := .iaa 40 1 (.t 27) (.t 26) },
  { dst := some 29, op := .ld none (.t 28), pre := [] },
  { dst := some 30, op := .mv (.t 4) },
  { dst := some 31, op := .fa 1 (.t 3) },
  { dst := some 32, op := .iaa 40 1 (.t 31) (.t 30) },
  { dst := some 33, op := .ld none (.t 32), pre := [] },
  { dst := some 34, op := .bin .or (.t 29) (.t 33) },
  { dst := some 35, op := .fa 1 (.t 3) },
  { dst := some 36, op := .iaa 40 1 (.t 35) (.t 26) },
  { dst := none, op := .st 1 (.t 36) (.t 34), pre := [] }])
 .skip))))
 (.reg false [{ dst := some 37, op := .bin .add (.t 20) (.c (.i .i64 1)) },
  { dst := some 20, op := .mv (.t 37) }])))))))))
 (.reg false [{ dst := some 38, op := .bin .add (.t 13) (.c (.i .i64 1)) },
  { dst := some 13, op := .mv (.t 38) }])))))))
 (.seq (.reg false [{ dst := some 2, op := .mv (.t 3) }])
 .ret)))) }
def A_rel_Rel_Has : AFun := { res := [.t 6], body := (.seq (.reg false [{ dst := some 6, op := .mv (.c (.b false)) }])
 (.seq (.reg false [{ dst := some 7, op := .mv (.t 1) },
  { dst := some 8, op := .bin .geq (.t 7) (.c (.i .i64 0)) },
  { dst := some 9, op := .mv (.t 8) },
  { dst := some 10, op := .mv (.t 1), grd := some (9, true) },
  { dst := some 11, op := .mv (.t 0), grd := some (9, true) },
  { dst := some 12, op := .nilck (.t 11), grd := some (9, true) },
  { dst := some 13, op := .fa 0 (.t 12), grd := some (9, true) },
  { dst := some 14, op := .ld none (.t 13), grd := some (9, true) },
  { dst := some 15, op := .bin .lss (.t 10) (.t 14), grd := some (9, true) },
  { dst := some 16, op := .pick (.t 9) (.t 15) (.c (.b false)) },
  { dst := some 17, op := .mv (.t 16) },
  { dst := some 18, op := .mv (.t 2), grd := some (17, true) },
  { dst := some 19, op := .bin .geq (.t 18) (.c (.i .i64 0)), grd := some (17, true) },
  { dst := some 20, op := .pick (.t 17) (.t 19) (.c (.b false)) },
  { dst := some 21, op := .mv (.t 20) },
  { dst := some 22, op := .mv (.t 2), grd := some (21, true) },
  { dst := some 23, op := .mv (.t 0), grd := some (21, true) },
  { dst := some 24, op := .nilck (.t 23), grd := some (21, true) },
  { dst := some 25, op := .fa 0 (.t 24), grd := some (21, true) },
  { dst := some 26, op := .ld none (.t 25), grd := some (21, true) },
  { dst := some 27, op := .bin .lss (.t 22) (.t 26), grd := some (21, true) },
  { dst := some 28, op := .pick (.t 21) (.t 27) (.c (.b false)) },
  { dst := some 29, op := .mv (.t 28) },
  { dst := some 30, op := .mv (.t 0), grd := some (29, true) },
  { dst := some 31, op := .mv (.t 1), grd := some (29, true) },
  { dst := some 32, op := .nilck (.t 30), grd := some (29, true) },
  { dst := some 33, op := .fa 1 (.t 32), grd := some (29, true) },
  { dst := some 34, op := .iaa 40 1 (.t 33) (.t 31), grd := some (29, true) },
  { dst := some 35, op := .ld none (.t 34), grd := some (29, true) },
  { dst := some 36, op := .mv (.t 2), grd := some (29, true) },
  { dst := some 37, op := .bin .shr (.t 35) (.t 36), grd := some (29, true) },
  { dst := some 38, op := .bin .and (.t 37) (.c (.i .u64 1)), grd := some (29, true) },
  { dst := some 39, op := .bin .neq (.t 38) (.c (.i .u64 0)), grd := some (29, true) },
  { dst := some 40, op := .pick (.t 29) (.t 39) (.c (.b false)) },
  { dst := some 6, op := .mv (.t 40) }])
 .ret)) }
def A_rel_Rel_Loops : AFun := { res := [.t 2], body := (.seq (.reg false [{ dst := some 2, op := .mv (.c (.b false)) }])
 (.seq (.reg false [{ dst := some 5, op := .mv (.t 0) },
  { dst := some 6, op := .call .pure (.c (.fn 12 [] [])) [.t 5] },
  { dst := some 3, op := .mv (.t 6) }])
 (.seq (.seq (.reg false [{ dst := some 7, op := .mv (.t 0) },
  { dst := some 8, op := .nilck (.t 7) },
  { dst := some 9, op := .fa 0 (.t 8) },
  { dst := some 10, op := .ld none (.t 9) },
  { dst := some 11, op := .mv (.c (.i .i64 0)) }])
 (.blk 0 (.loop (.seq (.reg false [{ dst := some 12, op := .bin .lss (.t 11) (.t 10) }])
 (.seq (.cond (.t 12) .skip
 (.ext 0))
 (.seq (.blk 1 (.seq (.reg false [{ dst := some 13, op := .mv (.t 11) },
  { dst := some 4, op := .mv (.t 13) }])
 (.seq (.reg false [{ dst := some 14, op := .mv (.t 3) },
  { dst := some 15, op := .mv (.t 4) },
  { dst := some 16, op := .mv (.t 4) },
  { dst := some 17, op := .call .pure (.c (.fn 13 [] [])) [.t 14, .t 15, .t 16] }])
 (.cond (.t 17) (.seq (.reg false [{ dst := some 2, op := .mv (.c (.b true)) }])
 .ret)
 .skip))))
 (.reg false [{ dst := some 18, op := .bin .add (.t 11) (.c (.i .i64 1)) },
  { dst := some 11, op := .mv (.t 18) }])))))))
 (.seq (.reg false [{ dst := some 2, op := .mv (.c (.b false)) }])
 .ret)))) }
def A_rel_Rel_Pairs : AFun := { res := [.t 2], body := (.seq (.reg false [{ dst := some 2, op := .mv (.c (.sl [] 0 .rig)) }])
 (.seq (.reg false [{ dst := some 3, op := .mv (.c (.sl [] 0 .rig)) }])
 (.seq (.seq (.reg false [{ dst := some 6, op := .mv (.t 0) },
  { dst := some 7, op := .nilck (.t 6) },
  { dst := some 8, op := .fa 0 (.t 7) },
  { dst := some 9, op := .ld none (.t 8) },
  { dst := some 10, op := .mv (.c (.i .i64 0)) }])
 (.blk 0 (.loop (.seq (.reg false [{ dst := some 11, op := .bin .lss (.t 10) (.t 9) }])
 (.seq (.cond (.t 11) .skip
 (.ext 0))
 (.seq (.blk 1 (.seq (.reg false [{ dst := some 12, op := .mv (.t 10) },
  { dst := some 4, op := .mv (.t 12) }])
 (.seq (.reg false [{ dst := some 13, op := .mv (.t 0) },
  { dst := some 14, op := .nilck (.t 13) },
  { dst := some 15, op := .fa 0 (.t 14) },
  { dst := some 16, op := .ld none (.t 15) },
  { dst := some 17, op := .mv (.c (.i .i64 0)) }])
 (.blk 2 (.loop (.seq (.reg false [{ dst := some 18, op := .bin .lss (.t 17) (.t 16) }])
 (.seq (.cond (.t 18) .skip
 (.ext 2))
 (.seq (.blk 3 (.seq (.reg false [{ dst := some 19, op := .mv (.t 17) },
  { dst := some 5, op := .mv (.t 19) }])
 (.seq (.reg false [{ dst := some 20, op := .mv (.t 0) },
  { dst := some 21, op := .mv (.t 4) },
  { dst := some 22, op := .mv (.t 5) },
  { dst := some 23, op := .call .pure (.c (.fn 13 [] [])) [.t 20, .t 21, .t 22] }])
 (.cond (.t 23) (.reg false [{ dst := some 24, op := .mv (.t 3) },
  { dst := some 25, op := .mv (.t 4) },
  { dst := some 26, op := .mv (.t 5) },
  { dst := some 27, op := .build ([.i .i64 0, .i .i64 0]) [(0, 1, .t 25), (1, 1, .t 26)] },
  { dst := some 28, op := .bsl true 1 ([.i .i64 0, .i .i64 0]) [(0, 2, .t 27)] },
  { dst := some 29, op := .app 2 16 (.t 24) (.t 28) },
  { dst := some 3, op := .mv (.t 29) }])
 .skip))))
 (.reg false [{ dst := some 30, op := .bin .add (.t 17) (.c (.i .i64 1)) },
  { dst := some 17, op := .mv (.t 30) }])))))))))
 (.reg false [{ dst := some 31, op := .bin .add (.t 10) (.c (.i .i64 1)) },
  { dst := some 10, op := .mv (.t 31) }])))))))
 (.seq (.reg false [{ dst := some 32, op := .mv (.t 3) },
  { dst := some 2, op := .mv (.t 32) }])
 .ret)))) }
def A_rel_Rel_Maybe : AFun := { res := [.t 2], body := (.seq (.reg false [{ dst := some 2, op := .mv (.c (.nilp)) }])
 (.seq (.reg false [{ dst := some 5, op := .mv (.t 0) },
  { dst := some 6, op := .nilck (.t 5) },
  { dst := some 7, op := .ld (some 41) (.t 6) },
  { dst := some 3, op := .new ([.i .i64 0] ++ List.replicate 40 (.i .u64 0)) },
  { dst := none, op := .st 41 (.t 3) (.t 7) }])
 (.seq (.seq (.reg false [{ dst := some 8, op := .mv (.t 0) },
  { dst := some 9, op := .nilck (.t 8) },
  { dst := some 10, op := .fa 0 (.t 9) },
  { dst := some 11, op := .ld none (.t 10) },
  { dst := some 12, op := .mv (.c (.i .i64 0)) }])
 (.blk 0 (.loop (.seq (.reg false [{ dst := some 13, op := .bin .lss (.t 12) (.t 11) }])
 (.seq (.cond (.t 13) .skip
 (.ext 0))
 (.seq (.blk 1 (.seq (.reg false [{ dst := some 14, op := .mv (.t 12) },
  { dst := some 4, op := .mv (.t 14) }])
 (.reg true [{ dst := some 15, op := .mv (.t 4) },
  { dst := some 16, op := .fa 1 (.t 3) },
  { dst := some 17, op := .iaa 40 1 (.t 16) (.t 15) },
  { dst := some 18, op := .ld none (.t 17), pre := [] },
  { dst := some 19, op := .mv (.t 4) },
  { dst := some 20, op := .bin .shl (.c (.i .u64 1)) (.t 19) },
  { dst := some 21, op := .bin .or (.t 18) (.t 20) },
  { dst := some 22, op := .fa 1 (.t 3) },
  { dst := some 23, op := .iaa 40 1 (.t 22) (.t 15) },
  { dst := none, op := .st 1 (.t 23) (.t 21), pre := [] }])))
 (.reg false [{ dst := some 24, op := .bin .add (.t 12) (.c (.i .i64 1)) },
  { dst := some 12, op := .mv (.t 24) }])))))))
 (.seq (.reg false [{ dst := some 2, op := .mv (.t 3) }])
 .ret)))) }
def A_rel_Rel_Len : AFun := { res := [.t 2], body := (.seq (.reg false [{ dst := some 2, op := .mv (.c (.i .i64 0)) }])
 (.seq (.reg false [{ dst := some 3, op := .mv (.t 0) },
  { dst := some 4, op := .nilck (.t 3) },
  { dst := some 5, op := .fa 0 (.t 4) },
  { dst := some 6, op := .ld none (.t 5) },
  { dst := some 2, op := .mv (.t 6) }])
 .ret)) }
def A_rel_Rel_And : AFun := { res := [.t 4], body := (.seq (.reg false [{ dst := some 4, op := .mv (.c (.nilp)) }])
 (.seq (.reg false [{ dst := some 5, op := .mv (.t 0) },
  { dst := some 6, op := .mv (.t 1) },
  { dst := some 7, op := .call .pure (.c (.fn 51 [] [])) [.t 5, .t 6, .c (.fn 52 [] [])] },
  { dst := some 4, op := .mv (.t 7) }])
 .ret)) }
def A_rel_Rel_In : AFun := { res := [.t 4], body := (.seq (.reg false [{ dst := some 4, op := .mv (.c (.b false)) }])
 (.seq (.reg false [{ dst := some 5, op := .mv (.t 0) },
  { dst := some 6, op := .mv (.t 1) },
  { dst := some 7, op := .call .pure (.c (.fn 26 [] [])) [.t 5, .t 6] },
  { dst := some 8, op := .nilck (.t 7) },
  { dst := some 9, op := .fa 1 (.t 8) },
  { dst := some 10, op := .ld (some 40) (.t 9) },
  { dst := some 11, op := .build (List.replicate 40 (.i .u64 0)) [] },
  { dst := some 12, op := .eqa false (List.replicate 40 0) (.t 10) (.t 11) },
  { dst := some 4, op := .mv (.t 12) }])
 .ret)) }
def A_rel_Rel_Then : AFun := { res := [.t 4], body := (.seq (.reg false [{ dst := some 4, op := .mv (.c (.nilp)) }])
 (.seq (.reg true [{ dst := some 8, op := .mv (.t 0) },
  { dst := some 9, op := .nilck (.t 8) },
  { dst := some 10, op := .fa 0 (.t 9) },
  { dst := some 11, op := .ld none (.t 10), pre := [] },
  { dst := some 12, op := .mv (.t 1) },
  { dst := some 13, op := .nilck (.t 12) },
  { dst := some 14, op := .fa 0 (.t 13) },
  { dst := some 15, op := .ld none (.t 14), pre := [] },
  { dst := some 16, op := .mx (.t 11) (.t 15) },
  { dst := some 17, op := .build ([.i .i64 0] ++ List.replicate 40 (.i .u64 0)) [(0, 1, .t 16)] },
  { dst := some 18, op := .box (.t 17) },
  { dst := some 5, op := .mv (.t 18) }])
 (.seq (.seq (.reg false [{ dst := some 19, op := .mv (.t 0) },
  { dst := some 20, op := .nilck (.t 19) },
  { dst := some 21, op := .fa 0 (.t 20) },
  { dst := some 22, op := .ld none (.t 21) },
  { dst := some 23, op := .mv (.c (.i .i64 0)) }])
 (.blk 0 (.loop (.seq (.reg false [{ dst := some 24, op := .bin .lss (.t 23) (.t 22) }])
 (.seq (.cond (.t 24) .skip
 (.ext 0))
 (.seq (.blk 1 (.seq (.reg false [{ dst := some 25, op := .mv (.t 23) },
  { dst := some 6, op := .mv (.t 25) }])
 (.seq (.reg false [{ dst := some 26, op := .mv (.t 0) },
  { dst := some 27, op := .nilck (.t 26) },
  { dst := some 28, op := .fa 0 (.t 27) },
  { dst := some 29, op := .ld none (.t 28) },
  { dst := some 30, op := .mv (.c (.i .i64 0)) }])
 (.blk 2 (.loop (.seq (.reg false [{ dst := some 31, op := .bin .lss (.t 30) (.t 29) }])
 (.seq (.cond (.t 31) .skip
 (.ext 2))
 (.seq (.blk 3 (.seq (.reg false [{ dst := some 32, op := .mv (.t 30) },
  { dst := some 7, op := .mv (.t 32) }])
 (.seq (.reg false [{ dst := some 33, op := .mv (.t 0) },
  { dst := some 34, op := .mv (.t 6) },
  { dst := some 35, op := .mv (.t 7) },
  { dst := some 36, op := .call .pure (.c (.fn 13 [] [])) [.t 33, .t 34, .t 35] }])
 (.cond (.t 36) (.reg true [{ dst := some 37, op := .mv (.t 5) },
  { dst := some 38, op := .mv (.t 6) },
  { dst := some 39, op := .nilck (.t 37) },
  { dst := some 40, op := .fa 1 (.t 39) },
  { dst := some 41, op := .iaa 40 1 (.t 40) (.t 38) },
  { dst := some 42, op := .ld none (.t 41), pre := [] },
  { dst := some 43, op := .mv (.t 1) },
  { dst := some 44, op := .mv (.t 7) },
  { dst := some 45, op := .nilck (.t 43) },
  { dst := some 46, op := .fa 1 (.t 45) },
  { dst := some 47, op := .iaa 40 1 (.t 46) (.t 44) },
  { dst := some 48, op := .ld none (.t 47), pre := [] },
  { dst := some 49, op := .bin .or (.t 42) (.t 48) },
  { dst := some 50, op := .nilck (.t 37) },
  { dst := some 51, op := .fa 1 (.t 50) },
  { dst := some 52, op := .iaa 40 1 (.t 51) (.t 38) },
  { dst := none, op := .st 1 (.t 52) (.t 49), pre := [] }])
 .skip))))
 (.reg false [{ dst := some 53, op := .bin .add (.t 30) (.c (.i .i64 1)) },
  { dst := some 30, op := .mv (.t 53) }])))))))))
 (.reg false [{ dst := some 54, op := .bin .add (.t 23) (.c (.i .i64 1)) },
  { dst := some 23, op := .mv (.t 54) }])))))))
 (.seq (.reg false [{ dst := some 55, op := .mv (.t 5) },
  { dst := some 4, op := .mv (.t 55) }])
 .ret)))) }
def A_rel_Rel_Or : AFun := { res := [.t 4], body := (.seq (.reg false [{ dst := some 4, op := .mv (.c (.nilp)) }])
 (.seq (.reg false [{ dst := some 5, op := .mv (.t 0) },
  { dst := some 6, op := .mv (.t 1) },
  { dst := some 7, op := .call .pure (.c (.fn 51 [] [])) [.t 5, .t 6, .c (.fn 53 [] [])] },
  { dst := some 4, op := .mv (.t 7) }])
 .ret)) }
def A_rel_Rel_Less : AFun := { res := [.t 4], body := (.seq (.reg false [{ dst := some 4, op := .mv (.c (.nilp)) }])
 (.seq (.reg false [{ dst := some 5, op := .mv (.t 0) },
  { dst := some 6, op := .mv (.t 1) },
  { dst := some 7, op := .call .pure (.c (.fn 51 [] [])) [.t 5, .t 6, .c (.fn 54 [] [])] },
  { dst := some 4, op := .mv (.t 7) }])
 .ret)) }
def A_rel_Rel_by : AFun := { res := [.t 6], body := (.seq (.reg false [{ dst := some 6, op := .mv (.c (.nilp)) }])
 (.seq (.reg true [{ dst := some 9, op := .mv (.t 0) },
  { dst := some 10, op := .nilck (.t 9) },
  { dst := some 11, op := .fa 0 (.t 10) },
  { dst := some 12, op := .ld none (.t 11), pre := [] },
  { dst := some 13, op := .mv (.t 1) },
  { dst := some 14, op := .nilck (.t 13) },
  { dst := some 15, op := .fa 0 (.t 14) },
  { dst := some 16, op := .ld none (.t 15), pre := [] },
  { dst := some 17, op := .mx (.t 12) (.t 16) },
  { dst := some 18, op := .build ([.i .i64 0] ++ List.replicate 40 (.i .u64 0)) [(0, 1, .t 17)] },
  { dst := some 19, op := .box (.t 18) },
  { dst := some 7, op := .mv (.t 19) }])
 (.seq (.seq (.reg false [{ dst := some 20, op := .mv (.c (.i .i64 0)) }])
 (.blk 0 (.loop (.seq (.reg false [{ dst := some 21, op := .bin .lss (.t 20) (.c (.i .i64 40)) }])
 (.seq (.cond (.t 21) .skip
 (.ext 0))
 (.seq (.blk 1 (.seq (.reg false [{ dst := some 22, op := .mv (.t 20) },
  { dst := some 8, op := .mv (.t 22) }])
 (.reg true [{ dst := some 23, op := .mv (.t 7) },
  { dst := some 24, op := .mv (.t 8) },
  { dst := some 25, op := .mv (.t 2) },
  { dst := some 26, op := .mv (.t 0) },
  { dst := some 27, op := .mv (.t 8) },
  { dst := some 28, op := .nilck (.t 26) },
  { dst := some 29, op := .fa 1 (.t 28) },
  { dst := some 30, op := .iaa 40 1 (.t 29) (.t 27) },
  { dst := some 31, op := .ld none (.t 30), pre := [] },
  { dst := some 32, op := .mv (.t 1) },
  { dst := some 33, op := .mv (.t 8) },
  { dst := some 34, op := .nilck (.t 32) },
  { dst := some 35, op := .fa 1 (.t 34) },
  { dst := some 36, op := .iaa 40 1 (.t 35) (.t 33) },
  { dst := some 37, op := .ld none (.t 36), pre := [] },
  { dst := some 38, op := .call .pure (.t 25) [.t 31, .t 37], pre := [] },
  { dst := some 39, op := .nilck (.t 23) },
  { dst := some 40, op := .fa 1 (.t 39) },
  { dst := some 41, op := .iaa 40 1 (.t 40) (.t 24) },
  { dst := none, op := .st 1 (.t 41) (.t 38), pre := [] }])))
 (.reg false [{ dst := some 42, op := .bin .add (.t 20) (.c (.i .i64 1)) },
  { dst := some 20, op := .mv (.t 42) }])))))))
 (.seq (.reg false [{ dst := some 43, op := .mv (.t 7) },
  { dst := some 6, op := .mv (.t 43) }])
 .ret)))) }
def A_rel_Rel_And_1 : AFun := { res := [.t 4], body := (.seq (.reg false [{ dst := some 4, op := .mv (.c (.i .u64 0)) }])
 (.seq (.reg false [{ dst := some 5, op := .mv (.t 0) },
  { dst := some 6, op := .mv (.t 1) },
  { dst := some 7, op := .bin .and (.t 5) (.t 6) },
  { dst := some 4, op := .mv (.t 7) }])
 .ret)) }
def A_rel_Rel_Or_1 : AFun := { res := [.t 4], body := (.seq (.reg false [{ dst := some 4, op := .mv (.c (.i .u64 0)) }])
 (.seq (.reg false [{ dst := some 5, op := .mv (.t 0) },
  { dst := some 6, op := .mv (.t 1) },
  { dst := some 7, op := .bin .or (.t 5) (.t 6) },
  { dst := some 4, op := .mv (.t 7) }])
 .ret)) }
def A_rel_Rel_Less_1 : AFun := { res := [.t 4], body := (.seq (.reg false [{ dst := some 4, op := .mv (.c (.i .u64 0)) }])
 (.seq (.reg false [{ dst := some 5, op := .mv (.t 0) },
  { dst := some 6, op := .mv (.t 1) },
  { dst := some 7, op := .bin .andNot (.t 5) (.t 6) },
  { dst := some 4, op := .mv (.t 7) }])
 .ret)) }
structure Pk_rel (F : Funs) : Prop where
  rel_New : F 11 = some A_rel_New
  rel_Rel_Plus : F 12 = some A_rel_Rel_Plus
  rel_Rel_Has : F 13 = some A_rel_Rel_Has
  rel_Rel_Loops : F 14 = some A_rel_Rel_Loops
  rel_Rel_Pairs : F 15 = some A_rel_Rel_Pairs
  rel_Rel_Maybe : F 16 = some A_rel_Rel_Maybe
  rel_Rel_Len : F 17 = some A_rel_Rel_Len
  rel_Rel_And : F 18 = some A_rel_Rel_And
  rel_Rel_Then : F 23 = some A_rel_Rel_Then
  rel_Rel_Or : F 24 = some A_rel_Rel_Or
  rel_Rel_by : F 51 = some A_rel_Rel_by
  rel_Rel_And_1 : F 52 = some A_rel_Rel_And_1
  rel_Rel_Or_1 : F 53 = some A_rel_Rel_Or_1
end Go.Ab
end
section
set_option maxRecDepth 100000
set_option linter.unusedVariables false
namespace Go.Proofs.Ytoldeneclhbcbaa
open Go.Ab
def tab : List (Nat × Nat × AFun) := [(10, 8, A_xlaw00_Place),
 (11, 9, A_rel_New),
 (12, 10, A_rel_Rel_Plus),
 (13, 11, A_rel_Rel_Has),
 (14, 12, A_rel_Rel_Loops),
 (15, 13, A_rel_Rel_Pairs),
 (16, 14, A_rel_Rel_Maybe),
 (17, 15, A_rel_Rel_Len),
 (18, 16, A_rel_Rel_And),
 (22, 20, A_rel_Rel_In),
 (23, 21, A_rel_Rel_Then),
 (24, 22, A_rel_Rel_Or),
 (26, 24, A_rel_Rel_Less),
 (51, 40, A_rel_Rel_by),
 (52, 41, A_rel_Rel_And_1),
 (53, 42, A_rel_Rel_Or_1),
 (54, 43, A_rel_Rel_Less_1),
 (60, 37, A_graph_Po),
 (81, 46, A_graph_Of),
 (139, 7, A_xlaw06_GraphPo),
 (152, 38, A_graph_Check),
 (153, 39, A_xlaw06_awake),
 (186, 47, A_graph_first),
 (187, 48, A_graph_threads),
 (188, 49, A_graph_rf),
 (189, 50, A_graph_co),
 (190, 51, A_graph_rmw),
 (191, 52, A_graph_Check_1),
 (192, 53, A_graph_list),
 (236, 54, A_graph_event),
 (237, 55, A_graph_write),
 (238, 56, A_graph_rmw_1),
 (239, 57, A_graph_order),
 (248, 59, A_cmp_Compare_int),
 (249, 58, A_cmp_Or_int),
 (266, 60, A_cmp_isNaN_int)]
def num (f : Nat) : Nat := ((tab.find? (fun r => r.1 == f)).map (·.2.1)).getD 0
def funs : Funs := fun f => (tab.find? (fun r => r.1 == f)).map (·.2.2)
theorem c10 : funB Try.prog num Try.f8 A_xlaw00_Place = true := by kernel_rfl
theorem c11 : funB Try.prog num Try.f9 A_rel_New = true := by kernel_rfl
theorem c12 : funB Try.prog num Try.f10 A_rel_Rel_Plus = true := by kernel_rfl
theorem c13 : funB Try.prog num Try.f11 A_rel_Rel_Has = true := by kernel_rfl
theorem c14 : funB Try.prog num Try.f12 A_rel_Rel_Loops = true := by kernel_rfl
theorem c15 : funB Try.prog num Try.f13 A_rel_Rel_Pairs = true := by kernel_rfl
theorem c16 : funB Try.prog num Try.f14 A_rel_Rel_Maybe = true := by kernel_rfl
theorem c17 : funB Try.prog num Try.f15 A_rel_Rel_Len = true := by kernel_rfl
theorem c18 : funB Try.prog num Try.f16 A_rel_Rel_And = true := by kernel_rfl
theorem c22 : funB Try.prog num Try.f20 A_rel_Rel_In = true := by kernel_rfl
theorem c23 : funB Try.prog num Try.f21 A_rel_Rel_Then = true := by kernel_rfl
theorem c24 : funB Try.prog num Try.f22 A_rel_Rel_Or = true := by kernel_rfl
theorem c26 : funB Try.prog num Try.f24 A_rel_Rel_Less = true := by kernel_rfl
theorem c51 : funB Try.prog num Try.f40 A_rel_Rel_by = true := by kernel_rfl
theorem c52 : funB Try.prog num Try.f41 A_rel_Rel_And_1 = true := by kernel_rfl
theorem c53 : funB Try.prog num Try.f42 A_rel_Rel_Or_1 = true := by kernel_rfl
theorem c54 : funB Try.prog num Try.f43 A_rel_Rel_Less_1 = true := by kernel_rfl
theorem c60 : funB Try.prog num Try.f37 A_graph_Po = true := by kernel_rfl
theorem c81 : funB Try.prog num Try.f46 A_graph_Of = true := by kernel_rfl
theorem c139 : funB Try.prog num Try.f7 A_xlaw06_GraphPo = true := by kernel_rfl
theorem c152 : funB Try.prog num Try.f38 A_graph_Check = true := by kernel_rfl
theorem c153 : funB Try.prog num Try.f39 A_xlaw06_awake = true := by kernel_rfl
theorem c186 : funB Try.prog num Try.f47 A_graph_first = true := by kernel_rfl
theorem c187 : funB Try.prog num Try.f48 A_graph_threads = true := by kernel_rfl
theorem c188 : funB Try.prog num Try.f49 A_graph_rf = true := by kernel_rfl
theorem c189 : funB Try.prog num Try.f50 A_graph_co = true := by kernel_rfl
theorem c190 : funB Try.prog num Try.f51 A_graph_rmw = true := by kernel_rfl
theorem c191 : funB Try.prog num Try.f52 A_graph_Check_1 = true := by kernel_rfl
theorem c192 : funB Try.prog num Try.f53 A_graph_list = true := by kernel_rfl
theorem c236 : funB Try.prog num Try.f54 A_graph_event = true := by kernel_rfl
theorem c237 : funB Try.prog num Try.f55 A_graph_write = true := by kernel_rfl
theorem c238 : funB Try.prog num Try.f56 A_graph_rmw_1 = true := by kernel_rfl
theorem c239 : funB Try.prog num Try.f57 A_graph_order = true := by kernel_rfl
theorem c248 : funB Try.prog num Try.f59 A_cmp_Compare_int = true := by kernel_rfl
theorem c249 : funB Try.prog num Try.f58 A_cmp_Or_int = true := by kernel_rfl
theorem c266 : funB Try.prog num Try.f60 A_cmp_isNaN_int = true := by kernel_rfl
def Good (r : Nat × Nat × AFun) : Prop := num r.1 = r.2.1 ∧ ∃ fn, Try.prog.funcs[r.2.1]? = some fn ∧ funB Try.prog num fn r.2.2 = true
theorem good : ∀ r ∈ tab, Good r := by
  intro r hr
  unfold tab at hr
  rcases List.mem_cons.1 hr with rfl | hr
  · exact ⟨by kernel_rfl, _, Try.func8, c10⟩
  rcases List.mem_cons.1 hr with rfl | hr
  · exact ⟨by kernel_rfl, _, Try.func9, c11⟩
  rcases List.mem_cons.1 hr with rfl | hr
  · exact ⟨by kernel_rfl, _, Try.func10, c12⟩
  rcases List.mem_cons.1 hr with rfl | hr
  · exact ⟨by kernel_rfl, _, Try.func11, c13⟩
  rcases List.mem_cons.1 hr with rfl | hr
  · exact ⟨by kernel_rfl, _, Try.func12, c14⟩
  rcases List.mem_cons.1 hr with rfl | hr
  · exact ⟨by kernel_rfl, _, Try.func13, c15⟩
  rcases List.mem_cons.1 hr with rfl | hr
  · exact ⟨by kernel_rfl, _, Try.func14, c16⟩
  rcases List.mem_cons.1 hr with rfl | hr
  · exact ⟨by kernel_rfl, _, Try.func15, c17⟩
  rcases List.mem_cons.1 hr with rfl | hr
  · exact ⟨by kernel_rfl, _, Try.func16, c18⟩
  rcases List.mem_cons.1 hr with rfl | hr
  · exact ⟨by kernel_rfl, _, Try.func20, c22⟩
  rcases List.mem_cons.1 hr with rfl | hr
  · exact ⟨by kernel_rfl, _, Try.func21, c23⟩
  rcases List.mem_cons.1 hr with rfl | hr
  · exact ⟨by kernel_rfl, _, Try.func22, c24⟩
  rcases List.mem_cons.1 hr with rfl | hr
  · exact ⟨by kernel_rfl, _, Try.func24, c26⟩
  rcases List.mem_cons.1 hr with rfl | hr
  · exact ⟨by kernel_rfl, _, Try.func40, c51⟩
  rcases List.mem_cons.1 hr with rfl | hr
  · exact ⟨by kernel_rfl, _, Try.func41, c52⟩
  rcases List.mem_cons.1 hr with rfl | hr
  · exact ⟨by kernel_rfl, _, Try.func42, c53⟩
  rcases List.mem_cons.1 hr with rfl | hr
  · exact ⟨by kernel_rfl, _, Try.func43, c54⟩
  rcases List.mem_cons.1 hr with rfl | hr
  · exact ⟨by kernel_rfl, _, Try.func37, c60⟩
  rcases List.mem_cons.1 hr with rfl | hr
  · exact ⟨by kernel_rfl, _, Try.func46, c81⟩
  rcases List.mem_cons.1 hr with rfl | hr
  · exact ⟨by kernel_rfl, _, Try.func7, c139⟩
  rcases List.mem_cons.1 hr with rfl | hr
  · exact ⟨by kernel_rfl, _, Try.func38, c152⟩
  rcases List.mem_cons.1 hr with rfl | hr
  · exact ⟨by kernel_rfl, _, Try.func39, c153⟩
  rcases List.mem_cons.1 hr with rfl | hr
  · exact ⟨by kernel_rfl, _, Try.func47, c186⟩
  rcases List.mem_cons.1 hr with rfl | hr
  · exact ⟨by kernel_rfl, _, Try.func48, c187⟩
  rcases List.mem_cons.1 hr with rfl | hr
  · exact ⟨by kernel_rfl, _, Try.func49, c188⟩
  rcases List.mem_cons.1 hr with rfl | hr
  · exact ⟨by kernel_rfl, _, Try.func50, c189⟩
  rcases List.mem_cons.1 hr with rfl | hr
  · exact ⟨by kernel_rfl, _, Try.func51, c190⟩
  rcases List.mem_cons.1 hr with rfl | hr
  · exact ⟨by kernel_rfl, _, Try.func52, c191⟩
  rcases List.mem_cons.1 hr with rfl | hr
  · exact ⟨by kernel_rfl, _, Try.func53, c192⟩
  rcases List.mem_cons.1 hr with rfl | hr
  · exact ⟨by kernel_rfl, _, Try.func54, c236⟩
  rcases List.mem_cons.1 hr with rfl | hr
  · exact ⟨by kernel_rfl, _, Try.func55, c237⟩
  rcases List.mem_cons.1 hr with rfl | hr
  · exact ⟨by kernel_rfl, _, Try.func56, c238⟩
  rcases List.mem_cons.1 hr with rfl | hr
  · exact ⟨by kernel_rfl, _, Try.func57, c239⟩
  rcases List.mem_cons.1 hr with rfl | hr
  · exact ⟨by kernel_rfl, _, Try.func59, c248⟩
  rcases List.mem_cons.1 hr with rfl | hr
  · exact ⟨by kernel_rfl, _, Try.func58, c249⟩
  rcases List.mem_cons.1 hr with rfl | hr
  · exact ⟨by kernel_rfl, _, Try.func60, c266⟩
  cases hr
theorem table : Table Try.prog num funs := by
  intro f A h
  unfold funs at h
  cases hf : tab.find? (fun r => r.1 == f) with
  | none => rw [hf] at h; cases h
  | some r =>
    rw [hf] at h; cases h
    have h1 := List.find?_some hf
    simp only [beq_iff_eq] at h1
    subst h1
    obtain ⟨h2, h3⟩ := good r (List.mem_of_find?_eq_some hf)
    rw [h2]; exact h3
theorem pk_rel : Pk_rel funs := ⟨rfl, rfl, rfl, rfl, rfl, rfl, rfl, rfl, rfl, rfl, rfl, rfl, rfl⟩
end Go.Proofs.Ytoldeneclhbcbaa
end
section
set_option linter.unusedVariables false
set_option linter.unusedSimpArgs false
namespace Go.Ab
open Go.RowKit
def ShR (S : List AV → Prop) (n : Nat) (asx : List AV) : Prop := ∃ rows : List (List AV), rows.length = n ∧ asx = rows.flatten ∧ ∀ r ∈ rows, S r
def ShL (S : TypeId → List AV → Prop) : List TypeId → List AV → Prop
  | [], asx => asx = []
  | t :: ts, asx => ∃ a b, asx = a ++ b ∧ S t a ∧ ShL S ts b
def Sh (P : Program) : Nat → TypeId → List AV → Prop
  | 0, _, _ => False
  | m + 1, t, asx => match P.underlying t with
    | some .bool => ∃ b, asx = [.b b]
    | some (.int k) => ∃ n, asx = [.i k n] ∧ (Lit.int k n).wf = true
    | some .string => ∃ s, asx = [.s s] ∧ s.size ≤ maxLen
    | some (.slice e) => ∃ cs n, asx = [.sl cs n .non] ∧ n ≤ maxLen ∧ ShR (Sh P m e) n cs
    | some (.pointer e) => asx = [.nilp] ∨ ∃ cs, asx = [.ptr cs] ∧ Sh P m e cs
    | some (.struct fs) => ShL (Sh P m) (fs.toList.map (·.type)) asx
    | some (.array n e) => ShR (Sh P m e) n asx
    | _ => False
def fieldsOk (P : Program) : Nat → List Field → Nat → Bool
  | o, [], n => o == n
  | o, f :: fs, n => (f.offset == o) && fieldsOk P (o + P.cellsOf f.type) fs n
def plainB (P : Program) : Nat → TypeId → Bool
  | 0, _ => false
  | m + 1, t => match P.underlying t with
    | some .bool | some (.int _) | some .string => true
    | some (.slice e) => plainB P m e
    | some (.pointer e) => plainB P m e
    | some (.struct fs) => fieldsOk P 0 fs.toList (P.cellsOf t) && fs.toList.all (fun f => plainB P m f.type)
    | some (.array n e) => (P.cellsOf t == n * P.cellsOf e) && plainB P m e
    | _ => false
section
variable {H : Type} {enc : TypeId × Value → H} {P : Program} {c : Cx}
theorem add_add' (a : Addr) (m n : Nat) : (a.add m).add n = a.add (m + n) := by
  unfold Addr.add
  by_cases hm : m = 0 <;> by_cases hn : n = 0 <;> simp [hm, hn, Nat.add_assoc]
theorem I_cell (hb : c.base = c.w.heap.size) (hJ : c.J = fun _ => True) {a : Addr} {v : Value} (h : c.w.cell? a = some v) : c.I a := .inl ⟨by rw [hb]; exact block_lt_of_cell h, by rw [hJ]; trivial⟩
theorem read_rows {S : List AV → Prop} {sz : Nat} {a : Addr} {n : Nat}
    (h : ∀ i, i < n → ∃ row rs, c.w.cells? 0 (a.add (i * sz)) sz = some row ∧ S rs ∧ Reps c false rs row ∧ ∀ v ∈ row, v.oneCell' = true) :
    ∃ cs vs, ShR S n cs ∧ Reps c false cs vs ∧ vs.length = n * sz ∧ (∀ v ∈ vs, v.oneCell' = true) ∧ ∀ j, j < n * sz → c.w.cell? (a.add j) = vs[j]? := by
  induction n with
  | zero => exact ⟨[], [], ⟨[], rfl, rfl, fun _ h => by cases h⟩, Reps.nil, by simp, (fun v (h : v ∈ ([] : List Value)) => by cases h), fun j hj => by omega⟩
  | succ n ih =>
    obtain ⟨cs, vs, ⟨rows, hl, rfl, hS⟩, hR, hlen, h1, hcell⟩ := ih fun i hi => h i (by omega)
    obtain ⟨row, rs, hc, hSr, hRr, h1r⟩ := h n (by omega)
    obtain ⟨_, hrl, hrc⟩ := World.cells?_some hc
    refine ⟨_, vs ++ row, ⟨rows ++ [rs], by simp [hl], rfl, ?_⟩, ?_, ?_, ?_, ?_⟩
    · intro r hr
      rcases List.mem_append.1 hr with hr | hr
      · exact hS r hr
      · rw [List.mem_singleton.1 hr]; exact hSr
    · simp only [List.flatten_append, List.flatten_cons, List.flatten_nil, List.append_nil]
      exact hR.append hRr
    · rw [List.length_append, hlen, hrl, Nat.succ_mul]
    · intro v hv
      rcases List.mem_append.1 hv with hv | hv
      · exact h1 v hv
      · exact h1r v hv
    · intro j hj
      rw [Nat.succ_mul] at hj
      by_cases hjn : j < n * sz
      · rw [List.getElem?_append_left (by omega)]; exact hcell j hjn
      · rw [List.getElem?_append_right (by omega), hlen, ← hrc (j - n * sz) (by omega), add_add']
        rw [show n * sz + (j - n * sz) = j by omega]
theorem read_cells (hb : c.base = c.w.heap.size) (hJ : c.J = fun _ => True) : ∀ (m : Nat) {t : TypeId} {fuel : Nat} {cs : List Value} {x : DataW H × List MemPlace},
    plainB P m t = true → DataW.trod enc P c.w 0 (fun _ => true) true fuel t cs = some x → ∃ asx, Sh P m t asx ∧ Reps c false asx cs ∧ ∀ v ∈ cs, v.oneCell' = true
  | 0, _, _, _, _, h, _ => by simp [plainB] at h
  | m + 1, t, fuel, cs, x, hp, h => by
    have one : ∀ {y : AV} {v : Value}, Rep c false y v → v.oneCell' = true → Reps c false [y] [v] ∧ ∀ u ∈ [v], u.oneCell' = true := fun hr h1 =>
      ⟨Reps.cons hr Reps.nil, fun u hu => by rw [List.mem_singleton.1 hu]; exact h1⟩
    simp only [plainB] at hp
    cases ht : P.underlying t with
    | none => rw [ht] at hp; cases hp
    | some d =>
      rw [ht] at hp
      cases d with
      | bool =>
        obtain ⟨b, rfl, _⟩ := DataW.trod_bool ht h
        exact ⟨[.b b], by simp only [Sh, ht]; exact ⟨b, rfl⟩, one (.b b) rfl⟩
      | int k =>
        obtain ⟨n, rfl, _, hw⟩ := DataW.trod_int ht h
        exact ⟨[.i k n], by simp only [Sh, ht]; exact ⟨n, rfl, hw⟩, one (.i k n) rfl⟩
      | string =>
        obtain ⟨s, rfl, _, hs⟩ := DataW.trod_string ht h
        exact ⟨[.s s], by simp only [Sh, ht]; exact ⟨s, rfl, hs⟩, one (.s s) rfl⟩
      | slice e =>
        rcases DataW.trod_slice ht h with ⟨rfl, _⟩ | ⟨a, len, cap, elems, rest, n, rfl, rfl, _, _, hl, hm, hel, hget, _, _⟩
        · refine ⟨[.sl [] 0 .non], by simp only [Sh, ht]; exact ⟨[], 0, rfl, Nat.zero_le _, [], rfl, rfl, fun _ h => by cases h⟩, one ?_ rfl⟩
          exact .sl ⟨0, 0, none⟩ [] (Nat.le_refl _) (Nat.zero_le _) (fun h => by cases h) (fun _ _ _ h => by cases h) (fun h => by omega) (fun _ h => by cases h) rfl (fun h => absurd rfl h) (fun j v h => by simp at h) (fun j x v h => by simp at h) (fun _ _ h => by cases h)
        · obtain ⟨asx, vs, hS, hR, hlen, h1, hcell⟩ := read_rows (c := c) (S := Sh P m e) (sz := P.cellsOf e) (a := a) (n := len) fun i hi => by
            have hg := hget i hi
            cases hc : c.w.cells? 0 (a.add (i * P.cellsOf e)) (P.cellsOf e) with
            | none => rw [hc] at hg; simp at hg; omega
            | some row =>
              rw [hc, Option.bind_some, List.getElem?_eq_getElem (by omega)] at hg
              obtain ⟨rs, h1, h2, h3⟩ := read_cells hb hJ m hp hg
              exact ⟨row, rs, rfl, h1, h2, h3⟩
          have hk : ∀ (j : Nat) v, vs[j]? = some v → c.I (a.add j) ∧ c.w.cell? (a.add j) = some v := fun j v hv => by
            have hj : j < len * P.cellsOf e := by rw [← hlen]; exact (List.getElem?_eq_some_iff.1 hv).1
            have := (hcell j hj).trans hv
            exact ⟨I_cell hb hJ this, this⟩
          refine ⟨[.sl asx len .non], by simp only [Sh, ht]; exact ⟨asx, len, rfl, by omega, hS⟩, one ?_ rfl⟩
          exact .sl a vs hl hm (fun h => by cases h) (fun _ _ _ h => by cases h) (fun _ => rfl) h1 hR.1 (fun _ => rfl) hk (fun j x v hx hv => hR.2 j x v hx hv) (fun _ _ h => by cases h)
      | pointer e =>
        rcases DataW.trod_pointer ht h with ⟨rfl, _⟩ | ⟨a, cs', y, n, rfl, rfl, _, hc, hd⟩
        · exact ⟨[.nilp], by simp only [Sh, ht]; exact .inl trivial, one .nilp rfl⟩
        · obtain ⟨rs, h1, h2, h3⟩ := read_cells hb hJ m hp hd
          obtain ⟨_, hl, hcell⟩ := World.cells?_some hc
          have hk : ∀ (j : Nat) v, cs'[j]? = some v → c.I (a.add j) ∧ c.w.cell? (a.add j) = some v := fun j v hv => by
            have hj : j < P.cellsOf e := by rw [← hl]; exact (List.getElem?_eq_some_iff.1 hv).1
            have := (hcell j hj).trans hv
            exact ⟨I_cell hb hJ this, this⟩
          exact ⟨[.ptr rs], by simp only [Sh, ht]; exact .inr ⟨rs, rfl, h1⟩, one (.ptr a cs' h3 h2.1 hk (fun j x v hx hv => h2.2 j x v hx hv)) rfl⟩
      | struct fs =>
        simp only [Bool.and_eq_true, List.all_eq_true] at hp
        obtain ⟨xs, n, rfl, _, hcl, hxl, hget⟩ := DataW.trod_struct ht h
        have key : ∀ (l : List Field) (o : Nat) (i : Nat), fieldsOk P o l (P.cellsOf t) = true → o ≤ cs.length → (∀ f ∈ l, plainB P m f.type = true) → (∀ j f, l[j]? = some f → DataW.trod enc P c.w 0 (fun _ => true) true n f.type ((cs.drop f.offset).take (P.cellsOf f.type)) = xs[i + j]?) → i + l.length = xs.length →
            ∃ asx, ShL (Sh P m) (l.map (·.type)) asx ∧ Reps c false asx (cs.drop o) ∧ ∀ v ∈ cs.drop o, v.oneCell' = true := by
          intro l
          induction l with
          | nil =>
            intro o i hf ho _ _ _
            simp only [fieldsOk, beq_iff_eq] at hf
            have : cs.drop o = [] := List.drop_eq_nil_of_le (by omega)
            rw [this]
            exact ⟨[], rfl, Reps.nil, fun _ h => by cases h⟩
          | cons f l ih =>
            intro o i hf ho hpl hg hlen
            simp only [fieldsOk, Bool.and_eq_true, beq_iff_eq] at hf
            obtain ⟨hfo, hf⟩ := hf
            have hg0 := hg 0 f rfl
            simp only [List.length_cons] at hlen
            rw [List.getElem?_eq_getElem (by omega), hfo] at hg0
            obtain ⟨rs, h1, h2, h3⟩ := read_cells hb hJ m (hpl f (List.mem_cons_self ..)) hg0
            have mono : ∀ (l : List Field) (o : Nat), fieldsOk P o l (P.cellsOf t) = true → o ≤ P.cellsOf t := by
              intro l
              induction l with
              | nil => intro o h; simp only [fieldsOk, beq_iff_eq] at h; omega
              | cons f l ih => intro o h; simp only [fieldsOk, Bool.and_eq_true] at h; have := ih _ h.2; omega
            have ho2 := mono _ _ hf
            obtain ⟨asx, h4, h5, h6⟩ := ih (o + P.cellsOf f.type) (i + 1) hf (by omega) (fun g hg => hpl g (List.mem_cons_of_mem _ hg)) (fun j g hj => by
              have := hg (j + 1) g (by simpa using hj)
              rwa [show i + (j + 1) = i + 1 + j by omega] at this) (by omega)
            have hsplit : cs.drop o = (cs.drop o).take (P.cellsOf f.type) ++ cs.drop (o + P.cellsOf f.type) := by
              rw [← List.drop_drop, List.take_append_drop]
            rw [hsplit]
            refine ⟨rs ++ asx, ⟨rs, asx, rfl, h1, h4⟩, h2.append h5, fun v hv => ?_⟩
            rcases List.mem_append.1 hv with hv | hv
            · exact h3 v hv
            · exact h6 v hv
        obtain ⟨asx, h1, h2, h3⟩ := key fs.toList 0 0 hp.1 (Nat.zero_le _) hp.2 (fun j f hj => by
          have := hget j f (by simpa using hj)
          rwa [show 0 + j = j by omega]) (by simp [hxl])
        exact ⟨asx, by simp only [Sh, ht]; exact h1, by simpa using h2, by simpa using h3⟩
      | array n e =>
        simp only [Bool.and_eq_true, beq_iff_eq] at hp
        obtain ⟨xs, q, rfl, _, hcl, hxl, hget⟩ := DataW.trod_array ht h
        have key : ∀ i, i ≤ n → ∃ asx, ShR (Sh P m e) i asx ∧ Reps c false asx (cs.take (i * P.cellsOf e)) ∧ ∀ v ∈ cs.take (i * P.cellsOf e), v.oneCell' = true := by
          intro i
          induction i with
          | zero => intro _; exact ⟨[], ⟨[], rfl, rfl, fun _ h => by cases h⟩, by simpa using Reps.nil, by simp⟩
          | succ i ih =>
            intro hi
            obtain ⟨asx, ⟨rows, hl, rfl, hS⟩, h2, h3⟩ := ih (by omega)
            have hg := hget i (by omega)
            rw [List.getElem?_eq_getElem (by omega)] at hg
            obtain ⟨rs, h4, h5, h6⟩ := read_cells hb hJ m hp.2 hg
            have hsplit : cs.take ((i + 1) * P.cellsOf e) = cs.take (i * P.cellsOf e) ++ (cs.drop (i * P.cellsOf e)).take (P.cellsOf e) := by
              rw [Nat.succ_mul, List.take_add]
            rw [hsplit]
            refine ⟨_, ⟨rows ++ [rs], by simp [hl], rfl, fun r hr => ?_⟩, ?_, fun v hv => ?_⟩
            · rcases List.mem_append.1 hr with hr | hr
              · exact hS r hr
              · rw [List.mem_singleton.1 hr]; exact h4
            · simp only [List.flatten_append, List.flatten_cons, List.flatten_nil, List.append_nil]
              exact h2.append h5
            · rcases List.mem_append.1 hv with hv | hv
              · exact h3 v hv
              · exact h6 v hv
        obtain ⟨asx, h1, h2, h3⟩ := key n (Nat.le_refl _)
        have hall : cs.take (n * P.cellsOf e) = cs := List.take_of_length_le (by omega)
        rw [hall] at h2 h3
        exact ⟨asx, by simp only [Sh, ht]; exact h1, h2, h3⟩
      | _ => cases hp
theorem read_one (hb : c.base = c.w.heap.size) (hJ : c.J = fun _ => True) (m : Nat) {t : TypeId} {v : Value} {d : DataW H} {ps : List MemPlace} (hp : plainB P m t = true) (hv : v.cells = #[v]) (h : DataW.Trod enc P c.w 0 (fun _ => true) true t v d ps) :
    ∃ x, Sh P m t [x] ∧ Rep c true x v := by
  obtain ⟨fuel, hf⟩ := h
  rw [hv] at hf
  obtain ⟨asx, h1, h2, _⟩ := read_cells hb hJ m hp hf
  have hl : asx.length = 1 := by simpa using h2.1
  match asx, hl with
  | [x], _ => exact ⟨x, h1, (h2.2 0 x v rfl rfl).up⟩
end
end Go.Ab
end
section
namespace Go.Ab
def CLe (c d : CS) : Prop := ∀ f asx g r, c f asx g = some r → d f asx g = some r
theorem opE_mono {c d : CS} (h : CLe c d) {al : Nat → Bool} {lo id : Nat} {op : AOp} {e : Env} {g : G} {r : AV × G} (hr : opE c al lo id op e g = some r) : opE d al lo id op e g = some r := by
  cases op with
  | call m f args =>
    simp only [opE, vCall] at hr ⊢
    split at hr
    · cases m with
      | raw => exact h _ _ _ _ hr
      | pure =>
        simp only at hr ⊢
        split at hr
        · cases hr
        · split at hr
          · cases hr
          · rename_i hc
            rw [h _ _ _ _ hc]
            exact hr
      | lock =>
        simp only at hr ⊢
        split at hr
        · cases hr
        · split at hr
          · cases hr
          · rename_i hc
            rw [h _ _ _ _ hc]
            exact hr
      | thaw =>
        simp only at hr ⊢
        split at hr
        · cases hr
        · split at hr
          · rename_i hc
            rw [h _ _ _ _ hc]
            exact hr
          · cases hr
      | melt =>
        simp only at hr ⊢
        split at hr
        · cases hr
        · split at hr
          · rename_i hc
            rw [h _ _ _ _ hc]
            exact hr
          · cases hr
    · cases hr
  | _ => exact hr
theorem regE_mono {c d : CS} (h : CLe c d) {draw : Bool} {base : Nat} : ∀ {os : List AOper} {j : Nat} {e : Env} {g : G} {r}, regE c draw base j os e g = some r → regE d draw base j os e g = some r
  | [], _, _, _, _, hr => hr
  | o :: os, j, e, g, r, hr => by
    simp only [regE] at hr ⊢
    split
    · rename_i hw
      simp only [hw, if_true] at hr
      split at hr
      · rename_i ho
        rw [opE_mono h ho]
        exact regE_mono h hr
      · cases hr
    · rename_i hw
      simp only [hw, Bool.false_eq_true, if_false] at hr
      exact regE_mono h hr
theorem iter_mono {f f' : Env → G → Option (Out × Env × G)} (h : ∀ e g r, f e g = some r → f' e g = some r) : ∀ {k k' : Nat} {e g r}, k ≤ k' → iter f k e g = some r → iter f' k' e g = some r
  | 0, _, _, _, _, _, hr => by simp [iter] at hr
  | k + 1, k', e, g, r, hk, hr => by
    obtain ⟨k', rfl⟩ : ∃ j, k' = j + 1 := ⟨k' - 1, by omega⟩
    simp only [iter] at hr ⊢
    split at hr
    · rename_i hf
      rw [h _ _ _ hf]
      exact iter_mono h (by omega) hr
    · rename_i hn
      cases hf : f e g with
      | none => rw [hf] at hr; cases hr
      | some q =>
        rw [hf] at hr
        obtain rfl : q = r := Option.some.inj hr
        obtain ⟨o, e', g'⟩ := q
        cases o with
        | nrm => exact absurd hf (hn _ _)
        | ext n => rw [h _ _ _ hf]
        | ret => rw [h _ _ _ hf]
theorem codeE_mono {c d : CS} (h : CLe c d) {k k' : Nat} (hk : k ≤ k') : ∀ {x : ACode} {e : Env} {g : G} {r}, codeE c k x e g = some r → codeE d k' x e g = some r := by
  intro x
  induction x with
  | skip => intro e g r hr; exact hr
  | reg draw ops =>
    intro e g r hr
    simp only [codeE] at hr ⊢
    split at hr
    · rename_i ho
      rw [regE_mono h ho]
      exact hr
    · cases hr
  | seq a b iha ihb =>
    intro e g r hr
    simp only [codeE] at hr ⊢
    split at hr
    · rename_i ho
      rw [iha ho]
      exact ihb hr
    · rename_i hn
      cases hf : codeE c k a e g with
      | none => rw [hf] at hr; cases hr
      | some q =>
        rw [hf] at hr
        obtain rfl : q = r := Option.some.inj hr
        obtain ⟨o, e', g'⟩ := q
        cases o with
        | nrm => exact absurd hf (hn _ _)
        | ext n => rw [iha hf]
        | ret => rw [iha hf]
  | cond cc t f iht ihf =>
    intro e g r hr
    simp only [codeE] at hr ⊢
    split at hr
    · split
      · rename_i hx
        simp only [hx, if_true] at hr
        exact iht hr
      · rename_i hx
        simp only [hx, Bool.false_eq_true, if_false] at hr
        exact ihf hr
    · cases hr
  | lck t cc ih =>
    intro e g r hr
    simp only [codeE] at hr ⊢
    exact ih hr
  | lckS t cc ih =>
    intro e g r hr
    simp only [codeE] at hr ⊢
    exact ih hr
  | imm t cc ih =>
    intro e g r hr
    simp only [codeE] at hr ⊢
    cases hf : frz g.hp depth (e t) with
    | none => rw [hf] at hr; cases hr
    | some v => rw [hf] at hr; exact ih hr
  | tmp cc ih =>
    intro e g r hr
    simp only [codeE] at hr ⊢
    cases hf : codeE c k cc e ⟨lock g.hp (List.range g.nx), g.nx⟩ with
    | none => rw [hf] at hr; cases hr
    | some q => rw [hf] at hr; rw [ih hf]; exact hr
  | scp cc ih =>
    intro e g r hr
    simp only [codeE] at hr ⊢
    exact ih hr
  | lab =>
    intro e g r hr
    simp only [codeE] at hr ⊢
    exact hr
  | blk id cc ih =>
    intro e g r hr
    simp only [codeE] at hr ⊢
    split at hr
    · rename_i hf
      rw [ih hf]
      exact hr
    · rename_i hn
      cases hf : codeE c k cc e g with
      | none => rw [hf] at hr; cases hr
      | some q =>
        rw [hf] at hr
        obtain rfl : q = r := Option.some.inj hr
        obtain ⟨o, e', g'⟩ := q
        cases o with
        | nrm => rw [ih hf]
        | ext n => exact absurd hf (hn _ _ _)
        | ret => rw [ih hf]
  | loop cc ih =>
    intro e g r hr
    simp only [codeE] at hr ⊢
    exact iter_mono (fun _ _ _ => ih) hk hr
  | ext id => intro e g r hr; exact hr
  | ret => intro e g r hr; exact hr
theorem callE_mono (F : Funs) : ∀ {k k' : Nat}, k ≤ k' → CLe (callE F k) (callE F k')
  | 0, _, _, _, _, _, _, hr => by simp [callE] at hr
  | k + 1, k', hk, f, asx, g, r, hr => by
    obtain ⟨k', rfl⟩ : ∃ j, k' = j + 1 := ⟨k' - 1, by omega⟩
    simp only [callE] at hr ⊢
    split at hr
    · cases hr
    · rename_i fn hF
      have hm := fun {x} => codeE_mono (callE_mono F (show k ≤ k' by omega)) (show k ≤ k' by omega) (x := fn.body) (e := argEnv asx) (g := g) (r := x)
      split at hr
      · rename_i hc
        rw [hm hc]
        exact hr
      · rename_i hc
        rw [hm hc]
        exact hr
      · cases hr
open Classical in
noncomputable def lim {α : Type} (f : Nat → Option α) : Option α :=
  if h : ∃ r k, f k = some r then some (Classical.choose h) else none
theorem lim_some {α : Type} {f : Nat → Option α} (hm : ∀ k k' r, k ≤ k' → f k = some r → f k' = some r) {r : α} : lim f = some r ↔ ∃ k, f k = some r := by
  unfold lim
  constructor
  · intro h
    split at h
    · rename_i hx
      have := Classical.choose_spec hx
      rwa [Option.some.inj h] at this
    · cases h
  · rintro ⟨k, hk⟩
    rw [dif_pos ⟨r, k, hk⟩]
    obtain ⟨k', hk'⟩ := Classical.choose_spec (⟨r, k, hk⟩ : ∃ r k, f k = some r)
    have h1 := hm k (max k k') _ (by omega) hk
    have h2 := hm k' (max k k') _ (by omega) hk'
    rw [h1] at h2
    exact congrArg some (Option.some.inj h2).symm
theorem lim_ext {α : Type} {a b : Option α} (h : ∀ r, a = some r ↔ b = some r) : a = b := by
  cases a with
  | none =>
    cases b with
    | none => rfl
    | some r => exact (((h r).2 rfl).symm ▸ rfl : none = some r)
  | some r => exact ((h r).1 rfl).symm
variable (F : Funs)
noncomputable def callS : CS := fun f asx g => lim fun k => callE F k f asx g
noncomputable def codeS (x : ACode) (e : Env) (g : G) : Option (Out × Env × G) := lim fun k => codeE (callE F k) k x e g
theorem callS_some {f asx g r} : callS F f asx g = some r ↔ ∃ k, callE F k f asx g = some r :=
  lim_some fun _ _ _ hk h => callE_mono F hk _ _ _ _ h
theorem codeS_some {x e g r} : codeS F x e g = some r ↔ ∃ k, codeE (callE F k) k x e g = some r :=
  lim_some fun _ _ _ hk h => codeE_mono (callE_mono F hk) hk h
theorem callE_le (k : Nat) : CLe (callE F k) (callS F) := fun _ _ _ _ h => (callS_some F).2 ⟨k, h⟩
theorem opE_lim {al lo id op e g r} : opE (callS F) al lo id op e g = some r ↔ ∃ k, opE (callE F k) al lo id op e g = some r := by
  refine ⟨fun h => ?_, fun ⟨k, h⟩ => opE_mono (callE_le F k) h⟩
  cases op with
  | call m f args =>
    simp only [opE, vCall] at h ⊢
    split at h
    · cases m with
      | raw => exact (callS_some F).1 h
      | pure =>
        simp only at h ⊢
        split at h
        · cases h
        · split at h
          · cases h
          · rename_i hc
            obtain ⟨k, hk⟩ := (callS_some F).1 hc
            exact ⟨k, by rw [hk]; exact h⟩
      | lock =>
        simp only at h ⊢
        split at h
        · cases h
        · split at h
          · cases h
          · rename_i hc
            obtain ⟨k, hk⟩ := (callS_some F).1 hc
            exact ⟨k, by rw [hk]; exact h⟩
      | thaw =>
        simp only at h ⊢
        split at h
        · cases h
        · split at h
          · rename_i hc
            obtain ⟨k, hk⟩ := (callS_some F).1 hc
            exact ⟨k, by rw [hk]; exact h⟩
          · cases h
      | melt =>
        simp only at h ⊢
        split at h
        · cases h
        · split at h
          · rename_i hc
            obtain ⟨k, hk⟩ := (callS_some F).1 hc
            exact ⟨k, by rw [hk]; exact h⟩
          · cases h
    · cases h
  | _ => exact ⟨0, h⟩
theorem regE_lim {draw base} : ∀ {os : List AOper} {j e g r}, regE (callS F) draw base j os e g = some r ↔ ∃ k, regE (callE F k) draw base j os e g = some r
  | [], _, _, _, _ => ⟨fun h => ⟨0, h⟩, fun ⟨_, h⟩ => h⟩
  | o :: os, j, e, g, r => by
    refine ⟨fun h => ?_, fun ⟨k, h⟩ => regE_mono (callE_le F k) h⟩
    simp only [regE] at h
    split at h
    · rename_i hw
      split at h
      · rename_i ho
        obtain ⟨k1, h1⟩ := (opE_lim F).1 ho
        obtain ⟨k2, h2⟩ := (regE_lim).1 h
        refine ⟨max k1 k2, ?_⟩
        simp only [regE]
        rw [if_pos hw, opE_mono (callE_mono F (Nat.le_max_left k1 k2)) h1]
        exact regE_mono (callE_mono F (Nat.le_max_right k1 k2)) h2
      · cases h
    · rename_i hw
      obtain ⟨k2, h2⟩ := (regE_lim).1 h
      refine ⟨k2, ?_⟩
      simp only [regE]
      rw [if_neg hw]
      exact h2
theorem codeS_skip (e g) : codeS F .skip e g = some (.nrm, e, g) := (codeS_some F).2 ⟨0, rfl⟩
theorem codeS_ext (id e g) : codeS F (.ext id) e g = some (.ext id, e, g) := (codeS_some F).2 ⟨0, rfl⟩
theorem codeS_ret (e g) : codeS F .ret e g = some (.ret, e, g) := (codeS_some F).2 ⟨0, rfl⟩
theorem codeS_reg (draw ops e g) : codeS F (.reg draw ops) e g = match regE (callS F) draw g.nx 0 ops e { g with nx := g.nx + ops.length } with
    | some (e, g) => some (.nrm, e, g)
    | none => none := by
  refine lim_ext fun r => ?_
  rw [codeS_some]
  constructor
  · rintro ⟨k, h⟩
    simp only [codeE] at h
    split at h
    · rename_i ho
      rw [(regE_lim F).2 ⟨k, ho⟩]
      exact h
    · cases h
  · intro h
    split at h
    · rename_i ho
      obtain ⟨k, hk⟩ := (regE_lim F).1 ho
      exact ⟨k, by simp only [codeE]; rw [hk]; exact h⟩
    · cases h
theorem codeS_seq (a b e g) : codeS F (.seq a b) e g = match codeS F a e g with
    | some (.nrm, e, g) => codeS F b e g
    | r => r := by
  refine lim_ext fun r => ?_
  rw [codeS_some]
  constructor
  · rintro ⟨k, h⟩
    simp only [codeE] at h
    split at h
    · rename_i ho
      rw [(codeS_some F).2 ⟨k, ho⟩]
      exact (codeS_some F).2 ⟨k, h⟩
    · rename_i hn
      rw [(codeS_some F).2 ⟨k, h⟩]
      obtain ⟨o, e', g'⟩ := r
      cases o with
      | nrm => exact absurd h (hn _ _)
      | ext n => rfl
      | ret => rfl
  · intro h
    split at h
    · rename_i ho
      obtain ⟨k1, h1⟩ := (codeS_some F).1 ho
      obtain ⟨k2, h2⟩ := (codeS_some F).1 h
      refine ⟨max k1 k2, ?_⟩
      simp only [codeE]
      rw [codeE_mono (callE_mono F (Nat.le_max_left k1 k2)) (Nat.le_max_left k1 k2) h1]
      exact codeE_mono (callE_mono F (Nat.le_max_right k1 k2)) (Nat.le_max_right k1 k2) h2
    · rename_i hn
      obtain ⟨k1, h1⟩ := (codeS_some F).1 h
      refine ⟨k1, ?_⟩
      simp only [codeE]
      rw [h1]
      obtain ⟨o, e', g'⟩ := r
      cases o with
      | nrm => exact absurd h (hn _ _)
      | ext n => rfl
      | ret => rfl
theorem codeS_cond (c t f e g) : codeS F (.cond c t f) e g = match c.ev e with
    | .b x => if x then codeS F t e g else codeS F f e g
    | _ => none := by
  refine lim_ext fun r => ?_
  rw [codeS_some]
  simp only [codeE]
  cases c.ev e with
  | b x =>
    cases x with
    | true => simp only [if_true]; exact (codeS_some F).symm
    | false => simp only [Bool.false_eq_true, if_false]; exact (codeS_some F).symm
  | _ => simp
theorem codeS_lck (t c e g) : codeS F (.lck t c) e g = codeS F c e ⟨lock g.hp (vis g.hp depth (e t)), g.nx⟩ := by
  refine lim_ext fun r => ?_
  rw [codeS_some]
  simp only [codeE]
  exact (codeS_some F).symm
theorem codeS_lckS (t c e g) : codeS F (.lckS t c) e g = codeS F c e ⟨lock g.hp (ids1 (e t)), g.nx⟩ := by
  refine lim_ext fun r => ?_
  rw [codeS_some]
  simp only [codeE]
  exact (codeS_some F).symm
theorem codeS_imm (t c e g) : codeS F (.imm t c) e g = match frz g.hp depth (e t) with
    | some v => codeS F c (upd e t v) ⟨lock g.hp (vis g.hp depth (e t)), g.nx⟩
    | none => none := by
  refine lim_ext fun r => ?_
  rw [codeS_some]
  simp only [codeE]
  cases frz g.hp depth (e t) with
  | none => simp
  | some v => exact (codeS_some F).symm
theorem codeS_scp (c e g) : codeS F (.scp c) e g = codeS F c e g := by
  refine lim_ext fun r => ?_
  rw [codeS_some]
  simp only [codeE]
  exact (codeS_some F).symm
theorem codeS_lab (e g) : codeS F .lab e g = some (.nrm, e, g) := by
  refine lim_ext fun r => ?_
  rw [codeS_some]
  simp only [codeE]
  exact ⟨fun ⟨_, h⟩ => h, fun h => ⟨0, h⟩⟩
theorem codeS_blk (id c e g) : codeS F (.blk id c) e g = match codeS F c e g with
    | some (.ext n, e, g) => some (if n = id then .nrm else .ext n, e, g)
    | r => r := by
  refine lim_ext fun r => ?_
  rw [codeS_some]
  constructor
  · rintro ⟨k, h⟩
    simp only [codeE] at h
    split at h
    · rename_i ho
      rw [(codeS_some F).2 ⟨k, ho⟩]
      exact h
    · rename_i hn
      rw [(codeS_some F).2 ⟨k, h⟩]
      obtain ⟨o, e', g'⟩ := r
      cases o with
      | nrm => rfl
      | ext n => exact absurd h (hn _ _ _)
      | ret => rfl
  · intro h
    split at h
    · rename_i ho
      obtain ⟨k1, h1⟩ := (codeS_some F).1 ho
      exact ⟨k1, by simp only [codeE]; rw [h1]; exact h⟩
    · rename_i hn
      obtain ⟨k1, h1⟩ := (codeS_some F).1 h
      refine ⟨k1, ?_⟩
      simp only [codeE]
      rw [h1]
      obtain ⟨o, e', g'⟩ := r
      cases o with
      | nrm => rfl
      | ext n => exact absurd h (hn _ _ _)
      | ret => rfl
theorem codeS_loop (c e g) : codeS F (.loop c) e g = match codeS F c e g with
    | some (.nrm, e, g) => codeS F (.loop c) e g
    | r => r := by
  refine lim_ext fun r => ?_
  rw [codeS_some]
  constructor
  · rintro ⟨k, h⟩
    simp only [codeE] at h
    cases k with
    | zero => simp [iter] at h
    | succ k =>
      simp only [iter] at h
      split at h
      · rename_i ho
        rw [(codeS_some F).2 ⟨k + 1, ho⟩]
        refine (codeS_some F).2 ⟨k + 1, ?_⟩
        simp only [codeE]
        exact iter_mono (fun _ _ _ h => h) (Nat.le_succ k) h
      · rename_i hn
        rw [(codeS_some F).2 ⟨k + 1, h⟩]
        obtain ⟨o, e', g'⟩ := r
        cases o with
        | nrm => exact absurd h (hn _ _)
        | ext n => rfl
        | ret => rfl
  · intro h
    split at h
    · rename_i ho
      obtain ⟨k1, h1⟩ := (codeS_some F).1 ho
      obtain ⟨k2, h2⟩ := (codeS_some F).1 h
      simp only [codeE] at h2
      refine ⟨max k1 k2 + 1, ?_⟩
      simp only [codeE, iter]
      rw [codeE_mono (callE_mono F (by omega : k1 ≤ max k1 k2 + 1)) (by omega : k1 ≤ max k1 k2 + 1) h1]
      exact iter_mono (fun _ _ _ h => codeE_mono (callE_mono F (by omega : k2 ≤ max k1 k2 + 1)) (by omega : k2 ≤ max k1 k2 + 1) h) (by omega) h2
    · rename_i hn
      obtain ⟨k1, h1⟩ := (codeS_some F).1 h
      refine ⟨k1 + 1, ?_⟩
      simp only [codeE, iter]
      rw [codeE_mono (callE_mono F (by omega : k1 ≤ k1 + 1)) (by omega : k1 ≤ k1 + 1) h1]
      obtain ⟨o, e', g'⟩ := r
      cases o with
      | nrm => exact absurd h (hn _ _)
      | ext n => rfl
      | ret => rfl
theorem callS_eq (f asx g) : callS F f asx g = match F f with
    | none => none
    | some fn => match codeS F fn.body (argEnv asx) g with
      | some (.nrm, e, g) | some (.ret, e, g) => (resE fn.res e g).map (·, g)
      | _ => none := by
  refine lim_ext fun r => ?_
  rw [callS_some]
  constructor
  · rintro ⟨k, h⟩
    cases k with
    | zero => simp [callE] at h
    | succ k =>
      simp only [callE] at h
      split at h
      · cases h
      · rename_i fn hF
        rw [hF]
        simp only
        split at h
        · rename_i hc
          rw [(codeS_some F).2 ⟨k, hc⟩]
          exact h
        · rename_i hc
          rw [(codeS_some F).2 ⟨k, hc⟩]
          exact h
        · cases h
  · intro h
    split at h
    · cases h
    · rename_i fn hF
      split at h
      · rename_i hc
        obtain ⟨k, hk⟩ := (codeS_some F).1 hc
        exact ⟨k + 1, by simp only [callE, hF]; rw [hk]; exact h⟩
      · rename_i hc
        obtain ⟨k, hk⟩ := (codeS_some F).1 hc
        exact ⟨k + 1, by simp only [callE, hF]; rw [hk]; exact h⟩
      · cases h
end Go.Ab
end
section
namespace Go.Ab
theorem upd_same {α : Type} (e : Nat → α) (d : Nat) (v : α) : upd e d v d = v := if_pos rfl
theorem upd_ne {α : Type} (e : Nat → α) {d k : Nat} (v : α) (h : k ≠ d) : upd e d v k = e k := if_neg h
theorem put_some (e : Env) (d : Nat) (v : AV) : put e (some d) v = upd e d v := rfl
theorem put_none (e : Env) (v : AV) : put e none v = e := rfl
theorem allow_no (base : Nat) (pre : List Nat) (id : Nat) : allow false base pre id = true := rfl
theorem allow_lt {base id : Nat} (pre : List Nat) (h : id < base) : allow true base pre id = true := by simp [allow, h]
section
variable (c : CS) (d : Bool) (b j : Nat) (dst : Option Nat) (os : List AOper) (e : Env)
def bindR (r : Option (AV × G)) : Option (Env × G) :=
  match r with
  | some (v, g) => regE c d b j os (put e dst v) g
  | none => none
def selR (w : Bool) (op : AOp) (pre : List Nat) (g : G) : Option (Env × G) :=
  if w then bindR c d b (j + 1) dst os e (opE c (allow d b pre) b (b + j) op e g) else regE c d b (j + 1) os (put e dst .undef) g
theorem selR_true (op pre g) : selR c d b j dst os e true op pre g = bindR c d b (j + 1) dst os e (opE c (allow d b pre) b (b + j) op e g) := rfl
theorem regE_nil (g : G) : regE c d b j [] e g = some (e, g) := rfl
theorem regE_cons (op : AOp) (grd : Option (Nat × Bool)) (pre : List Nat) (g : G) :
    regE c d b j ({ dst, op, grd, pre } :: os) e g = selR c d b j dst os e (wanted e grd) op pre g := by
  simp only [regE, selR, bindR]
  rfl
end
section
variable (F : Funs)
noncomputable def thenS (x : ACode) (r : Option (Out × Env × G)) : Option (Out × Env × G) :=
  match r with
  | some (.nrm, e, g) => codeS F x e g
  | r => r
noncomputable def selS (t f : ACode) (e : Env) (g : G) (v : AV) : Option (Out × Env × G) :=
  match v with
  | .b c => if c then codeS F t e g else codeS F f e g
  | _ => none
def normS (r : Option (Env × G)) : Option (Out × Env × G) :=
  match r with
  | some (e, g) => some (.nrm, e, g)
  | none => none
def blkS (id : Nat) (r : Option (Out × Env × G)) : Option (Out × Env × G) :=
  match r with
  | some (.ext n, e, g) => some (if n = id then .nrm else .ext n, e, g)
  | r => r
theorem cS_reg (draw ops e g) : codeS F (.reg draw ops) e g = normS (regE (callS F) draw g.nx 0 ops e ⟨g.hp, g.nx + ops.length⟩) := codeS_reg F draw ops e g
theorem cS_seq (a b e g) : codeS F (.seq a b) e g = thenS F b (codeS F a e g) := codeS_seq F a b e g
theorem cS_cond (c t f e g) : codeS F (.cond c t f) e g = selS F t f e g (c.ev e) := codeS_cond F c t f e g
theorem cS_blk (id c e g) : codeS F (.blk id c) e g = blkS id (codeS F c e g) := codeS_blk F id c e g
theorem cS_loop (c e g) : codeS F (.loop c) e g = thenS F (.loop c) (codeS F c e g) := codeS_loop F c e g
end
def wantV (v : AV) (w : Bool) : Bool := match v with | .b x => x == w | _ => false
theorem wanted_none (e : Env) : wanted e none = true := rfl
theorem wanted_some (e : Env) (t : Nat) (w : Bool) : wanted e (some (t, w)) = wantV (e t) w := rfl
theorem wantV_1 (x : Bool) : wantV (.b x) true = x := by cases x <;> rfl
theorem wantV_0 (x : Bool) : wantV (.b x) false = !x := by cases x <;> rfl
theorem wantV_undef (w : Bool) : wantV .undef w = false := rfl
section
variable {c : CS} {al : Nat → Bool} {lo id : Nat} {e : Env} {g : G}
theorem ev_t (n : Nat) : Opd.ev e (.t n) = e n := rfl
theorem ev_c (v : AV) : Opd.ev e (.c v) = v := rfl
theorem o_mv (x : Opd) : opE c al lo id (.mv x) e g = some (x.ev e, g) := rfl
theorem o_pick (x y z : Opd) : opE c al lo id (.pick x y z) e g = vPick (x.ev e) (y.ev e) (z.ev e) g := rfl
theorem vPick_t (a b : AV) (g : G) : vPick (.b true) a b g = some (a, g) := rfl
theorem vPick_f (a b : AV) (g : G) : vPick (.b false) a b g = some (b, g) := rfl
theorem o_new (z : List AV) : opE c al lo id (.new z) e g = some (.mp id 0, ⟨upd g.hp id (some (.cells z false)), g.nx⟩) := rfl
theorem o_box (x : Opd) : opE c al lo id (.box x) e g = vBox id (x.ev e) g := rfl
theorem vMap_some (v : AV) : vMap g (some v) = some (v, g) := rfl
theorem vMapL_some (f) (v : List AV) : vMapL f g (some v) = some (f v, g) := rfl
theorem o_build (z : List AV) (ps) : opE c al lo id (.build z ps) e g = vMapL .agg g (fill e z ps) := rfl
theorem o_ld (agg) (x : Opd) : opE c al lo id (.ld agg x) e g = vLd al agg (x.ev e) g := rfl
theorem vLd_ptr (agg cs) : vLd al agg (.ptr cs) g = vMap g (part cs 0 agg) := rfl
theorem o_st (n) (a x : Opd) : opE c al lo id (.st n a x) e g = vSt al n (a.ev e) (x.ev e) g := rfl
theorem o_nilck (x : Opd) : opE c al lo id (.nilck x) e g = vNil (x.ev e) g := rfl
theorem vNil_ptr (cs) : vNil (.ptr cs) g = some (.ptr cs, g) := rfl
theorem vNil_mp (b o) : vNil (.mp b o) g = some (.mp b o, g) := rfl
theorem vNil_fn (f a b) : vNil (.fn f a b) g = some (.fn f a b, g) := rfl
theorem o_bin (op) (x y : Opd) : opE c al lo id (.bin op x y) e g = vMap g (abin op (x.ev e) (y.ev e)) := rfl
theorem o_un (op) (x : Opd) : opE c al lo id (.un op x) e g = vMap g (aun op (x.ev e)) := rfl
theorem o_mkfn (f a b) : opE c al lo id (.mkfn f a b) e g = some (.fn f (a.map (·.ev e)) (b.map (·.ev e)), g) := rfl
theorem o_fa (off) (x : Opd) : opE c al lo id (.fa off x) e g = vFa off (x.ev e) g := rfl
theorem vFa_mp (off b o) : vFa off (.mp b o) g = some (.mp b (o + off), g) := rfl
theorem o_fld (off agg) (x : Opd) : opE c al lo id (.fld off agg x) e g = vFld off agg (x.ev e) g := rfl
theorem vFld_agg (off agg cs) : vFld off agg (.agg cs) g = vMap g (part cs off agg) := rfl
theorem o_ia (esz) (x i : Opd) : opE c al lo id (.ia esz x i) e g = vIa esz (x.ev e) (i.ev e) g := rfl
theorem vIa_sl {esz cs t k} {n : Nat} {z : Int} (h0 : 0 ≤ z) (h : z < n) : vIa esz (.sl cs n t) (.i k z) g = some (.ptr (cs.drop (z.toNat * esz)), g) := if_pos ⟨h0, h⟩
theorem vIa_ms {esz b off k} {n : Nat} {z : Int} (h0 : 0 ≤ z) (h : z < n) : vIa esz (.ms b off n) (.i k z) g = some (.mp b (off + z.toNat * esz), g) := if_pos ⟨h0, h⟩
theorem o_iaa (len esz) (x i : Opd) : opE c al lo id (.iaa len esz x i) e g = vIaa len esz (x.ev e) (i.ev e) g := rfl
theorem vIaa_ptr {esz cs k} {len : Nat} {z : Int} (h0 : 0 ≤ z) (h : z < len) : vIaa len esz (.ptr cs) (.i k z) g = some (.ptr (cs.drop (z.toNat * esz)), g) := if_pos ⟨h0, h⟩
theorem vIaa_mp {esz b off k} {len : Nat} {z : Int} (h0 : 0 ≤ z) (h : z < len) : vIaa len esz (.mp b off) (.i k z) g = some (.mp b (off + z.toNat * esz), g) := if_pos ⟨h0, h⟩
theorem o_len (x : Opd) : opE c al lo id (.len x) e g = vLen (x.ev e) g := rfl
theorem vLen_sl (cs n t) : vLen (.sl cs n t) g = some (.i .i64 n, g) := rfl
theorem vLen_ms (b o n) : vLen (.ms b o n) g = some (.i .i64 n, g) := rfl
theorem o_mx (x y : Opd) : opE c al lo id (.mx x y) e g = vMx (x.ev e) (y.ev e) g := rfl
theorem o_mn (x y : Opd) : opE c al lo id (.mn x y) e g = vMn (x.ev e) (y.ev e) g := rfl
theorem vMx_i (k l a b) : vMx (.i k a) (.i l b) g = some (.i k (if b > a then b else a), g) := rfl
theorem vMn_i (k l a b) : vMn (.i k a) (.i l b) g = some (.i k (if b < a then b else a), g) := rfl
theorem o_ext (i) (x : Opd) : opE c al lo id (.ext i x) e g = vExt i (x.ev e) g := rfl
theorem vExt_tup (i cs) : vExt i (.tup cs) g = vMap g (cs[i]?) := rfl
theorem b_add (k x y) : abin .add (.i k x) (.i k y) = some (.i k (k.wrap (x + y))) := by simp [abin, ibin]
theorem b_sub (k x y) : abin .sub (.i k x) (.i k y) = some (.i k (k.wrap (x - y))) := by simp [abin, ibin]
theorem b_mul (k x y) : abin .mul (.i k x) (.i k y) = some (.i k (k.wrap (x * y))) := by simp [abin, ibin]
theorem b_quo {k x y} (h : y ≠ 0) : abin .quo (.i k x) (.i k y) = some (.i k (k.wrap (x.tdiv y))) := by simp [abin, ibin, h]
theorem b_rem {k x y} (h : y ≠ 0) : abin .rem (.i k x) (.i k y) = some (.i k (x.tmod y)) := by simp [abin, ibin, h]
theorem b_lss (k x y) : abin .lss (.i k x) (.i k y) = some (.b (decide (x < y))) := by simp [abin, ibin]
theorem b_leq (k x y) : abin .leq (.i k x) (.i k y) = some (.b (decide (x ≤ y))) := by simp [abin, ibin]
theorem b_gtr (k x y) : abin .gtr (.i k x) (.i k y) = some (.b (decide (x > y))) := by simp [abin, ibin]
theorem b_geq (k x y) : abin .geq (.i k x) (.i k y) = some (.b (decide (x ≥ y))) := by simp [abin, ibin]
theorem b_eql (k x y) : abin .eql (.i k x) (.i k y) = some (.b (x == y)) := by simp [abin, ibin]
theorem b_neq (k x y) : abin .neq (.i k x) (.i k y) = some (.b (x != y)) := by simp [abin, ibin]
end
def selB (x : Bool) (o : Option Blk) : Option Blk := if x then o else none
theorem selB_true (o) : selB true o = o := rfl
theorem rd_S (g : G) (al : Nat → Bool) (id : Nat) : rd g al id = selB (al id) (g.hp id) := rfl
section
variable {al : Nat → Bool} {g : G}
def ldS (agg : Option Nat) (off : Nat) (g : G) : Option Blk → Option (AV × G)
  | some (.cells cs _) => vMap g (part cs off agg)
  | _ => none
theorem ldS_ok (agg off g cs ro) : ldS agg off g (some (.cells cs ro)) = vMap g (part cs off agg) := rfl
theorem vLd_S (agg b off) : vLd al agg (.mp b off) g = ldS agg off g (selB (al b) (g.hp b)) := rfl
def stD (n b off len m : Nat) (ones : Bool) (cs vs : List AV) (g : G) : Option (AV × G) :=
  if len = n ∧ off + n ≤ m ∧ ones = true then some (.undef, ⟨upd g.hp b (some (.cells (splice cs off vs) false)), g.nx⟩) else none
theorem stD_ok {n b off len m : Nat} {cs vs g} (h : len = n ∧ off + n ≤ m) : stD n b off len m true cs vs g = some (.undef, ⟨upd g.hp b (some (.cells (splice cs off vs) false)), g.nx⟩) := if_pos ⟨h.1, h.2, rfl⟩
def stS (n b off : Nat) (vs : List AV) (g : G) : Option Blk → Option (AV × G)
  | some (.cells cs false) => stD n b off vs.length cs.length (vs.all one) cs vs g
  | _ => none
theorem stS_ok (n b off vs g cs) : stS n b off vs g (some (.cells cs false)) = stD n b off vs.length cs.length (vs.all one) cs vs g := rfl
theorem vSt_S (n b off x) : vSt al n (.mp b off) x g = stS n b off (cellsOf x) g (selB (al b) (g.hp b)) := by
  simp only [vSt]
  rw [rd_S]
  cases selB (al b) (g.hp b) with
  | none => rfl
  | some bl =>
    cases bl with
    | cells cs ro => cases ro <;> rfl
    | map es => rfl
    | tok l => rfl
def boxD (id : Nat) (cs : List AV) (g : G) (x : Bool) : Option (AV × G) := if x then some (.mp id 0, ⟨upd g.hp id (some (.cells cs false)), g.nx⟩) else none
theorem boxD_ok (id cs g) : boxD id cs g true = some (.mp id 0, ⟨upd g.hp id (some (.cells cs false)), g.nx⟩) := rfl
theorem vBox_S (id v) : vBox id v g = boxD id (cellsOf v) g ((cellsOf v).all one) := rfl
def faD (off len : Nat) (cs : List AV) (g : G) : Option (AV × G) := if off < len then some (.ptr (cs.drop off), g) else none
theorem faD_ok {off len : Nat} {cs g} (h : off < len) : faD off len cs g = some (.ptr (cs.drop off), g) := if_pos h
theorem vFa_S (off cs) : vFa off (.ptr cs) g = faD off cs.length cs g := rfl
def fillD (e : Env) (cs : List AV) (off n len m : Nat) (ones : Bool) (vs : List AV) (ps : List (Nat × Nat × Opd)) : Option (List AV) :=
  if len = n ∧ off + n ≤ m ∧ ones = true then fill e (splice cs off vs) ps else none
theorem fillD_ok {e cs off n len m vs ps} (h : len = n ∧ off + n ≤ m) : fillD e cs off n len m true vs ps = fill e (splice cs off vs) ps := if_pos ⟨h.1, h.2, rfl⟩
theorem fill_S (e : Env) (cs : List AV) (off n x ps) : fill e cs ((off, n, x) :: ps) = fillD e cs off n (cellsOf (x.ev e)).length cs.length ((cellsOf (x.ev e)).all one) (cellsOf (x.ev e)) ps := by
  simp only [fill, fillD]
theorem fill_nil (e cs) : fill e cs [] = some cs := rfl
theorem cellsOf_agg (cs) : cellsOf (.agg cs) = cs := rfl
theorem cellsOf_i (k n) : cellsOf (.i k n) = [.i k n] := rfl
theorem cellsOf_b (x) : cellsOf (.b x) = [.b x] := rfl
theorem cellsOf_s (x) : cellsOf (.s x) = [.s x] := rfl
theorem cellsOf_ptr (x) : cellsOf (.ptr x) = [.ptr x] := rfl
theorem cellsOf_nilp : cellsOf .nilp = [.nilp] := rfl
theorem cellsOf_sl (a b c) : cellsOf (.sl a b c) = [.sl a b c] := rfl
theorem cellsOf_mp (a b) : cellsOf (.mp a b) = [.mp a b] := rfl
theorem cellsOf_fn (a b c) : cellsOf (.fn a b c) = [.fn a b c] := rfl
theorem one_i (k n) : one (.i k n) = true := rfl
theorem one_b (x) : one (.b x) = true := rfl
theorem one_s (x) : one (.s x) = true := rfl
theorem one_ptr (x) : one (.ptr x) = true := rfl
theorem one_nilp : one .nilp = true := rfl
theorem one_sl (a b c) : one (.sl a b c) = true := rfl
theorem one_mp (a b) : one (.mp a b) = true := rfl
theorem one_fn (a b c) : one (.fn a b c) = true := rfl
theorem splice_1 (cs off v) : splice cs off [v] = cs.set off v := rfl
theorem splice_2 (a b x y) : splice [a, b] 0 [x, y] = [x, y] := rfl
theorem splice_3 (a b c x y z) : splice [a, b, c] 0 [x, y, z] = [x, y, z] := rfl
theorem part_0 (c cs) : part (c :: cs) 0 none = some c := rfl
theorem part_1 (c d cs) : part (c :: d :: cs) 1 none = some d := rfl
theorem part_2 (a c d cs) : part (a :: c :: d :: cs) 2 none = some d := rfl
def andLe (lo : Nat) (al : Nat → Bool) (i : Nat) : Bool := decide (lo ≤ i) && al i
theorem o_stL {c : CS} {al : Nat → Bool} {lo id : Nat} {e : Env} {g : G} (n a x) : opE c al lo id (.stL n a x) e g = vSt (andLe lo al) n (a.ev e) (x.ev e) g := rfl
theorem andLe_ok {lo : Nat} {al : Nat → Bool} {i : Nat} (h : lo ≤ i) : andLe lo al i = al i := by simp [andLe, h]
theorem allow_hd {base k id : Nat} (l : List Nat) (h : id = base + k) : allow true base (k :: l) id = true := by subst h; simp [allow]
theorem allow_h2 {base k k' id : Nat} (l : List Nat) (h : id = base + k) : allow true base (k' :: k :: l) id = true := by subst h; simp [allow]
theorem part_3 (a b c d : AV) (l : List AV) : part (a :: b :: c :: d :: l) 3 none = some d := rfl
theorem part_4 (a b c d e : AV) (l : List AV) : part (a :: b :: c :: d :: e :: l) 4 none = some e := rfl
theorem part_5 (a b c d e f : AV) (l : List AV) : part (a :: b :: c :: d :: e :: f :: l) 5 none = some f := rfl
theorem cellsOf_ms (a b c) : cellsOf (.ms a b c) = [.ms a b c] := rfl
theorem one_ms (a b c) : one (.ms a b c) = true := rfl
theorem drop_0 (l : List AV) : l.drop 0 = l := rfl
theorem g0_nx : g0.nx = 0 := rfl
theorem g0_hp : g0.hp = fun _ => none := rfl
theorem o_bsl {c : CS} {al : Nat → Bool} {lo id : Nat} {e : Env} {g : G} (imm n z ps) : opE c al lo id (.bsl imm n z ps) e g = vBsl id imm n (fill e z ps) g := rfl
theorem vBsl_t (id n cs) (g : G) : vBsl id true n (some cs) g = vMapL (fun cs => .sl cs n .rig) g (frzL (fun _ => none) depth cs) := rfl
theorem vBsl_f (id n cs) (g : G) : vBsl id false n (some cs) g = some (.ms id 0 n, ⟨upd g.hp id (some (.cells cs false)), g.nx⟩) := rfl
theorem o_app {c : CS} {al : Nat → Bool} {lo id : Nat} {e : Env} {g : G} (esz by' x y) : opE c al lo id (.app esz by' x y) e g = vApp al id esz by' (x.ev e) (y.ev e) g := rfl
def appD (n m esz bytes lc ld : Nat) (r : Option (AV × G)) : Option (AV × G) := if (n + m) * bytes ≤ 2 ^ 46 ∧ n + m ≤ 2 ^ 62 ∧ lc = n * esz ∧ ld = m * esz then r else none
theorem appD_ok {n m esz bytes lc ld r} (h : (n + m) * bytes ≤ 2 ^ 46 ∧ n + m ≤ 2 ^ 62 ∧ lc = n * esz ∧ ld = m * esz) : appD n m esz bytes lc ld r = r := if_pos h
theorem vApp_rig {id esz bytes cs n ds m t2} (h : m ≠ 0) : vApp al id esz bytes (.sl cs n .rig) (.sl ds m t2) g = appD n m esz bytes cs.length ds.length (some (.sl (cs ++ ds) (n + m) (.own id esz), ⟨upd g.hp id (some (.tok true)), g.nx⟩)) := by
  simp only [vApp, vSrc, if_neg h]; rfl
theorem vApp_rig0 {id esz bytes cs n ds t2} : vApp al id esz bytes (.sl cs n .rig) (.sl ds 0 t2) g = appD n 0 esz bytes cs.length ds.length (some (.sl cs n .rig, g)) := by
  simp only [vApp, vSrc, if_true]; rfl
def appK (id esz tk n : Nat) (cs : List AV) (g : G) : Option Blk → Option (AV × G)
  | some (.tok true) => some (.sl cs n (.own id esz), ⟨upd (upd g.hp tk (some (.tok false))) id (some (.tok true)), g.nx⟩)
  | _ => none
theorem appK_ok (id esz tk n cs g) : appK id esz tk n cs g (some (.tok true)) = some (.sl cs n (.own id esz), ⟨upd (upd g.hp tk (some (.tok false))) id (some (.tok true)), g.nx⟩) := rfl
theorem vApp_own {id esz bytes cs n tk ds m t2} : vApp al id esz bytes (.sl cs n (.own tk esz)) (.sl ds m t2) g = appD n m esz bytes cs.length ds.length (appK id esz tk (n + m) (cs ++ ds) g (selB (al tk) (g.hp tk))) := by
  simp only [vApp, vSrc, rd_S]
  unfold appD appK
  split
  · cases selB (al tk) (g.hp tk) with
    | none => rfl
    | some b =>
      cases b with
      | tok x => cases x <;> simp
      | cells _ _ => rfl
      | map _ => rfl
  · rfl
theorem o_eqn {c : CS} {al : Nat → Bool} {lo id : Nat} {e : Env} {g : G} (neg x y) : opE c al lo id (.eqn neg x y) e g = vMap g (negb neg (aeqn (x.ev e) (y.ev e))) := rfl
theorem o_eqb {c : CS} {al : Nat → Bool} {lo id : Nat} {e : Env} {g : G} (neg x y) : opE c al lo id (.eqb neg x y) e g = vMap g (negb neg (aeqb (x.ev e) (y.ev e))) := rfl
theorem o_eqa {c : CS} {al : Nat → Bool} {lo id : Nat} {e : Env} {g : G} (neg ks x y) : opE c al lo id (.eqa neg ks x y) e g = vMap g (negb neg (aeqa ks (x.ev e) (y.ev e))) := rfl
theorem aeqn_pn (cs) : aeqn (.ptr cs) .nilp = some false := rfl
theorem aeqn_np (cs) : aeqn .nilp (.ptr cs) = some false := rfl
theorem aeqn_mn (a b) : aeqn (.mp a b) .nilp = some false := rfl
theorem aeqn_nn : aeqn .nilp .nilp = some true := rfl
theorem aeqb_bb (x y) : aeqb (.b x) (.b y) = some (x == y) := rfl
theorem negb_t (x) : negb true (some x) = some (.b (!x)) := rfl
theorem negb_f (x) : negb false (some x) = some (.b x) := rfl
theorem aun_not (x) : aun .not (.b x) = some (.b !x) := rfl
end
end Go.Ab
end
