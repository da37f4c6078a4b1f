/- Regions, code, calls: a run of the abstract machine is a run of the program. -/
import Derived.Test.YtfhinaopoffcnaaAbCall
set_option linter.unusedVariables false
set_option linter.unusedSimpArgs false
namespace Go.Ab
open Go.RowKit
section
variable {P : Program} {a : Act} {c : Cx} {e : Env} {g : G} {al : Nat → Bool} {lo id : Nat} {r : AV × G} {call : CS}

theorem op_sim {o : Oper} {ao : AOp} (hcall : CallOk P c.num call) (he : EnvOk c e a) (K : Ok c g.nx) (hg : c.hp = g.hp) (hid : c.hp id = none) (hlt : id < g.nx) (ho : opB P c.num o.op ao = true) (h : opE call al lo id ao e g = some r) : DoesWp P o a c r := by
  cases ao with
  | mv x => exact (s_mv he K hg ho h).wp
  | pick x y z => exact (s_pick he K hg ho h).wp
  | new z => exact (s_new he K hg hid hlt ho h).wp
  | box x => exact (s_box he K hg hid hlt ho h).wp
  | boxI x => exact (s_boxI he K hg ho h).wp
  | build z ps => exact (s_build he K hg ho h).wp
  | bsl imm n z ps => exact (s_bsl he K hg hid hlt ho h).wp
  | ld agg x => exact (s_ld he K hg ho h).wp
  | st n x y => exact (s_st he K hg ho h).wp
  | stL n x y => exact (s_stL he K hg ho h).wp
  | nilck x => exact (s_nilck he K hg ho h).wp
  | bin op x y => exact (s_bin he K hg ho h).wp
  | eqb neg x y => exact (s_eqb he K hg ho h).wp
  | eqn neg x y => exact (s_eqn he K hg ho h).wp
  | eqa neg ks x y => exact (s_eqa he K hg ho h).wp
  | un op x => exact (s_un he K hg ho h).wp
  | conv k x => exact (s_conv he K hg ho h).wp
  | mkfn f a b => exact (s_mkfn he K hg ho h).wp
  | mkmap => exact (s_mkmap K hg hid hlt ho h).wp
  | mput m k v => exact (s_mput he K hg ho h).wp
  | mget m k => exact (s_mget he K hg ho h).wp
  | mksl z esz b l cp => exact (s_mksl he K hg hid hlt ho h).wp
  | slice esz x l hh m => exact (s_slice he K hg ho h).wp
  | sslice x l hh => exact (s_sslice he K hg ho h).wp
  | fa off x => exact (s_fa he K hg ho h).wp
  | fld off agg x => exact (s_fld he K hg ho h).wp
  | ia esz x i => exact (s_ia he K hg ho h).wp
  | iaa len esz x i => exact (s_iaa he K hg ho h).wp
  | idx len esz agg x i => exact (s_idx he K hg ho h).wp
  | sidx x i => exact (s_sidx he K hg ho h).wp
  | ext i x => exact (s_ext he K hg ho h).wp
  | len x => exact (s_len he K hg ho h).wp
  | slen x => exact (s_slen he K hg ho h).wp
  | mx x y => exact (s_mx he K hg ho h).wp
  | mn x y => exact (s_mn he K hg ho h).wp
  | app esz b x y => exact (s_app he K hg hid hlt ho h).wp
  | call m f args => exact s_call hcall he K hg hid hlt ho h
end

/-! ### what an operation leaves unfilled -/
def Keep (g g' : G) (id : Nat) : Prop := g.nx ≤ g'.nx ∧ ∀ i, i < g.nx → i ≠ id → g.hp i = none → g'.hp i = none
theorem keep_refl (g : G) (id : Nat) : Keep g g id := ⟨Nat.le_refl _, fun _ _ _ h => h⟩
theorem keep_upd (g : G) (id : Nat) (b : Option Blk) : Keep g ⟨upd g.hp id b, g.nx⟩ id := ⟨Nat.le_refl _, fun i _ hi h => by show upd _ _ _ _ = _; rw [upd, if_neg hi]; exact h⟩
theorem keep_old {g : G} {id j : Nat} {b b' : Blk} (hj : g.hp j = some b) : Keep g ⟨upd g.hp j (some b'), g.nx⟩ id := ⟨Nat.le_refl _, fun i _ hi h => by
  show upd _ _ _ _ = _
  by_cases hij : i = j
  · subst hij; rw [hj] at h; cases h
  · rw [upd, if_neg hij]; exact h⟩
theorem rd_g {g : G} {al : Nat → Bool} {i : Nat} {b : Blk} (h : rd g al i = some b) : g.hp i = some b := by
  unfold rd at h; split at h
  · exact h
  · cases h
theorem keep_map {g : G} {id : Nat} {o : Option AV} {r : AV × G} (h : vMap g o = some r) : Keep g r.2 id := by
  cases o with
  | none => cases h
  | some v => cases h; exact keep_refl _ _
theorem keep_mapL {g : G} {id : Nat} {f} {o : Option (List AV)} {r : AV × G} (h : vMapL f g o = some r) : Keep g r.2 id := by
  cases o with
  | none => cases h
  | some v => cases h; exact keep_refl _ _
def CallKeep (call : CS) : Prop := ∀ f as g v g', call f as g = some (v, g') → g.nx ≤ g'.nx ∧ ∀ i, i < g.nx → g.hp i = none → g'.hp i = none
theorem lock_none {hp : Nat → Option Blk} {ids : List Nat} {i : Nat} (h : hp i = none) : lock hp ids i = none := by
  rcases lock_cases hp ids i with h' | ⟨_, cs, ro, h1, _⟩
  · rw [h']; exact h
  · rw [h] at h1; cases h1
theorem opE_keep {call : CS} (hk : CallKeep call) {al : Nat → Bool} {lo id : Nat} {ao : AOp} {e : Env} {g : G} {r : AV × G} (h : opE call al lo id ao e g = some r) : Keep g r.2 id := by
  have kst : ∀ {al' n x y}, vSt al' n x y g = some r → Keep g r.2 id := by
    intro al' n x y h
    unfold vSt at h
    split at h
    · split at h
      · rename_i hb
        split at h
        · cases h; exact keep_old (rd_g hb)
        · cases h
      · cases h
    · cases h
  cases ao <;> simp only [opE] at h
  case mv => cases h; exact keep_refl _ _
  case pick => unfold vPick at h; split at h <;> first | (cases h; exact keep_refl _ _) | cases h
  case new => cases h; exact keep_upd _ _ _
  case box => unfold vBox at h; split at h <;> first | (cases h; exact keep_upd _ _ _) | cases h
  case boxI => unfold vBoxI at h; split at h <;> first | exact keep_mapL h | cases h
  case build => exact keep_mapL h
  case bsl =>
    unfold vBsl at h
    split at h
    · cases h
    · split at h
      · exact keep_mapL h
      · cases h; exact keep_upd _ _ _
  case ld =>
    unfold vLd at h
    split at h
    · exact keep_map h
    · split at h
      · exact keep_map h
      · cases h
    · cases h
  case st => exact kst h
  case stL => exact kst h
  case nilck => unfold vNil at h; split at h <;> first | (cases h; exact keep_refl _ _) | cases h
  case bin => exact keep_map h
  case eqb => exact keep_map h
  case eqn => exact keep_map h
  case eqa => exact keep_map h
  case un => exact keep_map h
  case conv => unfold vConv at h; split at h <;> first | (cases h; exact keep_refl _ _) | cases h
  case mkfn => cases h; exact keep_refl _ _
  case mkmap => cases h; exact keep_upd _ _ _
  case mput =>
    unfold vMput at h
    split at h
    · split at h
      · rename_i hb
        split at h
        · split at h
          · cases h; exact keep_old (rd_g hb)
          · cases h
        · cases h
      · cases h
    · cases h
  case mget =>
    unfold vMget at h
    split at h
    · split at h
      · exact keep_map h
      · cases h
    · cases h
  case mksl =>
    unfold vMksl at h
    split at h
    · split at h
      · split at h
        · cases h; exact keep_upd _ _ _
        · split at h
          · cases h; exact keep_upd _ _ _
          · cases h
      · cases h
    · cases h
  case slice =>
    unfold vSlice at h
    split at h
    · split at h
      · split at h <;> first | (cases h; exact keep_refl _ _) | cases h
      · split at h <;> first | (cases h; exact keep_refl _ _) | cases h
      · cases h
    · cases h
  case sslice =>
    unfold vSslice at h
    split at h
    · split at h
      · split at h <;> first | (cases h; exact keep_refl _ _) | cases h
      · cases h
    · cases h
  case fa =>
    unfold vFa at h
    split at h
    · split at h <;> first | (cases h; exact keep_refl _ _) | cases h
    · cases h; exact keep_refl _ _
    · cases h
  case fld => unfold vFld at h; split at h <;> first | exact keep_map h | cases h
  case ia =>
    unfold vIa at h
    split at h
    · split at h <;> first | (cases h; exact keep_refl _ _) | cases h
    · split at h <;> first | (cases h; exact keep_refl _ _) | cases h
    · cases h
  case iaa =>
    unfold vIaa at h
    split at h
    · split at h <;> first | (cases h; exact keep_refl _ _) | cases h
    · split at h <;> first | (cases h; exact keep_refl _ _) | cases h
    · cases h
  case idx =>
    unfold vIdx at h
    split at h
    · split at h <;> first | exact keep_map h | cases h
    · cases h
  case sidx =>
    unfold vSidx at h
    split at h
    · split at h <;> first | (cases h; exact keep_refl _ _) | cases h
    · cases h
  case ext => unfold vExt at h; split at h <;> first | exact keep_map h | cases h
  case len => unfold vLen at h; split at h <;> first | (cases h; exact keep_refl _ _) | cases h
  case slen => unfold vSlen at h; split at h <;> first | (cases h; exact keep_refl _ _) | cases h
  case mx => unfold vMx at h; split at h <;> first | (cases h; exact keep_refl _ _) | cases h
  case mn => unfold vMn at h; split at h <;> first | (cases h; exact keep_refl _ _) | cases h
  case app =>
    unfold vApp at h
    split at h
    · split at h
      · cases h
      · split at h
        · split at h
          · cases h
          · split at h
            · cases h; exact keep_refl _ _
            · cases h; exact keep_upd _ _ _
          · split at h
            · rename_i htk
              split at h
              · cases h
                refine ⟨Nat.le_refl _, fun i _ hi hn => ?_⟩
                show upd _ _ _ _ = _
                rw [upd, if_neg hi, upd]
                split
                · rename_i hit; subst hit; rw [rd_g htk] at hn; cases hn
                · exact hn
              · cases h
            · cases h
        · cases h
    · cases h
  case call =>
    rename_i m f args
    unfold vCall at h
    split at h
    · cases m with
      | raw =>
        obtain ⟨h1, h2⟩ := hk _ _ _ r.1 r.2 h
        exact ⟨h1, fun i hi _ hn => h2 i hi hn⟩
      | pure =>
        simp only at h
        split at h
        · cases h
        · split at h
          · cases h
          · split at h
            · cases h
            · split at h <;> first | (cases h; exact keep_refl _ _) | cases h
      | lock =>
        simp only at h
        split at h
        · cases h
        · split at h
          · cases h
          · split at h
            · cases h
            · cases h
              exact ⟨Nat.le_refl _, fun i _ _ hn => lock_none hn⟩
      | thaw =>
        simp only at h
        split at h
        · cases h
        · split at h
          · split at h
            · split at h
              · split at h <;> first | (cases h; exact keep_upd _ _ _) | cases h
              · cases h
            · cases h
          · cases h
    · cases h
end Go.Ab
