/- Calls whose result becomes the caller's own. -/
import Derived.Test.YtfhinaopoffcnaaAbW
set_option linter.unusedVariables false
set_option linter.unusedSimpArgs false
namespace Go.Ab
noncomputable def thawS (F : Funs) (f : Nat) (as : List AV) : Option (List AV) := match callS F f as g0 with
  | some (.mp b 0, g) => match g.hp b with
    | some (.cells cs false) => if cs.all flat then some cs else none
    | _ => none
  | _ => none
noncomputable def vThaw (F : Funs) (al : Nat → Bool) (id : Nat) (f : AV) (args : List AV) (g : G) : Option (AV × G) := vCall (callS F) al id .thaw f args g
theorem o_thaw {F : Funs} {al lo id e g} (f : Opd) (as : List Opd) : opE (callS F) al lo id (.call .thaw f as) e g = vThaw F al id (f.ev e) (as.map (·.ev e)) g := rfl
theorem vis_flat {hp : Nat → Option Blk} {d : Nat} {v : AV} (h : flat v = true) : vis hp (d + 1) v = [] := by cases v <;> first | (cases h; done) | simp only [vis]
def thwE (id : Nat) (g : G) (cs : List AV) (x : Bool) : Option (AV × G) := if x then some (.mp id 0, ⟨upd g.hp id (some (.cells cs false)), g.nx⟩) else none
theorem thwE_true (id g cs) : thwE id g cs true = some (.mp id 0, ⟨upd g.hp id (some (.cells cs false)), g.nx⟩) := rfl
def thwD (id : Nat) (g : G) (vs : List Nat) : Option (List AV) → Option (AV × G)
  | some cs => thwE id g cs vs.isEmpty
  | none => none
theorem thwD_some (id g vs cs) : thwD id g vs (some cs) = thwE id g cs vs.isEmpty := rfl
noncomputable def thwS (F : Funs) (f id : Nat) (g : G) (vs : List Nat) : Option (List AV) → Option (AV × G)
  | some bs => thwD id g vs (thawS F f bs)
  | none => none
theorem thwS_some (F f id g vs bs) : thwS F f id g vs (some bs) = thwD id g vs (thawS F f bs) := rfl
/-- Where it answers, the call is made so. -/
theorem vThaw_ok {F : Funs} {al : Nat → Bool} {id fid : Nat} {fst caps args bs cs : List AV} {g : G} (h1 : frzL (rd g al) depth (fst ++ args ++ caps) = some bs) (h2 : thawS F fid bs = some cs) (h3 : ((fst ++ args ++ caps).flatMap (vis (rd g al) depth)).isEmpty = true) :
    vThaw F al id (.fn fid fst caps) args g = some (.mp id 0, ⟨upd g.hp id (some (.cells cs false)), g.nx⟩) := by
  unfold thawS at h2
  split at h2
  · rename_i b g' hc
    split at h2
    · rename_i cs0 hb
      split at h2
      · rename_i hf
        cases h2
        have hc' : callS F fid bs ⟨fun _ => none, 0⟩ = some (.mp b 0, g') := hc
        have hfz : frzL g'.hp depth cs = some cs := frzL_flat (d := 8) hf
        have hv : cs.flatMap (vis g'.hp depth) = [] := by
          rw [List.flatMap_eq_nil_iff]
          intro v hv
          exact vis_flat (d := 8) (List.all_eq_true.1 hf v hv)
        unfold vThaw vCall
        simp only [h1, hc', hb, hfz, h3, hv]
        simp
      · cases h2
    · cases h2
  · cases h2
def retT (rs : List ARes) (cs : List AV) : Out → Env → G → Prop
  | .ext _, _, _ => False
  | _, e, g => ∃ b, resE rs e g = some (.mp b 0) ∧ g.hp b = some (.cells cs false)
theorem retT_nrm {rs cs e g} : retT rs cs .nrm e g = (∃ b, resE rs e g = some (.mp b 0) ∧ g.hp b = some (.cells cs false)) := rfl
theorem retT_ret {rs cs e g} : retT rs cs .ret e g = (∃ b, resE rs e g = some (.mp b 0) ∧ g.hp b = some (.cells cs false)) := rfl
section
variable {F : Funs}
theorem retT_call {f : Nat} {fn : AFun} {as cs : List AV} (hF : F f = some fn) (h : W F fn.body (argEnv as) g0 (retT fn.res cs)) : ∃ b g, callS F f as g0 = some (.mp b 0, g) ∧ g.hp b = some (.cells cs false) := by
  obtain ⟨o, e, g, h1, h2⟩ := h
  rw [callS_eq, hF]
  simp only [h1]
  cases o with
  | ext n => exact h2.elim
  | nrm =>
    obtain ⟨b, h3, h4⟩ := h2
    exact ⟨b, g, by simp only [h3, Option.map_some], h4⟩
  | ret =>
    obtain ⟨b, h3, h4⟩ := h2
    exact ⟨b, g, by simp only [h3, Option.map_some], h4⟩
theorem thaw_of {f : Nat} {fn : AFun} {as cs : List AV} (hF : F f = some fn) (hf : cs.all flat = true) (h : W F fn.body (argEnv as) g0 (retT fn.res cs)) : thawS F f as = some cs := by
  obtain ⟨b, g, h1, h2⟩ := retT_call hF h
  unfold thawS
  rw [h1]
  simp only [h2, hf, if_true]
theorem pure_of_thaw {f : Nat} {fn : AFun} {as cs : List AV} (hF : F f = some fn) (hf : cs.all flat = true) (h : W F fn.body (argEnv as) g0 (retT fn.res cs)) : pureS F f as = some (.ptr cs) := by
  obtain ⟨b, g, h1, h2⟩ := retT_call hF h
  unfold pureS
  rw [h1]
  exact frz_d_mp h2 (frzL_flat hf)
end
theorem vThaw_S {F : Funs} {al : Nat → Bool} {id fid : Nat} {args : List AV} {g : G} {bs cs : List AV} (h1 : frzL (rd g al) depth args = some bs) (h2 : thawS F fid bs = some cs) (h3 : (args.flatMap (vis (rd g al) depth)) = []) :
    vThaw F al id (.fn fid [] []) args g = some (.mp id 0, ⟨upd g.hp id (some (.cells cs false)), g.nx⟩) :=
  vThaw_ok (by rw [List.nil_append, List.append_nil]; exact h1) h2 (by rw [List.nil_append, List.append_nil, h3]; rfl)
end Go.Ab
