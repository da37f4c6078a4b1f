/- Appends; maps. -/
import Derived.Test.YtfhinaopoffcnaaAbSim7
set_option linter.unusedVariables false
set_option linter.unusedSimpArgs false
namespace Go.Ab
open Go.RowKit
section
variable {P : Program} {o : Oper} {a : Act} {c : Cx} {e : Env} {g : G} {al : Nat → Bool} {id : Nat} {r : AV × G}

theorem Src.drew_ {size : Nat} {tx : TypeId} {x : Value} {n : Nat} {news : List Value} {w : World} (h : Src P size tx x n news w) : True := trivial

theorem s_app (he : EnvOk c e a) (K : Ok c g.nx) (hg : c.hp = g.hp) (hid : c.hp id = none) (hlt : id < g.nx) {esz bytes : Nat} {x y : Opd} (ho : opB P c.num o.op (.app esz bytes x y) = true) (h : vApp al id esz bytes (x.ev e) (y.ev e) g = some r) : Does P o a c r := by
  obtain ⟨dst, op, ty, pos, after, guard⟩ := o
  simp only [opB] at ho
  split at ho
  · rename_i cl
    obtain ⟨callee, args, argTypes⟩ := cl
    simp only [Bool.and_eq_true] at ho
    obtain ⟨⟨h1, h2⟩, h3⟩ := ho
    split at h1
    · obtain ⟨p, q, hargs, ho1, ho2⟩ := opds_two h2
      have := list_two hargs
      subst this
      have r1 := opdB_rep he ho1
      have r2 := opdB_rep he ho2
      split at h3
      · rename_i t u hty
        have := list_two hty
        subst this
        split at h3
        · rename_i el el' hu hu'
          split at h3
          · rename_i i hi
            simp only [Bool.and_eq_true, beq_iff_eq] at h3
            obtain ⟨⟨rfl, rfl⟩, h3⟩ := h3
            split at h3
            · rename_i z hz
              simp only [Bool.and_eq_true, beq_iff_eq, decide_eq_true_eq] at h3
              obtain ⟨hzs, hpos⟩ := h3
              have key : ∀ w : World, (execOp a.eval { dst := dst, op := .call { callee := .builtin .append, args := #[p, q], argTypes := #[t, u] }, type := ty, pos := pos, after := after, guard := guard }).run P w = ((Builtin.append_ #[t, u] ty #[a.eval p, a.eval q]).run P w).andThen fun v w' => .ok (.value v) w' := by
                intro w
                simp [execOp, resolve, invoke, builtin]
              unfold vApp at h
              split at h
              · rename_i cs n tk hx
                rw [hx] at r1
                obtain ⟨ao, cap, ad, vs, hv, hc, hm, hrig, hz', hone, hreps, ha, hk, htok⟩ := rep_sl r1
                split at h
                · cases h
                · rename_i ds m hsrc
                  split at h
                  · rename_i hcond
                    obtain ⟨c1, c2, c3, c4⟩ := hcond
                    obtain ⟨news, S, hnews⟩ := src_of K hg r2 hsrc c4 hpos hu'
                    have hfit : ∀ old, old < n + m → Builtin.nextslicecap (n + m) old * i.bytes ≤ 281474976710656 := fun old ho => growslice_fits ho (by omega)
                    have hold := firstCells_ab (P := P) (c := c) (cap := cap) hz' hreps ha hk c3
                    have hgc := grownCap_le' c.w (n + m) cap el c2
                    have hg3 : cap < n + m → (execOp a.eval { dst := dst, op := .call { callee := .builtin .append, args := #[p, q], argTypes := #[t, u] }, type := ty, pos := pos, after := after, guard := guard }).run P c.w = .ok (.value (.slice (some ⟨c.w.heap.size, 0, none⟩) (n + m) (grownCap c.w (n + m) cap el))) (c.w.drew.alloc (.cells ((vs ++ news).toArray ++ Builtin.zeroCells z.cells (grownCap c.w (n + m) cap el - (n + m))) el)) := by
                      intro hlt'
                      rw [key, hv, run_append_grow_src (P := P) c.w t u ty el i z hu hi hz ao n cap vs hold (a.eval q) m news S hlt' (by omega) (hfit cap hlt')]
                      rfl
                    have hzc : (Builtin.zeroCells z.cells (grownCap c.w (n + m) cap el - (n + m))).size = (grownCap c.w (n + m) cap el - (n + m)) * i.size := by simp [Builtin.zeroCells, hzs]
                    split at h
                    · cases h
                    · -- no room
                      have hcap := hrig rfl
                      split at h
                      · rename_i hm0
                        subst hm0
                        cases h
                        have hn0 : news = [] := by
                          have := hnews.1
                          rw [c4] at this
                          simp at this
                          exact List.length_eq_zero_iff.1 this.symm
                        subst hn0
                        refine Does.quiet K hg (r1.up) ?_
                        rw [key, hv, run_append_nothing (P := P) c.w t u ty el i hu hi ao n cap hc (a.eval q) S]
                        rfl
                      · rename_i hm0
                        cases h
                        have hlt' : cap < n + m := by omega
                        have E := Evo.drew c
                        have := grown_does (P := P) (a := a) (c := c) (g := g) (id := id) (o := { dst := dst, op := .call { callee := .builtin .append, args := #[p, q], argTypes := #[t, u] }, type := ty, pos := pos, after := after, guard := guard }) E K.drew hid hlt (hreps.evo E) (hnews.evo E) hone S.one c3 c4 hgc.1 (by simp only [maxLen]; exact hgc.2) hzc (hg3 hlt')
                        rw [← hg]
                        exact this
                    · rename_i τ e'
                      split at h
                      · rename_i htk
                        split at h
                        · rename_i he'
                          subst he'
                          cases h
                          have htk : c.hp τ = some (.tok true) := by
                            unfold rd at htk; split at htk
                            · rw [hg]; exact htk
                            · cases htk
                          obtain ⟨t1, t2⟩ := htok τ _ rfl
                          obtain ⟨t3, off, t4, t5, us, ty', t6, t7⟩ := t2 htk
                          have hτ : τ ≠ id := fun hh => by rw [hh, hid] at htk; cases htk
                          by_cases hroom : n + m ≤ cap
                          · have hsize : off + n * i.size + news.length ≤ us.size := by
                              rw [← hnews.1, c4, Nat.add_assoc, ← Nat.add_mul]
                              exact Nat.le_trans (Nat.add_le_add_left (Nat.mul_le_mul_right _ hroom) _) t7
                            have hrun := run_append_room_src (P := P) c.w t u ty el i hu hi (c.loc τ).1 off n cap (a.eval q) m news S hroom (fun j hj => by
                              rw [cell_of_heap t6]
                              simp; omega) (fun j hj => by simp [World.frozen?, t6])
                            have E := Evo.onto K (k := m * i.size) (us := news) htk hid
                            rw [← t5] at hrun
                            refine ⟨_, c.onto τ id (m * i.size) news, .slice ao (n + m) cap, ?_, .inl rfl, E, K.onto htk hid hlt, by simp [Cx.onto, hg], ?_⟩
                            · rw [key, hv, t4, hrun]
                              rfl
                            · have hr := (hreps.append hnews).evo E
                              have hlive := live_of htk (by simp)
                              refine .sl ⟨(c.loc τ).1, off, none⟩ (vs ++ news) hroom hm (fun h => by cases h) (fun h => by cases h) (fun _ => by rw [t4]; rfl) (fun v hv => ?_) hr.1 (fun _ => t4) (fun j u hu => ?_) hr.2 (fun τ' e'' ht => ?_)
                              · rcases List.mem_append.1 hv with h | h
                                · exact hone v h
                                · exact S.one v h
                              · by_cases hj : j < vs.length
                                · rw [List.getElem?_append_left hj] at hu
                                  have hne : cs ≠ [] := by
                                    intro h'
                                    subst h'
                                    have := hreps.1
                                    simp at this
                                    omega
                                  have hao := ha hne
                                  rw [t4] at hao
                                  cases hao
                                  have := hk j u hu
                                  exact ⟨(E.imm _ this.1).1, (E.imm _ this.1).2 u this.2⟩
                                · rw [List.getElem?_append_right (by omega)] at hu
                                  have hj2 : j - vs.length < news.length := (List.getElem?_eq_some_iff.1 hu).1
                                  have hvl : vs.length = n * i.size := by rw [← hreps.1, c3]
                                  rw [add_mk]
                                  refine ⟨.inr ⟨(K.toks τ htk).1, ?_, fun hw => ?_⟩, ?_⟩
                                  · show _ < (c.w.setCells _ _ _).heap.size
                                    rw [size_setCells]
                                    exact (Array.getElem?_eq_some_iff.1 t6).1
                                  · have hml : news.length = m * i.size := by rw [← hnews.1, c4]
                                    rcases hw with ⟨k, xs, hi', hb⟩ | ⟨k, hi', hb, hlo⟩
                                    · by_cases hke : k = id
                                      · subst hke; simp [Cx.onto, upd] at hi'
                                      · by_cases hke' : k = τ
                                        · subst hke'; simp [Cx.onto, upd, hke] at hi'
                                        · simp [Cx.onto, upd, hke, hke'] at hi' hb
                                          exact K.inj k τ hke' (live_of hi' (by simp)) hlive hb
                                    · by_cases hke : k = id
                                      · subst hke
                                        simp [Cx.onto, upd] at hlo
                                        omega
                                      · by_cases hke' : k = τ
                                        · subst hke'; simp [Cx.onto, upd, hke] at hi'
                                        · simp [Cx.onto, upd, hke, hke'] at hi' hb
                                          exact K.inj k τ hke' (live_of hi' (by simp)) hlive hb
                                  · show (c.w.setCells (c.loc τ).1 (c.loc τ).2 news).cell? _ = _
                                    have := World.cell?_setCells_in (c.loc τ).1 news (c.loc τ).2 c.w (fun j' hj' => by
                                      rw [cell_of_heap t6]
                                      simp; omega) (j - vs.length) hj2
                                    rw [show off + j = (c.loc τ).2 + (j - vs.length) by omega, this, ← hu, List.getElem?_eq_getElem hj2]
                              · cases ht
                                obtain ⟨vs', k1, k2⟩ := heap_setCells_cells t6 (c.loc τ).2 news
                                have hl : (c.onto τ id (m * i.size) news).loc id = ((c.loc τ).1, (c.loc τ).2 + m * i.size) := by simp [Cx.onto, upd]
                                refine ⟨by simp [Cx.onto, upd], fun _ => ⟨by rw [List.length_append, c3, c4, Nat.add_mul], off, by rw [hl]; exact t4, by rw [hl]; show (c.loc τ).2 + m * i.size = _; rw [t5, Nat.add_assoc, ← Nat.add_mul], vs', ty', by rw [hl]; exact k1, by rw [k2]; exact t7⟩⟩
                          · have hlt' : cap < n + m := by omega
                            have E := (Evo.kill htk).trans (Evo.drew (c.kill τ))
                            have hid' : (c.kill τ).drew.hp id = none := by
                              show upd c.hp τ _ id = none
                              rw [upd, if_neg (fun h => hτ h.symm)]; exact hid
                            have := grown_does (P := P) (a := a) (c := c) (g := g) (id := id) (o := { dst := dst, op := .call { callee := .builtin .append, args := #[p, q], argTypes := #[t, u] }, type := ty, pos := pos, after := after, guard := guard }) E (K.kill htk).drew hid' hlt (hreps.evo E) (hnews.evo E) hone S.one c3 c4 hgc.1 (by simp only [maxLen]; exact hgc.2) hzc (hg3 hlt')
                            rw [← hg]
                            exact this
                        · cases h
                      · cases h
                  · cases h
              · cases h
            · cases h3
          · cases h3
        · cases h3
      · cases h3
    · cases h1
  · cases ho
end
end Go.Ab
