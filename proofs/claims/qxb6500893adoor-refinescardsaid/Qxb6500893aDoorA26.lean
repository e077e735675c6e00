import Derived.Test.Qxb6500893aDoorA25
namespace Go.Proofs.Qxb6500893aDoor
open Go.Sh Go.RowKit
set_option linter.unusedVariables false
set_option linter.unusedSimpArgs false

section
variable {sh : Shp} {A : Ar} {s : Ws} {c : Call} {kk nb : Nat}
theorem allocF_sd (hok : sh.Ok) : ∀ a ∈ (allocF A sh).2.2.sd, a ∈ A.sd ∨ (sh.ctl ≤ a ∧ a < sh.fst) := by
  have hf := fst_ge hok
  have hle := n_le sh.n
  intro a ha
  unfold allocF at ha
  split at ha
  · exact .inl ha
  split at ha
  · dsimp only at ha
    split at ha
    · simp only [put, ld, List.mem_append, List.mem_singleton] at ha
      rcases ha with ha | ha
      · exact .inl ha
      · exact .inr (by omega)
    · exact .inl ha
  split at ha
  · exact .inl ha
  split at ha
  · exact .inl ha
  · rename_i h1 h2 h3 h4
    have hm := mc_in hok (show A.ws (sh.ctl + 1) - 1 < 64 * mapW sh.n by omega)
    dsimp only at ha
    split at ha
    · simp only [put, ld, List.mem_append, List.mem_singleton] at ha
      rcases ha with (((ha | ha) | ha) | ha) | ha
      · exact .inl ha
      all_goals exact .inr (by omega)
    · simp only [put, ld, List.mem_append, List.mem_singleton] at ha
      rcases ha with ((ha | ha) | ha) | ha
      · exact .inl ha
      all_goals exact .inr (by omega)
theorem freeF_sd {x : Nat} (hok : sh.Ok) : ∀ a ∈ (freeF A sh x).2.sd, a ∈ A.sd ∨ (sh.ctl ≤ a ∧ a < sh.fin) := by
  have hf := fst_ge hok
  have hfin := hok.fin
  have hle := n_le sh.n
  intro a ha
  unfold freeF at ha
  split at ha
  · exact .inl ha
  split at ha
  · exact .inl ha
  split at ha
  · exact .inl ha
  split at ha
  · exact .inl ha
  · rename_i h1 h2 h3 h4
    obtain ⟨i1, i2⟩ := idx_lt hok (Decidable.not_not.1 h1)
    have hm := mc_in hok (show idxI sh x < 64 * mapW sh.n by omega)
    have hb := bk_in hok (t := 0) i1 (by have := hok.bw1; omega)
    simp only [put, ld, List.mem_append, List.mem_singleton] at ha
    rcases ha with (((ha | ha) | ha) | ha) | ha
    · exact .inl ha
    · exact .inr (by omega)
    all_goals exact .inr (by omega)
theorem stF_sd : (stF A sh).2.2.sd = A.sd := by
  unfold stF
  split
  · rfl
  · split <;> rfl
theorem real_T2 : (realF kk nb s c).T = (midF kk (s00 s) c).s.T := by
  unfold realF finS
  split
  · split
    · split <;> rfl
    · split <;> rfl
  · rfl
theorem real_sd : (realF kk nb s c).A.sd = [] := by
  unfold realF finS
  split
  · split
    · split <;> rfl
    · split <;> rfl
  · rfl
/-- every store falls inside the region -/
theorem stored_in (ok : s.T.Ok) (h7 : c.kind ≠ 7) (h8 : c.kind ≠ 8) : ∀ a ∈ (midF kk (s00 s) c).s.A.sd, (realF kk nb s c).T.base ≤ a ∧ a < (realF kk nb s c).T.lim := by
  rw [real_T2]
  have hn := ok.n1
  have inside : ∀ {sh : Shp} {a : Nat}, sh ∈ s.T.ps → sh.ctl ≤ a → a < sh.fin → s.T.base ≤ a ∧ a < s.T.lim := by
    intro sh a hsh h1 h2
    have := ok.sh sh hsh
    omega
  intro a
  unfold midF
  split
  · unfold mOpen; split
    · intro ha; cases ha
    · intro ha; cases ha
  split
  · unfold mCreate; split
    · rename_i h0
      have hok := (crC_ok ok h0).1
      intro ha
      obtain ⟨_, _, _, _, _, hsd⟩ := fmt_ok (A := A0 s.A) hok
      rcases hsd a ha with q | q
      · cases q
      · have h1 : (crSh s.T c.a.toNat c.b.toNat).fin ≤ s.T.lim := by
          have := (crC_ok ok h0).2.n1
          exact this
        have h2 : s.T.next ≤ a := q.1
        have h3 := ok.n0
        have h4 := q.2
        show s.T.base ≤ a ∧ a < s.T.lim
        omega
    · intro ha; cases ha
  split
  · unfold mAlloc
    split
    · rename_i sh hsh
      intro ha
      have hm : sh ∈ s.T.ps := by
        have hsh : pl s.T c.pool = some sh := hsh
        unfold pl at hsh
        split at hsh
        · exact List.mem_of_getElem? hsh
        · cases hsh
      rcases allocF_sd (ok.sh _ hm).1 a ha with q | q
      · cases q
      · have := (ok.sh _ hm).1.fin
        exact inside hm q.1 (by omega)
    · intro ha; cases ha
  split
  · unfold mFree
    split
    · rename_i sh hsh
      intro ha
      have hm : sh ∈ s.T.ps := by
        have hsh : pl s.T c.pool = some sh := hsh
        unfold pl at hsh
        split at hsh
        · exact List.mem_of_getElem? hsh
        · cases hsh
      rcases freeF_sd (ok.sh _ hm).1 a ha with q | q
      · cases q
      · exact inside hm q.1 q.2
    · intro ha; cases ha
  split
  · unfold mRel
    split
    · rename_i sh hsh
      intro ha
      have hm : sh ∈ s.T.ps := by
        have hsh : (ownI s.T c.at_).bind (fun i => s.T.ps[i]?) = some sh := hsh
        cases h : ownI s.T c.at_ with
        | none => rw [h] at hsh; cases hsh
        | some i => rw [h] at hsh; exact List.mem_of_getElem? hsh
      rcases freeF_sd (ok.sh _ hm).1 a ha with q | q
      · cases q
      · exact inside hm q.1 q.2
    · intro ha; cases ha
  split
  · unfold mOwn; split <;> (intro ha; cases ha)
  split
  · unfold mStats
    split
    · intro ha
      have ha : a ∈ (stF (A0 s.A) _).2.2.sd := ha
      rw [stF_sd] at ha; cases ha
    · intro ha; cases ha
  · intro ha; cases ha
end
section
variable {W w w' : World} {K : Value → World → Prop} {s : Ws} {m : Wm} {C : Prop} {F : Nat → List Nat}
theorem LSt.audit (h : LSt W w m s) (hC : C → ∀ i (hi : i < s.T.ps.length), PoolOk s.A.ws s.T.ps[i] (F i)) (hK : ∀ w' k code, LSt W w' m (tkS s k) → Kp (OwnA m.ab m.M) w w' → (C → code = 0) → K (I code) w') : cl Tryd.prog 24 #[P m.tb 0] K w := by
  refine auditAll_ok (C := C) (F := F) h.wd.arn h.wd.tbl h.wd.ok hC fun w1 k code a1 st1 hc => ?_
  exact hK w1 k code (h.st (h.wd.setA a1 st1) ((StW.refl w m s.L).setA st1)) st1.kp hc
theorem LSt.take (h : LSt W w m s) (hK : ∀ w' m', LSt W w' m' { s with A := A0 s.A } → m'.wdb = m.wdb → m'.md = m.md → Sl u1 1 w' 31 m.M.sob m.M.sv s.A.sd → Kp (fun b => b = m.ab) w w' → K m.M.sv w') : cl Tryd.prog 25 #[P m.ab 0] K w := by
  refine take_ok h.wd.arn fun w1 a1 sl1 hk1 => ?_
  have sA : StA w w1 m.ab m.M { m.M with sv := nilS, sob := none } := ⟨hk1.mono (fun b _ q => .inl q), rfl, fun b hb => by cases hb⟩
  exact hK w1 _ (h.st (h.wd.setA a1 sA) ((StW.refl w m s.L).setA sA)) rfl rfl sl1 hk1
end
end Go.Proofs.Qxb6500893aDoor
