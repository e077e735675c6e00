import Derived.Test.Qxb6500893aDoorA18
namespace Go.Proofs.Qxb6500893aDoor
open Go.Sh Go.RowKit
set_option linter.unusedVariables false
set_option linter.unusedSimpArgs false

section
variable {s : Ws} {F : Nat → List Nat} {c : Call} {kk nb : Nat}
def FailLe (N : Nat) (s : Ws) : Prop := ∀ sh ∈ s.T.ps, s.A.ws (sh.ctl + 4) ≤ N
theorem finS_ne {code : Int} {at_ : Nat} (h : code ≠ 0 ∨ (c.kind ≠ 2 ∧ c.kind ≠ 3 ∧ c.kind ≠ 4)) : finS nb s code at_ c = { s with A := A0 s.A } := by
  unfold finS
  rcases h with h | ⟨h2, h3, h4⟩
  · rw [if_neg h]
  · by_cases h0 : code = 0
    · rw [if_pos h0, if_neg h2, if_neg (by omega)]
    · rw [if_neg h0]
theorem step0 (k0 : c.kind = 0) : (openC (m32 c.a) (m32 c.b) ≠ 0 ∧ midF kk (s00 s) c = ⟨openC (m32 c.a) (m32 c.b), -1, 0, q0, s00 s⟩ ∧ realF kk nb s c = s00 s) ∨
    (openC (m32 c.a) (m32 c.b) = 0 ∧ midF kk (s00 s) c = ⟨0, -1, 0, q0, ⟨A0 s.A, openT (m32 c.a) (m32 c.b), []⟩⟩ ∧ realF kk nb s c = ⟨A0 s.A, openT (m32 c.a) (m32 c.b), []⟩) := by
  have e : midF kk (s00 s) c = mOpen (s00 s) c := by unfold midF; rw [if_pos k0]
  unfold realF
  rw [e, finS_ne (.inr (by omega))]
  unfold mOpen
  by_cases h : openC (m32 c.a) (m32 c.b) = 0
  · rw [if_pos h]; exact .inr ⟨h, rfl, rfl⟩
  · rw [if_neg h]; exact .inl ⟨h, rfl, rfl⟩
theorem crC_ok {T : Tb} {bw n : Int} (ok : T.Ok) (h : crC T bw n = 0) : (crSh T bw.toNat n.toNat).Ok ∧ (crT T (crSh T bw.toNat n.toNat)).Ok := by
  unfold crC at h
  by_cases h1 : bw < 1 ∨ 4096 < bw ∨ n < 1 ∨ 65536 < n
  · rw [if_pos h1] at h; cases h
  · rw [if_neg h1] at h
    by_cases h2 : 8 ≤ T.ps.length
    · rw [if_pos h2] at h; cases h
    · rw [if_neg h2] at h
      by_cases h3 : T.lim - T.next < 5 + mapW n.toNat + n.toNat * bw.toNat
      · rw [if_pos h3] at h; cases h
      · exact ⟨crSh_ok ok (by omega) (by omega) (by omega) (by omega) (by omega), crT_ok ok (by omega) (by omega) (by omega) (by omega) (by omega) (by omega)⟩
theorem step1 (ok : s.T.Ok) (k1 : c.kind = 1) : (crC s.T c.a c.b ≠ 0 ∧ midF kk (s00 s) c = ⟨crC s.T c.a c.b, -1, 0, q0, s00 s⟩ ∧ realF kk nb s c = s00 s) ∨
    (crC s.T c.a c.b = 0 ∧ (crSh s.T c.a.toNat c.b.toNat).Ok ∧ midF kk (s00 s) c = ⟨0, (s.T.ps.length : Int), 0, q0, ⟨fmtF (A0 s.A) (crSh s.T c.a.toNat c.b.toNat), crT s.T (crSh s.T c.a.toNat c.b.toNat), s.L⟩⟩ ∧
      realF kk nb s c = ⟨A0 (fmtF (A0 s.A) (crSh s.T c.a.toNat c.b.toNat)), crT s.T (crSh s.T c.a.toNat c.b.toNat), s.L⟩) := by
  have e : midF kk (s00 s) c = mCreate (s00 s) c := by unfold midF; rw [if_neg (by omega), if_pos k1]
  unfold realF
  rw [e, finS_ne (.inr (by omega))]
  unfold mCreate
  have eT : (s00 s).T = s.T := rfl
  rw [eT]
  by_cases h : crC s.T c.a c.b = 0
  · rw [if_pos h]; exact .inr ⟨h, (crC_ok ok h).1, rfl, rfl⟩
  · rw [if_neg h]; exact .inl ⟨h, rfl, rfl⟩
theorem step2 (ok : s.T.Ok) (k2 : c.kind = 2) (h : PInv s.A.ws s.T s.L F) (hf : FailLe 18446744073709551614 s) :
    (¬ (0 ≤ c.pool ∧ c.pool < s.T.ps.length) ∧ midF kk (s00 s) c = ⟨6, -1, 0, q0, s00 s⟩ ∧ realF kk nb s c = s00 s) ∨
    (∃ i, ∃ hi : i < s.T.ps.length, c.pool = (i : Int) ∧ F i = [] ∧ ∃ A', A'.ws = upd s.A.ws (s.T.ps[i].ctl + 4) (s.A.ws (s.T.ps[i].ctl + 4) + 1) ∧ A'.sd = [s.T.ps[i].ctl + 4] ∧ midF kk (s00 s) c = ⟨7, -1, 0, q0, { s with A := A' }⟩ ∧ realF kk nb s c = { s with A := A0 A' }) ∨
    (∃ i, ∃ hi : i < s.T.ps.length, ∃ j F', c.pool = (i : Int) ∧ F i = j :: F' ∧ midF kk (s00 s) c = ⟨0, -1, s.T.ps[i].bk j, q0, { s with A := (allocF (A0 s.A) s.T.ps[i]).2.2 }⟩ ∧
      realF kk nb s c = ⟨tk (A0 (allocF (A0 s.A) s.T.ps[i]).2.2) s.T.ps[i].bw, s.T, s.L ++ [⟨(i : Int), s.T.ps[i].bk j, nb, cutW (allocF (A0 s.A) s.T.ps[i]).2.2.ws (s.T.ps[i].bk j) s.T.ps[i].bw⟩]⟩) := by
  have e : midF kk (s00 s) c = mAlloc (s00 s) c := by unfold midF; rw [if_neg (by omega), if_neg (by omega), if_pos k2]
  unfold realF
  rw [e]
  unfold mAlloc
  have eT : (s00 s).T = s.T := rfl
  rw [eT]
  by_cases hp : 0 ≤ c.pool ∧ c.pool < s.T.ps.length
  · obtain ⟨i, hi⟩ : ∃ i : Nat, c.pool = (i : Int) := ⟨c.pool.toNat, by omega⟩
    have hil : i < s.T.ps.length := by omega
    rw [hi, pl_some hil]
    have hP := h.pool i hil
    cases hF : F i with
    | nil =>
      rw [hF] at hP
      have hx := (PoolOk.exh (A := A0 s.A) hP (by have := hf _ (List.getElem_mem hil); show s.A.ws _ ≠ _; omega))
      refine .inr (.inl ⟨i, hil, rfl, hF, put (ld (ld (ld (ld (A0 s.A))))) (s.T.ps[i].ctl + 4) (s.A.ws (s.T.ps[i].ctl + 4) + 1), rfl, rfl, ?_, ?_⟩)
      · show (⟨(allocF (A0 s.A) s.T.ps[i]).2.1, -1, (allocF (A0 s.A) s.T.ps[i]).1, q0, { s00 s with A := (allocF (A0 s.A) s.T.ps[i]).2.2 }⟩ : Mid) = _
        rw [hx]; rfl
      · show finS nb { s00 s with A := (allocF (A0 s.A) s.T.ps[i]).2.2 } (allocF (A0 s.A) s.T.ps[i]).2.1 (allocF (A0 s.A) s.T.ps[i]).1 c = _
        rw [hx]
        rw [finS_ne (.inl (show (7 : Int) ≠ 0 by decide))]; rfl
    | cons j F' =>
      rw [hF] at hP
      have hx := PoolOk.alloc (A := A0 s.A) (ok.sh _ (List.getElem_mem hil)).1 hP
      refine .inr (.inr ⟨i, hil, j, F', rfl, hF, ?_, ?_⟩)
      · show (⟨(allocF (A0 s.A) s.T.ps[i]).2.1, -1, (allocF (A0 s.A) s.T.ps[i]).1, q0, { s00 s with A := (allocF (A0 s.A) s.T.ps[i]).2.2 }⟩ : Mid) = _
        rw [hx.1, hx.2.1]; rfl
      · show finS nb { s00 s with A := (allocF (A0 s.A) s.T.ps[i]).2.2 } (allocF (A0 s.A) s.T.ps[i]).2.1 (allocF (A0 s.A) s.T.ps[i]).1 c = _
        rw [hx.1, hx.2.1]
        unfold finS
        rw [if_pos rfl, if_pos k2]
        show (match pl s.T c.pool with
          | some sh => _
          | none => _) = _
        rw [hi, pl_some hil]; rfl
  · rw [pl_none hp]
    exact .inl ⟨hp, rfl, by show finS nb (s00 s) 6 0 c = _; rw [finS_ne (.inl (by decide))]; rfl⟩
/-- what a refused free answers -/
def frC (sh : Shp) (a : Nat) : Int := if idxC sh a ≠ 0 then idxC sh a else 10
theorem frC_ne (sh : Shp) (a : Nat) : frC sh a ≠ 0 ∧ frC sh a ≠ 7 := by
  unfold frC idxC
  repeat (first | decide | split) 
theorem step3 (ok : s.T.Ok) (k3 : c.kind = 3) (h : PInv s.A.ws s.T s.L F) :
    (¬ (0 ≤ c.pool ∧ c.pool < s.T.ps.length) ∧ midF kk (s00 s) c = ⟨6, -1, 0, q0, s00 s⟩ ∧ realF kk nb s c = s00 s) ∨
    (∃ i, ∃ hi : i < s.T.ps.length, c.pool = (i : Int) ∧ (∀ j, j < s.T.ps[i].n → c.at_ = s.T.ps[i].bk j → j ∈ F i) ∧ ∃ A', A'.ws = s.A.ws ∧ A'.sd = [] ∧ midF kk (s00 s) c = ⟨frC s.T.ps[i] c.at_, -1, 0, q0, { s with A := A' }⟩ ∧ realF kk nb s c = { s with A := A0 A' }) ∨
    (∃ i, ∃ hi : i < s.T.ps.length, ∃ j, ∃ A1 : Ar, c.pool = (i : Int) ∧ j < s.T.ps[i].n ∧ j ∉ F i ∧ c.at_ = s.T.ps[i].bk j ∧ A1.ws = s.A.ws ∧ A1.sd = [] ∧ midF kk (s00 s) c = ⟨0, -1, 0, q0, { s with A := (freeF A1 s.T.ps[i] (s.T.ps[i].bk j)).2 }⟩ ∧
      realF kk nb s c = ⟨A0 (freeF A1 s.T.ps[i] (s.T.ps[i].bk j)).2, s.T, forgetL s.L (s.T.ps[i].bk j)⟩) := by
  have e : midF kk (s00 s) c = mFree (s00 s) c := by unfold midF; rw [if_neg (by omega), if_neg (by omega), if_neg (by omega), if_pos k3]
  unfold realF
  rw [e]
  unfold mFree
  have eT : (s00 s).T = s.T := rfl
  rw [eT]
  by_cases hp : 0 ≤ c.pool ∧ c.pool < s.T.ps.length
  · obtain ⟨i, hi⟩ : ∃ i : Nat, c.pool = (i : Int) := ⟨c.pool.toNat, by omega⟩
    have hil : i < s.T.ps.length := by omega
    rw [hi, pl_some hil]
    have hok := (ok.sh _ (List.getElem_mem hil)).1
    have hP : PoolOk (A0 s.A).ws s.T.ps[i] (F i) := h.pool i hil
    by_cases hx : ∃ j, j < s.T.ps[i].n ∧ c.at_ = s.T.ps[i].bk j ∧ j ∉ F i
    · obtain ⟨j, j1, j2, j3⟩ := hx
      have hy := (hP.free hok j1 j3).1
      refine .inr (.inr ⟨i, hil, j, A0 s.A, rfl, j1, j3, j2, rfl, rfl, ?_, ?_⟩)
      · show (⟨(freeF (A0 s.A) s.T.ps[i] c.at_).1, -1, 0, q0, { s00 s with A := (freeF (A0 s.A) s.T.ps[i] c.at_).2 }⟩ : Mid) = _
        rw [j2, hy]; rfl
      · show finS nb { s00 s with A := (freeF (A0 s.A) s.T.ps[i] c.at_).2 } (freeF (A0 s.A) s.T.ps[i] c.at_).1 0 c = _
        rw [j2, hy]
        unfold finS
        rw [if_pos rfl, if_neg (by omega), if_pos (.inl k3), j2]; rfl
    · have hno : ∀ j, j < s.T.ps[i].n → c.at_ = s.T.ps[i].bk j → j ∈ F i := fun j j1 j2 => Decidable.not_not.1 (fun q => hx ⟨j, j1, j2, q⟩)
      have hy := hP.freeNo hok hno
      refine .inr (.inl ⟨i, hil, rfl, hno, (freeF (A0 s.A) s.T.ps[i] c.at_).2, hy.2.1, hy.2.2, ?_, ?_⟩)
      · show (⟨(freeF (A0 s.A) s.T.ps[i] c.at_).1, -1, 0, q0, { s00 s with A := (freeF (A0 s.A) s.T.ps[i] c.at_).2 }⟩ : Mid) = _
        rw [hy.1]; rfl
      · show finS nb { s00 s with A := (freeF (A0 s.A) s.T.ps[i] c.at_).2 } (freeF (A0 s.A) s.T.ps[i] c.at_).1 0 c = _
        have ef := hy.1
        rw [show (if idxC s.T.ps[i] c.at_ ≠ 0 then idxC s.T.ps[i] c.at_ else 10) = frC s.T.ps[i] c.at_ from rfl] at ef
        rw [ef, finS_ne (.inl (frC_ne _ _).1)]; rfl
  · rw [pl_none hp]
    exact .inl ⟨hp, rfl, by show finS nb (s00 s) 6 0 c = _; rw [finS_ne (.inl (by decide))]; rfl⟩
theorem step4 (ok : s.T.Ok) (k4 : c.kind = 4) (h : PInv s.A.ws s.T s.L F) :
    ((∀ sh ∈ s.T.ps, ¬ inP sh c.at_) ∧ midF kk (s00 s) c = ⟨8, -1, 0, q0, { s with A := tk (A0 s.A) kk }⟩ ∧ realF kk nb s c = { s with A := A0 (tk (A0 s.A) kk) }) ∨
    (∃ i, ∃ hi : i < s.T.ps.length, inP s.T.ps[i] c.at_ ∧ (∀ j, j < s.T.ps[i].n → c.at_ = s.T.ps[i].bk j → j ∈ F i) ∧ ∃ A', A'.ws = s.A.ws ∧ A'.sd = [] ∧ midF kk (s00 s) c = ⟨frC s.T.ps[i] c.at_, -1, 0, q0, { s with A := A' }⟩ ∧ realF kk nb s c = { s with A := A0 A' }) ∨
    (∃ i, ∃ hi : i < s.T.ps.length, ∃ j, ∃ A1 : Ar, inP s.T.ps[i] c.at_ ∧ j < s.T.ps[i].n ∧ j ∉ F i ∧ c.at_ = s.T.ps[i].bk j ∧ A1.ws = s.A.ws ∧ A1.sd = [] ∧ midF kk (s00 s) c = ⟨0, -1, 0, q0, { s with A := (freeF A1 s.T.ps[i] (s.T.ps[i].bk j)).2 }⟩ ∧
      realF kk nb s c = ⟨A0 (freeF A1 s.T.ps[i] (s.T.ps[i].bk j)).2, s.T, forgetL s.L (s.T.ps[i].bk j)⟩) := by
  have e : midF kk (s00 s) c = mRel kk (s00 s) c := by unfold midF; rw [if_neg (by omega), if_neg (by omega), if_neg (by omega), if_neg (by omega), if_pos k4]
  unfold realF
  rw [e]
  unfold mRel
  have eT : (s00 s).T = s.T := rfl
  rw [eT]
  by_cases hp : ∃ i, ∃ hi : i < s.T.ps.length, inP s.T.ps[i] c.at_
  · obtain ⟨i, hil, hin⟩ := hp
    rw [ownI_some ok hil hin]
    simp only [Option.bind_some, List.getElem?_eq_getElem hil]
    have hok := (ok.sh _ (List.getElem_mem hil)).1
    have hP : PoolOk (tk (A0 s.A) kk).ws s.T.ps[i] (F i) := h.pool i hil
    by_cases hx : ∃ j, j < s.T.ps[i].n ∧ c.at_ = s.T.ps[i].bk j ∧ j ∉ F i
    · obtain ⟨j, j1, j2, j3⟩ := hx
      have hy := (hP.free hok j1 j3).1
      refine .inr (.inr ⟨i, hil, j, tk (A0 s.A) kk, hin, j1, j3, j2, rfl, rfl, ?_, ?_⟩)
      · show (⟨(freeF (tk (A0 s.A) kk) s.T.ps[i] c.at_).1, -1, 0, q0, { s00 s with A := (freeF (tk (A0 s.A) kk) s.T.ps[i] c.at_).2 }⟩ : Mid) = _
        rw [j2, hy]; rfl
      · show finS nb { s00 s with A := (freeF (tk (A0 s.A) kk) s.T.ps[i] c.at_).2 } (freeF (tk (A0 s.A) kk) s.T.ps[i] c.at_).1 0 c = _
        rw [j2, hy]
        unfold finS
        rw [if_pos rfl, if_neg (by omega), if_pos (.inr k4), j2]; rfl
    · have hno : ∀ j, j < s.T.ps[i].n → c.at_ = s.T.ps[i].bk j → j ∈ F i := fun j j1 j2 => Decidable.not_not.1 (fun q => hx ⟨j, j1, j2, q⟩)
      have hy := hP.freeNo hok hno
      refine .inr (.inl ⟨i, hil, hin, hno, (freeF (tk (A0 s.A) kk) s.T.ps[i] c.at_).2, hy.2.1, hy.2.2, ?_, ?_⟩)
      · show (⟨(freeF (tk (A0 s.A) kk) s.T.ps[i] c.at_).1, -1, 0, q0, { s00 s with A := (freeF (tk (A0 s.A) kk) s.T.ps[i] c.at_).2 }⟩ : Mid) = _
        rw [hy.1]; rfl
      · show finS nb { s00 s with A := (freeF (tk (A0 s.A) kk) s.T.ps[i] c.at_).2 } (freeF (tk (A0 s.A) kk) s.T.ps[i] c.at_).1 0 c = _
        have ef := hy.1
        rw [show (if idxC s.T.ps[i] c.at_ ≠ 0 then idxC s.T.ps[i] c.at_ else 10) = frC s.T.ps[i] c.at_ from rfl] at ef
        rw [ef, finS_ne (.inl (frC_ne _ _).1)]; rfl
  · have hno : ∀ sh ∈ s.T.ps, ¬ inP sh c.at_ := fun sh hsh q => by
      obtain ⟨k, hk, rfl⟩ := List.getElem_of_mem hsh
      exact hp ⟨k, hk, q⟩
    rw [ownI_none hno]
    exact .inl ⟨hno, rfl, by show finS nb { s00 s with A := tk (A0 s.A) kk } 8 0 c = _; rw [finS_ne (.inl (by decide))]; rfl⟩
theorem step5 (ok : s.T.Ok) (k5 : c.kind = 5) :
    ((∀ sh ∈ s.T.ps, ¬ inP sh c.at_) ∧ midF kk (s00 s) c = ⟨8, -1, 0, q0, { s with A := tk (A0 s.A) kk }⟩ ∧ realF kk nb s c = { s with A := A0 (tk (A0 s.A) kk) }) ∨
    (∃ i, ∃ hi : i < s.T.ps.length, inP s.T.ps[i] c.at_ ∧ midF kk (s00 s) c = ⟨0, (i : Int), 0, q0, { s with A := tk (A0 s.A) kk }⟩ ∧ realF kk nb s c = { s with A := A0 (tk (A0 s.A) kk) }) := by
  have e : midF kk (s00 s) c = mOwn kk (s00 s) c := by unfold midF; rw [if_neg (by omega), if_neg (by omega), if_neg (by omega), if_neg (by omega), if_neg (by omega), if_pos k5]
  unfold realF
  rw [e, finS_ne (.inr (by omega))]
  unfold mOwn
  have eT : (s00 s).T = s.T := rfl
  rw [eT]
  by_cases hp : ∃ i, ∃ hi : i < s.T.ps.length, inP s.T.ps[i] c.at_
  · obtain ⟨i, hil, hin⟩ := hp
    rw [ownI_some ok hil hin]
    exact .inr ⟨i, hil, hin, rfl, rfl⟩
  · have hno : ∀ sh ∈ s.T.ps, ¬ inP sh c.at_ := fun sh hsh q => by
      obtain ⟨k, hk, rfl⟩ := List.getElem_of_mem hsh
      exact hp ⟨k, hk, q⟩
    rw [ownI_none hno]
    exact .inl ⟨hno, rfl, rfl⟩
theorem step6 (k6 : c.kind = 6) (h : PInv s.A.ws s.T s.L F) :
    (¬ (0 ≤ c.pool ∧ c.pool < s.T.ps.length) ∧ midF kk (s00 s) c = ⟨6, -1, 0, q0, s00 s⟩ ∧ realF kk nb s c = s00 s) ∨
    (∃ i, ∃ hi : i < s.T.ps.length, c.pool = (i : Int) ∧ ∃ A', A'.ws = s.A.ws ∧ A'.sd = [] ∧ midF kk (s00 s) c = ⟨0, -1, 0, (s.A.ws (s.T.ps[i].ctl + 2), s.T.ps[i].n - s.A.ws (s.T.ps[i].ctl + 2), s.A.ws (s.T.ps[i].ctl + 3), s.A.ws (s.T.ps[i].ctl + 4)), { s with A := A' }⟩ ∧ realF kk nb s c = { s with A := A0 A' }) := by
  have e : midF kk (s00 s) c = mStats (s00 s) c := by unfold midF; rw [if_neg (by omega), if_neg (by omega), if_neg (by omega), if_neg (by omega), if_neg (by omega), if_neg (by omega), if_pos k6]
  unfold realF
  rw [e, finS_ne (.inr (by omega))]
  unfold mStats
  have eT : (s00 s).T = s.T := rfl
  rw [eT]
  by_cases hp : 0 ≤ c.pool ∧ c.pool < s.T.ps.length
  · obtain ⟨i, hi⟩ : ∃ i : Nat, c.pool = (i : Int) := ⟨c.pool.toNat, by omega⟩
    have hil : i < s.T.ps.length := by omega
    rw [hi, pl_some hil]
    have hP := h.pool i hil
    have p1 := hP.pk1
    have p2 := hP.pk2
    have ex : stF (s00 s).A s.T.ps[i] = ((s.A.ws (s.T.ps[i].ctl + 2), s.T.ps[i].n - s.A.ws (s.T.ps[i].ctl + 2), s.A.ws (s.T.ps[i].ctl + 3), s.A.ws (s.T.ps[i].ctl + 4)), 0, ld (ld (ld (ld (A0 s.A))))) := by
      unfold stF
      have ew : (s00 s).A.ws = s.A.ws := rfl
      rw [ew, if_neg (by rw [hP.sl]; exact fun q => q rfl), if_neg (by omega)]; rfl
    refine .inr ⟨i, hil, rfl, ld (ld (ld (ld (A0 s.A)))), rfl, rfl, ?_, ?_⟩
    · show (⟨(stF (s00 s).A s.T.ps[i]).2.1, -1, 0, (stF (s00 s).A s.T.ps[i]).1, { s00 s with A := (stF (s00 s).A s.T.ps[i]).2.2 }⟩ : Mid) = _
      rw [ex]; rfl
    · show ({ s00 s with A := A0 (stF (s00 s).A s.T.ps[i]).2.2 } : Ws) = _
      rw [ex]; rfl
  · rw [pl_none hp]
    exact .inl ⟨hp, rfl, rfl⟩
theorem step7 (k7 : c.kind = 7) (hc : CallOk s c) :
    (¬ 0 ≤ c.pick ∧ midF kk (s00 s) c = ⟨0, -1, 0, q0, s00 s⟩ ∧ realF kk nb s c = s00 s) ∨
    (∃ p, ∃ hp : p < s.L.length, ∃ t, t < s.L[p].ws.length ∧ ∃ A', A'.ws = upd s.A.ws (s.L[p].at_ + t) (m64 c.a) ∧ A'.sd = [s.L[p].at_ + t] ∧
      midF kk (s00 s) c = ⟨0, -1, 0, q0, ⟨A', s.T, s.L.set p { s.L[p] with ws := s.L[p].ws.set t (m64 c.a) }⟩⟩ ∧ realF kk nb s c = ⟨A0 A', s.T, s.L.set p { s.L[p] with ws := s.L[p].ws.set t (m64 c.a) }⟩) := by
  have e : midF kk (s00 s) c = mPoke (s00 s) c := by unfold midF; rw [if_neg (by omega), if_neg (by omega), if_neg (by omega), if_neg (by omega), if_neg (by omega), if_neg (by omega), if_neg (by omega), if_pos k7]
  unfold realF
  rw [e, finS_ne (.inr (by omega))]
  unfold mPoke
  by_cases hp : 0 ≤ c.pick
  · obtain ⟨i, hi, ei, hb0, hb1, hat⟩ := hc.poke k7 hp
    have eL : (s00 s).L = s.L := rfl
    rw [if_pos hp, ei, Int.toNat_natCast, eL, List.getElem?_eq_getElem hi]
    refine .inr ⟨i, hi, c.b.toNat, by omega, put (A0 s.A) (s.L[i].at_ + c.b.toNat) (m64 c.a), rfl, rfl, rfl, rfl⟩
  · rw [if_neg hp]
    exact .inl ⟨hp, rfl, rfl⟩
theorem step9 (k9 : 9 ≤ c.kind) : midF kk (s00 s) c = ⟨12, -1, 0, q0, s00 s⟩ ∧ realF kk nb s c = s00 s := by
  have e : midF kk (s00 s) c = ⟨12, -1, 0, q0, s00 s⟩ := by unfold midF; rw [if_neg (by omega), if_neg (by omega), if_neg (by omega), if_neg (by omega), if_neg (by omega), if_neg (by omega), if_neg (by omega), if_neg (by omega), if_neg (by omega)]
  unfold realF
  rw [e, finS_ne (.inr (by omega))]
  exact ⟨rfl, rfl⟩
theorem PInv.exh {ws : Nat → Nat} {T : Tb} {L : List Lb} {i v : Nat} (ok : T.Ok) (h : PInv ws T L F) (hi : i < T.ps.length) : PInv (upd ws (T.ps[i].ctl + 4) v) T L F := by
  have hok := (ok.sh _ (List.getElem_mem hi)).1
  have hfst := fst_ge hok
  have hfin := hok.fin
  have hbm := hok.bm
  have hP := h.pool i hi
  have hout : ∀ a, (a < T.ps[i].ctl ∨ T.ps[i].fin ≤ a) → upd ws (T.ps[i].ctl + 4) v a = ws a := fun a ha => updO (by omega)
  have hp' : PoolOk (upd ws (T.ps[i].ctl + 4) v) T.ps[i] (F i) := by
    refine ⟨by rw [updO (by omega)]; exact hP.sl, hP.nd, hP.lt, ?_, fun j hj => ?_, by rw [updO (by omega)]; exact hP.used, by rw [updO (by omega), updO (by omega)]; exact hP.pk1, by rw [updO (by omega)]; exact hP.pk2⟩
    · rw [updO (by omega)]
      refine hP.chain.frame (fun j _ => updO ?_)
      have : T.ps[i].fst ≤ T.ps[i].bk j := bk_ge
      omega
    · have := mc_in hok hj
      rw [updO (by omega)]; exact hP.bits j hj
  refine ⟨fun k hk => ?_, fun x hx => ?_, h.all, h.nd, ?_⟩
  · have := h.one ok hi hp' hout k hk
    by_cases e : k = i
    · subst e; exact hp'
    · rw [updO e] at this; exact this
  · obtain ⟨k, hk, l, x1, x2, x3, x4, x5⟩ := h.live x hx
    refine ⟨k, hk, l, x1, x2, x3, x4, ?_⟩
    rw [x5, x4]
    refine (cutW_eq fun t ht => updO ?_).symm
    have o2 := (ok.sh _ (List.getElem_mem hk)).1
    have b2 := bk_in o2 x2 ht
    have := fst_ge o2
    by_cases e : i = k
    · subst e; omega
    · have := apart ok hi hk e; omega
  · have hs := used_one (ws := ws) (ws' := upd ws (T.ps[i].ctl + 4) v) ok hi hout
    rw [show upd ws (T.ps[i].ctl + 4) v (T.ps[i].ctl + 2) = ws (T.ps[i].ctl + 2) from updO (by omega)] at hs
    have := h.sum
    omega
/-- a step keeps the invariant -/
theorem real_inv (ok : s.T.Ok) (hc : CallOk s c) (h8 : c.kind ≠ 8) (h : PInv s.A.ws s.T s.L F) (hf : FailLe 18446744073709551614 s) : ∃ F', PInv (realF kk nb s c).A.ws (realF kk nb s c).T (realF kk nb s c).L F' := by
  have hk : c.kind = 0 ∨ c.kind = 1 ∨ c.kind = 2 ∨ c.kind = 3 ∨ c.kind = 4 ∨ c.kind = 5 ∨ c.kind = 6 ∨ c.kind = 7 ∨ 9 ≤ c.kind := by omega
  rcases hk with k | k | k | k | k | k | k | k | k
  · rcases step0 (s := s) (kk := kk) (nb := nb) k with ⟨_, _, e⟩ | ⟨_, _, e⟩
    · rw [e]; exact ⟨F, h⟩
    · rw [e]; exact ⟨_, PInv.open _ _ _⟩
  · rcases step1 (s := s) (kk := kk) (nb := nb) ok k with ⟨_, _, e⟩ | ⟨h0, hok, _, e⟩
    · rw [e]; exact ⟨F, h⟩
    · rw [e]; exact ⟨_, h.create ok hok (A := A0 s.A) rfl⟩
  · rcases step2 (s := s) (kk := kk) (nb := nb) ok k h hf with ⟨_, _, e⟩ | ⟨i, hi, _, hF, A', ew, _, _, e⟩ | ⟨i, hi, j, F', _, hF, _, e⟩
    · rw [e]; exact ⟨F, h⟩
    · rw [e]
      refine ⟨F, ?_⟩
      show PInv A'.ws s.T s.L F
      rw [ew]; exact h.exh ok hi
    · rw [e]; exact ⟨_, PInv.alloc (A := A0 s.A) ok h hi hF nb⟩
  · rcases step3 (s := s) (kk := kk) (nb := nb) ok k h with ⟨_, _, e⟩ | ⟨i, hi, _, _, A', ew, _, _, e⟩ | ⟨i, hi, j, A1, _, hj, hn, _, ew, _, _, e⟩
    · rw [e]; exact ⟨F, h⟩
    · rw [e]; refine ⟨F, ?_⟩; show PInv A'.ws s.T s.L F; rw [ew]; exact h
    · rw [e]; rw [← ew] at h; exact ⟨_, PInv.free (A := A1) ok h hi hj hn⟩
  · rcases step4 (s := s) (kk := kk) (nb := nb) ok k h with ⟨_, _, e⟩ | ⟨i, hi, _, _, A', ew, _, _, e⟩ | ⟨i, hi, j, A1, _, hj, hn, _, ew, _, _, e⟩
    · rw [e]; exact ⟨F, h⟩
    · rw [e]; refine ⟨F, ?_⟩; show PInv A'.ws s.T s.L F; rw [ew]; exact h
    · rw [e]; rw [← ew] at h; exact ⟨_, PInv.free (A := A1) ok h hi hj hn⟩
  · rcases step5 (s := s) (kk := kk) (nb := nb) ok k with ⟨_, _, e⟩ | ⟨i, hi, _, _, e⟩ <;> (rw [e]; exact ⟨F, h⟩)
  · rcases step6 (s := s) (kk := kk) (nb := nb) k h with ⟨_, _, e⟩ | ⟨i, hi, _, A', ew, _, _, e⟩
    · rw [e]; exact ⟨F, h⟩
    · rw [e]; refine ⟨F, ?_⟩; show PInv A'.ws s.T s.L F; rw [ew]; exact h
  · rcases step7 (s := s) (kk := kk) (nb := nb) k hc with ⟨_, _, e⟩ | ⟨p, hp, t, ht, A', ew, _, _, e⟩
    · rw [e]; exact ⟨F, h⟩
    · rw [e]; refine ⟨F, ?_⟩; show PInv A'.ws s.T _ F; rw [ew]; exact h.poke ok hp ht
  · obtain ⟨_, e⟩ := step9 (s := s) (kk := kk) (nb := nb) k
    rw [e]; exact ⟨F, h⟩
end
end Go.Proofs.Qxb6500893aDoor
