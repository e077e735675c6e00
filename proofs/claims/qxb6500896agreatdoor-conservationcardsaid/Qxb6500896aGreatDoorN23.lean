import Derived.Test.Qxb6500896aGreatDoorN22
namespace Go.Proofs.Qxb6500896aGreatDoor
open Go.Sh Go.RowKit
set_option linter.unusedVariables false
set_option linter.unusedSimpArgs false

/-! ### how records may turn -/
def moves (a : Int) : List Int := if a = 1 then [2, 4, 6] else if a = 2 then [3, 4, 5] else if a = 7 then [8, 4] else if a = 8 then [3, 4, 9] else []
/-- one record, before and after -/
structure RelR (x y : Rec) : Prop where
  st : y.st = x.st ∨ y.st ∈ moves x.st
  cl : y.cl = x.cl
  sz : y.sz = x.sz
  ln : y.ln = x.ln
  ex : y.ex = x.ex
  lg : y.legs = x.legs ∨ (x.st = 7 ∧ y.st = 8) ∨ (y.st = x.st ∧ (y.st = 1 ∨ y.st = 2))
def Rel (B A : List Rec) : Prop := B.length ≤ A.length ∧ ∀ (i : Nat) x y, B[i]? = some x → A[i]? = some y → RelR x y
theorem RelR.refl (x : Rec) : RelR x x := ⟨.inl rfl, rfl, rfl, rfl, rfl, .inl rfl⟩
theorem Rel.refl (B : List Rec) : Rel B B := ⟨Nat.le_refl _, fun i x y hx hy => by rw [hx] at hy; cases hy; exact RelR.refl x⟩
theorem Rel.app (B C : List Rec) : Rel B (B ++ C) := ⟨by rw [List.length_append]; omega, fun i x y hx hy => by
  have hi : i < B.length := by
    have := (List.getElem?_eq_some_iff.1 hx).1
    exact this
  rw [List.getElem?_append_left hi, hx] at hy
  cases hy
  exact RelR.refl x⟩
theorem Rel.set {B : List Rec} {id : Int} {r : Rec} (h : has B id) (hr : RelR (rget B id) r) : Rel B (rset B id r) := by
  obtain ⟨j, hid, hj⟩ := has_at h
  rw [rset_at hid]
  rw [rget_at hid hj] at hr
  refine ⟨by rw [List.length_set]; exact Nat.le_refl _, fun i x y hx hy => ?_⟩
  by_cases e : j = i
  · subst e
    rw [List.getElem?_set_self hj] at hy
    rw [List.getElem?_eq_getElem hj] at hx
    cases hx; cases hy
    exact hr
  · rw [List.getElem?_set_ne e, hx] at hy
    cases hy
    exact RelR.refl x
/-- a status turns -/
theorem RelR.stat (x : Rec) {s : Int} (h : s ∈ moves x.st) : RelR x { x with st := s } := ⟨.inr h, rfl, rfl, rfl, rfl, .inl rfl⟩
/-- while the lines are served -/
def SvR (now : Int) (x y : Rec) : Prop := y = x ∨ (x.st = 7 ∧ ∃ l : Leg, y = { x with st := 8, legs := [l] } ∧ now + 1 ≤ l.s)
def SvL (now : Int) (B A : List Rec) : Prop := A.length = B.length ∧ ∀ (i : Nat) x y, B[i]? = some x → A[i]? = some y → SvR now x y
theorem SvL.step {now : Int} {B : List Rec} {s : SrvS} {p : Int × Int} (h : SvL now B s.rs) (ho : tOffer park s.rs p.1 (now + 1) (now + park.of) = some p.2) : SvL now B (tIssue p.1 p.2 s.rs).1 := by
  obtain ⟨hh, h7, h1, h2⟩ := tOffer_b ho
  unfold tIssue
  rw [if_pos hh, if_pos h7]
  obtain ⟨j, hid, hj⟩ := has_at hh
  rw [rget_at hid hj] at h7 ⊢
  rw [rset_at hid]
  refine ⟨by rw [List.length_set]; exact h.1, fun i x y hx hy => ?_⟩
  simp only at hy
  by_cases e : j = i
  · subst e
    rw [List.getElem?_set_self hj] at hy
    cases hy
    rcases h.2 j x s.rs[j] hx (List.getElem?_eq_getElem hj) with q | ⟨q, l, q2, q3⟩
    · rw [q] at h7 ⊢
      exact .inr ⟨h7, _, rfl, h1⟩
    · rw [q2] at h7
      exact absurd h7 (show ¬ (8 : Int) = 7 by decide)
  · rw [List.getElem?_set_ne e] at hy
    exact h.2 i x y hx hy
theorem SvL.srvA {now : Int} {B : List Rec} {a : Nat} : ∀ {f : Nat} {s : SrvS}, SvL now B s.rs → SvL now B (srvA park now a f s).rs
  | 0, s, h => h
  | f + 1, s, h => by
    rw [Go.Proofs.Qxb6500896aGreatDoor.srvA]
    split
    · exact h
    · rename_i p hp
      exact SvL.srvA (s := ⟨(tIssue p.1 p.2 s.rs).1, tRemove p.1 s.ls, s.iss ++ [⟨p.1, p.2⟩]⟩) (h.step (firstOf_mem hp).2)
theorem SvL.srvL {now : Int} {B : List Rec} : ∀ {n i : Nat} {s : SrvS}, SvL now B s.rs → SvL now B (srvL park now n i s).rs
  | 0, i, s, h => h
  | n + 1, i, s, h => SvL.srvL (n := n) (i := i + 1) h.srvA
theorem rel_tick {now : Int} (rs : List Rec) (ls : List (List Int)) : Rel rs (tSweep park (now + 1) (tServe park now rs ls).rs) := by
  have h : SvL now rs (tServe park now rs ls).rs := SvL.srvL (s := ⟨rs, ls, []⟩) ⟨rfl, fun i x y hx hy => by rw [show (⟨rs, ls, []⟩ : SrvS).rs[i]? = rs[i]? from rfl, hx] at hy; cases hy; exact .inl rfl⟩
  generalize (tServe park now rs ls).rs = A at h
  refine ⟨by unfold tSweep; rw [List.length_map, h.1]; exact Nat.le_refl _, fun i x y hx hy => ?_⟩
  unfold tSweep at hy
  rw [List.getElem?_map] at hy
  cases hz : A[i]? with
  | none => rw [hz] at hy; cases hy
  | some z =>
    rw [hz] at hy
    have hy : swR park (now + 1) z = y := Option.some.inj hy
    subst hy
    rcases h.2 i x z hx hz with q | ⟨q, l, q2, q3⟩
    · subst q
      unfold swR
      split
      · rename_i e
        unfold isE at e
        simp only [Bool.and_eq_true, decide_eq_true_eq] at e
        exact RelR.stat z (by rw [e.1]; decide)
      · split
        · rename_i e
          unfold isS at e
          simp only [Bool.and_eq_true, decide_eq_true_eq] at e
          exact RelR.stat z (by rw [e.1]; decide)
        · split
          · rename_i e
            unfold isL at e
            simp only [Bool.and_eq_true, decide_eq_true_eq] at e
            exact RelR.stat z (by rw [e.1]; decide)
          · exact RelR.refl z
    · subst q2
      have e : swR park (now + 1) { x with st := 8, legs := [l] } = { x with st := 8, legs := [l] } := by
        unfold swR isE isS isL
        have hf : (fst0 ({ x with st := 8, legs := [l] } : Rec)).s = l.s := rfl
        rw [hf]
        have hrt : park.rt = 2 := rfl
        rw [hrt]
        have : ¬ l.s + 2 ≤ now + 1 := by omega
        simp [this]
      rw [e]
      exact ⟨.inr (by rw [q]; exact (show (8 : Int) ∈ moves 7 by decide)), rfl, rfl, rfl, rfl, .inr (.inl ⟨q, rfl⟩)⟩
/-- every change keeps the relation -/
theorem apS_rel (q : Rq) (σ : Sg) : Rel σ.rs (apS park q σ).1.rs := by
  unfold apS
  by_cases c1 : q.op = 1
  · rw [if_pos c1]
    show Rel σ.rs (tHold park σ.now q.cl q.sz q.legs σ.rs).1
    unfold tHold
    split
    · exact Rel.app _ _
    · exact Rel.refl _
  rw [if_neg c1]
  by_cases c2 : q.op = 2
  · rw [if_pos c2]
    show Rel σ.rs (tConfirm park σ.now q.id σ.rs).1
    unfold tConfirm
    split
    · rename_i hh
      split
      · rename_i h1
        split
        · exact Rel.refl _
        · exact Rel.set hh (RelR.stat _ (by rw [h1]; decide))
      · exact Rel.refl _
    · exact Rel.refl _
  rw [if_neg c2]
  by_cases c3 : q.op = 3
  · rw [if_pos c3]
    show Rel σ.rs (tCancel q.id σ.rs).1
    unfold tCancel
    split
    · rename_i hh
      split
      · rename_i h1
        exact Rel.set hh (RelR.stat _ (by rcases h1 with h1 | h1 | h1 <;> rw [h1] <;> decide))
      · exact Rel.refl _
    · exact Rel.refl _
  rw [if_neg c3]
  have harr : ∀ st, (st = 2 ∨ st = 8) → Rel σ.rs (tArrive σ.now q.id st σ.rs).1 := fun st hst => by
    unfold tArrive
    split
    · rename_i hh
      split
      · rename_i h1
        split
        · exact Rel.refl _
        · exact Rel.set hh (RelR.stat _ (by rw [h1]; rcases hst with rfl | rfl <;> decide))
      · exact Rel.refl _
    · exact Rel.refl _
  by_cases c4 : q.op = 4
  · rw [if_pos c4]; exact harr 2 (.inl rfl)
  rw [if_neg c4]
  by_cases c5 : q.op = 5
  · rw [if_pos c5]
    show Rel σ.rs (tRebook park q.id q.legs σ.rs).1
    unfold tRebook
    split
    · rename_i hh
      split
      · rename_i h1
        split
        · exact Rel.set hh ⟨.inl rfl, rfl, rfl, rfl, rfl, .inr (.inr ⟨rfl, h1⟩)⟩
        · exact Rel.refl _
      · exact Rel.refl _
    · exact Rel.refl _
  rw [if_neg c5]
  by_cases c6 : q.op = 6
  · rw [if_pos c6]
    show Rel σ.rs (tJoin park q.at' q.cl q.sz σ.rs σ.ls).rs
    unfold tJoin
    split
    · exact Rel.refl _
    · split
      · show Rel σ.rs (tEnroll park q.at' q.cl q.sz σ.rs).1
        unfold tEnroll
        split
        · exact Rel.refl _
        · exact Rel.app _ _
      · exact Rel.refl _
  rw [if_neg c6]
  by_cases c7 : q.op = 7
  · rw [if_pos c7]
    show Rel σ.rs (tLeave q.id σ.rs σ.ls).1
    unfold tLeave
    split
    · show Rel σ.rs (tWithdraw q.id σ.rs).1
      unfold tWithdraw
      split
      · rename_i hh
        split
        · rename_i h1
          exact Rel.set hh (RelR.stat _ (by rw [h1]; decide))
        · exact Rel.refl _
      · exact Rel.refl _
    · exact Rel.refl _
  rw [if_neg c7]
  by_cases c8 : q.op = 8
  · rw [if_pos c8]; exact harr 8 (.inr rfl)
  rw [if_neg c8]
  by_cases c9 : q.op = 9
  · rw [if_pos c9]
    show Rel σ.rs (tkS park σ).rs
    unfold tkS
    split
    · exact Rel.refl _
    · exact rel_tick _ _
  rw [if_neg c9]
  exact Rel.refl _
/-- a hold or a place in a line that is granted: its id is the last -/
theorem apS_new {q : Rq} {σ : Sg} (ho : q.op = 1 ∨ q.op = 6) (hc : (apS park q σ).2.code = 0) : (apS park q σ).1.rs.length = σ.rs.length + 1 ∧ (apS park q σ).2.id = ((σ.rs.length + 1 : Nat) : Int) ∧ (apS park q σ).2.op = q.op := by
  unfold apS at hc ⊢
  rcases ho with ho | ho
  · rw [if_pos ho] at hc ⊢
    replace hc : (hoR park q σ).code = 0 := hc
    show (tHold park σ.now q.cl q.sz q.legs σ.rs).1.length = _ ∧ (hoR park q σ).id = _ ∧ (hoR park q σ).op = q.op
    unfold hoR at hc ⊢
    by_cases h1 : (tHold park σ.now q.cl q.sz q.legs σ.rs).2 = 0
    · rw [if_pos h1]
      have h2 : tCheck park q.cl q.sz q.legs σ.rs = 0 := by
        unfold tHold at h1
        split at h1
        · assumption
        · exact h1
      refine ⟨?_, ?_, rfl⟩
      · unfold tHold tGrant
        rw [if_pos h2]
        simp
      · show (tHoldR park σ.now q.cl q.sz q.legs σ.rs).id = _
        unfold tHoldR
        rw [if_pos h2]
    · rw [if_neg h1] at hc
      exact absurd hc h1
  · rw [if_neg (by omega), if_neg (by omega), if_neg (by omega), if_neg (by omega), if_neg (by omega), if_pos ho] at hc ⊢
    replace hc : (joR q (tJoin park q.at' q.cl q.sz σ.rs σ.ls)).code = 0 := hc
    show (tJoin park q.at' q.cl q.sz σ.rs σ.ls).rs.length = _ ∧ (joR q (tJoin park q.at' q.cl q.sz σ.rs σ.ls)).id = _ ∧ (joR q (tJoin park q.at' q.cl q.sz σ.rs σ.ls)).op = q.op
    unfold joR at hc ⊢
    by_cases h1 : (tJoin park q.at' q.cl q.sz σ.rs σ.ls).code = 0
    · rw [if_pos h1]
      unfold tJoin at h1 ⊢
      by_cases h2 : park.mx ≤ (((lnOf σ.ls q.at').length : Nat) : Int)
      · rw [if_pos h2] at h1; exact absurd h1 (show ¬ (10 : Int) = 0 by decide)
      · rw [if_neg h2] at h1 ⊢
        by_cases h3 : (tEnroll park q.at' q.cl q.sz σ.rs).2 = 0
        · rw [if_pos h3]
          refine ⟨?_, rfl, rfl⟩
          show (tEnroll park q.at' q.cl q.sz σ.rs).1.length = _
          unfold tEnroll tGrant at h3 ⊢
          split at h3
          · exact absurd h3 (show ¬ (9 : Int) = 0 by decide)
          · rename_i h4
            rw [if_neg h4]
            simp
        · rw [if_neg h3] at h1; exact absurd h1 h3
    · rw [if_neg h1] at hc
      exact absurd hc h1
/-- a rebooking that is granted: the legs are the new ones -/
theorem apS_reb {q : Rq} {σ : Sg} (ho : q.op = 5) (hc : (apS park q σ).2.code = 0) : has σ.rs q.id ∧ (rget (apS park q σ).1.rs q.id).legs = q.legs := by
  unfold apS at hc ⊢
  rw [if_neg (by omega), if_neg (by omega), if_neg (by omega), if_neg (by omega), if_pos ho] at hc ⊢
  replace hc : (mvR q.op (tRebook park q.id q.legs σ.rs).2 (rget (tRebook park q.id q.legs σ.rs).1 q.id).st).code = 0 := hc
  show has σ.rs q.id ∧ (rget (tRebook park q.id q.legs σ.rs).1 q.id).legs = q.legs
  unfold mvR at hc
  by_cases h0 : (tRebook park q.id q.legs σ.rs).2 = 0
  · unfold tRebook at h0 ⊢
    by_cases hh : has σ.rs q.id
    · rw [if_pos hh] at h0 ⊢
      refine ⟨hh, ?_⟩
      by_cases h1 : (rget σ.rs q.id).st = 1 ∨ (rget σ.rs q.id).st = 2
      · rw [if_pos h1] at h0 ⊢
        by_cases h2 : fits park σ.rs (rget σ.rs q.id).cl (rget σ.rs q.id).sz q.legs q.id = 0
        · rw [if_pos h2]
          show (rget (rset σ.rs q.id { rget σ.rs q.id with legs := q.legs }) q.id).legs = q.legs
          rw [rget_rset hh hh, if_pos rfl]
        · rw [if_neg h2] at h0; exact absurd h0 h2
      · rw [if_neg h1] at h0; exact absurd h0 (show ¬ (8 : Int) = 0 by decide)
    · rw [if_neg hh] at h0; exact absurd h0 (show ¬ (2 : Int) = 0 by decide)
  · rw [if_neg h0] at hc; exact absurd hc h0
end Go.Proofs.Qxb6500896aGreatDoor
