import Derived.Test.Qxb6500896aGreatDoorN10
namespace Go.Proofs.Qxb6500896aGreatDoor
open Go.Sh Go.RowKit
set_option linter.unusedVariables false
set_option linter.unusedSimpArgs false

/-! ### the full set of questions -/
def qq (op id at' sl li : Int) : Rq := ⟨op, id, at', sl, 0, 0, li, []⟩
/-- one of the questions -/
structure QOk (q : Rq) : Prop where
  rb : Rb q
  ex : ∃ op id at' sl li, q = qq op id at' sl li ∧ (16 ≤ op ∧ op ≤ 24) ∧ N63 id ∧ N63 at' ∧ N63 sl ∧ N63 li
def obsI (i : Nat) : List Rq := [qq 16 (i : Nat) 0 0 0, qq 24 (i : Nat) 0 0 0, qq 17 (i : Nat) 0 0 ((i % 7 : Nat) : Int)]
def obsS (now : Int) (a k : Nat) : List Rq := if 0 ≤ now - 1 + ((k : Nat) : Int) then [qq 18 0 (a : Nat) (now - 1 + ((k : Nat) : Int)) 0] else []
def obsA (now : Int) (a : Nat) : List Rq := qq 19 0 (a : Nat) 0 0 :: (List.range 10).flatMap (obsS now a)
def obs (now : Int) : List Rq := [qq 20 0 0 0 0, qq 23 0 0 0 0] ++ (List.range 28).flatMap obsI ++ (List.range 4).flatMap (obsA now)
theorem qq_cells (op id at' sl li : Int) : (qq op id at' sl li).cells nilS = [U8 op, I id, I at', I sl, I 0, I 0, I li, nilS] := rfl
theorem QOk.xpr {q : Rq} (h : QOk q) : xpr q = true := by
  obtain ⟨op, id, at', sl, li, rfl, ho, h1, h2, h3, h4⟩ := h.ex
  have := h1.1; have := h2.1; have := h3.1; have := h4.1
  unfold Go.Proofs.Qxb6500896aGreatDoor.xpr qq isQ
  simp
  omega
theorem QOk.rqn {q : Rq} (h : QOk q) : RqN q := by
  obtain ⟨op, id, at', sl, li, rfl, ho, h1, h2, h3, h4⟩ := h.ex
  exact ⟨⟨by show 0 ≤ op; omega, by show op ≤ 255; omega⟩, h1.2, h2.2, h3.2, by show (0 : Int) ≤ _; decide, by show (0 : Int) ≤ _; decide, h4.2, fun l hl => by cases hl⟩
theorem n63_0 : N63 0 := ⟨by decide, by decide⟩
theorem n63_n {n : Nat} (h : n ≤ 1000000) : N63 ((n : Nat) : Int) := ⟨by omega, by omega⟩

section
variable {id at' sl li : Int}
theorem rN (h : N63 id) (r : List Int) : rNum (uI id ++ r, false) = (id.toNat, r, false) := rNum_uI h r false
theorem rN0 (h : N63 id) : rNum (uI id, false) = (id.toNat, [], false) := by have := rNum_uI h [] false; rwa [List.append_nil] at this
theorem tN (h : N63 id) : ((id.toNat : Nat) : Int) = id := by have := h.1; omega
theorem dE (x : Rq) : decE (x, (([] : List Int), false)) = (x, 0) := rfl
theorem decB_id (op : Int) (s : RS) (h : op = 16 ∨ op = 24) : decB op s = (⟨op, ((rNum s).1 : Nat), 0, 0, 0, 0, 0, []⟩, (rNum s).2) := by
  unfold decB
  rcases h with rfl | rfl <;> rw [if_neg (by decide), if_neg (by decide), if_neg (by decide), if_pos (by decide)]
theorem qok_id (op : Int) (h : op = 16 ∨ op = 24) (h1 : N63 id) : QOk (qq op id 0 0 0) := by
  refine ⟨?_, ⟨op, id, 0, 0, 0, rfl, by omega, h1, n63_0, n63_0, n63_0⟩⟩
  have e : enc (qq op id 0 0 0) = op :: uI id := by
    have eo : (qq op id 0 0 0).op = op := rfl
    unfold enc encB
    rw [eo, if_neg (show ¬ (op = 1 ∨ op = 22) by omega), if_neg (show ¬ op = 5 by omega), if_neg (show ¬ op = 6 by omega), if_pos (show op ∈ dIds by rcases h with rfl | rfl <;> decide)]
    rfl
  unfold Rb
  rw [e]
  show decE (decB op (uI id, false)) = _
  rw [decB_id op _ h, rN0 h1]
  show decE (⟨op, ((id.toNat : Nat) : Int), 0, 0, 0, 0, 0, []⟩, (([] : List Int), false)) = _
  rw [dE, tN h1]
  rfl
theorem qok_list (h1 : N63 id) (h2 : N63 li) : QOk (qq 17 id 0 0 li) := by
  refine ⟨?_, ⟨17, id, 0, 0, li, rfl, by omega, h1, n63_0, n63_0, h2⟩⟩
  have e : enc (qq 17 id 0 0 li) = 17 :: (uI id ++ uI li) := by
    have eo : (qq 17 id 0 0 li).op = 17 := rfl
    unfold enc encB
    rw [eo, if_neg (show ¬ ((17 : Int) = 1 ∨ (17 : Int) = 22) by decide), if_neg (show ¬ (17 : Int) = 5 by decide), if_neg (show ¬ (17 : Int) = 6 by decide), if_neg (show ¬ (17 : Int) ∈ dIds by decide), if_pos (show (17 : Int) = 17 from rfl)]
    rfl
  have e2 : ∀ s : RS, decB 17 s = (⟨17, ((rNum s).1 : Nat), 0, 0, 0, 0, ((rNum (rNum s).2).1 : Nat), []⟩, (rNum (rNum s).2).2) := fun s => by
    unfold decB
    rw [if_neg (by decide), if_neg (by decide), if_neg (by decide), if_neg (by decide), if_pos (by decide)]
  unfold Rb
  rw [e]
  show decE (decB 17 (uI id ++ uI li, false)) = _
  rw [e2, rN h1, rN0 h2]
  show decE (⟨17, ((id.toNat : Nat) : Int), 0, 0, 0, 0, ((li.toNat : Nat) : Int), []⟩, (([] : List Int), false)) = _
  rw [dE, tN h1, tN h2]
  rfl
theorem qok_slot (h1 : N63 at') (h2 : N63 sl) : QOk (qq 18 0 at' sl 0) := by
  refine ⟨?_, ⟨18, 0, at', sl, 0, rfl, by omega, n63_0, h1, h2, n63_0⟩⟩
  have e : enc (qq 18 0 at' sl 0) = 18 :: (uI at' ++ uI sl) := by
    have eo : (qq 18 0 at' sl 0).op = 18 := rfl
    unfold enc encB
    rw [eo, if_neg (show ¬ ((18 : Int) = 1 ∨ (18 : Int) = 22) by decide), if_neg (show ¬ (18 : Int) = 5 by decide), if_neg (show ¬ (18 : Int) = 6 by decide), if_neg (show ¬ (18 : Int) ∈ dIds by decide), if_neg (show ¬ (18 : Int) = 17 by decide), if_pos (show (18 : Int) = 18 from rfl)]
    rfl
  have e2 : ∀ s : RS, decB 18 s = (⟨18, 0, ((rNum s).1 : Nat), ((rNum (rNum s).2).1 : Nat), 0, 0, 0, []⟩, (rNum (rNum s).2).2) := fun s => by
    unfold decB
    rw [if_neg (by decide), if_neg (by decide), if_neg (by decide), if_neg (by decide), if_neg (by decide), if_pos (by decide)]
  unfold Rb
  rw [e]
  show decE (decB 18 (uI at' ++ uI sl, false)) = _
  rw [e2, rN h1, rN0 h2]
  show decE (⟨18, 0, ((at'.toNat : Nat) : Int), ((sl.toNat : Nat) : Int), 0, 0, 0, []⟩, (([] : List Int), false)) = _
  rw [dE, tN h1, tN h2]
  rfl
theorem qok_line (h1 : N63 at') : QOk (qq 19 0 at' 0 0) := by
  refine ⟨?_, ⟨19, 0, at', 0, 0, rfl, by omega, n63_0, h1, n63_0, n63_0⟩⟩
  have e : enc (qq 19 0 at' 0 0) = 19 :: uI at' := by
    have eo : (qq 19 0 at' 0 0).op = 19 := rfl
    unfold enc encB
    rw [eo, if_neg (show ¬ ((19 : Int) = 1 ∨ (19 : Int) = 22) by decide), if_neg (show ¬ (19 : Int) = 5 by decide), if_neg (show ¬ (19 : Int) = 6 by decide), if_neg (show ¬ (19 : Int) ∈ dIds by decide), if_neg (show ¬ (19 : Int) = 17 by decide), if_neg (show ¬ (19 : Int) = 18 by decide), if_pos (show (19 : Int) = 19 from rfl)]
    rfl
  have e2 : ∀ s : RS, decB 19 s = (⟨19, 0, ((rNum s).1 : Nat), 0, 0, 0, 0, []⟩, (rNum s).2) := fun s => by
    unfold decB
    rw [if_neg (by decide), if_neg (by decide), if_neg (by decide), if_neg (by decide), if_neg (by decide), if_neg (by decide), if_pos (by decide)]
  unfold Rb
  rw [e]
  show decE (decB 19 (uI at', false)) = _
  rw [e2, rN0 h1]
  show decE (⟨19, 0, ((at'.toNat : Nat) : Int), 0, 0, 0, 0, []⟩, (([] : List Int), false)) = _
  rw [dE, tN h1]
  rfl
theorem qok_none (op : Int) (h : op = 20 ∨ op = 23) : QOk (qq op 0 0 0 0) := by
  refine ⟨?_, ⟨op, 0, 0, 0, 0, rfl, by omega, n63_0, n63_0, n63_0, n63_0⟩⟩
  unfold Rb
  rcases h with rfl | rfl <;> kernel_rfl
end
/-! ### what a question is answered -/
def ansQ (C : Cfg) (σ : Sg) (q : Rq) : Rp := if valid C σ.now q = 0 then (if (qR C q σ).code = 0 then qR C q σ else rf (qR C q σ).code) else rf (valid C σ.now q)
section
variable {C : Cfg} {σ σ' : Sg} {J J' : Jr} {q : Rq} {bs : List Int}
theorem qR_core (h : Core σ σ') (q : Rq) : qR C q σ' = qR C q σ := by
  have h1 := h.now
  have h2 := h.rs
  have h3 := h.ls
  have a1 : qGet q σ' = qGet q σ := by unfold qGet; rw [h2]
  have a2 : qList C q σ' = qList C q σ := by unfold qList; rw [h2]
  have a3 : qSlot C q σ' = qSlot C q σ := by unfold qSlot; rw [h2]
  have a4 : qLine q σ' = qLine q σ := by unfold qLine; rw [h3]
  have a5 : qClock C q σ' = qClock C q σ := by unfold qClock; rw [h1, h2]
  have a6 : qFind C q σ' = qFind C q σ := by
    have : fndFrom q σ' = fndFrom q σ := by unfold fndFrom; rw [h1]
    unfold qFind; rw [h1, h2, this]
  have a7 : qQuo C q σ' = qQuo C q σ := by unfold qQuo; rw [h1, h2]
  have a8 : qCnt q σ' = qCnt q σ := by unfold qCnt; rw [h2]
  have a9 : qPlace q σ' = qPlace q σ := by unfold qPlace; rw [h2, h3]
  unfold qR
  rw [a1, a2, a3, a4, a5, a6, a7, a8, a9]
theorem ansQ_core (h : Core σ σ') (q : Rq) : ansQ C σ' q = ansQ C σ q := by
  unfold ansQ
  rw [qR_core h, h.now]
/-- a question changes nothing but the counters -/
theorem stg_query (h : RgI C σ J) (hx : xpr q = true) (hq : isQ q.op = true) : (stgS C q σ J).2.2 = ansQ C σ q ∧ (stgS C q σ J).2.1 = J ∧ Core σ (stgS C q σ J).1 ∧ (stgS C q σ J).1.loose = σ.loose ∧ (stgS C q σ J).1.down = false := by
  have hr := fun c (s : Sg) => refS_o c s
  have hs : ∀ c, Core σ (refS c { σ with sr := w1 σ.sr }) := fun c => Core.trans (b := { σ with sr := w1 σ.sr }) ⟨rfl, rfl, rfl, rfl⟩ (refS_same c { σ with sr := w1 σ.sr }).core
  have e1 : qR C q { σ with sr := w1 σ.sr } = qR C q σ := qR_core (σ := σ) (σ' := { σ with sr := w1 σ.sr }) ⟨rfl, rfl, rfl, rfl⟩ q
  unfold stgS ansQ
  simp only
  rw [if_neg (by rw [h.dn]; decide), if_neg (by rw [hx]; decide)]
  by_cases c1 : valid C σ.now q = 0
  · rw [if_pos c1, if_pos c1, if_pos hq]
    unfold ansS
    rw [e1]
    by_cases c2 : (qR C q σ).code = 0
    · rw [if_pos c2, if_pos c2]
      exact ⟨rfl, rfl, ⟨rfl, rfl, rfl, rfl⟩, rfl, h.dn⟩
    · rw [if_neg c2, if_neg c2]
      exact ⟨rfl, rfl, hs _, (hr (qR C q σ).code { σ with sr := w1 σ.sr }).2.2.1, by show (refS (qR C q σ).code { σ with sr := w1 σ.sr }).down = false; rw [(hr _ _).1]; exact h.dn⟩
  · rw [if_neg c1, if_neg c1]
    exact ⟨rfl, rfl, hs _, (hr (valid C σ.now q) { σ with sr := w1 σ.sr }).2.2.1, by show (refS (valid C σ.now q) { σ with sr := w1 σ.sr }).down = false; rw [(hr _ _).1]; exact h.dn⟩
theorem hnd_query (h : RgI park σ J) (hlo : σ.loose = 0) (hs : σ.seq + 1 ≤ 9223372036854775807) (hB : By bs) (h0 : (dec bs).2 = 0) (hq : isQ (dec bs).1.op = true) : (hndS park bs σ J).2.2 = ansQ park σ (dec bs).1 ∧ (hndS park bs σ J).2.1 = J ∧ Core σ (hndS park bs σ J).1 := by
  have hN := dec_x h0
  have hi := h.hnd park_cv park_mb hB hs
  obtain ⟨q1, q2, q3, q4, q5⟩ := stg_query (q := (dec bs).1) h hN.x hq
  have est : stbS park bs σ J = stgS park (dec bs).1 σ J := by
    unfold stbS
    rw [if_neg (by rw [h.dn]; decide), if_pos h0]
  rw [est] at hi
  refine ⟨by rw [hi.2.2, q1], ?_⟩
  unfold hndS
  simp only
  rw [est]
  unfold setS
  rw [if_neg (by rw [q5]; decide), if_pos (by rw [q4]; exact hlo)]
  exact ⟨q2, q3⟩
/-- the clock's reply -/
theorem ans_clk (h : RgI park σ J) : eR (ansQ park σ (qq 20 0 0 0 0)) = 0 :: 20 :: (uI σ.now ++ (uI (σ.now + 7) ++ (uI ((σ.rs.length : Nat) : Int) ++ []))) := by
  have e1 : valid park σ.now (qq 20 0 0 0 0) = 0 := by
    unfold valid
    rw [if_neg (by decide), if_neg (by decide), if_neg (by decide), if_neg (by decide), if_neg (by decide)]
  have e2 : qR park (qq 20 0 0 0 0) σ = qClock park (qq 20 0 0 0 0) σ := by
    unfold qR
    rw [if_neg (by decide), if_neg (by decide), if_neg (by decide), if_neg (by decide), if_pos (by decide)]
  unfold ansQ
  rw [if_pos e1, e2, if_pos (show (qClock park (qq 20 0 0 0 0) σ).code = 0 from rfl)]
  unfold eR
  rw [if_pos (show (qClock park (qq 20 0 0 0 0) σ).code = 0 from rfl)]
  have eo : (qClock park (qq 20 0 0 0 0) σ).op = 20 := rfl
  unfold eB
  rw [eo, if_neg (by decide), if_neg (by decide), if_neg (by decide), if_neg (by decide), if_neg (by decide), if_neg (by decide), if_neg (by decide), if_neg (by decide), if_pos rfl]
  show [0, 20] ++ (uI σ.now ++ uI (σ.now + 8 - 1) ++ uI ((σ.rs.length : Nat) : Int)) = _
  rw [show σ.now + 8 - 1 = σ.now + 7 by omega, List.append_nil, List.append_assoc]
  rfl
end
end Go.Proofs.Qxb6500896aGreatDoor
