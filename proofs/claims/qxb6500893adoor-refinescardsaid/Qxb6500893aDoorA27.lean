import Derived.Test.Qxb6500893aDoorA26
namespace Go.Proofs.Qxb6500893aDoor
open Go.Sh Go.RowKit
set_option linter.unusedVariables false
set_option linter.unusedSimpArgs false

section
variable {s : Ws} {F : Nat → List Nat} {c : Call} {kk nb : Nat}
/-- the stores of a step miss every block held, but for the block taken back -/
theorem stored_out (ok : s.T.Ok) (h : PInv s.A.ws s.T s.L F) (hf : FailLe 18446744073709551614 s) (h7 : c.kind ≠ 7) (h8 : c.kind ≠ 8) :
    ∀ a ∈ (midF kk (s00 s) c).s.A.sd, ∀ x ∈ s.L, x.at_ ≤ a → a < x.at_ + x.ws.length → (midF kk (s00 s) c).code = 0 ∧ c.kind ≠ 2 ∧ x.at_ = c.at_ := by
  intro a ha x hx h1 h2
  obtain ⟨k, hk, j, x1, x2, x3, x4, x5⟩ := h.live x hx
  have hl : x.ws.length = s.T.ps[k].bw := by rw [x5, cutW_len]
  have o := (ok.sh _ (List.getElem_mem hk)).1
  have ofin := (ok.sh _ (List.getElem_mem hk)).2.2
  obtain ⟨t, ht, et⟩ : ∃ t, t < s.T.ps[k].bw ∧ a = s.T.ps[k].bk j + t := ⟨a - x.at_, by omega, by omega⟩
  have b := bk_in o x2 ht
  have fg := fst_ge o
  have out : ∀ i (hi : i < s.T.ps.length), s.T.ps[i].ctl ≤ a → a < s.T.ps[i].fst → False := by
    intro i hi q1 q2
    have o2 := (ok.sh _ (List.getElem_mem hi)).1
    have := o2.fin
    by_cases e : i = k
    · subst e; omega
    · have := apart ok hi hk e; omega
  have freed : ∀ i (hi : i < s.T.ps.length) (l : Nat) (A1 : Ar), l < s.T.ps[i].n → l ∉ F i → c.at_ = s.T.ps[i].bk l → A1.ws = s.A.ws → A1.sd = [] → a ∈ (freeF A1 s.T.ps[i] (s.T.ps[i].bk l)).2.sd → x.at_ = c.at_ := by
    intro i hi l A1 hl hn hc ew es ha
    have o2 := (ok.sh _ (List.getElem_mem hi)).1
    have hP := h.pool i hi
    rw [← ew] at hP
    obtain ⟨_, _, _, _, _, hsd⟩ := PoolOk.free (A := A1) o2 hP hl hn
    rcases hsd a ha with q | q | q
    · rw [es] at q; cases q
    · exact (out i hi q.1 q.2).elim
    · have hb := o2.bw1
      obtain ⟨e1, e2⟩ := same_blk ok hk hi (t := t) (u := 0) x2 hl ht (by omega) (by omega)
      subst e1; subst e2
      rw [x4, hc]
  have hkk : c.kind = 0 ∨ c.kind = 1 ∨ c.kind = 2 ∨ c.kind = 3 ∨ c.kind = 4 ∨ c.kind = 5 ∨ c.kind = 6 ∨ 9 ≤ c.kind := by omega
  rcases hkk with q | q | q | q | q | q | q | q
  · rcases step0 (s := s) (kk := kk) (nb := 0) q with ⟨_, e, _⟩ | ⟨_, e, _⟩ <;> (rw [e] at ha; cases ha)
  · rcases step1 (s := s) (kk := kk) (nb := 0) ok q with ⟨_, e, _⟩ | ⟨h0, hok, e, _⟩
    · rw [e] at ha; cases ha
    · rw [e] at ha
      obtain ⟨_, _, _, _, _, hsd⟩ := fmt_ok (A := A0 s.A) hok
      rcases hsd a ha with z | z
      · cases z
      · have h2 : s.T.next ≤ a := z.1
        omega
  · rcases step2 (s := s) (kk := kk) (nb := 0) ok q h hf with ⟨_, e, _⟩ | ⟨i, hi, _, hF, A', ew, es, e, _⟩ | ⟨i, hi, l, F', _, hF, e, _⟩
    · rw [e] at ha; cases ha
    · rw [e] at ha
      have ha : a ∈ A'.sd := ha
      rw [es] at ha
      have ha := List.mem_singleton.1 ha
      have := fst_ge (ok.sh _ (List.getElem_mem hi)).1
      exact (out i hi (by omega) (by omega)).elim
    · rw [e] at ha
      rcases allocF_sd (ok.sh _ (List.getElem_mem hi)).1 a ha with z | z
      · cases z
      · exact (out i hi z.1 z.2).elim
  · rcases step3 (s := s) (kk := kk) (nb := 0) ok q h with ⟨_, e, _⟩ | ⟨i, hi, _, _, A', ew, es, e, _⟩ | ⟨i, hi, l, A1, _, hl, hn, hc, ew, es, e, _⟩
    · rw [e] at ha; cases ha
    · rw [e] at ha
      have ha : a ∈ A'.sd := ha
      rw [es] at ha; cases ha
    · rw [e] at ha ⊢
      exact ⟨rfl, by omega, freed i hi l A1 hl hn hc ew es ha⟩
  · rcases step4 (s := s) (kk := kk) (nb := 0) ok q h with ⟨_, e, _⟩ | ⟨i, hi, _, _, A', ew, es, e, _⟩ | ⟨i, hi, l, A1, _, hl, hn, hc, ew, es, e, _⟩
    · rw [e] at ha; cases ha
    · rw [e] at ha
      have ha : a ∈ A'.sd := ha
      rw [es] at ha; cases ha
    · rw [e] at ha ⊢
      exact ⟨rfl, by omega, freed i hi l A1 hl hn hc ew es ha⟩
  · rcases step5 (s := s) (kk := kk) (nb := 0) ok q with ⟨_, e, _⟩ | ⟨i, hi, _, e, _⟩ <;> (rw [e] at ha; cases ha)
  · rcases step6 (s := s) (kk := kk) (nb := 0) q h with ⟨_, e, _⟩ | ⟨i, hi, _, A', ew, es, e, _⟩
    · rw [e] at ha; cases ha
    · rw [e] at ha
      have ha : a ∈ A'.sd := ha
      rw [es] at ha; cases ha
  · have e := (step9 (s := s) (kk := kk) (nb := 0) q).1
    rw [e] at ha; cases ha
/-- a free block overlaps no block held -/
theorem free_apart {i j : Nat} {x : Lb} (ok : s.T.Ok) (h : PInv s.A.ws s.T s.L F) (hi : i < s.T.ps.length) (hj : j ∈ F i) (hx : x ∈ s.L) : ¬ (s.T.ps[i].bk j < x.at_ + x.ws.length ∧ x.at_ < s.T.ps[i].bk j + s.T.ps[i].bw) := by
  obtain ⟨k, hk, l, x1, x2, x3, x4, x5⟩ := h.live x hx
  have hl : x.ws.length = s.T.ps[k].bw := by rw [x5, cutW_len]
  have hjn := (h.pool i hi).lt j hj
  rw [hl, x4]
  rintro ⟨q1, q2⟩
  have key : i = k ∧ j = l := by
    rcases Nat.le_total (s.T.ps[i].bk j) (s.T.ps[k].bk l) with q | q
    · exact same_blk ok hi hk (t := s.T.ps[k].bk l - s.T.ps[i].bk j) (u := 0) hjn x2 (by omega) (by have := (ok.sh _ (List.getElem_mem hk)).1.bw1; omega) (by omega)
    · exact same_blk ok hi hk (t := 0) (u := s.T.ps[i].bk j - s.T.ps[k].bk l) hjn x2 (by have := (ok.sh _ (List.getElem_mem hi)).1.bw1; omega) (by omega) (by omega)
  obtain ⟨e1, e2⟩ := key
  subst e1; subst e2
  exact x3 hj
end
end Go.Proofs.Qxb6500893aDoor
