import Derived.Test.Qxb6500896aGreatDoorK49
namespace Go.Proofs.Qxb6500896aGreatDoor
open Go.Sh Go.RowKit
set_option linter.unusedVariables false
set_option linter.unusedSimpArgs false

theorem n63_nat {n : Nat} (h : n < 9223372036854775808) : N63 ((n : Nat) : Int) := ⟨by omega, by omega⟩
theorem rNum_N (s : RS) : N63 (((rNum s).1 : Nat) : Int) := n63_nat (rNum_v s)
theorem rLegsN_N : ∀ (n : Nat) (s : RS), (∀ l ∈ (rLegsN n s).1, N63 l.a ∧ N63 l.s) ∧ (rLegsN n s).1.length = n
  | 0, s => ⟨fun l hl => (by cases hl), rfl⟩
  | n + 1, s => by
    obtain ⟨h1, h2⟩ := rLegsN_N n (rNum (rNum s).2).2
    constructor
    · intro l hl
      rcases List.mem_cons.1 (show l ∈ (⟨((rNum s).1 : Nat), ((rNum (rNum s).2).1 : Nat)⟩ : Leg) :: (rLegsN n (rNum (rNum s).2).2).1 from hl) with q | q
      · rw [q]; exact ⟨rNum_N _, rNum_N _⟩
      · exact h1 l q
    · show ((⟨((rNum s).1 : Nat), ((rNum (rNum s).2).1 : Nat)⟩ : Leg) :: (rLegsN n (rNum (rNum s).2).2).1).length = _
      rw [List.length_cons, h2]
theorem rLegs_N (m : Nat) (s : RS) : (∀ l ∈ (rLegs m s).1, N63 l.a ∧ N63 l.s) ∧ (rLegs m s).1.length ≤ m := by
  unfold rLegs
  split
  · exact ⟨fun l hl => (by cases hl), by simp⟩
  · obtain ⟨h1, h2⟩ := rLegsN_N (rUp m s).1 (rUp m s).2
    exact ⟨h1, by rw [h2]; exact rUp_v m s⟩
section
theorem rRec_N (s : RS) : RN (rRec s).1 := by
  unfold rRec
  have h9 := rUp_v 9 (rNum s).2
  obtain ⟨h1, h2⟩ := rLegs_N 8 (rNum (rNum (rNum (rNum (rUp 9 (rNum s).2).2).2).2).2).2
  exact ⟨rNum_N _, n63_nat (by omega), rNum_N _, rNum_N _, rNum_N _, rNum_N _, h1, h2⟩
end
theorem rRecsN_N : ∀ (n : Nat) (s : RS), ∀ r ∈ (rRecsN n s).1, RN r
  | 0, s, r, hr => by cases hr
  | n + 1, s, r, hr => by
    rcases List.mem_cons.1 (show r ∈ (rRec s).1 :: (rRecsN n (rRec s).2).1 from hr) with q | q
    · rw [q]; exact rRec_N s
    · exact rRecsN_N n _ r q
theorem rRecs_N (s : RS) : ∀ r ∈ (rRecs s).1, RN r := by
  unfold rRecs
  split
  · intro r hr; cases hr
  · exact rRecsN_N _ _
theorem rIdsN_N : ∀ (n : Nat) (s : RS), (∀ x ∈ (rIdsN n s).1, N63 x) ∧ (rIdsN n s).1.length = n
  | 0, s => ⟨fun l hl => (by cases hl), rfl⟩
  | n + 1, s => by
    obtain ⟨h1, h2⟩ := rIdsN_N n (rNum s).2
    constructor
    · intro x hx
      rcases List.mem_cons.1 (show x ∈ (((rNum s).1 : Nat) : Int) :: (rIdsN n (rNum s).2).1 from hx) with q | q
      · rw [q]; exact rNum_N s
      · exact h1 x q
    · show ((((rNum s).1 : Nat) : Int) :: (rIdsN n (rNum s).2).1).length = _
      rw [List.length_cons, h2]
theorem rIds_N (s : RS) : (∀ x ∈ (rIds s).1, N63 x) ∧ (rIds s).1.length ≤ s.1.length := by
  unfold rIds
  split
  · exact ⟨fun l hl => (by cases hl), by simp⟩
  · obtain ⟨h1, h2⟩ := rIdsN_N (rCount 1 s).1 (rCount 1 s).2
    refine ⟨h1, ?_⟩
    rw [h2]
    unfold rCount
    have := rUp_v (s.1.length / 1) s
    have := Nat.div_le_self s.1.length 1
    omega
theorem rLnsN_N (L : Nat) : ∀ (n : Nat) (s : RS), s.1.length ≤ L → (∀ l ∈ (rLnsN n s).1, ∀ x ∈ l, N63 x) ∧ lens (rLnsN n s).1 ≤ n * L
  | 0, s, _ => ⟨fun l hl => (by cases hl), by simp [rLnsN, lens]⟩
  | n + 1, s, hs => by
    have h0 := rIds_le s
    obtain ⟨g1, g2⟩ := rIds_N s
    obtain ⟨h1, h2⟩ := rLnsN_N L n (rIds s).2 (by omega)
    constructor
    · intro l hl
      rcases List.mem_cons.1 (show l ∈ (rIds s).1 :: (rLnsN n (rIds s).2).1 from hl) with q | q
      · rw [q]; exact g1
      · exact h1 l q
    · show lens ((rIds s).1 :: (rLnsN n (rIds s).2).1) ≤ _
      have e : lens ((rIds s).1 :: (rLnsN n (rIds s).2).1) = (rIds s).1.length + lens (rLnsN n (rIds s).2).1 := by simp [lens]
      rw [e, Nat.add_mul]
      omega
theorem rOct_le (s : RS) : (rOct s).2.1.length ≤ s.1.length := by
  unfold rOct
  split
  · simp
  · rename_i h; rw [h]; simp
section
theorem decI_N {s : RS} (h : s.1.length ≤ 1000000) : ImN (decI s).1 ∧ N63 (decI s).1.rules := by
  have l1 := rNum_le s
  have l2 := rNum_le (rNum s).2
  have l3 := rNum_le (rNum (rNum s).2).2
  have l4 := rRecs_le (rNum (rNum (rNum s).2).2).2
  refine ⟨⟨rNum_N _, rNum_N _, rRecs_N _, ?_, ?_⟩, rNum_N _⟩
  · have h5 := rUp_le ((rRecs (rNum (rNum (rNum s).2).2).2).2.1.length / 1) (rRecs (rNum (rNum (rNum s).2).2).2).2
    exact (rLnsN_N 1000000 _ _ (by unfold rCount; omega)).1
  · have h5 := rUp_le ((rRecs (rNum (rNum (rNum s).2).2).2).2.1.length / 1) (rRecs (rNum (rNum (rNum s).2).2).2).2
    have h6 := rUp_v ((rRecs (rNum (rNum (rNum s).2).2).2).2.1.length / 1) (rRecs (rNum (rNum (rNum s).2).2).2).2
    have h7 := Nat.div_le_self (rRecs (rNum (rNum (rNum s).2).2).2).2.1.length 1
    have h8 := (rLnsN_N 1000000 (rCount 1 (rRecs (rNum (rNum (rNum s).2).2).2).2).1 (rCount 1 (rRecs (rNum (rNum (rNum s).2).2).2).2).2 (by unfold rCount; omega)).2
    refine Nat.le_trans h8 ?_
    have h9 : (rCount 1 (rRecs (rNum (rNum (rNum s).2).2).2).2).1 ≤ 1000000 := by unfold rCount; omega
    have := Nat.mul_le_mul_right 1000000 h9
    omega
theorem decImg_N {bs : List Int} (h : bs.length ≤ 1000000) (h2 : (decImg bs).2 = true) : ImN (decImg bs).1 ∧ N63 (decImg bs).1.rules := by
  have l0 := rOct_le (bs, false)
  have h3 : (rOct (bs, false)).2.1.length ≤ 1000000 := by simp only at l0; omega
  unfold decImg at h2 ⊢
  split
  · split
    · exact decI_N h3
    · rename_i q1 q2; rw [if_pos q1, if_neg q2] at h2; cases h2
  · rename_i q1; rw [if_neg q1] at h2; cases h2
end
end Go.Proofs.Qxb6500896aGreatDoor
