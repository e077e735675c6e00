import Derived.Test.Qxb6500896aGreatDoorN17
namespace Go.Proofs.Qxb6500896aGreatDoor
open Go.Sh Go.RowKit
set_option linter.unusedVariables false
set_option linter.unusedSimpArgs false

/-! ### the numbers of any reply that is read -/
theorem rUp_N (m : Nat) (s : RS) : N63 (((rUp m s).1 : Nat) : Int) := by
  unfold rUp
  split
  · exact ⟨by decide, by decide⟩
  · exact rNum_N s
theorem rIssN_N : ∀ (n : Nat) (s : RS), (∀ x ∈ (rIssN n s).1, N63 x.id ∧ N63 x.slot) ∧ (rIssN n s).1.length = n
  | 0, s => ⟨(fun x hx => by cases hx), rfl⟩
  | n + 1, s => by
    obtain ⟨h1, h2⟩ := rIssN_N n (rNum (rNum s).2).2
    refine ⟨fun x hx => ?_, ?_⟩
    · have hx : x ∈ (⟨((rNum s).1 : Nat), ((rNum (rNum s).2).1 : Nat)⟩ : Iss) :: (rIssN n (rNum (rNum s).2).2).1 := hx
      rcases List.mem_cons.1 hx with q | q
      · rw [q]; exact ⟨rNum_N s, rNum_N _⟩
      · exact h1 x q
    · show (_ :: (rIssN n (rNum (rNum s).2).2).1).length = _
      rw [List.length_cons, h2]
theorem rIss_N (s : RS) : (∀ x ∈ (rIss s).1, N63 x.id ∧ N63 x.slot) ∧ (rIss s).1.length ≤ s.1.length := by
  unfold rIss
  split
  · exact ⟨fun x hx => (by cases hx), by simp⟩
  · obtain ⟨h1, h2⟩ := rIssN_N (rCount 2 s).1 (rCount 2 s).2
    refine ⟨h1, ?_⟩
    rw [h2]
    have : (rCount 2 s).1 ≤ s.1.length / 2 := by unfold rCount; exact rUp_v _ _
    omega
section
variable {b : Int} {s : RS}
theorem decRB_rpn (hl : s.1.length ≤ 1000000) (ho : 0 ≤ b ∧ b ≤ 255) : RpN (decRB b s).1 := by
  have n1 := rNum_N
  have l1 := rNum_le s
  unfold decRB
  by_cases c1 : b = 1 ∨ b = 22
  · rw [if_pos c1]
    have h16 : b ≠ 16 := by omega
    exact { RpN.z with op := ho, id := n1 _, ex := n1 _, one := fun h => absurd h h16 }
  rw [if_neg c1]
  by_cases c2 : b = 6
  · rw [if_pos c2]
    have h16 : b ≠ 16 := by omega
    exact { RpN.z with op := ho, id := n1 _, pos := n1 _, one := fun h => absurd h h16 }
  rw [if_neg c2]
  by_cases c3 : b ∈ dst
  · rw [if_pos c3]
    have h16 : b ≠ 16 := fun e => by rw [e] at c3; revert c3; decide
    exact { RpN.z with op := ho, st := rUp_N 9 s, one := fun h => absurd h h16 }
  rw [if_neg c3]
  by_cases c4 : b = 9
  · rw [if_pos c4]
    have h16 : b ≠ 16 := by omega
    obtain ⟨i1, i2⟩ := rIss_N (rNum s).2
    exact { RpN.z with op := ho, now := n1 _, iss := i1, il := by show (rIss (rNum s).2).1.length ≤ _; omega, exd := n1 _, ns := n1 _, lp := n1 _, one := fun h => absurd h h16 }
  rw [if_neg c4]
  by_cases c5 : b = 16
  · rw [if_pos c5]
    exact { RpN.z with op := ho, recs := fun r hr => by rw [List.mem_singleton.1 hr]; exact rRec_N s, rl := by show 1 ≤ _; decide, one := fun _ _ => by show [(rRec s).1] ≠ []; simp }
  rw [if_neg c5]
  by_cases c6 : b = 17
  · rw [if_pos c6]
    have := rRecs_n (rNum s).2
    exact { RpN.z with op := ho, nx := n1 _, recs := rRecs_N _, rl := by show (rRecs (rNum s).2).1.length ≤ _; omega, one := fun h => absurd h c5 }
  rw [if_neg c6]
  by_cases c7 : b = 18
  · rw [if_pos c7]
    exact { RpN.z with op := ho, oc := n1 _, e0 := n1 _, e1 := n1 _, e2 := n1 _, fr := n1 _, one := fun h => absurd h c5 }
  rw [if_neg c7]
  by_cases c8 : b = 19
  · rw [if_pos c8]
    obtain ⟨i1, i2⟩ := rIds_N s
    exact { RpN.z with op := ho, wt := i1, wl := by show (rIds s).1.length ≤ _; omega, one := fun h => absurd h c5 }
  rw [if_neg c8]
  by_cases c9 : b = 20
  · rw [if_pos c9]
    exact { RpN.z with op := ho, now := n1 _, la := n1 _, gr := n1 _, one := fun h => absurd h c5 }
  rw [if_neg c9]
  by_cases c10 : b = 21
  · rw [if_pos c10]
    exact { RpN.z with op := ho, sl := n1 _, one := fun h => absurd h c5 }
  rw [if_neg c10]
  by_cases c11 : b = 23
  · rw [if_pos c11]
    refine { RpN.z with op := ho, cnt := fun x hx => ?_, one := fun h => absurd h c5 }
    have hx : x ∈ (0 : Int) :: (rIdsN 9 s).1 := hx
    rcases List.mem_cons.1 hx with q | q
    · rw [q]; exact z63
    · exact (rIdsN_N 9 s).1 x q
  rw [if_neg c11]
  by_cases c12 : b = 24
  · rw [if_pos c12]
    exact { RpN.z with op := ho, at' := n1 _, pos := n1 _, ah := n1 _, one := fun h => absurd h c5 }
  rw [if_neg c12]
  exact { RpN.z with op := ho, one := fun h => absurd h c5 }
theorem decR_rpn {bs : List Int} (hB : By bs) (hl : bs.length ≤ 1000000) : RpN (decR bs).1 := by
  obtain ⟨⟨o0, o1⟩, oB, oL⟩ := rOct_b (s := (bs, false)) hB
  have oL : (rOct (bs, false)).2.1.length ≤ bs.length := oL
  obtain ⟨⟨b0, b1⟩, bB, bL⟩ := rOct_b (s := (rOct (bs, false)).2) oB
  unfold decR
  split
  · exact RpN.z
  · split
    · unfold decRE
      split
      · exact decRB_rpn (by omega) ⟨b0, b1⟩
      · exact RpN.z
    · rename_i h23 h0
      unfold decRE
      split
      · exact { RpN.z with code := ⟨o0, o1⟩, one := fun h => absurd h (show ¬ (0 : Int) = 16 by decide) }
      · exact RpN.z
theorem nrm_rpn {p : Rp} (h : RpN p) : RpN (nrm p) := by
  unfold nrm
  split
  · unfold nrmB
    by_cases c1 : p.op = 1 ∨ p.op = 22
    · rw [if_pos c1]
      have h16 : p.op ≠ 16 := by omega
      exact { RpN.z with op := h.op, id := h.id, ex := h.ex, one := fun q => absurd q h16 }
    rw [if_neg c1]
    by_cases c2 : p.op = 6
    · rw [if_pos c2]
      have h16 : p.op ≠ 16 := by omega
      exact { RpN.z with op := h.op, id := h.id, pos := h.pos, one := fun q => absurd q h16 }
    rw [if_neg c2]
    by_cases c3 : p.op ∈ dst
    · rw [if_pos c3]
      have h16 : p.op ≠ 16 := fun e => by rw [e] at c3; revert c3; decide
      exact { RpN.z with op := h.op, st := h.st, one := fun q => absurd q h16 }
    rw [if_neg c3]
    by_cases c4 : p.op = 9
    · rw [if_pos c4]
      have h16 : p.op ≠ 16 := by omega
      exact { RpN.z with op := h.op, now := h.now, iss := h.iss, il := h.il, exd := h.exd, ns := h.ns, lp := h.lp, one := fun q => absurd q h16 }
    rw [if_neg c4]
    by_cases c5 : p.op = 16
    · rw [if_pos c5]
      refine { RpN.z with op := h.op, recs := fun r hr => ?_, rl := by show 1 ≤ _; decide, one := fun _ _ => by show [p.recs.head?.getD zRec] ≠ []; simp }
      rw [List.mem_singleton.1 hr]
      have hne := h.one c5 (by assumption)
      obtain ⟨r, l, e⟩ := List.exists_cons_of_ne_nil hne
      rw [e]
      exact h.recs r (by rw [e]; exact List.mem_cons_self)
    rw [if_neg c5]
    by_cases c6 : p.op = 17
    · rw [if_pos c6]
      exact { RpN.z with op := h.op, nx := h.nx, recs := h.recs, rl := h.rl, one := fun q => absurd q c5 }
    rw [if_neg c6]
    by_cases c7 : p.op = 18
    · rw [if_pos c7]
      exact { RpN.z with op := h.op, oc := h.oc, e0 := h.e0, e1 := h.e1, e2 := h.e2, fr := h.fr, one := fun q => absurd q c5 }
    rw [if_neg c7]
    by_cases c8 : p.op = 19
    · rw [if_pos c8]
      exact { RpN.z with op := h.op, wt := h.wt, wl := h.wl, one := fun q => absurd q c5 }
    rw [if_neg c8]
    by_cases c9 : p.op = 20
    · rw [if_pos c9]
      exact { RpN.z with op := h.op, now := h.now, la := h.la, gr := h.gr, one := fun q => absurd q c5 }
    rw [if_neg c9]
    by_cases c10 : p.op = 21
    · rw [if_pos c10]
      exact { RpN.z with op := h.op, sl := h.sl, one := fun q => absurd q c5 }
    rw [if_neg c10]
    by_cases c11 : p.op = 23
    · rw [if_pos c11]
      refine { RpN.z with op := h.op, cnt := fun x hx => ?_, one := fun q => absurd q c5 }
      have hx : x ∈ (0 : Int) :: p.cnt.drop 1 := hx
      rcases List.mem_cons.1 hx with q | q
      · rw [q]; exact z63
      · exact h.cnt x (List.mem_of_mem_drop q)
    rw [if_neg c11]
    by_cases c12 : p.op = 24
    · rw [if_pos c12]
      exact { RpN.z with op := h.op, at' := h.at', pos := h.pos, ah := h.ah, one := fun q => absurd q c5 }
    rw [if_neg c12]
    exact { RpN.z with op := h.op, one := fun q => absurd q c5 }
  · exact { RpN.z with code := h.code, one := fun q => absurd q (show ¬ (0 : Int) = 16 by decide) }
end
end Go.Proofs.Qxb6500896aGreatDoor
